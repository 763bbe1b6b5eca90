import Derived.Test.YtkdndabpaajkaaaGreatDoorAx0
namespace Go.Proofs.YtkdndabpaajkaaaGreatDoor.A
open Go.RowKit Go.Proofs.YtkdndabpaajkaaaGreatDoorW.PrintWords Go.Proofs.YtkdndabpaajkaaaGreatDoorW.PrintLast Go.Proofs.YtkdndabpaajkaaaGreatDoorW.PrintMore
attribute [local go_sem] max2_int min2_int max_two min_two max_three min_three max_four min_four   -- for this text's walks alone
set_option linter.unusedVariables false
set_option linter.unusedSimpArgs false
set_option maxHeartbeats 8000000
set_option maxRecDepth 100000
def L04_FewAttrs.l0 : Nat → List (S76) → Int → Option (Bool)
 | 0, _, _ => none
 | k + 1, x0, x3 => if x3 < (x0.length : Int) then (if x3 > 40 then (some false) else (if 0 ≤ x3 then (if (((rd_T76 x0 x3).f0).size : Int) > 200 then (some false) else (if (((rd_T76 x0 x3).f1.f2).size : Int) > 500 then (some false) else (L04_FewAttrs.l0 k x0 (wrap64 (x3 + 1))))) else (none))) else (some true)
def L04_FewAttrs.f (k : Nat) (l0 : List (S76)) : Option (Bool) := L04_FewAttrs.l0 k l0 0
theorem L04_FewAttrs.mono_l : ∀ k, (∀ y0 y1, LeO (L04_FewAttrs.l0 k y0 y1) (L04_FewAttrs.l0 (k + 1) y0 y1))
 | 0 => fun _ _ r h => by simp [L04_FewAttrs.l0] at h
 | k + 1 => by
  have ih0 := L04_FewAttrs.mono_l k
  ·intro y0 y1
   unfold L04_FewAttrs.l0
   repeat' (with_reducible first | exact ih0 _ _ | exact LeO.refl _ | exact LeO.none _ | refine LeO.ite ?_ ?_ | refine LeO.bind ?_ (fun _ => ?_))
theorem L04_FewAttrs.mono : ∀ a0 k, LeO (L04_FewAttrs.f k a0) (L04_FewAttrs.f (k + 1) a0) := by
 intro a0 k; have ih0 := L04_FewAttrs.mono_l k; unfold L04_FewAttrs.f
 repeat' (with_reducible first | exact ih0 _ _ | exact LeO.refl _ | exact LeO.none _ | refine LeO.ite ?_ ?_ | refine LeO.bind ?_ (fun _ => ?_))
theorem L04_FewAttrs.calls (k : Nat) (A0 : Option Addr) (c0 : Nat) (l0 : List (S76)) (r : Bool) (w : World) (hr0 : Kd.C k76 w A0 l0.length l0) (hc0 : l0.length ≤ c0) (h : L04_FewAttrs.f k l0 = some r) :
  Calls Tryz.prog 33 #[.slice A0 l0.length c0] w fun e w' => e = .returned (.bool r) ∧ Drawn0 w w' := by
 have HR0 := aM hr0; have HC0 := aM hc0; clear hr0 hc0; unfold L04_FewAttrs.f at h; have H := h; clear h; have H' := aM H; clear H; go_enter Tryz.func33, Tryz.ntmps33; go_wp2
 go_loopg [3] k (fun kq v3 w' => ∃ (x3_1 : Int), v3 = .int .i64 x3_1 ∧ Aside0 (L04_FewAttrs.l0 kq l0 x3_1 = some r) ∧ Aside0 (kq ≤ k) ∧ Drawn0 w w')
 case atStart => exact ⟨(0), (endS), H', ⟨Nat.le_refl _⟩, drA⟩
 case round =>
  clear H'; (try clear p2); (try clear c3); (try clear c33); obtain ⟨x3_1, rfl, HA, HK1, ⟨m1, rfl⟩⟩ := hrel
  cases gk with
  | zero => exact absurd HA.out (by simp [L04_FewAttrs.l0])
  | succ k1 =>
   have H := HA.out; clear HA; simp only [L04_FewAttrs.l0] at H; revert H; refine itR ?L7p ?L7n
   case' L7p =>
    intro c101 H; have c101b0 := dT c101; clear c101; revert H; refine itR ?L8p ?L8n
    case' L8p =>
     intro c102 H; have c102b0 := gtT c102; clear c102; obtain rfl := sI H; have M1 := trivial
    case' L8n =>
     intro c102 H; have c102b0 := gtF c102; clear c102; replace H := itN H; obtain ⟨c103, H⟩ := H; have c103b0 := dT c103; clear c103; revert H; refine itR ?L9p ?L9n
     case' L9p =>
      intro c104 H; have c104b0 := gtT c104; have c104b1 : decide (200 < ((rd_T76 l0 x3_1).f0).size) = true := dT (by omega); clear c104; obtain rfl := sI H; have M2 := trivial; have M3 := trivial
     case' L9n =>
      intro c104 H; have c104b0 := gtF c104; have c104b1 : decide (200 < ((rd_T76 l0 x3_1).f0).size) = false := dF (by omega); clear c104; revert H; refine itR ?L10p ?L10n
      case' L10p =>
       intro c105 H; have c105b0 := gtT c105; have c105b1 : decide (500 < ((rd_T76 l0 x3_1).f1.f2).size) = true := dT (by omega); clear c105; obtain rfl := sI H; have M2 := trivial; have M4 := trivial; have M5 := trivial
      case' L10n =>
       intro c105 H; have c105b0 := gtF c105; have c105b1 : decide (500 < ((rd_T76 l0 x3_1).f1.f2).size) = false := dF (by omega); clear c105; have H' := aM H; clear H; have M2 := trivial; have M4 := trivial; have M6 := trivial
   case' L7n =>
    intro c101 H; have c101b0 := dF c101; clear c101; obtain rfl := sI H; have M1 := trivial
   all_goals
    case _ =>
     first
      | clear M1
        go_wp2; go_ret; exact ⟨endS, drA⟩
      | clear M2
        have p101 : 0 ≤ (x3_1 : Int) := odA; have q101 : x3_1 < (l0.length : Int) := odA; obtain ⟨ad101, e101, hx101_0, hx101_1, hx101_2, hx101_3⟩ := at_T76 HR0.out x3_1 p101 q101
        cases e101
        replace p101 := eq_true p101; replace q101 := eq_true q101
        first
         | clear M3
           go_wp2; go_ret; exact ⟨endS, drA⟩
         | clear M4
           have p102 : 0 ≤ (x3_1 : Int) := odA; have q102 : x3_1 < (l0.length : Int) := odA; obtain ⟨ad102, e102, hx102_0, hx102_1, hx102_2, hx102_3⟩ := at_T76 HR0.out x3_1 p102 q102; obtain rfl : ad101 = ad102 := (by injection e102); replace p102 := eq_true p102; replace q102 := eq_true q102; go_wp2
           first
            | clear M5
              go_ret; exact ⟨endS, drA⟩
            | clear M6
              go_roundg k1
              case measure => have := HK1.out; omega
              case rel => exact ⟨(wrap64 (x3_1 + 1)), (endS), H', ⟨by have := HK1.out; omega⟩, drA⟩
def L06_Few.f (k : Nat) (a0_0 : Int) (a0_1 : Int) (a0_2 : Int) (a0_3 : ByteArray) (l0_4 : List (S76)) : Option (Bool) := if (a0_3.size : Int) ≤ 200 then ((L04_FewAttrs.f k l0_4).bind fun t104 => (some t104)) else (some false)
theorem L06_Few.mono : ∀ a0 a1 a2 a3 a4 k, LeO (L06_Few.f k a0 a1 a2 a3 a4) (L06_Few.f (k + 1) a0 a1 a2 a3 a4) := by
 intro a0 a1 a2 a3 a4 k; unfold L06_Few.f
 repeat' (with_reducible first | exact L04_FewAttrs.mono _ _ | exact LeO.refl _ | exact LeO.none _ | refine LeO.ite ?_ ?_ | refine LeO.bind ?_ (fun _ => ?_))
theorem L06_Few.calls (k : Nat) (a0_0 : Int) (a0_1 : Int) (a0_2 : Int) (a0_3 : ByteArray) (A0_4 : Option Addr) (c0_4 : Nat) (l0_4 : List (S76)) (r : Bool) (w : World) (hr0_4 : Kd.C k76 w A0_4 l0_4.length l0_4) (hc0_4 : l0_4.length ≤ c0_4) (h : L06_Few.f k a0_0 a0_1 a0_2 a0_3 l0_4 = some r) :
  Calls Tryz.prog 43 #[.agg #[.int .i64 a0_0, .int .i64 a0_1, .int .i64 a0_2, .string a0_3, .slice A0_4 l0_4.length c0_4]] w fun e w' => e = .returned (.bool r) ∧ Below w.heap.size w w' := by
 have hu66 := Tryz.underlying66; have HR0_4 := aM hr0_4; have HC0_4 := aM hc0_4; clear hr0_4 hc0_4; have HB := aM (Below.refl w.heap.size w); unfold L06_Few.f at h; have H := h; clear h; revert H; refine itR ?L3p ?L3n
 case' L3p =>
  intro c2 H; have c2b0 := dT c2; have c2b1 : decide (a0_3.size ≤ 200) = true := dT (by omega); clear c2; replace H := bnA H; obtain ⟨t104, A3, H⟩ := H; obtain rfl := sI H; have M1 := trivial
 case' L3n =>
  intro c2 H; have c2b0 := dF c2; have c2b1 : decide (a0_3.size ≤ 200) = false := dF (by omega); clear c2; obtain rfl := sI H; have M2 := trivial
 all_goals
  case _ =>
   go_enter Tryz.func43, Tryz.ntmps43; go_wp2_with (first | ((with_reducible refine gate_dst (N := 1) rfl ?_); refine boxB 1 #[.int .i64 a0_0, .int .i64 a0_1, .int .i64 a0_2, .string a0_3, .slice A0_4 l0_4.length c0_4] 66 HB ?_; clear HB; intro gb103 w101 BK103 GW103 GE103 HB; obtain ⟨hcz102_0, hcz102_1, hcz102_2, hcz102_3, hcz102_4⟩ := cel5 BK103.out; obtain ⟨hfz102_0, hfz102_1, hfz102_2, hfz102_3, hfz102_4⟩ := frz5 BK103.out; apply stopA; (case other => exact trivial)))
   case _ =>
    first
     | clear M1
       (try go_wp2_with (first | (go_at_call 33; (with_reducible refine (L04_FewAttrs.calls _ _ _ _ _ _ ?side1 ?side2 A3.out).mono ?_); (case side1 => repeat (first | exact (Kd.C_below HR0_4.out HB.out) | (with_reducible refine Kd.C_alloc ?_ _) | (with_reducible refine Kd.C_drewN ?_ _) | (with_reducible refine Kd.C_drew ?_))); (case side2 => exact HC0_4.out); rintro e w' ⟨rfl, ⟨nd, rfl⟩⟩))); go_ret; exact ⟨endA, bwA⟩
     | clear M2
       (try go_wp2_with (fail))
       go_ret; exact ⟨endA, bwA⟩
def name_between.f (a0 : Int) (a1 : Int) (a2 : Int) : Option (Bool) := if a0 ≥ a1 then (some (decide (a0 ≤ a2))) else (some false)
theorem name_between.calls (a0 : Int) (a1 : Int) (a2 : Int) (r : Bool) (w : World) (h : name_between.f a0 a1 a2 = some r) :
  Calls Tryz.prog 239 #[.int .i32 a0, .int .i32 a1, .int .i32 a2] w fun e w' => e = .returned (.bool r) ∧ Drawn0 w w' := by
 unfold name_between.f at h; have H := h; clear h; revert H; refine itR ?L1p ?L1n
 case' L1p =>
  intro c4 H; have c4b0 := geT c4; clear c4; obtain rfl := sI H
 case' L1n =>
  intro c4 H; have c4b0 := geF c4; clear c4; obtain rfl := sI H
 all_goals
  case _ =>
   go_enter Tryz.func239, Tryz.ntmps239; go_wp2; go_ret; exact ⟨endS, drA⟩
def name_Letter.j0 : Nat → Int → Bool → Option (Bool)
 | 0, _, _ => none
 | k + 1, x0, x3 => if x3 = true then (some true) else ((name_between.f x0 192 591).bind fun t107 => (if t107 = true then (if x0 = 215 then (some false) else (some (x0 != 247))) else ((name_between.f x0 913 937).bind fun t108 => (if t108 = true then (some (x0 != 930)) else ((name_between.f x0 945 969).bind fun t109 => (if t109 = true then (some true) else ((name_between.f x0 1040 1103).bind fun t110 => (if t110 = true then (some true) else ((name_between.f x0 19968 40959).bind fun t111 => (some t111))))))))))
def name_Letter.f (k : Nat) (a0 : Int) : Option (Bool) := (name_between.f a0 65 90).bind fun t105 => (if t105 = true then (name_Letter.j0 k a0 t105) else ((name_between.f a0 97 122).bind fun t106 => (name_Letter.j0 k a0 t106)))
theorem name_Letter.mono_l : ∀ k, (∀ y0 y1, LeO (name_Letter.j0 k y0 y1) (name_Letter.j0 (k + 1) y0 y1))
 | 0 => fun _ _ r h => by simp [name_Letter.j0] at h
 | k + 1 => by
  have ih0 := name_Letter.mono_l k
  ·intro y0 y1
   unfold name_Letter.j0
   repeat' (with_reducible first | exact ih0 _ _ | exact LeO.refl _ | exact LeO.none _ | refine LeO.ite ?_ ?_ | refine LeO.bind ?_ (fun _ => ?_))
theorem name_Letter.mono : ∀ a0 k, LeO (name_Letter.f k a0) (name_Letter.f (k + 1) a0) := by
 intro a0 k; have ih0 := name_Letter.mono_l k; unfold name_Letter.f
 repeat' (with_reducible first | exact ih0 _ _ | exact LeO.refl _ | exact LeO.none _ | refine LeO.ite ?_ ?_ | refine LeO.bind ?_ (fun _ => ?_))
theorem name_Letter.calls (k : Nat) (a0 : Int) (r : Bool) (w : World) (h : name_Letter.f k a0 = some r) :
  Calls Tryz.prog 197 #[.int .i32 a0] w fun e w' => e = .returned (.bool r) ∧ Drawn0 w w' := by
 unfold name_Letter.f at h; have H := h; clear h; replace H := bnA H; obtain ⟨t105, A2, H⟩ := H; have HC101 := aM H; clear H; go_enter Tryz.func197, Tryz.ntmps197
 go_upto_if 3 with (first | ((with_reducible refine gate_callee (f := 239) rfl ?_); refine goesA (some 5) Tryz.func239 #[.int .i32 a0, .int .i32 65, .int .i32 90] ?_; (with_reducible refine (name_between.calls _ _ _ _ _ A2.out).mono ?_); rintro e w' ⟨rfl, ⟨nd, rfl⟩⟩; refine ⟨_, rfl, ?_⟩))
 (try simp only [Act.put, List.setIfInBounds_toArray, List.set_cons_zero, List.set_cons_succ])
 go_cut [3] (fun v3 wc => ∃ (kq : Nat) (x3_100 : Bool), v3 = .bool x3_100 ∧ Aside0 (name_Letter.j0 kq a0 x3_100 = some r) ∧ Aside0 (kq ≤ k) ∧ Drawn0 w wc)
 case first =>
  have H := HC101.out; clear HC101; revert H; refine itR ?L1p ?L1n
  case' L1p =>
   intro c102 H; subst c102; have H' := aM H; clear H; go_wp2
   go_meet
   case rel => exact ⟨_, (true), (endS), H', ⟨by first | omega | exact Nat.le_refl _⟩, drA⟩
  case' L1n =>
   intro c102 H; replace c102 := Bool.eq_false_iff.mpr c102; subst c102; replace H := bnA H; obtain ⟨t106, A103, H⟩ := H; have H' := aM H; clear H; try go_wp2_with (first | ((with_reducible refine gate_callee (f := 239) rfl ?_); refine goesA (some 7) Tryz.func239 #[.int .i32 a0, .int .i32 97, .int .i32 122] ?_; (with_reducible refine (name_between.calls _ _ _ _ _ A103.out).mono ?_); rintro e w' ⟨rfl, ⟨nd, rfl⟩⟩; refine ⟨_, rfl, ?_⟩))
   go_meet
   case rel => exact ⟨_, (t106), (endS), H', ⟨by first | omega | exact Nat.le_refl _⟩, drA⟩
 case rest =>
  clear HC101; (try clear c1); (try clear c2); (try clear p2); (try clear c10); (try clear c19); (try clear c23); obtain ⟨kq, x3_100, rfl, HA, HJ100, ⟨mc100, rfl⟩⟩ := hcut
  cases kq with
  | zero => exact absurd HA.out (by simp [name_Letter.j0])
  | succ kj100 =>
   have H := HA.out; clear HA; simp only [name_Letter.j0] at H; revert H; refine itR ?L10p ?L10n
   case' L10p =>
    intro c102 H; subst c102; obtain rfl := sI H; go_wp2; go_ret; exact ⟨endS, drA⟩
   case' L10n =>
    intro c102 H; replace c102 := Bool.eq_false_iff.mpr c102; subst c102; replace H := bnA H; obtain ⟨t107, A103, H⟩ := H; revert H; refine itR ?L11p ?L11n
    case' L11p =>
     intro c104 H; subst c104; revert H; refine itQ ?L12p ?L12n
     case' L12p =>
      rintro ⟨c105b0, c105b1⟩ H; obtain rfl := sI H; have M2 := trivial
     case' L12n =>
      rintro ⟨c105b0, c105b1⟩ c105 H; obtain rfl := sI H; have M2 := trivial
    case' L11n =>
     intro c104 H; replace c104 := Bool.eq_false_iff.mpr c104; subst c104; replace H := bnA H; obtain ⟨t108, A105, H⟩ := H; revert H; refine itR ?L13p ?L13n
     case' L13p =>
      intro c106 H; subst c106; obtain rfl := sI H; have M3 := trivial; have M4 := trivial
     case' L13n =>
      intro c106 H; replace c106 := Bool.eq_false_iff.mpr c106; subst c106; replace H := bnA H; obtain ⟨t109, A107, H⟩ := H; revert H; refine itR ?L14p ?L14n
      case' L14p =>
       intro c108 H; subst c108; obtain rfl := sI H; have M3 := trivial; have M5 := trivial; have M6 := trivial
      case' L14n =>
       intro c108 H; replace c108 := Bool.eq_false_iff.mpr c108; subst c108; replace H := bnA H; obtain ⟨t110, A109, H⟩ := H; revert H; refine itR ?L15p ?L15n
       case' L15p =>
        intro c110 H; subst c110; obtain rfl := sI H; have M3 := trivial; have M5 := trivial; have M7 := trivial; have M8 := trivial
       case' L15n =>
        intro c110 H; replace c110 := Bool.eq_false_iff.mpr c110; subst c110; replace H := bnA H; obtain ⟨t111, A111, H⟩ := H; obtain rfl := sI H; have M3 := trivial; have M5 := trivial; have M7 := trivial; have M9 := trivial
   all_goals
    case _ =>
     go_wp2_with (first | ((with_reducible refine gate_callee (f := 239) rfl ?_); refine goesA (some 10) Tryz.func239 #[.int .i32 a0, .int .i32 192, .int .i32 591] ?_; (with_reducible refine (name_between.calls _ _ _ _ _ A103.out).mono ?_); rintro e w' ⟨rfl, ⟨nd, rfl⟩⟩; refine ⟨_, rfl, ?_⟩; apply stopA; (case other => exact trivial)))
     case _ =>
      first
       | clear M2
         (try go_wp2_with (fail))
         go_ret; exact ⟨endS, drA⟩
       | clear M3
         go_wp2_with (first | ((with_reducible refine gate_callee (f := 239) rfl ?_); refine goesA (some 19) Tryz.func239 #[.int .i32 a0, .int .i32 913, .int .i32 937] ?_; (with_reducible refine (name_between.calls _ _ _ _ _ A105.out).mono ?_); rintro e w' ⟨rfl, ⟨nd, rfl⟩⟩; refine ⟨_, rfl, ?_⟩; apply stopA; (case other => exact trivial)))
         case _ =>
          first
           | clear M4
             (try go_wp2_with (fail))
             go_ret; exact ⟨endS, drA⟩
           | clear M5
             go_wp2_with (first | ((with_reducible refine gate_callee (f := 239) rfl ?_); refine goesA (some 23) Tryz.func239 #[.int .i32 a0, .int .i32 945, .int .i32 969] ?_; (with_reducible refine (name_between.calls _ _ _ _ _ A107.out).mono ?_); rintro e w' ⟨rfl, ⟨nd, rfl⟩⟩; refine ⟨_, rfl, ?_⟩; apply stopA; (case other => exact trivial)))
             case _ =>
              first
               | clear M6
                 (try go_wp2_with (fail))
                 go_ret; exact ⟨endS, drA⟩
               | clear M7
                 go_wp2_with (first | (go_at_call 239; (with_reducible refine (name_between.calls _ _ _ _ _ A109.out).mono ?_); rintro e w' ⟨rfl, ⟨nd, rfl⟩⟩; apply stopA; (case other => exact trivial)))
                 case _ =>
                  first
                   | clear M8
                     (try go_wp2_with (fail))
                     go_ret; exact ⟨endS, drA⟩
                   | clear M9
                     (try go_wp2_with (first | (go_at_call 239; (with_reducible refine (name_between.calls _ _ _ _ _ A111.out).mono ?_); rintro e w' ⟨rfl, ⟨nd, rfl⟩⟩))); go_ret; exact ⟨endS, drA⟩
def name_digit.f (a0 : Int) : Option (Bool) := (name_between.f a0 48 57).bind fun t112 => (some t112)
theorem name_digit.calls (a0 : Int) (r : Bool) (w : World) (h : name_digit.f a0 = some r) :
  Calls Tryz.prog 198 #[.int .i32 a0] w fun e w' => e = .returned (.bool r) ∧ Drawn0 w w' := by
 unfold name_digit.f at h; have H := h; clear h; replace H := Option.bind_eq_some_iff.mp H; obtain ⟨t112, A20, H⟩ := H; replace H : (some t112) = some r := H; have A2 := aM A20; clear A20; obtain rfl := sI H; go_enter Tryz.func198, Tryz.ntmps198; go_wp2_with (first | ((with_reducible refine gate_callee (f := 239) rfl ?_); refine goesA (some 4) Tryz.func239 #[.int .i32 a0, .int .i32 48, .int .i32 57] ?_; (with_reducible refine (name_between.calls a0 48 57 t112 _ A2.out).mono ?_); rintro e w' ⟨rfl, ⟨nd, rfl⟩⟩; refine ⟨_, rfl, ?_⟩)); go_ret; exact ⟨endS, drA⟩
def name_formed.st (k : Nat) (first : Bool) (c : Int) : Option Int :=
 if c = 46 then (if first = true then some 0 else some 2)
 else (name_Letter.f k c).bind fun t => if t = true then some 1 else if c = 95 then some 1 else if first = true then some 0 else (name_digit.f c).bind fun d => if d = true then some 1 else if c = 45 then some 1 else some 0
def name_formed.go (k : Nat) (s : ByteArray) : Nat → Nat → Bool → Option Bool
 | 0, _, _ => none
 | f + 1, pos, first => if pos < s.size then (name_formed.st k first ((Utf8.decode s pos).1 : Int)).bind fun t => if t = 0 then some false else name_formed.go k s f (pos + (Utf8.decode s pos).2) (decide (t = 2)) else some (!first)
def name_formed.f (k : Nat) (a0 : ByteArray) : Option Bool := if a0.size ≤ 1099511627776 then (if a0.toList = [] then some false else (if Lib.validD a0.data.toList = true then name_formed.go k a0 (a0.size + 1) 0 true else some false)) else none
theorem name_formed.mono_st (k : Nat) (first : Bool) (c : Int) : LeO (name_formed.st k first c) (name_formed.st (k + 1) first c) := by
 unfold name_formed.st
 repeat' first
  | (with_reducible exact LeO.refl _)
  | (with_reducible exact name_Letter.mono _ _)
  | (with_reducible refine LeO.ite ?_ ?_)
  | (with_reducible refine LeO.bind ?_ (fun _ => ?_))
theorem name_formed.mono_go (k : Nat) (s : ByteArray) : ∀ f pos first, LeO (name_formed.go k s f pos first) (name_formed.go (k + 1) s f pos first)
 | 0, _, _ => fun r h => by simp [name_formed.go] at h
 | f + 1, pos, first => by
  unfold name_formed.go
  repeat' first
   | (with_reducible exact LeO.refl _)
   | (with_reducible exact name_formed.mono_st _ _ _)
   | exact name_formed.mono_go k s f _ _
   | (with_reducible refine LeO.ite ?_ ?_)
   | (with_reducible refine LeO.bind ?_ (fun _ => ?_))
theorem name_formed.mono : ∀ a0 k, LeO (name_formed.f k a0) (name_formed.f (k + 1) a0) := by
 intro a0 k; unfold name_formed.f
 repeat' (with_reducible first | exact name_formed.mono_go k a0 _ _ _ | exact LeO.refl _ | exact LeO.none _ | refine LeO.ite ?_ ?_ | refine LeO.bind ?_ (fun _ => ?_))
theorem name_formed.calls (k : Nat) (a0 : ByteArray) (r : Bool) (w : World) (hT : Tabs w) (h : name_formed.f k a0 = some r) :
  Calls Tryz.prog 137 #[.string a0] w fun e w' => e = .returned (.bool r) ∧ Below w.heap.size w w' := by
 unfold name_formed.f at h
 split at h
 ·rename_i hs
  have cV := Tryz.utf8_ValidString a0 w (by omega) hT.u8; clear hT
  by_cases h0 : a0.toList = []
  ·rw [if_pos h0] at h
   obtain rfl := sI h; have hb0 : a0.toList.isEmpty = true := by rw [h0]; rfl
   have hb1 : (a0.toList == ([] : List UInt8)) = true := by rw [h0]; rfl
   go_enter Tryz.func137, Tryz.ntmps137; go_wp2_with fail; go_ret; exact ⟨rfl, Below.refl _ _⟩
  rw [if_neg h0] at h
  have hb0 : a0.toList.isEmpty = false := by cases hq : a0.toList with
   | nil => exact absurd hq h0
   | cons _ _ => rfl
  have hb1 : (a0.toList == ([] : List UInt8)) = false := by rw [beq_eq_false_iff_ne]; exact h0
  by_cases hv : Lib.validD a0.data.toList = true
  ·rw [if_pos hv] at h
   have H := Lib.hid h; rw [hv] at cV; clear h hv; go_enter Tryz.func137, Tryz.ntmps137; go_wp2_with (go_at_call 156; refine cV.mono ?_; rintro e w1 ⟨rfl, hb1⟩)
   go_loopw [3] (fun v3 wr => ∃ (pos fuel : Nat) (first : Bool), v3 = .bool first ∧ wr.heap[w1.heap.size]? = some (.stringIter a0 pos) ∧ Below w.heap.size w wr ∧ Hid (name_formed.go k a0 fuel pos first = some r)) (fun _ wr => a0.size - wr.iterPos w1.heap.size)
   case atStart => exact ⟨0, _, true, rfl, World.iter_heap w1 a0 0, hb1.alloc hb1.size _, H⟩
   case round =>
    obtain ⟨pos, fuel, first, rfl, hit, hbw, HG⟩ := hrel; clear H; have hsz : w1.heap.size < wr.heap.size := (Array.getElem?_eq_some_iff.1 hit).1; have hsw : w.heap.size ≤ w1.heap.size := hb1.size
    cases fuel with
    | zero => exact absurd HG.out (by simp [name_formed.go])
    | succ f =>
     have hgo := HG.out; clear HG; unfold name_formed.go at hgo
     by_cases hp : pos < a0.size
     ·rw [if_pos hp] at hgo
      have hnx : ∀ ty, (Instr.next (.pointer (some ⟨w1.heap.size, 0, none⟩)) true ty).run Tryz.prog wr = _ := fun ty => Lib.run_next_any_at wr w1.heap.size a0 pos ty hit hp
      have Hwd := Lib.hid (Lib.width_pos a0 pos); have Hd1 := Lib.hid (decode_le a0 pos); have hit2 := Lib.iterAt_heap wr w1.heap.size a0 pos (pos + (Utf8.decode a0 pos).2) hit; have hbw2 := Lib.below_iterAt hbw (k := w1.heap.size) hsw a0 (pos + (Utf8.decode a0 pos).2); obtain ⟨t, hst, hgo⟩ := Option.bind_eq_some_iff.1 hgo; unfold name_formed.st at hst; have hL := fun t h W => name_Letter.calls k ((Utf8.decode a0 pos).1 : Int) t W h
      have hD := fun t h W => name_digit.calls ((Utf8.decode a0 pos).1 : Int) t W h
      generalize hc : (((Utf8.decode a0 pos).1 : Nat) : Int) = c at hst hL hD hnx
      have Hc := Lib.hid hc; clear hc; have e00 : t = 0 → r = false := fun e => by rw [if_pos e] at hgo; exact (sI hgo).symm
      have e10 : t ≠ 0 → name_formed.go k a0 f (pos + (Utf8.decode a0 pos).2) (decide (t = 2)) = some r := fun e => by rw [if_neg e] at hgo; exact hgo
      have E0 := Lib.hid e00; have E1 := Lib.hid e10; clear hgo e00 e10
      by_cases c46 : c = 46
      ·rw [if_pos c46] at hst
       have k46 : (c == 46) = true := by rw [c46]; rfl
       clear c46
       cases first with
       | true =>
        rw [if_pos rfl] at hst; obtain rfl := sI hst; obtain rfl := E0.out rfl; clear hst hL hD E0 E1 Hc; go_wp2_with (first | fail); go_ret; exact ⟨rfl, (by repeat (first | exact hbw2 | apply pw_below_drewN))⟩
       | false =>
        rw [if_neg (by decide)] at hst; obtain rfl := sI hst; have HE := Lib.hid (E1.out (by decide)); clear hst hL hD E0 E1 Hc; go_wp2_with (first | fail)
        go_roundw
        case rel => exact ⟨_, f, _, rfl, hit2, (by repeat (first | exact hbw2 | apply pw_below_drewN)), HE⟩
        case measure =>
         have hwd := Hwd.out; have hd1 := Hd1.out; have hm : ∀ (X : World) n b, (X.drewN n).iterPos b = X.iterPos b := fun _ _ _ => rfl
         (try simp only [hm]); simp only [World.iterPos, hit2, hit]
         omega
      rw [if_neg c46] at hst; have k46 : (c == 46) = false := beq_eq_false_iff_ne.2 c46; clear c46; obtain ⟨l, hl, hst⟩ := Option.bind_eq_some_iff.1 hst; have cL := hL l hl; clear hl
      cases l with
      | true =>
       rw [if_pos rfl] at hst; obtain rfl := sI hst; have HE := Lib.hid (E1.out (by decide)); clear hst hL hD E0 E1 Hc; go_wp2_with (first | (go_at_call 197; refine (cL _).mono ?_; rintro e w2 ⟨rfl, ⟨n1, rfl⟩⟩))
       go_roundw
       case rel => exact ⟨_, f, _, rfl, hit2, (by repeat (first | exact hbw2 | apply pw_below_drewN)), HE⟩
       case measure =>
        have hwd := Hwd.out; have hd1 := Hd1.out; have hm : ∀ (X : World) n b, (X.drewN n).iterPos b = X.iterPos b := fun _ _ _ => rfl
        (try simp only [hm]); simp only [World.iterPos, hit2, hit]
        omega
      | false =>
       rw [if_neg (by decide)] at hst
       by_cases c95 : c = 95
       ·rw [if_pos c95] at hst
        have k95 : (c == 95) = true := by rw [c95]; rfl
        clear c95; obtain rfl := sI hst; have HE := Lib.hid (E1.out (by decide)); clear hst hL hD E0 E1 Hc; go_wp2_with (first | (go_at_call 197; refine (cL _).mono ?_; rintro e w2 ⟨rfl, ⟨n1, rfl⟩⟩))
        go_roundw
        case rel => exact ⟨_, f, _, rfl, hit2, (by repeat (first | exact hbw2 | apply pw_below_drewN)), HE⟩
        case measure =>
         have hwd := Hwd.out; have hd1 := Hd1.out; have hm : ∀ (X : World) n b, (X.drewN n).iterPos b = X.iterPos b := fun _ _ _ => rfl
         (try simp only [hm]); simp only [World.iterPos, hit2, hit]
         omega
       rw [if_neg c95] at hst; have k95 : (c == 95) = false := beq_eq_false_iff_ne.2 c95; clear c95
       cases first with
       | true =>
        rw [if_pos rfl] at hst; obtain rfl := sI hst; obtain rfl := E0.out rfl; clear hst hL hD E0 E1 Hc; go_wp2_with (first | (go_at_call 197; refine (cL _).mono ?_; rintro e w2 ⟨rfl, ⟨n1, rfl⟩⟩)); go_ret; exact ⟨rfl, (by repeat (first | exact hbw2 | apply pw_below_drewN))⟩
       | false =>
        rw [if_neg (by decide)] at hst; obtain ⟨d, hd, hst⟩ := Option.bind_eq_some_iff.1 hst; have cD := hD d hd; clear hd
        cases d with
        | true =>
         rw [if_pos rfl] at hst; obtain rfl := sI hst; have HE := Lib.hid (E1.out (by decide)); clear hst hL hD E0 E1 Hc; go_wp2_with (first | (go_at_call 197; refine (cL _).mono ?_; rintro e w2 ⟨rfl, ⟨n1, rfl⟩⟩) | (go_at_call 198; refine (cD _).mono ?_; rintro e w2 ⟨rfl, ⟨n2, rfl⟩⟩))
         go_roundw
         case rel => exact ⟨_, f, _, rfl, hit2, (by repeat (first | exact hbw2 | apply pw_below_drewN)), HE⟩
         case measure =>
          have hwd := Hwd.out; have hd1 := Hd1.out; have hm : ∀ (X : World) n b, (X.drewN n).iterPos b = X.iterPos b := fun _ _ _ => rfl
          (try simp only [hm]); simp only [World.iterPos, hit2, hit]
          omega
        | false =>
         rw [if_neg (by decide)] at hst
         by_cases c45 : c = 45
         ·rw [if_pos c45] at hst
          have k45 : (c == 45) = true := by rw [c45]; rfl
          clear c45; obtain rfl := sI hst; have HE := Lib.hid (E1.out (by decide)); clear hst hL hD E0 E1 Hc; go_wp2_with (first | (go_at_call 197; refine (cL _).mono ?_; rintro e w2 ⟨rfl, ⟨n1, rfl⟩⟩) | (go_at_call 198; refine (cD _).mono ?_; rintro e w2 ⟨rfl, ⟨n2, rfl⟩⟩))
          go_roundw
          case rel => exact ⟨_, f, _, rfl, hit2, (by repeat (first | exact hbw2 | apply pw_below_drewN)), HE⟩
          case measure =>
           have hwd := Hwd.out; have hd1 := Hd1.out; have hm : ∀ (X : World) n b, (X.drewN n).iterPos b = X.iterPos b := fun _ _ _ => rfl
           (try simp only [hm]); simp only [World.iterPos, hit2, hit]
           omega
         rw [if_neg c45] at hst; have k45 : (c == 45) = false := beq_eq_false_iff_ne.2 c45; clear c45; obtain rfl := sI hst; obtain rfl := E0.out rfl; clear hst hL hD E0 E1 Hc; go_wp2_with (first | (go_at_call 197; refine (cL _).mono ?_; rintro e w2 ⟨rfl, ⟨n1, rfl⟩⟩) | (go_at_call 198; refine (cD _).mono ?_; rintro e w2 ⟨rfl, ⟨n2, rfl⟩⟩)); go_ret; exact ⟨rfl, (by repeat (first | exact hbw2 | apply pw_below_drewN))⟩
     ·rw [if_neg hp] at hgo
      obtain rfl := sI hgo; have hnx : ∀ ty, (Instr.next (.pointer (some ⟨w1.heap.size, 0, none⟩)) true ty).run Tryz.prog wr = _ := fun ty => Lib.run_next_end_at wr w1.heap.size a0 pos ty hit hp
      go_wp2; go_ret; exact ⟨rfl, hbw⟩
  ·rw [if_neg hv] at h
   obtain rfl := sI h; rw [Bool.eq_false_iff.2 hv] at cV; clear hv; go_enter Tryz.func137, Tryz.ntmps137; go_wp2_with (go_at_call 156; refine cV.mono ?_; rintro e w1 ⟨rfl, hb1⟩); go_ret; exact ⟨rfl, hb1⟩
 ·cases h
def utf8_RuneCountInString.f (a0 : ByteArray) : Option Int := if a0.size < 9223372036854775807 then some (Lib.runeCount a0 : Int) else none
theorem utf8_RuneCountInString.calls (a0 : ByteArray) (r : Int) (w : World) (h : utf8_RuneCountInString.f a0 = some r) :
  Calls Tryz.prog 138 #[.string a0] w fun e w' => e = .returned (.int .i64 r) ∧ Below w.heap.size w w' := by
 unfold utf8_RuneCountInString.f at h
 split at h
 ·rename_i hs
  obtain rfl := sI h; refine (Tryz.utf8_RuneCountInString a0 w hs).mono ?_; rintro e w' ⟨he, pos, rfl⟩; exact ⟨he, (Below.refl _ w).alloc (Nat.le_refl _) _⟩
 ·cases h
def strings_Count.f (a0 : ByteArray) (a1 : ByteArray) : Option Int := if a1.size = 1 then some (Lib.countByte a0.data.toList (a1.data.toList.getD 0 0) : Int) else none
theorem strings_Count.calls (a0 : ByteArray) (a1 : ByteArray) (r : Int) (w : World) (h : strings_Count.f a0 a1 = some r) :
  Calls Tryz.prog 139 #[.string a0, .string a1] w fun e w' => e = .returned (.int .i64 r) ∧ Drawn0 w w' := by
 unfold strings_Count.f at h
 split at h
 ·rename_i hs
  obtain rfl := sI h
  obtain ⟨c, rfl⟩ : ∃ c : UInt8, a1 = ⟨#[c]⟩ := by
   obtain ⟨⟨l⟩⟩ := a1
   match l, hs with
   | [c], _ => exact ⟨c, rfl⟩
  refine (Tryz.strings_Count_one a0 c w).mono ?_; rintro e w' ⟨he, rfl⟩; exact ⟨he, Drawn0.refl _⟩
 ·cases h
def name_Check.f (k : Nat) (a0 : ByteArray) : Option (Int) := (name_formed.f k a0).bind fun t113 => (if t113 = true then ((utf8_RuneCountInString.f a0).bind fun t114 => (if t114 > 40 then (some 2) else ((strings_Count.f a0 (⟨#[46]⟩ : ByteArray)).bind fun t115 => (if t115 ≥ 5 then (some 2) else (some 0))))) else (some 3))
theorem name_Check.mono : ∀ a0 k, LeO (name_Check.f k a0) (name_Check.f (k + 1) a0) := by
 intro a0 k; unfold name_Check.f
 repeat' (with_reducible first | exact name_formed.mono _ _ | exact LeO.refl _ | exact LeO.none _ | refine LeO.ite ?_ ?_ | refine LeO.bind ?_ (fun _ => ?_))
theorem name_Check.calls (k : Nat) (a0 : ByteArray) (r : Int) (w : World) (hT : Tabs w) (h : name_Check.f k a0 = some r) :
  Calls Tryz.prog 68 #[.string a0] w fun e w' => e = .returned (.int .i64 r) ∧ Below w.heap.size w w' := by
 have HB := aM (Below.refl w.heap.size w); unfold name_Check.f at h; have H := h; clear h; have HT := aM hT; clear hT; replace H := bnA H; obtain ⟨t113, A2, H⟩ := H; revert H; refine itR ?L5p ?L5n
 case' L5p =>
  intro c3 H; subst c3; replace H := bnA H; obtain ⟨t114, A4, H⟩ := H; revert H; refine itR ?L6p ?L6n
  case' L6p =>
   intro c5 H; have c5b0 := gtT c5; clear c5; obtain rfl := sI H; have M1 := trivial; have M2 := trivial
  case' L6n =>
   intro c5 H; have c5b0 := gtF c5; clear c5; replace H := bnA H; obtain ⟨t115, A6, H⟩ := H; revert H; refine itR ?L7p ?L7n
   case' L7p =>
    intro c7 H; have c7b0 := geT c7; clear c7; obtain rfl := sI H; have M1 := trivial; have M3 := trivial
   case' L7n =>
    intro c7 H; have c7b0 := geF c7; clear c7; obtain rfl := sI H; have M1 := trivial; have M3 := trivial
 case' L5n =>
  intro c3 H; replace c3 := Bool.eq_false_iff.mpr c3; subst c3; obtain rfl := sI H; have M4 := trivial
 all_goals
  case _ =>
   go_enter Tryz.func68, Tryz.ntmps68; go_wp2_with (first | ((with_reducible refine gate_callee (f := 137) rfl ?_); refine goesA (some 5) Tryz.func137 #[.string a0] ?_; (with_reducible refine (name_formed.calls _ _ _ _ ?side1 A2.out).mono ?_); (case side1 => exact Tabs.below HT.out (bwA)); rintro e w101 ⟨rfl, hb⟩; refine ⟨_, rfl, ?_⟩; replace HB := aM (below_step (bwA) hb); (try clear hb); apply stopA; (case other => exact trivial)))
   case _ =>
    first
     | clear M1
       go_wp2_with (first | ((with_reducible refine gate_callee (f := 138) rfl ?_); refine goesA (some 9) Tryz.func138 #[.string a0] ?_; (with_reducible refine (utf8_RuneCountInString.calls _ _ _ A4.out).mono ?_); rintro e w102 ⟨rfl, hb⟩; refine ⟨_, rfl, ?_⟩; replace HB := aM (below_step (bwA) hb); (try clear hb); apply stopA; (case other => exact trivial)))
       case _ =>
        first
         | clear M2
           (try go_wp2_with (fail))
           go_ret; exact ⟨endA, bwA⟩
         | clear M3
           (try go_wp2_with (first | (go_at_call 139; (with_reducible refine (strings_Count.calls _ _ _ _ A6.out).mono ?_); rintro e w' ⟨rfl, ⟨nd, rfl⟩⟩))); go_ret; exact ⟨endA, bwA⟩
     | clear M4
       (try go_wp2_with (fail))
       go_ret; exact ⟨endA, bwA⟩
def forest_count.f (a0 : Int) : Option (Bool) := if a0 ≥ 1 then (some (decide (a0 ≤ 1099511627775))) else (some false)
theorem forest_count.calls (a0 : Int) (r : Bool) (w : World) (h : forest_count.f a0 = some r) :
  Calls Tryz.prog 146 #[.int .i64 a0] w fun e w' => e = .returned (.bool r) ∧ Drawn0 w w' := by
 unfold forest_count.f at h; have H := h; clear h; revert H; refine itR ?L1p ?L1n
 case' L1p =>
  intro c2 H; have c2b0 := geT c2; clear c2; obtain rfl := sI H
 case' L1n =>
  intro c2 H; have c2b0 := geF c2; clear c2; obtain rfl := sI H
 all_goals
  case _ =>
   go_enter Tryz.func146, Tryz.ntmps146; go_wp2; go_ret; exact ⟨endS, drA⟩
def forest_IsID.f (a0_0 : Int) (a0_1 : Int) (a0_2 : Int) : Option (Bool) := if a0_0 ≥ 1 then (if a0_0 ≤ 15 then ((forest_count.f a0_1).bind fun t117 => (if t117 = true then ((forest_count.f a0_2).bind fun t118 => (some t118)) else (some false))) else (some false)) else (some false)
theorem forest_IsID.calls (a0_0 : Int) (a0_1 : Int) (a0_2 : Int) (r : Bool) (w : World) (h : forest_IsID.f a0_0 a0_1 a0_2 = some r) :
  Calls Tryz.prog 73 #[.agg #[.int .i64 a0_0, .int .i64 a0_1, .int .i64 a0_2]] w fun e w' => e = .returned (.bool r) ∧ Below w.heap.size w w' := by
 have hu25 := Tryz.underlying25; have HB := aM (Below.refl w.heap.size w); unfold forest_IsID.f at h; have H := h; clear h; revert H; refine itR ?L5p ?L5n
 case' L5p =>
  intro c2 H; have c2b0 := geT c2; clear c2; revert H; refine itR ?L6p ?L6n
  case' L6p =>
   intro c3 H; have c3b0 := dT c3; clear c3; replace H := bnA H; obtain ⟨t117, A4, H⟩ := H; revert H; refine itR ?L7p ?L7n
   case' L7p =>
    intro c5 H; subst c5; replace H := bnA H; obtain ⟨t118, A6, H⟩ := H; obtain rfl := sI H; have M1 := trivial; have M2 := trivial
   case' L7n =>
    intro c5 H; replace c5 := Bool.eq_false_iff.mpr c5; subst c5; obtain rfl := sI H; have M1 := trivial; have M3 := trivial
  case' L6n =>
   intro c3 H; have c3b0 := dF c3; clear c3; obtain rfl := sI H; have M4 := trivial
 case' L5n =>
  intro c2 H; have c2b0 := geF c2; clear c2; obtain rfl := sI H; have M4 := trivial
 all_goals
  case _ =>
   go_enter Tryz.func73, Tryz.ntmps73; go_wp2_with (first | ((with_reducible refine gate_dst (N := 1) rfl ?_); refine boxB 1 #[.int .i64 a0_0, .int .i64 a0_1, .int .i64 a0_2] 25 HB ?_; clear HB; intro gb116 w101 BK116 GW116 GE116 HB; obtain ⟨hcz102_0, hcz102_1, hcz102_2⟩ := cel3 BK116.out; obtain ⟨hfz102_0, hfz102_1, hfz102_2⟩ := frz3 BK116.out; apply stopA; (case other => exact trivial)))
   case _ =>
    first
     | clear M1
       go_wp2_with (first | (go_at_call 146; (with_reducible refine (forest_count.calls _ _ _ A4.out).mono ?_); rintro e w' ⟨rfl, ⟨nd, rfl⟩⟩; apply stopA; (case other => exact trivial)))
       case _ =>
        first
         | clear M2
           (try go_wp2_with (first | (go_at_call 146; (with_reducible refine (forest_count.calls _ _ _ A6.out).mono ?_); rintro e w' ⟨rfl, ⟨nd, rfl⟩⟩))); go_ret; exact ⟨endA, bwA⟩
         | clear M3
           (try go_wp2_with (fail))
           go_ret; exact ⟨endA, bwA⟩
     | clear M4
       (try go_wp2_with (fail))
       go_ret; exact ⟨endA, bwA⟩
def name_Small.f (a0 : Int) : Option (Int) := (name_between.f a0 65 90).bind fun t119 => (if t119 = true then (some (wrap32 (a0 + 32))) else ((name_between.f a0 192 222).bind fun t120 => (if t120 = true then (if a0 = 215 then ((name_between.f a0 913 937).bind fun t121 => (if t121 = true then (if a0 = 930 then ((name_between.f a0 1040 1071).bind fun t122 => (if t122 = true then (some (wrap32 (a0 + 32))) else (some a0))) else (some (wrap32 (a0 + 32)))) else ((name_between.f a0 1040 1071).bind fun t123 => (if t123 = true then (some (wrap32 (a0 + 32))) else (some a0))))) else (some (wrap32 (a0 + 32)))) else ((name_between.f a0 913 937).bind fun t124 => (if t124 = true then (if a0 = 930 then ((name_between.f a0 1040 1071).bind fun t125 => (if t125 = true then (some (wrap32 (a0 + 32))) else (some a0))) else (some (wrap32 (a0 + 32)))) else ((name_between.f a0 1040 1071).bind fun t126 => (if t126 = true then (some (wrap32 (a0 + 32))) else (some a0))))))))
theorem name_Small.calls (a0 : Int) (r : Int) (w : World) (h : name_Small.f a0 = some r) :
  Calls Tryz.prog 209 #[.int .i32 a0] w fun e w' => e = .returned (.int .i32 r) ∧ Drawn0 w w' := by
 unfold name_Small.f at h; have H := h; clear h; replace H := bnA H; obtain ⟨t119, A2, H⟩ := H; revert H; refine itR ?L15p ?L15n
 case' L15p =>
  intro c3 H; subst c3; obtain rfl := sI H; have M1 := trivial
 case' L15n =>
  intro c3 H; replace c3 := Bool.eq_false_iff.mpr c3; subst c3; replace H := bnA H; obtain ⟨t120, A4, H⟩ := H; revert H; refine itR ?L16p ?L16n
  case' L16p =>
   intro c5 H; subst c5; revert H; refine itQ ?L17p ?L17n
   case' L17p =>
    rintro ⟨c6b0, c6b1⟩ H; replace H := bnA H; obtain ⟨t121, A7, H⟩ := H; revert H; refine itR ?L18p ?L18n
    case' L18p =>
     intro c8 H; subst c8; revert H; refine itQ ?L19p ?L19n
     case' L19p =>
      rintro ⟨c9b0, c9b1⟩ H; replace H := bnA H; obtain ⟨t122, A10, H⟩ := H; revert H; refine itR ?L20p ?L20n
      case' L20p =>
       intro c11 H; subst c11; obtain rfl := sI H; have M2 := trivial; have M3 := trivial; have M4 := trivial; have M5 := trivial; have M6 := trivial
      case' L20n =>
       intro c11 H; replace c11 := Bool.eq_false_iff.mpr c11; subst c11; obtain rfl := sI H; have M2 := trivial; have M3 := trivial; have M4 := trivial; have M5 := trivial; have M6 := trivial
     case' L19n =>
      rintro ⟨c9b0, c9b1⟩ c9 H; obtain rfl := sI H; have M2 := trivial; have M3 := trivial; have M4 := trivial; have M8 := trivial
    case' L18n =>
     intro c8 H; replace c8 := Bool.eq_false_iff.mpr c8; subst c8; replace H := bnA H; obtain ⟨t123, A9, H⟩ := H; revert H; refine itR ?L21p ?L21n
     case' L21p =>
      intro c10 H; subst c10; obtain rfl := sI H; have M2 := trivial; have M3 := trivial; have M4 := trivial; have M5 := trivial; have M7 := trivial
     case' L21n =>
      intro c10 H; replace c10 := Bool.eq_false_iff.mpr c10; subst c10; obtain rfl := sI H; have M2 := trivial; have M3 := trivial; have M4 := trivial; have M5 := trivial; have M7 := trivial
   case' L17n =>
    rintro ⟨c6b0, c6b1⟩ c6 H; obtain rfl := sI H; have M2 := trivial; have M14 := trivial
  case' L16n =>
   intro c5 H; replace c5 := Bool.eq_false_iff.mpr c5; subst c5; replace H := bnA H; obtain ⟨t124, A6, H⟩ := H; revert H; refine itR ?L22p ?L22n
   case' L22p =>
    intro c7 H; subst c7; revert H; refine itQ ?L23p ?L23n
    case' L23p =>
     rintro ⟨c8b0, c8b1⟩ H; replace H := bnA H; obtain ⟨t125, A9, H⟩ := H; revert H; refine itR ?L24p ?L24n
     case' L24p =>
      intro c10 H; subst c10; obtain rfl := sI H; have M2 := trivial; have M3 := trivial; have M9 := trivial; have M10 := trivial; have M11 := trivial
     case' L24n =>
      intro c10 H; replace c10 := Bool.eq_false_iff.mpr c10; subst c10; obtain rfl := sI H; have M2 := trivial; have M3 := trivial; have M9 := trivial; have M10 := trivial; have M11 := trivial
    case' L23n =>
     rintro ⟨c8b0, c8b1⟩ c8 H; obtain rfl := sI H; have M2 := trivial; have M3 := trivial; have M9 := trivial; have M13 := trivial
   case' L22n =>
    intro c7 H; replace c7 := Bool.eq_false_iff.mpr c7; subst c7; replace H := bnA H; obtain ⟨t126, A8, H⟩ := H; revert H; refine itR ?L25p ?L25n
    case' L25p =>
     intro c9 H; subst c9; obtain rfl := sI H; have M2 := trivial; have M3 := trivial; have M9 := trivial; have M10 := trivial; have M12 := trivial
    case' L25n =>
     intro c9 H; replace c9 := Bool.eq_false_iff.mpr c9; subst c9; obtain rfl := sI H; have M2 := trivial; have M3 := trivial; have M9 := trivial; have M10 := trivial; have M12 := trivial
 all_goals
  case _ =>
   go_enter Tryz.func209, Tryz.ntmps209; go_wp2_with (first | ((with_reducible refine gate_callee (f := 239) rfl ?_); refine goesA (some 4) Tryz.func239 #[.int .i32 a0, .int .i32 65, .int .i32 90] ?_; (with_reducible refine (name_between.calls _ _ _ _ _ A2.out).mono ?_); rintro e w' ⟨rfl, ⟨nd, rfl⟩⟩; refine ⟨_, rfl, ?_⟩; apply stopA; (case other => exact trivial)))
   case _ =>
    first
     | clear M1
       (try go_wp2_with (fail))
       go_ret; exact ⟨endS, drA⟩
     | clear M2
       go_wp2_with (first | (go_at_call 239; (with_reducible refine (name_between.calls _ _ _ _ _ A4.out).mono ?_); rintro e w' ⟨rfl, ⟨nd, rfl⟩⟩; apply stopA; (case other => exact trivial)))
       case _ =>
        first
         | clear M3
           go_wp2_with (first | (go_at_call 239; apply stopA; (case other => exact trivial)))
           case _ =>
            first
             | clear M4
               (with_reducible refine (name_between.calls _ _ _ _ _ A7.out).mono ?_)
               rintro e w' ⟨rfl, ⟨nd, rfl⟩⟩
               first
                | clear M5
                  go_wp2_with (first | (go_at_call 239; apply stopA; (case other => exact trivial)))
                  case _ =>
                   first
                    | clear M6
                      (with_reducible refine (name_between.calls _ _ _ _ _ A10.out).mono ?_)
                      rintro e w' ⟨rfl, ⟨nd, rfl⟩⟩
                      (try go_wp2_with (fail))
                      go_ret; exact ⟨endS, drA⟩
                    | clear M7
                      (with_reducible refine (name_between.calls _ _ _ _ _ A9.out).mono ?_)
                      rintro e w' ⟨rfl, ⟨nd, rfl⟩⟩
                      (try go_wp2_with (fail))
                      go_ret; exact ⟨endS, drA⟩
                | clear M8
                  (try go_wp2_with (fail))
                  go_ret; exact ⟨endS, drA⟩
             | clear M9
               (with_reducible refine (name_between.calls _ _ _ _ _ A6.out).mono ?_)
               rintro e w' ⟨rfl, ⟨nd, rfl⟩⟩
               first
                | clear M10
                  go_wp2_with (first | (go_at_call 239; apply stopA; (case other => exact trivial)))
                  case _ =>
                   first
                    | clear M11
                      (with_reducible refine (name_between.calls _ _ _ _ _ A9.out).mono ?_)
                      rintro e w' ⟨rfl, ⟨nd, rfl⟩⟩
                      (try go_wp2_with (fail))
                      go_ret; exact ⟨endS, drA⟩
                    | clear M12
                      (with_reducible refine (name_between.calls _ _ _ _ _ A8.out).mono ?_)
                      rintro e w' ⟨rfl, ⟨nd, rfl⟩⟩
                      (try go_wp2_with (fail))
                      go_ret; exact ⟨endS, drA⟩
                | clear M13
                  (try go_wp2_with (fail))
                  go_ret; exact ⟨endS, drA⟩
         | clear M14
           (try go_wp2_with (fail))
           go_ret; exact ⟨endS, drA⟩
theorem name_Fold.info : (Tryz.prog.info? 21).map (fun i => (i.zero, i.size, i.bytes)) = some (some (.int .i32 0), 1, 4) := by kernel_rfl
def name_Fold.go (s : ByteArray) : Nat → Nat → List Int → Option (List Int)
 | 0, _, _ => none
 | f + 1, pos, acc => if pos < s.size then (name_Small.f ((Utf8.decode s pos).1 : Int)).bind fun c => name_Fold.go s f (pos + (Utf8.decode s pos).2) (acc ++ [c]) else some acc
def name_Fold.f (a0 : ByteArray) : Option ByteArray := if a0.size ≤ 1099511627776 then (if Lib.validD a0.data.toList = true then (name_Fold.go a0 (a0.size + 1) 0 []).bind fun l => some (runesBytes l) else some a0) else none
theorem name_Fold.calls (a0 : ByteArray) (r : ByteArray) (w : World) (hT : Tabs w) (h : name_Fold.f a0 = some r) :
  Calls Tryz.prog 155 #[.string a0] w fun e w' => e = .returned (.string r) ∧ Below w.heap.size w w' := by
 unfold name_Fold.f at h
 split at h
 ·rename_i hs
  have cV := Tryz.utf8_ValidString a0 w (by omega) hT.u8
  by_cases hv : Lib.validD a0.data.toList = true
  ·rw [if_pos hv] at h
   obtain ⟨l, hl, h⟩ := Option.bind_eq_some_iff.1 h; obtain rfl := sI h; have H := Lib.hid hl; rw [hv] at cV; clear h hv hl; go_enter Tryz.func155, Tryz.ntmps155; go_wp2_with (go_at_call 156; refine cV.mono ?_; rintro e w1 ⟨rfl, hb1⟩)
   go_loopw [3] (fun v3 wr => ∃ (pos fuel : Nat) (acc : List Int), wr.heap[w1.heap.size]? = some (.stringIter a0 pos) ∧ Kd.R (Kd.int .i32) 21 wr w.heap.size (fun k => k ≠ w1.heap.size) v3 acc ∧ Below w.heap.size w wr ∧ Hid (name_Fold.go a0 fuel pos acc = some l) ∧ acc.length ≤ pos) (fun _ wr => a0.size - wr.iterPos w1.heap.size)
   case atStart => exact ⟨0, _, [], World.iter_heap w1 a0 0, Kd.R_nil _ _ _ _ _, hb1.alloc hb1.size _, H, by simp⟩
   case round =>
    obtain ⟨pos, fuel, acc, hit, hR, hbw, HG, hal⟩ := hrel; clear H; have hsz : w1.heap.size < wr.heap.size := (Array.getElem?_eq_some_iff.1 hit).1; have hsw : w.heap.size ≤ w1.heap.size := hb1.size
    cases fuel with
    | zero => exact absurd HG.out (by simp [name_Fold.go])
    | succ f =>
     have hgo := HG.out; clear HG; unfold name_Fold.go at hgo
     by_cases hp : pos < a0.size
     ·rw [if_pos hp] at hgo
      have hnx : ∀ ty, (Instr.next (.pointer (some ⟨w1.heap.size, 0, none⟩)) true ty).run Tryz.prog wr = _ := fun ty => Lib.run_next_any_at wr w1.heap.size a0 pos ty hit hp
      have Hwd := Lib.hid (Lib.width_pos a0 pos); have Hd1 := Lib.hid (decode_le a0 pos); have hit2 := Lib.iterAt_heap wr w1.heap.size a0 pos (pos + (Utf8.decode a0 pos).2) hit; have hbw2 := Lib.below_iterAt hbw (k := w1.heap.size) hsw a0 (pos + (Utf8.decode a0 pos).2); have hR2 : Kd.R (Kd.int .i32) 21 (wr.iterAt w1.heap.size a0 (pos + (Utf8.decode a0 pos).2)) w.heap.size (fun k => k ≠ w1.heap.size) u3 acc := Kd.R_move hR (fun k hk => Lib.iterAt_other wr w1.heap.size k a0 _ hk); obtain ⟨c, hc, hgo⟩ := Option.bind_eq_some_iff.1 hgo; have cS := fun W => name_Small.calls ((Utf8.decode a0 pos).1 : Int) c W hc
      generalize hq : (((Utf8.decode a0 pos).1 : Nat) : Int) = q at cS hnx
      have HE := Lib.hid hgo; have hz2 : w1.heap.size < (wr.iterAt w1.heap.size a0 (pos + (Utf8.decode a0 pos).2)).heap.size := by rw [Lib.iterAt_size]; exact hsz
      have Hit := Lib.hid hit; have HL := Lib.hid (show (acc.length + 1) * 4 ≤ 140737488355328 by omega); have HA := Lib.hid hal; clear hgo hc hq hit hbw hR hal; go_wp2_with (first | (go_at_call 209; refine (cS _).mono ?_; rintro e w2 ⟨rfl, ⟨nd, rfl⟩⟩) | ((with_reducible refine gate_builtin (b := .append) (xs := #[.tmp 15, .tmp 18]) rfl ?_); at_builtin; refine Kd.R_append (Kd.int .i32) (w0 := w) w.heap.size rfl (.tmp 15) (.tmp 18) 207 21 (.int .i32 0) 4 rfl Tryz.underlying207 name_Fold.info rfl (by decide) (by omega) u3 acc c [.int .i32 c] (fun k => k ≠ w1.heap.size) (fun _ => False) rfl (by first | (go_simp; done) | (go_simp; rfl)) rfl (fun _ hk => hk.elim) ?aF ?aO ?aB ?aS HL.out ?_; (case aF => (intro k hk he; rw [he] at hk; exact absurd (Nat.lt_of_lt_of_le hz2 hk) (Nat.lt_irrefl _))); (case aB => (repeat (first | exact hbw2 | apply pw_below_drewN))); (case aO => ((with_reducible repeat (first | apply Kd.R_alloc | apply Kd.R_drewN | apply Kd.R_drew)); exact hR2)); (case aS => exact hbw2.size); intro v4 w4 ho hb hg hat; have hit3 := blk_grown (show ((wr.iterAt w1.heap.size a0 (pos + (Utf8.decode a0 pos).2)).drewN nd).heap[w1.heap.size]? = _ from hit2) hg (fun e => hR2.1 _ e.symm rfl)))
      go_roundw
      case rel =>
       refine ⟨_, f, acc ++ [c], hit3, ho, hb, HE, ?_⟩; have := HA.out; have := Hwd.out; rw [List.length_append]
       show acc.length + 1 ≤ _
       omega
      case measure =>
       have hwd := Hwd.out; have hd1 := Hd1.out; simp only [World.iterPos, hit3, Hit.out]
       omega
     ·rw [if_neg hp] at hgo
      obtain rfl := sI hgo; clear hal; have hnx : ∀ ty, (Instr.next (.pointer (some ⟨w1.heap.size, 0, none⟩)) true ty).run Tryz.prog wr = _ := fun ty => Lib.run_next_end_at wr w1.heap.size a0 pos ty hit hp
      have hcv := own_runes (P := Tryz.prog) Tryz.underlying207 Tryz.underlying21 Tryz.underlying9 (Kd.own_of_R hR); go_wp2; go_ret; exact ⟨rfl, hbw⟩
  ·rw [if_neg hv] at h
   obtain rfl := sI h; rw [Bool.eq_false_iff.2 hv] at cV; clear hv; go_enter Tryz.func155, Tryz.ntmps155; go_wp2_with (go_at_call 156; refine cV.mono ?_; rintro e w1 ⟨rfl, hb1⟩); go_ret; exact ⟨rfl, hb1⟩
 ·cases h
def cmp_isNaN_rune.f (a0 : Int) : Option (Bool) := some (a0 != a0)
theorem cmp_isNaN_rune.calls (a0 : Int) (r : Bool) (w : World) (h : cmp_isNaN_rune.f a0 = some r) :
  Calls Tryz.prog 242 #[.int .i32 a0] w fun e w' => e = .returned (.bool r) ∧ Drawn0 w w' := by
 unfold cmp_isNaN_rune.f at h; have H := h; clear h; obtain rfl := sI H; go_enter Tryz.func242, Tryz.ntmps242; go_wp2; go_ret; exact ⟨endS, drA⟩
def cmp_Compare_rune.f (a0 : Int) (a1 : Int) : Option (Int) := (cmp_isNaN_rune.f a0).bind fun t127 => ((cmp_isNaN_rune.f a1).bind fun t128 => (if t127 = true then (if t128 = true then (some 0) else (some (-1))) else (if t128 = true then (some 1) else (if a0 < a1 then (some (-1)) else (if a0 > a1 then (some 1) else (some 0))))))
theorem cmp_Compare_rune.calls (a0 : Int) (a1 : Int) (r : Int) (w : World) (h : cmp_Compare_rune.f a0 a1 = some r) :
  Calls Tryz.prog 212 #[.int .i32 a0, .int .i32 a1] w fun e w' => e = .returned (.int .i64 r) ∧ Drawn0 w w' := by
 unfold cmp_Compare_rune.f at h; have H := h; clear h; replace H := bnA H; obtain ⟨t127, A3, H⟩ := H; replace H := bnA H; obtain ⟨t128, A4, H⟩ := H; revert H; refine itR ?L1p ?L1n
 case' L1p =>
  intro c5 H; subst c5; revert H; refine itR ?L2p ?L2n
  case' L2p =>
   intro c6 H; subst c6; obtain rfl := sI H
  case' L2n =>
   intro c6 H; replace c6 := Bool.eq_false_iff.mpr c6; subst c6; obtain rfl := sI H
 case' L1n =>
  intro c5 H; replace c5 := Bool.eq_false_iff.mpr c5; subst c5; revert H; refine itR ?L3p ?L3n
  case' L3p =>
   intro c6 H; subst c6; obtain rfl := sI H
  case' L3n =>
   intro c6 H; replace c6 := Bool.eq_false_iff.mpr c6; subst c6; revert H; refine itR ?L4p ?L4n
   case' L4p =>
    intro c7 H; have c7b0 := dT c7; clear c7; obtain rfl := sI H
   case' L4n =>
    intro c7 H; have c7b0 := dF c7; clear c7; revert H; refine itR ?L5p ?L5n
    case' L5p =>
     intro c8 H; have c8b0 := gtT c8; clear c8; obtain rfl := sI H
    case' L5n =>
     intro c8 H; have c8b0 := gtF c8; clear c8; obtain rfl := sI H
 all_goals
  case _ =>
   go_enter Tryz.func212, Tryz.ntmps212; (try go_wp2_with (first | ((with_reducible refine gate_callee (f := 242) rfl ?_); refine goesA (some 8) Tryz.func242 #[.int .i32 a0] ?_; (with_reducible refine (cmp_isNaN_rune.calls _ _ _ A3.out).mono ?_); rintro e w' ⟨rfl, ⟨nd, rfl⟩⟩; refine ⟨_, rfl, ?_⟩) | ((with_reducible refine gate_callee (f := 242) rfl ?_); refine goesA (some 10) Tryz.func242 #[.int .i32 a1] ?_; (with_reducible refine (cmp_isNaN_rune.calls _ _ _ A4.out).mono ?_); rintro e w' ⟨rfl, ⟨nd, rfl⟩⟩; refine ⟨_, rfl, ?_⟩))); go_ret; exact ⟨endS, drA⟩
end Go.Proofs.YtkdndabpaajkaaaGreatDoor.A
