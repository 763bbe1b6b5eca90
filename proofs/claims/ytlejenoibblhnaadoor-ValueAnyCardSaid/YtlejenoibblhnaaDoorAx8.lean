-- By drv.py, the session's own driver round the kit's print: the machine's side of the laws, function by function. Not trusted: Lean checks it.
import Derived.Test.YtlejenoibblhnaaDoorAx0
import Derived.Test.YtlejenoibblhnaaDoorAx2
namespace Go.Proofs.YtlejenoibblhnaaDoor.A
open Go.RowKit Go.Proofs.YtlejenoibblhnaaDoorW.PrintWords Go.Proofs.YtlejenoibblhnaaDoorW.PrintLast Go.Proofs.YtlejenoibblhnaaDoorW.PrintMore
attribute [local go_sem] max2_int min2_int max_two min_two max_three min_three max_four min_four   -- for this text's walks alone
set_option linter.unusedVariables false
set_option linter.unusedSimpArgs false

/-! ### stringslite_CutPrefix: function 56 -/
def stringslite_CutPrefix.f (a0 : ByteArray) (a1 : ByteArray) : Option (ByteArray × Bool) := (stringslite_HasPrefix.f a0 a1).bind fun t129 => (if t129 = true then (if 0 ≤ (a1.size : Int) then (if (a1.size : Int) ≤ (a0.size : Int) then (some (a0.extract ((a1.size : Int) : Int).toNat a0.size, true)) else (none)) else (none)) else (some (a0, false)))
set_option maxHeartbeats 8000000 in
set_option maxRecDepth 100000 in
theorem stringslite_CutPrefix.calls (a0 : ByteArray) (a1 : ByteArray) (r1 : ByteArray) (r2 : Bool) (w : World) (h : stringslite_CutPrefix.f a0 a1 = some (r1, r2)) :
  Calls Tryd.prog 56 #[.string a0, .string a1] w fun e w' => e = .returned (.tuple #[.string r1, .bool r2]) ∧ Drawn0 w w' := by
 unfold stringslite_CutPrefix.f at h
 have H := h
 clear h
 replace H := bnA H
 obtain ⟨t129, A3, H⟩ := H
 revert H; refine itR ?L1p ?L1n
 case' L1p =>
  intro c4 H
  subst c4
  replace H := itN H
  obtain ⟨c5, H⟩ := H
  have c5b0 := eq_true c5
  have c5b1 := decide_eq_true c5
  clear c5
  replace H := itN H
  obtain ⟨c6, H⟩ := H
  have c6b0 := eq_true c6
  have c6b1 := decide_eq_true c6
  clear c6
  obtain ⟨rfl, rfl⟩ := sJ2 H
 case' L1n =>
  intro c4 H
  replace c4 := Bool.eq_false_iff.mpr c4
  subst c4
  obtain ⟨rfl, rfl⟩ := sJ2 H
 all_goals
  case _ =>
   go_enter Tryd.func56, Tryd.ntmps56
   try go_wp2_with (first | ((with_reducible refine gate_callee (f := 38) rfl ?_); refine goesA (some 8) Tryd.func38 #[.string a0, .string a1] ?_; (with_reducible refine (stringslite_HasPrefix.calls _ _ _ _ A3.out).mono ?_); rintro e w' ⟨rfl, ⟨nd, rfl⟩⟩; refine ⟨_, rfl, ?_⟩))
   go_ret2
   exact ⟨endS, drA⟩
/-! ### strings_CutPrefix: function 43 -/
def strings_CutPrefix.f (a0 : ByteArray) (a1 : ByteArray) : Option (ByteArray × Bool) := (stringslite_CutPrefix.f a0 a1).bind fun bt130 => (some (bt130.1, bt130.2))
set_option maxHeartbeats 8000000 in
set_option maxRecDepth 100000 in
theorem strings_CutPrefix.calls (a0 : ByteArray) (a1 : ByteArray) (r1 : ByteArray) (r2 : Bool) (w : World) (h : strings_CutPrefix.f a0 a1 = some (r1, r2)) :
  Calls Tryd.prog 43 #[.string a0, .string a1] w fun e w' => e = .returned (.tuple #[.string r1, .bool r2]) ∧ Drawn0 w w' := by
 unfold strings_CutPrefix.f at h
 have H := h
 clear h
 replace H := Option.bind_eq_some_iff.mp H
 obtain ⟨⟨t130, t131⟩, A30, H⟩ := H
 replace H : (some (t130, t131)) = some (r1, r2) := H
 have A3 := Aside0.mk A30
 clear A30
 simp only [Option.some.injEq, Prod.mk.injEq] at H
 obtain ⟨rfl, rfl⟩ := H
 go_enter Tryd.func43, Tryd.ntmps43
 go_wp2_with (first | ((with_reducible refine gate_callee (f := 56) rfl ?_); refine goesA (some 8) Tryd.func56 #[.string a0, .string a1] ?_; (with_reducible refine (stringslite_CutPrefix.calls a0 a1 t130 t131 _ A3.out).mono ?_); rintro e w' ⟨rfl, ⟨nd, rfl⟩⟩; refine ⟨_, rfl, ?_⟩))
 go_ret2
 exact ⟨endS, drA⟩

/-! ### name_between: function 72 -/
def name_between.f (a0 : Int) (a1 : Int) (a2 : Int) : Option (Bool) := if a0 ≥ a1 then (some (decide (a0 ≤ a2))) else (some false)
set_option maxHeartbeats 8000000 in
set_option maxRecDepth 100000 in
theorem name_between.calls (a0 : Int) (a1 : Int) (a2 : Int) (r : Bool) (w : World) (h : name_between.f a0 a1 a2 = some r) :
  Calls Tryd.prog 72 #[.int .i32 a0, .int .i32 a1, .int .i32 a2] w fun e w' => e = .returned (.bool r) ∧ Drawn0 w w' := by
 unfold name_between.f at h
 have H := h
 clear h
 revert H; refine itR ?L1p ?L1n
 case' L1p =>
  intro c4 H
  have c4b0 := geT c4
  clear c4
  obtain rfl := Option.some.inj H
 case' L1n =>
  intro c4 H
  have c4b0 := geF c4
  clear c4
  obtain rfl := Option.some.inj H
 all_goals
  case _ =>
   go_enter Tryd.func72, Tryd.ntmps72
   go_wp2
   go_ret
   exact ⟨endS, drA⟩
/-! ### name_Letter: function 57 -/
def name_Letter.j0 : Nat → Int → Bool → Option (Bool)
 | 0, _, _ => none
 | k + 1, x0, x3 => if x3 = true then (some true) else ((name_between.f x0 192 591).bind fun t134 => (if t134 = true then (if x0 = 215 then (some false) else (some (x0 != 247))) else ((name_between.f x0 913 937).bind fun t135 => (if t135 = true then (some (x0 != 930)) else ((name_between.f x0 945 969).bind fun t136 => (if t136 = true then (some true) else ((name_between.f x0 1040 1103).bind fun t137 => (if t137 = true then (some true) else ((name_between.f x0 19968 40959).bind fun t138 => (some t138))))))))))
def name_Letter.f (k : Nat) (a0 : Int) : Option (Bool) := (name_between.f a0 65 90).bind fun t132 => (if t132 = true then (name_Letter.j0 k a0 t132) else ((name_between.f a0 97 122).bind fun t133 => (name_Letter.j0 k a0 t133)))
theorem name_Letter.mono_l : ∀ k, (∀ y0 y1, LeO (name_Letter.j0 k y0 y1) (name_Letter.j0 (k + 1) y0 y1))
 | 0 => fun _ _ r h => by simp [name_Letter.j0] at h
 | k + 1 => by
  have ih0 := name_Letter.mono_l k
  ·intro y0 y1
   unfold name_Letter.j0
   repeat' (with_reducible first | exact ih0 _ _ | exact LeO.refl _ | exact LeO.none _ | refine LeO.ite ?_ ?_ | refine LeO.bind ?_ (fun _ => ?_))
theorem name_Letter.mono : ∀ a0 k, LeO (name_Letter.f k a0) (name_Letter.f (k + 1) a0) := by
 intro a0 k
 have ih0 := name_Letter.mono_l k
 unfold name_Letter.f
 repeat' (with_reducible first | exact ih0 _ _ | exact LeO.refl _ | exact LeO.none _ | refine LeO.ite ?_ ?_ | refine LeO.bind ?_ (fun _ => ?_))
set_option maxHeartbeats 8000000 in
set_option maxRecDepth 100000 in
theorem name_Letter.calls (k : Nat) (a0 : Int) (r : Bool) (w : World) (h : name_Letter.f k a0 = some r) :
  Calls Tryd.prog 57 #[.int .i32 a0] w fun e w' => e = .returned (.bool r) ∧ Drawn0 w w' := by
 unfold name_Letter.f at h
 have H := h
 clear h
 replace H := bnA H
 obtain ⟨t132, A2, H⟩ := H
 have HC101 := Aside0.mk H
 clear H
 go_enter Tryd.func57, Tryd.ntmps57
 go_upto_if 3 with (first | ((with_reducible refine gate_callee (f := 72) rfl ?_); refine goesA (some 5) Tryd.func72 #[.int .i32 a0, .int .i32 65, .int .i32 90] ?_; (with_reducible refine (name_between.calls _ _ _ _ _ A2.out).mono ?_); rintro e w' ⟨rfl, ⟨nd, rfl⟩⟩; refine ⟨_, rfl, ?_⟩))
 (try simp only [Act.put, List.setIfInBounds_toArray, List.set_cons_zero, List.set_cons_succ])
 go_cut [3] (fun v3 wc => ∃ (kq : Nat) (x3_100 : Bool), v3 = .bool x3_100 ∧ Aside0 (name_Letter.j0 kq a0 x3_100 = some r) ∧ Aside0 (kq ≤ k) ∧ Drawn0 w wc)
 case first =>
  have H := HC101.out
  clear HC101
  revert H; refine itR ?L1p ?L1n
  case' L1p =>
   intro c102 H
   subst c102
   have H' := Aside0.mk H
   clear H
   go_wp2
   go_meet
   case rel => exact ⟨_, (true), (endS), H', ⟨by first | omega | exact Nat.le_refl _⟩, drA⟩
  case' L1n =>
   intro c102 H
   replace c102 := Bool.eq_false_iff.mpr c102
   subst c102
   replace H := bnA H
   obtain ⟨t133, A103, H⟩ := H
   have H' := Aside0.mk H
   clear H
   try go_wp2_with (first | ((with_reducible refine gate_callee (f := 72) rfl ?_); refine goesA (some 7) Tryd.func72 #[.int .i32 a0, .int .i32 97, .int .i32 122] ?_; (with_reducible refine (name_between.calls _ _ _ _ _ A103.out).mono ?_); rintro e w' ⟨rfl, ⟨nd, rfl⟩⟩; refine ⟨_, rfl, ?_⟩))
   go_meet
   case rel => exact ⟨_, (t133), (endS), H', ⟨by first | omega | exact Nat.le_refl _⟩, drA⟩
 case rest =>
  clear HC101
  try clear c1
  try clear p2
  try clear c5
  try clear c7
  try clear c10
  try clear c57
  try clear c72
  obtain ⟨kq, x3_100, rfl, HA, HJ100, ⟨mc100, rfl⟩⟩ := hcut
  cases kq with
  | zero => exact absurd HA.out (by simp [name_Letter.j0])
  | succ kj100 =>
   have H := HA.out
   clear HA
   simp only [name_Letter.j0] at H
   revert H; refine itR ?L10p ?L10n
   case' L10p =>
    intro c102 H
    subst c102
    obtain rfl := Option.some.inj H
    go_wp2
    go_ret
    exact ⟨endS, drA⟩
   case' L10n =>
    intro c102 H
    replace c102 := Bool.eq_false_iff.mpr c102
    subst c102
    replace H := bnA H
    obtain ⟨t134, A103, H⟩ := H
    revert H; refine itR ?L11p ?L11n
    case' L11p =>
     intro c104 H
     subst c104
     revert H; refine itQ ?L12p ?L12n
     case' L12p =>
      rintro ⟨c105b0, c105b1⟩ H
      obtain rfl := Option.some.inj H
      have M2 := True.intro
     case' L12n =>
      rintro ⟨c105b0, c105b1⟩ c105 H
      obtain rfl := Option.some.inj H
      have M2 := True.intro
    case' L11n =>
     intro c104 H
     replace c104 := Bool.eq_false_iff.mpr c104
     subst c104
     replace H := bnA H
     obtain ⟨t135, A105, H⟩ := H
     revert H; refine itR ?L13p ?L13n
     case' L13p =>
      intro c106 H
      subst c106
      obtain rfl := Option.some.inj H
      have M3 := True.intro
      have M4 := True.intro
     case' L13n =>
      intro c106 H
      replace c106 := Bool.eq_false_iff.mpr c106
      subst c106
      replace H := bnA H
      obtain ⟨t136, A107, H⟩ := H
      revert H; refine itR ?L14p ?L14n
      case' L14p =>
       intro c108 H
       subst c108
       obtain rfl := Option.some.inj H
       have M3 := True.intro
       have M5 := True.intro
       have M6 := True.intro
      case' L14n =>
       intro c108 H
       replace c108 := Bool.eq_false_iff.mpr c108
       subst c108
       replace H := bnA H
       obtain ⟨t137, A109, H⟩ := H
       revert H; refine itR ?L15p ?L15n
       case' L15p =>
        intro c110 H
        subst c110
        obtain rfl := Option.some.inj H
        have M3 := True.intro
        have M5 := True.intro
        have M7 := True.intro
        have M8 := True.intro
       case' L15n =>
        intro c110 H
        replace c110 := Bool.eq_false_iff.mpr c110
        subst c110
        replace H := bnA H
        obtain ⟨t138, A111, H⟩ := H
        obtain rfl := Option.some.inj H
        have M3 := True.intro
        have M5 := True.intro
        have M7 := True.intro
        have M9 := True.intro
   all_goals
    case _ =>
     go_wp2_with (first | ((with_reducible refine gate_callee (f := 72) rfl ?_); refine goesA (some 10) Tryd.func72 #[.int .i32 a0, .int .i32 192, .int .i32 591] ?_; (with_reducible refine (name_between.calls _ _ _ _ _ A103.out).mono ?_); rintro e w' ⟨rfl, ⟨nd, rfl⟩⟩; refine ⟨_, rfl, ?_⟩; apply stopA; (case other => exact True.intro)))
     case _ =>
      first
       | clear M2
         (try go_wp2_with (fail))
         go_ret
         exact ⟨endS, drA⟩
       | clear M3
         go_wp2_with (first | ((with_reducible refine gate_callee (f := 72) rfl ?_); refine goesA (some 19) Tryd.func72 #[.int .i32 a0, .int .i32 913, .int .i32 937] ?_; (with_reducible refine (name_between.calls _ _ _ _ _ A105.out).mono ?_); rintro e w' ⟨rfl, ⟨nd, rfl⟩⟩; refine ⟨_, rfl, ?_⟩; apply stopA; (case other => exact True.intro)))
         case _ =>
          first
           | clear M4
             (try go_wp2_with (fail))
             go_ret
             exact ⟨endS, drA⟩
           | clear M5
             go_wp2_with (first | ((with_reducible refine gate_callee (f := 72) rfl ?_); refine goesA (some 23) Tryd.func72 #[.int .i32 a0, .int .i32 945, .int .i32 969] ?_; (with_reducible refine (name_between.calls _ _ _ _ _ A107.out).mono ?_); rintro e w' ⟨rfl, ⟨nd, rfl⟩⟩; refine ⟨_, rfl, ?_⟩; apply stopA; (case other => exact True.intro)))
             case _ =>
              first
               | clear M6
                 (try go_wp2_with (fail))
                 go_ret
                 exact ⟨endS, drA⟩
               | clear M7
                 go_wp2_with (first | (go_at_call 72; (with_reducible refine (name_between.calls _ _ _ _ _ A109.out).mono ?_); rintro e w' ⟨rfl, ⟨nd, rfl⟩⟩; apply stopA; (case other => exact True.intro)))
                 case _ =>
                  first
                   | clear M8
                     (try go_wp2_with (fail))
                     go_ret
                     exact ⟨endS, drA⟩
                   | clear M9
                     try go_wp2_with (first | (go_at_call 72; (with_reducible refine (name_between.calls _ _ _ _ _ A111.out).mono ?_); rintro e w' ⟨rfl, ⟨nd, rfl⟩⟩))
                     go_ret
                     exact ⟨endS, drA⟩
/-! ### value_goesOn: function 44 -/
def value_goesOn.f (k : Nat) (a0 : ByteArray) : Option (Bool) := (utf8_DecodeRuneInString.f a0).bind fun bt139 => (if bt139.2 > 0 then ((name_Letter.f k bt139.1).bind fun t141 => (if t141 = true then (some true) else (if bt139.1 = 95 then (some true) else (if bt139.1 = 45 then (some true) else (if bt139.1 ≥ 48 then (some (decide (bt139.1 ≤ 57))) else (some false)))))) else (some false))
theorem value_goesOn.mono : ∀ a0 k, LeO (value_goesOn.f k a0) (value_goesOn.f (k + 1) a0) := by
 intro a0 k
 unfold value_goesOn.f
 repeat' (with_reducible first | exact name_Letter.mono _ _ | exact LeO.refl _ | exact LeO.none _ | refine LeO.ite ?_ ?_ | refine LeO.bind ?_ (fun _ => ?_))
set_option maxHeartbeats 8000000 in
set_option maxRecDepth 100000 in
theorem value_goesOn.calls (k : Nat) (a0 : ByteArray) (r : Bool) (w : World) (hT : Tabs w) (h : value_goesOn.f k a0 = some r) :
  Calls Tryd.prog 44 #[.string a0] w fun e w' => e = .returned (.bool r) ∧ Below w.heap.size w w' := by
 have HB := Aside0.mk (Below.refl w.heap.size w)
 unfold value_goesOn.f at h
 have H := h
 clear h
 have HT := Aside0.mk hT
 clear hT
 replace H := bnA H
 obtain ⟨⟨t139, t140⟩, A2, H⟩ := H
 dsimp only at H
 revert H; refine itR ?L3p ?L3n
 case' L3p =>
  intro c3 H
  have c3b0 := gtT c3
  clear c3
  replace H := bnA H
  obtain ⟨t141, A4, H⟩ := H
  revert H; refine itR ?L4p ?L4n
  case' L4p =>
   intro c5 H
   subst c5
   obtain rfl := Option.some.inj H
   have M1 := True.intro
  case' L4n =>
   intro c5 H
   replace c5 := Bool.eq_false_iff.mpr c5
   subst c5
   revert H; refine itQ ?L5p ?L5n
   case' L5p =>
    rintro ⟨c6b0, c6b1⟩ H
    obtain rfl := Option.some.inj H
    have M1 := True.intro
   case' L5n =>
    rintro ⟨c6b0, c6b1⟩ c6 H
    revert H; refine itQ ?L6p ?L6n
    case' L6p =>
     rintro ⟨c7b0, c7b1⟩ H
     obtain rfl := Option.some.inj H
     have M1 := True.intro
    case' L6n =>
     rintro ⟨c7b0, c7b1⟩ c7 H
     revert H; refine itR ?L7p ?L7n
     case' L7p =>
      intro c8 H
      have c8b0 := geT c8
      clear c8
      obtain rfl := Option.some.inj H
      have M1 := True.intro
     case' L7n =>
      intro c8 H
      have c8b0 := geF c8
      clear c8
      obtain rfl := Option.some.inj H
      have M1 := True.intro
 case' L3n =>
  intro c3 H
  have c3b0 := gtF c3
  clear c3
  obtain rfl := Option.some.inj H
  have M2 := True.intro
 all_goals
  case _ =>
   go_enter Tryd.func44, Tryd.ntmps44
   go_wp2_with (first | ((with_reducible refine gate_callee (f := 49) rfl ?_); refine goesA (some 7) Tryd.func49 #[.string a0] ?_; (with_reducible refine (utf8_DecodeRuneInString.calls _ _ _ _ ?side1 A2.out).mono ?_); (case side1 => exact Tabs.below HT.out (bwA)); rintro e w101 ⟨rfl, hb⟩; refine ⟨_, rfl, ?_⟩; replace HB := Aside0.mk (below_step (bwA) hb); (try clear hb); apply stopA; (case other => exact True.intro)))
   case _ =>
    first
     | clear M1
       try go_wp2_with (first | (go_at_call 57; (with_reducible refine (name_Letter.calls _ _ _ _ A4.out).mono ?_); rintro e w' ⟨rfl, ⟨nd, rfl⟩⟩))
       go_ret
       exact ⟨endA, bwA⟩
     | clear M2
       (try go_wp2_with (fail))
       go_ret
       exact ⟨endA, bwA⟩
/-! ### value_boolean: function 27 -/
def value_boolean.l0 : Nat → ByteArray → List ByteArray → Int → Int → Option (Int × Int × ByteArray × ByteArray × Int)
 | 0, _, _, _, _ => none
 | k + 1, x0, x9, x10, x11 => if x11 < x10 then (if 0 ≤ x11 then (if x11 < (x9.length : Int) then ((strings_CutPrefix.f x0 (rdOf ByteArray.empty x9 x11)).bind fun bt147 => (if bt147.2 = true then ((value_goesOn.f k bt147.1).bind fun t149 => (if t149 = true then (value_boolean.l0 k x0 x9 x10 (wrap64 (x11 + 1))) else (some (3, x11, (⟨#[]⟩ : ByteArray), bt147.1, 0)))) else (value_boolean.l0 k x0 x9 x10 (wrap64 (x11 + 1))))) else (none)) else (none)) else (some (0, 0, (⟨#[]⟩ : ByteArray), (⟨#[]⟩ : ByteArray), 3))
def value_boolean.f (k : Nat) (a0 : ByteArray) : Option (Int × Int × ByteArray × ByteArray × Int) := (some (([(⟨#[102, 97, 108, 115, 101]⟩ : ByteArray), (⟨#[116, 114, 117, 101]⟩ : ByteArray)] : List ByteArray) : List ByteArray)).bind fun y143 => (value_boolean.l0 k a0 y143 (y143.length : Int) 0)
theorem value_boolean.mono_l : ∀ k, (∀ y0 y1 y2 y3, LeO (value_boolean.l0 k y0 y1 y2 y3) (value_boolean.l0 (k + 1) y0 y1 y2 y3))
 | 0 => fun _ _ _ _ r h => by simp [value_boolean.l0] at h
 | k + 1 => by
  have ih0 := value_boolean.mono_l k
  ·intro y0 y1 y2 y3
   unfold value_boolean.l0
   repeat' (with_reducible first | exact ih0 _ _ _ _ | exact value_goesOn.mono _ _ | exact LeO.refl _ | exact LeO.none _ | refine LeO.ite ?_ ?_ | refine LeO.bind ?_ (fun _ => ?_))
theorem value_boolean.mono : ∀ a0 k, LeO (value_boolean.f k a0) (value_boolean.f (k + 1) a0) := by
 intro a0 k
 have ih0 := value_boolean.mono_l k
 unfold value_boolean.f
 repeat' (with_reducible first | exact ih0 _ _ _ _ | exact value_goesOn.mono _ _ | exact LeO.refl _ | exact LeO.none _ | refine LeO.ite ?_ ?_ | refine LeO.bind ?_ (fun _ => ?_))
set_option maxHeartbeats 8000000 in
set_option maxRecDepth 100000 in
theorem value_boolean.calls (k : Nat) (a0 : ByteArray) (r1 : Int) (r2 : Int) (r3 : ByteArray) (r4 : ByteArray) (r5 : Int) (w : World) (hT : Tabs w) (h : value_boolean.f k a0 = some (r1, r2, r3, r4, r5)) :
  Calls Tryd.prog 27 #[.string a0] w fun e w' => e = .returned (.tuple #[.agg #[.int .i64 r1, .int .i64 r2, .string r3], .string r4, .int .i64 r5]) ∧ Below w.heap.size w w' := by
 have hu26 := Tryd.underlying26
 have HB := Aside0.mk (Below.refl w.heap.size w)
 unfold value_boolean.f at h
 have H := h
 clear h
 have HT := Aside0.mk hT
 clear hT
 first | ((with_reducible replace H := bsG H); obtain ⟨y143, Ny143, H⟩ := H) | (obtain ⟨y143, hy143⟩ : ∃ y_ : List ByteArray, y_ = (([(⟨#[102, 97, 108, 115, 101]⟩ : ByteArray), (⟨#[116, 114, 117, 101]⟩ : ByteArray)] : List ByteArray)) := ⟨_, rfl⟩; rw [← hy143] at H; have Ny143 := Aside0.mk hy143; clear hy143)
 have H' := Aside0.mk H
 clear H
 go_enter Tryd.func27, Tryd.ntmps27
 try go_wp2_with (first | ((with_reducible refine gate_dst (N := 2) rfl ?_); refine boxB 2 #[.int .i64 0, .int .i64 0, .string (⟨#[]⟩ : ByteArray)] 26 HB ?_; clear HB; intro gb142 w101 BK142 GW142 GE142 HB) | ((with_reducible refine gate_dst (N := 9) rfl ?_); refine Kd.R_lit Kd.string _ 9 ?hg (N := 9) ?hd (xs := ([(⟨#[102, 97, 108, 115, 101]⟩ : ByteArray), (⟨#[116, 114, 117, 101]⟩ : ByteArray)] : List ByteArray)) (inner := [.string (⟨#[102, 97, 108, 115, 101]⟩ : ByteArray), .string (⟨#[116, 114, 117, 101]⟩ : ByteArray)]) (ok := fun _ => True) (okp := fun _ => True) ?hr ?hp (fun _ hk => hk) trivial (Below.refl _ _) (Nat.le_refl _) (by simp) ?_; (case hd => rfl); (case hg => rfl); (case hr => first | (go_simp; done) | (go_simp; rfl)); (case hp => exact (Reps.one (show Kd.M Kd.string _ _ _ (⟨#[102, 97, 108, 115, 101]⟩ : ByteArray) [.string (⟨#[102, 97, 108, 115, 101]⟩ : ByteArray)] from rfl) (Reps.one (show Kd.M Kd.string _ _ _ (⟨#[116, 114, 117, 101]⟩ : ByteArray) [.string (⟨#[116, 114, 117, 101]⟩ : ByteArray)] from rfl) (Reps.none _ _)))); intro v144 w102 ho103 hb hg_ hnew_; clear hg_ hnew_; (first | rw [← Ny143.out] at ho103 | (simp only [Int.reduceToNat] at ho103; rw [← Ny143.out] at ho103)); have HO145 := Aside0.mk (Kd.R_lower ho103 (below_size (bwA))); replace BK142 := Aside0.mk (bkB BK142 hb); replace HB := Aside0.mk (below_step (bwA) hb); clear hb ho103; obtain ⟨Ao104, co104, eo104⟩ := Kd.R_slice HO145.out; subst eo104))
 go_loopg [11] k (fun kq v11 w' => ∃ (x11_1 : Int) (x143000_1 : Int) (x143001_1 : Int) (x143002_1 : ByteArray), v11 = .int .i64 x11_1 ∧ Aside0 (value_boolean.l0 kq a0 y143 (y143.length : Int) x11_1 = some (r1, r2, r3, r4, r5)) ∧ Aside0 (kq ≤ k) ∧ Aside0 (Kd.R Kd.string 9 w' w.heap.size (fun _ => True) (.slice Ao104 y143.length co104) y143) ∧ Aside0 (w'.heap[gb142]? = some (.cells #[.int .i64 x143000_1, .int .i64 x143001_1, .string x143002_1] 26 (0, 0))) ∧ Aside0 (Below w.heap.size w w'))
 case atStart => exact ⟨(0), (0), (0), ((⟨#[]⟩ : ByteArray)), (endS), H', ⟨Nat.le_refl _⟩, ⟨by (with_reducible repeat (first | apply Kd.R_alloc | apply Kd.R_drewN | apply Kd.R_drew)); exact HO145.out⟩, ⟨blkZ⟩, ⟨bwA⟩⟩
 case round =>
  clear H'
  try clear c2
  try clear p2
  try clear c27
  obtain ⟨x11_1, x143000_1, x143001_1, x143002_1, rfl, HA, HK1, HO_9, BK142, HB⟩ := hrel
  cases gk with
  | zero => exact absurd HA.out (by simp [value_boolean.l0])
  | succ k1 =>
   have H := HA.out
   clear HA
   simp only [value_boolean.l0] at H
   revert H; refine itR ?L4p ?L4n
   case' L4p =>
    intro c105 H
    have c105b0 := decide_eq_true c105
    clear c105
    replace H := itN H
    obtain ⟨c106, H⟩ := H
    have c106b0 := decide_eq_true c106
    clear c106
    replace H := itN H
    obtain ⟨c107, H⟩ := H
    have c107b0 := decide_eq_true c107
    clear c107
    replace H := bnA H
    obtain ⟨⟨t147, t148⟩, A108, H⟩ := H
    dsimp only at H
    revert H; refine itR ?L5p ?L5n
    case' L5p =>
     intro c109 H
     subst c109
     replace H := bnA H
     obtain ⟨t149, A110, H⟩ := H
     revert H; refine itR ?L6p ?L6n
     case' L6p =>
      intro c111 H
      subst c111
      have H' := Aside0.mk H
      clear H
      have M1 := True.intro
     case' L6n =>
      intro c111 H
      replace c111 := Bool.eq_false_iff.mpr c111
      subst c111
      obtain ⟨rfl, rfl, rfl, rfl, rfl⟩ := sJ5 H
      have M2 := True.intro
    case' L5n =>
     intro c109 H
     replace c109 := Bool.eq_false_iff.mpr c109
     subst c109
     have H' := Aside0.mk H
     clear H
     have M3 := True.intro
   case' L4n =>
    intro c105 H
    have c105b0 := decide_eq_false c105
    clear c105
    obtain ⟨rfl, rfl, rfl, rfl, rfl⟩ := sJ5 H
    obtain ⟨hcz201_0, hcz201_1, hcz201_2⟩ := cel3 BK142.out
    obtain ⟨hfz201_0, hfz201_1, hfz201_2⟩ := frz3 BK142.out
    go_wp2
    refine bodyPost_ret (results_ctt rfl _ _ gb142 26 #[.int .i64 0, .int .i64 0, .string (⟨#[]⟩ : ByteArray)] (0, 0) _ rfl blkZ Tryd.underlying26 rfl (by kernel_rfl)) rfl ?_
    exact ⟨endA, bwA⟩
   all_goals
    case _ =>
     have p146 : 0 ≤ (x11_1 : Int) := odA
     have q146 : x11_1 < (y143.length : Int) := odA
     obtain ⟨ad146, e146, hx146_0⟩ := Kd.at_string (Kd.R_reads' HO_9.out).2.2 x11_1 p146 q146
     cases e146
     replace p146 := eq_true p146
     replace q146 := eq_true q146
     go_wp2_with (first | ((with_reducible refine gate_callee (f := 43) rfl ?_); refine goesA (some 19) Tryd.func43 #[.string a0, .string (rdOf ByteArray.empty y143 x11_1)] ?_; (with_reducible refine (strings_CutPrefix.calls _ _ _ _ _ A108.out).mono ?_); rintro e w' ⟨rfl, ⟨nd, rfl⟩⟩; refine ⟨_, rfl, ?_⟩; apply stopA; (case other => exact True.intro)))
     case _ =>
      first
       | clear M1
         try go_wp2_with (first | (go_at_call 44; (with_reducible refine (value_goesOn.calls _ _ _ _ ?side1 A110.out).mono ?_); (case side1 => exact Tabs.below HT.out (bwA)); rintro e w201 ⟨rfl, hb⟩; replace HO_9 := Aside0.mk (Kd.R_below (raA HO_9.out) hb); replace BK142 := Aside0.mk (bkB BK142 hb); replace HB := Aside0.mk (below_step (bwA) hb); (try clear hb)))
         go_roundg k1
         case measure => have := HK1.out; omega
         case rel => exact ⟨(wrap64 (x11_1 + 1)), (x143000_1), (x143001_1), (x143002_1), (endS), H', ⟨by have := HK1.out; omega⟩, ⟨by (with_reducible repeat (first | apply Kd.R_alloc | apply Kd.R_drewN | apply Kd.R_drew)); exact HO_9.out⟩, ⟨blkZ⟩, ⟨bwA⟩⟩
       | clear M2
         (try (rw [drewN_self wr]; generalize hq_ : World.drewN wr _ = wr; have n0_ : Aside0 (Kd.R Kd.string 9 wr w.heap.size (fun _ => True) (.slice (some ad146) y143.length co104) y143) := ⟨by rw [← hq_]; exact (raA HO_9.out)⟩; have n1_ : Aside0 (wr.heap[gb142]? = some (.cells #[.int .i64 x143000_1, .int .i64 x143001_1, .string x143002_1] 26 (0, 0))) := ⟨by rw [← hq_]; exact blkA⟩; have n2_ : Aside0 (Below w.heap.size w wr) := ⟨by rw [← hq_]; exact (bwA)⟩; clear HO_9 BK142 HB hq_; have HO_9 := n0_; have BK142 := n1_; have HB := n2_; clear n0_ n1_ n2_))
         try go_wp2_with (first | (go_at_call 44; (with_reducible refine (value_goesOn.calls _ _ _ _ ?side1 A110.out).mono ?_); (case side1 => exact Tabs.below HT.out (bwA)); rintro e w201 ⟨rfl, hb⟩; replace HO_9 := Aside0.mk (Kd.R_below (raA HO_9.out) hb); replace BK142 := Aside0.mk (bkB BK142 hb); replace HB := Aside0.mk (below_step (bwA) hb); (try clear hb); obtain ⟨hcz202_0, hcz202_1, hcz202_2⟩ := cel3 BK142.out; obtain ⟨hfz202_0, hfz202_1, hfz202_2⟩ := frz3 BK142.out))
         refine bodyPost_ret (results_ctt rfl _ _ gb142 26 #[.int .i64 3, .int .i64 x11_1, .string (⟨#[]⟩ : ByteArray)] (0, 0) _ rfl blkZ Tryd.underlying26 rfl (by kernel_rfl)) rfl ?_
         exact ⟨endA, bwA⟩
       | clear M3
         (try go_wp2_with (fail))
         go_roundg k1
         case measure => have := HK1.out; omega
         case rel => exact ⟨(wrap64 (x11_1 + 1)), (x143000_1), (x143001_1), (x143002_1), (endS), H', ⟨by have := HK1.out; omega⟩, ⟨by (with_reducible repeat (first | apply Kd.R_alloc | apply Kd.R_drewN | apply Kd.R_drew)); exact HO_9.out⟩, ⟨blkZ⟩, ⟨bwA⟩⟩
end Go.Proofs.YtlejenoibblhnaaDoor.A
