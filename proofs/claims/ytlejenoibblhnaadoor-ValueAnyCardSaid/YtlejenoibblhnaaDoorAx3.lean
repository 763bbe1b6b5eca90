-- By drv.py, the session's own driver round the kit's print: the machine's side of the laws, function by function. Not trusted: Lean checks it.
import Derived.Test.YtlejenoibblhnaaDoorAx0
import Derived.Test.YtlejenoibblhnaaDoorAx2
namespace Go.Proofs.YtlejenoibblhnaaDoor.A
open Go.RowKit Go.Proofs.YtlejenoibblhnaaDoorW.PrintWords Go.Proofs.YtlejenoibblhnaaDoorW.PrintLast Go.Proofs.YtlejenoibblhnaaDoorW.PrintMore
attribute [local go_sem] max2_int min2_int max_two min_two max_three min_three max_four min_four   -- for this text's walks alone
set_option linter.unusedVariables false
set_option linter.unusedSimpArgs false

/-! ### value_numbered: function 64 -/
def value_numbered.l0 : Nat → ByteArray → Int → Int → Option (Int × Int)
 | 0, _, _, _ => none
 | k + 1, x0, x4, x5 => if x5 < (x0.size : Int) then (if x5 < 6 then (if 0 ≤ x5 then ((value_digit.f (bt x0 x5)).bind fun t103 => (if t103 ≥ 0 then ((value_digit.f (bt x0 x5)).bind fun t104 => (value_numbered.l0 k x0 (Go.bits .or .i64 (wrap64 (x4 * 16)) t104) (wrap64 (x5 + 1)))) else (if x5 = 0 then (some (0, 0)) else (if x5 = (x0.size : Int) then (some (0, 0)) else (if (bt x0 x5) = 125 then (if 0 < (x0.size : Int) then (if (bt x0 0) = 48 then (if x5 > 1 then (some (0, 0)) else (if x4 > 1114111 then (some (0, 0)) else (some (wrap32 (x4), wrap64 (x5 + 1))))) else (if x4 > 1114111 then (some (0, 0)) else (some (wrap32 (x4), wrap64 (x5 + 1))))) else (none)) else (some (0, 0))))))) else (none)) else (if x5 = 0 then (some (0, 0)) else (if x5 = (x0.size : Int) then (some (0, 0)) else (if 0 ≤ x5 then (if (bt x0 x5) = 125 then (if 0 < (x0.size : Int) then (if (bt x0 0) = 48 then (if x5 > 1 then (some (0, 0)) else (if x4 > 1114111 then (some (0, 0)) else (some (wrap32 (x4), wrap64 (x5 + 1))))) else (if x4 > 1114111 then (some (0, 0)) else (some (wrap32 (x4), wrap64 (x5 + 1))))) else (none)) else (some (0, 0))) else (none))))) else (if x5 = 0 then (some (0, 0)) else (if x5 = (x0.size : Int) then (some (0, 0)) else (if 0 ≤ x5 then (none) else (none))))
def value_numbered.f (k : Nat) (a0 : ByteArray) : Option (Int × Int) := value_numbered.l0 k a0 0 0
theorem value_numbered.mono_l : ∀ k, (∀ y0 y1 y2, LeO (value_numbered.l0 k y0 y1 y2) (value_numbered.l0 (k + 1) y0 y1 y2))
 | 0 => fun _ _ _ r h => by simp [value_numbered.l0] at h
 | k + 1 => by
  have ih0 := value_numbered.mono_l k
  ·intro y0 y1 y2
   unfold value_numbered.l0
   repeat' (with_reducible first | exact ih0 _ _ _ | exact LeO.refl _ | exact LeO.none _ | refine LeO.ite ?_ ?_ | refine LeO.bind ?_ (fun _ => ?_))
theorem value_numbered.mono : ∀ a0 k, LeO (value_numbered.f k a0) (value_numbered.f (k + 1) a0) := by
 intro a0 k
 have ih0 := value_numbered.mono_l k
 unfold value_numbered.f
 repeat' (with_reducible first | exact ih0 _ _ _ | exact LeO.refl _ | exact LeO.none _ | refine LeO.ite ?_ ?_ | refine LeO.bind ?_ (fun _ => ?_))
set_option maxHeartbeats 8000000 in
set_option maxRecDepth 100000 in
theorem value_numbered.calls (k : Nat) (a0 : ByteArray) (r1 : Int) (r2 : Int) (w : World) (h : value_numbered.f k a0 = some (r1, r2)) :
  Calls Tryd.prog 64 #[.string a0] w fun e w' => e = .returned (.tuple #[.int .i32 r1, .int .i64 r2]) ∧ Drawn0 w w' := by
 unfold value_numbered.f at h
 have H := h
 clear h
 have H' := Aside0.mk H
 clear H
 go_enter Tryd.func64, Tryd.ntmps64
 go_wp2
 go_loopg [4, 5] k (fun kq v4 v5 w' => ∃ (x4_1 : Int) (x5_1 : Int), v4 = .int .i64 x4_1 ∧ v5 = .int .i64 x5_1 ∧ Aside0 (value_numbered.l0 kq a0 x4_1 x5_1 = some (r1, r2)) ∧ Aside0 (kq ≤ k) ∧ Drawn0 w w')
 case atStart => exact ⟨(0), (0), (endS), (endS), H', ⟨Nat.le_refl _⟩, drA⟩
 case round =>
  clear H'
  try clear p2
  try clear c6
  try clear c64
  obtain ⟨x4_1, x5_1, rfl, rfl, HA, HK1, ⟨m1, rfl⟩⟩ := hrel
  cases gk with
  | zero => exact absurd HA.out (by simp [value_numbered.l0])
  | succ k1 =>
   have H := HA.out
   clear HA
   simp only [value_numbered.l0] at H
   revert H; refine itR ?L11p ?L11n
   case' L11p =>
    intro c101 H
    have c101b0 := decide_eq_true c101
    clear c101
    revert H; refine itR ?L12p ?L12n
    case' L12p =>
     intro c102 H
     have c102b0 := decide_eq_true c102
     clear c102
     replace H := itN H
     obtain ⟨c103, H⟩ := H
     have c103b0 := decide_eq_true c103
     clear c103
     replace H := bnA H
     obtain ⟨t103, A105, H⟩ := H
     revert H; refine itR ?L13p ?L13n
     case' L13p =>
      intro c106 H
      have c106b0 := geT c106
      clear c106
      replace H := bnA H
      obtain ⟨t104, A108, H⟩ := H
      have H' := Aside0.mk H
      clear H
      have M1 := True.intro
      have M2 := True.intro
     case' L13n =>
      intro c106 H
      have c106b0 := geF c106
      clear c106
      revert H; refine itQ ?L14p ?L14n
      case' L14p =>
       rintro ⟨c107b0, c107b1⟩ H
       obtain ⟨rfl, rfl⟩ := sJ2 H
       have M1 := True.intro
       have M3 := True.intro
      case' L14n =>
       rintro ⟨c107b0, c107b1⟩ c107 H
       revert H; refine itQ ?L15p ?L15n
       case' L15p =>
        rintro ⟨c108b0, c108b1⟩ H
        obtain ⟨rfl, rfl⟩ := sJ2 H
        have M1 := True.intro
        have M3 := True.intro
       case' L15n =>
        rintro ⟨c108b0, c108b1⟩ c108 H
        revert H; refine itQ ?L16p ?L16n
        case' L16p =>
         rintro ⟨c110b0, c110b1⟩ H
         replace H := itN H
         obtain ⟨c111, H⟩ := H
         have c111b0 := decide_eq_true c111
         have c111b1 : decide (0 < a0.size) = true := decide_eq_true (by omega)
         clear c111
         revert H; refine itQ ?L17p ?L17n
         case' L17p =>
          rintro ⟨c113b0, c113b1⟩ H
          revert H; refine itR ?L18p ?L18n
          case' L18p =>
           intro c114 H
           have c114b0 := gtT c114
           clear c114
           obtain ⟨rfl, rfl⟩ := sJ2 H
           have M1 := True.intro
           have M4 := True.intro
           have M5 := True.intro
          case' L18n =>
           intro c114 H
           have c114b0 := gtF c114
           clear c114
           revert H; refine itR ?L19p ?L19n
           case' L19p =>
            intro c115 H
            have c115b0 := gtT c115
            clear c115
            obtain ⟨rfl, rfl⟩ := sJ2 H
            have M1 := True.intro
            have M4 := True.intro
            have M5 := True.intro
           case' L19n =>
            intro c115 H
            have c115b0 := gtF c115
            clear c115
            obtain ⟨rfl, rfl⟩ := sJ2 H
            have M1 := True.intro
            have M4 := True.intro
            have M5 := True.intro
         case' L17n =>
          rintro ⟨c113b0, c113b1⟩ c113 H
          revert H; refine itR ?L20p ?L20n
          case' L20p =>
           intro c114 H
           have c114b0 := gtT c114
           clear c114
           obtain ⟨rfl, rfl⟩ := sJ2 H
           have M1 := True.intro
           have M4 := True.intro
           have M5 := True.intro
          case' L20n =>
           intro c114 H
           have c114b0 := gtF c114
           clear c114
           obtain ⟨rfl, rfl⟩ := sJ2 H
           have M1 := True.intro
           have M4 := True.intro
           have M5 := True.intro
        case' L16n =>
         rintro ⟨c110b0, c110b1⟩ c110 H
         obtain ⟨rfl, rfl⟩ := sJ2 H
         have M1 := True.intro
         have M4 := True.intro
         have M6 := True.intro
    case' L12n =>
     intro c102 H
     have c102b0 := decide_eq_false c102
     clear c102
     revert H; refine itQ ?L21p ?L21n
     case' L21p =>
      rintro ⟨c103b0, c103b1⟩ H
      obtain ⟨rfl, rfl⟩ := sJ2 H
      have M7 := True.intro
     case' L21n =>
      rintro ⟨c103b0, c103b1⟩ c103 H
      revert H; refine itQ ?L22p ?L22n
      case' L22p =>
       rintro ⟨c104b0, c104b1⟩ H
       obtain ⟨rfl, rfl⟩ := sJ2 H
       have M7 := True.intro
      case' L22n =>
       rintro ⟨c104b0, c104b1⟩ c104 H
       replace H := itN H
       obtain ⟨c105, H⟩ := H
       have c105b0 := decide_eq_true c105
       clear c105
       revert H; refine itQ ?L23p ?L23n
       case' L23p =>
        rintro ⟨c107b0, c107b1⟩ H
        replace H := itN H
        obtain ⟨c108, H⟩ := H
        have c108b0 := decide_eq_true c108
        have c108b1 : decide (0 < a0.size) = true := decide_eq_true (by omega)
        clear c108
        revert H; refine itQ ?L24p ?L24n
        case' L24p =>
         rintro ⟨c110b0, c110b1⟩ H
         revert H; refine itR ?L25p ?L25n
         case' L25p =>
          intro c111 H
          have c111b0 := gtT c111
          clear c111
          obtain ⟨rfl, rfl⟩ := sJ2 H
          have M8 := True.intro
          have M9 := True.intro
         case' L25n =>
          intro c111 H
          have c111b0 := gtF c111
          clear c111
          revert H; refine itR ?L26p ?L26n
          case' L26p =>
           intro c112 H
           have c112b0 := gtT c112
           clear c112
           obtain ⟨rfl, rfl⟩ := sJ2 H
           have M8 := True.intro
           have M9 := True.intro
          case' L26n =>
           intro c112 H
           have c112b0 := gtF c112
           clear c112
           obtain ⟨rfl, rfl⟩ := sJ2 H
           have M8 := True.intro
           have M9 := True.intro
        case' L24n =>
         rintro ⟨c110b0, c110b1⟩ c110 H
         revert H; refine itR ?L27p ?L27n
         case' L27p =>
          intro c111 H
          have c111b0 := gtT c111
          clear c111
          obtain ⟨rfl, rfl⟩ := sJ2 H
          have M8 := True.intro
          have M9 := True.intro
         case' L27n =>
          intro c111 H
          have c111b0 := gtF c111
          clear c111
          obtain ⟨rfl, rfl⟩ := sJ2 H
          have M8 := True.intro
          have M9 := True.intro
       case' L23n =>
        rintro ⟨c107b0, c107b1⟩ c107 H
        obtain ⟨rfl, rfl⟩ := sJ2 H
        have M8 := True.intro
        have M10 := True.intro
   case' L11n =>
    intro c101 H
    have c101b0 := decide_eq_false c101
    clear c101
    revert H; refine itQ ?L28p ?L28n
    case' L28p =>
     rintro ⟨c102b0, c102b1⟩ H
     obtain ⟨rfl, rfl⟩ := sJ2 H
     have M7 := True.intro
    case' L28n =>
     rintro ⟨c102b0, c102b1⟩ c102 H
     revert H; refine itQ ?L29p ?L29n
     case' L29p =>
      rintro ⟨c103b0, c103b1⟩ H
      obtain ⟨rfl, rfl⟩ := sJ2 H
      have M7 := True.intro
     case' L29n =>
      rintro ⟨c103b0, c103b1⟩ c103 H
      replace H := itN H
      exact absurd H.2 (by simp)
   all_goals
    case _ =>
     first
      | clear M1
        have p104 : 0 ≤ (x5_1 : Int) := odA
        have q104 : x5_1 < (a0.size : Int) := odA
        have hx104 := bt_at a0 x5_1
        replace p104 := eq_true p104
        replace q104 := eq_true q104
        go_wp2_with (first | (go_at_call 39; (with_reducible refine (value_digit.calls _ _ _ A105.out).mono ?_); rintro e w' ⟨rfl, ⟨nd, rfl⟩⟩; apply stopA; (case other => exact True.intro)))
        case _ =>
         first
          | clear M2
            have p107 : 0 ≤ (x5_1 : Int) := odA
            have q107 : x5_1 < (a0.size : Int) := odA
            have hx107 := bt_at a0 x5_1
            replace p107 := eq_true p107
            replace q107 := eq_true q107
            try go_wp2_with (first | ((with_reducible refine gate_callee (f := 39) rfl ?_); refine goesA (some 26) Tryd.func39 #[.int .u8 (bt a0 x5_1)] ?_; (with_reducible refine (value_digit.calls _ _ _ A108.out).mono ?_); rintro e w' ⟨rfl, ⟨nd, rfl⟩⟩; refine ⟨_, rfl, ?_⟩))
            go_roundg k1
            case measure => have := HK1.out; omega
            case rel => exact ⟨(Go.bits .or .i64 (wrap64 (x4_1 * 16)) t104), (wrap64 (x5_1 + 1)), (endS), (endS), H', ⟨by have := HK1.out; omega⟩, drA⟩
          | clear M3
            (try go_wp2_with (fail))
            go_ret2
            exact ⟨endS, drA⟩
          | clear M4
            have p109 : 0 ≤ (x5_1 : Int) := odA
            have q109 : x5_1 < (a0.size : Int) := odA
            have hx109 := bt_at a0 x5_1
            replace p109 := eq_true p109
            replace q109 := eq_true q109
            first
             | clear M5
               have p112 : 0 ≤ (0 : Int) := (by omega)
               have q112 : 0 < a0.size := (by have : (0 : Int) < (a0.size : Int) := odA; omega)
               have hx112 : ∀ h : 0 < a0.size, ((a0[0]'h).toNat : Int) = bt a0 0 := bt_at a0 0
               clear p112
               have qi112 : (0 < (a0.size : Int)) = True := eq_true (odA)
               replace q112 := eq_true q112
               (try go_wp2_with (fail))
               go_ret2
               exact ⟨endS, drA⟩
             | clear M6
               (try go_wp2_with (fail))
               go_ret2
               exact ⟨endS, drA⟩
      | clear M7
        go_wp2
        go_ret2
        exact ⟨endS, drA⟩
      | clear M8
        have p106 : 0 ≤ (x5_1 : Int) := odA
        have q106 : x5_1 < (a0.size : Int) := odA
        have hx106 := bt_at a0 x5_1
        replace p106 := eq_true p106
        replace q106 := eq_true q106
        first
         | clear M9
           have p109 : 0 ≤ (0 : Int) := (by omega)
           have q109 : 0 < a0.size := (by have : (0 : Int) < (a0.size : Int) := odA; omega)
           have hx109 : ∀ h : 0 < a0.size, ((a0[0]'h).toNat : Int) = bt a0 0 := bt_at a0 0
           clear p109
           have qi109 : (0 < (a0.size : Int)) = True := eq_true (odA)
           replace q109 := eq_true q109
           go_wp2
           go_ret2
           exact ⟨endS, drA⟩
         | clear M10
           go_wp2
           go_ret2
           exact ⟨endS, drA⟩
end Go.Proofs.YtlejenoibblhnaaDoor.A
