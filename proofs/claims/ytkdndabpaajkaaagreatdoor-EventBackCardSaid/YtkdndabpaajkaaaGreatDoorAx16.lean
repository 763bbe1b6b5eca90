-- By drv.py, the session's own driver round the kit's print: the machine's side of the laws, function by function. Not trusted: Lean checks it.
import Derived.Test.YtkdndabpaajkaaaGreatDoorAx0
namespace Go.Proofs.YtkdndabpaajkaaaGreatDoor.A
open Go.RowKit Go.Proofs.YtkdndabpaajkaaaGreatDoorW.PrintWords Go.Proofs.YtkdndabpaajkaaaGreatDoorW.PrintLast Go.Proofs.YtkdndabpaajkaaaGreatDoorW.PrintMore
attribute [local go_sem] max2_int min2_int max_two min_two max_three min_three max_four min_four   -- for this text's walks alone
set_option linter.unusedVariables false
set_option linter.unusedSimpArgs false

/-! ### strings_Cut: function 132, by hand -/
def strings_Cut.f (a0 : ByteArray) (a1 : ByteArray) : Option (ByteArray × ByteArray × Bool) := if a0.size < 4294967281 then some (⟨(Lib.cut a0.data.toList a1.data.toList).1.toArray⟩, ⟨(Lib.cut a0.data.toList a1.data.toList).2.1.toArray⟩, (Lib.cut a0.data.toList a1.data.toList).2.2) else none
theorem strings_Cut.calls (a0 : ByteArray) (a1 : ByteArray) (r1 : ByteArray) (r2 : ByteArray) (r3 : Bool) (w : World) (hT : Tabs w) (h : strings_Cut.f a0 a1 = some (r1, r2, r3)) :
  Calls Tryz.prog 132 #[.string a0, .string a1] w fun e w' => e = .returned (.tuple #[.string r1, .string r2, .bool r3]) ∧ Drawn0 w w' := by
 unfold strings_Cut.f at h
 split at h
 ·rename_i hs
  have h := Option.some.inj h
  simp only [Prod.mk.injEq] at h
  obtain ⟨rfl, rfl, rfl⟩ := h
  obtain ⟨m, hm⟩ := hT.ml
  exact (Tryz.strings_Cut a0 a1 m w hs hm).mono fun e w' ⟨he, n, hw⟩ => ⟨he, ⟨n, hw⟩⟩
 ·cases h

/-! ### stringslite_HasPrefix: function 259 -/
def stringslite_HasPrefix.f (a0 : ByteArray) (a1 : ByteArray) : Option (Bool) := if (a0.size : Int) ≥ (a1.size : Int) then (if 0 ≤ (a1.size : Int) then (if (a1.size : Int) ≤ (a0.size : Int) then (some ((a0.extract 0 ((a1.size : Int) : Int).toNat).toList == a1.toList)) else (none)) else (none)) else (some false)
set_option maxHeartbeats 8000000 in
set_option maxRecDepth 100000 in
theorem stringslite_HasPrefix.calls (a0 : ByteArray) (a1 : ByteArray) (r : Bool) (w : World) (h : stringslite_HasPrefix.f a0 a1 = some r) :
  Calls Tryz.prog 259 #[.string a0, .string a1] w fun e w' => e = .returned (.bool r) ∧ Drawn0 w w' := by
 unfold stringslite_HasPrefix.f at h
 have H := h
 clear h
 revert H; refine itR ?L1p ?L1n
 case' L1p =>
  intro c3 H
  have c3b0 := geT c3
  have c3b1 : decide (a1.size ≤ a0.size) = true := decide_eq_true (Int.ofNat_le.mp c3)
  clear c3
  replace H := itN H
  obtain ⟨c4, H⟩ := H
  have c4b0 := eq_true c4
  have c4b1 := decide_eq_true c4
  clear c4
  replace H := itN H
  obtain ⟨c5, H⟩ := H
  have c5b0 := eq_true c5
  have c5b1 := decide_eq_true c5
  clear c5
  obtain rfl := Option.some.inj H
 case' L1n =>
  intro c3 H
  have c3b0 := geF c3
  have c3b1 : decide (a1.size ≤ a0.size) = false := decide_eq_false (fun h => c3 (Int.ofNat_le.mpr h))
  clear c3
  obtain rfl := Option.some.inj H
 all_goals
  case _ =>
   go_enter Tryz.func259, Tryz.ntmps259
   go_wp2
   go_ret
   exact ⟨endS, drA⟩
/-! ### strings_HasPrefix: function 233 -/
def strings_HasPrefix.f (a0 : ByteArray) (a1 : ByteArray) : Option (Bool) := (stringslite_HasPrefix.f a0 a1).bind fun t193 => (some t193)
set_option maxHeartbeats 8000000 in
set_option maxRecDepth 100000 in
theorem strings_HasPrefix.calls (a0 : ByteArray) (a1 : ByteArray) (r : Bool) (w : World) (h : strings_HasPrefix.f a0 a1 = some r) :
  Calls Tryz.prog 233 #[.string a0, .string a1] w fun e w' => e = .returned (.bool r) ∧ Drawn0 w w' := by
 unfold strings_HasPrefix.f at h
 have H := h
 clear h
 replace H := Option.bind_eq_some_iff.mp H
 obtain ⟨t193, A30, H⟩ := H
 replace H : (some t193) = some r := H
 have A3 := Aside0.mk A30
 clear A30
 obtain rfl := Option.some.inj H
 go_enter Tryz.func233, Tryz.ntmps233
 go_wp2_with (first | ((with_reducible refine gate_callee (f := 259) rfl ?_); refine goesA (some 7) Tryz.func259 #[.string a0, .string a1] ?_; (with_reducible refine (stringslite_HasPrefix.calls a0 a1 t193 _ A3.out).mono ?_); rintro e w' ⟨rfl, ⟨nd, rfl⟩⟩; refine ⟨_, rfl, ?_⟩))
 go_ret
 exact ⟨endS, drA⟩

/-! ### utf8_DecodeRuneInString: function 266, by hand -/
def utf8_DecodeRuneInString.f (a0 : ByteArray) : Option (Int × Int) := some (((Lib.decodeGo a0).1 : Int), ((Lib.decodeGo a0).2 : Int))
theorem utf8_DecodeRuneInString.calls (a0 : ByteArray) (r1 : Int) (r2 : Int) (w : World) (hT : Tabs w) (h : utf8_DecodeRuneInString.f a0 = some (r1, r2)) :
  Calls Tryz.prog 266 #[.string a0] w fun e w' => e = .returned (.tuple #[.int .i32 r1, .int .i64 r2]) ∧ Below w.heap.size w w' := by
 have h := Option.some.inj h
 simp only [Prod.mk.injEq] at h
 obtain ⟨rfl, rfl⟩ := h
 exact Tryz.utf8_DecodeRuneInString a0 w hT.u8

/-! ### strings_IndexByte: function 280, by hand -/
def strings_IndexByte.f (a0 : ByteArray) (a1 : Int) : Option Int := some (Lib.indexByte a0.data.toList a1.toNat.toUInt8)
theorem strings_IndexByte.calls (a0 : ByteArray) (a1 : Int) (r : Int) (w : World) (h : strings_IndexByte.f a0 a1 = some r) :
  Calls Tryz.prog 280 #[.string a0, .int .u8 a1] w fun e w' => e = .returned (.int .i64 r) ∧ Drawn0 w w' := by
 obtain rfl := Option.some.inj h
 refine (Tryz.strings_IndexByte a0 a1 w).mono ?_
 rintro e w' ⟨he, rfl⟩
 exact ⟨he, Drawn0.refl _⟩

/-! ### value_digit: function 260 -/
def value_digit.f (a0 : Int) : Option (Int) := (strings_IndexByte.f (⟨#[48, 49, 50, 51, 52, 53, 54, 55, 56, 57, 97, 98, 99, 100, 101, 102]⟩ : ByteArray) a0).bind fun t194 => (some t194)
set_option maxHeartbeats 8000000 in
set_option maxRecDepth 100000 in
theorem value_digit.calls (a0 : Int) (r : Int) (w : World) (h : value_digit.f a0 = some r) :
  Calls Tryz.prog 260 #[.int .u8 a0] w fun e w' => e = .returned (.int .i64 r) ∧ Drawn0 w w' := by
 unfold value_digit.f at h
 have H := h
 clear h
 replace H := Option.bind_eq_some_iff.mp H
 obtain ⟨t194, A20, H⟩ := H
 replace H : (some t194) = some r := H
 have A2 := Aside0.mk A20
 clear A20
 obtain rfl := Option.some.inj H
 go_enter Tryz.func260, Tryz.ntmps260
 go_wp2_with (first | ((with_reducible refine gate_callee (f := 280) rfl ?_); refine goesA (some 4) Tryz.func280 #[.string (⟨#[48, 49, 50, 51, 52, 53, 54, 55, 56, 57, 97, 98, 99, 100, 101, 102]⟩ : ByteArray), .int .u8 a0] ?_; (with_reducible refine (strings_IndexByte.calls (⟨#[48, 49, 50, 51, 52, 53, 54, 55, 56, 57, 97, 98, 99, 100, 101, 102]⟩ : ByteArray) a0 t194 _ A2.out).mono ?_); rintro e w' ⟨rfl, ⟨nd, rfl⟩⟩; refine ⟨_, rfl, ?_⟩))
 go_ret
 exact ⟨endS, drA⟩

/-! ### value_numbered: function 289 -/
def value_numbered.l0 : Nat → ByteArray → Int → Int → Option (Int × Int)
 | 0, _, _, _ => none
 | k + 1, x0, x4, x5 => if x5 < (x0.size : Int) then (if x5 < 6 then (if 0 ≤ x5 then ((value_digit.f (bt x0 x5)).bind fun t195 => (if t195 ≥ 0 then ((value_digit.f (bt x0 x5)).bind fun t196 => (value_numbered.l0 k x0 (Go.bits .or .i64 (wrap64 (x4 * 16)) t196) (wrap64 (x5 + 1)))) else (if x5 = 0 then (some (0, 0)) else (if x5 = (x0.size : Int) then (some (0, 0)) else (if (bt x0 x5) = 125 then (if 0 < (x0.size : Int) then (if (bt x0 0) = 48 then (if x5 > 1 then (some (0, 0)) else (if x4 > 1114111 then (some (0, 0)) else (some (wrap32 (x4), wrap64 (x5 + 1))))) else (if x4 > 1114111 then (some (0, 0)) else (some (wrap32 (x4), wrap64 (x5 + 1))))) else (none)) else (some (0, 0))))))) else (none)) else (if x5 = 0 then (some (0, 0)) else (if x5 = (x0.size : Int) then (some (0, 0)) else (if 0 ≤ x5 then (if (bt x0 x5) = 125 then (if 0 < (x0.size : Int) then (if (bt x0 0) = 48 then (if x5 > 1 then (some (0, 0)) else (if x4 > 1114111 then (some (0, 0)) else (some (wrap32 (x4), wrap64 (x5 + 1))))) else (if x4 > 1114111 then (some (0, 0)) else (some (wrap32 (x4), wrap64 (x5 + 1))))) else (none)) else (some (0, 0))) else (none))))) else (if x5 = 0 then (some (0, 0)) else (if x5 = (x0.size : Int) then (some (0, 0)) else (if 0 ≤ x5 then (none) else (none))))
def value_numbered.f (k : Nat) (a0 : ByteArray) : Option (Int × Int) := value_numbered.l0 k a0 0 0
theorem value_numbered.mono_l : ∀ k, (∀ y0 y1 y2, LeO (value_numbered.l0 k y0 y1 y2) (value_numbered.l0 (k + 1) y0 y1 y2))
 | 0 => fun _ _ _ r h => by simp [value_numbered.l0] at h
 | k + 1 => by
  have ih0 := value_numbered.mono_l k
  ·intro y0 y1 y2
   unfold value_numbered.l0
   repeat' (with_reducible first | exact ih0 _ _ _ | exact LeO.refl _ | exact LeO.none _ | refine LeO.ite ?_ ?_ | refine LeO.bind ?_ (fun _ => ?_))
theorem value_numbered.mono : ∀ a0 k, LeO (value_numbered.f k a0) (value_numbered.f (k + 1) a0) := by
 intro a0 k
 have ih0 := value_numbered.mono_l k
 unfold value_numbered.f
 repeat' (with_reducible first | exact ih0 _ _ _ | exact LeO.refl _ | exact LeO.none _ | refine LeO.ite ?_ ?_ | refine LeO.bind ?_ (fun _ => ?_))
set_option maxHeartbeats 8000000 in
set_option maxRecDepth 100000 in
theorem value_numbered.calls (k : Nat) (a0 : ByteArray) (r1 : Int) (r2 : Int) (w : World) (h : value_numbered.f k a0 = some (r1, r2)) :
  Calls Tryz.prog 289 #[.string a0] w fun e w' => e = .returned (.tuple #[.int .i32 r1, .int .i64 r2]) ∧ Drawn0 w w' := by
 unfold value_numbered.f at h
 have H := h
 clear h
 have H' := Aside0.mk H
 clear H
 go_enter Tryz.func289, Tryz.ntmps289
 go_wp2
 go_loopg [4, 5] k (fun kq v4 v5 w' => ∃ (x4_1 : Int) (x5_1 : Int), v4 = .int .i64 x4_1 ∧ v5 = .int .i64 x5_1 ∧ Aside0 (value_numbered.l0 kq a0 x4_1 x5_1 = some (r1, r2)) ∧ Aside0 (kq ≤ k) ∧ Drawn0 w w')
 case atStart => exact ⟨(0), (0), (endS), (endS), H', ⟨Nat.le_refl _⟩, drA⟩
 case round =>
  clear H'
  try clear c2
  try clear p2
  try clear c28
  obtain ⟨x4_1, x5_1, rfl, rfl, HA, HK1, ⟨m1, rfl⟩⟩ := hrel
  cases gk with
  | zero => exact absurd HA.out (by simp [value_numbered.l0])
  | succ k1 =>
   have H := HA.out
   clear HA
   simp only [value_numbered.l0] at H
   revert H; refine itR ?L11p ?L11n
   case' L11p =>
    intro c101 H
    have c101b0 := decide_eq_true c101
    clear c101
    revert H; refine itR ?L12p ?L12n
    case' L12p =>
     intro c102 H
     have c102b0 := decide_eq_true c102
     clear c102
     replace H := itN H
     obtain ⟨c103, H⟩ := H
     have c103b0 := decide_eq_true c103
     clear c103
     replace H := bnA H
     obtain ⟨t195, A105, H⟩ := H
     revert H; refine itR ?L13p ?L13n
     case' L13p =>
      intro c106 H
      have c106b0 := geT c106
      clear c106
      replace H := bnA H
      obtain ⟨t196, A108, H⟩ := H
      have H' := Aside0.mk H
      clear H
      have M1 := True.intro
      have M2 := True.intro
     case' L13n =>
      intro c106 H
      have c106b0 := geF c106
      clear c106
      revert H; refine itR ?L14p ?L14n
      case' L14p =>
       intro c107 H
       obtain ⟨c107b0, c107b1⟩ := fcE c107
       clear c107
       simp only [Option.some.injEq, Prod.mk.injEq] at H
       obtain ⟨rfl, rfl⟩ := H
       have M1 := True.intro
       have M3 := True.intro
      case' L14n =>
       intro c107 H
       obtain ⟨c107b0, c107b1⟩ := fcN c107
       revert H; refine itR ?L15p ?L15n
       case' L15p =>
        intro c108 H
        obtain ⟨c108b0, c108b1⟩ := fcE c108
        clear c108
        simp only [Option.some.injEq, Prod.mk.injEq] at H
        obtain ⟨rfl, rfl⟩ := H
        have M1 := True.intro
        have M3 := True.intro
       case' L15n =>
        intro c108 H
        obtain ⟨c108b0, c108b1⟩ := fcN c108
        revert H; refine itR ?L16p ?L16n
        case' L16p =>
         intro c110 H
         obtain ⟨c110b0, c110b1⟩ := fcE c110
         clear c110
         replace H := itN H
         obtain ⟨c111, H⟩ := H
         have c111b0 := decide_eq_true c111
         have c111b1 : decide (0 < a0.size) = true := decide_eq_true (by omega)
         clear c111
         revert H; refine itR ?L17p ?L17n
         case' L17p =>
          intro c113 H
          obtain ⟨c113b0, c113b1⟩ := fcE c113
          clear c113
          revert H; refine itR ?L18p ?L18n
          case' L18p =>
           intro c114 H
           have c114b0 := gtT c114
           clear c114
           simp only [Option.some.injEq, Prod.mk.injEq] at H
           obtain ⟨rfl, rfl⟩ := H
           have M1 := True.intro
           have M4 := True.intro
           have M5 := True.intro
          case' L18n =>
           intro c114 H
           have c114b0 := gtF c114
           clear c114
           revert H; refine itR ?L19p ?L19n
           case' L19p =>
            intro c115 H
            have c115b0 := gtT c115
            clear c115
            simp only [Option.some.injEq, Prod.mk.injEq] at H
            obtain ⟨rfl, rfl⟩ := H
            have M1 := True.intro
            have M4 := True.intro
            have M5 := True.intro
           case' L19n =>
            intro c115 H
            have c115b0 := gtF c115
            clear c115
            simp only [Option.some.injEq, Prod.mk.injEq] at H
            obtain ⟨rfl, rfl⟩ := H
            have M1 := True.intro
            have M4 := True.intro
            have M5 := True.intro
         case' L17n =>
          intro c113 H
          obtain ⟨c113b0, c113b1⟩ := fcN c113
          revert H; refine itR ?L20p ?L20n
          case' L20p =>
           intro c114 H
           have c114b0 := gtT c114
           clear c114
           simp only [Option.some.injEq, Prod.mk.injEq] at H
           obtain ⟨rfl, rfl⟩ := H
           have M1 := True.intro
           have M4 := True.intro
           have M5 := True.intro
          case' L20n =>
           intro c114 H
           have c114b0 := gtF c114
           clear c114
           simp only [Option.some.injEq, Prod.mk.injEq] at H
           obtain ⟨rfl, rfl⟩ := H
           have M1 := True.intro
           have M4 := True.intro
           have M5 := True.intro
        case' L16n =>
         intro c110 H
         obtain ⟨c110b0, c110b1⟩ := fcN c110
         simp only [Option.some.injEq, Prod.mk.injEq] at H
         obtain ⟨rfl, rfl⟩ := H
         have M1 := True.intro
         have M4 := True.intro
         have M6 := True.intro
    case' L12n =>
     intro c102 H
     have c102b0 := decide_eq_false c102
     clear c102
     revert H; refine itR ?L21p ?L21n
     case' L21p =>
      intro c103 H
      obtain ⟨c103b0, c103b1⟩ := fcE c103
      clear c103
      simp only [Option.some.injEq, Prod.mk.injEq] at H
      obtain ⟨rfl, rfl⟩ := H
      have M7 := True.intro
     case' L21n =>
      intro c103 H
      obtain ⟨c103b0, c103b1⟩ := fcN c103
      revert H; refine itR ?L22p ?L22n
      case' L22p =>
       intro c104 H
       obtain ⟨c104b0, c104b1⟩ := fcE c104
       clear c104
       simp only [Option.some.injEq, Prod.mk.injEq] at H
       obtain ⟨rfl, rfl⟩ := H
       have M7 := True.intro
      case' L22n =>
       intro c104 H
       obtain ⟨c104b0, c104b1⟩ := fcN c104
       replace H := itN H
       obtain ⟨c105, H⟩ := H
       have c105b0 := decide_eq_true c105
       clear c105
       revert H; refine itR ?L23p ?L23n
       case' L23p =>
        intro c107 H
        obtain ⟨c107b0, c107b1⟩ := fcE c107
        clear c107
        replace H := itN H
        obtain ⟨c108, H⟩ := H
        have c108b0 := decide_eq_true c108
        have c108b1 : decide (0 < a0.size) = true := decide_eq_true (by omega)
        clear c108
        revert H; refine itR ?L24p ?L24n
        case' L24p =>
         intro c110 H
         obtain ⟨c110b0, c110b1⟩ := fcE c110
         clear c110
         revert H; refine itR ?L25p ?L25n
         case' L25p =>
          intro c111 H
          have c111b0 := gtT c111
          clear c111
          simp only [Option.some.injEq, Prod.mk.injEq] at H
          obtain ⟨rfl, rfl⟩ := H
          have M8 := True.intro
          have M9 := True.intro
         case' L25n =>
          intro c111 H
          have c111b0 := gtF c111
          clear c111
          revert H; refine itR ?L26p ?L26n
          case' L26p =>
           intro c112 H
           have c112b0 := gtT c112
           clear c112
           simp only [Option.some.injEq, Prod.mk.injEq] at H
           obtain ⟨rfl, rfl⟩ := H
           have M8 := True.intro
           have M9 := True.intro
          case' L26n =>
           intro c112 H
           have c112b0 := gtF c112
           clear c112
           simp only [Option.some.injEq, Prod.mk.injEq] at H
           obtain ⟨rfl, rfl⟩ := H
           have M8 := True.intro
           have M9 := True.intro
        case' L24n =>
         intro c110 H
         obtain ⟨c110b0, c110b1⟩ := fcN c110
         revert H; refine itR ?L27p ?L27n
         case' L27p =>
          intro c111 H
          have c111b0 := gtT c111
          clear c111
          simp only [Option.some.injEq, Prod.mk.injEq] at H
          obtain ⟨rfl, rfl⟩ := H
          have M8 := True.intro
          have M9 := True.intro
         case' L27n =>
          intro c111 H
          have c111b0 := gtF c111
          clear c111
          simp only [Option.some.injEq, Prod.mk.injEq] at H
          obtain ⟨rfl, rfl⟩ := H
          have M8 := True.intro
          have M9 := True.intro
       case' L23n =>
        intro c107 H
        obtain ⟨c107b0, c107b1⟩ := fcN c107
        simp only [Option.some.injEq, Prod.mk.injEq] at H
        obtain ⟨rfl, rfl⟩ := H
        have M8 := True.intro
        have M10 := True.intro
   case' L11n =>
    intro c101 H
    have c101b0 := decide_eq_false c101
    clear c101
    revert H; refine itR ?L28p ?L28n
    case' L28p =>
     intro c102 H
     obtain ⟨c102b0, c102b1⟩ := fcE c102
     clear c102
     simp only [Option.some.injEq, Prod.mk.injEq] at H
     obtain ⟨rfl, rfl⟩ := H
     have M7 := True.intro
    case' L28n =>
     intro c102 H
     obtain ⟨c102b0, c102b1⟩ := fcN c102
     revert H; refine itR ?L29p ?L29n
     case' L29p =>
      intro c103 H
      obtain ⟨c103b0, c103b1⟩ := fcE c103
      clear c103
      simp only [Option.some.injEq, Prod.mk.injEq] at H
      obtain ⟨rfl, rfl⟩ := H
      have M7 := True.intro
     case' L29n =>
      intro c103 H
      obtain ⟨c103b0, c103b1⟩ := fcN c103
      replace H := itN H
      exact absurd H.2 (by simp)
   all_goals
    case _ =>
     first
      | clear M1
        have p104 : 0 ≤ (x5_1 : Int) := odA
        have q104 : x5_1 < (a0.size : Int) := odA
        have hx104 := bt_at a0 x5_1
        replace p104 := eq_true p104
        replace q104 := eq_true q104
        go_wp2_with (first | (go_at_call 260; (with_reducible refine (value_digit.calls _ _ _ A105.out).mono ?_); rintro e w' ⟨rfl, ⟨nd, rfl⟩⟩; apply stopA; (case other => exact True.intro)))
        case _ =>
         first
          | clear M2
            have p107 : 0 ≤ (x5_1 : Int) := odA
            have q107 : x5_1 < (a0.size : Int) := odA
            have hx107 := bt_at a0 x5_1
            replace p107 := eq_true p107
            replace q107 := eq_true q107
            try go_wp2_with (first | ((with_reducible refine gate_callee (f := 260) rfl ?_); refine goesA (some 26) Tryz.func260 #[.int .u8 (bt a0 x5_1)] ?_; (with_reducible refine (value_digit.calls _ _ _ A108.out).mono ?_); rintro e w' ⟨rfl, ⟨nd, rfl⟩⟩; refine ⟨_, rfl, ?_⟩))
            go_roundg k1
            case measure => have := HK1.out; omega
            case rel => exact ⟨(Go.bits .or .i64 (wrap64 (x4_1 * 16)) t196), (wrap64 (x5_1 + 1)), (endS), (endS), H', ⟨by have := HK1.out; omega⟩, drA⟩
          | clear M3
            (try go_wp2_with (fail))
            go_ret2
            exact ⟨endS, drA⟩
          | clear M4
            have p109 : 0 ≤ (x5_1 : Int) := odA
            have q109 : x5_1 < (a0.size : Int) := odA
            have hx109 := bt_at a0 x5_1
            replace p109 := eq_true p109
            replace q109 := eq_true q109
            first
             | clear M5
               have p112 : 0 ≤ (0 : Int) := (by omega)
               have q112 : 0 < a0.size := (by have : (0 : Int) < (a0.size : Int) := odA; omega)
               have hx112 : ∀ h : 0 < a0.size, ((a0[0]'h).toNat : Int) = bt a0 0 := bt_at a0 0
               clear p112
               have qi112 : (0 < (a0.size : Int)) = True := eq_true (odA)
               replace q112 := eq_true q112
               (try go_wp2_with (fail))
               go_ret2
               exact ⟨endS, drA⟩
             | clear M6
               (try go_wp2_with (fail))
               go_ret2
               exact ⟨endS, drA⟩
      | clear M7
        go_wp2
        go_ret2
        exact ⟨endS, drA⟩
      | clear M8
        have p106 : 0 ≤ (x5_1 : Int) := odA
        have q106 : x5_1 < (a0.size : Int) := odA
        have hx106 := bt_at a0 x5_1
        replace p106 := eq_true p106
        replace q106 := eq_true q106
        first
         | clear M9
           have p109 : 0 ≤ (0 : Int) := (by omega)
           have q109 : 0 < a0.size := (by have : (0 : Int) < (a0.size : Int) := odA; omega)
           have hx109 : ∀ h : 0 < a0.size, ((a0[0]'h).toNat : Int) = bt a0 0 := bt_at a0 0
           clear p109
           have qi109 : (0 < (a0.size : Int)) = True := eq_true (odA)
           replace q109 := eq_true q109
           go_wp2
           go_ret2
           exact ⟨endS, drA⟩
         | clear M10
           go_wp2
           go_ret2
           exact ⟨endS, drA⟩
end Go.Proofs.YtkdndabpaajkaaaGreatDoor.A
