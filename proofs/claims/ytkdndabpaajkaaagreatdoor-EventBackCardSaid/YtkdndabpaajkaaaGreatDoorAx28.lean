-- By drv.py, the session's own driver round the kit's print: the machine's side of the laws, function by function. Not trusted: Lean checks it.
import Derived.Test.YtkdndabpaajkaaaGreatDoorAx0
import Derived.Test.YtkdndabpaajkaaaGreatDoorAx24
namespace Go.Proofs.YtkdndabpaajkaaaGreatDoor.A
open Go.RowKit Go.Proofs.YtkdndabpaajkaaaGreatDoorW.PrintWords Go.Proofs.YtkdndabpaajkaaaGreatDoorW.PrintLast Go.Proofs.YtkdndabpaajkaaaGreatDoorW.PrintMore
attribute [local go_sem] max2_int min2_int max_two min_two max_three min_three max_four min_four   -- for this text's walks alone
set_option linter.unusedVariables false
set_option linter.unusedSimpArgs false

/-! ### quic_Get: function 108 -/
def quic_Get.l0 : Nat → ByteArray → Int → Int → Int → Option (Int × ByteArray × Int)
 | 0, _, _, _, _ => none
 | k + 1, x0, x2, x5, x6 => if x6 < x5 then (if 0 ≤ x6 then (if x6 < (x0.size : Int) then (quic_Get.l0 k x0 (Go.bits .or .i64 (wrap64 (x2 * 256)) (wrap64 (bt x0 x6))) x5 (wrap64 (x6 + 1))) else (none)) else (none)) else ((quic_Size.f k x2).bind fun t354 => (if t354 = x5 then (if 0 ≤ x5 then (if x5 ≤ (x0.size : Int) then (some (x2, x0.extract (x5 : Int).toNat x0.size, 0)) else (none)) else (none)) else (some (0, (⟨#[]⟩ : ByteArray), 3))))
def quic_Get.f (k : Nat) (a0 : ByteArray) : Option (Int × ByteArray × Int) := if a0.toList = ([] : List UInt8) then (some (0, (⟨#[]⟩ : ByteArray), 7)) else (if 0 < (a0.size : Int) then (if 0 ≤ ((bt a0 0) / 64) then (if (a0.size : Int) < (shl .i64 1 ((bt a0 0) / 64)) then (some (0, (⟨#[]⟩ : ByteArray), 7)) else (quic_Get.l0 k a0 (wrap64 (Go.bits .and .u8 (bt a0 0) 63)) (shl .i64 1 ((bt a0 0) / 64)) 1)) else (none)) else (none))
theorem quic_Get.mono_l : ∀ k, (∀ y0 y1 y2 y3, LeO (quic_Get.l0 k y0 y1 y2 y3) (quic_Get.l0 (k + 1) y0 y1 y2 y3))
 | 0 => fun _ _ _ _ r h => by simp [quic_Get.l0] at h
 | k + 1 => by
  have ih0 := quic_Get.mono_l k
  ·intro y0 y1 y2 y3
   unfold quic_Get.l0
   repeat' (with_reducible first | exact ih0 _ _ _ _ | exact quic_Size.mono _ _ | exact LeO.refl _ | exact LeO.none _ | refine LeO.ite ?_ ?_ | refine LeO.bind ?_ (fun _ => ?_))
theorem quic_Get.mono : ∀ a0 k, LeO (quic_Get.f k a0) (quic_Get.f (k + 1) a0) := by
 intro a0 k
 have ih0 := quic_Get.mono_l k
 unfold quic_Get.f
 repeat' (with_reducible first | exact ih0 _ _ _ _ | exact quic_Size.mono _ _ | exact LeO.refl _ | exact LeO.none _ | refine LeO.ite ?_ ?_ | refine LeO.bind ?_ (fun _ => ?_))
set_option maxHeartbeats 8000000 in
set_option maxRecDepth 100000 in
theorem quic_Get.calls (k : Nat) (a0 : ByteArray) (r1 : Int) (r2 : ByteArray) (r3 : Int) (w : World) (h : quic_Get.f k a0 = some (r1, r2, r3)) :
  Calls Tryz.prog 108 #[.string a0] w fun e w' => e = .returned (.tuple #[.int .i64 r1, .string r2, .int .i64 r3]) ∧ Drawn0 w w' := by
 unfold quic_Get.f at h
 have H := h
 clear h
 revert H; refine itR ?L5p ?L5n
 case' L5p =>
  intro c2 H
  obtain ⟨c2b0, c2b1⟩ := fcE c2
  clear c2
  simp only [Option.some.injEq, Prod.mk.injEq] at H
  obtain ⟨rfl, rfl, rfl⟩ := H
  go_enter Tryz.func108, Tryz.ntmps108
  go_wp2
  repeat (go_quiet (fail); try go_wp2)
  go_ret3
  exact ⟨endS, drA⟩
 case' L5n =>
  intro c2 H
  obtain ⟨c2b0, c2b1⟩ := fcN c2
  replace H := itN H
  obtain ⟨c3, H⟩ := H
  have c3b0 := decide_eq_true c3
  have c3b1 : decide (0 < a0.size) = true := decide_eq_true (by omega)
  clear c3
  obtain ⟨ji5, hji5⟩ : ∃ j_ : Int, ((bt a0 0) / 64) = j_ := ⟨_, rfl⟩
  replace H : (if 0 ≤ (ji5) then (if (a0.size : Int) < (shl .i64 1 (ji5)) then (some (0, (⟨#[]⟩ : ByteArray), 7)) else (quic_Get.l0 k a0 (wrap64 (Go.bits .and .u8 (bt a0 0) 63)) (shl .i64 1 (ji5)) 1)) else (none)) = some (r1, r2, r3) := by first | (rw [hji5] at H; exact H) | (simp only [hji5] at H ⊢; exact H)
  replace H := itN H
  obtain ⟨c6, H⟩ := H
  have c6b0 := eq_true c6
  have c6b1 := decide_eq_true c6
  clear c6
  obtain ⟨ji7, hji7⟩ : ∃ j_ : Int, (shl .i64 1 (ji5)) = j_ := ⟨_, rfl⟩
  replace H : (if (a0.size : Int) < (ji7) then (some (0, (⟨#[]⟩ : ByteArray), 7)) else (quic_Get.l0 k a0 (wrap64 (Go.bits .and .u8 (bt a0 0) 63)) ji7 1)) = some (r1, r2, r3) := by first | (rw [hji7] at H; exact H) | (simp only [hji7] at H ⊢; exact H)
  have hji7_ : (IntKind.i64.wrap (1 * 2 ^ min (ji5).toNat 64)) = ji7 := hji7
  have hji7z : (ji5) ≤ 64 → (IntKind.i64.wrap (1 * 2 ^ (ji5).toNat)) = ji7 := shl_small hji7
  have hji7u : (IntKind.i64.wrap (2 ^ min (ji5).toNat 64)) = ji7 := by have h_ := hji7_; rw [Int.one_mul] at h_; exact h_
  have hji7v : (ji5) ≤ 64 → (IntKind.i64.wrap (2 ^ (ji5).toNat)) = ji7 := fun hle_ => by have h_ := hji7z hle_; rw [Int.one_mul] at h_; exact h_
  have hji7y : (wrap64 (1 * 2 ^ min (ji5).toNat 64)) = ji7 := (i64_w _).symm.trans hji7_
  have hji7x : (ji5) ≤ 64 → (wrap64 (1 * 2 ^ (ji5).toNat)) = ji7 := fun h_ => (i64_w _).symm.trans (hji7z h_)
  revert H; refine itR ?L6p ?L6n
  case' L6p =>
   intro c8 H
   have c8b0 := decide_eq_true c8
   clear c8
   simp only [Option.some.injEq, Prod.mk.injEq] at H
   obtain ⟨rfl, rfl, rfl⟩ := H
   have M3 := True.intro
  case' L6n =>
   intro c8 H
   have c8b0 := decide_eq_false c8
   clear c8
   have H' := Aside0.mk H
   clear H
   have M4 := True.intro
 all_goals
  case _ =>
   have p4 : 0 ≤ (0 : Int) := (by omega)
   have q4 : 0 < a0.size := (by have : (0 : Int) < (a0.size : Int) := odA; omega)
   have hx4 : ∀ h : 0 < a0.size, ((a0[0]'h).toNat : Int) = bt a0 0 := bt_at a0 0
   clear p4
   have qi4 : (0 < (a0.size : Int)) = True := eq_true (odA)
   replace q4 := eq_true q4
   first
    | clear M3
      go_enter Tryz.func108, Tryz.ntmps108
      go_wp2
      repeat (go_quiet (fail); try go_wp2)
      go_ret3
      exact ⟨by first | rfl | (simp; done) | (simp only [← hji5, ← hji7] <;> (first | rfl | simp)) | (simp [*]; done) | (simp [wrap64]; done), drA⟩
    | clear M4
      have p9 : 0 ≤ (0 : Int) := (by omega)
      have q9 : 0 < a0.size := (by have : (0 : Int) < (a0.size : Int) := odA; omega)
      have hx9 : ∀ h : 0 < a0.size, ((a0[0]'h).toNat : Int) = bt a0 0 := bt_at a0 0
      clear p9
      have qi9 : (0 < (a0.size : Int)) = True := eq_true (odA)
      replace q9 := eq_true q9
      go_enter Tryz.func108, Tryz.ntmps108
      go_wp2
      repeat (go_quiet (fail); try go_wp2)
      go_loopg [2, 6] k (fun kq v2 v6 w' => ∃ (x2_1 : Int) (x6_1 : Int), v2 = .int .i64 x2_1 ∧ v6 = .int .i64 x6_1 ∧ Aside0 (quic_Get.l0 kq a0 x2_1 ji7 x6_1 = some (r1, r2, r3)) ∧ Aside0 (kq ≤ k) ∧ Drawn0 w w')
      case atStart => exact ⟨(wrap64 (Go.bits .and .u8 (bt a0 0) 63)), (1), (endS), (endS), H', ⟨Nat.le_refl _⟩, drA⟩
      case round =>
       clear H'
       try clear c1
       try clear c2
       try clear c2b0
       try clear c2b1
       try clear p2
       try clear c3
       try clear c3b0
       try clear c3b1
       try clear p4
       try clear q4
       try clear hx4
       try clear qi4
       try clear c6
       try clear c6b0
       try clear c6b1
       try clear p6
       try clear c8
       try clear c8b0
       try clear p9
       try clear q9
       try clear hx9
       try clear qi9
       try clear c10
       try clear p64
       try clear p4
       try clear p9
       try clear q4
       try clear q9
       obtain ⟨x2_1, x6_1, rfl, rfl, HA, HK1, ⟨m1, rfl⟩⟩ := hrel
       cases gk with
       | zero => exact absurd HA.out (by simp [quic_Get.l0])
       | succ k1 =>
        have H := HA.out
        clear HA
        simp only [quic_Get.l0] at H
        revert H; refine itR ?L1p ?L1n
        case' L1p =>
         intro c101 H
         have c101b0 := decide_eq_true c101
         clear c101
         replace H := itN H
         obtain ⟨c102, H⟩ := H
         have c102b0 := decide_eq_true c102
         clear c102
         replace H := itN H
         obtain ⟨c103, H⟩ := H
         have c103b0 := decide_eq_true c103
         clear c103
         have H' := Aside0.mk H
         clear H
         have p104 : 0 ≤ (x6_1 : Int) := odA
         have q104 : x6_1 < (a0.size : Int) := odA
         have hx104 := bt_at a0 x6_1
         replace p104 := eq_true p104
         replace q104 := eq_true q104
         go_wp2
         repeat (go_quiet (fail); try go_wp2)
         go_roundg k1
         case measure => have := HK1.out; omega
         case rel => exact ⟨(Go.bits .or .i64 (wrap64 (x2_1 * 256)) (wrap64 (bt a0 x6_1))), (wrap64 (x6_1 + 1)), (endS), (endS), H', ⟨by have := HK1.out; omega⟩, drA⟩
        case' L1n =>
         intro c101 H
         have c101b0 := decide_eq_false c101
         clear c101
         replace H := bnA H
         obtain ⟨t354, A102, H⟩ := H
         revert H; refine itR ?L2p ?L2n
         case' L2p =>
          intro c103 H
          obtain ⟨c103b0, c103b1⟩ := fcE c103
          clear c103
          replace H := itN H
          obtain ⟨c104, H⟩ := H
          have c104b0 := eq_true c104
          have c104b1 := decide_eq_true c104
          clear c104
          replace H := itN H
          obtain ⟨c105, H⟩ := H
          have c105b0 := eq_true c105
          have c105b1 := decide_eq_true c105
          clear c105
          simp only [Option.some.injEq, Prod.mk.injEq] at H
          obtain ⟨rfl, rfl, rfl⟩ := H
         case' L2n =>
          intro c103 H
          obtain ⟨c103b0, c103b1⟩ := fcN c103
          simp only [Option.some.injEq, Prod.mk.injEq] at H
          obtain ⟨rfl, rfl, rfl⟩ := H
        all_goals
         case _ =>
          try go_wp2_with (first | (go_at_call 171; (with_reducible refine (quic_Size.calls _ _ _ _ A102.out).mono ?_); rintro e w' ⟨rfl, ⟨nd, rfl⟩⟩; (try first | exact ⟨rfl, _, World.drewN_drewN _ _ _⟩ | exact ⟨rfl, _, Eq.trans (World.drewN_drewN _ _ _) (congrArg (World.drewN _) (Nat.add_assoc _ _ _))⟩)))
          repeat (go_quiet (first | (go_at_call 171; (with_reducible refine (quic_Size.calls _ _ _ _ A102.out).mono ?_); rintro e w' ⟨rfl, ⟨nd, rfl⟩⟩; (try first | exact ⟨rfl, _, World.drewN_drewN _ _ _⟩ | exact ⟨rfl, _, Eq.trans (World.drewN_drewN _ _ _) (congrArg (World.drewN _) (Nat.add_assoc _ _ _))⟩))); try go_wp2_with (first | (go_at_call 171; (with_reducible refine (quic_Size.calls k1 x2_1 t354 _ A102.out).mono ?_); rintro e w' ⟨rfl, ⟨nd, rfl⟩⟩; (try first | exact ⟨rfl, _, World.drewN_drewN _ _ _⟩ | exact ⟨rfl, _, Eq.trans (World.drewN_drewN _ _ _) (congrArg (World.drewN _) (Nat.add_assoc _ _ _))⟩))))
          go_ret3
          exact ⟨by first | rfl | (simp; done) | (simp only [← hji5, ← hji7] <;> (first | rfl | simp)) | (simp [*]; done) | (simp [wrap64]; done), drA⟩
/-! ### quic_getText: function 167 -/
def quic_getText.f (k : Nat) (a0 : ByteArray) : Option (ByteArray × ByteArray × Int) := (quic_Get.f k a0).bind fun bt355 => (if bt355.2.2 = 0 then (if bt355.1 > 65536 then (some ((⟨#[]⟩ : ByteArray), (⟨#[]⟩ : ByteArray), 2)) else (if bt355.1 > (bt355.2.1.size : Int) then (some ((⟨#[]⟩ : ByteArray), (⟨#[]⟩ : ByteArray), 7)) else (if 0 ≤ bt355.1 then (if bt355.1 ≤ (bt355.2.1.size : Int) then (some (bt355.2.1.extract 0 (bt355.1 : Int).toNat, bt355.2.1.extract (bt355.1 : Int).toNat bt355.2.1.size, 0)) else (none)) else (none)))) else (some ((⟨#[]⟩ : ByteArray), (⟨#[]⟩ : ByteArray), bt355.2.2)))
theorem quic_getText.mono : ∀ a0 k, LeO (quic_getText.f k a0) (quic_getText.f (k + 1) a0) := by
 intro a0 k
 unfold quic_getText.f
 repeat' (with_reducible first | exact quic_Get.mono _ _ | exact LeO.refl _ | exact LeO.none _ | refine LeO.ite ?_ ?_ | refine LeO.bind ?_ (fun _ => ?_))
set_option maxHeartbeats 8000000 in
set_option maxRecDepth 100000 in
theorem quic_getText.calls (k : Nat) (a0 : ByteArray) (r1 : ByteArray) (r2 : ByteArray) (r3 : Int) (w : World) (h : quic_getText.f k a0 = some (r1, r2, r3)) :
  Calls Tryz.prog 167 #[.string a0] w fun e w' => e = .returned (.tuple #[.string r1, .string r2, .int .i64 r3]) ∧ Drawn0 w w' := by
 unfold quic_getText.f at h
 have H := h
 clear h
 replace H := Option.bind_eq_some_iff.mp H
 obtain ⟨⟨t355, t356, t357⟩, A20, H⟩ := H
 replace H : (if t357 = 0 then (if t355 > 65536 then (some ((⟨#[]⟩ : ByteArray), (⟨#[]⟩ : ByteArray), 2)) else (if t355 > (t356.size : Int) then (some ((⟨#[]⟩ : ByteArray), (⟨#[]⟩ : ByteArray), 7)) else (if 0 ≤ t355 then (if t355 ≤ (t356.size : Int) then (some (t356.extract 0 (t355 : Int).toNat, t356.extract (t355 : Int).toNat t356.size, 0)) else (none)) else (none)))) else (some ((⟨#[]⟩ : ByteArray), (⟨#[]⟩ : ByteArray), t357))) = some (r1, r2, r3) := H
 have A2 := Aside0.mk A20
 clear A20
 revert H; refine itR ?L1p ?L1n
 case' L1p =>
  intro c3 H
  obtain ⟨c3b0, c3b1⟩ := fcE c3
  clear c3
  revert H; refine itR ?L2p ?L2n
  case' L2p =>
   intro c4 H
   have c4b0 := gtT c4
   clear c4
   simp only [Option.some.injEq, Prod.mk.injEq] at H
   obtain ⟨rfl, rfl, rfl⟩ := H
  case' L2n =>
   intro c4 H
   have c4b0 := gtF c4
   clear c4
   revert H; refine itR ?L3p ?L3n
   case' L3p =>
    intro c5 H
    have c5b0 := gtT c5
    clear c5
    simp only [Option.some.injEq, Prod.mk.injEq] at H
    obtain ⟨rfl, rfl, rfl⟩ := H
   case' L3n =>
    intro c5 H
    have c5b0 := gtF c5
    clear c5
    replace H := itN H
    obtain ⟨c6, H⟩ := H
    have c6b0 := eq_true c6
    have c6b1 := decide_eq_true c6
    clear c6
    replace H := itN H
    obtain ⟨c7, H⟩ := H
    have c7b0 := eq_true c7
    have c7b1 := decide_eq_true c7
    clear c7
    have c8b0 := eq_true (odA : 0 ≤ t355)
    have c9b0 := eq_true (odA : t355 ≤ (t356.size : Int))
    simp only [Option.some.injEq, Prod.mk.injEq] at H
    obtain ⟨rfl, rfl, rfl⟩ := H
 case' L1n =>
  intro c3 H
  obtain ⟨c3b0, c3b1⟩ := fcN c3
  simp only [Option.some.injEq, Prod.mk.injEq] at H
  obtain ⟨rfl, rfl, rfl⟩ := H
 all_goals
  case _ =>
   go_enter Tryz.func167, Tryz.ntmps167
   try go_wp2_with (first | (go_at_call 108; (with_reducible refine (quic_Get.calls _ _ _ _ _ _ A2.out).mono ?_); rintro e w' ⟨rfl, ⟨nd, rfl⟩⟩; (try first | exact ⟨rfl, _, World.drewN_drewN _ _ _⟩ | exact ⟨rfl, _, Eq.trans (World.drewN_drewN _ _ _) (congrArg (World.drewN _) (Nat.add_assoc _ _ _))⟩)))
   repeat (go_quiet (first | (go_at_call 108; (with_reducible refine (quic_Get.calls _ _ _ _ _ _ A2.out).mono ?_); rintro e w' ⟨rfl, ⟨nd, rfl⟩⟩; (try first | exact ⟨rfl, _, World.drewN_drewN _ _ _⟩ | exact ⟨rfl, _, Eq.trans (World.drewN_drewN _ _ _) (congrArg (World.drewN _) (Nat.add_assoc _ _ _))⟩))); try go_wp2_with (first | (go_at_call 108; (with_reducible refine (quic_Get.calls k a0 t355 t356 t357 _ A2.out).mono ?_); rintro e w' ⟨rfl, ⟨nd, rfl⟩⟩; (try first | exact ⟨rfl, _, World.drewN_drewN _ _ _⟩ | exact ⟨rfl, _, Eq.trans (World.drewN_drewN _ _ _) (congrArg (World.drewN _) (Nat.add_assoc _ _ _))⟩))))
   go_ret3
   exact ⟨endS, drA⟩
/-! ### quic_getFlag: function 219 -/
def quic_getFlag.f (a0 : ByteArray) : Option (Int × ByteArray × Int) := if a0.toList = ([] : List UInt8) then (some (0, (⟨#[]⟩ : ByteArray), 7)) else (if 0 < (a0.size : Int) then (if (bt a0 0) > 1 then (some (0, (⟨#[]⟩ : ByteArray), 3)) else (if 1 ≤ (a0.size : Int) then (some (wrap64 (bt a0 0), a0.extract 1 a0.size, 0)) else (none))) else (none))
set_option maxHeartbeats 8000000 in
set_option maxRecDepth 100000 in
theorem quic_getFlag.calls (a0 : ByteArray) (r1 : Int) (r2 : ByteArray) (r3 : Int) (w : World) (h : quic_getFlag.f a0 = some (r1, r2, r3)) :
  Calls Tryz.prog 219 #[.string a0] w fun e w' => e = .returned (.tuple #[.int .i64 r1, .string r2, .int .i64 r3]) ∧ Drawn0 w w' := by
 unfold quic_getFlag.f at h
 have H := h
 clear h
 revert H; refine itR ?L3p ?L3n
 case' L3p =>
  intro c2 H
  obtain ⟨c2b0, c2b1⟩ := fcE c2
  clear c2
  simp only [Option.some.injEq, Prod.mk.injEq] at H
  obtain ⟨rfl, rfl, rfl⟩ := H
  go_enter Tryz.func219, Tryz.ntmps219
  go_wp2
  repeat (go_quiet (fail); try go_wp2)
  go_ret3
  exact ⟨endS, drA⟩
 case' L3n =>
  intro c2 H
  obtain ⟨c2b0, c2b1⟩ := fcN c2
  replace H := itN H
  obtain ⟨c3, H⟩ := H
  have c3b0 := decide_eq_true c3
  have c3b1 : decide (0 < a0.size) = true := decide_eq_true (by omega)
  clear c3
  revert H; refine itR ?L4p ?L4n
  case' L4p =>
   intro c5 H
   have c5b0 := gtT c5
   clear c5
   simp only [Option.some.injEq, Prod.mk.injEq] at H
   obtain ⟨rfl, rfl, rfl⟩ := H
   have M1 := True.intro
  case' L4n =>
   intro c5 H
   have c5b0 := gtF c5
   clear c5
   replace H := itN H
   obtain ⟨c7, H⟩ := H
   have c7b0 := eq_true c7
   have c7b1 := decide_eq_true c7
   clear c7
   simp only [Option.some.injEq, Prod.mk.injEq] at H
   obtain ⟨rfl, rfl, rfl⟩ := H
   have M2 := True.intro
 all_goals
  case _ =>
   have p4 : 0 ≤ (0 : Int) := (by omega)
   have q4 : 0 < a0.size := (by have : (0 : Int) < (a0.size : Int) := odA; omega)
   have hx4 : ∀ h : 0 < a0.size, ((a0[0]'h).toNat : Int) = bt a0 0 := bt_at a0 0
   clear p4
   have qi4 : (0 < (a0.size : Int)) = True := eq_true (odA)
   replace q4 := eq_true q4
   first
    | clear M1
      go_enter Tryz.func219, Tryz.ntmps219
      go_wp2
      repeat (go_quiet (fail); try go_wp2)
      go_ret3
      exact ⟨endS, drA⟩
    | clear M2
      have p6 : 0 ≤ (0 : Int) := (by omega)
      have q6 : 0 < a0.size := (by have : (0 : Int) < (a0.size : Int) := odA; omega)
      have hx6 : ∀ h : 0 < a0.size, ((a0[0]'h).toNat : Int) = bt a0 0 := bt_at a0 0
      clear p6
      have qi6 : (0 < (a0.size : Int)) = True := eq_true (odA)
      replace q6 := eq_true q6
      go_enter Tryz.func219, Tryz.ntmps219
      go_wp2
      repeat (go_quiet (fail); try go_wp2)
      go_ret3
      exact ⟨endS, drA⟩
/-! ### quic_unfold: function 220 -/
def quic_unfold.f (a0 : Int) : Option (Int) := if (Go.bits .and .i64 a0 1) = 1 then (some (wrap64 ((wrap64 (-(a0 / 2))) - 1))) else (some (a0 / 2))
set_option maxHeartbeats 8000000 in
set_option maxRecDepth 100000 in
theorem quic_unfold.calls (a0 : Int) (r : Int) (w : World) (h : quic_unfold.f a0 = some r) :
  Calls Tryz.prog 220 #[.int .i64 a0] w fun e w' => e = .returned (.int .i64 r) ∧ Drawn0 w w' := by
 unfold quic_unfold.f at h
 have H := h
 clear h
 revert H; refine itR ?L1p ?L1n
 case' L1p =>
  intro c2 H
  obtain ⟨c2b0, c2b1⟩ := fcE c2
  clear c2
  obtain rfl := Option.some.inj H
 case' L1n =>
  intro c2 H
  obtain ⟨c2b0, c2b1⟩ := fcN c2
  obtain rfl := Option.some.inj H
 all_goals
  case _ =>
   go_enter Tryz.func220, Tryz.ntmps220
   go_wp2
   go_ret
   exact ⟨endS, drA⟩
/-! ### quic_take: function 166 -/
def quic_take.f (k : Nat) (a0 : ByteArray) (a1 : Int) : Option (Int × Int × ByteArray × ByteArray × Int) := if a1 = 4 then ((quic_getText.f k a0).bind fun bt359 => (some (a1, 0, bt359.1, bt359.2.1, bt359.2.2))) else (if a1 = 3 then ((quic_getFlag.f a0).bind fun bt362 => (some (a1, bt362.1, (⟨#[]⟩ : ByteArray), bt362.2.1, bt362.2.2))) else (if a1 = 2 then ((quic_Get.f k a0).bind fun bt365 => ((quic_unfold.f bt365.1).bind fun t368 => (some (a1, t368, (⟨#[]⟩ : ByteArray), bt365.2.1, bt365.2.2)))) else ((quic_Get.f k a0).bind fun bt369 => (some (a1, bt369.1, (⟨#[]⟩ : ByteArray), bt369.2.1, bt369.2.2)))))
theorem quic_take.mono : ∀ a0 a1 k, LeO (quic_take.f k a0 a1) (quic_take.f (k + 1) a0 a1) := by
 intro a0 a1 k
 unfold quic_take.f
 repeat' (with_reducible first | exact quic_Get.mono _ _ | exact quic_getText.mono _ _ | exact LeO.refl _ | exact LeO.none _ | refine LeO.ite ?_ ?_ | refine LeO.bind ?_ (fun _ => ?_))
set_option maxHeartbeats 8000000 in
set_option maxRecDepth 100000 in
theorem quic_take.calls (k : Nat) (a0 : ByteArray) (a1 : Int) (r1 : Int) (r2 : Int) (r3 : ByteArray) (r4 : ByteArray) (r5 : Int) (w : World) (h : quic_take.f k a0 a1 = some (r1, r2, r3, r4, r5)) :
  Calls Tryz.prog 166 #[.string a0, .int .i64 a1] w fun e w' => e = .returned (.tuple #[.agg #[.int .i64 r1, .int .i64 r2, .string r3], .string r4, .int .i64 r5]) ∧ Below w.heap.size w w' := by
 have hu147 := Tryz.underlying147
 have HB := Aside0.mk (Below.refl w.heap.size w)
 unfold quic_take.f at h
 have H := h
 clear h
 revert H; refine itR ?L6p ?L6n
 case' L6p =>
  intro c3 H
  obtain ⟨c3b0, c3b1⟩ := fcE c3
  clear c3
  replace H := bnA H
  obtain ⟨⟨t359, t360, t361⟩, A4, H⟩ := H
  dsimp only at H
  simp only [Option.some.injEq, Prod.mk.injEq] at H
  obtain ⟨rfl, rfl, rfl, rfl, rfl⟩ := H
  have M1 := True.intro
  have M2 := True.intro
 case' L6n =>
  intro c3 H
  obtain ⟨c3b0, c3b1⟩ := fcN c3
  revert H; refine itR ?L7p ?L7n
  case' L7p =>
   intro c4 H
   obtain ⟨c4b0, c4b1⟩ := fcE c4
   clear c4
   replace H := bnA H
   obtain ⟨⟨t362, t363, t364⟩, A5, H⟩ := H
   dsimp only at H
   simp only [Option.some.injEq, Prod.mk.injEq] at H
   obtain ⟨rfl, rfl, rfl, rfl, rfl⟩ := H
   have M1 := True.intro
   have M3 := True.intro
  case' L7n =>
   intro c4 H
   obtain ⟨c4b0, c4b1⟩ := fcN c4
   revert H; refine itR ?L8p ?L8n
   case' L8p =>
    intro c5 H
    obtain ⟨c5b0, c5b1⟩ := fcE c5
    clear c5
    replace H := bnA H
    obtain ⟨⟨t365, t366, t367⟩, A6, H⟩ := H
    dsimp only at H
    replace H := bnA H
    obtain ⟨t368, A7, H⟩ := H
    simp only [Option.some.injEq, Prod.mk.injEq] at H
    obtain ⟨rfl, rfl, rfl, rfl, rfl⟩ := H
    have M5 := True.intro
   case' L8n =>
    intro c5 H
    obtain ⟨c5b0, c5b1⟩ := fcN c5
    replace H := bnA H
    obtain ⟨⟨t369, t370, t371⟩, A6, H⟩ := H
    dsimp only at H
    simp only [Option.some.injEq, Prod.mk.injEq] at H
    obtain ⟨rfl, rfl, rfl, rfl, rfl⟩ := H
    have M1 := True.intro
    have M4 := True.intro
 all_goals
  case _ =>
   go_enter Tryz.func166, Tryz.ntmps166
   go_wp2_with (first | ((with_reducible refine gate_dst (N := 4) rfl ?_); refine boxA 4 #[.int .i64 0, .int .i64 0, .string (⟨#[]⟩ : ByteArray)] 147 ?_; intro gb358 hg w101 hbox hb; have BK358 := Aside0.mk (hbox); have GW358 := Aside0.mk (hgW hg : w.heap.size ≤ gb358); have GE358 := Aside0.mk (hgW hg : w.heap.size ≤ gb358); replace HB := Aside0.mk (below_step (bwA) hb); clear hb hbox hg; have hcz102_0 := celA BK358.out 0 (.int .i64 0); have hcz102_1 := celA BK358.out 1 (.int .i64 0); have hcz102_2 := celA BK358.out 2 (.string (⟨#[]⟩ : ByteArray)); apply stopA; (case other => exact True.intro)))
   case _ =>
    first
     | clear M1
       have hfz102_0 := blk_frozen BK358.out 0
       have hfz102_1 := blk_frozen BK358.out 1
       have hfz102_2 := blk_frozen BK358.out 2
       first
        | clear M2
          try go_wp2_with (first | ((with_reducible refine gate_callee (f := 167) rfl ?_); refine goesA (some 21) Tryz.func167 #[.string a0] ?_; (with_reducible refine (quic_getText.calls _ _ _ _ _ _ A4.out).mono ?_); rintro e w' ⟨rfl, ⟨nd, rfl⟩⟩; refine ⟨_, rfl, ?_⟩))
          refine bodyPost_ret (results_ctt rfl _ _ gb358 147 #[.int .i64 a1, .int .i64 0, .string t359] (0, 0) _ rfl (by refine blkP (cs := #[.int .i64 a1, .int .i64 0, .string t359]) ?_ 2 _; refine blkP (cs := #[.int .i64 a1, .int .i64 0, .string t359]) ?_ 1 _; refine blkP (cs := #[.int .i64 a1, .int .i64 0, .string t359]) ?_ 0 _; refine blkP (cs := #[.int .i64 a1, .int .i64 0, .string (⟨#[]⟩ : ByteArray)]) ?_ 2 _; refine blkP (cs := #[.int .i64 0, .int .i64 0, .string (⟨#[]⟩ : ByteArray)]) ?_ 0 _; (with_reducible repeat (first | refine blk_drewN ?_ _ | refine blk_drew ?_ | refine blk_alloc ?_ _)); exact BK358.out) Tryz.underlying147 rfl (by kernel_rfl)) rfl ?_
          exact ⟨endA, bwA⟩
        | clear M3
          try go_wp2_with (first | ((with_reducible refine gate_callee (f := 219) rfl ?_); refine goesA (some 30) Tryz.func219 #[.string a0] ?_; (with_reducible refine (quic_getFlag.calls _ _ _ _ _ A5.out).mono ?_); rintro e w' ⟨rfl, ⟨nd, rfl⟩⟩; refine ⟨_, rfl, ?_⟩))
          refine bodyPost_ret (results_ctt rfl _ _ gb358 147 #[.int .i64 a1, .int .i64 t362, .string (⟨#[]⟩ : ByteArray)] (0, 0) _ rfl (by refine blkP (cs := #[.int .i64 a1, .int .i64 t362, .string (⟨#[]⟩ : ByteArray)]) ?_ 2 _; refine blkP (cs := #[.int .i64 a1, .int .i64 t362, .string (⟨#[]⟩ : ByteArray)]) ?_ 1 _; refine blkP (cs := #[.int .i64 a1, .int .i64 t362, .string (⟨#[]⟩ : ByteArray)]) ?_ 0 _; refine blkP (cs := #[.int .i64 a1, .int .i64 0, .string (⟨#[]⟩ : ByteArray)]) ?_ 1 _; refine blkP (cs := #[.int .i64 0, .int .i64 0, .string (⟨#[]⟩ : ByteArray)]) ?_ 0 _; (with_reducible repeat (first | refine blk_drewN ?_ _ | refine blk_drew ?_ | refine blk_alloc ?_ _)); exact BK358.out) Tryz.underlying147 rfl (by kernel_rfl)) rfl ?_
          exact ⟨endA, bwA⟩
        | clear M4
          try go_wp2_with (first | ((with_reducible refine gate_callee (f := 108) rfl ?_); refine goesA (some 12) Tryz.func108 #[.string a0] ?_; (with_reducible refine (quic_Get.calls _ _ _ _ _ _ A6.out).mono ?_); rintro e w' ⟨rfl, ⟨nd, rfl⟩⟩; refine ⟨_, rfl, ?_⟩))
          refine bodyPost_ret (results_ctt rfl _ _ gb358 147 #[.int .i64 a1, .int .i64 t369, .string (⟨#[]⟩ : ByteArray)] (0, 0) _ rfl (by refine blkP (cs := #[.int .i64 a1, .int .i64 t369, .string (⟨#[]⟩ : ByteArray)]) ?_ 2 _; refine blkP (cs := #[.int .i64 a1, .int .i64 t369, .string (⟨#[]⟩ : ByteArray)]) ?_ 1 _; refine blkP (cs := #[.int .i64 a1, .int .i64 t369, .string (⟨#[]⟩ : ByteArray)]) ?_ 0 _; refine blkP (cs := #[.int .i64 a1, .int .i64 0, .string (⟨#[]⟩ : ByteArray)]) ?_ 1 _; refine blkP (cs := #[.int .i64 0, .int .i64 0, .string (⟨#[]⟩ : ByteArray)]) ?_ 0 _; (with_reducible repeat (first | refine blk_drewN ?_ _ | refine blk_drew ?_ | refine blk_alloc ?_ _)); exact BK358.out) Tryz.underlying147 rfl (by kernel_rfl)) rfl ?_
          exact ⟨endA, bwA⟩
     | clear M5
       have hczX : ∀ n m, (((((w101.setCell ⟨gb358, 0, none⟩ (.int .i64 a1)).drewN n).setCell ⟨gb358, 1, none⟩ (.int .i64 t365)).drewN m).setCell ⟨gb358, 1, none⟩ (.int .i64 t368)).cell? ⟨gb358, 1, none⟩ = some (.int .i64 t368) := fun n m => (blk_cell (blk_put (blk_drewN (blk_put (blk_drewN (blk_put BK358.out 0 _ rfl) _) 1 _ rfl) _) 1 _ rfl) 1).trans rfl
       have hfz102_0 := blk_frozen BK358.out 0
       have hfz102_1 := blk_frozen BK358.out 1
       have hfz102_2 := blk_frozen BK358.out 2
       try go_wp2_with (first | ((with_reducible refine gate_callee (f := 108) rfl ?_); refine goesA (some 39) Tryz.func108 #[.string a0] ?_; (with_reducible refine (quic_Get.calls _ _ _ _ _ _ A6.out).mono ?_); rintro e w' ⟨rfl, ⟨nd, rfl⟩⟩; refine ⟨_, rfl, ?_⟩) | ((with_reducible refine gate_callee (f := 220) rfl ?_); refine goesA (some 46) Tryz.func220 #[.int .i64 t365] ?_; (with_reducible refine (quic_unfold.calls _ _ _ A7.out).mono ?_); rintro e w' ⟨rfl, ⟨nd, rfl⟩⟩; refine ⟨_, rfl, ?_⟩))
       refine bodyPost_ret (results_ctt rfl _ _ gb358 147 #[.int .i64 a1, .int .i64 t368, .string (⟨#[]⟩ : ByteArray)] (0, 0) _ rfl (by refine blkP (cs := #[.int .i64 a1, .int .i64 t368, .string (⟨#[]⟩ : ByteArray)]) ?_ 2 _; refine blkP (cs := #[.int .i64 a1, .int .i64 t368, .string (⟨#[]⟩ : ByteArray)]) ?_ 1 _; refine blkP (cs := #[.int .i64 a1, .int .i64 t368, .string (⟨#[]⟩ : ByteArray)]) ?_ 0 _; refine blkP (cs := #[.int .i64 a1, .int .i64 t365, .string (⟨#[]⟩ : ByteArray)]) ?_ 1 _; refine blkP (cs := #[.int .i64 a1, .int .i64 0, .string (⟨#[]⟩ : ByteArray)]) ?_ 1 _; refine blkP (cs := #[.int .i64 0, .int .i64 0, .string (⟨#[]⟩ : ByteArray)]) ?_ 0 _; (with_reducible repeat (first | refine blk_drewN ?_ _ | refine blk_drew ?_ | refine blk_alloc ?_ _)); exact BK358.out) Tryz.underlying147 rfl (by kernel_rfl)) rfl ?_
       exact ⟨endA, bwA⟩
end Go.Proofs.YtkdndabpaajkaaaGreatDoor.A
