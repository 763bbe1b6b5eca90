-- By drv.py, the session's own driver round the kit's print: the machine's side of the laws, function by function. Not trusted: Lean checks it.
import Derived.Test.YtplemgmfnghoeaaGreatDoorAx0
import Derived.Test.YtplemgmfnghoeaaGreatDoorAx6
import Derived.Test.YtplemgmfnghoeaaGreatDoorAx8
namespace Go.Proofs.YtplemgmfnghoeaaGreatDoor.A
open Go.RowKit Go.Proofs.YtplemgmfnghoeaaGreatDoorW.PrintWords Go.Proofs.YtplemgmfnghoeaaGreatDoorW.PrintLast Go.Proofs.YtplemgmfnghoeaaGreatDoorW.PrintMore
attribute [local go_sem] max2_int min2_int max_two min_two max_three min_three max_four min_four   -- for this text's walks alone
set_option linter.unusedVariables false
set_option linter.unusedSimpArgs false

/-! ### slices_Compare_rune_rune: function 100 -/
def slices_Compare_rune_rune.l0 : Nat → List Int → List Int → List Int → Int → Int → Option (Int)
 | 0, _, _, _, _, _ => none
 | k + 1, x0, x1, x9, x10, x11 => if x11 < x10 then (if 0 ≤ x11 then (if x11 < (x9.length : Int) then (if x11 ≥ (x1.length : Int) then (some 1) else (if x11 < (x1.length : Int) then ((cmp_Compare_rune.f (rd x9 x11) (rd x1 x11)).bind fun t156 => (if t156 = 0 then (slices_Compare_rune_rune.l0 k x0 x1 x9 x10 (wrap64 (x11 + 1))) else (some t156))) else (none))) else (none)) else (none)) else (if (x0.length : Int) < (x1.length : Int) then (some (-1)) else (some 0))
def slices_Compare_rune_rune.f (k : Nat) (l0 : List Int) (l1 : List Int) : Option (Int) := slices_Compare_rune_rune.l0 k l0 l1 l0 (l0.length : Int) 0
theorem slices_Compare_rune_rune.mono_l : ∀ k, (∀ y0 y1 y2 y3 y4, LeO (slices_Compare_rune_rune.l0 k y0 y1 y2 y3 y4) (slices_Compare_rune_rune.l0 (k + 1) y0 y1 y2 y3 y4))
 | 0 => fun _ _ _ _ _ r h => by simp [slices_Compare_rune_rune.l0] at h
 | k + 1 => by
  have ih0 := slices_Compare_rune_rune.mono_l k
  ·intro y0 y1 y2 y3 y4
   unfold slices_Compare_rune_rune.l0
   repeat' first
   | (with_reducible exact ih0 _ _ _ _ _)
   | (with_reducible exact LeO.refl _)
   | (with_reducible exact LeO.none _)
   | (with_reducible refine LeO.ite ?_ ?_)
   | (with_reducible refine LeO.bind ?_ (fun _ => ?_))
   | exact ih0 _ _ _ _ _
   | exact LeO.none _
   | refine LeO.ite ?_ ?_
   | refine LeO.bind ?_ (fun _ => ?_)
theorem slices_Compare_rune_rune.mono : ∀ a0 a1 k, LeO (slices_Compare_rune_rune.f k a0 a1) (slices_Compare_rune_rune.f (k + 1) a0 a1) := by
 intro a0 a1 k
 have ih0 := slices_Compare_rune_rune.mono_l k
 unfold slices_Compare_rune_rune.f
 repeat' first
   | (with_reducible exact ih0 _ _ _ _ _)
   | (with_reducible exact LeO.refl _)
   | (with_reducible exact LeO.none _)
   | (with_reducible refine LeO.ite ?_ ?_)
   | (with_reducible refine LeO.bind ?_ (fun _ => ?_))
   | exact ih0 _ _ _ _ _
   | exact LeO.none _
   | refine LeO.ite ?_ ?_
   | refine LeO.bind ?_ (fun _ => ?_)
set_option maxHeartbeats 8000000 in
set_option maxRecDepth 100000 in
theorem slices_Compare_rune_rune.calls (k : Nat) (A0 : Option Addr) (c0 : Nat) (l0 : List Int) (A1 : Option Addr) (c1 : Nat) (l1 : List Int) (r : Int) (w : World) (hr0 : Kd.C (Kd.int .i32) w A0 l0.length l0) (hc0 : l0.length ≤ c0) (hr1 : Kd.C (Kd.int .i32) w A1 l1.length l1) (hc1 : l1.length ≤ c1) (h : slices_Compare_rune_rune.f k l0 l1 = some r) :
  Calls Tryz.prog 100 #[.slice A0 l0.length c0, .slice A1 l1.length c1] w fun e w' => e = .returned (.int .i64 r) ∧ Drawn0 w w' := by
 have HR0 := Aside0.mk hr0
 have HC0 := Aside0.mk hc0
 clear hr0 hc0
 have HR1 := Aside0.mk hr1
 have HC1 := Aside0.mk hc1
 clear hr1 hc1
 have H : (slices_Compare_rune_rune.l0 k l0 l1 l0 (l0.length : Int) 0) = some r := h
 clear h
 have H' := Aside0.mk H
 clear H
 go_enter Tryz.func100, Tryz.ntmps100
 go_wp2
 go_loopg [11] k (fun kq v11 w' => ∃ (x11_1 : Int), v11 = .int .i64 x11_1 ∧ Aside0 (slices_Compare_rune_rune.l0 kq l0 l1 l0 (l0.length : Int) x11_1 = some r) ∧ Aside0 (kq ≤ k) ∧ Drawn0 w w')
 case atStart => exact ⟨(0), (endS), H', ⟨Nat.le_refl _⟩, drA⟩
 case round =>
  clear H'
  try clear c1
  try clear p2
  obtain ⟨x11_1, rfl, HA, HK1, ⟨m1, rfl⟩⟩ := hrel
  cases gk with
  | zero => exact absurd HA.out (by simp [slices_Compare_rune_rune.l0])
  | succ k1 =>
   have H := HA.out
   clear HA
   simp only [slices_Compare_rune_rune.l0] at H
   by_cases c3 : x11_1 < (l0.length : Int)
   ·rw [if_pos c3] at H
    have c3b0 : decide (x11_1 < (l0.length : Int)) = true := decide_eq_true c3
    clear c3
    by_cases c4 : 0 ≤ x11_1
    ·rw [if_pos c4] at H
     have c4b0 : decide (0 ≤ x11_1) = true := decide_eq_true c4
     clear c4
     by_cases c5 : x11_1 < (l0.length : Int)
     ·rw [if_pos c5] at H
      have c5b0 : decide (x11_1 < (l0.length : Int)) = true := decide_eq_true c5
      clear c5
      by_cases c6 : x11_1 ≥ (l1.length : Int)
      ·rw [if_pos c6] at H
       have c6b0 : decide ((l1.length : Int) ≤ x11_1) = true := decide_eq_true c6
       clear c6
       obtain rfl := Option.some.inj H
       have p154 : 0 ≤ (x11_1 : Int) := odA
       have q154 : x11_1 < (l0.length : Int) := odA
       obtain ⟨ad154, e154, hx154_0⟩ := Kd.at_int HR0.out x11_1 p154 q154
       cases e154
       replace p154 := eq_true p154
       replace q154 := eq_true q154
       go_wp2
       go_ret
       exact ⟨endS, drA⟩
      ·rw [if_neg c6] at H
       have c6b0 : decide ((l1.length : Int) ≤ x11_1) = false := decide_eq_false c6
       clear c6
       by_cases c7 : x11_1 < (l1.length : Int)
       ·rw [if_pos c7] at H
        have c7b0 : decide (x11_1 < (l1.length : Int)) = true := decide_eq_true c7
        clear c7
        replace H := Option.bind_eq_some_iff.mp H
        obtain ⟨t156, A80, H⟩ := H
        replace H : (if t156 = 0 then (slices_Compare_rune_rune.l0 k1 l0 l1 l0 (l0.length : Int) (wrap64 (x11_1 + 1))) else (some t156)) = some r := H
        have A8 := Aside0.mk A80
        clear A80
        by_cases c9 : t156 = 0
        ·rw [if_pos c9] at H
         have c9b0 : (t156 == 0) = true := beq_iff_eq.mpr c9
         have c9b1 : (t156 != 0) = false := bne_eq_false_iff_eq.mpr c9
         clear c9
         have H' := Aside0.mk H
         clear H
         have p154 : 0 ≤ (x11_1 : Int) := odA
         have q154 : x11_1 < (l0.length : Int) := odA
         obtain ⟨ad154, e154, hx154_0⟩ := Kd.at_int HR0.out x11_1 p154 q154
         cases e154
         replace p154 := eq_true p154
         replace q154 := eq_true q154
         have p155 : 0 ≤ (x11_1 : Int) := odA
         have q155 : x11_1 < (l1.length : Int) := odA
         obtain ⟨ad155, e155, hx155_0⟩ := Kd.at_int HR1.out x11_1 p155 q155
         cases e155
         replace p155 := eq_true p155
         replace q155 := eq_true q155
         go_wp2_with (first | ((with_reducible refine gate_callee (f := 131) rfl ?_); refine goesA (some 26) Tryz.func131 #[.int .i32 (rd l0 x11_1), .int .i32 (rd l1 x11_1)] ?_; (with_reducible refine (cmp_Compare_rune.calls (rd l0 x11_1) (rd l1 x11_1) t156 _ A8.out).mono ?_); rintro e w' ⟨rfl, ⟨nd, rfl⟩⟩; refine ⟨_, rfl, ?_⟩))
         go_roundg k1
         case measure => have := HK1.out; omega
         case rel => exact ⟨(wrap64 (x11_1 + 1)), (endS), H', ⟨by have := HK1.out; omega⟩, drA⟩
        ·rw [if_neg c9] at H
         have c9b0 : (t156 == 0) = false := beq_eq_false_iff_ne.mpr c9
         have c9b1 : (t156 != 0) = true := bne_iff_ne.mpr c9
         obtain rfl := Option.some.inj H
         have p154 : 0 ≤ (x11_1 : Int) := odA
         have q154 : x11_1 < (l0.length : Int) := odA
         obtain ⟨ad154, e154, hx154_0⟩ := Kd.at_int HR0.out x11_1 p154 q154
         cases e154
         replace p154 := eq_true p154
         replace q154 := eq_true q154
         have p155 : 0 ≤ (x11_1 : Int) := odA
         have q155 : x11_1 < (l1.length : Int) := odA
         obtain ⟨ad155, e155, hx155_0⟩ := Kd.at_int HR1.out x11_1 p155 q155
         cases e155
         replace p155 := eq_true p155
         replace q155 := eq_true q155
         go_wp2_with (first | ((with_reducible refine gate_callee (f := 131) rfl ?_); refine goesA (some 26) Tryz.func131 #[.int .i32 (rd l0 x11_1), .int .i32 (rd l1 x11_1)] ?_; (with_reducible refine (cmp_Compare_rune.calls (rd l0 x11_1) (rd l1 x11_1) t156 _ A8.out).mono ?_); rintro e w' ⟨rfl, ⟨nd, rfl⟩⟩; refine ⟨_, rfl, ?_⟩))
         go_ret
         exact ⟨endS, drA⟩
       ·rw [if_neg c7] at H
        exact absurd H (by simp)
     ·rw [if_neg c5] at H
      exact absurd H (by simp)
    ·rw [if_neg c4] at H
     exact absurd H (by simp)
   ·rw [if_neg c3] at H
    have c3b0 : decide (x11_1 < (l0.length : Int)) = false := decide_eq_false c3
    clear c3
    by_cases c10 : (l0.length : Int) < (l1.length : Int)
    ·rw [if_pos c10] at H
     have c10b0 : decide ((l0.length : Int) < (l1.length : Int)) = true := decide_eq_true c10
     have c10b1 : decide (l0.length < l1.length) = true := decide_eq_true (Int.ofNat_lt.mp c10)
     clear c10
     obtain rfl := Option.some.inj H
     go_wp2
     go_ret
     exact ⟨endS, drA⟩
    ·rw [if_neg c10] at H
     have c10b0 : decide ((l0.length : Int) < (l1.length : Int)) = false := decide_eq_false c10
     have c10b1 : decide (l0.length < l1.length) = false := decide_eq_false (fun h => c10 (Int.ofNat_lt.mpr h))
     clear c10
     obtain rfl := Option.some.inj H
     go_wp2
     go_ret
     exact ⟨endS, drA⟩

/-! ### name_Compare: function 65, by hand -/
def name_Compare.f (k : Nat) (a0 : ByteArray) (a1 : ByteArray) : Option Int := (name_Fold.f a0).bind fun x => (name_Fold.f a1).bind fun y => if x.size ≤ 1099511627776 then (if y.size ≤ 1099511627776 then (if Lib.validD x.data.toList = true then (if Lib.validD y.data.toList = true then slices_Compare_rune_rune.f k (runesI x x.size 0) (runesI y y.size 0) else none) else none) else none) else none
theorem name_Compare.mono : ∀ a0 a1 k, LeO (name_Compare.f k a0 a1) (name_Compare.f (k + 1) a0 a1) := by
 intro a0 a1 k
 unfold name_Compare.f
 repeat' first
  | (with_reducible exact LeO.refl _)
  | (with_reducible exact LeO.none _)
  | (with_reducible exact slices_Compare_rune_rune.mono _ _ _)
  | (with_reducible refine LeO.ite ?_ ?_)
  | (with_reducible refine LeO.bind ?_ (fun _ => ?_))
set_option maxHeartbeats 4000000 in
set_option maxRecDepth 100000 in
theorem name_Compare.calls (k : Nat) (a0 : ByteArray) (a1 : ByteArray) (r : Int) (w : World) (hT : Tabs w) (h : name_Compare.f k a0 a1 = some r) :
  Calls Tryz.prog 65 #[.string a0, .string a1] w fun e w' => e = .returned (.int .i64 r) ∧ Below w.heap.size w w' := by
 unfold name_Compare.f at h
 obtain ⟨x, hx, h⟩ := Option.bind_eq_some_iff.1 h
 obtain ⟨y, hy, h⟩ := Option.bind_eq_some_iff.1 h
 split at h
 ·rename_i zx
  split at h
  ·rename_i zy
   split at h
   ·rename_i vx
    split at h
    ·rename_i vy
     have cX := fun W (hb : Below w.heap.size w W) => name_Fold.calls a0 x W (hT.below hb) hx
     have cY := fun W (hb : Below w.heap.size w W) => name_Fold.calls a1 y W (hT.below hb) hy
     have cV := fun W (hb : Below w.heap.size w W) => Tryz.utf8_ValidString x W (by omega) (hT.below hb).u8
     have cU := fun W (hb : Below w.heap.size w W) => Tryz.utf8_ValidString y W (by omega) (hT.below hb).u8
     rw [vx] at cV
     rw [vy] at cU
     obtain ⟨cp1, cl1, hc1, hf1⟩ := run_runes (P := Tryz.prog) 9 124 21 x Tryz.underlying9 Tryz.underlying124 Tryz.underlying21 zx
     obtain ⟨cp2, cl2, hc2, hf2⟩ := run_runes (P := Tryz.prog) 9 124 21 y Tryz.underlying9 Tryz.underlying124 Tryz.underlying21 zy
     have cC := fun A0 c0 A1 c1 W h0 z0 h1 z1 => slices_Compare_rune_rune.calls k A0 c0 (runesI x x.size 0) A1 c1 (runesI y y.size 0) r W h0 z0 h1 z1 h
     generalize runesI x x.size 0 = lx at *
     generalize runesI y y.size 0 = ly at *
     clear h zx zy hT hx hy vx vy
     have cC2 : ∀ W : World, Below w.heap.size w W → Calls Tryz.prog 100 #[.slice (some ⟨W.heap.size, 0, none⟩) lx.length (cp1 W), .slice (some ⟨W.heap.size + 1, 0, none⟩) ly.length (cp2 (W.drew.alloc (.cells (cl1 W) 21)))] ((W.drew.alloc (.cells (cl1 W) 21)).drew.alloc (.cells (cl2 (W.drew.alloc (.cells (cl1 W) 21))) 21)) fun e w' => e = .returned (.int .i64 r) ∧ Below w.heap.size w w' := by
      intro W hW
      have q1 := hf1 W
      have q2 := hf2 (W.drew.alloc (.cells (cl1 W) 21))
      have e1 : (W.drew.alloc (.cells (cl1 W) 21)).heap.size = W.heap.size + 1 := by
       show (W.heap.push _).size = _
       rw [Array.size_push]
      rw [e1] at q2
      refine (cC _ _ _ _ _ (Kd.C_below q1.2 (by repeat (first | exact Below.refl _ _ | apply below_alloc | apply below_drew1))) q1.1 q2.2 q2.1).mono ?_
      rintro e w5 ⟨rfl, ⟨n5, rfl⟩⟩
      exact ⟨rfl, by repeat (first | exact hW | apply below_alloc | apply pw_below_drewN | apply below_drew1)⟩
     clear hf1 hf2 cC
     go_enter Tryz.func65, Tryz.ntmps65
     go_wp2_with (first | (go_at_call_of 58 (Value.string a0); refine (cX _ (Below.refl _ _)).mono ?_; rintro e w1 ⟨rfl, hb1⟩) | (go_at_call_of 58 (Value.string a1); refine (cY _ hb1).mono ?_; rintro e w2 ⟨rfl, hb2⟩; have hB2 := hb1.trans (hb2.mono hb1.size)) | (go_at_call_of 92 (Value.string x); refine (cV _ hB2).mono ?_; rintro e w3 ⟨rfl, hb3⟩; have hB3 := hB2.trans (hb3.mono hB2.size)) | (go_at_call_of 92 (Value.string y); refine (cU _ hB3).mono ?_; rintro e w4 ⟨rfl, hb4⟩; have hB4 := hB3.trans (hb4.mono hB3.size)) | (go_at_call 100; go_loud (refine (cC2 w4 hB4).mono ?_); rintro e w5 ⟨rfl, hB5⟩))
     go_ret
     exact ⟨rfl, hB5⟩
    ·cases h
   ·cases h
  ·cases h
 ·cases h

end Go.Proofs.YtplemgmfnghoeaaGreatDoor.A
