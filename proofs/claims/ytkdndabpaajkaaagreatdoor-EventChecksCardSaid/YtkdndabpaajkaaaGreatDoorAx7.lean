import Derived.Test.YtkdndabpaajkaaaGreatDoorAx0
import Derived.Test.YtkdndabpaajkaaaGreatDoorAx6
namespace Go.Proofs.YtkdndabpaajkaaaGreatDoor.A
open Go.RowKit Go.Proofs.YtkdndabpaajkaaaGreatDoorW.PrintWords Go.Proofs.YtkdndabpaajkaaaGreatDoorW.PrintLast Go.Proofs.YtkdndabpaajkaaaGreatDoorW.PrintMore
attribute [local go_sem] max2_int min2_int max_two min_two max_three min_three max_four min_four   -- for this text's walks alone
set_option linter.unusedVariables false
set_option linter.unusedSimpArgs false
set_option maxHeartbeats 8000000
set_option maxRecDepth 100000
def slices_Compare_rune_rune.l0 : Nat → List Int → List Int → List Int → Int → Int → Option (Int)
 | 0, _, _, _, _, _ => none
 | k + 1, x0, x1, x9, x10, x11 => if x11 < x10 then (if 0 ≤ x11 then (if x11 < (x9.length : Int) then (if x11 ≥ (x1.length : Int) then (some 1) else (if x11 < (x1.length : Int) then ((cmp_Compare_rune.f (rd x9 x11) (rd x1 x11)).bind fun t131 => (if t131 = 0 then (slices_Compare_rune_rune.l0 k x0 x1 x9 x10 (wrap64 (x11 + 1))) else (some t131))) else (none))) else (none)) else (none)) else (if (x0.length : Int) < (x1.length : Int) then (some (-1)) else (some 0))
def slices_Compare_rune_rune.f (k : Nat) (l0 : List Int) (l1 : List Int) : Option (Int) := slices_Compare_rune_rune.l0 k l0 l1 l0 (l0.length : Int) 0
theorem slices_Compare_rune_rune.mono_l : ∀ k, (∀ y0 y1 y2 y3 y4, LeO (slices_Compare_rune_rune.l0 k y0 y1 y2 y3 y4) (slices_Compare_rune_rune.l0 (k + 1) y0 y1 y2 y3 y4))
 | 0 => fun _ _ _ _ _ r h => by simp [slices_Compare_rune_rune.l0] at h
 | k + 1 => by
  have ih0 := slices_Compare_rune_rune.mono_l k
  ·intro y0 y1 y2 y3 y4
   unfold slices_Compare_rune_rune.l0
   repeat' (with_reducible first | exact ih0 _ _ _ _ _ | exact LeO.refl _ | exact LeO.none _ | refine LeO.ite ?_ ?_ | refine LeO.bind ?_ (fun _ => ?_))
theorem slices_Compare_rune_rune.mono : ∀ a0 a1 k, LeO (slices_Compare_rune_rune.f k a0 a1) (slices_Compare_rune_rune.f (k + 1) a0 a1) := by
 intro a0 a1 k; have ih0 := slices_Compare_rune_rune.mono_l k; unfold slices_Compare_rune_rune.f
 repeat' (with_reducible first | exact ih0 _ _ _ _ _ | exact LeO.refl _ | exact LeO.none _ | refine LeO.ite ?_ ?_ | refine LeO.bind ?_ (fun _ => ?_))
theorem slices_Compare_rune_rune.calls (k : Nat) (A0 : Option Addr) (c0 : Nat) (l0 : List Int) (A1 : Option Addr) (c1 : Nat) (l1 : List Int) (r : Int) (w : World) (hr0 : Kd.C (Kd.int .i32) w A0 l0.length l0) (hc0 : l0.length ≤ c0) (hr1 : Kd.C (Kd.int .i32) w A1 l1.length l1) (hc1 : l1.length ≤ c1) (h : slices_Compare_rune_rune.f k l0 l1 = some r) :
  Calls Tryz.prog 158 #[.slice A0 l0.length c0, .slice A1 l1.length c1] w fun e w' => e = .returned (.int .i64 r) ∧ Drawn0 w w' := by
 have HR0 := aM hr0; have HC0 := aM hc0; clear hr0 hc0; have HR1 := aM hr1; have HC1 := aM hc1; clear hr1 hc1; unfold slices_Compare_rune_rune.f at h; have H := h; clear h; have H' := aM H; clear H; go_enter Tryz.func158, Tryz.ntmps158; go_wp2
 go_loopg [11] k (fun kq v11 w' => ∃ (x11_1 : Int), v11 = .int .i64 x11_1 ∧ Aside0 (slices_Compare_rune_rune.l0 kq l0 l1 l0 (l0.length : Int) x11_1 = some r) ∧ Aside0 (kq ≤ k) ∧ Drawn0 w w')
 case atStart => exact ⟨(0), (endS), H', ⟨Nat.le_refl _⟩, drA⟩
 case round =>
  clear H'; (try clear c1); (try clear p2); (try clear c15); obtain ⟨x11_1, rfl, HA, HK1, ⟨m1, rfl⟩⟩ := hrel
  cases gk with
  | zero => exact absurd HA.out (by simp [slices_Compare_rune_rune.l0])
  | succ k1 =>
   have H := HA.out; clear HA; simp only [slices_Compare_rune_rune.l0] at H; revert H; refine itR ?L7p ?L7n
   case' L7p =>
    intro c101 H; have c101b0 := dT c101; clear c101; replace H := itN H; obtain ⟨c102, H⟩ := H; have c102b0 := dT c102; clear c102; replace H := itN H; obtain ⟨c103, H⟩ := H; have c103b0 := dT c103; clear c103; revert H; refine itR ?L8p ?L8n
    case' L8p =>
     intro c104 H; have c104b0 := geT c104; clear c104; obtain rfl := sI H; have M1 := trivial; have M2 := trivial
    case' L8n =>
     intro c104 H; have c104b0 := geF c104; clear c104; replace H := itN H; obtain ⟨c105, H⟩ := H; have c105b0 := dT c105; clear c105; replace H := bnA H; obtain ⟨t131, A106, H⟩ := H; revert H; refine itQ ?L9p ?L9n
     case' L9p =>
      rintro ⟨c107b0, c107b1⟩ H; have H' := aM H; clear H; have M1 := trivial; have M3 := trivial; have M4 := trivial
     case' L9n =>
      rintro ⟨c107b0, c107b1⟩ c107 H; obtain rfl := sI H; have M1 := trivial; have M3 := trivial; have M5 := trivial
   case' L7n =>
    intro c101 H; have c101b0 := dF c101; clear c101; revert H; refine itR ?L10p ?L10n
    case' L10p =>
     intro c102 H; have c102b0 := dT c102; have c102b1 : decide (l0.length < l1.length) = true := dT (Int.ofNat_lt.mp c102); clear c102; obtain rfl := sI H; have M6 := trivial
    case' L10n =>
     intro c102 H; have c102b0 := dF c102; have c102b1 : decide (l0.length < l1.length) = false := dF (fun h => c102 (Int.ofNat_lt.mpr h)); clear c102; obtain rfl := sI H; have M6 := trivial
   all_goals
    case _ =>
     first
      | clear M1
        have p129 : 0 ≤ (x11_1 : Int) := odA; have q129 : x11_1 < (l0.length : Int) := odA; obtain ⟨ad129, e129, hx129_0⟩ := Kd.at_int HR0.out x11_1 p129 q129
        cases e129
        replace p129 := eq_true p129; replace q129 := eq_true q129
        first
         | clear M2
           go_wp2; go_ret; exact ⟨endS, drA⟩
         | clear M3
           have p130 : 0 ≤ (x11_1 : Int) := odA; have q130 : x11_1 < (l1.length : Int) := odA; obtain ⟨ad130, e130, hx130_0⟩ := Kd.at_int HR1.out x11_1 p130 q130
           cases e130
           replace p130 := eq_true p130; replace q130 := eq_true q130; try go_wp2_with (first | ((with_reducible refine gate_callee (f := 212) rfl ?_); refine goesA (some 26) Tryz.func212 #[.int .i32 (rd l0 x11_1), .int .i32 (rd l1 x11_1)] ?_; (with_reducible refine (cmp_Compare_rune.calls _ _ _ _ A106.out).mono ?_); rintro e w' ⟨rfl, ⟨nd, rfl⟩⟩; refine ⟨_, rfl, ?_⟩))
           first
            | clear M4
              go_roundg k1
              case measure => have := HK1.out; omega
              case rel => exact ⟨(wrap64 (x11_1 + 1)), (endS), H', ⟨by have := HK1.out; omega⟩, drA⟩
            | clear M5
              go_ret; exact ⟨endS, drA⟩
      | clear M6
        go_wp2; go_ret; exact ⟨endS, drA⟩
def name_Compare.f (k : Nat) (a0 : ByteArray) (a1 : ByteArray) : Option Int := (name_Fold.f a0).bind fun x => (name_Fold.f a1).bind fun y => if x.size ≤ 1099511627776 then (if y.size ≤ 1099511627776 then (if Lib.validD x.data.toList = true then (if Lib.validD y.data.toList = true then slices_Compare_rune_rune.f k (runesI x x.size 0) (runesI y y.size 0) else none) else none) else none) else none
theorem name_Compare.mono : ∀ a0 a1 k, LeO (name_Compare.f k a0 a1) (name_Compare.f (k + 1) a0 a1) := by
 intro a0 a1 k; unfold name_Compare.f
 repeat' (with_reducible first | exact slices_Compare_rune_rune.mono _ _ _ | exact LeO.refl _ | exact LeO.none _ | refine LeO.ite ?_ ?_ | refine LeO.bind ?_ (fun _ => ?_))
theorem name_Compare.calls (k : Nat) (a0 : ByteArray) (a1 : ByteArray) (r : Int) (w : World) (hT : Tabs w) (h : name_Compare.f k a0 a1 = some r) :
  Calls Tryz.prog 86 #[.string a0, .string a1] w fun e w' => e = .returned (.int .i64 r) ∧ Below w.heap.size w w' := by
 unfold name_Compare.f at h; obtain ⟨x, hx, h⟩ := Option.bind_eq_some_iff.1 h; obtain ⟨y, hy, h⟩ := Option.bind_eq_some_iff.1 h
 split at h
 ·rename_i zx
  split at h
  ·rename_i zy
   split at h
   ·rename_i vx
    split at h
    ·rename_i vy
     have cX := fun W (hb : Below w.heap.size w W) => name_Fold.calls a0 x W (hT.below hb) hx
     have cY := fun W (hb : Below w.heap.size w W) => name_Fold.calls a1 y W (hT.below hb) hy
     have cV := fun W (hb : Below w.heap.size w W) => Tryz.utf8_ValidString x W (by omega) (hT.below hb).u8
     have cU := fun W (hb : Below w.heap.size w W) => Tryz.utf8_ValidString y W (by omega) (hT.below hb).u8
     rw [vx] at cV; rw [vy] at cU; obtain ⟨cp1, cl1, hc1, hf1⟩ := run_runes (P := Tryz.prog) 9 207 21 x Tryz.underlying9 Tryz.underlying207 Tryz.underlying21 zx; obtain ⟨cp2, cl2, hc2, hf2⟩ := run_runes (P := Tryz.prog) 9 207 21 y Tryz.underlying9 Tryz.underlying207 Tryz.underlying21 zy; have cC := fun A0 c0 A1 c1 W h0 z0 h1 z1 => slices_Compare_rune_rune.calls k A0 c0 (runesI x x.size 0) A1 c1 (runesI y y.size 0) r W h0 z0 h1 z1 h
     generalize runesI x x.size 0 = lx at *
     generalize runesI y y.size 0 = ly at *
     clear h zx zy hT hx hy vx vy
     have cC2 : ∀ W : World, Below w.heap.size w W → Calls Tryz.prog 158 #[.slice (some ⟨W.heap.size, 0, none⟩) lx.length (cp1 W), .slice (some ⟨W.heap.size + 1, 0, none⟩) ly.length (cp2 (W.drew.alloc (.cells (cl1 W) 21)))] ((W.drew.alloc (.cells (cl1 W) 21)).drew.alloc (.cells (cl2 (W.drew.alloc (.cells (cl1 W) 21))) 21)) fun e w' => e = .returned (.int .i64 r) ∧ Below w.heap.size w w' := by
      intro W hW; have q1 := hf1 W; have q2 := hf2 (W.drew.alloc (.cells (cl1 W) 21))
      have e1 : (W.drew.alloc (.cells (cl1 W) 21)).heap.size = W.heap.size + 1 := by
       show (W.heap.push _).size = _
       rw [Array.size_push]
      rw [e1] at q2; refine (cC _ _ _ _ _ (Kd.C_below q1.2 (by repeat (first | exact Below.refl _ _ | apply below_alloc | apply below_drew1))) q1.1 q2.2 q2.1).mono ?_; rintro e w5 ⟨rfl, ⟨n5, rfl⟩⟩; exact ⟨rfl, by repeat (first | exact hW | apply below_alloc | apply pw_below_drewN | apply below_drew1)⟩
     clear hf1 hf2 cC; go_enter Tryz.func86, Tryz.ntmps86; go_wp2_with (first | (go_at_call_of 155 (Value.string a0); refine (cX _ (Below.refl _ _)).mono ?_; rintro e w1 ⟨rfl, hb1⟩) | (go_at_call_of 155 (Value.string a1); refine (cY _ hb1).mono ?_; rintro e w2 ⟨rfl, hb2⟩; have hB2 := hb1.trans (hb2.mono hb1.size)) | (go_at_call_of 156 (Value.string x); refine (cV _ hB2).mono ?_; rintro e w3 ⟨rfl, hb3⟩; have hB3 := hB2.trans (hb3.mono hB2.size)) | (go_at_call_of 156 (Value.string y); refine (cU _ hB3).mono ?_; rintro e w4 ⟨rfl, hb4⟩; have hB4 := hB3.trans (hb4.mono hB3.size)) | (go_at_call 158; go_loud (refine (cC2 w4 hB4).mono ?_); rintro e w5 ⟨rfl, hB5⟩)); go_ret; exact ⟨rfl, hB5⟩
    ·cases h
   ·cases h
  ·cases h
 ·cases h
def strings_Split.f (a0 : ByteArray) (a1 : ByteArray) : Option (List ByteArray) := if a0.size < 4294967281 then (if 1 ≤ a1.size then some (Lib.splitB a1 0 (Lib.countB a0 a1) a0) else none) else none
theorem strings_Split.calls (a0 : ByteArray) (a1 : ByteArray) (r : List ByteArray) (w : World) (hT : Tabs w) (h : strings_Split.f a0 a1 = some r) :
  Calls Tryz.prog 135 #[.string a0, .string a1] w fun e w' => ∃ v0_ : Value, e = .returned (v0_) ∧ Kd.R Kd.string 9 w' w.heap.size (fun _ => True) v0_ r ∧ Below w.heap.size w w' := by
 unfold strings_Split.f at h
 split at h
 ·rename_i hs
  split at h
  ·rename_i h1
   obtain rfl := sI h; obtain ⟨m, hm⟩ := hT.ml; refine (Tryz.strings_Split a0 a1 m w hs hm h1).mono ?_; rintro e w' ⟨rfl, rfl⟩; have hlen := Lib.splitB_all a1 h1 0 _ a0 rfl; have hle := Lib.countB_le a1 h1 a0.size a0 (Nat.le_refl _); refine ⟨_, rfl, ⟨fun _ _ => trivial, ?_⟩, (Below.refl _ w).alloc (Nat.le_refl _) _⟩; have := OwnRow.lit (R := fun (x : ByteArray) (cs : List Value) => cs = [Value.string x]) (e := 9) (size := 1) w w.heap.size (Kd.reps_scalar (enc := Value.string) (Lib.splitB a1 0 (Lib.countB a0 a1) a0)) (Nat.le_refl _) (by rw [hlen]; omega); rw [hlen] at this; exact this
  ·cases h
 ·cases h
def name_Parts.f (k : Nat) (a0 : ByteArray) : Option (List ByteArray) := (name_Check.f k a0).bind fun t132 => (if t132 = 0 then ((strings_Split.f a0 (⟨#[46]⟩ : ByteArray)).bind fun t133 => (some t133)) else (some ([] : List ByteArray)))
theorem name_Parts.mono : ∀ a0 k, LeO (name_Parts.f k a0) (name_Parts.f (k + 1) a0) := by
 intro a0 k; unfold name_Parts.f
 repeat' (with_reducible first | exact name_Check.mono _ _ | exact LeO.refl _ | exact LeO.none _ | refine LeO.ite ?_ ?_ | refine LeO.bind ?_ (fun _ => ?_))
theorem name_Parts.calls (k : Nat) (a0 : ByteArray) (r : List ByteArray) (w : World) (hT : Tabs w) (h : name_Parts.f k a0 = some r) :
  Calls Tryz.prog 188 #[.string a0] w fun e w' => ∃ v0_ : Value, e = .returned (v0_) ∧ Kd.R Kd.string 9 w' w.heap.size (fun _ => True) v0_ r ∧ Below w.heap.size w w' := by
 have HB := aM (Below.refl w.heap.size w); unfold name_Parts.f at h; have H := h; clear h; have HT := aM hT; clear hT; replace H := bnA H; obtain ⟨t132, A2, H⟩ := H; revert H; refine itQ ?L3p ?L3n
 case' L3p =>
  rintro ⟨c3b0, c3b1⟩ H; replace H := bnA H; obtain ⟨t133, A4, H⟩ := H; obtain rfl := sI H; have M1 := trivial
 case' L3n =>
  rintro ⟨c3b0, c3b1⟩ c3 H; obtain rfl := sI H; have M2 := trivial
 all_goals
  case _ =>
   go_enter Tryz.func188, Tryz.ntmps188; go_wp2_with (first | ((with_reducible refine gate_callee (f := 68) rfl ?_); refine goesA (some 4) Tryz.func68 #[.string a0] ?_; (with_reducible refine (name_Check.calls _ _ _ _ ?side1 A2.out).mono ?_); (case side1 => exact Tabs.below HT.out (bwA)); rintro e w101 ⟨rfl, hb⟩; refine ⟨_, rfl, ?_⟩; replace HB := aM (below_step (bwA) hb); (try clear hb); apply stopA; (case other => exact trivial)))
   case _ =>
    first
     | clear M1
       (try go_wp2_with (first | ((with_reducible refine gate_callee (f := 135) rfl ?_); refine goesA (some 7) Tryz.func135 #[.string a0, .string (⟨#[46]⟩ : ByteArray)] ?_; (with_reducible refine (strings_Split.calls _ _ _ _ ?side1 A4.out).mono ?_); (case side1 => exact Tabs.below HT.out (bwA)); rintro e w102 ⟨v134, rfl, ho0, hb⟩; refine ⟨_, rfl, ?_⟩; have HO135 := aM (Kd.R_lower ho0 (below_size (bwA))); replace HB := aM (below_step (bwA) hb); (try clear hb); (try clear ho0)))); go_ret; exact ⟨_, endA, by (with_reducible repeat (first | apply Kd.R_alloc | apply Kd.R_drewN | apply Kd.R_drew)); exact HO135.out, bwA⟩
     | clear M2
       (try go_wp2_with (fail))
       go_ret; exact ⟨_, endA, by first | exact Kd.R_nil _ _ _ _ _ | exact Kd.N_nil _ _ _ _ _ | exact Kd.V_nil _ _ _ _ _ | exact Kd.Q_nil _ _ _ _ _ | exact Kd.S_nil _ _ _ _ _, bwA⟩
def schema_simple.f (k : Nat) (a0 : ByteArray) : Option (Bool) := (name_Check.f k a0).bind fun t136 => (if t136 = 0 then ((name_Parts.f k a0).bind fun t137 => (some ((t137.length : Int) == 1))) else (some false))
theorem schema_simple.mono : ∀ a0 k, LeO (schema_simple.f k a0) (schema_simple.f (k + 1) a0) := by
 intro a0 k; unfold schema_simple.f
 repeat' (with_reducible first | exact name_Check.mono _ _ | exact name_Parts.mono _ _ | exact LeO.refl _ | exact LeO.none _ | refine LeO.ite ?_ ?_ | refine LeO.bind ?_ (fun _ => ?_))
theorem schema_simple.calls (k : Nat) (a0 : ByteArray) (r : Bool) (w : World) (hT : Tabs w) (h : schema_simple.f k a0 = some r) :
  Calls Tryz.prog 176 #[.string a0] w fun e w' => e = .returned (.bool r) ∧ Below w.heap.size w w' := by
 have HB := aM (Below.refl w.heap.size w); unfold schema_simple.f at h; have H := h; clear h; have HT := aM hT; clear hT; replace H := bnA H; obtain ⟨t136, A2, H⟩ := H; revert H; refine itQ ?L3p ?L3n
 case' L3p =>
  rintro ⟨c3b0, c3b1⟩ H; replace H := bnA H; obtain ⟨t137, A4, H⟩ := H; obtain rfl := sI H; have M1 := trivial
 case' L3n =>
  rintro ⟨c3b0, c3b1⟩ c3 H; obtain rfl := sI H; have M2 := trivial
 all_goals
  case _ =>
   go_enter Tryz.func176, Tryz.ntmps176; go_wp2_with (first | ((with_reducible refine gate_callee (f := 68) rfl ?_); refine goesA (some 4) Tryz.func68 #[.string a0] ?_; (with_reducible refine (name_Check.calls _ _ _ _ ?side1 A2.out).mono ?_); (case side1 => exact Tabs.below HT.out (bwA)); rintro e w101 ⟨rfl, hb⟩; refine ⟨_, rfl, ?_⟩; replace HB := aM (below_step (bwA) hb); (try clear hb); apply stopA; (case other => exact trivial)))
   case _ =>
    first
     | clear M1
       (try go_wp2_with (first | (go_at_call 188; (with_reducible refine (name_Parts.calls _ _ _ _ ?side1 A4.out).mono ?_); (case side1 => exact Tabs.below HT.out (bwA)); rintro e w102 ⟨v138, rfl, ho0, hb⟩; have HO139 := aM (Kd.R_lower ho0 (below_size (bwA))); replace HB := aM (below_step (bwA) hb); (try clear hb); (try clear ho0); obtain ⟨Ao103, co103, eo103⟩ := Kd.R_slice HO139.out; subst eo103))); go_ret; exact ⟨endA, bwA⟩
     | clear M2
       (try go_wp2_with (fail))
       go_ret; exact ⟨endA, bwA⟩
def utf8_ValidString.f (a0 : ByteArray) : Option Bool := if a0.size ≤ 9223372036854775807 then some (Lib.validD a0.data.toList) else none
theorem utf8_ValidString.calls (a0 : ByteArray) (r : Bool) (w : World) (hT : Tabs w) (h : utf8_ValidString.f a0 = some r) :
  Calls Tryz.prog 156 #[.string a0] w fun e w' => e = .returned (.bool r) ∧ Below w.heap.size w w' := by
 unfold utf8_ValidString.f at h
 split at h
 ·rename_i hs
  obtain rfl := sI h; exact Tryz.utf8_ValidString a0 w hs hT.u8
 ·cases h
def value_Check.f (a0_0 : Int) (a0_1 : Int) (a0_2 : ByteArray) : Option (Bool) := if a0_0 = 1 then (if a0_1 ≥ (-9007199254740991) then (if a0_1 ≤ 9007199254740991 then (some (a0_2.toList == ([] : List UInt8))) else (some false)) else (some false)) else (if a0_0 = 2 then (if a0_1 = 0 then (if (a0_2.size : Int) ≤ 200 then ((utf8_ValidString.f a0_2).bind fun t141 => (some t141)) else (some false)) else (some false)) else (if a0_0 = 3 then (if a0_1 = 0 then (some (a0_2.toList == ([] : List UInt8))) else (if a0_1 = 1 then (some (a0_2.toList == ([] : List UInt8))) else (some false))) else (if a0_0 = 4 then (if a0_1 = 0 then (some (decide ((a0_2.size : Int) ≤ 200))) else (some false)) else (some false))))
theorem value_Check.calls (a0_0 : Int) (a0_1 : Int) (a0_2 : ByteArray) (r : Bool) (w : World) (hT : Tabs w) (h : value_Check.f a0_0 a0_1 a0_2 = some r) :
  Calls Tryz.prog 177 #[.agg #[.int .i64 a0_0, .int .i64 a0_1, .string a0_2]] w fun e w' => e = .returned (.bool r) ∧ Below w.heap.size w w' := by
 have hu74 := Tryz.underlying74; have HB := aM (Below.refl w.heap.size w); unfold value_Check.f at h; have H := h; clear h; have HT := aM hT; clear hT; revert H; refine itQ ?L3p ?L3n
 case' L3p =>
  rintro ⟨c2b0, c2b1⟩ H; revert H; refine itR ?L4p ?L4n
  case' L4p =>
   intro c3 H; have c3b0 := geT c3; clear c3; revert H; refine itR ?L5p ?L5n
   case' L5p =>
    intro c4 H; have c4b0 := dT c4; clear c4; obtain rfl := sI H; have M1 := trivial
   case' L5n =>
    intro c4 H; have c4b0 := dF c4; clear c4; obtain rfl := sI H; have M1 := trivial
  case' L4n =>
   intro c3 H; have c3b0 := geF c3; clear c3; obtain rfl := sI H; have M1 := trivial
 case' L3n =>
  rintro ⟨c2b0, c2b1⟩ c2 H; revert H; refine itQ ?L6p ?L6n
  case' L6p =>
   rintro ⟨c3b0, c3b1⟩ H; revert H; refine itQ ?L7p ?L7n
   case' L7p =>
    rintro ⟨c4b0, c4b1⟩ H; revert H; refine itR ?L8p ?L8n
    case' L8p =>
     intro c5 H; have c5b0 := dT c5; have c5b1 : decide (a0_2.size ≤ 200) = true := dT (by omega); clear c5; replace H := bnA H; obtain ⟨t141, A6, H⟩ := H; obtain rfl := sI H; have M2 := trivial
    case' L8n =>
     intro c5 H; have c5b0 := dF c5; have c5b1 : decide (a0_2.size ≤ 200) = false := dF (by omega); clear c5; obtain rfl := sI H; have M1 := trivial
   case' L7n =>
    rintro ⟨c4b0, c4b1⟩ c4 H; obtain rfl := sI H; have M1 := trivial
  case' L6n =>
   rintro ⟨c3b0, c3b1⟩ c3 H; revert H; refine itQ ?L9p ?L9n
   case' L9p =>
    rintro ⟨c4b0, c4b1⟩ H; revert H; refine itQ ?L10p ?L10n
    case' L10p =>
     rintro ⟨c5b0, c5b1⟩ H; obtain rfl := sI H; have M1 := trivial
    case' L10n =>
     rintro ⟨c5b0, c5b1⟩ c5 H; revert H; refine itQ ?L11p ?L11n
     case' L11p =>
      rintro ⟨c6b0, c6b1⟩ H; obtain rfl := sI H; have M1 := trivial
     case' L11n =>
      rintro ⟨c6b0, c6b1⟩ c6 H; obtain rfl := sI H; have M1 := trivial
   case' L9n =>
    rintro ⟨c4b0, c4b1⟩ c4 H; revert H; refine itQ ?L12p ?L12n
    case' L12p =>
     rintro ⟨c5b0, c5b1⟩ H; revert H; refine itQ ?L13p ?L13n
     case' L13p =>
      rintro ⟨c6b0, c6b1⟩ H; obtain rfl := sI H; have M1 := trivial
     case' L13n =>
      rintro ⟨c6b0, c6b1⟩ c6 H; obtain rfl := sI H; have M1 := trivial
    case' L12n =>
     rintro ⟨c5b0, c5b1⟩ c5 H; obtain rfl := sI H; have M1 := trivial
 all_goals
  case _ =>
   go_enter Tryz.func177, Tryz.ntmps177; go_wp2_with (first | ((with_reducible refine gate_dst (N := 1) rfl ?_); (try (refine gate_guard (by rfl) ?_; dsimp only)); refine boxB 1 #[.int .i64 a0_0, .int .i64 a0_1, .string a0_2] 74 HB ?_; clear HB; intro gb140 w101 BK140 GW140 GE140 HB; obtain ⟨hcz102_0, hcz102_1, hcz102_2⟩ := cel3 BK140.out; obtain ⟨hfz102_0, hfz102_1, hfz102_2⟩ := frz3 BK140.out; apply stopA; (case other => exact trivial)))
   case _ =>
    first
     | clear M1
       (try go_wp2_with (fail))
       go_ret; exact ⟨endA, bwA⟩
     | clear M2
       (try go_wp2_with (first | (go_at_call 156; (with_reducible refine (utf8_ValidString.calls _ _ _ ?side1 A6.out).mono ?_); (case side1 => exact Tabs.below HT.out (bwA)); rintro e w103 ⟨rfl, hb⟩; replace BK140 := aM (bkB BK140 hb); replace HB := aM (below_step (bwA) hb); (try clear hb)))); go_ret; exact ⟨endA, bwA⟩
end Go.Proofs.YtkdndabpaajkaaaGreatDoor.A
