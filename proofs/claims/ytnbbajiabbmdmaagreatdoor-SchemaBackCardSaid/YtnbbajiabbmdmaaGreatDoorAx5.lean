-- By drv.py, the session's own driver round the kit's print: the machine's side of the laws, function by function. Not trusted: Lean checks it.
import Derived.Test.YtnbbajiabbmdmaaGreatDoorAx0
import Derived.Test.YtnbbajiabbmdmaaGreatDoorAx4
namespace Go.Proofs.YtnbbajiabbmdmaaGreatDoor.A
open Go.RowKit Go.Proofs.YtnbbajiabbmdmaaGreatDoorW.PrintWords Go.Proofs.YtnbbajiabbmdmaaGreatDoorW.PrintLast Go.Proofs.YtnbbajiabbmdmaaGreatDoorW.PrintMore
attribute [local go_sem] max2_int min2_int max_two min_two max_three min_three max_four min_four   -- for this text's walks alone
set_option linter.unusedVariables false
set_option linter.unusedSimpArgs false

/-! ### name_Check: function 83 -/
def name_Check.f (k : Nat) (a0 : ByteArray) : Option (Int) := (name_formed.f k a0).bind fun t110 => (if t110 = true then ((utf8_RuneCountInString.f a0).bind fun t111 => (if t111 > 40 then (some 2) else ((strings_Count.f a0 (⟨#[46]⟩ : ByteArray)).bind fun t112 => (if t112 ≥ 5 then (some 2) else (some 0))))) else (some 3))
theorem name_Check.mono : ∀ a0 k, LeO (name_Check.f k a0) (name_Check.f (k + 1) a0) := by
 intro a0 k
 unfold name_Check.f
 repeat' first
   | (with_reducible exact name_formed.mono _ _)
   | (with_reducible exact LeO.refl _)
   | (with_reducible exact LeO.none _)
   | (with_reducible refine LeO.ite ?_ ?_)
   | (with_reducible refine LeO.bind ?_ (fun _ => ?_))
   | exact name_formed.mono _ _
   | exact LeO.none _
   | refine LeO.ite ?_ ?_
   | refine LeO.bind ?_ (fun _ => ?_)
set_option maxHeartbeats 8000000 in
set_option maxRecDepth 100000 in
theorem name_Check.calls (k : Nat) (a0 : ByteArray) (r : Int) (w : World) (hT : Tabs w) (h : name_Check.f k a0 = some r) :
  Calls Tryz.prog 83 #[.string a0] w fun e w' => e = .returned (.int .i64 r) ∧ Below w.heap.size w w' := by
 have HB := Aside0.mk (Below.refl w.heap.size w)
 have H : ((name_formed.f k a0).bind fun t110 => (if t110 = true then ((utf8_RuneCountInString.f a0).bind fun t111 => (if t111 > 40 then (some 2) else ((strings_Count.f a0 (⟨#[46]⟩ : ByteArray)).bind fun t112 => (if t112 ≥ 5 then (some 2) else (some 0))))) else (some 3))) = some r := h
 clear h
 have HT := Aside0.mk hT
 clear hT
 replace H := Option.bind_eq_some_iff.mp H
 obtain ⟨t110, A20, H⟩ := H
 replace H : (if t110 = true then ((utf8_RuneCountInString.f a0).bind fun t111 => (if t111 > 40 then (some 2) else ((strings_Count.f a0 (⟨#[46]⟩ : ByteArray)).bind fun t112 => (if t112 ≥ 5 then (some 2) else (some 0))))) else (some 3)) = some r := H
 have A2 := Aside0.mk A20
 clear A20
 by_cases c3 : t110 = true
 ·subst c3
  have H1 : ((utf8_RuneCountInString.f a0).bind fun t111 => (if t111 > 40 then (some 2) else ((strings_Count.f a0 (⟨#[46]⟩ : ByteArray)).bind fun t112 => (if t112 ≥ 5 then (some 2) else (some 0))))) = some r := by rw [if_pos rfl] at H; exact H
  clear H
  have H := H1
  clear H1
  replace H := Option.bind_eq_some_iff.mp H
  obtain ⟨t111, A40, H⟩ := H
  replace H : (if t111 > 40 then (some 2) else ((strings_Count.f a0 (⟨#[46]⟩ : ByteArray)).bind fun t112 => (if t112 ≥ 5 then (some 2) else (some 0)))) = some r := H
  have A4 := Aside0.mk A40
  clear A40
  by_cases c5 : t111 > 40
  ·rw [if_pos c5] at H
   have c5b0 : decide (40 < t111) = true := decide_eq_true c5
   clear c5
   obtain rfl := Option.some.inj H
   go_enter Tryz.func83, Tryz.ntmps83
   go_wp2_with (first | ((with_reducible refine gate_callee (f := 107) rfl ?_); refine goesA (some 5) Tryz.func107 #[.string a0] ?_; (with_reducible refine (name_formed.calls k a0 true _ ?side1 A2.out).mono ?_); (case side1 => exact Tabs.below HT.out (bwA)); rintro e w6 ⟨rfl, hb⟩; refine ⟨_, rfl, ?_⟩; have n0_ := Aside0.mk (below_step (bwA) hb); clear HB; have HB := n0_; clear n0_; (try clear hb); (try clear hb2); (try clear hk); (try clear hi)) | ((with_reducible refine gate_callee (f := 108) rfl ?_); refine goesA (some 9) Tryz.func108 #[.string a0] ?_; (with_reducible refine (utf8_RuneCountInString.calls a0 t111 _ A4.out).mono ?_); rintro e w7 ⟨rfl, hb⟩; refine ⟨_, rfl, ?_⟩; have n0_ := Aside0.mk (below_step (bwA) hb); clear HB; have HB := n0_; clear n0_; (try clear hb); (try clear hb2); (try clear hk); (try clear hi)))
   go_ret
   exact ⟨endA, bwA⟩
  ·rw [if_neg c5] at H
   have c5b0 : decide (40 < t111) = false := decide_eq_false c5
   clear c5
   replace H := Option.bind_eq_some_iff.mp H
   obtain ⟨t112, A80, H⟩ := H
   replace H : (if t112 ≥ 5 then (some 2) else (some 0)) = some r := H
   have A8 := Aside0.mk A80
   clear A80
   by_cases c9 : t112 ≥ 5
   ·rw [if_pos c9] at H
    have c9b0 : decide (5 ≤ t112) = true := decide_eq_true c9
    clear c9
    obtain rfl := Option.some.inj H
    go_enter Tryz.func83, Tryz.ntmps83
    go_wp2_with (first | ((with_reducible refine gate_callee (f := 107) rfl ?_); refine goesA (some 5) Tryz.func107 #[.string a0] ?_; (with_reducible refine (name_formed.calls k a0 true _ ?side1 A2.out).mono ?_); (case side1 => exact Tabs.below HT.out (bwA)); rintro e w10 ⟨rfl, hb⟩; refine ⟨_, rfl, ?_⟩; have n0_ := Aside0.mk (below_step (bwA) hb); clear HB; have HB := n0_; clear n0_; (try clear hb); (try clear hb2); (try clear hk); (try clear hi)) | ((with_reducible refine gate_callee (f := 108) rfl ?_); refine goesA (some 9) Tryz.func108 #[.string a0] ?_; (with_reducible refine (utf8_RuneCountInString.calls a0 t111 _ A4.out).mono ?_); rintro e w11 ⟨rfl, hb⟩; refine ⟨_, rfl, ?_⟩; have n0_ := Aside0.mk (below_step (bwA) hb); clear HB; have HB := n0_; clear n0_; (try clear hb); (try clear hb2); (try clear hk); (try clear hi)) | (go_at_call 109; (with_reducible refine (strings_Count.calls a0 (⟨#[46]⟩ : ByteArray) t112 _ A8.out).mono ?_); rintro e w' ⟨rfl, ⟨nd, rfl⟩⟩))
    go_ret
    exact ⟨endA, bwA⟩
   ·rw [if_neg c9] at H
    have c9b0 : decide (5 ≤ t112) = false := decide_eq_false c9
    clear c9
    obtain rfl := Option.some.inj H
    go_enter Tryz.func83, Tryz.ntmps83
    go_wp2_with (first | ((with_reducible refine gate_callee (f := 107) rfl ?_); refine goesA (some 5) Tryz.func107 #[.string a0] ?_; (with_reducible refine (name_formed.calls k a0 true _ ?side1 A2.out).mono ?_); (case side1 => exact Tabs.below HT.out (bwA)); rintro e w12 ⟨rfl, hb⟩; refine ⟨_, rfl, ?_⟩; have n0_ := Aside0.mk (below_step (bwA) hb); clear HB; have HB := n0_; clear n0_; (try clear hb); (try clear hb2); (try clear hk); (try clear hi)) | ((with_reducible refine gate_callee (f := 108) rfl ?_); refine goesA (some 9) Tryz.func108 #[.string a0] ?_; (with_reducible refine (utf8_RuneCountInString.calls a0 t111 _ A4.out).mono ?_); rintro e w13 ⟨rfl, hb⟩; refine ⟨_, rfl, ?_⟩; have n0_ := Aside0.mk (below_step (bwA) hb); clear HB; have HB := n0_; clear n0_; (try clear hb); (try clear hb2); (try clear hk); (try clear hi)) | (go_at_call 109; (with_reducible refine (strings_Count.calls a0 (⟨#[46]⟩ : ByteArray) t112 _ A8.out).mono ?_); rintro e w' ⟨rfl, ⟨nd, rfl⟩⟩))
    go_ret
    exact ⟨endA, bwA⟩
 ·replace c3 := Bool.eq_false_iff.mpr c3
  subst c3
  have H1 : (some 3) = some r := by rw [if_neg (show ¬ (false = true) by decide)] at H; exact H
  clear H
  have H := H1
  clear H1
  obtain rfl := Option.some.inj H
  go_enter Tryz.func83, Tryz.ntmps83
  go_wp2_with (first | ((with_reducible refine gate_callee (f := 107) rfl ?_); refine goesA (some 5) Tryz.func107 #[.string a0] ?_; (with_reducible refine (name_formed.calls k a0 false _ ?side1 A2.out).mono ?_); (case side1 => exact Tabs.below HT.out (bwA)); rintro e w14 ⟨rfl, hb⟩; refine ⟨_, rfl, ?_⟩; have n0_ := Aside0.mk (below_step (bwA) hb); clear HB; have HB := n0_; clear n0_; (try clear hb); (try clear hb2); (try clear hk); (try clear hi)))
  go_ret
  exact ⟨endA, bwA⟩

/-! ### strings_Split: function 55, by hand -/
def strings_Split.f (a0 : ByteArray) (a1 : ByteArray) : Option (List ByteArray) := if a0.size < 4294967281 then (if 1 ≤ a1.size then some (Lib.splitB a1 0 (Lib.countB a0 a1) a0) else none) else none
theorem strings_Split.calls (a0 : ByteArray) (a1 : ByteArray) (r : List ByteArray) (w : World) (hT : Tabs w) (h : strings_Split.f a0 a1 = some r) :
  Calls Tryz.prog 55 #[.string a0, .string a1] w fun e w' => ∃ v0_ : Value, e = .returned (v0_) ∧ Kd.R Kd.string 9 w' w.heap.size (fun _ => True) v0_ r ∧ Below w.heap.size w w' := by
 unfold strings_Split.f at h
 split at h
 ·rename_i hs
  split at h
  ·rename_i h1
   obtain rfl := Option.some.inj h
   obtain ⟨m, hm⟩ := hT.ml
   refine (Tryz.strings_Split a0 a1 m w hs hm h1).mono ?_
   rintro e w' ⟨rfl, rfl⟩
   have hlen := Lib.splitB_all a1 h1 0 _ a0 rfl
   have hle := Lib.countB_le a1 h1 a0.size a0 (Nat.le_refl _)
   refine ⟨_, rfl, ⟨fun _ _ => trivial, ?_⟩, (Below.refl _ w).alloc (Nat.le_refl _) _⟩
   have := OwnRow.lit (R := fun (x : ByteArray) (cs : List Value) => cs = [Value.string x]) (e := 9) (size := 1) w w.heap.size (Kd.reps_scalar (enc := Value.string) (Lib.splitB a1 0 (Lib.countB a0 a1) a0)) (Nat.le_refl _) (by rw [hlen]; omega)
   rw [hlen] at this
   exact this
  ·cases h
 ·cases h

/-! ### name_Parts: function 84 -/
def name_Parts.f (k : Nat) (a0 : ByteArray) : Option (List ByteArray) := (name_Check.f k a0).bind fun t113 => (if t113 = 0 then ((strings_Split.f a0 (⟨#[46]⟩ : ByteArray)).bind fun t114 => (some t114)) else (some ([] : List ByteArray)))
theorem name_Parts.mono : ∀ a0 k, LeO (name_Parts.f k a0) (name_Parts.f (k + 1) a0) := by
 intro a0 k
 unfold name_Parts.f
 repeat' first
   | (with_reducible exact name_Check.mono _ _)
   | (with_reducible exact LeO.refl _)
   | (with_reducible exact LeO.none _)
   | (with_reducible refine LeO.ite ?_ ?_)
   | (with_reducible refine LeO.bind ?_ (fun _ => ?_))
   | exact name_Check.mono _ _
   | exact LeO.none _
   | refine LeO.ite ?_ ?_
   | refine LeO.bind ?_ (fun _ => ?_)
set_option maxHeartbeats 8000000 in
set_option maxRecDepth 100000 in
theorem name_Parts.calls (k : Nat) (a0 : ByteArray) (r : List ByteArray) (w : World) (hT : Tabs w) (h : name_Parts.f k a0 = some r) :
  Calls Tryz.prog 84 #[.string a0] w fun e w' => ∃ v0_ : Value, e = .returned (v0_) ∧ Kd.R Kd.string 9 w' w.heap.size (fun _ => True) v0_ r ∧ Below w.heap.size w w' := by
 have HB := Aside0.mk (Below.refl w.heap.size w)
 have H : ((name_Check.f k a0).bind fun t113 => (if t113 = 0 then ((strings_Split.f a0 (⟨#[46]⟩ : ByteArray)).bind fun t114 => (some t114)) else (some ([] : List ByteArray)))) = some r := h
 clear h
 have HT := Aside0.mk hT
 clear hT
 replace H := Option.bind_eq_some_iff.mp H
 obtain ⟨t113, A20, H⟩ := H
 replace H : (if t113 = 0 then ((strings_Split.f a0 (⟨#[46]⟩ : ByteArray)).bind fun t114 => (some t114)) else (some ([] : List ByteArray))) = some r := H
 have A2 := Aside0.mk A20
 clear A20
 by_cases c3 : t113 = 0
 ·rw [if_pos c3] at H
  have c3b0 : (t113 == 0) = true := beq_iff_eq.mpr c3
  have c3b1 : (t113 != 0) = false := bne_eq_false_iff_eq.mpr c3
  clear c3
  replace H := Option.bind_eq_some_iff.mp H
  obtain ⟨t114, A40, H⟩ := H
  replace H : (some t114) = some r := H
  have A4 := Aside0.mk A40
  clear A40
  obtain rfl := Option.some.inj H
  go_enter Tryz.func84, Tryz.ntmps84
  go_wp2_with (first | ((with_reducible refine gate_callee (f := 83) rfl ?_); refine goesA (some 4) Tryz.func83 #[.string a0] ?_; (with_reducible refine (name_Check.calls k a0 t113 _ ?side1 A2.out).mono ?_); (case side1 => exact Tabs.below HT.out (bwA)); rintro e w5 ⟨rfl, hb⟩; refine ⟨_, rfl, ?_⟩; have n0_ := Aside0.mk (below_step (bwA) hb); clear HB; have HB := n0_; clear n0_; (try clear hb); (try clear hb2); (try clear hk); (try clear hi)) | ((with_reducible refine gate_callee (f := 55) rfl ?_); refine goesA (some 7) Tryz.func55 #[.string a0, .string (⟨#[46]⟩ : ByteArray)] ?_; (with_reducible refine (strings_Split.calls a0 (⟨#[46]⟩ : ByteArray) t114 _ ?side1 A4.out).mono ?_); (case side1 => exact Tabs.below HT.out (bwA)); rintro e w6 ⟨v115, rfl, ho0, hb⟩; refine ⟨_, rfl, ?_⟩; have n0_ := Aside0.mk (Kd.R_lower ho0 (below_size (bwA))); have n1_ := Aside0.mk (below_step (bwA) hb); clear HB; have HO116 := n0_; have HB := n1_; clear n0_ n1_; (try clear hb); (try clear hb2); (try clear hk); (try clear hi); (try clear ho0)))
  go_ret
  exact ⟨_, endA, by (with_reducible repeat (first | apply Kd.R_alloc | apply Kd.R_drewN | apply Kd.R_drew)); exact HO116.out, bwA⟩
 ·rw [if_neg c3] at H
  have c3b0 : (t113 == 0) = false := beq_eq_false_iff_ne.mpr c3
  have c3b1 : (t113 != 0) = true := bne_iff_ne.mpr c3
  obtain rfl := Option.some.inj H
  go_enter Tryz.func84, Tryz.ntmps84
  go_wp2_with (first | ((with_reducible refine gate_callee (f := 83) rfl ?_); refine goesA (some 4) Tryz.func83 #[.string a0] ?_; (with_reducible refine (name_Check.calls k a0 t113 _ ?side1 A2.out).mono ?_); (case side1 => exact Tabs.below HT.out (bwA)); rintro e w7 ⟨rfl, hb⟩; refine ⟨_, rfl, ?_⟩; have n0_ := Aside0.mk (below_step (bwA) hb); clear HB; have HB := n0_; clear n0_; (try clear hb); (try clear hb2); (try clear hk); (try clear hi)))
  go_ret
  exact ⟨_, endA, by first | exact Kd.R_nil _ _ _ _ _ | exact Kd.N_nil _ _ _ _ _ | exact Kd.V_nil _ _ _ _ _ | exact Kd.Q_nil _ _ _ _ _ | exact Kd.S_nil _ _ _ _ _, bwA⟩

/-! ### schema_simple: function 51 -/
def schema_simple.f (k : Nat) (a0 : ByteArray) : Option (Bool) := (name_Check.f k a0).bind fun t117 => (if t117 = 0 then ((name_Parts.f k a0).bind fun t118 => (some ((t118.length : Int) == 1))) else (some false))
theorem schema_simple.mono : ∀ a0 k, LeO (schema_simple.f k a0) (schema_simple.f (k + 1) a0) := by
 intro a0 k
 unfold schema_simple.f
 repeat' first
   | (with_reducible exact name_Check.mono _ _)
   | (with_reducible exact name_Parts.mono _ _)
   | (with_reducible exact LeO.refl _)
   | (with_reducible exact LeO.none _)
   | (with_reducible refine LeO.ite ?_ ?_)
   | (with_reducible refine LeO.bind ?_ (fun _ => ?_))
   | exact name_Check.mono _ _
   | exact name_Parts.mono _ _
   | exact LeO.none _
   | refine LeO.ite ?_ ?_
   | refine LeO.bind ?_ (fun _ => ?_)
set_option maxHeartbeats 8000000 in
set_option maxRecDepth 100000 in
theorem schema_simple.calls (k : Nat) (a0 : ByteArray) (r : Bool) (w : World) (hT : Tabs w) (h : schema_simple.f k a0 = some r) :
  Calls Tryz.prog 51 #[.string a0] w fun e w' => e = .returned (.bool r) ∧ Below w.heap.size w w' := by
 have HB := Aside0.mk (Below.refl w.heap.size w)
 have H : ((name_Check.f k a0).bind fun t117 => (if t117 = 0 then ((name_Parts.f k a0).bind fun t118 => (some ((t118.length : Int) == 1))) else (some false))) = some r := h
 clear h
 have HT := Aside0.mk hT
 clear hT
 replace H := Option.bind_eq_some_iff.mp H
 obtain ⟨t117, A20, H⟩ := H
 replace H : (if t117 = 0 then ((name_Parts.f k a0).bind fun t118 => (some ((t118.length : Int) == 1))) else (some false)) = some r := H
 have A2 := Aside0.mk A20
 clear A20
 by_cases c3 : t117 = 0
 ·rw [if_pos c3] at H
  have c3b0 : (t117 == 0) = true := beq_iff_eq.mpr c3
  have c3b1 : (t117 != 0) = false := bne_eq_false_iff_eq.mpr c3
  clear c3
  replace H := Option.bind_eq_some_iff.mp H
  obtain ⟨t118, A40, H⟩ := H
  replace H : (some ((t118.length : Int) == 1)) = some r := H
  have A4 := Aside0.mk A40
  clear A40
  obtain rfl := Option.some.inj H
  go_enter Tryz.func51, Tryz.ntmps51
  go_wp2_with (first | ((with_reducible refine gate_callee (f := 83) rfl ?_); refine goesA (some 4) Tryz.func83 #[.string a0] ?_; (with_reducible refine (name_Check.calls k a0 t117 _ ?side1 A2.out).mono ?_); (case side1 => exact Tabs.below HT.out (bwA)); rintro e w5 ⟨rfl, hb⟩; refine ⟨_, rfl, ?_⟩; have n0_ := Aside0.mk (below_step (bwA) hb); clear HB; have HB := n0_; clear n0_; (try clear hb); (try clear hb2); (try clear hk); (try clear hi)) | (go_at_call 84; (with_reducible refine (name_Parts.calls k a0 t118 _ ?side1 A4.out).mono ?_); (case side1 => exact Tabs.below HT.out (bwA)); rintro e w6 ⟨v119, rfl, ho0, hb⟩; have n0_ := Aside0.mk (Kd.R_lower ho0 (below_size (bwA))); have n1_ := Aside0.mk (below_step (bwA) hb); clear HB; have HO120 := n0_; have HB := n1_; clear n0_ n1_; (try clear hb); (try clear hb2); (try clear hk); (try clear hi); (try clear ho0); obtain ⟨Ao7, co7, eo7⟩ := Kd.R_slice HO120.out; subst eo7))
  go_ret
  exact ⟨endA, bwA⟩
 ·rw [if_neg c3] at H
  have c3b0 : (t117 == 0) = false := beq_eq_false_iff_ne.mpr c3
  have c3b1 : (t117 != 0) = true := bne_iff_ne.mpr c3
  obtain rfl := Option.some.inj H
  go_enter Tryz.func51, Tryz.ntmps51
  go_wp2_with (first | ((with_reducible refine gate_callee (f := 83) rfl ?_); refine goesA (some 4) Tryz.func83 #[.string a0] ?_; (with_reducible refine (name_Check.calls k a0 t117 _ ?side1 A2.out).mono ?_); (case side1 => exact Tabs.below HT.out (bwA)); rintro e w8 ⟨rfl, hb⟩; refine ⟨_, rfl, ?_⟩; have n0_ := Aside0.mk (below_step (bwA) hb); clear HB; have HB := n0_; clear n0_; (try clear hb); (try clear hb2); (try clear hk); (try clear hi)))
  go_ret
  exact ⟨endA, bwA⟩

/-! ### schema_word: function 73, by hand -/
def schema_word.f (a0 : Int) : Option ByteArray := some (if a0 = 1 then ⟨#[105, 110, 116]⟩ else if a0 = 2 then ⟨#[116, 101, 120, 116]⟩ else if a0 = 3 then ⟨#[98, 111, 111, 108]⟩ else if a0 = 4 then ⟨#[98, 121, 116, 101, 115]⟩ else ⟨#[]⟩)
set_option maxHeartbeats 4000000 in
theorem schema_word.calls (a0 : Int) (r : ByteArray) (w : World) (h : schema_word.f a0 = some r) :
  Calls Tryz.prog 73 #[.int .i64 a0] w fun e w' => e = .returned (.string r) ∧ Below w.heap.size w w' := by
 unfold schema_word.f at h
 obtain rfl := Option.some.inj h
 clear h
 by_cases h1 : a0 ≤ 0
 ·rw [if_neg (by omega), if_neg (by omega), if_neg (by omega), if_neg (by omega)]
  go_enter Tryz.func73, Tryz.ntmps73
  go_wp2
  go_ret
  exact ⟨rfl, (Below.refl _ w).alloc (Nat.le_refl _) _⟩
 by_cases h2 : a0 ≥ 5
 ·rw [if_neg (by omega), if_neg (by omega), if_neg (by omega), if_neg (by omega)]
  go_enter Tryz.func73, Tryz.ntmps73
  go_wp2
  go_ret
  exact ⟨rfl, (Below.refl _ w).alloc (Nat.le_refl _) _⟩
 have h3 : a0 = 1 ∨ a0 = 2 ∨ a0 = 3 ∨ a0 = 4 := by omega
 clear h1 h2
 rcases h3 with rfl | rfl | rfl | rfl
 all_goals
  go_enter Tryz.func73, Tryz.ntmps73
  go_wp2
  go_ret
  exact ⟨rfl, (Below.refl _ w).alloc (Nat.le_refl _) _⟩

/-! ### schema_field: function 38 -/
def schema_field.f (k : Nat) (a0_0 : ByteArray) (a0_1 : Int) (a0_2 : Bool) : Option (Bool) := (schema_simple.f k a0_0).bind fun t122 => (if t122 = true then ((schema_word.f a0_1).bind fun t123 => (some (t123.toList != ([] : List UInt8)))) else (some false))
theorem schema_field.mono : ∀ a0 a1 a2 k, LeO (schema_field.f k a0 a1 a2) (schema_field.f (k + 1) a0 a1 a2) := by
 intro a0 a1 a2 k
 unfold schema_field.f
 repeat' first
   | (with_reducible exact schema_simple.mono _ _)
   | (with_reducible exact LeO.refl _)
   | (with_reducible exact LeO.none _)
   | (with_reducible refine LeO.ite ?_ ?_)
   | (with_reducible refine LeO.bind ?_ (fun _ => ?_))
   | exact schema_simple.mono _ _
   | exact LeO.none _
   | refine LeO.ite ?_ ?_
   | refine LeO.bind ?_ (fun _ => ?_)
set_option maxHeartbeats 8000000 in
set_option maxRecDepth 100000 in
theorem schema_field.calls (k : Nat) (a0_0 : ByteArray) (a0_1 : Int) (a0_2 : Bool) (r : Bool) (w : World) (hT : Tabs w) (h : schema_field.f k a0_0 a0_1 a0_2 = some r) :
  Calls Tryz.prog 38 #[.agg #[.string a0_0, .int .i64 a0_1, .bool a0_2]] w fun e w' => e = .returned (.bool r) ∧ Below w.heap.size w w' := by
 have hu62 := Tryz.underlying62
 have HB := Aside0.mk (Below.refl w.heap.size w)
 have H : ((schema_simple.f k a0_0).bind fun t122 => (if t122 = true then ((schema_word.f a0_1).bind fun t123 => (some (t123.toList != ([] : List UInt8)))) else (some false))) = some r := h
 clear h
 have HT := Aside0.mk hT
 clear hT
 replace H := Option.bind_eq_some_iff.mp H
 obtain ⟨t122, A20, H⟩ := H
 replace H : (if t122 = true then ((schema_word.f a0_1).bind fun t123 => (some (t123.toList != ([] : List UInt8)))) else (some false)) = some r := H
 have A2 := Aside0.mk A20
 clear A20
 by_cases c3 : t122 = true
 ·subst c3
  have H1 : ((schema_word.f a0_1).bind fun t123 => (some (t123.toList != ([] : List UInt8)))) = some r := by rw [if_pos rfl] at H; exact H
  clear H
  have H := H1
  clear H1
  replace H := Option.bind_eq_some_iff.mp H
  obtain ⟨t123, A40, H⟩ := H
  replace H : (some (t123.toList != ([] : List UInt8))) = some r := H
  have A4 := Aside0.mk A40
  clear A40
  obtain rfl := Option.some.inj H
  go_enter Tryz.func38, Tryz.ntmps38
  go_wp2_with (first | ((with_reducible refine gate_dst (N := 1) rfl ?_); refine box_event ?hg (N := 1) ?hd (cs := #[.string a0_0, .int .i64 a0_1, .bool a0_2]) (t := 62) ?hr ?_; (case hd => rfl); (case hg => rfl); (case hr => first | (go_simp; done) | (go_simp; rfl)); intro gb121 hg w5 hbox hb; have n0_ := Aside0.mk (below_step (bwA) hb); have n1_ := Aside0.mk (hbox); have n2_ := Aside0.mk ((by rw [hg]; exact (below_size (bwA)) : w.heap.size ≤ gb121)); have n3_ := Aside0.mk ((by rw [hg]; exact (below_size (bwA)) : w.heap.size ≤ gb121)); clear HB; have HB := n0_; have BK121 := n1_; have GW121 := n2_; have GE121 := n3_; clear n0_ n1_ n2_ n3_; clear hb hbox hg; have hcz6_0 : w5.cell? ⟨gb121, 0, none⟩ = some (.string a0_0) := (blk_cell BK121.out 0).trans rfl; have hcz6_1 : w5.cell? ⟨gb121, 1, none⟩ = some (.int .i64 a0_1) := (blk_cell BK121.out 1).trans rfl; have hcz6_2 : w5.cell? ⟨gb121, 2, none⟩ = some (.bool a0_2) := (blk_cell BK121.out 2).trans rfl; have hfz6_0 := blk_frozen BK121.out 0; have hfz6_1 := blk_frozen BK121.out 1; have hfz6_2 := blk_frozen BK121.out 2) | ((with_reducible refine gate_callee (f := 51) rfl ?_); refine goesA (some 5) Tryz.func51 #[.string a0_0] ?_; (with_reducible refine (schema_simple.calls k a0_0 true _ ?side1 A2.out).mono ?_); (case side1 => exact Tabs.below HT.out (bwA)); rintro e w7 ⟨rfl, hb⟩; refine ⟨_, rfl, ?_⟩; have n0_ := Aside0.mk (blk_below (g := gb121) (o := .cells #[.string a0_0, .int .i64 a0_1, .bool a0_2] 62 (0, 0)) blkA hb); have n1_ := Aside0.mk (below_step (bwA) hb); clear BK121; clear HB; have BK121 := n0_; have HB := n1_; clear n0_ n1_; (try clear hb); (try clear hb2); (try clear hk); (try clear hi); have hcz8_0 : w7.cell? ⟨gb121, 0, none⟩ = some (.string a0_0) := (blk_cell BK121.out 0).trans rfl; have hcz8_1 : w7.cell? ⟨gb121, 1, none⟩ = some (.int .i64 a0_1) := (blk_cell BK121.out 1).trans rfl; have hcz8_2 : w7.cell? ⟨gb121, 2, none⟩ = some (.bool a0_2) := (blk_cell BK121.out 2).trans rfl; have hfz8_0 := blk_frozen BK121.out 0; have hfz8_1 := blk_frozen BK121.out 1; have hfz8_2 := blk_frozen BK121.out 2) | (go_at_call 73; (with_reducible refine (schema_word.calls a0_1 t123 _ A4.out).mono ?_); rintro e w9 ⟨rfl, hb⟩; have n0_ := Aside0.mk (blk_below (g := gb121) (o := .cells #[.string a0_0, .int .i64 a0_1, .bool a0_2] 62 (0, 0)) blkA hb); have n1_ := Aside0.mk (below_step (bwA) hb); clear BK121; clear HB; have BK121 := n0_; have HB := n1_; clear n0_ n1_; (try clear hb); (try clear hb2); (try clear hk); (try clear hi)))
  go_ret
  exact ⟨endA, bwA⟩
 ·replace c3 := Bool.eq_false_iff.mpr c3
  subst c3
  have H1 : (some false) = some r := by rw [if_neg (show ¬ (false = true) by decide)] at H; exact H
  clear H
  have H := H1
  clear H1
  obtain rfl := Option.some.inj H
  go_enter Tryz.func38, Tryz.ntmps38
  go_wp2_with (first | ((with_reducible refine gate_dst (N := 1) rfl ?_); refine box_event ?hg (N := 1) ?hd (cs := #[.string a0_0, .int .i64 a0_1, .bool a0_2]) (t := 62) ?hr ?_; (case hd => rfl); (case hg => rfl); (case hr => first | (go_simp; done) | (go_simp; rfl)); intro gb121 hg w10 hbox hb; have n0_ := Aside0.mk (below_step (bwA) hb); have n1_ := Aside0.mk (hbox); have n2_ := Aside0.mk ((by rw [hg]; exact (below_size (bwA)) : w.heap.size ≤ gb121)); have n3_ := Aside0.mk ((by rw [hg]; exact (below_size (bwA)) : w.heap.size ≤ gb121)); clear HB; have HB := n0_; have BK121 := n1_; have GW121 := n2_; have GE121 := n3_; clear n0_ n1_ n2_ n3_; clear hb hbox hg; have hcz11_0 : w10.cell? ⟨gb121, 0, none⟩ = some (.string a0_0) := (blk_cell BK121.out 0).trans rfl; have hcz11_1 : w10.cell? ⟨gb121, 1, none⟩ = some (.int .i64 a0_1) := (blk_cell BK121.out 1).trans rfl; have hcz11_2 : w10.cell? ⟨gb121, 2, none⟩ = some (.bool a0_2) := (blk_cell BK121.out 2).trans rfl; have hfz11_0 := blk_frozen BK121.out 0; have hfz11_1 := blk_frozen BK121.out 1; have hfz11_2 := blk_frozen BK121.out 2) | ((with_reducible refine gate_callee (f := 51) rfl ?_); refine goesA (some 5) Tryz.func51 #[.string a0_0] ?_; (with_reducible refine (schema_simple.calls k a0_0 false _ ?side1 A2.out).mono ?_); (case side1 => exact Tabs.below HT.out (bwA)); rintro e w12 ⟨rfl, hb⟩; refine ⟨_, rfl, ?_⟩; have n0_ := Aside0.mk (blk_below (g := gb121) (o := .cells #[.string a0_0, .int .i64 a0_1, .bool a0_2] 62 (0, 0)) blkA hb); have n1_ := Aside0.mk (below_step (bwA) hb); clear BK121; clear HB; have BK121 := n0_; have HB := n1_; clear n0_ n1_; (try clear hb); (try clear hb2); (try clear hk); (try clear hi)))
  go_ret
  exact ⟨endA, bwA⟩

/-! ### name_Small: function 103 -/
def name_Small.f (a0 : Int) : Option (Int) := (name_between.f a0 65 90).bind fun t124 => (if t124 = true then (some (wrap32 (a0 + 32))) else ((name_between.f a0 192 222).bind fun t125 => (if t125 = true then (if a0 = 215 then ((name_between.f a0 913 937).bind fun t126 => (if t126 = true then (if a0 = 930 then ((name_between.f a0 1040 1071).bind fun t127 => (if t127 = true then (some (wrap32 (a0 + 32))) else (some a0))) else (some (wrap32 (a0 + 32)))) else ((name_between.f a0 1040 1071).bind fun t128 => (if t128 = true then (some (wrap32 (a0 + 32))) else (some a0))))) else (some (wrap32 (a0 + 32)))) else ((name_between.f a0 913 937).bind fun t129 => (if t129 = true then (if a0 = 930 then ((name_between.f a0 1040 1071).bind fun t130 => (if t130 = true then (some (wrap32 (a0 + 32))) else (some a0))) else (some (wrap32 (a0 + 32)))) else ((name_between.f a0 1040 1071).bind fun t131 => (if t131 = true then (some (wrap32 (a0 + 32))) else (some a0))))))))
set_option maxHeartbeats 8000000 in
set_option maxRecDepth 100000 in
theorem name_Small.calls (a0 : Int) (r : Int) (w : World) (h : name_Small.f a0 = some r) :
  Calls Tryz.prog 103 #[.int .i32 a0] w fun e w' => e = .returned (.int .i32 r) ∧ Drawn0 w w' := by
 have H : ((name_between.f a0 65 90).bind fun t124 => (if t124 = true then (some (wrap32 (a0 + 32))) else ((name_between.f a0 192 222).bind fun t125 => (if t125 = true then (if a0 = 215 then ((name_between.f a0 913 937).bind fun t126 => (if t126 = true then (if a0 = 930 then ((name_between.f a0 1040 1071).bind fun t127 => (if t127 = true then (some (wrap32 (a0 + 32))) else (some a0))) else (some (wrap32 (a0 + 32)))) else ((name_between.f a0 1040 1071).bind fun t128 => (if t128 = true then (some (wrap32 (a0 + 32))) else (some a0))))) else (some (wrap32 (a0 + 32)))) else ((name_between.f a0 913 937).bind fun t129 => (if t129 = true then (if a0 = 930 then ((name_between.f a0 1040 1071).bind fun t130 => (if t130 = true then (some (wrap32 (a0 + 32))) else (some a0))) else (some (wrap32 (a0 + 32)))) else ((name_between.f a0 1040 1071).bind fun t131 => (if t131 = true then (some (wrap32 (a0 + 32))) else (some a0))))))))) = some r := h
 clear h
 replace H := Option.bind_eq_some_iff.mp H
 obtain ⟨t124, A20, H⟩ := H
 replace H : (if t124 = true then (some (wrap32 (a0 + 32))) else ((name_between.f a0 192 222).bind fun t125 => (if t125 = true then (if a0 = 215 then ((name_between.f a0 913 937).bind fun t126 => (if t126 = true then (if a0 = 930 then ((name_between.f a0 1040 1071).bind fun t127 => (if t127 = true then (some (wrap32 (a0 + 32))) else (some a0))) else (some (wrap32 (a0 + 32)))) else ((name_between.f a0 1040 1071).bind fun t128 => (if t128 = true then (some (wrap32 (a0 + 32))) else (some a0))))) else (some (wrap32 (a0 + 32)))) else ((name_between.f a0 913 937).bind fun t129 => (if t129 = true then (if a0 = 930 then ((name_between.f a0 1040 1071).bind fun t130 => (if t130 = true then (some (wrap32 (a0 + 32))) else (some a0))) else (some (wrap32 (a0 + 32)))) else ((name_between.f a0 1040 1071).bind fun t131 => (if t131 = true then (some (wrap32 (a0 + 32))) else (some a0)))))))) = some r := H
 have A2 := Aside0.mk A20
 clear A20
 by_cases c3 : t124 = true
 ·subst c3
  have H1 : (some (wrap32 (a0 + 32))) = some r := by rw [if_pos rfl] at H; exact H
  clear H
  have H := H1
  clear H1
  obtain rfl := Option.some.inj H
  go_enter Tryz.func103, Tryz.ntmps103
  go_wp2_with (first | ((with_reducible refine gate_callee (f := 126) rfl ?_); refine goesA (some 4) Tryz.func126 #[.int .i32 a0, .int .i32 65, .int .i32 90] ?_; (with_reducible refine (name_between.calls a0 65 90 true _ A2.out).mono ?_); rintro e w' ⟨rfl, ⟨nd, rfl⟩⟩; refine ⟨_, rfl, ?_⟩))
  go_ret
  exact ⟨endS, drA⟩
 ·replace c3 := Bool.eq_false_iff.mpr c3
  subst c3
  have H1 : ((name_between.f a0 192 222).bind fun t125 => (if t125 = true then (if a0 = 215 then ((name_between.f a0 913 937).bind fun t126 => (if t126 = true then (if a0 = 930 then ((name_between.f a0 1040 1071).bind fun t127 => (if t127 = true then (some (wrap32 (a0 + 32))) else (some a0))) else (some (wrap32 (a0 + 32)))) else ((name_between.f a0 1040 1071).bind fun t128 => (if t128 = true then (some (wrap32 (a0 + 32))) else (some a0))))) else (some (wrap32 (a0 + 32)))) else ((name_between.f a0 913 937).bind fun t129 => (if t129 = true then (if a0 = 930 then ((name_between.f a0 1040 1071).bind fun t130 => (if t130 = true then (some (wrap32 (a0 + 32))) else (some a0))) else (some (wrap32 (a0 + 32)))) else ((name_between.f a0 1040 1071).bind fun t131 => (if t131 = true then (some (wrap32 (a0 + 32))) else (some a0))))))) = some r := by rw [if_neg (show ¬ (false = true) by decide)] at H; exact H
  clear H
  have H := H1
  clear H1
  replace H := Option.bind_eq_some_iff.mp H
  obtain ⟨t125, A40, H⟩ := H
  replace H : (if t125 = true then (if a0 = 215 then ((name_between.f a0 913 937).bind fun t126 => (if t126 = true then (if a0 = 930 then ((name_between.f a0 1040 1071).bind fun t127 => (if t127 = true then (some (wrap32 (a0 + 32))) else (some a0))) else (some (wrap32 (a0 + 32)))) else ((name_between.f a0 1040 1071).bind fun t128 => (if t128 = true then (some (wrap32 (a0 + 32))) else (some a0))))) else (some (wrap32 (a0 + 32)))) else ((name_between.f a0 913 937).bind fun t129 => (if t129 = true then (if a0 = 930 then ((name_between.f a0 1040 1071).bind fun t130 => (if t130 = true then (some (wrap32 (a0 + 32))) else (some a0))) else (some (wrap32 (a0 + 32)))) else ((name_between.f a0 1040 1071).bind fun t131 => (if t131 = true then (some (wrap32 (a0 + 32))) else (some a0)))))) = some r := H
  have A4 := Aside0.mk A40
  clear A40
  by_cases c5 : t125 = true
  ·subst c5
   have H1 : (if a0 = 215 then ((name_between.f a0 913 937).bind fun t126 => (if t126 = true then (if a0 = 930 then ((name_between.f a0 1040 1071).bind fun t127 => (if t127 = true then (some (wrap32 (a0 + 32))) else (some a0))) else (some (wrap32 (a0 + 32)))) else ((name_between.f a0 1040 1071).bind fun t128 => (if t128 = true then (some (wrap32 (a0 + 32))) else (some a0))))) else (some (wrap32 (a0 + 32)))) = some r := by rw [if_pos rfl] at H; exact H
   clear H
   have H := H1
   clear H1
   by_cases c6 : a0 = 215
   ·rw [if_pos c6] at H
    have c6b0 : (a0 == 215) = true := beq_iff_eq.mpr c6
    have c6b1 : (a0 != 215) = false := bne_eq_false_iff_eq.mpr c6
    clear c6
    replace H := Option.bind_eq_some_iff.mp H
    obtain ⟨t126, A70, H⟩ := H
    replace H : (if t126 = true then (if a0 = 930 then ((name_between.f a0 1040 1071).bind fun t127 => (if t127 = true then (some (wrap32 (a0 + 32))) else (some a0))) else (some (wrap32 (a0 + 32)))) else ((name_between.f a0 1040 1071).bind fun t128 => (if t128 = true then (some (wrap32 (a0 + 32))) else (some a0)))) = some r := H
    have A7 := Aside0.mk A70
    clear A70
    by_cases c8 : t126 = true
    ·subst c8
     have H1 : (if a0 = 930 then ((name_between.f a0 1040 1071).bind fun t127 => (if t127 = true then (some (wrap32 (a0 + 32))) else (some a0))) else (some (wrap32 (a0 + 32)))) = some r := by rw [if_pos rfl] at H; exact H
     clear H
     have H := H1
     clear H1
     by_cases c9 : a0 = 930
     ·rw [if_pos c9] at H
      have c9b0 : (a0 == 930) = true := beq_iff_eq.mpr c9
      have c9b1 : (a0 != 930) = false := bne_eq_false_iff_eq.mpr c9
      clear c9
      replace H := Option.bind_eq_some_iff.mp H
      obtain ⟨t127, A100, H⟩ := H
      replace H : (if t127 = true then (some (wrap32 (a0 + 32))) else (some a0)) = some r := H
      have A10 := Aside0.mk A100
      clear A100
      by_cases c11 : t127 = true
      ·subst c11
       have H1 : (some (wrap32 (a0 + 32))) = some r := by rw [if_pos rfl] at H; exact H
       clear H
       have H := H1
       clear H1
       obtain rfl := Option.some.inj H
       go_enter Tryz.func103, Tryz.ntmps103
       go_wp2_with (first | ((with_reducible refine gate_callee (f := 126) rfl ?_); refine goesA (some 4) Tryz.func126 #[.int .i32 a0, .int .i32 65, .int .i32 90] ?_; (with_reducible refine (name_between.calls a0 65 90 false _ A2.out).mono ?_); rintro e w' ⟨rfl, ⟨nd, rfl⟩⟩; refine ⟨_, rfl, ?_⟩) | (go_at_call 126; (with_reducible refine (name_between.calls a0 192 222 true _ A4.out).mono ?_); rintro e w' ⟨rfl, ⟨nd, rfl⟩⟩) | (go_at_call 126; (with_reducible refine (name_between.calls a0 913 937 true _ A7.out).mono ?_); rintro e w' ⟨rfl, ⟨nd, rfl⟩⟩) | (go_at_call 126; (with_reducible refine (name_between.calls a0 1040 1071 true _ A10.out).mono ?_); rintro e w' ⟨rfl, ⟨nd, rfl⟩⟩))
       go_ret
       exact ⟨endS, drA⟩
      ·replace c11 := Bool.eq_false_iff.mpr c11
       subst c11
       have H1 : (some a0) = some r := by rw [if_neg (show ¬ (false = true) by decide)] at H; exact H
       clear H
       have H := H1
       clear H1
       obtain rfl := Option.some.inj H
       go_enter Tryz.func103, Tryz.ntmps103
       go_wp2_with (first | ((with_reducible refine gate_callee (f := 126) rfl ?_); refine goesA (some 4) Tryz.func126 #[.int .i32 a0, .int .i32 65, .int .i32 90] ?_; (with_reducible refine (name_between.calls a0 65 90 false _ A2.out).mono ?_); rintro e w' ⟨rfl, ⟨nd, rfl⟩⟩; refine ⟨_, rfl, ?_⟩) | (go_at_call 126; (with_reducible refine (name_between.calls a0 192 222 true _ A4.out).mono ?_); rintro e w' ⟨rfl, ⟨nd, rfl⟩⟩) | (go_at_call 126; (with_reducible refine (name_between.calls a0 913 937 true _ A7.out).mono ?_); rintro e w' ⟨rfl, ⟨nd, rfl⟩⟩) | (go_at_call 126; (with_reducible refine (name_between.calls a0 1040 1071 false _ A10.out).mono ?_); rintro e w' ⟨rfl, ⟨nd, rfl⟩⟩))
       go_ret
       exact ⟨endS, drA⟩
     ·rw [if_neg c9] at H
      have c9b0 : (a0 == 930) = false := beq_eq_false_iff_ne.mpr c9
      have c9b1 : (a0 != 930) = true := bne_iff_ne.mpr c9
      obtain rfl := Option.some.inj H
      go_enter Tryz.func103, Tryz.ntmps103
      go_wp2_with (first | ((with_reducible refine gate_callee (f := 126) rfl ?_); refine goesA (some 4) Tryz.func126 #[.int .i32 a0, .int .i32 65, .int .i32 90] ?_; (with_reducible refine (name_between.calls a0 65 90 false _ A2.out).mono ?_); rintro e w' ⟨rfl, ⟨nd, rfl⟩⟩; refine ⟨_, rfl, ?_⟩) | (go_at_call 126; (with_reducible refine (name_between.calls a0 192 222 true _ A4.out).mono ?_); rintro e w' ⟨rfl, ⟨nd, rfl⟩⟩) | (go_at_call 126; (with_reducible refine (name_between.calls a0 913 937 true _ A7.out).mono ?_); rintro e w' ⟨rfl, ⟨nd, rfl⟩⟩))
      go_ret
      exact ⟨endS, drA⟩
    ·replace c8 := Bool.eq_false_iff.mpr c8
     subst c8
     have H1 : ((name_between.f a0 1040 1071).bind fun t128 => (if t128 = true then (some (wrap32 (a0 + 32))) else (some a0))) = some r := by rw [if_neg (show ¬ (false = true) by decide)] at H; exact H
     clear H
     have H := H1
     clear H1
     replace H := Option.bind_eq_some_iff.mp H
     obtain ⟨t128, A120, H⟩ := H
     replace H : (if t128 = true then (some (wrap32 (a0 + 32))) else (some a0)) = some r := H
     have A12 := Aside0.mk A120
     clear A120
     by_cases c13 : t128 = true
     ·subst c13
      have H1 : (some (wrap32 (a0 + 32))) = some r := by rw [if_pos rfl] at H; exact H
      clear H
      have H := H1
      clear H1
      obtain rfl := Option.some.inj H
      go_enter Tryz.func103, Tryz.ntmps103
      go_wp2_with (first | ((with_reducible refine gate_callee (f := 126) rfl ?_); refine goesA (some 4) Tryz.func126 #[.int .i32 a0, .int .i32 65, .int .i32 90] ?_; (with_reducible refine (name_between.calls a0 65 90 false _ A2.out).mono ?_); rintro e w' ⟨rfl, ⟨nd, rfl⟩⟩; refine ⟨_, rfl, ?_⟩) | (go_at_call 126; (with_reducible refine (name_between.calls a0 192 222 true _ A4.out).mono ?_); rintro e w' ⟨rfl, ⟨nd, rfl⟩⟩) | (go_at_call 126; (with_reducible refine (name_between.calls a0 913 937 false _ A7.out).mono ?_); rintro e w' ⟨rfl, ⟨nd, rfl⟩⟩) | (go_at_call 126; (with_reducible refine (name_between.calls a0 1040 1071 true _ A12.out).mono ?_); rintro e w' ⟨rfl, ⟨nd, rfl⟩⟩))
      go_ret
      exact ⟨endS, drA⟩
     ·replace c13 := Bool.eq_false_iff.mpr c13
      subst c13
      have H1 : (some a0) = some r := by rw [if_neg (show ¬ (false = true) by decide)] at H; exact H
      clear H
      have H := H1
      clear H1
      obtain rfl := Option.some.inj H
      go_enter Tryz.func103, Tryz.ntmps103
      go_wp2_with (first | ((with_reducible refine gate_callee (f := 126) rfl ?_); refine goesA (some 4) Tryz.func126 #[.int .i32 a0, .int .i32 65, .int .i32 90] ?_; (with_reducible refine (name_between.calls a0 65 90 false _ A2.out).mono ?_); rintro e w' ⟨rfl, ⟨nd, rfl⟩⟩; refine ⟨_, rfl, ?_⟩) | (go_at_call 126; (with_reducible refine (name_between.calls a0 192 222 true _ A4.out).mono ?_); rintro e w' ⟨rfl, ⟨nd, rfl⟩⟩) | (go_at_call 126; (with_reducible refine (name_between.calls a0 913 937 false _ A7.out).mono ?_); rintro e w' ⟨rfl, ⟨nd, rfl⟩⟩) | (go_at_call 126; (with_reducible refine (name_between.calls a0 1040 1071 false _ A12.out).mono ?_); rintro e w' ⟨rfl, ⟨nd, rfl⟩⟩))
      go_ret
      exact ⟨endS, drA⟩
   ·rw [if_neg c6] at H
    have c6b0 : (a0 == 215) = false := beq_eq_false_iff_ne.mpr c6
    have c6b1 : (a0 != 215) = true := bne_iff_ne.mpr c6
    obtain rfl := Option.some.inj H
    go_enter Tryz.func103, Tryz.ntmps103
    go_wp2_with (first | ((with_reducible refine gate_callee (f := 126) rfl ?_); refine goesA (some 4) Tryz.func126 #[.int .i32 a0, .int .i32 65, .int .i32 90] ?_; (with_reducible refine (name_between.calls a0 65 90 false _ A2.out).mono ?_); rintro e w' ⟨rfl, ⟨nd, rfl⟩⟩; refine ⟨_, rfl, ?_⟩) | (go_at_call 126; (with_reducible refine (name_between.calls a0 192 222 true _ A4.out).mono ?_); rintro e w' ⟨rfl, ⟨nd, rfl⟩⟩))
    go_ret
    exact ⟨endS, drA⟩
  ·replace c5 := Bool.eq_false_iff.mpr c5
   subst c5
   have H1 : ((name_between.f a0 913 937).bind fun t129 => (if t129 = true then (if a0 = 930 then ((name_between.f a0 1040 1071).bind fun t130 => (if t130 = true then (some (wrap32 (a0 + 32))) else (some a0))) else (some (wrap32 (a0 + 32)))) else ((name_between.f a0 1040 1071).bind fun t131 => (if t131 = true then (some (wrap32 (a0 + 32))) else (some a0))))) = some r := by rw [if_neg (show ¬ (false = true) by decide)] at H; exact H
   clear H
   have H := H1
   clear H1
   replace H := Option.bind_eq_some_iff.mp H
   obtain ⟨t129, A140, H⟩ := H
   replace H : (if t129 = true then (if a0 = 930 then ((name_between.f a0 1040 1071).bind fun t130 => (if t130 = true then (some (wrap32 (a0 + 32))) else (some a0))) else (some (wrap32 (a0 + 32)))) else ((name_between.f a0 1040 1071).bind fun t131 => (if t131 = true then (some (wrap32 (a0 + 32))) else (some a0)))) = some r := H
   have A14 := Aside0.mk A140
   clear A140
   by_cases c15 : t129 = true
   ·subst c15
    have H1 : (if a0 = 930 then ((name_between.f a0 1040 1071).bind fun t130 => (if t130 = true then (some (wrap32 (a0 + 32))) else (some a0))) else (some (wrap32 (a0 + 32)))) = some r := by rw [if_pos rfl] at H; exact H
    clear H
    have H := H1
    clear H1
    by_cases c16 : a0 = 930
    ·rw [if_pos c16] at H
     have c16b0 : (a0 == 930) = true := beq_iff_eq.mpr c16
     have c16b1 : (a0 != 930) = false := bne_eq_false_iff_eq.mpr c16
     clear c16
     replace H := Option.bind_eq_some_iff.mp H
     obtain ⟨t130, A170, H⟩ := H
     replace H : (if t130 = true then (some (wrap32 (a0 + 32))) else (some a0)) = some r := H
     have A17 := Aside0.mk A170
     clear A170
     by_cases c18 : t130 = true
     ·subst c18
      have H1 : (some (wrap32 (a0 + 32))) = some r := by rw [if_pos rfl] at H; exact H
      clear H
      have H := H1
      clear H1
      obtain rfl := Option.some.inj H
      go_enter Tryz.func103, Tryz.ntmps103
      go_wp2_with (first | ((with_reducible refine gate_callee (f := 126) rfl ?_); refine goesA (some 4) Tryz.func126 #[.int .i32 a0, .int .i32 65, .int .i32 90] ?_; (with_reducible refine (name_between.calls a0 65 90 false _ A2.out).mono ?_); rintro e w' ⟨rfl, ⟨nd, rfl⟩⟩; refine ⟨_, rfl, ?_⟩) | (go_at_call 126; (with_reducible refine (name_between.calls a0 192 222 false _ A4.out).mono ?_); rintro e w' ⟨rfl, ⟨nd, rfl⟩⟩) | (go_at_call 126; (with_reducible refine (name_between.calls a0 913 937 true _ A14.out).mono ?_); rintro e w' ⟨rfl, ⟨nd, rfl⟩⟩) | (go_at_call 126; (with_reducible refine (name_between.calls a0 1040 1071 true _ A17.out).mono ?_); rintro e w' ⟨rfl, ⟨nd, rfl⟩⟩))
      go_ret
      exact ⟨endS, drA⟩
     ·replace c18 := Bool.eq_false_iff.mpr c18
      subst c18
      have H1 : (some a0) = some r := by rw [if_neg (show ¬ (false = true) by decide)] at H; exact H
      clear H
      have H := H1
      clear H1
      obtain rfl := Option.some.inj H
      go_enter Tryz.func103, Tryz.ntmps103
      go_wp2_with (first | ((with_reducible refine gate_callee (f := 126) rfl ?_); refine goesA (some 4) Tryz.func126 #[.int .i32 a0, .int .i32 65, .int .i32 90] ?_; (with_reducible refine (name_between.calls a0 65 90 false _ A2.out).mono ?_); rintro e w' ⟨rfl, ⟨nd, rfl⟩⟩; refine ⟨_, rfl, ?_⟩) | (go_at_call 126; (with_reducible refine (name_between.calls a0 192 222 false _ A4.out).mono ?_); rintro e w' ⟨rfl, ⟨nd, rfl⟩⟩) | (go_at_call 126; (with_reducible refine (name_between.calls a0 913 937 true _ A14.out).mono ?_); rintro e w' ⟨rfl, ⟨nd, rfl⟩⟩) | (go_at_call 126; (with_reducible refine (name_between.calls a0 1040 1071 false _ A17.out).mono ?_); rintro e w' ⟨rfl, ⟨nd, rfl⟩⟩))
      go_ret
      exact ⟨endS, drA⟩
    ·rw [if_neg c16] at H
     have c16b0 : (a0 == 930) = false := beq_eq_false_iff_ne.mpr c16
     have c16b1 : (a0 != 930) = true := bne_iff_ne.mpr c16
     obtain rfl := Option.some.inj H
     go_enter Tryz.func103, Tryz.ntmps103
     go_wp2_with (first | ((with_reducible refine gate_callee (f := 126) rfl ?_); refine goesA (some 4) Tryz.func126 #[.int .i32 a0, .int .i32 65, .int .i32 90] ?_; (with_reducible refine (name_between.calls a0 65 90 false _ A2.out).mono ?_); rintro e w' ⟨rfl, ⟨nd, rfl⟩⟩; refine ⟨_, rfl, ?_⟩) | (go_at_call 126; (with_reducible refine (name_between.calls a0 192 222 false _ A4.out).mono ?_); rintro e w' ⟨rfl, ⟨nd, rfl⟩⟩) | (go_at_call 126; (with_reducible refine (name_between.calls a0 913 937 true _ A14.out).mono ?_); rintro e w' ⟨rfl, ⟨nd, rfl⟩⟩))
     go_ret
     exact ⟨endS, drA⟩
   ·replace c15 := Bool.eq_false_iff.mpr c15
    subst c15
    have H1 : ((name_between.f a0 1040 1071).bind fun t131 => (if t131 = true then (some (wrap32 (a0 + 32))) else (some a0))) = some r := by rw [if_neg (show ¬ (false = true) by decide)] at H; exact H
    clear H
    have H := H1
    clear H1
    replace H := Option.bind_eq_some_iff.mp H
    obtain ⟨t131, A190, H⟩ := H
    replace H : (if t131 = true then (some (wrap32 (a0 + 32))) else (some a0)) = some r := H
    have A19 := Aside0.mk A190
    clear A190
    by_cases c20 : t131 = true
    ·subst c20
     have H1 : (some (wrap32 (a0 + 32))) = some r := by rw [if_pos rfl] at H; exact H
     clear H
     have H := H1
     clear H1
     obtain rfl := Option.some.inj H
     go_enter Tryz.func103, Tryz.ntmps103
     go_wp2_with (first | ((with_reducible refine gate_callee (f := 126) rfl ?_); refine goesA (some 4) Tryz.func126 #[.int .i32 a0, .int .i32 65, .int .i32 90] ?_; (with_reducible refine (name_between.calls a0 65 90 false _ A2.out).mono ?_); rintro e w' ⟨rfl, ⟨nd, rfl⟩⟩; refine ⟨_, rfl, ?_⟩) | (go_at_call 126; (with_reducible refine (name_between.calls a0 192 222 false _ A4.out).mono ?_); rintro e w' ⟨rfl, ⟨nd, rfl⟩⟩) | (go_at_call 126; (with_reducible refine (name_between.calls a0 913 937 false _ A14.out).mono ?_); rintro e w' ⟨rfl, ⟨nd, rfl⟩⟩) | (go_at_call 126; (with_reducible refine (name_between.calls a0 1040 1071 true _ A19.out).mono ?_); rintro e w' ⟨rfl, ⟨nd, rfl⟩⟩))
     go_ret
     exact ⟨endS, drA⟩
    ·replace c20 := Bool.eq_false_iff.mpr c20
     subst c20
     have H1 : (some a0) = some r := by rw [if_neg (show ¬ (false = true) by decide)] at H; exact H
     clear H
     have H := H1
     clear H1
     obtain rfl := Option.some.inj H
     go_enter Tryz.func103, Tryz.ntmps103
     go_wp2_with (first | ((with_reducible refine gate_callee (f := 126) rfl ?_); refine goesA (some 4) Tryz.func126 #[.int .i32 a0, .int .i32 65, .int .i32 90] ?_; (with_reducible refine (name_between.calls a0 65 90 false _ A2.out).mono ?_); rintro e w' ⟨rfl, ⟨nd, rfl⟩⟩; refine ⟨_, rfl, ?_⟩) | (go_at_call 126; (with_reducible refine (name_between.calls a0 192 222 false _ A4.out).mono ?_); rintro e w' ⟨rfl, ⟨nd, rfl⟩⟩) | (go_at_call 126; (with_reducible refine (name_between.calls a0 913 937 false _ A14.out).mono ?_); rintro e w' ⟨rfl, ⟨nd, rfl⟩⟩) | (go_at_call 126; (with_reducible refine (name_between.calls a0 1040 1071 false _ A19.out).mono ?_); rintro e w' ⟨rfl, ⟨nd, rfl⟩⟩))
     go_ret
     exact ⟨endS, drA⟩

end Go.Proofs.YtnbbajiabbmdmaaGreatDoor.A
