-- By drv.py, the session's own driver round the kit's print: the machine's side of the laws, function by function. Not trusted: Lean checks it.
import Derived.Test.YtbbfggfiknbdmaaGreatDoorAx0
import Derived.Test.YtbbfggfiknbdmaaGreatDoorAx16
import Derived.Test.YtbbfggfiknbdmaaGreatDoorAx18
import Derived.Test.YtbbfggfiknbdmaaGreatDoorAx20
namespace Go.Proofs.YtbbfggfiknbdmaaGreatDoor.A
open Go.RowKit Go.Proofs.YtbbfggfiknbdmaaGreatDoorW.PrintWords Go.Proofs.YtbbfggfiknbdmaaGreatDoorW.PrintLast Go.Proofs.YtbbfggfiknbdmaaGreatDoorW.PrintMore
attribute [local go_sem] max2_int min2_int max_two min_two max_three min_three max_four min_four   -- for this text's walks alone
set_option linter.unusedVariables false
set_option linter.unusedSimpArgs false

/-! ### caduceusref02_Fold: function 41 -/
def caduceusref02_Fold.l0 : Nat → List Int → ByteArray → Int → Option (ByteArray)
 | 0, _, _, _ => none
 | k + 1, x3, x4, x5 => if x5 < (x3.length : Int) then (if 0 ≤ x5 then ((caduceusref02_Small.f (rd x3 x5)).bind fun t316 => ((caduceusref02_Bytes.f t316).bind fun t317 => (if x4.size + t317.size ≤ 9223372036854775807 then (caduceusref02_Fold.l0 k x3 (x4 ++ t317) (wrap64 (x5 + 1))) else (none)))) else (none)) else (some x4)
def caduceusref02_Fold.f (k : Nat) (a0 : ByteArray) : Option (ByteArray) := (caduceusref02_Valid.f k a0).bind fun t311 => (if t311 = true then ((caduceusref02_Runes.f k a0).bind fun t312 => (caduceusref02_Fold.l0 k t312 (⟨#[]⟩ : ByteArray) 0)) else (some a0))
theorem caduceusref02_Fold.mono_l : ∀ k, (∀ y0 y1 y2, LeO (caduceusref02_Fold.l0 k y0 y1 y2) (caduceusref02_Fold.l0 (k + 1) y0 y1 y2))
 | 0 => fun _ _ _ r h => by simp [caduceusref02_Fold.l0] at h
 | k + 1 => by
  have ih0 := caduceusref02_Fold.mono_l k
  ·intro y0 y1 y2
   unfold caduceusref02_Fold.l0
   repeat' first
   | (with_reducible exact ih0 _ _ _)
   | (with_reducible exact caduceusref02_Runes.mono _ _)
   | (with_reducible exact caduceusref02_Valid.mono _ _)
   | (with_reducible exact LeO.refl _)
   | (with_reducible exact LeO.none _)
   | (with_reducible refine LeO.ite ?_ ?_)
   | (with_reducible refine LeO.bind ?_ (fun _ => ?_))
   | exact ih0 _ _ _
   | exact caduceusref02_Runes.mono _ _
   | exact caduceusref02_Valid.mono _ _
   | exact LeO.none _
   | refine LeO.ite ?_ ?_
   | refine LeO.bind ?_ (fun _ => ?_)
theorem caduceusref02_Fold.mono : ∀ a0 k, LeO (caduceusref02_Fold.f k a0) (caduceusref02_Fold.f (k + 1) a0) := by
 intro a0 k
 have ih0 := caduceusref02_Fold.mono_l k
 unfold caduceusref02_Fold.f
 repeat' first
   | (with_reducible exact ih0 _ _ _)
   | (with_reducible exact caduceusref02_Runes.mono _ _)
   | (with_reducible exact caduceusref02_Valid.mono _ _)
   | (with_reducible exact LeO.refl _)
   | (with_reducible exact LeO.none _)
   | (with_reducible refine LeO.ite ?_ ?_)
   | (with_reducible refine LeO.bind ?_ (fun _ => ?_))
   | exact ih0 _ _ _
   | exact caduceusref02_Runes.mono _ _
   | exact caduceusref02_Valid.mono _ _
   | exact LeO.none _
   | refine LeO.ite ?_ ?_
   | refine LeO.bind ?_ (fun _ => ?_)
set_option maxHeartbeats 8000000 in
set_option maxRecDepth 100000 in
theorem caduceusref02_Fold.calls (k : Nat) (a0 : ByteArray) (r : ByteArray) (w : World) (h : caduceusref02_Fold.f k a0 = some r) :
  Calls Tryz.prog 41 #[.string a0] w fun e w' => e = .returned (.string r) ∧ Below w.heap.size w w' := by
 have HB := Aside0.mk (Below.refl w.heap.size w)
 have H : ((caduceusref02_Valid.f k a0).bind fun t311 => (if t311 = true then ((caduceusref02_Runes.f k a0).bind fun t312 => (caduceusref02_Fold.l0 k t312 (⟨#[]⟩ : ByteArray) 0)) else (some a0))) = some r := h
 clear h
 replace H := Option.bind_eq_some_iff.mp H
 obtain ⟨t311, A20, H⟩ := H
 replace H : (if t311 = true then ((caduceusref02_Runes.f k a0).bind fun t312 => (caduceusref02_Fold.l0 k t312 (⟨#[]⟩ : ByteArray) 0)) else (some a0)) = some r := H
 have A2 := Aside0.mk A20
 clear A20
 by_cases c3 : t311 = true
 ·subst c3
  have H1 : ((caduceusref02_Runes.f k a0).bind fun t312 => (caduceusref02_Fold.l0 k t312 (⟨#[]⟩ : ByteArray) 0)) = some r := by rw [if_pos rfl] at H; exact H
  clear H
  have H := H1
  clear H1
  replace H := Option.bind_eq_some_iff.mp H
  obtain ⟨t312, A40, H⟩ := H
  replace H : (caduceusref02_Fold.l0 k t312 (⟨#[]⟩ : ByteArray) 0) = some r := H
  have A4 := Aside0.mk A40
  clear A40
  have H' := Aside0.mk H
  clear H
  go_enter Tryz.func41, Tryz.ntmps41
  go_wp2_with (first | ((with_reducible refine gate_callee (f := 42) rfl ?_); refine goesA (some 7) Tryz.func42 #[.string a0] ?_; (with_reducible refine (caduceusref02_Valid.calls k a0 true _ A2.out).mono ?_); rintro e w5 ⟨rfl, hb⟩; refine ⟨_, rfl, ?_⟩; have n0_ := Aside0.mk (below_step (bwA) hb); clear HB; have HB := n0_; clear n0_; (try clear hb); (try clear hb2); (try clear hk); (try clear hi)) | ((with_reducible refine gate_callee (f := 43) rfl ?_); refine goesA (some 11) Tryz.func43 #[.string a0] ?_; (with_reducible refine (caduceusref02_Runes.calls k a0 t312 _ A4.out).mono ?_); rintro e w6 ⟨v313, rfl, ho0, hb⟩; refine ⟨_, rfl, ?_⟩; have n0_ := Aside0.mk (Kd.R_lower ho0 (below_size (bwA))); have n1_ := Aside0.mk (below_step (bwA) hb); clear HB; have HO314 := n0_; have HB := n1_; clear n0_ n1_; (try clear hb); (try clear hb2); (try clear hk); (try clear hi); (try clear ho0)))
  go_loopg [4, 5] k (fun kq v4 v5 w' => ∃ (x4_1 : ByteArray) (x5_1 : Int), v4 = .string x4_1 ∧ v5 = .int .i64 x5_1 ∧ Aside0 (caduceusref02_Fold.l0 kq t312 x4_1 x5_1 = some r) ∧ Aside0 (kq ≤ k) ∧ Aside0 (Kd.R (Kd.int .i64) 3 w' w.heap.size (fun _ => True) v313 t312) ∧ Aside0 (Below w.heap.size w w'))
  case atStart => exact ⟨((⟨#[]⟩ : ByteArray)), (0), (endS), (endS), H', ⟨Nat.le_refl _⟩, ⟨by (with_reducible repeat (first | apply Kd.R_alloc | apply Kd.R_drewN | apply Kd.R_drew)); exact HO314.out⟩, ⟨bwA⟩⟩
  case round =>
   clear H'
   try clear p2
   try clear c3
   try clear c4
   obtain ⟨x4_1, x5_1, rfl, rfl, HA, HK1, HO_3, HB⟩ := hrel
   cases gk with
   | zero => exact absurd HA.out (by simp [caduceusref02_Fold.l0])
   | succ k1 =>
    have H := HA.out
    clear HA
    simp only [caduceusref02_Fold.l0] at H
    by_cases c7 : x5_1 < (t312.length : Int)
    ·rw [if_pos c7] at H
     have c7b0 : decide (x5_1 < (t312.length : Int)) = true := decide_eq_true c7
     clear c7
     by_cases c8 : 0 ≤ x5_1
     ·rw [if_pos c8] at H
      have c8b0 : decide (0 ≤ x5_1) = true := decide_eq_true c8
      clear c8
      replace H := Option.bind_eq_some_iff.mp H
      obtain ⟨t316, A90, H⟩ := H
      replace H : ((caduceusref02_Bytes.f t316).bind fun t317 => (if x4_1.size + t317.size ≤ 9223372036854775807 then (caduceusref02_Fold.l0 k1 t312 (x4_1 ++ t317) (wrap64 (x5_1 + 1))) else (none))) = some r := H
      have A9 := Aside0.mk A90
      clear A90
      replace H := Option.bind_eq_some_iff.mp H
      obtain ⟨t317, A100, H⟩ := H
      replace H : (if x4_1.size + t317.size ≤ 9223372036854775807 then (caduceusref02_Fold.l0 k1 t312 (x4_1 ++ t317) (wrap64 (x5_1 + 1))) else (none)) = some r := H
      have A10 := Aside0.mk A100
      clear A100
      by_cases c11 : x4_1.size + t317.size ≤ 9223372036854775807
      ·rw [if_pos c11] at H
       have c11b0 := eq_true c11
       have c11b1 : decide (x4_1.size + t317.size ≤ 9223372036854775807) = true := decide_eq_true c11
       try have c11b2 : (9223372036854775807 < x4_1.size + t317.size) = False := eq_false (Nat.not_lt.2 c11)
       have H' := Aside0.mk H
       clear H
       obtain ⟨Ao12, co12, eo12⟩ := Kd.R_slice HO_3.out
       subst eo12
       have p315 : 0 ≤ (x5_1 : Int) := odA
       have q315 : x5_1 < (t312.length : Int) := odA
       obtain ⟨ad315, e315, hx315_0⟩ := Kd.at_int (Kd.R_reads' HO_3.out).2.2 x5_1 p315 q315
       cases e315
       replace p315 := eq_true p315
       replace q315 := eq_true q315
       go_wp2_with (first | ((with_reducible refine gate_callee (f := 66) rfl ?_); refine goesA (some 23) Tryz.func66 #[.int .i64 (rd t312 x5_1)] ?_; (with_reducible refine (caduceusref02_Small.calls (rd t312 x5_1) t316 _ A9.out).mono ?_); rintro e w' ⟨rfl, ⟨nd, rfl⟩⟩; refine ⟨_, rfl, ?_⟩) | ((with_reducible refine gate_callee (f := 65) rfl ?_); refine goesA (some 24) Tryz.func65 #[.int .i64 t316] ?_; (with_reducible refine (caduceusref02_Bytes.calls t316 t317 _ A10.out).mono ?_); rintro e w13 ⟨rfl, hb⟩; refine ⟨_, rfl, ?_⟩; have n0_ := Aside0.mk (Kd.R_below (by (with_reducible repeat (first | apply Kd.R_alloc | apply Kd.R_drewN | apply Kd.R_drew)); exact HO_3.out) hb); have n1_ := Aside0.mk (below_step (bwA) hb); clear HO_3; clear HB; have HO_3 := n0_; have HB := n1_; clear n0_ n1_; (try clear hb); (try clear hb2); (try clear hk); (try clear hi)))
       go_roundg k1
       case measure => have := HK1.out; omega
       case rel => exact ⟨(x4_1 ++ t317), (wrap64 (x5_1 + 1)), (endS), (endS), H', ⟨by have := HK1.out; omega⟩, ⟨by (with_reducible repeat (first | apply Kd.R_alloc | apply Kd.R_drewN | apply Kd.R_drew)); exact HO_3.out⟩, ⟨bwA⟩⟩
      ·rw [if_neg c11] at H
       exact absurd H (by simp)
     ·rw [if_neg c8] at H
      exact absurd H (by simp)
    ·rw [if_neg c7] at H
     have c7b0 : decide (x5_1 < (t312.length : Int)) = false := decide_eq_false c7
     clear c7
     obtain rfl := Option.some.inj H
     obtain ⟨Ao14, co14, eo14⟩ := Kd.R_slice HO_3.out
     subst eo14
     go_wp2
     go_ret
     exact ⟨endA, bwA⟩
 ·replace c3 := Bool.eq_false_iff.mpr c3
  subst c3
  have H1 : (some a0) = some r := by rw [if_neg (show ¬ (false = true) by decide)] at H; exact H
  clear H
  have H := H1
  clear H1
  obtain rfl := Option.some.inj H
  go_enter Tryz.func41, Tryz.ntmps41
  go_wp2_with (first | ((with_reducible refine gate_callee (f := 42) rfl ?_); refine goesA (some 7) Tryz.func42 #[.string a0] ?_; (with_reducible refine (caduceusref02_Valid.calls k a0 false _ A2.out).mono ?_); rintro e w15 ⟨rfl, hb⟩; refine ⟨_, rfl, ?_⟩; have n0_ := Aside0.mk (below_step (bwA) hb); clear HB; have HB := n0_; clear n0_; (try clear hb); (try clear hb2); (try clear hk); (try clear hi)))
  go_ret
  exact ⟨endA, bwA⟩

/-! ### caduceusref04_same: function 24 -/
def caduceusref04_same.f (k : Nat) (a0 : ByteArray) (a1 : ByteArray) : Option (Bool) := (caduceusref02_Fold.f k a0).bind fun t318 => ((caduceusref02_Fold.f k a1).bind fun t319 => (some (t318.toList == t319.toList)))
theorem caduceusref04_same.mono : ∀ a0 a1 k, LeO (caduceusref04_same.f k a0 a1) (caduceusref04_same.f (k + 1) a0 a1) := by
 intro a0 a1 k
 unfold caduceusref04_same.f
 repeat' first
   | (with_reducible exact caduceusref02_Fold.mono _ _)
   | (with_reducible exact LeO.refl _)
   | (with_reducible exact LeO.none _)
   | (with_reducible refine LeO.ite ?_ ?_)
   | (with_reducible refine LeO.bind ?_ (fun _ => ?_))
   | exact caduceusref02_Fold.mono _ _
   | exact LeO.none _
   | refine LeO.ite ?_ ?_
   | refine LeO.bind ?_ (fun _ => ?_)
set_option maxHeartbeats 8000000 in
set_option maxRecDepth 100000 in
theorem caduceusref04_same.calls (k : Nat) (a0 : ByteArray) (a1 : ByteArray) (r : Bool) (w : World) (h : caduceusref04_same.f k a0 a1 = some r) :
  Calls Tryz.prog 24 #[.string a0, .string a1] w fun e w' => e = .returned (.bool r) ∧ Below w.heap.size w w' := by
 have HB := Aside0.mk (Below.refl w.heap.size w)
 have H : ((caduceusref02_Fold.f k a0).bind fun t318 => ((caduceusref02_Fold.f k a1).bind fun t319 => (some (t318.toList == t319.toList)))) = some r := h
 clear h
 replace H := Option.bind_eq_some_iff.mp H
 obtain ⟨t318, A30, H⟩ := H
 replace H : ((caduceusref02_Fold.f k a1).bind fun t319 => (some (t318.toList == t319.toList))) = some r := H
 have A3 := Aside0.mk A30
 clear A30
 replace H := Option.bind_eq_some_iff.mp H
 obtain ⟨t319, A40, H⟩ := H
 replace H : (some (t318.toList == t319.toList)) = some r := H
 have A4 := Aside0.mk A40
 clear A40
 obtain rfl := Option.some.inj H
 go_enter Tryz.func24, Tryz.ntmps24
 go_wp2_with (first | ((with_reducible refine gate_callee (f := 41) rfl ?_); refine goesA (some 6) Tryz.func41 #[.string a0] ?_; (with_reducible refine (caduceusref02_Fold.calls k a0 t318 _ A3.out).mono ?_); rintro e w5 ⟨rfl, hb⟩; refine ⟨_, rfl, ?_⟩; have n0_ := Aside0.mk (below_step (bwA) hb); clear HB; have HB := n0_; clear n0_; (try clear hb); (try clear hb2); (try clear hk); (try clear hi)) | ((with_reducible refine gate_callee (f := 41) rfl ?_); refine goesA (some 8) Tryz.func41 #[.string a1] ?_; (with_reducible refine (caduceusref02_Fold.calls k a1 t319 _ A4.out).mono ?_); rintro e w6 ⟨rfl, hb⟩; refine ⟨_, rfl, ?_⟩; have n0_ := Aside0.mk (below_step (bwA) hb); clear HB; have HB := n0_; clear n0_; (try clear hb); (try clear hb2); (try clear hk); (try clear hi)))
 go_ret
 exact ⟨endA, bwA⟩

/-! ### caduceusref02_Compare: function 25, by hand -/
/-- How two rows of numbers stand. -/
def cmpI : List Int → List Int → Int
 | [], [] => 0
 | [], _ :: _ => -1
 | _ :: _, [] => 1
 | a :: x, b :: y => if a < b then -1 else if b < a then 1 else cmpI x y
def caduceusref02_Compare.f (k : Nat) (a0 : ByteArray) (a1 : ByteArray) : Option Int := (caduceusref02_Fold.f k a0).bind fun x => (caduceusref02_Fold.f k a1).bind fun y => (caduceusref02_Valid.f k x).bind fun u => (caduceusref02_Valid.f k y).bind fun v => if u = true then (if v = true then (caduceusref02_Runes.f k x).bind fun l => (caduceusref02_Runes.f k y).bind fun m => some (cmpI l m) else none) else none
theorem caduceusref02_Compare.mono : ∀ a0 a1 k, LeO (caduceusref02_Compare.f k a0 a1) (caduceusref02_Compare.f (k + 1) a0 a1) := by
 intro a0 a1 k
 unfold caduceusref02_Compare.f
 repeat' first
  | (with_reducible exact LeO.refl _)
  | (with_reducible exact LeO.none _)
  | (with_reducible exact caduceusref02_Fold.mono _ _)
  | (with_reducible exact caduceusref02_Valid.mono _ _)
  | (with_reducible exact caduceusref02_Runes.mono _ _)
  | (with_reducible refine LeO.ite ?_ ?_)
  | (with_reducible refine LeO.bind ?_ (fun _ => ?_))
theorem cmpI_drop (l m : List Int) (i : Nat) (hi : i < l.length) (hm : i < m.length) : cmpI (l.drop i) (m.drop i) = if l[i] < m[i] then -1 else if m[i] < l[i] then 1 else cmpI (l.drop (i + 1)) (m.drop (i + 1)) := by
 rw [List.drop_eq_getElem_cons hi, List.drop_eq_getElem_cons hm, cmpI]
theorem cmpI_end (l m : List Int) (i : Nat) (h1 : i ≤ l.length) (h2 : i ≤ m.length) (h : ¬ (i < l.length ∧ i < m.length)) : cmpI (l.drop i) (m.drop i) = if l.length < m.length then -1 else if m.length < l.length then 1 else 0 := by
 by_cases c1 : i < l.length
 ·have c2 : i = m.length := by omega
  rw [List.drop_eq_getElem_cons c1, List.drop_of_length_le (show m.length ≤ i by omega), if_neg (by omega), if_pos (by omega), cmpI]
 ·by_cases c2 : i < m.length
  ·rw [List.drop_eq_getElem_cons c2, List.drop_of_length_le (show l.length ≤ i by omega), if_pos (by omega), cmpI]
  ·rw [List.drop_of_length_le (show l.length ≤ i by omega), List.drop_of_length_le (show m.length ≤ i by omega), if_neg (by omega), if_neg (by omega), cmpI]
set_option maxHeartbeats 8000000 in
set_option maxRecDepth 100000 in
theorem caduceusref02_Compare.calls (k : Nat) (a0 : ByteArray) (a1 : ByteArray) (r : Int) (w : World) (h : caduceusref02_Compare.f k a0 a1 = some r) :
  Calls Tryz.prog 25 #[.string a0, .string a1] w fun e w' => e = .returned (.int .i64 r) ∧ Below w.heap.size w w' := by
 unfold caduceusref02_Compare.f at h
 obtain ⟨x, hx, h⟩ := Option.bind_eq_some_iff.1 h
 obtain ⟨y, hy, h⟩ := Option.bind_eq_some_iff.1 h
 obtain ⟨u, hu, h⟩ := Option.bind_eq_some_iff.1 h
 obtain ⟨v, hv, h⟩ := Option.bind_eq_some_iff.1 h
 cases u with
 | false => simp at h
 | true =>
  cases v with
  | false => simp at h
  | true =>
   rw [if_pos rfl, if_pos rfl] at h
   obtain ⟨l, hl, h⟩ := Option.bind_eq_some_iff.1 h
   obtain ⟨m, hm, h⟩ := Option.bind_eq_some_iff.1 h
   have hr := Option.some.inj h
   have cX := fun W => caduceusref02_Fold.calls k a0 x W hx
   have cY := fun W => caduceusref02_Fold.calls k a1 y W hy
   have cU := fun W => caduceusref02_Valid.calls k x true W hu
   have cV := fun W => caduceusref02_Valid.calls k y true W hv
   have cL := fun W => caduceusref02_Runes.calls k x l W hl
   have cM := fun W => caduceusref02_Runes.calls k y m W hm
   have HR := Aside0.mk hr
   clear h hx hy hu hv hl hm hr
   go_enter Tryz.func25, Tryz.ntmps25
   go_wp2_with (first | (go_at_call_of 41 (Value.string a0); refine (cX _).mono ?_; rintro e w1 ⟨rfl, hb1⟩) | (go_at_call_of 41 (Value.string a1); refine (cY _).mono ?_; rintro e w2 ⟨rfl, hb2⟩; have hB2 := hb1.trans (hb2.mono hb1.size)) | (go_at_call_of 42 (Value.string x); refine (cU _).mono ?_; rintro e w3 ⟨rfl, hb3⟩; have hB3 := hB2.trans (hb3.mono hB2.size)) | (go_at_call_of 42 (Value.string y); refine (cV _).mono ?_; rintro e w4 ⟨rfl, hb4⟩; have hB4 := hB3.trans (hb4.mono hB3.size)) | (go_at_call_of 43 (Value.string x); refine (cL _).mono ?_; rintro e w5 ⟨vl, rfl, hR5, hb5⟩; have hB5 := hB4.trans (hb5.mono hB4.size); obtain ⟨Al, cl, rfl, _, hC5⟩ := Kd.R_reads hR5; clear hR5) | (go_at_call_of 43 (Value.string y); refine (cM _).mono ?_; rintro e w6 ⟨vm, rfl, hR6, hb6⟩; have hB6 := hB5.trans (hb6.mono hB5.size); obtain ⟨Am, cm, rfl, _, hC6⟩ := Kd.R_reads hR6; clear hR6; have hC7 := Kd.C_below hC5 hb6))
   clear cX cY cU cV cL cM hb1 hb2 hb3 hb4 hb5 hb6 hC5
   have hll : l.length ≤ 9223372036854775807 := hC7.2.1
   have hml : m.length ≤ 9223372036854775807 := hC6.2.1
   have HC6 := Aside0.mk hC6
   have HC7 := Aside0.mk hC7
   clear hC6 hC7
   go_loopg [11] l.length (fun gg v11 wr => ∃ i : Nat, i ≤ l.length ∧ i ≤ m.length ∧ l.length - i ≤ gg ∧ v11 = .int .i64 i ∧ Aside (Below w6.heap.size w6 wr) ∧ Aside (cmpI (l.drop i) (m.drop i) = r))
   case atStart => exact ⟨0, Nat.zero_le _, Nat.zero_le _, by omega, rfl, Below.refl _ _, by have := HR.out; exact this⟩
   case round =>
    obtain ⟨i, hi1, hi2, hg, rfl, BW, A⟩ := hrel
    have h6 := BW.out
    have hB : Below w.heap.size w wr := hB6.trans (h6.mono hB6.size)
    clear BW
    by_cases hl1 : i < l.length
    ·have hlz : (i : Int) < (l.length : Int) := by omega
     by_cases hm1 : i < m.length
     ·have hmz : (i : Int) < (m.length : Int) := by omega
      obtain ⟨bl, ol, rfl, _, hcl⟩ := Kd.C_addr (Kd.C_below HC7.out h6) (by omega) (by decide)
      obtain ⟨bm, om, rfl, _, hcm⟩ := Kd.C_addr (Kd.C_below HC6.out h6) (by omega) (by decide)
      have z1 : wr.cell? ⟨bl, ol + i, none⟩ = some (.int .i64 l[i]) := by
       obtain ⟨cs, c1, c2, c3⟩ := hcl i l[i] (List.getElem?_eq_getElem hl1)
       have e : cs = [.int .i64 l[i]] := c2
       have := c3 0 (.int .i64 l[i]) (by rw [e]; rfl)
       simpa [Kd.int, Kd.scalar] using this
      have z2 : wr.cell? ⟨bm, om + i, none⟩ = some (.int .i64 m[i]) := by
       obtain ⟨cs, c1, c2, c3⟩ := hcm i m[i] (List.getElem?_eq_getElem hm1)
       have e : cs = [.int .i64 m[i]] := c2
       have := c3 0 (.int .i64 m[i]) (by rw [e]; rfl)
       simpa [Kd.int, Kd.scalar] using this
      have hA := A.out
      rw [cmpI_drop l m i hl1 hm1] at hA
      generalize l[i] = p at z1 hA
      generalize m[i] = q at z2 hA
      clear hcl hcm A
      have hpos : (0 : Int) ≤ (i : Int) := by omega
      by_cases h1 : p < q
      ·rw [if_pos h1] at hA
       subst hA
       go_wp2
       go_quiet (fail)
       go_wp2
       go_ret
       exact ⟨rfl, by repeat (first | exact hB | apply pw_below_drewN)⟩
      ·rw [if_neg h1] at hA
       by_cases h2 : q < p
       ·rw [if_pos h2] at hA
        subst hA
        go_wp2
        go_quiet (fail)
        go_wp2
        go_quiet (fail)
        go_wp2
        go_ret
        exact ⟨rfl, by repeat (first | exact hB | apply pw_below_drewN)⟩
       ·rw [if_neg h2] at hA
        have HA := Aside0.mk hA
        clear hA
        go_wp2
        go_quiet (fail)
        go_wp2
        go_quiet (fail)
        go_wp2
        go_roundg (l.length - (i + 1))
        case measure => omega
        case rel => exact ⟨i + 1, by omega, by omega, by omega, by go_num, (by repeat (first | exact h6 | apply pw_below_drewN)), HA.out⟩
     ·have hmz : ¬ (i : Int) < (m.length : Int) := by omega
      have hA := A.out
      rw [cmpI_end l m i hi1 hi2 (by omega), if_neg (by omega), if_pos (by omega)] at hA
      subst hA
      have k1 : ¬ (l.length : Int) < (m.length : Int) := by omega
      have k2 : (m.length : Int) < (l.length : Int) := by omega
      clear A
      go_wp2
      go_ret
      exact ⟨rfl, hB⟩
    ·have hlz : ¬ (i : Int) < (l.length : Int) := by omega
     have hA := A.out
     rw [cmpI_end l m i hi1 hi2 (by omega)] at hA
     clear A
     by_cases c1 : l.length < m.length
     ·rw [if_pos c1] at hA
      subst hA
      have k1 : (l.length : Int) < (m.length : Int) := by omega
      go_wp2
      go_ret
      exact ⟨rfl, hB⟩
     ·rw [if_neg c1, if_neg (by omega)] at hA
      subst hA
      have k1 : ¬ (l.length : Int) < (m.length : Int) := by omega
      have k2 : ¬ (m.length : Int) < (l.length : Int) := by omega
      go_wp2
      go_ret
      exact ⟨rfl, hB⟩

end Go.Proofs.YtbbfggfiknbdmaaGreatDoor.A
