-- By drv.py, the session's own driver round the kit's print: the machine's side of the laws, function by function. Not trusted: Lean checks it.
import Derived.Test.YtoajlmmkkcelgaaDoorAx0
import Derived.Test.YtoajlmmkkcelgaaDoorAx4
import Derived.Test.YtoajlmmkkcelgaaDoorAx10
import Derived.Test.YtoajlmmkkcelgaaDoorAx11
namespace Go.Proofs.YtoajlmmkkcelgaaDoor.A
open Go.RowKit Go.Proofs.YtoajlmmkkcelgaaDoorW.PrintWords Go.Proofs.YtoajlmmkkcelgaaDoorW.PrintLast Go.Proofs.YtoajlmmkkcelgaaDoorW.PrintMore
attribute [local go_sem] max2_int min2_int max_two min_two max_three min_three max_four min_four   -- for this text's walks alone
set_option linter.unusedVariables false
set_option linter.unusedSimpArgs false

/-! ### lex_blank: function 54 -/
def lex_blank.f (a0 : Int) : Option (Bool) := if a0 = 32 then (some true) else (if a0 = 9 then (some true) else (if a0 = 10 then (some true) else (some (a0 == 13))))
set_option maxHeartbeats 8000000 in
set_option maxRecDepth 100000 in
theorem lex_blank.calls (a0 : Int) (r : Bool) (w : World) (h : lex_blank.f a0 = some r) :
  Calls Tryd.prog 54 #[.int .u8 a0] w fun e w' => e = .returned (.bool r) ∧ Drawn0 w w' := by
 have H : (if a0 = 32 then (some true) else (if a0 = 9 then (some true) else (if a0 = 10 then (some true) else (some (a0 == 13))))) = some r := h
 clear h
 by_cases c2 : a0 = 32
 ·rw [if_pos c2] at H
  have c2b0 : (a0 == 32) = true := beq_iff_eq.mpr c2
  have c2b1 : (a0 != 32) = false := bne_eq_false_iff_eq.mpr c2
  clear c2
  obtain rfl := Option.some.inj H
  go_enter Tryd.func54, Tryd.ntmps54
  go_wp2
  go_ret
  exact ⟨by first | rfl | (simp; done) | (simp [*]; done) | (simp [wrap64]; done), by repeat (first | exact Drawn0.refl _ | apply Drawn0.step)⟩
 ·rw [if_neg c2] at H
  have c2b0 : (a0 == 32) = false := beq_eq_false_iff_ne.mpr c2
  have c2b1 : (a0 != 32) = true := bne_iff_ne.mpr c2
  by_cases c3 : a0 = 9
  ·rw [if_pos c3] at H
   have c3b0 : (a0 == 9) = true := beq_iff_eq.mpr c3
   have c3b1 : (a0 != 9) = false := bne_eq_false_iff_eq.mpr c3
   clear c3
   obtain rfl := Option.some.inj H
   go_enter Tryd.func54, Tryd.ntmps54
   go_wp2
   go_ret
   exact ⟨by first | rfl | (simp; done) | (simp [*]; done) | (simp [wrap64]; done), by repeat (first | exact Drawn0.refl _ | apply Drawn0.step)⟩
  ·rw [if_neg c3] at H
   have c3b0 : (a0 == 9) = false := beq_eq_false_iff_ne.mpr c3
   have c3b1 : (a0 != 9) = true := bne_iff_ne.mpr c3
   by_cases c4 : a0 = 10
   ·rw [if_pos c4] at H
    have c4b0 : (a0 == 10) = true := beq_iff_eq.mpr c4
    have c4b1 : (a0 != 10) = false := bne_eq_false_iff_eq.mpr c4
    clear c4
    obtain rfl := Option.some.inj H
    go_enter Tryd.func54, Tryd.ntmps54
    go_wp2
    go_ret
    exact ⟨by first | rfl | (simp; done) | (simp [*]; done) | (simp [wrap64]; done), by repeat (first | exact Drawn0.refl _ | apply Drawn0.step)⟩
   ·rw [if_neg c4] at H
    have c4b0 : (a0 == 10) = false := beq_eq_false_iff_ne.mpr c4
    have c4b1 : (a0 != 10) = true := bne_iff_ne.mpr c4
    obtain rfl := Option.some.inj H
    go_enter Tryd.func54, Tryd.ntmps54
    go_wp2
    go_ret
    exact ⟨by first | rfl | (simp; done) | (simp [*]; done) | (simp [wrap64]; done), by repeat (first | exact Drawn0.refl _ | apply Drawn0.step)⟩

/-! ### lex_goes: function 121 -/
def lex_goes.f (k : Nat) (a0 : Int) : Option (Bool) := (name_Letter.f k a0).bind fun t553 => (if t553 = true then (some true) else (if a0 = 95 then (some true) else (if a0 = 45 then (some true) else (if a0 ≥ 48 then (some (decide (a0 ≤ 57))) else (some false)))))
theorem lex_goes.mono : ∀ a0 k, LeO (lex_goes.f k a0) (lex_goes.f (k + 1) a0) := by
 intro a0 k
 unfold lex_goes.f
 repeat' first
   | (with_reducible exact name_Letter.mono _ _)
   | (with_reducible exact LeO.refl _)
   | (with_reducible exact LeO.none _)
   | (with_reducible refine LeO.ite ?_ ?_)
   | (with_reducible refine LeO.bind ?_ (fun _ => ?_))
   | exact name_Letter.mono _ _
   | exact LeO.none _
   | refine LeO.ite ?_ ?_
   | refine LeO.bind ?_ (fun _ => ?_)
set_option maxHeartbeats 8000000 in
set_option maxRecDepth 100000 in
theorem lex_goes.calls (k : Nat) (a0 : Int) (r : Bool) (w : World) (h : lex_goes.f k a0 = some r) :
  Calls Tryd.prog 121 #[.int .i32 a0] w fun e w' => e = .returned (.bool r) ∧ Drawn0 w w' := by
 have H : ((name_Letter.f k a0).bind fun t553 => (if t553 = true then (some true) else (if a0 = 95 then (some true) else (if a0 = 45 then (some true) else (if a0 ≥ 48 then (some (decide (a0 ≤ 57))) else (some false)))))) = some r := h
 clear h
 replace H := Option.bind_eq_some_iff.mp H
 obtain ⟨t553, A20, H⟩ := H
 replace H : (if t553 = true then (some true) else (if a0 = 95 then (some true) else (if a0 = 45 then (some true) else (if a0 ≥ 48 then (some (decide (a0 ≤ 57))) else (some false))))) = some r := H
 have A2 := Aside0.mk A20
 clear A20
 by_cases c3 : t553 = true
 ·subst c3
  have H1 : (some true) = some r := by rw [if_pos rfl] at H; exact H
  clear H
  have H := H1
  clear H1
  obtain rfl := Option.some.inj H
  go_enter Tryd.func121, Tryd.ntmps121
  go_wp2_with (first | ((with_reducible refine gate_callee (f := 117) rfl ?_); refine goesA (some 4) Tryd.func117 #[.int .i32 a0] ?_; (with_reducible refine (name_Letter.calls k a0 true _ A2.out).mono ?_); rintro e w' ⟨rfl, ⟨nd, rfl⟩⟩; refine ⟨_, rfl, ?_⟩))
  go_ret
  exact ⟨by first | rfl | (simp; done) | (simp [*]; done) | (simp [wrap64]; done), by repeat (first | exact Drawn0.refl _ | apply Drawn0.step)⟩
 ·replace c3 := Bool.eq_false_iff.mpr c3
  subst c3
  have H1 : (if a0 = 95 then (some true) else (if a0 = 45 then (some true) else (if a0 ≥ 48 then (some (decide (a0 ≤ 57))) else (some false)))) = some r := by rw [if_neg (show ¬ (false = true) by decide)] at H; exact H
  clear H
  have H := H1
  clear H1
  by_cases c4 : a0 = 95
  ·rw [if_pos c4] at H
   have c4b0 : (a0 == 95) = true := beq_iff_eq.mpr c4
   have c4b1 : (a0 != 95) = false := bne_eq_false_iff_eq.mpr c4
   clear c4
   obtain rfl := Option.some.inj H
   go_enter Tryd.func121, Tryd.ntmps121
   go_wp2_with (first | ((with_reducible refine gate_callee (f := 117) rfl ?_); refine goesA (some 4) Tryd.func117 #[.int .i32 a0] ?_; (with_reducible refine (name_Letter.calls k a0 false _ A2.out).mono ?_); rintro e w' ⟨rfl, ⟨nd, rfl⟩⟩; refine ⟨_, rfl, ?_⟩))
   go_ret
   exact ⟨by first | rfl | (simp; done) | (simp [*]; done) | (simp [wrap64]; done), by repeat (first | exact Drawn0.refl _ | apply Drawn0.step)⟩
  ·rw [if_neg c4] at H
   have c4b0 : (a0 == 95) = false := beq_eq_false_iff_ne.mpr c4
   have c4b1 : (a0 != 95) = true := bne_iff_ne.mpr c4
   by_cases c5 : a0 = 45
   ·rw [if_pos c5] at H
    have c5b0 : (a0 == 45) = true := beq_iff_eq.mpr c5
    have c5b1 : (a0 != 45) = false := bne_eq_false_iff_eq.mpr c5
    clear c5
    obtain rfl := Option.some.inj H
    go_enter Tryd.func121, Tryd.ntmps121
    go_wp2_with (first | ((with_reducible refine gate_callee (f := 117) rfl ?_); refine goesA (some 4) Tryd.func117 #[.int .i32 a0] ?_; (with_reducible refine (name_Letter.calls k a0 false _ A2.out).mono ?_); rintro e w' ⟨rfl, ⟨nd, rfl⟩⟩; refine ⟨_, rfl, ?_⟩))
    go_ret
    exact ⟨by first | rfl | (simp; done) | (simp [*]; done) | (simp [wrap64]; done), by repeat (first | exact Drawn0.refl _ | apply Drawn0.step)⟩
   ·rw [if_neg c5] at H
    have c5b0 : (a0 == 45) = false := beq_eq_false_iff_ne.mpr c5
    have c5b1 : (a0 != 45) = true := bne_iff_ne.mpr c5
    by_cases c6 : a0 ≥ 48
    ·rw [if_pos c6] at H
     have c6b0 : decide (48 ≤ a0) = true := decide_eq_true c6
     clear c6
     obtain rfl := Option.some.inj H
     go_enter Tryd.func121, Tryd.ntmps121
     go_wp2_with (first | ((with_reducible refine gate_callee (f := 117) rfl ?_); refine goesA (some 4) Tryd.func117 #[.int .i32 a0] ?_; (with_reducible refine (name_Letter.calls k a0 false _ A2.out).mono ?_); rintro e w' ⟨rfl, ⟨nd, rfl⟩⟩; refine ⟨_, rfl, ?_⟩))
     go_ret
     exact ⟨by first | rfl | (simp; done) | (simp [*]; done) | (simp [wrap64]; done), by repeat (first | exact Drawn0.refl _ | apply Drawn0.step)⟩
    ·rw [if_neg c6] at H
     have c6b0 : decide (48 ≤ a0) = false := decide_eq_false c6
     clear c6
     obtain rfl := Option.some.inj H
     go_enter Tryd.func121, Tryd.ntmps121
     go_wp2_with (first | ((with_reducible refine gate_callee (f := 117) rfl ?_); refine goesA (some 4) Tryd.func117 #[.int .i32 a0] ?_; (with_reducible refine (name_Letter.calls k a0 false _ A2.out).mono ?_); rintro e w' ⟨rfl, ⟨nd, rfl⟩⟩; refine ⟨_, rfl, ?_⟩))
     go_ret
     exact ⟨by first | rfl | (simp; done) | (simp [*]; done) | (simp [wrap64]; done), by repeat (first | exact Drawn0.refl _ | apply Drawn0.step)⟩

/-! ### lex_next: function 120 -/
def lex_next.f (k : Nat) (a0 : ByteArray) : Option (Bool) := (utf8_DecodeRuneInString.f a0).bind fun bt554 => (if bt554.2 > 0 then ((lex_goes.f k bt554.1).bind fun t556 => (some t556)) else (some false))
theorem lex_next.mono : ∀ a0 k, LeO (lex_next.f k a0) (lex_next.f (k + 1) a0) := by
 intro a0 k
 unfold lex_next.f
 repeat' first
   | (with_reducible exact lex_goes.mono _ _)
   | (with_reducible exact LeO.refl _)
   | (with_reducible exact LeO.none _)
   | (with_reducible refine LeO.ite ?_ ?_)
   | (with_reducible refine LeO.bind ?_ (fun _ => ?_))
   | exact lex_goes.mono _ _
   | exact LeO.none _
   | refine LeO.ite ?_ ?_
   | refine LeO.bind ?_ (fun _ => ?_)
set_option maxHeartbeats 8000000 in
set_option maxRecDepth 100000 in
theorem lex_next.calls (k : Nat) (a0 : ByteArray) (r : Bool) (w : World) (hT : Tabs w) (h : lex_next.f k a0 = some r) :
  Calls Tryd.prog 120 #[.string a0] w fun e w' => e = .returned (.bool r) ∧ Below w.heap.size w w' := by
 have HB := Aside0.mk (Below.refl w.heap.size w)
 have H : ((utf8_DecodeRuneInString.f a0).bind fun bt554 => (if bt554.2 > 0 then ((lex_goes.f k bt554.1).bind fun t556 => (some t556)) else (some false))) = some r := h
 clear h
 have HT := Aside0.mk hT
 clear hT
 replace H := Option.bind_eq_some_iff.mp H
 obtain ⟨⟨t554, t555⟩, A20, H⟩ := H
 replace H : (if t555 > 0 then ((lex_goes.f k t554).bind fun t556 => (some t556)) else (some false)) = some r := H
 have A2 := Aside0.mk A20
 clear A20
 by_cases c3 : t555 > 0
 ·rw [if_pos c3] at H
  have c3b0 : decide (0 < t555) = true := decide_eq_true c3
  clear c3
  replace H := Option.bind_eq_some_iff.mp H
  obtain ⟨t556, A40, H⟩ := H
  replace H : (some t556) = some r := H
  have A4 := Aside0.mk A40
  clear A40
  obtain rfl := Option.some.inj H
  go_enter Tryd.func120, Tryd.ntmps120
  go_wp2_with (first | ((with_reducible refine gate_callee (f := 108) rfl ?_); refine goesA (some 7) Tryd.func108 #[.string a0] ?_; (with_reducible refine (utf8_DecodeRuneInString.calls a0 t554 t555 _ ?side1 A2.out).mono ?_); (case side1 => exact Tabs.below HT.out bwA); rintro e w5 ⟨rfl, hb⟩; refine ⟨_, rfl, ?_⟩; have n0_ := Aside0.mk (below_step bwA hb); clear HB; have HB := n0_; clear n0_; (try clear hb); (try clear hb2); (try clear hk); (try clear hi)) | (go_at_call 121; (with_reducible refine (lex_goes.calls k t554 t556 _ A4.out).mono ?_); rintro e w' ⟨rfl, ⟨nd, rfl⟩⟩))
  go_ret
  exact ⟨by first | rfl | (simp [errW_none, errW_some] <;> rfl) | (simp [*, errW_none, errW_some] <;> rfl), by repeat (first | (with_reducible first | exact HB.out | apply below_alloc | apply pw_below_drewN | apply below_drew1) | exact HB.out)⟩
 ·rw [if_neg c3] at H
  have c3b0 : decide (0 < t555) = false := decide_eq_false c3
  clear c3
  obtain rfl := Option.some.inj H
  go_enter Tryd.func120, Tryd.ntmps120
  go_wp2_with (first | ((with_reducible refine gate_callee (f := 108) rfl ?_); refine goesA (some 7) Tryd.func108 #[.string a0] ?_; (with_reducible refine (utf8_DecodeRuneInString.calls a0 t554 t555 _ ?side1 A2.out).mono ?_); (case side1 => exact Tabs.below HT.out bwA); rintro e w6 ⟨rfl, hb⟩; refine ⟨_, rfl, ?_⟩; have n0_ := Aside0.mk (below_step bwA hb); clear HB; have HB := n0_; clear n0_; (try clear hb); (try clear hb2); (try clear hk); (try clear hi)))
  go_ret
  exact ⟨by first | rfl | (simp [errW_none, errW_some] <;> rfl) | (simp [*, errW_none, errW_some] <;> rfl), by repeat (first | (with_reducible first | exact HB.out | apply below_alloc | apply pw_below_drewN | apply below_drew1) | exact HB.out)⟩

/-! ### lex_literal: function 91 -/
def lex_literal.f (k : Nat) (a0 : ByteArray) : Option (Int × Int × ByteArray × Int × Int) := (value_Scan.f k a0).bind fun bt558 => (if bt558.2.2.2.2 = 2 then (some (0, 0, (⟨#[]⟩ : ByteArray), 0, bt558.2.2.2.2)) else (if bt558.2.2.2.2 = 0 then ((lex_next.f k bt558.2.2.2.1).bind fun t564 => (if t564 = true then (some (0, 0, (⟨#[]⟩ : ByteArray), 0, 0)) else (some (bt558.1, bt558.2.1, bt558.2.2.1, wrap64 ((a0.size : Int) - (bt558.2.2.2.1.size : Int)), 0)))) else (some (0, 0, (⟨#[]⟩ : ByteArray), 0, 0))))
theorem lex_literal.mono : ∀ a0 k, LeO (lex_literal.f k a0) (lex_literal.f (k + 1) a0) := by
 intro a0 k
 unfold lex_literal.f
 repeat' first
   | (with_reducible exact lex_next.mono _ _)
   | (with_reducible exact value_Scan.mono _ _)
   | (with_reducible exact LeO.refl _)
   | (with_reducible exact LeO.none _)
   | (with_reducible refine LeO.ite ?_ ?_)
   | (with_reducible refine LeO.bind ?_ (fun _ => ?_))
   | exact lex_next.mono _ _
   | exact value_Scan.mono _ _
   | exact LeO.none _
   | refine LeO.ite ?_ ?_
   | refine LeO.bind ?_ (fun _ => ?_)
set_option maxHeartbeats 8000000 in
set_option maxRecDepth 100000 in
theorem lex_literal.calls (k : Nat) (a0 : ByteArray) (r1 : Int) (r2 : Int) (r3 : ByteArray) (r4 : Int) (r5 : Int) (w : World) (hT : Tabs w) (h : lex_literal.f k a0 = some (r1, r2, r3, r4, r5)) :
  Calls Tryd.prog 91 #[.string a0] w fun e w' => e = .returned (.tuple #[.agg #[.int .i64 r1, .int .i64 r2, .string r3], .int .i64 r4, .int .i64 r5]) ∧ Below w.heap.size w w' := by
 have hu25 := Tryd.underlying25
 have HB := Aside0.mk (Below.refl w.heap.size w)
 have H : ((value_Scan.f k a0).bind fun bt558 => (if bt558.2.2.2.2 = 2 then (some (0, 0, (⟨#[]⟩ : ByteArray), 0, bt558.2.2.2.2)) else (if bt558.2.2.2.2 = 0 then ((lex_next.f k bt558.2.2.2.1).bind fun t564 => (if t564 = true then (some (0, 0, (⟨#[]⟩ : ByteArray), 0, 0)) else (some (bt558.1, bt558.2.1, bt558.2.2.1, wrap64 ((a0.size : Int) - (bt558.2.2.2.1.size : Int)), 0)))) else (some (0, 0, (⟨#[]⟩ : ByteArray), 0, 0))))) = some (r1, r2, r3, r4, r5) := h
 clear h
 have HT := Aside0.mk hT
 clear hT
 replace H := Option.bind_eq_some_iff.mp H
 obtain ⟨⟨t558, t559, t560, t561, t562⟩, A20, H⟩ := H
 replace H : (if t562 = 2 then (some (0, 0, (⟨#[]⟩ : ByteArray), 0, t562)) else (if t562 = 0 then ((lex_next.f k t561).bind fun t564 => (if t564 = true then (some (0, 0, (⟨#[]⟩ : ByteArray), 0, 0)) else (some (t558, t559, t560, wrap64 ((a0.size : Int) - (t561.size : Int)), 0)))) else (some (0, 0, (⟨#[]⟩ : ByteArray), 0, 0)))) = some (r1, r2, r3, r4, r5) := H
 have A2 := Aside0.mk A20
 clear A20
 by_cases c3 : t562 = 2
 ·rw [if_pos c3] at H
  have c3b0 : (t562 == 2) = true := beq_iff_eq.mpr c3
  have c3b1 : (t562 != 2) = false := bne_eq_false_iff_eq.mpr c3
  clear c3
  simp only [Option.some.injEq, Prod.mk.injEq] at H
  obtain ⟨rfl, rfl, rfl, rfl, rfl⟩ := H
  go_enter Tryd.func91, Tryd.ntmps91
  go_wp2_with (first | ((with_reducible refine gate_dst (N := 2) rfl ?_); refine box_event ?hg (N := 2) ?hd (cs := #[.int .i64 0, .int .i64 0, .string (⟨#[]⟩ : ByteArray)]) (t := 25) ?hr ?_; (case hd => rfl); (case hg => rfl); (case hr => first | (go_simp; done) | (go_simp; rfl)); intro gb557 hg w4 hbox hb; have n0_ := Aside0.mk (below_step bwA hb); have n1_ := Aside0.mk (hbox); have n2_ := Aside0.mk ((by rw [hg]; exact (below_size bwA) : w.heap.size ≤ gb557)); have n3_ := Aside0.mk ((by rw [hg]; exact (below_size bwA) : w.heap.size ≤ gb557)); clear HB; have HB := n0_; have BK557 := n1_; have GW557 := n2_; have GE557 := n3_; clear n0_ n1_ n2_ n3_; clear hb hbox hg) | ((with_reducible refine gate_callee (f := 17) rfl ?_); refine goesA (some 10) Tryd.func17 #[.string a0] ?_; (with_reducible refine (value_Scan.calls k a0 t558 t559 t560 t561 t562 _ ?side1 A2.out).mono ?_); (case side1 => exact Tabs.below HT.out bwA); rintro e w5 ⟨rfl, hb⟩; refine ⟨_, rfl, ?_⟩; have n0_ := Aside0.mk (blk_below (g := gb557) (o := .cells #[.int .i64 0, .int .i64 0, .string (⟨#[]⟩ : ByteArray)] 25 (0, 0)) blkA hb); have n1_ := Aside0.mk (below_step bwA hb); clear BK557; clear HB; have BK557 := n0_; have HB := n1_; clear n0_ n1_; (try clear hb); (try clear hb2); (try clear hk); (try clear hi)) | ((with_reducible refine gate_dst (N := 5) rfl ?_); refine box_event ?hg (N := 5) ?hd (cs := #[.int .i64 0, .int .i64 0, .string (⟨#[]⟩ : ByteArray)]) (t := 25) ?hr ?_; (case hd => rfl); (case hg => rfl); (case hr => first | (go_simp; done) | (go_simp; rfl)); intro gb563 hg w6 hbox hb; have n0_ := Aside0.mk (blk_below (g := gb557) (o := .cells #[.int .i64 0, .int .i64 0, .string (⟨#[]⟩ : ByteArray)] 25 (0, 0)) blkA hb); have n1_ := Aside0.mk (below_step bwA hb); have n2_ := Aside0.mk (hbox); have n3_ := Aside0.mk ((by rw [hg]; exact (below_size bwA) : w.heap.size ≤ gb563)); have n4_ := Aside0.mk ((by rw [hg]; exact (below_size bwA) : w.heap.size ≤ gb563)); have n5_ := Aside0.mk ((by rw [hg]; exact Nat.ne_of_lt (blk_lt (g := gb557) (o := .cells #[.int .i64 0, .int .i64 0, .string (⟨#[]⟩ : ByteArray)] 25 (0, 0)) blkA) : gb557 ≠ gb563)); have n6_ := Aside0.mk ((by rw [hg]; exact Nat.ne_of_gt (blk_lt (g := gb557) (o := .cells #[.int .i64 0, .int .i64 0, .string (⟨#[]⟩ : ByteArray)] 25 (0, 0)) blkA) : gb563 ≠ gb557)); clear BK557; clear HB; have BK557 := n0_; have HB := n1_; have BK563 := n2_; have GW563 := n3_; have GE563 := n4_; have NB557_563 := n5_; have NB563_557 := n6_; clear n0_ n1_ n2_ n3_ n4_ n5_ n6_; clear hb hbox hg; have hnb7 := NB563_557.out; have hnc7 := NB557_563.out; have hcz8_0 : w6.cell? ⟨gb563, 0, none⟩ = some (.int .i64 0) := (blk_cell BK563.out 0).trans rfl; have hcz8_1 : w6.cell? ⟨gb563, 1, none⟩ = some (.int .i64 0) := (blk_cell BK563.out 1).trans rfl; have hcz8_2 : w6.cell? ⟨gb563, 2, none⟩ = some (.string (⟨#[]⟩ : ByteArray)) := (blk_cell BK563.out 2).trans rfl; have hfz8_0 := blk_frozen BK563.out 0; have hfz8_1 := blk_frozen BK563.out 1; have hfz8_2 := blk_frozen BK563.out 2; have hcz9_0 : w6.cell? ⟨gb557, 0, none⟩ = some (.int .i64 0) := (blk_cell BK557.out 0).trans rfl; have hcz9_1 : w6.cell? ⟨gb557, 1, none⟩ = some (.int .i64 0) := (blk_cell BK557.out 1).trans rfl; have hcz9_2 : w6.cell? ⟨gb557, 2, none⟩ = some (.string (⟨#[]⟩ : ByteArray)) := (blk_cell BK557.out 2).trans rfl; have hfz9_0 := blk_frozen BK557.out 0; have hfz9_1 := blk_frozen BK557.out 1; have hfz9_2 := blk_frozen BK557.out 2))
  refine bodyPost_ret (results_ctt rfl _ _ gb557 25 #[.int .i64 0, .int .i64 0, .string (⟨#[]⟩ : ByteArray)] (0, 0) _ rfl (by (with_reducible repeat (first | refine blk_drewN ?_ _ | refine blk_drew ?_ | refine blk_alloc ?_ _)); refine blk_put (cs := #[.int .i64 0, .int .i64 0, .string (⟨#[]⟩ : ByteArray)]) ?_ 2 _ rfl; (with_reducible repeat (first | refine blk_drewN ?_ _ | refine blk_drew ?_ | refine blk_alloc ?_ _)); refine blk_put (cs := #[.int .i64 0, .int .i64 0, .string (⟨#[]⟩ : ByteArray)]) ?_ 1 _ rfl; (with_reducible repeat (first | refine blk_drewN ?_ _ | refine blk_drew ?_ | refine blk_alloc ?_ _)); refine blk_put (cs := #[.int .i64 0, .int .i64 0, .string (⟨#[]⟩ : ByteArray)]) ?_ 0 _ rfl; (with_reducible repeat (first | refine blk_drewN ?_ _ | refine blk_drew ?_ | refine blk_alloc ?_ _)); refine blk_far ?_ NB557_563.out _; (with_reducible repeat (first | refine blk_drewN ?_ _ | refine blk_drew ?_ | refine blk_alloc ?_ _)); refine blk_far ?_ NB557_563.out _; (with_reducible repeat (first | refine blk_drewN ?_ _ | refine blk_drew ?_ | refine blk_alloc ?_ _)); refine blk_far ?_ NB557_563.out _; (with_reducible repeat (first | refine blk_drewN ?_ _ | refine blk_drew ?_ | refine blk_alloc ?_ _)); exact BK557.out) Tryd.underlying25 rfl (by kernel_rfl)) rfl ?_
  exact ⟨by first | rfl | (simp [errW_none, errW_some] <;> rfl) | (simp [*, errW_none, errW_some] <;> rfl), by repeat (first | (with_reducible first | exact HB.out | apply below_alloc | apply pw_below_drewN | apply below_drew1 | refine below_set ?_ GE557.out | refine below_set ?_ GE563.out) | exact HB.out)⟩
 ·rw [if_neg c3] at H
  have c3b0 : (t562 == 2) = false := beq_eq_false_iff_ne.mpr c3
  have c3b1 : (t562 != 2) = true := bne_iff_ne.mpr c3
  by_cases c10 : t562 = 0
  ·rw [if_pos c10] at H
   have c10b0 : (t562 == 0) = true := beq_iff_eq.mpr c10
   have c10b1 : (t562 != 0) = false := bne_eq_false_iff_eq.mpr c10
   clear c10
   replace H := Option.bind_eq_some_iff.mp H
   obtain ⟨t564, A110, H⟩ := H
   replace H : (if t564 = true then (some (0, 0, (⟨#[]⟩ : ByteArray), 0, 0)) else (some (t558, t559, t560, wrap64 ((a0.size : Int) - (t561.size : Int)), 0))) = some (r1, r2, r3, r4, r5) := H
   have A11 := Aside0.mk A110
   clear A110
   by_cases c12 : t564 = true
   ·subst c12
    have H1 : (some (0, 0, (⟨#[]⟩ : ByteArray), 0, 0)) = some (r1, r2, r3, r4, r5) := by rw [if_pos rfl] at H; exact H
    clear H
    have H := H1
    clear H1
    simp only [Option.some.injEq, Prod.mk.injEq] at H
    obtain ⟨rfl, rfl, rfl, rfl, rfl⟩ := H
    go_enter Tryd.func91, Tryd.ntmps91
    go_wp2_with (first | ((with_reducible refine gate_dst (N := 2) rfl ?_); refine box_event ?hg (N := 2) ?hd (cs := #[.int .i64 0, .int .i64 0, .string (⟨#[]⟩ : ByteArray)]) (t := 25) ?hr ?_; (case hd => rfl); (case hg => rfl); (case hr => first | (go_simp; done) | (go_simp; rfl)); intro gb557 hg w13 hbox hb; have n0_ := Aside0.mk (below_step bwA hb); have n1_ := Aside0.mk (hbox); have n2_ := Aside0.mk ((by rw [hg]; exact (below_size bwA) : w.heap.size ≤ gb557)); have n3_ := Aside0.mk ((by rw [hg]; exact (below_size bwA) : w.heap.size ≤ gb557)); clear HB; have HB := n0_; have BK557 := n1_; have GW557 := n2_; have GE557 := n3_; clear n0_ n1_ n2_ n3_; clear hb hbox hg) | ((with_reducible refine gate_callee (f := 17) rfl ?_); refine goesA (some 10) Tryd.func17 #[.string a0] ?_; (with_reducible refine (value_Scan.calls k a0 t558 t559 t560 t561 t562 _ ?side1 A2.out).mono ?_); (case side1 => exact Tabs.below HT.out bwA); rintro e w14 ⟨rfl, hb⟩; refine ⟨_, rfl, ?_⟩; have n0_ := Aside0.mk (blk_below (g := gb557) (o := .cells #[.int .i64 0, .int .i64 0, .string (⟨#[]⟩ : ByteArray)] 25 (0, 0)) blkA hb); have n1_ := Aside0.mk (below_step bwA hb); clear BK557; clear HB; have BK557 := n0_; have HB := n1_; clear n0_ n1_; (try clear hb); (try clear hb2); (try clear hk); (try clear hi)) | ((with_reducible refine gate_dst (N := 5) rfl ?_); refine box_event ?hg (N := 5) ?hd (cs := #[.int .i64 0, .int .i64 0, .string (⟨#[]⟩ : ByteArray)]) (t := 25) ?hr ?_; (case hd => rfl); (case hg => rfl); (case hr => first | (go_simp; done) | (go_simp; rfl)); intro gb563 hg w15 hbox hb; have n0_ := Aside0.mk (blk_below (g := gb557) (o := .cells #[.int .i64 0, .int .i64 0, .string (⟨#[]⟩ : ByteArray)] 25 (0, 0)) blkA hb); have n1_ := Aside0.mk (below_step bwA hb); have n2_ := Aside0.mk (hbox); have n3_ := Aside0.mk ((by rw [hg]; exact (below_size bwA) : w.heap.size ≤ gb563)); have n4_ := Aside0.mk ((by rw [hg]; exact (below_size bwA) : w.heap.size ≤ gb563)); have n5_ := Aside0.mk ((by rw [hg]; exact Nat.ne_of_lt (blk_lt (g := gb557) (o := .cells #[.int .i64 0, .int .i64 0, .string (⟨#[]⟩ : ByteArray)] 25 (0, 0)) blkA) : gb557 ≠ gb563)); have n6_ := Aside0.mk ((by rw [hg]; exact Nat.ne_of_gt (blk_lt (g := gb557) (o := .cells #[.int .i64 0, .int .i64 0, .string (⟨#[]⟩ : ByteArray)] 25 (0, 0)) blkA) : gb563 ≠ gb557)); clear BK557; clear HB; have BK557 := n0_; have HB := n1_; have BK563 := n2_; have GW563 := n3_; have GE563 := n4_; have NB557_563 := n5_; have NB563_557 := n6_; clear n0_ n1_ n2_ n3_ n4_ n5_ n6_; clear hb hbox hg; have hnb16 := NB563_557.out; have hnc16 := NB557_563.out; have hcz17_0 : w15.cell? ⟨gb563, 0, none⟩ = some (.int .i64 0) := (blk_cell BK563.out 0).trans rfl; have hcz17_1 : w15.cell? ⟨gb563, 1, none⟩ = some (.int .i64 0) := (blk_cell BK563.out 1).trans rfl; have hcz17_2 : w15.cell? ⟨gb563, 2, none⟩ = some (.string (⟨#[]⟩ : ByteArray)) := (blk_cell BK563.out 2).trans rfl; have hfz17_0 := blk_frozen BK563.out 0; have hfz17_1 := blk_frozen BK563.out 1; have hfz17_2 := blk_frozen BK563.out 2) | (go_at_call 120; (with_reducible refine (lex_next.calls k t561 true _ ?side1 A11.out).mono ?_); (case side1 => exact Tabs.below HT.out bwA); rintro e w18 ⟨rfl, hb⟩; have n0_ := Aside0.mk (blk_below (g := gb557) (o := .cells #[.int .i64 0, .int .i64 0, .string (⟨#[]⟩ : ByteArray)] 25 (0, 0)) (by (with_reducible repeat (first | refine blk_drewN ?_ _ | refine blk_drew ?_ | refine blk_alloc ?_ _)); refine blk_far ?_ NB557_563.out _; (with_reducible repeat (first | refine blk_drewN ?_ _ | refine blk_drew ?_ | refine blk_alloc ?_ _)); refine blk_far ?_ NB557_563.out _; (with_reducible repeat (first | refine blk_drewN ?_ _ | refine blk_drew ?_ | refine blk_alloc ?_ _)); refine blk_far ?_ NB557_563.out _; (with_reducible repeat (first | refine blk_drewN ?_ _ | refine blk_drew ?_ | refine blk_alloc ?_ _)); exact BK557.out) hb); have n1_ := Aside0.mk (blk_below (g := gb563) (o := .cells #[.int .i64 t558, .int .i64 t559, .string t560] 25 (0, 0)) (by (with_reducible repeat (first | refine blk_drewN ?_ _ | refine blk_drew ?_ | refine blk_alloc ?_ _)); refine blk_put (cs := #[.int .i64 t558, .int .i64 t559, .string (⟨#[]⟩ : ByteArray)]) ?_ 2 _ rfl; (with_reducible repeat (first | refine blk_drewN ?_ _ | refine blk_drew ?_ | refine blk_alloc ?_ _)); refine blk_put (cs := #[.int .i64 t558, .int .i64 0, .string (⟨#[]⟩ : ByteArray)]) ?_ 1 _ rfl; (with_reducible repeat (first | refine blk_drewN ?_ _ | refine blk_drew ?_ | refine blk_alloc ?_ _)); refine blk_put (cs := #[.int .i64 0, .int .i64 0, .string (⟨#[]⟩ : ByteArray)]) ?_ 0 _ rfl; (with_reducible repeat (first | refine blk_drewN ?_ _ | refine blk_drew ?_ | refine blk_alloc ?_ _)); exact BK563.out) hb); have n2_ := Aside0.mk (below_step bwA hb); clear BK557; clear BK563; clear HB; have BK557 := n0_; have BK563 := n1_; have HB := n2_; clear n0_ n1_ n2_; (try clear hb); (try clear hb2); (try clear hk); (try clear hi); have hcz19_0 : w18.cell? ⟨gb557, 0, none⟩ = some (.int .i64 0) := (blk_cell BK557.out 0).trans rfl; have hcz19_1 : w18.cell? ⟨gb557, 1, none⟩ = some (.int .i64 0) := (blk_cell BK557.out 1).trans rfl; have hcz19_2 : w18.cell? ⟨gb557, 2, none⟩ = some (.string (⟨#[]⟩ : ByteArray)) := (blk_cell BK557.out 2).trans rfl; have hfz19_0 := blk_frozen BK557.out 0; have hfz19_1 := blk_frozen BK557.out 1; have hfz19_2 := blk_frozen BK557.out 2))
    refine bodyPost_ret (results_ctt rfl _ _ gb557 25 #[.int .i64 0, .int .i64 0, .string (⟨#[]⟩ : ByteArray)] (0, 0) _ rfl (by (with_reducible repeat (first | refine blk_drewN ?_ _ | refine blk_drew ?_ | refine blk_alloc ?_ _)); refine blk_put (cs := #[.int .i64 0, .int .i64 0, .string (⟨#[]⟩ : ByteArray)]) ?_ 2 _ rfl; (with_reducible repeat (first | refine blk_drewN ?_ _ | refine blk_drew ?_ | refine blk_alloc ?_ _)); refine blk_put (cs := #[.int .i64 0, .int .i64 0, .string (⟨#[]⟩ : ByteArray)]) ?_ 1 _ rfl; (with_reducible repeat (first | refine blk_drewN ?_ _ | refine blk_drew ?_ | refine blk_alloc ?_ _)); refine blk_put (cs := #[.int .i64 0, .int .i64 0, .string (⟨#[]⟩ : ByteArray)]) ?_ 0 _ rfl; (with_reducible repeat (first | refine blk_drewN ?_ _ | refine blk_drew ?_ | refine blk_alloc ?_ _)); exact BK557.out) Tryd.underlying25 rfl (by kernel_rfl)) rfl ?_
    exact ⟨by first | rfl | (simp [errW_none, errW_some] <;> rfl) | (simp [*, errW_none, errW_some] <;> rfl), by repeat (first | (with_reducible first | exact HB.out | apply below_alloc | apply pw_below_drewN | apply below_drew1 | refine below_set ?_ GE557.out | refine below_set ?_ GE563.out) | exact HB.out)⟩
   ·replace c12 := Bool.eq_false_iff.mpr c12
    subst c12
    have H1 : (some (t558, t559, t560, wrap64 ((a0.size : Int) - (t561.size : Int)), 0)) = some (r1, r2, r3, r4, r5) := by rw [if_neg (show ¬ (false = true) by decide)] at H; exact H
    clear H
    have H := H1
    clear H1
    simp only [Option.some.injEq, Prod.mk.injEq] at H
    obtain ⟨rfl, rfl, rfl, rfl, rfl⟩ := H
    go_enter Tryd.func91, Tryd.ntmps91
    go_wp2_with (first | ((with_reducible refine gate_dst (N := 2) rfl ?_); refine box_event ?hg (N := 2) ?hd (cs := #[.int .i64 0, .int .i64 0, .string (⟨#[]⟩ : ByteArray)]) (t := 25) ?hr ?_; (case hd => rfl); (case hg => rfl); (case hr => first | (go_simp; done) | (go_simp; rfl)); intro gb557 hg w20 hbox hb; have n0_ := Aside0.mk (below_step bwA hb); have n1_ := Aside0.mk (hbox); have n2_ := Aside0.mk ((by rw [hg]; exact (below_size bwA) : w.heap.size ≤ gb557)); have n3_ := Aside0.mk ((by rw [hg]; exact (below_size bwA) : w.heap.size ≤ gb557)); clear HB; have HB := n0_; have BK557 := n1_; have GW557 := n2_; have GE557 := n3_; clear n0_ n1_ n2_ n3_; clear hb hbox hg) | ((with_reducible refine gate_callee (f := 17) rfl ?_); refine goesA (some 10) Tryd.func17 #[.string a0] ?_; (with_reducible refine (value_Scan.calls k a0 t558 t559 t560 t561 t562 _ ?side1 A2.out).mono ?_); (case side1 => exact Tabs.below HT.out bwA); rintro e w21 ⟨rfl, hb⟩; refine ⟨_, rfl, ?_⟩; have n0_ := Aside0.mk (blk_below (g := gb557) (o := .cells #[.int .i64 0, .int .i64 0, .string (⟨#[]⟩ : ByteArray)] 25 (0, 0)) blkA hb); have n1_ := Aside0.mk (below_step bwA hb); clear BK557; clear HB; have BK557 := n0_; have HB := n1_; clear n0_ n1_; (try clear hb); (try clear hb2); (try clear hk); (try clear hi)) | ((with_reducible refine gate_dst (N := 5) rfl ?_); refine box_event ?hg (N := 5) ?hd (cs := #[.int .i64 0, .int .i64 0, .string (⟨#[]⟩ : ByteArray)]) (t := 25) ?hr ?_; (case hd => rfl); (case hg => rfl); (case hr => first | (go_simp; done) | (go_simp; rfl)); intro gb563 hg w22 hbox hb; have n0_ := Aside0.mk (blk_below (g := gb557) (o := .cells #[.int .i64 0, .int .i64 0, .string (⟨#[]⟩ : ByteArray)] 25 (0, 0)) blkA hb); have n1_ := Aside0.mk (below_step bwA hb); have n2_ := Aside0.mk (hbox); have n3_ := Aside0.mk ((by rw [hg]; exact (below_size bwA) : w.heap.size ≤ gb563)); have n4_ := Aside0.mk ((by rw [hg]; exact (below_size bwA) : w.heap.size ≤ gb563)); have n5_ := Aside0.mk ((by rw [hg]; exact Nat.ne_of_lt (blk_lt (g := gb557) (o := .cells #[.int .i64 0, .int .i64 0, .string (⟨#[]⟩ : ByteArray)] 25 (0, 0)) blkA) : gb557 ≠ gb563)); have n6_ := Aside0.mk ((by rw [hg]; exact Nat.ne_of_gt (blk_lt (g := gb557) (o := .cells #[.int .i64 0, .int .i64 0, .string (⟨#[]⟩ : ByteArray)] 25 (0, 0)) blkA) : gb563 ≠ gb557)); clear BK557; clear HB; have BK557 := n0_; have HB := n1_; have BK563 := n2_; have GW563 := n3_; have GE563 := n4_; have NB557_563 := n5_; have NB563_557 := n6_; clear n0_ n1_ n2_ n3_ n4_ n5_ n6_; clear hb hbox hg; have hnb23 := NB563_557.out; have hnc23 := NB557_563.out; have hcz24_0 : w22.cell? ⟨gb563, 0, none⟩ = some (.int .i64 0) := (blk_cell BK563.out 0).trans rfl; have hcz24_1 : w22.cell? ⟨gb563, 1, none⟩ = some (.int .i64 0) := (blk_cell BK563.out 1).trans rfl; have hcz24_2 : w22.cell? ⟨gb563, 2, none⟩ = some (.string (⟨#[]⟩ : ByteArray)) := (blk_cell BK563.out 2).trans rfl; have hfz24_0 := blk_frozen BK563.out 0; have hfz24_1 := blk_frozen BK563.out 1; have hfz24_2 := blk_frozen BK563.out 2) | (go_at_call 120; (with_reducible refine (lex_next.calls k t561 false _ ?side1 A11.out).mono ?_); (case side1 => exact Tabs.below HT.out bwA); rintro e w25 ⟨rfl, hb⟩; have n0_ := Aside0.mk (blk_below (g := gb557) (o := .cells #[.int .i64 0, .int .i64 0, .string (⟨#[]⟩ : ByteArray)] 25 (0, 0)) (by (with_reducible repeat (first | refine blk_drewN ?_ _ | refine blk_drew ?_ | refine blk_alloc ?_ _)); refine blk_far ?_ NB557_563.out _; (with_reducible repeat (first | refine blk_drewN ?_ _ | refine blk_drew ?_ | refine blk_alloc ?_ _)); refine blk_far ?_ NB557_563.out _; (with_reducible repeat (first | refine blk_drewN ?_ _ | refine blk_drew ?_ | refine blk_alloc ?_ _)); refine blk_far ?_ NB557_563.out _; (with_reducible repeat (first | refine blk_drewN ?_ _ | refine blk_drew ?_ | refine blk_alloc ?_ _)); exact BK557.out) hb); have n1_ := Aside0.mk (blk_below (g := gb563) (o := .cells #[.int .i64 t558, .int .i64 t559, .string t560] 25 (0, 0)) (by (with_reducible repeat (first | refine blk_drewN ?_ _ | refine blk_drew ?_ | refine blk_alloc ?_ _)); refine blk_put (cs := #[.int .i64 t558, .int .i64 t559, .string (⟨#[]⟩ : ByteArray)]) ?_ 2 _ rfl; (with_reducible repeat (first | refine blk_drewN ?_ _ | refine blk_drew ?_ | refine blk_alloc ?_ _)); refine blk_put (cs := #[.int .i64 t558, .int .i64 0, .string (⟨#[]⟩ : ByteArray)]) ?_ 1 _ rfl; (with_reducible repeat (first | refine blk_drewN ?_ _ | refine blk_drew ?_ | refine blk_alloc ?_ _)); refine blk_put (cs := #[.int .i64 0, .int .i64 0, .string (⟨#[]⟩ : ByteArray)]) ?_ 0 _ rfl; (with_reducible repeat (first | refine blk_drewN ?_ _ | refine blk_drew ?_ | refine blk_alloc ?_ _)); exact BK563.out) hb); have n2_ := Aside0.mk (below_step bwA hb); clear BK557; clear BK563; clear HB; have BK557 := n0_; have BK563 := n1_; have HB := n2_; clear n0_ n1_ n2_; (try clear hb); (try clear hb2); (try clear hk); (try clear hi); have hcz26_0 : w25.cell? ⟨gb563, 0, none⟩ = some (.int .i64 t558) := (blk_cell BK563.out 0).trans rfl; have hcz26_1 : w25.cell? ⟨gb563, 1, none⟩ = some (.int .i64 t559) := (blk_cell BK563.out 1).trans rfl; have hcz26_2 : w25.cell? ⟨gb563, 2, none⟩ = some (.string t560) := (blk_cell BK563.out 2).trans rfl; have hfz26_0 := blk_frozen BK563.out 0; have hfz26_1 := blk_frozen BK563.out 1; have hfz26_2 := blk_frozen BK563.out 2; have hcz27_0 : w25.cell? ⟨gb557, 0, none⟩ = some (.int .i64 0) := (blk_cell BK557.out 0).trans rfl; have hcz27_1 : w25.cell? ⟨gb557, 1, none⟩ = some (.int .i64 0) := (blk_cell BK557.out 1).trans rfl; have hcz27_2 : w25.cell? ⟨gb557, 2, none⟩ = some (.string (⟨#[]⟩ : ByteArray)) := (blk_cell BK557.out 2).trans rfl; have hfz27_0 := blk_frozen BK557.out 0; have hfz27_1 := blk_frozen BK557.out 1; have hfz27_2 := blk_frozen BK557.out 2))
    refine bodyPost_ret (results_ctt rfl _ _ gb557 25 #[.int .i64 t558, .int .i64 t559, .string t560] (0, 0) _ rfl (by (with_reducible repeat (first | refine blk_drewN ?_ _ | refine blk_drew ?_ | refine blk_alloc ?_ _)); refine blk_put (cs := #[.int .i64 t558, .int .i64 t559, .string (⟨#[]⟩ : ByteArray)]) ?_ 2 _ rfl; (with_reducible repeat (first | refine blk_drewN ?_ _ | refine blk_drew ?_ | refine blk_alloc ?_ _)); refine blk_put (cs := #[.int .i64 t558, .int .i64 0, .string (⟨#[]⟩ : ByteArray)]) ?_ 1 _ rfl; (with_reducible repeat (first | refine blk_drewN ?_ _ | refine blk_drew ?_ | refine blk_alloc ?_ _)); refine blk_put (cs := #[.int .i64 0, .int .i64 0, .string (⟨#[]⟩ : ByteArray)]) ?_ 0 _ rfl; (with_reducible repeat (first | refine blk_drewN ?_ _ | refine blk_drew ?_ | refine blk_alloc ?_ _)); exact BK557.out) Tryd.underlying25 rfl (by kernel_rfl)) rfl ?_
    exact ⟨by first | rfl | (simp [errW_none, errW_some] <;> rfl) | (simp [*, errW_none, errW_some] <;> rfl), by repeat (first | (with_reducible first | exact HB.out | apply below_alloc | apply pw_below_drewN | apply below_drew1 | refine below_set ?_ GE557.out | refine below_set ?_ GE563.out) | exact HB.out)⟩
  ·rw [if_neg c10] at H
   have c10b0 : (t562 == 0) = false := beq_eq_false_iff_ne.mpr c10
   have c10b1 : (t562 != 0) = true := bne_iff_ne.mpr c10
   simp only [Option.some.injEq, Prod.mk.injEq] at H
   obtain ⟨rfl, rfl, rfl, rfl, rfl⟩ := H
   go_enter Tryd.func91, Tryd.ntmps91
   go_wp2_with (first | ((with_reducible refine gate_dst (N := 2) rfl ?_); refine box_event ?hg (N := 2) ?hd (cs := #[.int .i64 0, .int .i64 0, .string (⟨#[]⟩ : ByteArray)]) (t := 25) ?hr ?_; (case hd => rfl); (case hg => rfl); (case hr => first | (go_simp; done) | (go_simp; rfl)); intro gb557 hg w28 hbox hb; have n0_ := Aside0.mk (below_step bwA hb); have n1_ := Aside0.mk (hbox); have n2_ := Aside0.mk ((by rw [hg]; exact (below_size bwA) : w.heap.size ≤ gb557)); have n3_ := Aside0.mk ((by rw [hg]; exact (below_size bwA) : w.heap.size ≤ gb557)); clear HB; have HB := n0_; have BK557 := n1_; have GW557 := n2_; have GE557 := n3_; clear n0_ n1_ n2_ n3_; clear hb hbox hg) | ((with_reducible refine gate_callee (f := 17) rfl ?_); refine goesA (some 10) Tryd.func17 #[.string a0] ?_; (with_reducible refine (value_Scan.calls k a0 t558 t559 t560 t561 t562 _ ?side1 A2.out).mono ?_); (case side1 => exact Tabs.below HT.out bwA); rintro e w29 ⟨rfl, hb⟩; refine ⟨_, rfl, ?_⟩; have n0_ := Aside0.mk (blk_below (g := gb557) (o := .cells #[.int .i64 0, .int .i64 0, .string (⟨#[]⟩ : ByteArray)] 25 (0, 0)) blkA hb); have n1_ := Aside0.mk (below_step bwA hb); clear BK557; clear HB; have BK557 := n0_; have HB := n1_; clear n0_ n1_; (try clear hb); (try clear hb2); (try clear hk); (try clear hi)) | ((with_reducible refine gate_dst (N := 5) rfl ?_); refine box_event ?hg (N := 5) ?hd (cs := #[.int .i64 0, .int .i64 0, .string (⟨#[]⟩ : ByteArray)]) (t := 25) ?hr ?_; (case hd => rfl); (case hg => rfl); (case hr => first | (go_simp; done) | (go_simp; rfl)); intro gb563 hg w30 hbox hb; have n0_ := Aside0.mk (blk_below (g := gb557) (o := .cells #[.int .i64 0, .int .i64 0, .string (⟨#[]⟩ : ByteArray)] 25 (0, 0)) blkA hb); have n1_ := Aside0.mk (below_step bwA hb); have n2_ := Aside0.mk (hbox); have n3_ := Aside0.mk ((by rw [hg]; exact (below_size bwA) : w.heap.size ≤ gb563)); have n4_ := Aside0.mk ((by rw [hg]; exact (below_size bwA) : w.heap.size ≤ gb563)); have n5_ := Aside0.mk ((by rw [hg]; exact Nat.ne_of_lt (blk_lt (g := gb557) (o := .cells #[.int .i64 0, .int .i64 0, .string (⟨#[]⟩ : ByteArray)] 25 (0, 0)) blkA) : gb557 ≠ gb563)); have n6_ := Aside0.mk ((by rw [hg]; exact Nat.ne_of_gt (blk_lt (g := gb557) (o := .cells #[.int .i64 0, .int .i64 0, .string (⟨#[]⟩ : ByteArray)] 25 (0, 0)) blkA) : gb563 ≠ gb557)); clear BK557; clear HB; have BK557 := n0_; have HB := n1_; have BK563 := n2_; have GW563 := n3_; have GE563 := n4_; have NB557_563 := n5_; have NB563_557 := n6_; clear n0_ n1_ n2_ n3_ n4_ n5_ n6_; clear hb hbox hg; have hnb31 := NB563_557.out; have hnc31 := NB557_563.out; have hcz32_0 : w30.cell? ⟨gb563, 0, none⟩ = some (.int .i64 0) := (blk_cell BK563.out 0).trans rfl; have hcz32_1 : w30.cell? ⟨gb563, 1, none⟩ = some (.int .i64 0) := (blk_cell BK563.out 1).trans rfl; have hcz32_2 : w30.cell? ⟨gb563, 2, none⟩ = some (.string (⟨#[]⟩ : ByteArray)) := (blk_cell BK563.out 2).trans rfl; have hfz32_0 := blk_frozen BK563.out 0; have hfz32_1 := blk_frozen BK563.out 1; have hfz32_2 := blk_frozen BK563.out 2; have hcz33_0 : w30.cell? ⟨gb557, 0, none⟩ = some (.int .i64 0) := (blk_cell BK557.out 0).trans rfl; have hcz33_1 : w30.cell? ⟨gb557, 1, none⟩ = some (.int .i64 0) := (blk_cell BK557.out 1).trans rfl; have hcz33_2 : w30.cell? ⟨gb557, 2, none⟩ = some (.string (⟨#[]⟩ : ByteArray)) := (blk_cell BK557.out 2).trans rfl; have hfz33_0 := blk_frozen BK557.out 0; have hfz33_1 := blk_frozen BK557.out 1; have hfz33_2 := blk_frozen BK557.out 2))
   refine bodyPost_ret (results_ctt rfl _ _ gb557 25 #[.int .i64 0, .int .i64 0, .string (⟨#[]⟩ : ByteArray)] (0, 0) _ rfl (by (with_reducible repeat (first | refine blk_drewN ?_ _ | refine blk_drew ?_ | refine blk_alloc ?_ _)); refine blk_put (cs := #[.int .i64 0, .int .i64 0, .string (⟨#[]⟩ : ByteArray)]) ?_ 2 _ rfl; (with_reducible repeat (first | refine blk_drewN ?_ _ | refine blk_drew ?_ | refine blk_alloc ?_ _)); refine blk_put (cs := #[.int .i64 0, .int .i64 0, .string (⟨#[]⟩ : ByteArray)]) ?_ 1 _ rfl; (with_reducible repeat (first | refine blk_drewN ?_ _ | refine blk_drew ?_ | refine blk_alloc ?_ _)); refine blk_put (cs := #[.int .i64 0, .int .i64 0, .string (⟨#[]⟩ : ByteArray)]) ?_ 0 _ rfl; (with_reducible repeat (first | refine blk_drewN ?_ _ | refine blk_drew ?_ | refine blk_alloc ?_ _)); refine blk_far ?_ NB557_563.out _; (with_reducible repeat (first | refine blk_drewN ?_ _ | refine blk_drew ?_ | refine blk_alloc ?_ _)); refine blk_far ?_ NB557_563.out _; (with_reducible repeat (first | refine blk_drewN ?_ _ | refine blk_drew ?_ | refine blk_alloc ?_ _)); refine blk_far ?_ NB557_563.out _; (with_reducible repeat (first | refine blk_drewN ?_ _ | refine blk_drew ?_ | refine blk_alloc ?_ _)); exact BK557.out) Tryd.underlying25 rfl (by kernel_rfl)) rfl ?_
   exact ⟨by first | rfl | (simp [errW_none, errW_some] <;> rfl) | (simp [*, errW_none, errW_some] <;> rfl), by repeat (first | (with_reducible first | exact HB.out | apply below_alloc | apply pw_below_drewN | apply below_drew1 | refine below_set ?_ GE557.out | refine below_set ?_ GE563.out) | exact HB.out)⟩

/-! ### lex_word: function 92, by hand -/
def lex_word.st (k : Nat) (pos : Nat) (c : Int) : Option Bool :=
 if pos = 0 then (name_Letter.f k c).bind fun t => if t = true then (lex_goes.f k c).bind fun g => some (!g) else if c = 95 then (lex_goes.f k c).bind fun g => some (!g) else some true
 else (lex_goes.f k c).bind fun g => some (!g)
def lex_word.go (k : Nat) (s : ByteArray) : Nat → Nat → Option Int
 | 0, _ => none
 | f + 1, pos => if pos < s.size then (lex_word.st k pos ((Utf8.decode s pos).1 : Int)).bind fun t => if t = true then some (pos : Int) else lex_word.go k s f (pos + (Utf8.decode s pos).2) else some (s.size : Int)
def lex_word.f (k : Nat) (a0 : ByteArray) : Option Int := if a0.size ≤ 1099511627776 then lex_word.go k a0 (a0.size + 1) 0 else none
theorem lex_word.mono_st (k : Nat) (pos : Nat) (c : Int) : LeO (lex_word.st k pos c) (lex_word.st (k + 1) pos c) := by
 unfold lex_word.st
 repeat' first
  | (with_reducible exact LeO.refl _)
  | (with_reducible exact name_Letter.mono _ _)
  | (with_reducible exact lex_goes.mono _ _)
  | (with_reducible refine LeO.ite ?_ ?_)
  | (with_reducible refine LeO.bind ?_ (fun _ => ?_))
theorem lex_word.mono_go (k : Nat) (s : ByteArray) : ∀ f pos, LeO (lex_word.go k s f pos) (lex_word.go (k + 1) s f pos)
 | 0, _ => fun r h => by simp [lex_word.go] at h
 | f + 1, pos => by
  unfold lex_word.go
  repeat' first
   | (with_reducible exact LeO.refl _)
   | (with_reducible exact lex_word.mono_st _ _ _)
   | exact lex_word.mono_go k s f _
   | (with_reducible refine LeO.ite ?_ ?_)
   | (with_reducible refine LeO.bind ?_ (fun _ => ?_))
theorem lex_word.mono : ∀ a0 k, LeO (lex_word.f k a0) (lex_word.f (k + 1) a0) := by
 intro a0 k
 unfold lex_word.f
 repeat' first
  | exact lex_word.mono_go k a0 _ _
  | exact LeO.none _
  | refine LeO.ite ?_ ?_
set_option maxHeartbeats 4000000 in
set_option maxRecDepth 100000 in
theorem lex_word.calls (k : Nat) (a0 : ByteArray) (r : Int) (w : World) (h : lex_word.f k a0 = some r) :
  Calls Tryd.prog 92 #[.string a0] w fun e w' => e = .returned (.int .i64 r) ∧ Below w.heap.size w w' := by
 unfold lex_word.f at h
 split at h
 ·rename_i hs
  have H := Lib.hid h
  clear h
  go_enter Tryd.func92, Tryd.ntmps92
  go_wp2_with fail
  go_loopw [] (fun wr => ∃ (pos fuel : Nat), wr.heap[w.heap.size]? = some (.stringIter a0 pos) ∧ Below w.heap.size w wr ∧ Hid (lex_word.go k a0 fuel pos = some r)) (fun wr => a0.size - wr.iterPos w.heap.size)
  case atStart => exact ⟨0, _, World.iter_heap w a0 0, (Below.refl _ w).alloc (Nat.le_refl _) _, H⟩
  case round =>
   obtain ⟨pos, fuel, hit, hbw, HG⟩ := hrel
   clear H
   have hsz : w.heap.size < wr.heap.size := (Array.getElem?_eq_some_iff.1 hit).1
   cases fuel with
   | zero => exact absurd HG.out (by simp [lex_word.go])
   | succ f =>
    have hgo := HG.out
    clear HG
    unfold lex_word.go at hgo
    by_cases hp : pos < a0.size
    ·rw [if_pos hp] at hgo
     have hnx : ∀ ty, (Instr.next (.pointer (some ⟨w.heap.size, 0, none⟩)) true ty).run Tryd.prog wr = _ := fun ty => Lib.run_next_any_at wr w.heap.size a0 pos ty hit hp
     have hwd := Lib.width_pos a0 pos
     have hd1 := decode_le a0 pos
     have hit2 := Lib.iterAt_heap wr w.heap.size a0 pos (pos + (Utf8.decode a0 pos).2) hit
     have hbw2 := Lib.below_iterAt hbw (k := w.heap.size) (Nat.le_refl _) a0 (pos + (Utf8.decode a0 pos).2)
     obtain ⟨t, hst, hgo⟩ := Option.bind_eq_some_iff.1 hgo
     unfold lex_word.st at hst
     have hL := fun t h W => name_Letter.calls k ((Utf8.decode a0 pos).1 : Int) t W h
     have hG := fun t h W => lex_goes.calls k ((Utf8.decode a0 pos).1 : Int) t W h
     generalize hc : (((Utf8.decode a0 pos).1 : Nat) : Int) = c at hst hL hG hnx
     have Hc := Lib.hid hc
     clear hc
     have e10 : t = true → r = (pos : Int) := fun e => by rw [if_pos e] at hgo; exact (Option.some.inj hgo).symm
     have e20 : t = false → lex_word.go k a0 f (pos + (Utf8.decode a0 pos).2) = some r := fun e => by rw [if_neg (by rw [e]; decide)] at hgo; exact hgo
     have E1 := Lib.hid e10
     have E2 := Lib.hid e20
     clear hgo e10 e20
     have Hwd := Lib.hid hwd
     have Hd1 := Lib.hid hd1
     clear hwd hd1
     by_cases e0 : pos = 0
     ·rw [if_pos e0] at hst
      have b0 : ((pos : Int) == 0) = true := by rw [e0]; rfl
      clear e0
      obtain ⟨l, hl, hst⟩ := Option.bind_eq_some_iff.1 hst
      cases l with
      | true =>
       rw [if_pos rfl] at hst
       obtain ⟨g, hg, hst⟩ := Option.bind_eq_some_iff.1 hst
       obtain rfl := Option.some.inj hst
       have cL := hL true hl
       cases g with
       | true =>
        have cG := hG true hg
        have e2 := E2.out rfl
        have HE := Lib.hid e2
        clear hL hG hst hl hg E1 E2 e2
        go_wp2_with (first | (go_at_call 117; refine (cL _).mono ?_; rintro e w1 ⟨rfl, ⟨n1, rfl⟩⟩) | (go_at_call 121; refine (cG _).mono ?_; rintro e w1 ⟨rfl, ⟨n2, rfl⟩⟩))
        go_roundw
        case rel => exact ⟨_, f, hit2, (by repeat (first | exact hbw2 | apply pw_below_drewN)), HE⟩
        case measure =>
         have hwd := Hwd.out
         have hd1 := Hd1.out
         have hm : ∀ (X : World) n b, (X.drewN n).iterPos b = X.iterPos b := fun _ _ _ => rfl
         simp only [hm]; simp only [World.iterPos, hit2, hit]
         omega
       | false =>
        have cG := hG false hg
        obtain rfl := E1.out rfl
        clear hL hG hst hl hg E1 E2
        go_wp2_with (first | (go_at_call 117; refine (cL _).mono ?_; rintro e w1 ⟨rfl, ⟨n1, rfl⟩⟩) | (go_at_call 121; refine (cG _).mono ?_; rintro e w1 ⟨rfl, ⟨n2, rfl⟩⟩))
        go_ret
        exact ⟨rfl, (by repeat (first | exact hbw2 | apply pw_below_drewN))⟩
      | false =>
       rw [if_neg (by decide)] at hst
       have cL := hL false hl
       by_cases c95 : c = 95
       ·rw [if_pos c95] at hst
        have b1 : (c != 95) = false := bne_eq_false_iff_eq.2 c95
        obtain ⟨g, hg, hst⟩ := Option.bind_eq_some_iff.1 hst
        obtain rfl := Option.some.inj hst
        clear c95
        cases g with
        | true =>
         have cG := hG true hg
         have e2 := E2.out rfl
         have HE := Lib.hid e2
         clear hL hG hst hl hg E1 E2 e2
         go_wp2_with (first | (go_at_call 117; refine (cL _).mono ?_; rintro e w1 ⟨rfl, ⟨n1, rfl⟩⟩) | (go_at_call 121; refine (cG _).mono ?_; rintro e w1 ⟨rfl, ⟨n2, rfl⟩⟩))
         go_roundw
         case rel => exact ⟨_, f, hit2, (by repeat (first | exact hbw2 | apply pw_below_drewN)), HE⟩
         case measure =>
          have hwd := Hwd.out
          have hd1 := Hd1.out
          have hm : ∀ (X : World) n b, (X.drewN n).iterPos b = X.iterPos b := fun _ _ _ => rfl
          simp only [hm]; simp only [World.iterPos, hit2, hit]
          omega
        | false =>
         have cG := hG false hg
         obtain rfl := E1.out rfl
         clear hL hG hst hl hg E1 E2
         go_wp2_with (first | (go_at_call 117; refine (cL _).mono ?_; rintro e w1 ⟨rfl, ⟨n1, rfl⟩⟩) | (go_at_call 121; refine (cG _).mono ?_; rintro e w1 ⟨rfl, ⟨n2, rfl⟩⟩))
         go_ret
         exact ⟨rfl, (by repeat (first | exact hbw2 | apply pw_below_drewN))⟩
       ·rw [if_neg c95] at hst
        obtain rfl := Option.some.inj hst
        have b1 : (c != 95) = true := bne_iff_ne.2 c95
        obtain rfl := E1.out rfl
        clear hL hG hst hl E1 E2 c95
        go_wp2_with (first | (go_at_call 117; refine (cL _).mono ?_; rintro e w1 ⟨rfl, ⟨n1, rfl⟩⟩))
        go_ret
        exact ⟨rfl, (by repeat (first | exact hbw2 | apply pw_below_drewN))⟩
     ·rw [if_neg e0] at hst
      have b0 : ((pos : Int) == 0) = false := beq_eq_false_iff_ne.2 (by omega)
      obtain ⟨g, hg, hst⟩ := Option.bind_eq_some_iff.1 hst
      obtain rfl := Option.some.inj hst
      clear e0
      cases g with
      | true =>
       have cG := hG true hg
       have e2 := E2.out rfl
       have HE := Lib.hid e2
       clear hL hG hst hg E1 E2 e2
       go_wp2_with (first | (go_at_call 121; refine (cG _).mono ?_; rintro e w1 ⟨rfl, ⟨n2, rfl⟩⟩))
       go_roundw
       case rel => exact ⟨_, f, hit2, (by repeat (first | exact hbw2 | apply pw_below_drewN)), HE⟩
       case measure =>
        have hwd := Hwd.out
        have hd1 := Hd1.out
        have hm : ∀ (X : World) n b, (X.drewN n).iterPos b = X.iterPos b := fun _ _ _ => rfl
        simp only [hm]; simp only [World.iterPos, hit2, hit]
        omega
      | false =>
       have cG := hG false hg
       obtain rfl := E1.out rfl
       clear hL hG hst hg E1 E2
       go_wp2_with (first | (go_at_call 121; refine (cG _).mono ?_; rintro e w1 ⟨rfl, ⟨n2, rfl⟩⟩))
       go_ret
       exact ⟨rfl, (by repeat (first | exact hbw2 | apply pw_below_drewN))⟩
    ·rw [if_neg hp] at hgo
     obtain rfl := Option.some.inj hgo
     have hnx : ∀ ty, (Instr.next (.pointer (some ⟨w.heap.size, 0, none⟩)) true ty).run Tryd.prog wr = _ := fun ty => Lib.run_next_end_at wr w.heap.size a0 pos ty hit hp
     go_wp2
     go_ret
     exact ⟨rfl, hbw⟩
 ·cases h

/-! ### lex_mark: function 93 -/
def lex_mark.l0 : Nat → ByteArray → List ByteArray → Int → Int → Option (Int)
 | 0, _, _, _, _ => none
 | k + 1, x0, x5, x6, x7 => if x7 < x6 then (if 0 ≤ x7 then (if x7 < (x5.length : Int) then ((strings_HasPrefix.f x0 (rdOf ByteArray.empty x5 x7)).bind fun t569 => (if t569 = true then (some ((rdOf ByteArray.empty x5 x7).size : Int)) else (lex_mark.l0 k x0 x5 x6 (wrap64 (x7 + 1))))) else (none)) else (none)) else (some 0)
def lex_mark.f (k : Nat) (a0 : ByteArray) : Option (Int) := (some (([(⟨#[33, 61]⟩ : ByteArray), (⟨#[60, 61]⟩ : ByteArray), (⟨#[62, 61]⟩ : ByteArray), (⟨#[61]⟩ : ByteArray), (⟨#[60]⟩ : ByteArray), (⟨#[62]⟩ : ByteArray), (⟨#[123]⟩ : ByteArray), (⟨#[125]⟩ : ByteArray), (⟨#[40]⟩ : ByteArray), (⟨#[41]⟩ : ByteArray), (⟨#[44]⟩ : ByteArray)] : List ByteArray) : List ByteArray)).bind fun y565 => (lex_mark.l0 k a0 y565 (y565.length : Int) 0)
theorem lex_mark.mono_l : ∀ k, (∀ y0 y1 y2 y3, LeO (lex_mark.l0 k y0 y1 y2 y3) (lex_mark.l0 (k + 1) y0 y1 y2 y3))
 | 0 => fun _ _ _ _ r h => by simp [lex_mark.l0] at h
 | k + 1 => by
  have ih0 := lex_mark.mono_l k
  ·intro y0 y1 y2 y3
   unfold lex_mark.l0
   repeat' first
   | (with_reducible exact ih0 _ _ _ _)
   | (with_reducible exact LeO.refl _)
   | (with_reducible exact LeO.none _)
   | (with_reducible refine LeO.ite ?_ ?_)
   | (with_reducible refine LeO.bind ?_ (fun _ => ?_))
   | exact ih0 _ _ _ _
   | exact LeO.none _
   | refine LeO.ite ?_ ?_
   | refine LeO.bind ?_ (fun _ => ?_)
theorem lex_mark.mono : ∀ a0 k, LeO (lex_mark.f k a0) (lex_mark.f (k + 1) a0) := by
 intro a0 k
 have ih0 := lex_mark.mono_l k
 unfold lex_mark.f
 repeat' first
   | (with_reducible exact ih0 _ _ _ _)
   | (with_reducible exact LeO.refl _)
   | (with_reducible exact LeO.none _)
   | (with_reducible refine LeO.ite ?_ ?_)
   | (with_reducible refine LeO.bind ?_ (fun _ => ?_))
   | exact ih0 _ _ _ _
   | exact LeO.none _
   | refine LeO.ite ?_ ?_
   | refine LeO.bind ?_ (fun _ => ?_)
set_option maxHeartbeats 8000000 in
set_option maxRecDepth 100000 in
theorem lex_mark.calls (k : Nat) (a0 : ByteArray) (r : Int) (w : World) (h : lex_mark.f k a0 = some r) :
  Calls Tryd.prog 93 #[.string a0] w fun e w' => e = .returned (.int .i64 r) ∧ Below w.heap.size w w' := by
 have HB := Aside0.mk (Below.refl w.heap.size w)
 have H : ((some (([(⟨#[33, 61]⟩ : ByteArray), (⟨#[60, 61]⟩ : ByteArray), (⟨#[62, 61]⟩ : ByteArray), (⟨#[61]⟩ : ByteArray), (⟨#[60]⟩ : ByteArray), (⟨#[62]⟩ : ByteArray), (⟨#[123]⟩ : ByteArray), (⟨#[125]⟩ : ByteArray), (⟨#[40]⟩ : ByteArray), (⟨#[41]⟩ : ByteArray), (⟨#[44]⟩ : ByteArray)] : List ByteArray) : List ByteArray)).bind fun y565 => (lex_mark.l0 k a0 y565 (y565.length : Int) 0)) = some r := h
 clear h
 obtain ⟨y565, hy565⟩ : ∃ y_ : List ByteArray, y_ = (([(⟨#[33, 61]⟩ : ByteArray), (⟨#[60, 61]⟩ : ByteArray), (⟨#[62, 61]⟩ : ByteArray), (⟨#[61]⟩ : ByteArray), (⟨#[60]⟩ : ByteArray), (⟨#[62]⟩ : ByteArray), (⟨#[123]⟩ : ByteArray), (⟨#[125]⟩ : ByteArray), (⟨#[40]⟩ : ByteArray), (⟨#[41]⟩ : ByteArray), (⟨#[44]⟩ : ByteArray)] : List ByteArray)) := ⟨_, rfl⟩
 replace H : (lex_mark.l0 k a0 y565 (y565.length : Int) 0) = some r := by first | (rw [hy565]; with_reducible exact H) | (have H2_ := (Option.bind_some _ _).symm.trans H; rw [hy565]; with_reducible exact H2_) | (have H2_ := (Option.bind_some _ _).symm.trans H; with_reducible exact H2_) | with_reducible exact H | (rw [hy565]; exact H) | exact H
 have Ny565 := Aside0.mk hy565
 clear hy565
 have H' := Aside0.mk H
 clear H
 go_enter Tryd.func93, Tryd.ntmps93
 go_wp2_with (first | ((with_reducible refine gate_dst (N := 5) rfl ?_); refine Kd.R_lit Kd.string _ 9 ?hg (N := 5) ?hd (xs := ([(⟨#[33, 61]⟩ : ByteArray), (⟨#[60, 61]⟩ : ByteArray), (⟨#[62, 61]⟩ : ByteArray), (⟨#[61]⟩ : ByteArray), (⟨#[60]⟩ : ByteArray), (⟨#[62]⟩ : ByteArray), (⟨#[123]⟩ : ByteArray), (⟨#[125]⟩ : ByteArray), (⟨#[40]⟩ : ByteArray), (⟨#[41]⟩ : ByteArray), (⟨#[44]⟩ : ByteArray)] : List ByteArray)) (inner := [.string (⟨#[33, 61]⟩ : ByteArray), .string (⟨#[60, 61]⟩ : ByteArray), .string (⟨#[62, 61]⟩ : ByteArray), .string (⟨#[61]⟩ : ByteArray), .string (⟨#[60]⟩ : ByteArray), .string (⟨#[62]⟩ : ByteArray), .string (⟨#[123]⟩ : ByteArray), .string (⟨#[125]⟩ : ByteArray), .string (⟨#[40]⟩ : ByteArray), .string (⟨#[41]⟩ : ByteArray), .string (⟨#[44]⟩ : ByteArray)]) (ok := fun _ => True) (okp := fun _ => True) ?hr ?hp (fun _ hk => hk) trivial (Below.refl _ _) (Nat.le_refl _) (by simp) ?_; (case hd => rfl); (case hg => rfl); (case hr => first | (go_simp; done) | (go_simp; rfl)); (case hp => exact (Reps.one (show Kd.M Kd.string _ _ _ (⟨#[33, 61]⟩ : ByteArray) [.string (⟨#[33, 61]⟩ : ByteArray)] from rfl) (Reps.one (show Kd.M Kd.string _ _ _ (⟨#[60, 61]⟩ : ByteArray) [.string (⟨#[60, 61]⟩ : ByteArray)] from rfl) (Reps.one (show Kd.M Kd.string _ _ _ (⟨#[62, 61]⟩ : ByteArray) [.string (⟨#[62, 61]⟩ : ByteArray)] from rfl) (Reps.one (show Kd.M Kd.string _ _ _ (⟨#[61]⟩ : ByteArray) [.string (⟨#[61]⟩ : ByteArray)] from rfl) (Reps.one (show Kd.M Kd.string _ _ _ (⟨#[60]⟩ : ByteArray) [.string (⟨#[60]⟩ : ByteArray)] from rfl) (Reps.one (show Kd.M Kd.string _ _ _ (⟨#[62]⟩ : ByteArray) [.string (⟨#[62]⟩ : ByteArray)] from rfl) (Reps.one (show Kd.M Kd.string _ _ _ (⟨#[123]⟩ : ByteArray) [.string (⟨#[123]⟩ : ByteArray)] from rfl) (Reps.one (show Kd.M Kd.string _ _ _ (⟨#[125]⟩ : ByteArray) [.string (⟨#[125]⟩ : ByteArray)] from rfl) (Reps.one (show Kd.M Kd.string _ _ _ (⟨#[40]⟩ : ByteArray) [.string (⟨#[40]⟩ : ByteArray)] from rfl) (Reps.one (show Kd.M Kd.string _ _ _ (⟨#[41]⟩ : ByteArray) [.string (⟨#[41]⟩ : ByteArray)] from rfl) (Reps.one (show Kd.M Kd.string _ _ _ (⟨#[44]⟩ : ByteArray) [.string (⟨#[44]⟩ : ByteArray)] from rfl) (Reps.none _ _))))))))))))); intro v566 w2 ho3 hb hg_ hnew_; clear hg_ hnew_; (first | rw [← Ny565.out] at ho3 | (simp only [Int.reduceToNat] at ho3; rw [← Ny565.out] at ho3)); have n0_ := Aside0.mk (Kd.R_lower ho3 (below_size bwA)); have n1_ := Aside0.mk (below_step bwA hb); clear HB; have HO567 := n0_; have HB := n1_; clear n0_ n1_; clear hb ho3; obtain ⟨Ao4, co4, eo4⟩ := Kd.R_slice HO567.out; subst eo4))
 go_loopg [7] k (fun kq v7 w' => ∃ (x7_1 : Int), v7 = .int .i64 x7_1 ∧ Aside0 (lex_mark.l0 kq a0 y565 (y565.length : Int) x7_1 = some r) ∧ Aside0 (kq ≤ k) ∧ Aside0 (Kd.R Kd.string 9 w' w.heap.size (fun _ => True) (.slice Ao4 y565.length co4) y565) ∧ Aside0 (Below w.heap.size w w'))
 case atStart => exact ⟨(0), (by first | rfl | (simp; done) | (simp [*]; done)), H', ⟨Nat.le_refl _⟩, ⟨by (with_reducible repeat (first | apply Kd.R_alloc | apply Kd.R_drewN | apply Kd.R_drew)); exact HO567.out⟩, ⟨by repeat (first | (with_reducible first | exact HB.out | apply below_alloc | apply pw_below_drewN | apply below_drew1) | exact HB.out)⟩⟩
 case round =>
  clear H'
  try clear p2
  obtain ⟨x7_1, rfl, HA, HK1, HO_5, HB⟩ := hrel
  cases gk with
  | zero => exact absurd HA.out (by simp [lex_mark.l0])
  | succ k1 =>
   have H := HA.out
   clear HA
   simp only [lex_mark.l0] at H
   by_cases c5 : x7_1 < (y565.length : Int)
   ·rw [if_pos c5] at H
    have c5b0 : decide (x7_1 < (y565.length : Int)) = true := decide_eq_true c5
    clear c5
    by_cases c6 : 0 ≤ x7_1
    ·rw [if_pos c6] at H
     have c6b0 : decide (0 ≤ x7_1) = true := decide_eq_true c6
     clear c6
     by_cases c7 : x7_1 < (y565.length : Int)
     ·rw [if_pos c7] at H
      have c7b0 : decide (x7_1 < (y565.length : Int)) = true := decide_eq_true c7
      clear c7
      replace H := Option.bind_eq_some_iff.mp H
      obtain ⟨t569, A80, H⟩ := H
      replace H : (if t569 = true then (some ((rdOf ByteArray.empty y565 x7_1).size : Int)) else (lex_mark.l0 k1 a0 y565 (y565.length : Int) (wrap64 (x7_1 + 1)))) = some r := H
      have A8 := Aside0.mk A80
      clear A80
      by_cases c9 : t569 = true
      ·subst c9
       have H1 : (some ((rdOf ByteArray.empty y565 x7_1).size : Int)) = some r := by rw [if_pos rfl] at H; exact H
       clear H
       have H := H1
       clear H1
       obtain rfl := Option.some.inj H
       have p568 : 0 ≤ (x7_1 : Int) := of_decide_eq_true (by first | (with_reducible assumption) | assumption)
       have q568 : x7_1 < (y565.length : Int) := of_decide_eq_true (by first | (with_reducible assumption) | assumption)
       obtain ⟨ad568, e568, hx568_0⟩ := Kd.at_string (Kd.R_reads' HO_5.out).2.2 x7_1 p568 q568
       cases e568
       replace p568 := eq_true p568
       replace q568 := eq_true q568
       go_wp2_with (first | ((with_reducible refine gate_callee (f := 42) rfl ?_); refine goesA (some 13) Tryd.func42 #[.string a0, .string (rdOf ByteArray.empty y565 x7_1)] ?_; (with_reducible refine (strings_HasPrefix.calls a0 (rdOf ByteArray.empty y565 x7_1) true _ A8.out).mono ?_); rintro e w' ⟨rfl, ⟨nd, rfl⟩⟩; refine ⟨_, rfl, ?_⟩))
       go_ret
       exact ⟨by first | rfl | (simp [errW_none, errW_some] <;> rfl) | (simp [*, errW_none, errW_some] <;> rfl), by repeat (first | (with_reducible first | exact HB.out | apply below_alloc | apply pw_below_drewN | apply below_drew1) | exact HB.out)⟩
      ·replace c9 := Bool.eq_false_iff.mpr c9
       subst c9
       have H1 : (lex_mark.l0 k1 a0 y565 (y565.length : Int) (wrap64 (x7_1 + 1))) = some r := by rw [if_neg (show ¬ (false = true) by decide)] at H; exact H
       clear H
       have H := H1
       clear H1
       have H' := Aside0.mk H
       clear H
       have p568 : 0 ≤ (x7_1 : Int) := of_decide_eq_true (by first | (with_reducible assumption) | assumption)
       have q568 : x7_1 < (y565.length : Int) := of_decide_eq_true (by first | (with_reducible assumption) | assumption)
       obtain ⟨ad568, e568, hx568_0⟩ := Kd.at_string (Kd.R_reads' HO_5.out).2.2 x7_1 p568 q568
       cases e568
       replace p568 := eq_true p568
       replace q568 := eq_true q568
       go_wp2_with (first | ((with_reducible refine gate_callee (f := 42) rfl ?_); refine goesA (some 13) Tryd.func42 #[.string a0, .string (rdOf ByteArray.empty y565 x7_1)] ?_; (with_reducible refine (strings_HasPrefix.calls a0 (rdOf ByteArray.empty y565 x7_1) false _ A8.out).mono ?_); rintro e w' ⟨rfl, ⟨nd, rfl⟩⟩; refine ⟨_, rfl, ?_⟩))
       go_roundg k1
       case measure => have := HK1.out; omega
       case rel => exact ⟨(wrap64 (x7_1 + 1)), (by first | rfl | (simp; done) | (simp [*]; done)), H', ⟨by have := HK1.out; omega⟩, ⟨by (with_reducible repeat (first | apply Kd.R_alloc | apply Kd.R_drewN | apply Kd.R_drew)); exact HO_5.out⟩, ⟨by repeat (first | (with_reducible first | exact HB.out | apply below_alloc | apply pw_below_drewN | apply below_drew1) | exact HB.out)⟩⟩
     ·rw [if_neg c7] at H
      exact absurd H (by simp)
    ·rw [if_neg c6] at H
     exact absurd H (by simp)
   ·rw [if_neg c5] at H
    have c5b0 : decide (x7_1 < (y565.length : Int)) = false := decide_eq_false c5
    clear c5
    obtain rfl := Option.some.inj H
    go_wp2
    go_ret
    exact ⟨by first | rfl | (simp [errW_none, errW_some] <;> rfl) | (simp [*, errW_none, errW_some] <;> rfl), by repeat (first | (with_reducible first | exact HB.out | apply below_alloc | apply pw_below_drewN | apply below_drew1) | exact HB.out)⟩

end Go.Proofs.YtoajlmmkkcelgaaDoor.A
