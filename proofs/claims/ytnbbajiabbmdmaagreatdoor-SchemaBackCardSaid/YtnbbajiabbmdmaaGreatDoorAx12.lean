-- By drv.py, the session's own driver round the kit's print: the machine's side of the laws, function by function. Not trusted: Lean checks it.
import Derived.Test.YtnbbajiabbmdmaaGreatDoorAx0
import Derived.Test.YtnbbajiabbmdmaaGreatDoorAx5
import Derived.Test.YtnbbajiabbmdmaaGreatDoorAx7
import Derived.Test.YtnbbajiabbmdmaaGreatDoorAx10
import Derived.Test.YtnbbajiabbmdmaaGreatDoorAx11
namespace Go.Proofs.YtnbbajiabbmdmaaGreatDoor.A
open Go.RowKit Go.Proofs.YtnbbajiabbmdmaaGreatDoorW.PrintWords Go.Proofs.YtnbbajiabbmdmaaGreatDoorW.PrintLast Go.Proofs.YtnbbajiabbmdmaaGreatDoorW.PrintMore
attribute [local go_sem] max2_int min2_int max_two min_two max_three min_three max_four min_four   -- for this text's walks alone
set_option linter.unusedVariables false
set_option linter.unusedSimpArgs false

/-! ### schema_kind: function 58 -/
def schema_kind.l0 : Nat → ByteArray → Int → Option (Int)
 | 0, _, _ => none
 | k + 1, x0, x4 => if x4 < 5 then (if x0.toList = ([] : List UInt8) then (schema_kind.l0 k x0 (wrap64 (x4 + 1))) else ((schema_word.f x4).bind fun t181 => (if t181.toList = x0.toList then (some x4) else (schema_kind.l0 k x0 (wrap64 (x4 + 1)))))) else (some 0)
def schema_kind.f (k : Nat) (a0 : ByteArray) : Option (Int) := schema_kind.l0 k a0 0
theorem schema_kind.mono_l : ∀ k, (∀ y0 y1, LeO (schema_kind.l0 k y0 y1) (schema_kind.l0 (k + 1) y0 y1))
 | 0 => fun _ _ r h => by simp [schema_kind.l0] at h
 | k + 1 => by
  have ih0 := schema_kind.mono_l k
  ·intro y0 y1
   unfold schema_kind.l0
   repeat' first
   | (with_reducible exact ih0 _ _)
   | (with_reducible exact LeO.refl _)
   | (with_reducible exact LeO.none _)
   | (with_reducible refine LeO.ite ?_ ?_)
   | (with_reducible refine LeO.bind ?_ (fun _ => ?_))
   | exact ih0 _ _
   | exact LeO.none _
   | refine LeO.ite ?_ ?_
   | refine LeO.bind ?_ (fun _ => ?_)
theorem schema_kind.mono : ∀ a0 k, LeO (schema_kind.f k a0) (schema_kind.f (k + 1) a0) := by
 intro a0 k
 have ih0 := schema_kind.mono_l k
 unfold schema_kind.f
 repeat' first
   | (with_reducible exact ih0 _ _)
   | (with_reducible exact LeO.refl _)
   | (with_reducible exact LeO.none _)
   | (with_reducible refine LeO.ite ?_ ?_)
   | (with_reducible refine LeO.bind ?_ (fun _ => ?_))
   | exact ih0 _ _
   | exact LeO.none _
   | refine LeO.ite ?_ ?_
   | refine LeO.bind ?_ (fun _ => ?_)
set_option maxHeartbeats 8000000 in
set_option maxRecDepth 100000 in
theorem schema_kind.calls (k : Nat) (a0 : ByteArray) (r : Int) (w : World) (h : schema_kind.f k a0 = some r) :
  Calls Tryz.prog 58 #[.string a0] w fun e w' => e = .returned (.int .i64 r) ∧ Below w.heap.size w w' := by
 have HB := Aside0.mk (Below.refl w.heap.size w)
 have H : (schema_kind.l0 k a0 0) = some r := h
 clear h
 have H' := Aside0.mk H
 clear H
 go_enter Tryz.func58, Tryz.ntmps58
 go_wp2
 go_loopg [4] k (fun kq v4 w' => ∃ (x4_1 : Int), v4 = .int .i64 x4_1 ∧ Aside0 (schema_kind.l0 kq a0 x4_1 = some r) ∧ Aside0 (kq ≤ k) ∧ Aside0 (Below w.heap.size w w'))
 case atStart => exact ⟨(0), (endS), H', ⟨Nat.le_refl _⟩, ⟨bwA⟩⟩
 case round =>
  clear H'
  obtain ⟨x4_1, rfl, HA, HK1, HB⟩ := hrel
  cases gk with
  | zero => exact absurd HA.out (by simp [schema_kind.l0])
  | succ k1 =>
   have H := HA.out
   clear HA
   simp only [schema_kind.l0] at H
   by_cases c2 : x4_1 < 5
   ·rw [if_pos c2] at H
    have c2b0 : decide (x4_1 < 5) = true := decide_eq_true c2
    clear c2
    by_cases c3 : a0.toList = ([] : List UInt8)
    ·rw [if_pos c3] at H
     have c3b0 : (a0.toList == ([] : List UInt8)) = true := beq_iff_eq.mpr c3
     have c3b1 : (a0.toList != ([] : List UInt8)) = false := bne_eq_false_iff_eq.mpr c3
     clear c3
     have H' := Aside0.mk H
     clear H
     go_wp2
     go_roundg k1
     case measure => have := HK1.out; omega
     case rel => exact ⟨(wrap64 (x4_1 + 1)), (endS), H', ⟨by have := HK1.out; omega⟩, ⟨bwA⟩⟩
    ·rw [if_neg c3] at H
     have c3b0 : (a0.toList == ([] : List UInt8)) = false := beq_eq_false_iff_ne.mpr c3
     have c3b1 : (a0.toList != ([] : List UInt8)) = true := bne_iff_ne.mpr c3
     replace H := Option.bind_eq_some_iff.mp H
     obtain ⟨t181, A40, H⟩ := H
     replace H : (if t181.toList = a0.toList then (some x4_1) else (schema_kind.l0 k1 a0 (wrap64 (x4_1 + 1)))) = some r := H
     have A4 := Aside0.mk A40
     clear A40
     by_cases c5 : t181.toList = a0.toList
     ·rw [if_pos c5] at H
      have c5b0 : (t181.toList == a0.toList) = true := beq_iff_eq.mpr c5
      have c5b1 : (t181.toList != a0.toList) = false := bne_eq_false_iff_eq.mpr c5
      clear c5
      obtain rfl := Option.some.inj H
      go_wp2_with (first | (go_at_call 73; (with_reducible refine (schema_word.calls x4_1 t181 _ A4.out).mono ?_); rintro e w6 ⟨rfl, hb⟩; have n0_ := Aside0.mk (below_step (bwA) hb); clear HB; have HB := n0_; clear n0_; (try clear hb); (try clear hb2); (try clear hk); (try clear hi)))
      go_ret
      exact ⟨endA, bwA⟩
     ·rw [if_neg c5] at H
      have c5b0 : (t181.toList == a0.toList) = false := beq_eq_false_iff_ne.mpr c5
      have c5b1 : (t181.toList != a0.toList) = true := bne_iff_ne.mpr c5
      have H' := Aside0.mk H
      clear H
      go_wp2_with (first | (go_at_call 73; (with_reducible refine (schema_word.calls x4_1 t181 _ A4.out).mono ?_); rintro e w7 ⟨rfl, hb⟩; have n0_ := Aside0.mk (below_step (bwA) hb); clear HB; have HB := n0_; clear n0_; (try clear hb); (try clear hb2); (try clear hk); (try clear hi)))
      go_roundg k1
      case measure => have := HK1.out; omega
      case rel => exact ⟨(wrap64 (x4_1 + 1)), (endS), H', ⟨by have := HK1.out; omega⟩, ⟨bwA⟩⟩
   ·rw [if_neg c2] at H
    have c2b0 : decide (x4_1 < 5) = false := decide_eq_false c2
    clear c2
    obtain rfl := Option.some.inj H
    go_wp2
    go_ret
    exact ⟨endA, bwA⟩

/-! ### schema_Parse: function 24 -/
def schema_Parse.l0 : Nat → ByteArray → List (S62) → List ByteArray → Int → Int → Option ((List (S62)) × Int)
 | 0, _, _, _, _, _ => none
 | k + 1, x0, x4, x15, x16, x17 => if x17 < x16 then (if 0 ≤ x17 then (if x17 < (x15.length : Int) then ((strings_Cut.f (rdOf ByteArray.empty x15 x17) (⟨#[32]⟩ : ByteArray)).bind fun bt186 => ((strings_CutSuffix.f bt186.2.1 (⟨#[33]⟩ : ByteArray)).bind fun bt189 => ((schema_kind.f k bt189.1).bind fun t191 => (if x4.length < 4398046511104 then (schema_Parse.l0 k x0 (x4 ++ [(⟨bt186.1, t191, bt189.2⟩ : S62)]) x15 x16 (wrap64 (x17 + 1))) else (none))))) else (none)) else (none)) else ((schema_Show.f k x4).bind fun t195 => (if t195.toList = x0.toList then (if x0.toList = ([] : List UInt8) then (some (([] : List (S62)), 3)) else (some (x4, 0))) else (some (([] : List (S62)), 3))))
def schema_Parse.f (k : Nat) (a0 : ByteArray) : Option ((List (S62)) × Int) := if a0.toList = ([45] : List UInt8) then (some (([] : List (S62)), 0)) else ((strings_Split.f a0 (⟨#[44, 32]⟩ : ByteArray)).bind fun t182 => (schema_Parse.l0 k a0 ([] : List (S62)) t182 (t182.length : Int) 0))
theorem schema_Parse.mono_l : ∀ k, (∀ y0 y1 y2 y3 y4, LeO (schema_Parse.l0 k y0 y1 y2 y3 y4) (schema_Parse.l0 (k + 1) y0 y1 y2 y3 y4))
 | 0 => fun _ _ _ _ _ r h => by simp [schema_Parse.l0] at h
 | k + 1 => by
  have ih0 := schema_Parse.mono_l k
  ·intro y0 y1 y2 y3 y4
   unfold schema_Parse.l0
   repeat' first
   | (with_reducible exact ih0 _ _ _ _ _)
   | (with_reducible exact schema_Show.mono _ _)
   | (with_reducible exact schema_kind.mono _ _)
   | (with_reducible exact LeO.refl _)
   | (with_reducible exact LeO.none _)
   | (with_reducible refine LeO.ite ?_ ?_)
   | (with_reducible refine LeO.bind ?_ (fun _ => ?_))
   | exact ih0 _ _ _ _ _
   | exact schema_Show.mono _ _
   | exact schema_kind.mono _ _
   | exact LeO.none _
   | refine LeO.ite ?_ ?_
   | refine LeO.bind ?_ (fun _ => ?_)
theorem schema_Parse.mono : ∀ a0 k, LeO (schema_Parse.f k a0) (schema_Parse.f (k + 1) a0) := by
 intro a0 k
 have ih0 := schema_Parse.mono_l k
 unfold schema_Parse.f
 repeat' first
   | (with_reducible exact ih0 _ _ _ _ _)
   | (with_reducible exact schema_Show.mono _ _)
   | (with_reducible exact schema_kind.mono _ _)
   | (with_reducible exact LeO.refl _)
   | (with_reducible exact LeO.none _)
   | (with_reducible refine LeO.ite ?_ ?_)
   | (with_reducible refine LeO.bind ?_ (fun _ => ?_))
   | exact ih0 _ _ _ _ _
   | exact schema_Show.mono _ _
   | exact schema_kind.mono _ _
   | exact LeO.none _
   | refine LeO.ite ?_ ?_
   | refine LeO.bind ?_ (fun _ => ?_)
set_option maxHeartbeats 8000000 in
set_option maxRecDepth 100000 in
theorem schema_Parse.calls (k : Nat) (a0 : ByteArray) (r1 : List (S62)) (r2 : Int) (w : World) (hT : Tabs w) (h : schema_Parse.f k a0 = some (r1, r2)) :
  Calls Tryz.prog 24 #[.string a0] w fun e w' => ∃ v0_ : Value, e = .returned (.tuple #[v0_, .int .i64 r2]) ∧ Kd.R k62 62 w' w.heap.size (fun _ => True) v0_ r1 ∧ Below w.heap.size w w' := by
 have hu62 := Tryz.underlying62
 have HB := Aside0.mk (Below.refl w.heap.size w)
 have H : (if a0.toList = ([45] : List UInt8) then (some (([] : List (S62)), 0)) else ((strings_Split.f a0 (⟨#[44, 32]⟩ : ByteArray)).bind fun t182 => (schema_Parse.l0 k a0 ([] : List (S62)) t182 (t182.length : Int) 0))) = some (r1, r2) := h
 clear h
 have HT := Aside0.mk hT
 clear hT
 by_cases c2 : a0.toList = ([45] : List UInt8)
 ·rw [if_pos c2] at H
  have c2b0 : (a0.toList == ([45] : List UInt8)) = true := beq_iff_eq.mpr c2
  have c2b1 : (a0.toList != ([45] : List UInt8)) = false := bne_eq_false_iff_eq.mpr c2
  clear c2
  simp only [Option.some.injEq, Prod.mk.injEq] at H
  obtain ⟨rfl, rfl⟩ := H
  go_enter Tryz.func24, Tryz.ntmps24
  go_wp2
  go_ret2
  exact ⟨_, endA, by first | exact Kd.R_nil _ _ _ _ _ | exact Kd.N_nil _ _ _ _ _ | exact Kd.V_nil _ _ _ _ _ | exact Kd.Q_nil _ _ _ _ _ | exact Kd.S_nil _ _ _ _ _, bwA⟩
 ·rw [if_neg c2] at H
  have c2b0 : (a0.toList == ([45] : List UInt8)) = false := beq_eq_false_iff_ne.mpr c2
  have c2b1 : (a0.toList != ([45] : List UInt8)) = true := bne_iff_ne.mpr c2
  replace H := Option.bind_eq_some_iff.mp H
  obtain ⟨t182, A30, H⟩ := H
  replace H : (schema_Parse.l0 k a0 ([] : List (S62)) t182 (t182.length : Int) 0) = some (r1, r2) := H
  have A3 := Aside0.mk A30
  clear A30
  have H' := Aside0.mk H
  clear H
  go_enter Tryz.func24, Tryz.ntmps24
  go_wp2_with (first | ((with_reducible refine gate_callee (f := 55) rfl ?_); refine goesA (some 15) Tryz.func55 #[.string a0, .string (⟨#[44, 32]⟩ : ByteArray)] ?_; (with_reducible refine (strings_Split.calls a0 (⟨#[44, 32]⟩ : ByteArray) t182 _ ?side1 A3.out).mono ?_); (case side1 => exact Tabs.below HT.out (bwA)); rintro e w4 ⟨v183, rfl, ho0, hb⟩; refine ⟨_, rfl, ?_⟩; have n0_ := Aside0.mk (Kd.R_lower ho0 (below_size (bwA))); have n1_ := Aside0.mk (below_step (bwA) hb); clear HB; have HO184 := n0_; have HB := n1_; clear n0_ n1_; (try clear hb); (try clear hb2); (try clear hk); (try clear hi); (try clear ho0); obtain ⟨Ao5, co5, eo5⟩ := Kd.R_slice HO184.out; subst eo5))
  go_loopg [4, 17] k (fun kq v4 v17 w' => ∃ (x4_1 : List (S62)) (x17_1 : Int), v17 = .int .i64 x17_1 ∧ Aside0 (schema_Parse.l0 kq a0 x4_1 t182 (t182.length : Int) x17_1 = some (r1, r2)) ∧ Aside0 (kq ≤ k) ∧ Aside0 (Kd.R k62 62 w' w.heap.size (fun _ => True) v4 x4_1) ∧ Aside0 (Kd.R Kd.string 9 w' w.heap.size (fun _ => True) (.slice Ao5 t182.length co5) t182) ∧ Aside0 (Below w.heap.size w w'))
  case atStart => exact ⟨(([] : List (S62))), (0), (endS), H', ⟨Nat.le_refl _⟩, ⟨by first | exact Kd.R_nil _ _ _ _ _ | exact Kd.N_nil _ _ _ _ _ | exact Kd.V_nil _ _ _ _ _ | exact Kd.Q_nil _ _ _ _ _ | exact Kd.S_nil _ _ _ _ _⟩, ⟨by (with_reducible repeat (first | apply Kd.R_alloc | apply Kd.R_drewN | apply Kd.R_drew)); exact HO184.out⟩, ⟨bwA⟩⟩
  case round =>
   clear H'
   try clear c2
   try clear c2b0
   try clear c2b1
   try clear p2
   try clear c5
   obtain ⟨x4_1, x17_1, rfl, HA, HK1, HO_4, HO_15, HB⟩ := hrel
   cases gk with
   | zero => exact absurd HA.out (by simp [schema_Parse.l0])
   | succ k1 =>
    have H := HA.out
    clear HA
    simp only [schema_Parse.l0] at H
    by_cases c6 : x17_1 < (t182.length : Int)
    ·rw [if_pos c6] at H
     have c6b0 : decide (x17_1 < (t182.length : Int)) = true := decide_eq_true c6
     clear c6
     by_cases c7 : 0 ≤ x17_1
     ·rw [if_pos c7] at H
      have c7b0 : decide (0 ≤ x17_1) = true := decide_eq_true c7
      clear c7
      by_cases c8 : x17_1 < (t182.length : Int)
      ·rw [if_pos c8] at H
       have c8b0 : decide (x17_1 < (t182.length : Int)) = true := decide_eq_true c8
       clear c8
       replace H := Option.bind_eq_some_iff.mp H
       obtain ⟨⟨t186, t187, t188⟩, A90, H⟩ := H
       replace H : ((strings_CutSuffix.f t187 (⟨#[33]⟩ : ByteArray)).bind fun bt189 => ((schema_kind.f k1 bt189.1).bind fun t191 => (if x4_1.length < 4398046511104 then (schema_Parse.l0 k1 a0 (x4_1 ++ [(⟨t186, t191, bt189.2⟩ : S62)]) t182 (t182.length : Int) (wrap64 (x17_1 + 1))) else (none)))) = some (r1, r2) := H
       have A9 := Aside0.mk A90
       clear A90
       replace H := Option.bind_eq_some_iff.mp H
       obtain ⟨⟨t189, t190⟩, A100, H⟩ := H
       replace H : ((schema_kind.f k1 t189).bind fun t191 => (if x4_1.length < 4398046511104 then (schema_Parse.l0 k1 a0 (x4_1 ++ [(⟨t186, t191, t190⟩ : S62)]) t182 (t182.length : Int) (wrap64 (x17_1 + 1))) else (none))) = some (r1, r2) := H
       have A10 := Aside0.mk A100
       clear A100
       replace H := Option.bind_eq_some_iff.mp H
       obtain ⟨t191, A110, H⟩ := H
       replace H : (if x4_1.length < 4398046511104 then (schema_Parse.l0 k1 a0 (x4_1 ++ [(⟨t186, t191, t190⟩ : S62)]) t182 (t182.length : Int) (wrap64 (x17_1 + 1))) else (none)) = some (r1, r2) := H
       have A11 := Aside0.mk A110
       clear A110
       by_cases c12 : x4_1.length < 4398046511104
       ·rw [if_pos c12] at H
        have LMc12 := Aside0.mk c12
        clear c12
        obtain ⟨y192, hy192⟩ : ∃ y_ : List (S62), y_ = (x4_1 ++ [(⟨t186, t191, t190⟩ : S62)]) := ⟨_, rfl⟩
        replace H : (schema_Parse.l0 k1 a0 y192 t182 (t182.length : Int) (wrap64 (x17_1 + 1))) = some (r1, r2) := by first | (rw [hy192]; with_reducible exact H) | (have H2_ := (Option.bind_some _ _).symm.trans H; rw [hy192]; with_reducible exact H2_) | (have H2_ := (Option.bind_some _ _).symm.trans H; with_reducible exact H2_) | with_reducible exact H | (rw [hy192]; exact H) | exact H
        have Ny192 := Aside0.mk hy192
        clear hy192
        have H' := Aside0.mk H
        clear H
        have p185 : 0 ≤ (x17_1 : Int) := odA
        have q185 : x17_1 < (t182.length : Int) := odA
        obtain ⟨ad185, e185, hx185_0⟩ := Kd.at_string (Kd.R_reads' HO_15.out).2.2 x17_1 p185 q185
        cases e185
        replace p185 := eq_true p185
        replace q185 := eq_true q185
        go_wp2_with (first | ((with_reducible refine gate_callee (f := 56) rfl ?_); refine goesA (some 23) Tryz.func56 #[.string (rdOf ByteArray.empty t182 x17_1), .string (⟨#[32]⟩ : ByteArray)] ?_; (with_reducible refine (strings_Cut.calls (rdOf ByteArray.empty t182 x17_1) (⟨#[32]⟩ : ByteArray) t186 t187 t188 _ ?side1 A9.out).mono ?_); (case side1 => exact Tabs.below HT.out (bwA)); rintro e w' ⟨rfl, ⟨nd, rfl⟩⟩; refine ⟨_, rfl, ?_⟩) | ((with_reducible refine gate_callee (f := 57) rfl ?_); refine goesA (some 29) Tryz.func57 #[.string t187, .string (⟨#[33]⟩ : ByteArray)] ?_; (with_reducible refine (strings_CutSuffix.calls t187 (⟨#[33]⟩ : ByteArray) t189 t190 _ A10.out).mono ?_); rintro e w' ⟨rfl, ⟨nd, rfl⟩⟩; refine ⟨_, rfl, ?_⟩) | ((with_reducible refine gate_callee (f := 58) rfl ?_); refine goesA (some 35) Tryz.func58 #[.string t189] ?_; (with_reducible refine (schema_kind.calls k1 t189 t191 _ A11.out).mono ?_); rintro e w13 ⟨rfl, hb⟩; refine ⟨_, rfl, ?_⟩; have n0_ := Aside0.mk (Kd.R_below (by (with_reducible repeat (first | apply Kd.R_alloc | apply Kd.R_drewN | apply Kd.R_drew)); exact HO_4.out) hb); have n1_ := Aside0.mk (Kd.R_below (by (with_reducible repeat (first | apply Kd.R_alloc | apply Kd.R_drewN | apply Kd.R_drew)); exact HO_15.out) hb); have n2_ := Aside0.mk (below_step (bwA) hb); clear HO_4; clear HO_15; clear HB; have HO_4 := n0_; have HO_15 := n1_; have HB := n2_; clear n0_ n1_ n2_; (try clear hb); (try clear hb2); (try clear hk); (try clear hi)) | ((with_reducible refine gate_builtin (b := .append) (xs := #[.tmp 32, .tmp 38]) rfl ?_); at_builtin; refine Kd.R_append k62 (w0 := w) w.heap.size rfl (.tmp 32) (.tmp 38) 22 62 (.agg #[(.string ⟨#[]⟩), (.int .i64 0), (.bool false)]) 32 rfl Tryz.underlying22 info62 rfl (by decide) (by omega) u4 x4_1 (⟨t186, t191, t190⟩ : S62) [.string t186, .int .i64 t191, .bool t190] (fun _ => True) (fun _ => False) rfl rfl ?aP (fun _ hk => hk.elim) ?aF ?aO ?aB ?aS ?aL ?_; (case aP => exact k62_mkM _ _ _ (⟨t186, t191, t190⟩ : S62)); (case aB => exact (bwA)); (case aF => exact (fun _ _ => trivial)); (case aO => exact (by (with_reducible repeat (first | apply Kd.R_alloc | apply Kd.R_drewN | apply Kd.R_drew)); exact HO_4.out)); (case aS => exact (below_size (bwA))); (case aL => have := LMc12.out; omega); intro v193 w14 ho hb hg hat; rw [← Ny192.out] at ho; have n0_ := Aside0.mk (Kd.R_over' (by (with_reducible repeat (first | apply Kd.R_alloc | apply Kd.R_drewN | apply Kd.R_drew)); exact HO_15.out) (Kd.R_typed (by (with_reducible repeat (first | apply Kd.R_alloc | apply Kd.R_drewN | apply Kd.R_drew)); exact HO_4.out)) (by decide) hg); have n1_ := Aside0.mk (hb); have n2_ := Aside0.mk (ho); clear HO_15; clear HB; clear HO_4; have HO_15 := n0_; have HB := n1_; have HO194 := n2_; clear n0_ n1_ n2_; clear ho hb hg hat))
        go_roundg k1
        case measure => have := HK1.out; omega
        case rel => exact ⟨(y192), (wrap64 (x17_1 + 1)), (endS), H', ⟨by have := HK1.out; omega⟩, ⟨by (with_reducible repeat (first | apply Kd.R_alloc | apply Kd.R_drewN | apply Kd.R_drew)); exact HO194.out⟩, ⟨by (with_reducible repeat (first | apply Kd.R_alloc | apply Kd.R_drewN | apply Kd.R_drew)); exact HO_15.out⟩, ⟨bwA⟩⟩
       ·rw [if_neg c12] at H
        exact absurd H (by simp)
      ·rw [if_neg c8] at H
       exact absurd H (by simp)
     ·rw [if_neg c7] at H
      exact absurd H (by simp)
    ·rw [if_neg c6] at H
     have c6b0 : decide (x17_1 < (t182.length : Int)) = false := decide_eq_false c6
     clear c6
     replace H := Option.bind_eq_some_iff.mp H
     obtain ⟨t195, A150, H⟩ := H
     replace H : (if t195.toList = a0.toList then (if a0.toList = ([] : List UInt8) then (some (([] : List (S62)), 3)) else (some (x4_1, 0))) else (some (([] : List (S62)), 3))) = some (r1, r2) := H
     have A15 := Aside0.mk A150
     clear A150
     by_cases c16 : t195.toList = a0.toList
     ·rw [if_pos c16] at H
      have c16b0 : (t195.toList == a0.toList) = true := beq_iff_eq.mpr c16
      have c16b1 : (t195.toList != a0.toList) = false := bne_eq_false_iff_eq.mpr c16
      clear c16
      by_cases c17 : a0.toList = ([] : List UInt8)
      ·rw [if_pos c17] at H
       have c17b0 : (a0.toList == ([] : List UInt8)) = true := beq_iff_eq.mpr c17
       have c17b1 : (a0.toList != ([] : List UInt8)) = false := bne_eq_false_iff_eq.mpr c17
       clear c17
       simp only [Option.some.injEq, Prod.mk.injEq] at H
       obtain ⟨rfl, rfl⟩ := H
       obtain ⟨Ao18, co18, eo18⟩ := Kd.R_slice HO_4.out
       subst eo18
       go_wp2_with (first | ((with_reducible refine gate_callee (f := 26) rfl ?_); refine goesA (some 42) Tryz.func26 #[.slice Ao18 x4_1.length co18] ?_; (with_reducible refine (schema_Show.calls k1 _ _ x4_1 t195 _ ?side1 ?side2 ?side3 A15.out).mono ?_); (case side1 => repeat (first | exact (Kd.R_reads' HO_4.out).2.2 | (with_reducible refine Kd.C_alloc ?_ _) | (with_reducible refine Kd.C_drewN ?_ _) | (with_reducible refine Kd.C_drew ?_))); (case side2 => exact (Kd.R_reads' HO_4.out).2.1); (case side3 => exact Tabs.below HT.out (bwA)); rintro e w19 ⟨rfl, hb⟩; refine ⟨_, rfl, ?_⟩; have n0_ := Aside0.mk (Kd.R_below (by (with_reducible repeat (first | apply Kd.R_alloc | apply Kd.R_drewN | apply Kd.R_drew)); exact HO_4.out) hb); have n1_ := Aside0.mk (Kd.R_below (by (with_reducible repeat (first | apply Kd.R_alloc | apply Kd.R_drewN | apply Kd.R_drew)); exact HO_15.out) hb); have n2_ := Aside0.mk (below_step (bwA) hb); clear HO_4; clear HO_15; clear HB; have HO_4 := n0_; have HO_15 := n1_; have HB := n2_; clear n0_ n1_ n2_; (try clear hb); (try clear hb2); (try clear hk); (try clear hi)))
       go_ret2
       exact ⟨_, endA, by first | exact Kd.R_nil _ _ _ _ _ | exact Kd.N_nil _ _ _ _ _ | exact Kd.V_nil _ _ _ _ _ | exact Kd.Q_nil _ _ _ _ _ | exact Kd.S_nil _ _ _ _ _, bwA⟩
      ·rw [if_neg c17] at H
       have c17b0 : (a0.toList == ([] : List UInt8)) = false := beq_eq_false_iff_ne.mpr c17
       have c17b1 : (a0.toList != ([] : List UInt8)) = true := bne_iff_ne.mpr c17
       simp only [Option.some.injEq, Prod.mk.injEq] at H
       obtain ⟨rfl, rfl⟩ := H
       obtain ⟨Ao20, co20, eo20⟩ := Kd.R_slice HO_4.out
       subst eo20
       go_wp2_with (first | ((with_reducible refine gate_callee (f := 26) rfl ?_); refine goesA (some 42) Tryz.func26 #[.slice Ao20 x4_1.length co20] ?_; (with_reducible refine (schema_Show.calls k1 _ _ x4_1 t195 _ ?side1 ?side2 ?side3 A15.out).mono ?_); (case side1 => repeat (first | exact (Kd.R_reads' HO_4.out).2.2 | (with_reducible refine Kd.C_alloc ?_ _) | (with_reducible refine Kd.C_drewN ?_ _) | (with_reducible refine Kd.C_drew ?_))); (case side2 => exact (Kd.R_reads' HO_4.out).2.1); (case side3 => exact Tabs.below HT.out (bwA)); rintro e w21 ⟨rfl, hb⟩; refine ⟨_, rfl, ?_⟩; have n0_ := Aside0.mk (Kd.R_below (by (with_reducible repeat (first | apply Kd.R_alloc | apply Kd.R_drewN | apply Kd.R_drew)); exact HO_4.out) hb); have n1_ := Aside0.mk (Kd.R_below (by (with_reducible repeat (first | apply Kd.R_alloc | apply Kd.R_drewN | apply Kd.R_drew)); exact HO_15.out) hb); have n2_ := Aside0.mk (below_step (bwA) hb); clear HO_4; clear HO_15; clear HB; have HO_4 := n0_; have HO_15 := n1_; have HB := n2_; clear n0_ n1_ n2_; (try clear hb); (try clear hb2); (try clear hk); (try clear hi)))
       go_ret2
       exact ⟨_, endA, by (with_reducible repeat (first | apply Kd.R_alloc | apply Kd.R_drewN | apply Kd.R_drew)); exact HO_4.out, bwA⟩
     ·rw [if_neg c16] at H
      have c16b0 : (t195.toList == a0.toList) = false := beq_eq_false_iff_ne.mpr c16
      have c16b1 : (t195.toList != a0.toList) = true := bne_iff_ne.mpr c16
      simp only [Option.some.injEq, Prod.mk.injEq] at H
      obtain ⟨rfl, rfl⟩ := H
      obtain ⟨Ao22, co22, eo22⟩ := Kd.R_slice HO_4.out
      subst eo22
      go_wp2_with (first | ((with_reducible refine gate_callee (f := 26) rfl ?_); refine goesA (some 42) Tryz.func26 #[.slice Ao22 x4_1.length co22] ?_; (with_reducible refine (schema_Show.calls k1 _ _ x4_1 t195 _ ?side1 ?side2 ?side3 A15.out).mono ?_); (case side1 => repeat (first | exact (Kd.R_reads' HO_4.out).2.2 | (with_reducible refine Kd.C_alloc ?_ _) | (with_reducible refine Kd.C_drewN ?_ _) | (with_reducible refine Kd.C_drew ?_))); (case side2 => exact (Kd.R_reads' HO_4.out).2.1); (case side3 => exact Tabs.below HT.out (bwA)); rintro e w23 ⟨rfl, hb⟩; refine ⟨_, rfl, ?_⟩; have n0_ := Aside0.mk (Kd.R_below (by (with_reducible repeat (first | apply Kd.R_alloc | apply Kd.R_drewN | apply Kd.R_drew)); exact HO_4.out) hb); have n1_ := Aside0.mk (Kd.R_below (by (with_reducible repeat (first | apply Kd.R_alloc | apply Kd.R_drewN | apply Kd.R_drew)); exact HO_15.out) hb); have n2_ := Aside0.mk (below_step (bwA) hb); clear HO_4; clear HO_15; clear HB; have HO_4 := n0_; have HO_15 := n1_; have HB := n2_; clear n0_ n1_ n2_; (try clear hb); (try clear hb2); (try clear hk); (try clear hi)))
      go_ret2
      exact ⟨_, endA, by first | exact Kd.R_nil _ _ _ _ _ | exact Kd.N_nil _ _ _ _ _ | exact Kd.V_nil _ _ _ _ _ | exact Kd.Q_nil _ _ _ _ _ | exact Kd.S_nil _ _ _ _ _, bwA⟩

/-! ### schema_Merge: function 33, by hand -/
def schema_Merge.go (l0 : List S62) : List S62 → Option Int
 | [] => none
 | x :: xs => (schema_Find.f l0 x.f0).bind fun t => if t.2.2.2 = true then some 9 else schema_Merge.go l0 xs
def schema_Merge.f (k : Nat) (l0 : List S62) (l1 : List S62) : Option ((List (S62)) × Int) := (schema_Check.f k l0).bind fun a => if a = true then (schema_Check.f k l1).bind fun b => if b = true then (schema_Merge.go l0 l1).bind fun e => some ([], e) else some ([], 1) else some ([], 1)
theorem schema_Merge.mono : ∀ a0 a1 k, LeO (schema_Merge.f k a0 a1) (schema_Merge.f (k + 1) a0 a1) := by
 intro a0 a1 k
 unfold schema_Merge.f
 repeat' first
  | (with_reducible exact LeO.refl _)
  | (with_reducible exact LeO.none _)
  | (with_reducible exact schema_Check.mono _ _)
  | (with_reducible refine LeO.ite ?_ ?_)
  | (with_reducible refine LeO.bind ?_ (fun _ => ?_))
set_option maxHeartbeats 8000000 in
set_option maxRecDepth 100000 in
theorem schema_Merge.calls (k : Nat) (A0 : Option Addr) (c0 : Nat) (l0 : List (S62)) (A1 : Option Addr) (c1 : Nat) (l1 : List (S62)) (r1 : List (S62)) (r2 : Int) (w : World) (hr0 : Kd.C k62 w A0 l0.length l0) (hc0 : l0.length ≤ c0) (hr1 : Kd.C k62 w A1 l1.length l1) (hc1 : l1.length ≤ c1) (hT : Tabs w) (h : schema_Merge.f k l0 l1 = some (r1, r2)) :
  Calls Tryz.prog 33 #[.slice A0 l0.length c0, .slice A1 l1.length c1] w fun e w' => ∃ v0_ : Value, e = .returned (.tuple #[v0_, .int .i64 r2]) ∧ Kd.R k62 62 w' w.heap.size (fun _ => True) v0_ r1 ∧ Below w.heap.size w w' := by
 unfold schema_Merge.f at h
 obtain ⟨a, ha, h⟩ := Option.bind_eq_some_iff.1 h
 have cA := fun W (hb : Below w.heap.size w W) => schema_Check.calls k A0 c0 l0 a W (Kd.C_below hr0 hb) hc0 (hT.below hb) ha
 cases a with
 | false =>
  rw [if_neg (by decide)] at h
  have h := Option.some.inj h
  simp only [Prod.mk.injEq] at h
  obtain ⟨rfl, rfl⟩ := h
  clear hr0 hr1 hT
  go_enter Tryz.func33, Tryz.ntmps33
  go_wp2_with (go_at_call 13; refine (cA _ (Below.refl _ _)).mono ?_; rintro e w1 ⟨rfl, hb1⟩)
  go_ret2
  exact ⟨_, rfl, Kd.R_nil _ _ _ _ _, hb1⟩
 | true =>
  rw [if_pos rfl] at h
  obtain ⟨b, hb, h⟩ := Option.bind_eq_some_iff.1 h
  have cB := fun W (hw : Below w.heap.size w W) => schema_Check.calls k A1 c1 l1 b W (Kd.C_below hr1 hw) hc1 (hT.below hw) hb
  clear hb
  cases b with
  | false =>
   rw [if_neg (by decide)] at h
   have h := Option.some.inj h
   simp only [Prod.mk.injEq] at h
   obtain ⟨rfl, rfl⟩ := h
   clear hr0 hr1 hT
   go_enter Tryz.func33, Tryz.ntmps33
   go_wp2_with (first | (go_at_call_of 13 (Value.slice A0 l0.length c0); refine (cA _ (Below.refl _ _)).mono ?_; rintro e w1 ⟨rfl, hb1⟩) | (go_at_call_of 13 (Value.slice A1 l1.length c1); refine (cB _ hb1).mono ?_; rintro e w2 ⟨rfl, hb2⟩; have hB2 := hb1.trans (hb2.mono hb1.size)))
   go_ret2
   exact ⟨_, rfl, Kd.R_nil _ _ _ _ _, hB2⟩
  | true =>
   rw [if_pos rfl] at h
   obtain ⟨q, hq, h⟩ := Option.bind_eq_some_iff.1 h
   have h := Option.some.inj h
   simp only [Prod.mk.injEq] at h
   obtain ⟨rfl, rfl⟩ := h
   have HQ := Aside0.mk hq
   have cF := fun W (hw : Below w.heap.size w W) (s : ByteArray) (t1 : ByteArray) (t2 : Int) (t3 t4 : Bool) (hf : schema_Find.f l0 s = some (t1, t2, t3, t4)) => (schema_Find.calls A0 c0 l0 s t1 t2 t3 t4 W (Kd.C_below hr0 hw) hc0 (hT.below hw) hf).mono fun e w' hp => (⟨hp.1, hw.trans (hp.2.mono hw.size)⟩ : _ ∧ Below w.heap.size w w')
   have hA := fun (i : Int) (h0 : 0 ≤ i) (h1 : i < (l1.length : Int)) W (hW : Below w.heap.size w W) => at_T62 (Kd.C_below hr1 hW) i h0 h1
   have hll : l1.length ≤ 9223372036854775807 := hr1.2.1
   clear hq hT hr0 hr1 ha
   go_enter Tryz.func33, Tryz.ntmps33
   go_wp2_with (first | (go_at_call_of 13 (Value.slice A0 l0.length c0); refine (cA _ (Below.refl _ _)).mono ?_; rintro e w1 ⟨rfl, hb1⟩) | (go_at_call_of 13 (Value.slice A1 l1.length c1); refine (cB _ hb1).mono ?_; rintro e w2 ⟨rfl, hb2⟩; have hB2 := hb1.trans (hb2.mono hb1.size)))
   go_loopg [20] l1.length (fun gg v20 wr => ∃ kk : Nat, kk ≤ l1.length ∧ l1.length - kk ≤ gg ∧ v20 = .int .i64 kk ∧ Aside (Below w.heap.size w wr) ∧ Aside (schema_Merge.go l0 (l1.drop kk) = some q))
   case atStart => exact ⟨0, Nat.zero_le _, by omega, rfl, hB2, by have := HQ.out; exact this⟩
   case round =>
    obtain ⟨kk, hkk, hg, rfl, BW, A⟩ := hrel
    by_cases hlt : kk < l1.length
    ·have hltz : (kk : Int) < (l1.length : Int) := by omega
     have hgo := A.out
     rw [List.drop_eq_getElem_cons hlt, schema_Merge.go] at hgo
     obtain ⟨⟨t1, t2, t3, t4⟩, ht, hgo⟩ := Option.bind_eq_some_iff.1 hgo
     have hx := hA kk (by omega) hltz wr BW.out
     have hrd : rd_T62 l1 (kk : Int) = l1[kk] := by
      unfold rd_T62
      rw [Int.toNat_natCast, List.getD_eq_getElem?_getD, List.getElem?_eq_getElem hlt]; rfl
     rw [hrd] at hx
     generalize l1[kk] = y at hx ht hrd
     obtain ⟨ad, rfl, x0, x1, x2⟩ := hx
     have cG := fun W hw => cF W hw y.f0 t1 t2 t3 t4 ht
     clear cF ht hrd hA cA cB
     rw [Int.toNat_natCast] at x0 x1 x2
     have hBW := BW.out
     have hpos : (0 : Int) ≤ (kk : Int) := by omega
     cases t4 with
     | true =>
      rw [if_pos rfl] at hgo
      obtain rfl := Option.some.inj hgo
      clear hgo A BW
      go_wp2_with (go_at_call 49; refine (cG _ (by repeat (first | exact hBW | apply below_alloc | refine below_set ?_ hBW.size))).mono ?_; rintro e w3 ⟨rfl, hB3⟩)
      go_ret2
      exact ⟨_, rfl, Kd.R_nil _ _ _ _ _, by repeat (first | exact hB3 | apply below_alloc | refine below_set ?_ hB3.size)⟩
     | false =>
      replace hgo : schema_Merge.go l0 (l1.drop (kk + 1)) = some q := hgo
      have HG := Aside0.mk hgo
      clear hgo A BW
      go_wp2_with (go_at_call 49; refine (cG _ (by repeat (first | exact hBW | apply below_alloc | refine below_set ?_ hBW.size))).mono ?_; rintro e w3 ⟨rfl, hB3⟩)
      go_roundg (l1.length - (kk + 1))
      case measure => omega
      case rel => exact ⟨kk + 1, by omega, by omega, by go_num, (by repeat (first | exact hB3 | apply below_alloc | refine below_set ?_ hB3.size)), HG.out⟩
    ·have hltz : ¬ (kk : Int) < (l1.length : Int) := by omega
     have hA := A.out
     rw [List.drop_of_length_le (by omega), schema_Merge.go] at hA
     cases hA

/-! ### caduceuslaw04_num: function 34 -/
def caduceuslaw04_num.f (a0 : Int) : Option (Int × Int × ByteArray) := some (1, a0, (⟨#[]⟩ : ByteArray))
set_option maxHeartbeats 8000000 in
set_option maxRecDepth 100000 in
theorem caduceuslaw04_num.calls (a0 : Int) (r1 : Int) (r2 : Int) (r3 : ByteArray) (w : World) (h : caduceuslaw04_num.f a0 = some (r1, r2, r3)) :
  Calls Tryz.prog 34 #[.int .i64 a0] w fun e w' => e = .returned (.agg #[.int .i64 r1, .int .i64 r2, .string r3]) ∧ Below w.heap.size w w' := by
 have hu37 := Tryz.underlying37
 have HB := Aside0.mk (Below.refl w.heap.size w)
 have H : (some (1, a0, (⟨#[]⟩ : ByteArray))) = some (r1, r2, r3) := h
 clear h
 simp only [Option.some.injEq, Prod.mk.injEq] at H
 obtain ⟨rfl, rfl, rfl⟩ := H
 go_enter Tryz.func34, Tryz.ntmps34
 go_wp2_with (first | ((with_reducible refine gate_dst (N := 2) rfl ?_); refine box_event ?hg (N := 2) ?hd (cs := #[.int .i64 0, .int .i64 0, .string (⟨#[]⟩ : ByteArray)]) (t := 37) ?hr ?_; (case hd => rfl); (case hg => rfl); (case hr => first | (go_simp; done) | (go_simp; rfl)); intro gb196 hg w2 hbox hb; have n0_ := Aside0.mk (below_step (bwA) hb); have n1_ := Aside0.mk (hbox); have n2_ := Aside0.mk ((by rw [hg]; exact (below_size (bwA)) : w.heap.size ≤ gb196)); have n3_ := Aside0.mk ((by rw [hg]; exact (below_size (bwA)) : w.heap.size ≤ gb196)); clear HB; have HB := n0_; have BK196 := n1_; have GW196 := n2_; have GE196 := n3_; clear n0_ n1_ n2_ n3_; clear hb hbox hg; have hcz3_0 : w2.cell? ⟨gb196, 0, none⟩ = some (.int .i64 0) := (blk_cell BK196.out 0).trans rfl; have hcz3_1 : w2.cell? ⟨gb196, 1, none⟩ = some (.int .i64 0) := (blk_cell BK196.out 1).trans rfl; have hcz3_2 : w2.cell? ⟨gb196, 2, none⟩ = some (.string (⟨#[]⟩ : ByteArray)) := (blk_cell BK196.out 2).trans rfl; have hfz3_0 := blk_frozen BK196.out 0; have hfz3_1 := blk_frozen BK196.out 1; have hfz3_2 := blk_frozen BK196.out 2))
 refine bodyPost_ret (results_cell_row rfl _ _ gb196 37 #[.int .i64 1, .int .i64 a0, .string (⟨#[]⟩ : ByteArray)] (0, 0) _ rfl (by (with_reducible repeat (first | refine blk_drewN ?_ _ | refine blk_drew ?_ | refine blk_alloc ?_ _)); refine blk_put (cs := #[.int .i64 1, .int .i64 a0, .string (⟨#[]⟩ : ByteArray)]) ?_ 2 _ rfl; (with_reducible repeat (first | refine blk_drewN ?_ _ | refine blk_drew ?_ | refine blk_alloc ?_ _)); refine blk_put (cs := #[.int .i64 1, .int .i64 0, .string (⟨#[]⟩ : ByteArray)]) ?_ 1 _ rfl; (with_reducible repeat (first | refine blk_drewN ?_ _ | refine blk_drew ?_ | refine blk_alloc ?_ _)); refine blk_put (cs := #[.int .i64 0, .int .i64 0, .string (⟨#[]⟩ : ByteArray)]) ?_ 0 _ rfl; (with_reducible repeat (first | refine blk_drewN ?_ _ | refine blk_drew ?_ | refine blk_alloc ?_ _)); exact BK196.out) Tryz.underlying37 rfl (by kernel_rfl)) rfl ?_
 exact ⟨endA, bwA⟩

/-! ### caduceuslaw04_text: function 35 -/
def caduceuslaw04_text.f (a0 : ByteArray) : Option (Int × Int × ByteArray) := some (2, 0, a0)
set_option maxHeartbeats 8000000 in
set_option maxRecDepth 100000 in
theorem caduceuslaw04_text.calls (a0 : ByteArray) (r1 : Int) (r2 : Int) (r3 : ByteArray) (w : World) (h : caduceuslaw04_text.f a0 = some (r1, r2, r3)) :
  Calls Tryz.prog 35 #[.string a0] w fun e w' => e = .returned (.agg #[.int .i64 r1, .int .i64 r2, .string r3]) ∧ Below w.heap.size w w' := by
 have hu37 := Tryz.underlying37
 have HB := Aside0.mk (Below.refl w.heap.size w)
 have H : (some (2, 0, a0)) = some (r1, r2, r3) := h
 clear h
 simp only [Option.some.injEq, Prod.mk.injEq] at H
 obtain ⟨rfl, rfl, rfl⟩ := H
 go_enter Tryz.func35, Tryz.ntmps35
 go_wp2_with (first | ((with_reducible refine gate_dst (N := 2) rfl ?_); refine box_event ?hg (N := 2) ?hd (cs := #[.int .i64 0, .int .i64 0, .string (⟨#[]⟩ : ByteArray)]) (t := 37) ?hr ?_; (case hd => rfl); (case hg => rfl); (case hr => first | (go_simp; done) | (go_simp; rfl)); intro gb197 hg w2 hbox hb; have n0_ := Aside0.mk (below_step (bwA) hb); have n1_ := Aside0.mk (hbox); have n2_ := Aside0.mk ((by rw [hg]; exact (below_size (bwA)) : w.heap.size ≤ gb197)); have n3_ := Aside0.mk ((by rw [hg]; exact (below_size (bwA)) : w.heap.size ≤ gb197)); clear HB; have HB := n0_; have BK197 := n1_; have GW197 := n2_; have GE197 := n3_; clear n0_ n1_ n2_ n3_; clear hb hbox hg; have hcz3_0 : w2.cell? ⟨gb197, 0, none⟩ = some (.int .i64 0) := (blk_cell BK197.out 0).trans rfl; have hcz3_1 : w2.cell? ⟨gb197, 1, none⟩ = some (.int .i64 0) := (blk_cell BK197.out 1).trans rfl; have hcz3_2 : w2.cell? ⟨gb197, 2, none⟩ = some (.string (⟨#[]⟩ : ByteArray)) := (blk_cell BK197.out 2).trans rfl; have hfz3_0 := blk_frozen BK197.out 0; have hfz3_1 := blk_frozen BK197.out 1; have hfz3_2 := blk_frozen BK197.out 2))
 refine bodyPost_ret (results_cell_row rfl _ _ gb197 37 #[.int .i64 2, .int .i64 0, .string a0] (0, 0) _ rfl (by (with_reducible repeat (first | refine blk_drewN ?_ _ | refine blk_drew ?_ | refine blk_alloc ?_ _)); refine blk_put (cs := #[.int .i64 2, .int .i64 0, .string (⟨#[]⟩ : ByteArray)]) ?_ 2 _ rfl; (with_reducible repeat (first | refine blk_drewN ?_ _ | refine blk_drew ?_ | refine blk_alloc ?_ _)); refine blk_put (cs := #[.int .i64 2, .int .i64 0, .string (⟨#[]⟩ : ByteArray)]) ?_ 1 _ rfl; (with_reducible repeat (first | refine blk_drewN ?_ _ | refine blk_drew ?_ | refine blk_alloc ?_ _)); refine blk_put (cs := #[.int .i64 0, .int .i64 0, .string (⟨#[]⟩ : ByteArray)]) ?_ 0 _ rfl; (with_reducible repeat (first | refine blk_drewN ?_ _ | refine blk_drew ?_ | refine blk_alloc ?_ _)); exact BK197.out) Tryz.underlying37 rfl (by kernel_rfl)) rfl ?_
 exact ⟨endA, bwA⟩

/-! ### caduceuslaw04_awake: function 9 -/
def caduceuslaw04_awake.f (k : Nat)  : Option (Bool) := (schema_Parse.f k (⟨#[97, 32, 105, 110, 116, 33, 44, 32, 98, 32, 116, 101, 120, 116]⟩ : ByteArray)).bind fun bt198 => ((schema_Parse.f k (⟨#[97, 32, 98, 111, 111, 108]⟩ : ByteArray)).bind fun bt202 => ((schema_Merge.f k bt198.1 bt202.1).bind fun bt206 => ((caduceuslaw04_num.f 1).bind fun bt210 => ((schema_Fits.f k bt198.1 (([(⟨(⟨#[97]⟩ : ByteArray), (⟨bt210.1, bt210.2.1, bt210.2.2⟩ : S37)⟩ : S44)] : List (S44)))).bind fun t216 => ((caduceuslaw04_text.f (⟨#[120]⟩ : ByteArray)).bind fun bt217 => ((schema_Fits.f k bt198.1 (([(⟨(⟨#[98]⟩ : ByteArray), (⟨bt217.1, bt217.2.1, bt217.2.2⟩ : S37)⟩ : S44)] : List (S44)))).bind fun t223 => ((caduceuslaw04_text.f (⟨#[120]⟩ : ByteArray)).bind fun bt224 => ((schema_Fits.f k bt198.1 (([(⟨(⟨#[97]⟩ : ByteArray), (⟨bt224.1, bt224.2.1, bt224.2.2⟩ : S37)⟩ : S44)] : List (S44)))).bind fun t230 => ((caduceuslaw04_num.f 1).bind fun bt231 => ((caduceuslaw04_num.f 2).bind fun bt234 => ((schema_Fits.f k bt198.1 (([(⟨(⟨#[97]⟩ : ByteArray), (⟨bt231.1, bt231.2.1, bt231.2.2⟩ : S37)⟩ : S44), (⟨(⟨#[99]⟩ : ByteArray), (⟨bt234.1, bt234.2.1, bt234.2.2⟩ : S37)⟩ : S44)] : List (S44)))).bind fun t240 => (if bt198.2 = 0 then (if (bt198.1.length : Int) = 2 then (if bt202.2 = 0 then (if bt206.2 = 9 then (if t216 = 0 then (if t223 = 7 then (if t230 = 8 then (some (t240 == 4)) else (none)) else (none)) else (none)) else (none)) else (none)) else (none)) else (none)))))))))))))
theorem caduceuslaw04_awake.mono : ∀ k, LeO (caduceuslaw04_awake.f k ) (caduceuslaw04_awake.f (k + 1) ) := by
 intro  k
 unfold caduceuslaw04_awake.f
 repeat' first
   | (with_reducible exact schema_Fits.mono _ _ _)
   | (with_reducible exact schema_Merge.mono _ _ _)
   | (with_reducible exact schema_Parse.mono _ _)
   | (with_reducible exact LeO.refl _)
   | (with_reducible exact LeO.none _)
   | (with_reducible refine LeO.ite ?_ ?_)
   | (with_reducible refine LeO.bind ?_ (fun _ => ?_))
   | exact schema_Fits.mono _ _ _
   | exact schema_Merge.mono _ _ _
   | exact schema_Parse.mono _ _
   | exact LeO.none _
   | refine LeO.ite ?_ ?_
   | refine LeO.bind ?_ (fun _ => ?_)
set_option maxHeartbeats 8000000 in
set_option maxRecDepth 100000 in
theorem caduceuslaw04_awake.calls (k : Nat)  (r : Bool) (w : World) (hT : Tabs w) (h : caduceuslaw04_awake.f k  = some r) :
  Calls Tryz.prog 9 #[] w fun e w' => e = .returned (.bool r) ∧ Below w.heap.size w w' := by
 have hu44 := Tryz.underlying44
 have HB := Aside0.mk (Below.refl w.heap.size w)
 have H : ((schema_Parse.f k (⟨#[97, 32, 105, 110, 116, 33, 44, 32, 98, 32, 116, 101, 120, 116]⟩ : ByteArray)).bind fun bt198 => ((schema_Parse.f k (⟨#[97, 32, 98, 111, 111, 108]⟩ : ByteArray)).bind fun bt202 => ((schema_Merge.f k bt198.1 bt202.1).bind fun bt206 => ((caduceuslaw04_num.f 1).bind fun bt210 => ((schema_Fits.f k bt198.1 (([(⟨(⟨#[97]⟩ : ByteArray), (⟨bt210.1, bt210.2.1, bt210.2.2⟩ : S37)⟩ : S44)] : List (S44)))).bind fun t216 => ((caduceuslaw04_text.f (⟨#[120]⟩ : ByteArray)).bind fun bt217 => ((schema_Fits.f k bt198.1 (([(⟨(⟨#[98]⟩ : ByteArray), (⟨bt217.1, bt217.2.1, bt217.2.2⟩ : S37)⟩ : S44)] : List (S44)))).bind fun t223 => ((caduceuslaw04_text.f (⟨#[120]⟩ : ByteArray)).bind fun bt224 => ((schema_Fits.f k bt198.1 (([(⟨(⟨#[97]⟩ : ByteArray), (⟨bt224.1, bt224.2.1, bt224.2.2⟩ : S37)⟩ : S44)] : List (S44)))).bind fun t230 => ((caduceuslaw04_num.f 1).bind fun bt231 => ((caduceuslaw04_num.f 2).bind fun bt234 => ((schema_Fits.f k bt198.1 (([(⟨(⟨#[97]⟩ : ByteArray), (⟨bt231.1, bt231.2.1, bt231.2.2⟩ : S37)⟩ : S44), (⟨(⟨#[99]⟩ : ByteArray), (⟨bt234.1, bt234.2.1, bt234.2.2⟩ : S37)⟩ : S44)] : List (S44)))).bind fun t240 => (if bt198.2 = 0 then (if (bt198.1.length : Int) = 2 then (if bt202.2 = 0 then (if bt206.2 = 9 then (if t216 = 0 then (if t223 = 7 then (if t230 = 8 then (some (t240 == 4)) else (none)) else (none)) else (none)) else (none)) else (none)) else (none)) else (none)))))))))))))) = some r := h
 clear h
 have HT := Aside0.mk hT
 clear hT
 replace H := Option.bind_eq_some_iff.mp H
 obtain ⟨⟨t198, t199⟩, A10, H⟩ := H
 replace H : ((schema_Parse.f k (⟨#[97, 32, 98, 111, 111, 108]⟩ : ByteArray)).bind fun bt202 => ((schema_Merge.f k t198 bt202.1).bind fun bt206 => ((caduceuslaw04_num.f 1).bind fun bt210 => ((schema_Fits.f k t198 (([(⟨(⟨#[97]⟩ : ByteArray), (⟨bt210.1, bt210.2.1, bt210.2.2⟩ : S37)⟩ : S44)] : List (S44)))).bind fun t216 => ((caduceuslaw04_text.f (⟨#[120]⟩ : ByteArray)).bind fun bt217 => ((schema_Fits.f k t198 (([(⟨(⟨#[98]⟩ : ByteArray), (⟨bt217.1, bt217.2.1, bt217.2.2⟩ : S37)⟩ : S44)] : List (S44)))).bind fun t223 => ((caduceuslaw04_text.f (⟨#[120]⟩ : ByteArray)).bind fun bt224 => ((schema_Fits.f k t198 (([(⟨(⟨#[97]⟩ : ByteArray), (⟨bt224.1, bt224.2.1, bt224.2.2⟩ : S37)⟩ : S44)] : List (S44)))).bind fun t230 => ((caduceuslaw04_num.f 1).bind fun bt231 => ((caduceuslaw04_num.f 2).bind fun bt234 => ((schema_Fits.f k t198 (([(⟨(⟨#[97]⟩ : ByteArray), (⟨bt231.1, bt231.2.1, bt231.2.2⟩ : S37)⟩ : S44), (⟨(⟨#[99]⟩ : ByteArray), (⟨bt234.1, bt234.2.1, bt234.2.2⟩ : S37)⟩ : S44)] : List (S44)))).bind fun t240 => (if t199 = 0 then (if (t198.length : Int) = 2 then (if bt202.2 = 0 then (if bt206.2 = 9 then (if t216 = 0 then (if t223 = 7 then (if t230 = 8 then (some (t240 == 4)) else (none)) else (none)) else (none)) else (none)) else (none)) else (none)) else (none))))))))))))) = some r := H
 have A1 := Aside0.mk A10
 clear A10
 replace H := Option.bind_eq_some_iff.mp H
 obtain ⟨⟨t202, t203⟩, A20, H⟩ := H
 replace H : ((schema_Merge.f k t198 t202).bind fun bt206 => ((caduceuslaw04_num.f 1).bind fun bt210 => ((schema_Fits.f k t198 (([(⟨(⟨#[97]⟩ : ByteArray), (⟨bt210.1, bt210.2.1, bt210.2.2⟩ : S37)⟩ : S44)] : List (S44)))).bind fun t216 => ((caduceuslaw04_text.f (⟨#[120]⟩ : ByteArray)).bind fun bt217 => ((schema_Fits.f k t198 (([(⟨(⟨#[98]⟩ : ByteArray), (⟨bt217.1, bt217.2.1, bt217.2.2⟩ : S37)⟩ : S44)] : List (S44)))).bind fun t223 => ((caduceuslaw04_text.f (⟨#[120]⟩ : ByteArray)).bind fun bt224 => ((schema_Fits.f k t198 (([(⟨(⟨#[97]⟩ : ByteArray), (⟨bt224.1, bt224.2.1, bt224.2.2⟩ : S37)⟩ : S44)] : List (S44)))).bind fun t230 => ((caduceuslaw04_num.f 1).bind fun bt231 => ((caduceuslaw04_num.f 2).bind fun bt234 => ((schema_Fits.f k t198 (([(⟨(⟨#[97]⟩ : ByteArray), (⟨bt231.1, bt231.2.1, bt231.2.2⟩ : S37)⟩ : S44), (⟨(⟨#[99]⟩ : ByteArray), (⟨bt234.1, bt234.2.1, bt234.2.2⟩ : S37)⟩ : S44)] : List (S44)))).bind fun t240 => (if t199 = 0 then (if (t198.length : Int) = 2 then (if t203 = 0 then (if bt206.2 = 9 then (if t216 = 0 then (if t223 = 7 then (if t230 = 8 then (some (t240 == 4)) else (none)) else (none)) else (none)) else (none)) else (none)) else (none)) else (none)))))))))))) = some r := H
 have A2 := Aside0.mk A20
 clear A20
 replace H := Option.bind_eq_some_iff.mp H
 obtain ⟨⟨t206, t207⟩, A30, H⟩ := H
 replace H : ((caduceuslaw04_num.f 1).bind fun bt210 => ((schema_Fits.f k t198 (([(⟨(⟨#[97]⟩ : ByteArray), (⟨bt210.1, bt210.2.1, bt210.2.2⟩ : S37)⟩ : S44)] : List (S44)))).bind fun t216 => ((caduceuslaw04_text.f (⟨#[120]⟩ : ByteArray)).bind fun bt217 => ((schema_Fits.f k t198 (([(⟨(⟨#[98]⟩ : ByteArray), (⟨bt217.1, bt217.2.1, bt217.2.2⟩ : S37)⟩ : S44)] : List (S44)))).bind fun t223 => ((caduceuslaw04_text.f (⟨#[120]⟩ : ByteArray)).bind fun bt224 => ((schema_Fits.f k t198 (([(⟨(⟨#[97]⟩ : ByteArray), (⟨bt224.1, bt224.2.1, bt224.2.2⟩ : S37)⟩ : S44)] : List (S44)))).bind fun t230 => ((caduceuslaw04_num.f 1).bind fun bt231 => ((caduceuslaw04_num.f 2).bind fun bt234 => ((schema_Fits.f k t198 (([(⟨(⟨#[97]⟩ : ByteArray), (⟨bt231.1, bt231.2.1, bt231.2.2⟩ : S37)⟩ : S44), (⟨(⟨#[99]⟩ : ByteArray), (⟨bt234.1, bt234.2.1, bt234.2.2⟩ : S37)⟩ : S44)] : List (S44)))).bind fun t240 => (if t199 = 0 then (if (t198.length : Int) = 2 then (if t203 = 0 then (if t207 = 9 then (if t216 = 0 then (if t223 = 7 then (if t230 = 8 then (some (t240 == 4)) else (none)) else (none)) else (none)) else (none)) else (none)) else (none)) else (none))))))))))) = some r := H
 have A3 := Aside0.mk A30
 clear A30
 replace H := Option.bind_eq_some_iff.mp H
 obtain ⟨⟨t210, t211, t212⟩, A40, H⟩ := H
 replace H : ((schema_Fits.f k t198 (([(⟨(⟨#[97]⟩ : ByteArray), (⟨t210, t211, t212⟩ : S37)⟩ : S44)] : List (S44)))).bind fun t216 => ((caduceuslaw04_text.f (⟨#[120]⟩ : ByteArray)).bind fun bt217 => ((schema_Fits.f k t198 (([(⟨(⟨#[98]⟩ : ByteArray), (⟨bt217.1, bt217.2.1, bt217.2.2⟩ : S37)⟩ : S44)] : List (S44)))).bind fun t223 => ((caduceuslaw04_text.f (⟨#[120]⟩ : ByteArray)).bind fun bt224 => ((schema_Fits.f k t198 (([(⟨(⟨#[97]⟩ : ByteArray), (⟨bt224.1, bt224.2.1, bt224.2.2⟩ : S37)⟩ : S44)] : List (S44)))).bind fun t230 => ((caduceuslaw04_num.f 1).bind fun bt231 => ((caduceuslaw04_num.f 2).bind fun bt234 => ((schema_Fits.f k t198 (([(⟨(⟨#[97]⟩ : ByteArray), (⟨bt231.1, bt231.2.1, bt231.2.2⟩ : S37)⟩ : S44), (⟨(⟨#[99]⟩ : ByteArray), (⟨bt234.1, bt234.2.1, bt234.2.2⟩ : S37)⟩ : S44)] : List (S44)))).bind fun t240 => (if t199 = 0 then (if (t198.length : Int) = 2 then (if t203 = 0 then (if t207 = 9 then (if t216 = 0 then (if t223 = 7 then (if t230 = 8 then (some (t240 == 4)) else (none)) else (none)) else (none)) else (none)) else (none)) else (none)) else (none)))))))))) = some r := H
 have A4 := Aside0.mk A40
 clear A40
 obtain ⟨y213, hy213⟩ : ∃ y_ : List (S44), y_ = (([(⟨(⟨#[97]⟩ : ByteArray), (⟨t210, t211, t212⟩ : S37)⟩ : S44)] : List (S44))) := ⟨_, rfl⟩
 replace H : ((schema_Fits.f k t198 y213).bind fun t216 => ((caduceuslaw04_text.f (⟨#[120]⟩ : ByteArray)).bind fun bt217 => ((schema_Fits.f k t198 (([(⟨(⟨#[98]⟩ : ByteArray), (⟨bt217.1, bt217.2.1, bt217.2.2⟩ : S37)⟩ : S44)] : List (S44)))).bind fun t223 => ((caduceuslaw04_text.f (⟨#[120]⟩ : ByteArray)).bind fun bt224 => ((schema_Fits.f k t198 (([(⟨(⟨#[97]⟩ : ByteArray), (⟨bt224.1, bt224.2.1, bt224.2.2⟩ : S37)⟩ : S44)] : List (S44)))).bind fun t230 => ((caduceuslaw04_num.f 1).bind fun bt231 => ((caduceuslaw04_num.f 2).bind fun bt234 => ((schema_Fits.f k t198 (([(⟨(⟨#[97]⟩ : ByteArray), (⟨bt231.1, bt231.2.1, bt231.2.2⟩ : S37)⟩ : S44), (⟨(⟨#[99]⟩ : ByteArray), (⟨bt234.1, bt234.2.1, bt234.2.2⟩ : S37)⟩ : S44)] : List (S44)))).bind fun t240 => (if t199 = 0 then (if (t198.length : Int) = 2 then (if t203 = 0 then (if t207 = 9 then (if t216 = 0 then (if t223 = 7 then (if t230 = 8 then (some (t240 == 4)) else (none)) else (none)) else (none)) else (none)) else (none)) else (none)) else (none)))))))))) = some r := by first | (rw [hy213]; with_reducible exact H) | (have H2_ := (Option.bind_some _ _).symm.trans H; rw [hy213]; with_reducible exact H2_) | (have H2_ := (Option.bind_some _ _).symm.trans H; with_reducible exact H2_) | with_reducible exact H | (rw [hy213]; exact H) | exact H
 have Ny213 := Aside0.mk hy213
 clear hy213
 replace H := Option.bind_eq_some_iff.mp H
 obtain ⟨t216, A50, H⟩ := H
 replace H : ((caduceuslaw04_text.f (⟨#[120]⟩ : ByteArray)).bind fun bt217 => ((schema_Fits.f k t198 (([(⟨(⟨#[98]⟩ : ByteArray), (⟨bt217.1, bt217.2.1, bt217.2.2⟩ : S37)⟩ : S44)] : List (S44)))).bind fun t223 => ((caduceuslaw04_text.f (⟨#[120]⟩ : ByteArray)).bind fun bt224 => ((schema_Fits.f k t198 (([(⟨(⟨#[97]⟩ : ByteArray), (⟨bt224.1, bt224.2.1, bt224.2.2⟩ : S37)⟩ : S44)] : List (S44)))).bind fun t230 => ((caduceuslaw04_num.f 1).bind fun bt231 => ((caduceuslaw04_num.f 2).bind fun bt234 => ((schema_Fits.f k t198 (([(⟨(⟨#[97]⟩ : ByteArray), (⟨bt231.1, bt231.2.1, bt231.2.2⟩ : S37)⟩ : S44), (⟨(⟨#[99]⟩ : ByteArray), (⟨bt234.1, bt234.2.1, bt234.2.2⟩ : S37)⟩ : S44)] : List (S44)))).bind fun t240 => (if t199 = 0 then (if (t198.length : Int) = 2 then (if t203 = 0 then (if t207 = 9 then (if t216 = 0 then (if t223 = 7 then (if t230 = 8 then (some (t240 == 4)) else (none)) else (none)) else (none)) else (none)) else (none)) else (none)) else (none))))))))) = some r := H
 have A5 := Aside0.mk A50
 clear A50
 replace H := Option.bind_eq_some_iff.mp H
 obtain ⟨⟨t217, t218, t219⟩, A60, H⟩ := H
 replace H : ((schema_Fits.f k t198 (([(⟨(⟨#[98]⟩ : ByteArray), (⟨t217, t218, t219⟩ : S37)⟩ : S44)] : List (S44)))).bind fun t223 => ((caduceuslaw04_text.f (⟨#[120]⟩ : ByteArray)).bind fun bt224 => ((schema_Fits.f k t198 (([(⟨(⟨#[97]⟩ : ByteArray), (⟨bt224.1, bt224.2.1, bt224.2.2⟩ : S37)⟩ : S44)] : List (S44)))).bind fun t230 => ((caduceuslaw04_num.f 1).bind fun bt231 => ((caduceuslaw04_num.f 2).bind fun bt234 => ((schema_Fits.f k t198 (([(⟨(⟨#[97]⟩ : ByteArray), (⟨bt231.1, bt231.2.1, bt231.2.2⟩ : S37)⟩ : S44), (⟨(⟨#[99]⟩ : ByteArray), (⟨bt234.1, bt234.2.1, bt234.2.2⟩ : S37)⟩ : S44)] : List (S44)))).bind fun t240 => (if t199 = 0 then (if (t198.length : Int) = 2 then (if t203 = 0 then (if t207 = 9 then (if t216 = 0 then (if t223 = 7 then (if t230 = 8 then (some (t240 == 4)) else (none)) else (none)) else (none)) else (none)) else (none)) else (none)) else (none)))))))) = some r := H
 have A6 := Aside0.mk A60
 clear A60
 obtain ⟨y220, hy220⟩ : ∃ y_ : List (S44), y_ = (([(⟨(⟨#[98]⟩ : ByteArray), (⟨t217, t218, t219⟩ : S37)⟩ : S44)] : List (S44))) := ⟨_, rfl⟩
 replace H : ((schema_Fits.f k t198 y220).bind fun t223 => ((caduceuslaw04_text.f (⟨#[120]⟩ : ByteArray)).bind fun bt224 => ((schema_Fits.f k t198 (([(⟨(⟨#[97]⟩ : ByteArray), (⟨bt224.1, bt224.2.1, bt224.2.2⟩ : S37)⟩ : S44)] : List (S44)))).bind fun t230 => ((caduceuslaw04_num.f 1).bind fun bt231 => ((caduceuslaw04_num.f 2).bind fun bt234 => ((schema_Fits.f k t198 (([(⟨(⟨#[97]⟩ : ByteArray), (⟨bt231.1, bt231.2.1, bt231.2.2⟩ : S37)⟩ : S44), (⟨(⟨#[99]⟩ : ByteArray), (⟨bt234.1, bt234.2.1, bt234.2.2⟩ : S37)⟩ : S44)] : List (S44)))).bind fun t240 => (if t199 = 0 then (if (t198.length : Int) = 2 then (if t203 = 0 then (if t207 = 9 then (if t216 = 0 then (if t223 = 7 then (if t230 = 8 then (some (t240 == 4)) else (none)) else (none)) else (none)) else (none)) else (none)) else (none)) else (none)))))))) = some r := by first | (rw [hy220]; with_reducible exact H) | (have H2_ := (Option.bind_some _ _).symm.trans H; rw [hy220]; with_reducible exact H2_) | (have H2_ := (Option.bind_some _ _).symm.trans H; with_reducible exact H2_) | with_reducible exact H | (rw [hy220]; exact H) | exact H
 have Ny220 := Aside0.mk hy220
 clear hy220
 replace H := Option.bind_eq_some_iff.mp H
 obtain ⟨t223, A70, H⟩ := H
 replace H : ((caduceuslaw04_text.f (⟨#[120]⟩ : ByteArray)).bind fun bt224 => ((schema_Fits.f k t198 (([(⟨(⟨#[97]⟩ : ByteArray), (⟨bt224.1, bt224.2.1, bt224.2.2⟩ : S37)⟩ : S44)] : List (S44)))).bind fun t230 => ((caduceuslaw04_num.f 1).bind fun bt231 => ((caduceuslaw04_num.f 2).bind fun bt234 => ((schema_Fits.f k t198 (([(⟨(⟨#[97]⟩ : ByteArray), (⟨bt231.1, bt231.2.1, bt231.2.2⟩ : S37)⟩ : S44), (⟨(⟨#[99]⟩ : ByteArray), (⟨bt234.1, bt234.2.1, bt234.2.2⟩ : S37)⟩ : S44)] : List (S44)))).bind fun t240 => (if t199 = 0 then (if (t198.length : Int) = 2 then (if t203 = 0 then (if t207 = 9 then (if t216 = 0 then (if t223 = 7 then (if t230 = 8 then (some (t240 == 4)) else (none)) else (none)) else (none)) else (none)) else (none)) else (none)) else (none))))))) = some r := H
 have A7 := Aside0.mk A70
 clear A70
 replace H := Option.bind_eq_some_iff.mp H
 obtain ⟨⟨t224, t225, t226⟩, A80, H⟩ := H
 replace H : ((schema_Fits.f k t198 (([(⟨(⟨#[97]⟩ : ByteArray), (⟨t224, t225, t226⟩ : S37)⟩ : S44)] : List (S44)))).bind fun t230 => ((caduceuslaw04_num.f 1).bind fun bt231 => ((caduceuslaw04_num.f 2).bind fun bt234 => ((schema_Fits.f k t198 (([(⟨(⟨#[97]⟩ : ByteArray), (⟨bt231.1, bt231.2.1, bt231.2.2⟩ : S37)⟩ : S44), (⟨(⟨#[99]⟩ : ByteArray), (⟨bt234.1, bt234.2.1, bt234.2.2⟩ : S37)⟩ : S44)] : List (S44)))).bind fun t240 => (if t199 = 0 then (if (t198.length : Int) = 2 then (if t203 = 0 then (if t207 = 9 then (if t216 = 0 then (if t223 = 7 then (if t230 = 8 then (some (t240 == 4)) else (none)) else (none)) else (none)) else (none)) else (none)) else (none)) else (none)))))) = some r := H
 have A8 := Aside0.mk A80
 clear A80
 obtain ⟨y227, hy227⟩ : ∃ y_ : List (S44), y_ = (([(⟨(⟨#[97]⟩ : ByteArray), (⟨t224, t225, t226⟩ : S37)⟩ : S44)] : List (S44))) := ⟨_, rfl⟩
 replace H : ((schema_Fits.f k t198 y227).bind fun t230 => ((caduceuslaw04_num.f 1).bind fun bt231 => ((caduceuslaw04_num.f 2).bind fun bt234 => ((schema_Fits.f k t198 (([(⟨(⟨#[97]⟩ : ByteArray), (⟨bt231.1, bt231.2.1, bt231.2.2⟩ : S37)⟩ : S44), (⟨(⟨#[99]⟩ : ByteArray), (⟨bt234.1, bt234.2.1, bt234.2.2⟩ : S37)⟩ : S44)] : List (S44)))).bind fun t240 => (if t199 = 0 then (if (t198.length : Int) = 2 then (if t203 = 0 then (if t207 = 9 then (if t216 = 0 then (if t223 = 7 then (if t230 = 8 then (some (t240 == 4)) else (none)) else (none)) else (none)) else (none)) else (none)) else (none)) else (none)))))) = some r := by first | (rw [hy227]; with_reducible exact H) | (have H2_ := (Option.bind_some _ _).symm.trans H; rw [hy227]; with_reducible exact H2_) | (have H2_ := (Option.bind_some _ _).symm.trans H; with_reducible exact H2_) | with_reducible exact H | (rw [hy227]; exact H) | exact H
 have Ny227 := Aside0.mk hy227
 clear hy227
 replace H := Option.bind_eq_some_iff.mp H
 obtain ⟨t230, A90, H⟩ := H
 replace H : ((caduceuslaw04_num.f 1).bind fun bt231 => ((caduceuslaw04_num.f 2).bind fun bt234 => ((schema_Fits.f k t198 (([(⟨(⟨#[97]⟩ : ByteArray), (⟨bt231.1, bt231.2.1, bt231.2.2⟩ : S37)⟩ : S44), (⟨(⟨#[99]⟩ : ByteArray), (⟨bt234.1, bt234.2.1, bt234.2.2⟩ : S37)⟩ : S44)] : List (S44)))).bind fun t240 => (if t199 = 0 then (if (t198.length : Int) = 2 then (if t203 = 0 then (if t207 = 9 then (if t216 = 0 then (if t223 = 7 then (if t230 = 8 then (some (t240 == 4)) else (none)) else (none)) else (none)) else (none)) else (none)) else (none)) else (none))))) = some r := H
 have A9 := Aside0.mk A90
 clear A90
 replace H := Option.bind_eq_some_iff.mp H
 obtain ⟨⟨t231, t232, t233⟩, A100, H⟩ := H
 replace H : ((caduceuslaw04_num.f 2).bind fun bt234 => ((schema_Fits.f k t198 (([(⟨(⟨#[97]⟩ : ByteArray), (⟨t231, t232, t233⟩ : S37)⟩ : S44), (⟨(⟨#[99]⟩ : ByteArray), (⟨bt234.1, bt234.2.1, bt234.2.2⟩ : S37)⟩ : S44)] : List (S44)))).bind fun t240 => (if t199 = 0 then (if (t198.length : Int) = 2 then (if t203 = 0 then (if t207 = 9 then (if t216 = 0 then (if t223 = 7 then (if t230 = 8 then (some (t240 == 4)) else (none)) else (none)) else (none)) else (none)) else (none)) else (none)) else (none)))) = some r := H
 have A10 := Aside0.mk A100
 clear A100
 replace H := Option.bind_eq_some_iff.mp H
 obtain ⟨⟨t234, t235, t236⟩, A110, H⟩ := H
 replace H : ((schema_Fits.f k t198 (([(⟨(⟨#[97]⟩ : ByteArray), (⟨t231, t232, t233⟩ : S37)⟩ : S44), (⟨(⟨#[99]⟩ : ByteArray), (⟨t234, t235, t236⟩ : S37)⟩ : S44)] : List (S44)))).bind fun t240 => (if t199 = 0 then (if (t198.length : Int) = 2 then (if t203 = 0 then (if t207 = 9 then (if t216 = 0 then (if t223 = 7 then (if t230 = 8 then (some (t240 == 4)) else (none)) else (none)) else (none)) else (none)) else (none)) else (none)) else (none))) = some r := H
 have A11 := Aside0.mk A110
 clear A110
 obtain ⟨y237, hy237⟩ : ∃ y_ : List (S44), y_ = (([(⟨(⟨#[97]⟩ : ByteArray), (⟨t231, t232, t233⟩ : S37)⟩ : S44), (⟨(⟨#[99]⟩ : ByteArray), (⟨t234, t235, t236⟩ : S37)⟩ : S44)] : List (S44))) := ⟨_, rfl⟩
 replace H : ((schema_Fits.f k t198 y237).bind fun t240 => (if t199 = 0 then (if (t198.length : Int) = 2 then (if t203 = 0 then (if t207 = 9 then (if t216 = 0 then (if t223 = 7 then (if t230 = 8 then (some (t240 == 4)) else (none)) else (none)) else (none)) else (none)) else (none)) else (none)) else (none))) = some r := by first | (rw [hy237]; with_reducible exact H) | (have H2_ := (Option.bind_some _ _).symm.trans H; rw [hy237]; with_reducible exact H2_) | (have H2_ := (Option.bind_some _ _).symm.trans H; with_reducible exact H2_) | with_reducible exact H | (rw [hy237]; exact H) | exact H
 have Ny237 := Aside0.mk hy237
 clear hy237
 replace H := Option.bind_eq_some_iff.mp H
 obtain ⟨t240, A120, H⟩ := H
 replace H : (if t199 = 0 then (if (t198.length : Int) = 2 then (if t203 = 0 then (if t207 = 9 then (if t216 = 0 then (if t223 = 7 then (if t230 = 8 then (some (t240 == 4)) else (none)) else (none)) else (none)) else (none)) else (none)) else (none)) else (none)) = some r := H
 have A12 := Aside0.mk A120
 clear A120
 by_cases c13 : t199 = 0
 ·rw [if_pos c13] at H
  have c13b0 : (t199 == 0) = true := beq_iff_eq.mpr c13
  have c13b1 : (t199 != 0) = false := bne_eq_false_iff_eq.mpr c13
  clear c13
  by_cases c14 : (t198.length : Int) = 2
  ·rw [if_pos c14] at H
   have c14b0 : ((t198.length : Int) == 2) = true := beq_iff_eq.mpr c14
   have c14b1 : ((t198.length : Int) != 2) = false := bne_eq_false_iff_eq.mpr c14
   clear c14
   by_cases c15 : t203 = 0
   ·rw [if_pos c15] at H
    have c15b0 : (t203 == 0) = true := beq_iff_eq.mpr c15
    have c15b1 : (t203 != 0) = false := bne_eq_false_iff_eq.mpr c15
    clear c15
    by_cases c16 : t207 = 9
    ·rw [if_pos c16] at H
     have c16b0 : (t207 == 9) = true := beq_iff_eq.mpr c16
     have c16b1 : (t207 != 9) = false := bne_eq_false_iff_eq.mpr c16
     clear c16
     by_cases c17 : t216 = 0
     ·rw [if_pos c17] at H
      have c17b0 : (t216 == 0) = true := beq_iff_eq.mpr c17
      have c17b1 : (t216 != 0) = false := bne_eq_false_iff_eq.mpr c17
      clear c17
      by_cases c18 : t223 = 7
      ·rw [if_pos c18] at H
       have c18b0 : (t223 == 7) = true := beq_iff_eq.mpr c18
       have c18b1 : (t223 != 7) = false := bne_eq_false_iff_eq.mpr c18
       clear c18
       by_cases c19 : t230 = 8
       ·rw [if_pos c19] at H
        have c19b0 : (t230 == 8) = true := beq_iff_eq.mpr c19
        have c19b1 : (t230 != 8) = false := bne_eq_false_iff_eq.mpr c19
        clear c19
        obtain rfl := Option.some.inj H
        go_enter Tryz.func9, Tryz.ntmps9
        go_wp2_with (first | ((with_reducible refine gate_callee (f := 24) rfl ?_); refine goesA (some 12) Tryz.func24 #[.string (⟨#[97, 32, 105, 110, 116, 33, 44, 32, 98, 32, 116, 101, 120, 116]⟩ : ByteArray)] ?_; (with_reducible refine (schema_Parse.calls k (⟨#[97, 32, 105, 110, 116, 33, 44, 32, 98, 32, 116, 101, 120, 116]⟩ : ByteArray) t198 t199 _ ?side1 A1.out).mono ?_); (case side1 => exact Tabs.below HT.out (bwA)); rintro e w20 ⟨v200, rfl, ho0, hb⟩; refine ⟨_, rfl, ?_⟩; have n0_ := Aside0.mk (Kd.R_lower ho0 (below_size (bwA))); have n1_ := Aside0.mk (below_step (bwA) hb); clear HB; have HO201 := n0_; have HB := n1_; clear n0_ n1_; (try clear hb); (try clear hb2); (try clear hk); (try clear hi); (try clear ho0)) | ((with_reducible refine gate_callee (f := 24) rfl ?_); refine goesA (some 16) Tryz.func24 #[.string (⟨#[97, 32, 98, 111, 111, 108]⟩ : ByteArray)] ?_; (with_reducible refine (schema_Parse.calls k (⟨#[97, 32, 98, 111, 111, 108]⟩ : ByteArray) t202 t203 _ ?side1 A2.out).mono ?_); (case side1 => exact Tabs.below HT.out (bwA)); rintro e w21 ⟨v204, rfl, ho0, hb⟩; refine ⟨_, rfl, ?_⟩; have n0_ := Aside0.mk (Kd.R_elder' (by (with_reducible repeat (first | apply Kd.R_alloc | apply Kd.R_drewN | apply Kd.R_drew)); exact HO201.out) (Kd.R_base ho0) hb); have n1_ := Aside0.mk (Kd.R_lower (Kd.R_new' ho0 (Kd.R_lt (by (with_reducible repeat (first | apply Kd.R_alloc | apply Kd.R_drewN | apply Kd.R_drew)); exact HO201.out))) (below_size (bwA))); have n2_ := Aside0.mk (below_step (bwA) hb); clear HO201; clear HB; have HO201 := n0_; have HO205 := n1_; have HB := n2_; clear n0_ n1_ n2_; (try clear hb); (try clear hb2); (try clear hk); (try clear hi); (try clear ho0); obtain ⟨Ao22, co22, eo22⟩ := Kd.R_slice HO201.out; subst eo22; obtain ⟨Ao23, co23, eo23⟩ := Kd.R_slice HO205.out; subst eo23) | ((with_reducible refine gate_callee (f := 33) rfl ?_); refine goesA (some 22) Tryz.func33 #[.slice Ao22 t198.length co22, .slice Ao23 t202.length co23] ?_; (with_reducible refine (schema_Merge.calls k _ _ t198 _ _ t202 t206 t207 _ ?side1 ?side2 ?side3 ?side4 ?side5 A3.out).mono ?_); (case side1 => repeat (first | exact (Kd.R_reads' HO201.out).2.2 | (with_reducible refine Kd.C_alloc ?_ _) | (with_reducible refine Kd.C_drewN ?_ _) | (with_reducible refine Kd.C_drew ?_))); (case side2 => exact (Kd.R_reads' HO201.out).2.1); (case side3 => repeat (first | exact (Kd.R_reads' HO205.out).2.2 | (with_reducible refine Kd.C_alloc ?_ _) | (with_reducible refine Kd.C_drewN ?_ _) | (with_reducible refine Kd.C_drew ?_))); (case side4 => exact (Kd.R_reads' HO205.out).2.1); (case side5 => exact Tabs.below HT.out (bwA)); rintro e w24 ⟨v208, rfl, ho0, hb⟩; refine ⟨_, rfl, ?_⟩; have n0_ := Aside0.mk (Kd.R_elder' (by (with_reducible repeat (first | apply Kd.R_alloc | apply Kd.R_drewN | apply Kd.R_drew)); exact HO201.out) (Kd.R_base ho0) hb); have n1_ := Aside0.mk (Kd.R_elder' (by (with_reducible repeat (first | apply Kd.R_alloc | apply Kd.R_drewN | apply Kd.R_drew)); exact HO205.out) (Kd.R_base ho0) hb); have n2_ := Aside0.mk (Kd.R_lower (Kd.R_new' (Kd.R_new' ho0 (Kd.R_lt (by (with_reducible repeat (first | apply Kd.R_alloc | apply Kd.R_drewN | apply Kd.R_drew)); exact HO201.out))) (Kd.R_lt (by (with_reducible repeat (first | apply Kd.R_alloc | apply Kd.R_drewN | apply Kd.R_drew)); exact HO205.out))) (below_size (bwA))); have n3_ := Aside0.mk (below_step (bwA) hb); clear HO201; clear HO205; clear HB; have HO201 := n0_; have HO205 := n1_; have HO209 := n2_; have HB := n3_; clear n0_ n1_ n2_ n3_; (try clear hb); (try clear hb2); (try clear hk); (try clear hi); (try clear ho0)) | ((with_reducible refine gate_callee (f := 34) rfl ?_); refine goesA (some 26) Tryz.func34 #[.int .i64 1] ?_; (with_reducible refine (caduceuslaw04_num.calls 1 t210 t211 t212 _ A4.out).mono ?_); rintro e w25 ⟨rfl, hb⟩; refine ⟨_, rfl, ?_⟩; have n0_ := Aside0.mk (Kd.R_below (by (with_reducible repeat (first | apply Kd.R_alloc | apply Kd.R_drewN | apply Kd.R_drew)); exact HO201.out) hb); have n1_ := Aside0.mk (Kd.R_below (by (with_reducible repeat (first | apply Kd.R_alloc | apply Kd.R_drewN | apply Kd.R_drew)); exact HO205.out) hb); have n2_ := Aside0.mk (Kd.R_below (by (with_reducible repeat (first | apply Kd.R_alloc | apply Kd.R_drewN | apply Kd.R_drew)); exact HO209.out) hb); have n3_ := Aside0.mk (below_step (bwA) hb); clear HO201; clear HO205; clear HO209; clear HB; have HO201 := n0_; have HO205 := n1_; have HO209 := n2_; have HB := n3_; clear n0_ n1_ n2_ n3_; (try clear hb); (try clear hb2); (try clear hk); (try clear hi)) | ((with_reducible refine gate_dst (N := 28) rfl ?_); (try (refine gate_guard (by rfl) ?_; dsimp only)); refine Kd.R_lit k44 _ 44 ?hg (N := 28) ?hd (xs := ([(⟨(⟨#[97]⟩ : ByteArray), (⟨t210, t211, t212⟩ : S37)⟩ : S44)] : List (S44))) (inner := [.string (⟨#[97]⟩ : ByteArray), .int .i64 t210, .int .i64 t211, .string t212]) (ok := fun _ => True) (okp := fun _ => True) ?hr ?hp (fun _ hk => hk) trivial (Below.refl _ _) (Nat.le_refl _) (by simp) ?_; (case hd => rfl); (case hg => rfl); (case hr => first | (go_simp; done) | (go_simp; rfl)); (case hp => exact (Reps.c4 (show Kd.M k44 _ _ _ (⟨(⟨#[97]⟩ : ByteArray), (⟨t210, t211, t212⟩ : S37)⟩ : S44) [.string (⟨#[97]⟩ : ByteArray), .int .i64 t210, .int .i64 t211, .string t212] from (k44_mkM _ _ _ (⟨(⟨#[97]⟩ : ByteArray), (⟨t210, t211, t212⟩ : S37)⟩ : S44) )) (Reps.none _ _))); intro v214 w26 ho27 hb hg_ hnew_; clear hg_ hnew_; (first | rw [← Ny213.out] at ho27 | (simp only [Int.reduceToNat] at ho27; rw [← Ny213.out] at ho27)); have n0_ := Aside0.mk (Kd.R_below (by (with_reducible repeat (first | apply Kd.R_alloc | apply Kd.R_drewN | apply Kd.R_drew)); exact HO201.out) hb); have n1_ := Aside0.mk (Kd.R_below (by (with_reducible repeat (first | apply Kd.R_alloc | apply Kd.R_drewN | apply Kd.R_drew)); exact HO205.out) hb); have n2_ := Aside0.mk (Kd.R_below (by (with_reducible repeat (first | apply Kd.R_alloc | apply Kd.R_drewN | apply Kd.R_drew)); exact HO209.out) hb); have n3_ := Aside0.mk (Kd.R_lower ho27 (below_size (bwA))); have n4_ := Aside0.mk (below_step (bwA) hb); clear HO201; clear HO205; clear HO209; clear HB; have HO201 := n0_; have HO205 := n1_; have HO209 := n2_; have HO215 := n3_; have HB := n4_; clear n0_ n1_ n2_ n3_ n4_; clear hb ho27; obtain ⟨Ao28, co28, eo28⟩ := Kd.R_slice HO215.out; subst eo28) | ((with_reducible refine gate_callee (f := 20) rfl ?_); refine goesA (some 29) Tryz.func20 #[.slice Ao22 t198.length co22, .slice Ao28 y213.length co28] ?_; (with_reducible refine (schema_Fits.calls k _ _ t198 _ _ y213 t216 _ ?side1 ?side2 ?side3 ?side4 ?side5 A5.out).mono ?_); (case side1 => repeat (first | exact (Kd.R_reads' HO201.out).2.2 | (with_reducible refine Kd.C_alloc ?_ _) | (with_reducible refine Kd.C_drewN ?_ _) | (with_reducible refine Kd.C_drew ?_))); (case side2 => exact (Kd.R_reads' HO201.out).2.1); (case side3 => repeat (first | exact (Kd.R_reads' HO215.out).2.2 | (with_reducible refine Kd.C_alloc ?_ _) | (with_reducible refine Kd.C_drewN ?_ _) | (with_reducible refine Kd.C_drew ?_))); (case side4 => exact (Kd.R_reads' HO215.out).2.1); (case side5 => exact Tabs.below HT.out (bwA)); rintro e w29 ⟨rfl, hb⟩; refine ⟨_, rfl, ?_⟩; have n0_ := Aside0.mk (Kd.R_below (by (with_reducible repeat (first | apply Kd.R_alloc | apply Kd.R_drewN | apply Kd.R_drew)); exact HO201.out) hb); have n1_ := Aside0.mk (Kd.R_below (by (with_reducible repeat (first | apply Kd.R_alloc | apply Kd.R_drewN | apply Kd.R_drew)); exact HO205.out) hb); have n2_ := Aside0.mk (Kd.R_below (by (with_reducible repeat (first | apply Kd.R_alloc | apply Kd.R_drewN | apply Kd.R_drew)); exact HO209.out) hb); have n3_ := Aside0.mk (Kd.R_below (by (with_reducible repeat (first | apply Kd.R_alloc | apply Kd.R_drewN | apply Kd.R_drew)); exact HO215.out) hb); have n4_ := Aside0.mk (below_step (bwA) hb); clear HO201; clear HO205; clear HO209; clear HO215; clear HB; have HO201 := n0_; have HO205 := n1_; have HO209 := n2_; have HO215 := n3_; have HB := n4_; clear n0_ n1_ n2_ n3_ n4_; (try clear hb); (try clear hb2); (try clear hk); (try clear hi)) | ((with_reducible refine gate_callee (f := 35) rfl ?_); refine goesA (some 31) Tryz.func35 #[.string (⟨#[120]⟩ : ByteArray)] ?_; (with_reducible refine (caduceuslaw04_text.calls (⟨#[120]⟩ : ByteArray) t217 t218 t219 _ A6.out).mono ?_); rintro e w30 ⟨rfl, hb⟩; refine ⟨_, rfl, ?_⟩; have n0_ := Aside0.mk (Kd.R_below (by (with_reducible repeat (first | apply Kd.R_alloc | apply Kd.R_drewN | apply Kd.R_drew)); exact HO201.out) hb); have n1_ := Aside0.mk (Kd.R_below (by (with_reducible repeat (first | apply Kd.R_alloc | apply Kd.R_drewN | apply Kd.R_drew)); exact HO205.out) hb); have n2_ := Aside0.mk (Kd.R_below (by (with_reducible repeat (first | apply Kd.R_alloc | apply Kd.R_drewN | apply Kd.R_drew)); exact HO209.out) hb); have n3_ := Aside0.mk (Kd.R_below (by (with_reducible repeat (first | apply Kd.R_alloc | apply Kd.R_drewN | apply Kd.R_drew)); exact HO215.out) hb); have n4_ := Aside0.mk (below_step (bwA) hb); clear HO201; clear HO205; clear HO209; clear HO215; clear HB; have HO201 := n0_; have HO205 := n1_; have HO209 := n2_; have HO215 := n3_; have HB := n4_; clear n0_ n1_ n2_ n3_ n4_; (try clear hb); (try clear hb2); (try clear hk); (try clear hi)) | ((with_reducible refine gate_dst (N := 33) rfl ?_); (try (refine gate_guard (by rfl) ?_; dsimp only)); refine Kd.R_lit k44 _ 44 ?hg (N := 33) ?hd (xs := ([(⟨(⟨#[98]⟩ : ByteArray), (⟨t217, t218, t219⟩ : S37)⟩ : S44)] : List (S44))) (inner := [.string (⟨#[98]⟩ : ByteArray), .int .i64 t217, .int .i64 t218, .string t219]) (ok := fun _ => True) (okp := fun _ => True) ?hr ?hp (fun _ hk => hk) trivial (Below.refl _ _) (Nat.le_refl _) (by simp) ?_; (case hd => rfl); (case hg => rfl); (case hr => first | (go_simp; done) | (go_simp; rfl)); (case hp => exact (Reps.c4 (show Kd.M k44 _ _ _ (⟨(⟨#[98]⟩ : ByteArray), (⟨t217, t218, t219⟩ : S37)⟩ : S44) [.string (⟨#[98]⟩ : ByteArray), .int .i64 t217, .int .i64 t218, .string t219] from (k44_mkM _ _ _ (⟨(⟨#[98]⟩ : ByteArray), (⟨t217, t218, t219⟩ : S37)⟩ : S44) )) (Reps.none _ _))); intro v221 w31 ho32 hb hg_ hnew_; clear hg_ hnew_; (first | rw [← Ny220.out] at ho32 | (simp only [Int.reduceToNat] at ho32; rw [← Ny220.out] at ho32)); have n0_ := Aside0.mk (Kd.R_below (by (with_reducible repeat (first | apply Kd.R_alloc | apply Kd.R_drewN | apply Kd.R_drew)); exact HO201.out) hb); have n1_ := Aside0.mk (Kd.R_below (by (with_reducible repeat (first | apply Kd.R_alloc | apply Kd.R_drewN | apply Kd.R_drew)); exact HO205.out) hb); have n2_ := Aside0.mk (Kd.R_below (by (with_reducible repeat (first | apply Kd.R_alloc | apply Kd.R_drewN | apply Kd.R_drew)); exact HO209.out) hb); have n3_ := Aside0.mk (Kd.R_elder' (by (with_reducible repeat (first | apply Kd.R_alloc | apply Kd.R_drewN | apply Kd.R_drew)); exact HO215.out) (Kd.R_base ho32) hb); have n4_ := Aside0.mk (Kd.R_lower (Kd.R_new' ho32 (Kd.R_lt (by (with_reducible repeat (first | apply Kd.R_alloc | apply Kd.R_drewN | apply Kd.R_drew)); exact HO215.out))) (below_size (bwA))); have n5_ := Aside0.mk (below_step (bwA) hb); clear HO201; clear HO205; clear HO209; clear HO215; clear HB; have HO201 := n0_; have HO205 := n1_; have HO209 := n2_; have HO215 := n3_; have HO222 := n4_; have HB := n5_; clear n0_ n1_ n2_ n3_ n4_ n5_; clear hb ho32; obtain ⟨Ao33, co33, eo33⟩ := Kd.R_slice HO222.out; subst eo33) | ((with_reducible refine gate_callee (f := 20) rfl ?_); refine goesA (some 34) Tryz.func20 #[.slice Ao22 t198.length co22, .slice Ao33 y220.length co33] ?_; (with_reducible refine (schema_Fits.calls k _ _ t198 _ _ y220 t223 _ ?side1 ?side2 ?side3 ?side4 ?side5 A7.out).mono ?_); (case side1 => repeat (first | exact (Kd.R_reads' HO201.out).2.2 | (with_reducible refine Kd.C_alloc ?_ _) | (with_reducible refine Kd.C_drewN ?_ _) | (with_reducible refine Kd.C_drew ?_))); (case side2 => exact (Kd.R_reads' HO201.out).2.1); (case side3 => repeat (first | exact (Kd.R_reads' HO222.out).2.2 | (with_reducible refine Kd.C_alloc ?_ _) | (with_reducible refine Kd.C_drewN ?_ _) | (with_reducible refine Kd.C_drew ?_))); (case side4 => exact (Kd.R_reads' HO222.out).2.1); (case side5 => exact Tabs.below HT.out (bwA)); rintro e w34 ⟨rfl, hb⟩; refine ⟨_, rfl, ?_⟩; have n0_ := Aside0.mk (Kd.R_below (by (with_reducible repeat (first | apply Kd.R_alloc | apply Kd.R_drewN | apply Kd.R_drew)); exact HO201.out) hb); have n1_ := Aside0.mk (Kd.R_below (by (with_reducible repeat (first | apply Kd.R_alloc | apply Kd.R_drewN | apply Kd.R_drew)); exact HO205.out) hb); have n2_ := Aside0.mk (Kd.R_below (by (with_reducible repeat (first | apply Kd.R_alloc | apply Kd.R_drewN | apply Kd.R_drew)); exact HO209.out) hb); have n3_ := Aside0.mk (Kd.R_below (by (with_reducible repeat (first | apply Kd.R_alloc | apply Kd.R_drewN | apply Kd.R_drew)); exact HO215.out) hb); have n4_ := Aside0.mk (Kd.R_below (by (with_reducible repeat (first | apply Kd.R_alloc | apply Kd.R_drewN | apply Kd.R_drew)); exact HO222.out) hb); have n5_ := Aside0.mk (below_step (bwA) hb); clear HO201; clear HO205; clear HO209; clear HO215; clear HO222; clear HB; have HO201 := n0_; have HO205 := n1_; have HO209 := n2_; have HO215 := n3_; have HO222 := n4_; have HB := n5_; clear n0_ n1_ n2_ n3_ n4_ n5_; (try clear hb); (try clear hb2); (try clear hk); (try clear hi)) | ((with_reducible refine gate_callee (f := 35) rfl ?_); refine goesA (some 36) Tryz.func35 #[.string (⟨#[120]⟩ : ByteArray)] ?_; (with_reducible refine (caduceuslaw04_text.calls (⟨#[120]⟩ : ByteArray) t224 t225 t226 _ A8.out).mono ?_); rintro e w35 ⟨rfl, hb⟩; refine ⟨_, rfl, ?_⟩; have n0_ := Aside0.mk (Kd.R_below (by (with_reducible repeat (first | apply Kd.R_alloc | apply Kd.R_drewN | apply Kd.R_drew)); exact HO201.out) hb); have n1_ := Aside0.mk (Kd.R_below (by (with_reducible repeat (first | apply Kd.R_alloc | apply Kd.R_drewN | apply Kd.R_drew)); exact HO205.out) hb); have n2_ := Aside0.mk (Kd.R_below (by (with_reducible repeat (first | apply Kd.R_alloc | apply Kd.R_drewN | apply Kd.R_drew)); exact HO209.out) hb); have n3_ := Aside0.mk (Kd.R_below (by (with_reducible repeat (first | apply Kd.R_alloc | apply Kd.R_drewN | apply Kd.R_drew)); exact HO215.out) hb); have n4_ := Aside0.mk (Kd.R_below (by (with_reducible repeat (first | apply Kd.R_alloc | apply Kd.R_drewN | apply Kd.R_drew)); exact HO222.out) hb); have n5_ := Aside0.mk (below_step (bwA) hb); clear HO201; clear HO205; clear HO209; clear HO215; clear HO222; clear HB; have HO201 := n0_; have HO205 := n1_; have HO209 := n2_; have HO215 := n3_; have HO222 := n4_; have HB := n5_; clear n0_ n1_ n2_ n3_ n4_ n5_; (try clear hb); (try clear hb2); (try clear hk); (try clear hi)) | ((with_reducible refine gate_dst (N := 38) rfl ?_); (try (refine gate_guard (by rfl) ?_; dsimp only)); refine Kd.R_lit k44 _ 44 ?hg (N := 38) ?hd (xs := ([(⟨(⟨#[97]⟩ : ByteArray), (⟨t224, t225, t226⟩ : S37)⟩ : S44)] : List (S44))) (inner := [.string (⟨#[97]⟩ : ByteArray), .int .i64 t224, .int .i64 t225, .string t226]) (ok := fun _ => True) (okp := fun _ => True) ?hr ?hp (fun _ hk => hk) trivial (Below.refl _ _) (Nat.le_refl _) (by simp) ?_; (case hd => rfl); (case hg => rfl); (case hr => first | (go_simp; done) | (go_simp; rfl)); (case hp => exact (Reps.c4 (show Kd.M k44 _ _ _ (⟨(⟨#[97]⟩ : ByteArray), (⟨t224, t225, t226⟩ : S37)⟩ : S44) [.string (⟨#[97]⟩ : ByteArray), .int .i64 t224, .int .i64 t225, .string t226] from (k44_mkM _ _ _ (⟨(⟨#[97]⟩ : ByteArray), (⟨t224, t225, t226⟩ : S37)⟩ : S44) )) (Reps.none _ _))); intro v228 w36 ho37 hb hg_ hnew_; clear hg_ hnew_; (first | rw [← Ny227.out] at ho37 | (simp only [Int.reduceToNat] at ho37; rw [← Ny227.out] at ho37)); have n0_ := Aside0.mk (Kd.R_below (by (with_reducible repeat (first | apply Kd.R_alloc | apply Kd.R_drewN | apply Kd.R_drew)); exact HO201.out) hb); have n1_ := Aside0.mk (Kd.R_below (by (with_reducible repeat (first | apply Kd.R_alloc | apply Kd.R_drewN | apply Kd.R_drew)); exact HO205.out) hb); have n2_ := Aside0.mk (Kd.R_below (by (with_reducible repeat (first | apply Kd.R_alloc | apply Kd.R_drewN | apply Kd.R_drew)); exact HO209.out) hb); have n3_ := Aside0.mk (Kd.R_elder' (by (with_reducible repeat (first | apply Kd.R_alloc | apply Kd.R_drewN | apply Kd.R_drew)); exact HO215.out) (Kd.R_base ho37) hb); have n4_ := Aside0.mk (Kd.R_elder' (by (with_reducible repeat (first | apply Kd.R_alloc | apply Kd.R_drewN | apply Kd.R_drew)); exact HO222.out) (Kd.R_base ho37) hb); have n5_ := Aside0.mk (Kd.R_lower (Kd.R_new' (Kd.R_new' ho37 (Kd.R_lt (by (with_reducible repeat (first | apply Kd.R_alloc | apply Kd.R_drewN | apply Kd.R_drew)); exact HO215.out))) (Kd.R_lt (by (with_reducible repeat (first | apply Kd.R_alloc | apply Kd.R_drewN | apply Kd.R_drew)); exact HO222.out))) (below_size (bwA))); have n6_ := Aside0.mk (below_step (bwA) hb); clear HO201; clear HO205; clear HO209; clear HO215; clear HO222; clear HB; have HO201 := n0_; have HO205 := n1_; have HO209 := n2_; have HO215 := n3_; have HO222 := n4_; have HO229 := n5_; have HB := n6_; clear n0_ n1_ n2_ n3_ n4_ n5_ n6_; clear hb ho37; obtain ⟨Ao38, co38, eo38⟩ := Kd.R_slice HO229.out; subst eo38) | ((with_reducible refine gate_callee (f := 20) rfl ?_); refine goesA (some 39) Tryz.func20 #[.slice Ao22 t198.length co22, .slice Ao38 y227.length co38] ?_; (with_reducible refine (schema_Fits.calls k _ _ t198 _ _ y227 t230 _ ?side1 ?side2 ?side3 ?side4 ?side5 A9.out).mono ?_); (case side1 => repeat (first | exact (Kd.R_reads' HO201.out).2.2 | (with_reducible refine Kd.C_alloc ?_ _) | (with_reducible refine Kd.C_drewN ?_ _) | (with_reducible refine Kd.C_drew ?_))); (case side2 => exact (Kd.R_reads' HO201.out).2.1); (case side3 => repeat (first | exact (Kd.R_reads' HO229.out).2.2 | (with_reducible refine Kd.C_alloc ?_ _) | (with_reducible refine Kd.C_drewN ?_ _) | (with_reducible refine Kd.C_drew ?_))); (case side4 => exact (Kd.R_reads' HO229.out).2.1); (case side5 => exact Tabs.below HT.out (bwA)); rintro e w39 ⟨rfl, hb⟩; refine ⟨_, rfl, ?_⟩; have n0_ := Aside0.mk (Kd.R_below (by (with_reducible repeat (first | apply Kd.R_alloc | apply Kd.R_drewN | apply Kd.R_drew)); exact HO201.out) hb); have n1_ := Aside0.mk (Kd.R_below (by (with_reducible repeat (first | apply Kd.R_alloc | apply Kd.R_drewN | apply Kd.R_drew)); exact HO205.out) hb); have n2_ := Aside0.mk (Kd.R_below (by (with_reducible repeat (first | apply Kd.R_alloc | apply Kd.R_drewN | apply Kd.R_drew)); exact HO209.out) hb); have n3_ := Aside0.mk (Kd.R_below (by (with_reducible repeat (first | apply Kd.R_alloc | apply Kd.R_drewN | apply Kd.R_drew)); exact HO215.out) hb); have n4_ := Aside0.mk (Kd.R_below (by (with_reducible repeat (first | apply Kd.R_alloc | apply Kd.R_drewN | apply Kd.R_drew)); exact HO222.out) hb); have n5_ := Aside0.mk (Kd.R_below (by (with_reducible repeat (first | apply Kd.R_alloc | apply Kd.R_drewN | apply Kd.R_drew)); exact HO229.out) hb); have n6_ := Aside0.mk (below_step (bwA) hb); clear HO201; clear HO205; clear HO209; clear HO215; clear HO222; clear HO229; clear HB; have HO201 := n0_; have HO205 := n1_; have HO209 := n2_; have HO215 := n3_; have HO222 := n4_; have HO229 := n5_; have HB := n6_; clear n0_ n1_ n2_ n3_ n4_ n5_ n6_; (try clear hb); (try clear hb2); (try clear hk); (try clear hi)) | ((with_reducible refine gate_callee (f := 34) rfl ?_); refine goesA (some 41) Tryz.func34 #[.int .i64 1] ?_; (with_reducible refine (caduceuslaw04_num.calls 1 t231 t232 t233 _ A10.out).mono ?_); rintro e w40 ⟨rfl, hb⟩; refine ⟨_, rfl, ?_⟩; have n0_ := Aside0.mk (Kd.R_below (by (with_reducible repeat (first | apply Kd.R_alloc | apply Kd.R_drewN | apply Kd.R_drew)); exact HO201.out) hb); have n1_ := Aside0.mk (Kd.R_below (by (with_reducible repeat (first | apply Kd.R_alloc | apply Kd.R_drewN | apply Kd.R_drew)); exact HO205.out) hb); have n2_ := Aside0.mk (Kd.R_below (by (with_reducible repeat (first | apply Kd.R_alloc | apply Kd.R_drewN | apply Kd.R_drew)); exact HO209.out) hb); have n3_ := Aside0.mk (Kd.R_below (by (with_reducible repeat (first | apply Kd.R_alloc | apply Kd.R_drewN | apply Kd.R_drew)); exact HO215.out) hb); have n4_ := Aside0.mk (Kd.R_below (by (with_reducible repeat (first | apply Kd.R_alloc | apply Kd.R_drewN | apply Kd.R_drew)); exact HO222.out) hb); have n5_ := Aside0.mk (Kd.R_below (by (with_reducible repeat (first | apply Kd.R_alloc | apply Kd.R_drewN | apply Kd.R_drew)); exact HO229.out) hb); have n6_ := Aside0.mk (below_step (bwA) hb); clear HO201; clear HO205; clear HO209; clear HO215; clear HO222; clear HO229; clear HB; have HO201 := n0_; have HO205 := n1_; have HO209 := n2_; have HO215 := n3_; have HO222 := n4_; have HO229 := n5_; have HB := n6_; clear n0_ n1_ n2_ n3_ n4_ n5_ n6_; (try clear hb); (try clear hb2); (try clear hk); (try clear hi)) | ((with_reducible refine gate_callee (f := 34) rfl ?_); refine goesA (some 43) Tryz.func34 #[.int .i64 2] ?_; (with_reducible refine (caduceuslaw04_num.calls 2 t234 t235 t236 _ A11.out).mono ?_); rintro e w41 ⟨rfl, hb⟩; refine ⟨_, rfl, ?_⟩; have n0_ := Aside0.mk (Kd.R_below (by (with_reducible repeat (first | apply Kd.R_alloc | apply Kd.R_drewN | apply Kd.R_drew)); exact HO201.out) hb); have n1_ := Aside0.mk (Kd.R_below (by (with_reducible repeat (first | apply Kd.R_alloc | apply Kd.R_drewN | apply Kd.R_drew)); exact HO205.out) hb); have n2_ := Aside0.mk (Kd.R_below (by (with_reducible repeat (first | apply Kd.R_alloc | apply Kd.R_drewN | apply Kd.R_drew)); exact HO209.out) hb); have n3_ := Aside0.mk (Kd.R_below (by (with_reducible repeat (first | apply Kd.R_alloc | apply Kd.R_drewN | apply Kd.R_drew)); exact HO215.out) hb); have n4_ := Aside0.mk (Kd.R_below (by (with_reducible repeat (first | apply Kd.R_alloc | apply Kd.R_drewN | apply Kd.R_drew)); exact HO222.out) hb); have n5_ := Aside0.mk (Kd.R_below (by (with_reducible repeat (first | apply Kd.R_alloc | apply Kd.R_drewN | apply Kd.R_drew)); exact HO229.out) hb); have n6_ := Aside0.mk (below_step (bwA) hb); clear HO201; clear HO205; clear HO209; clear HO215; clear HO222; clear HO229; clear HB; have HO201 := n0_; have HO205 := n1_; have HO209 := n2_; have HO215 := n3_; have HO222 := n4_; have HO229 := n5_; have HB := n6_; clear n0_ n1_ n2_ n3_ n4_ n5_ n6_; (try clear hb); (try clear hb2); (try clear hk); (try clear hi)) | ((with_reducible refine gate_dst (N := 45) rfl ?_); (try (refine gate_guard (by rfl) ?_; dsimp only)); refine Kd.R_lit k44 _ 44 ?hg (N := 45) ?hd (xs := ([(⟨(⟨#[97]⟩ : ByteArray), (⟨t231, t232, t233⟩ : S37)⟩ : S44), (⟨(⟨#[99]⟩ : ByteArray), (⟨t234, t235, t236⟩ : S37)⟩ : S44)] : List (S44))) (inner := [.string (⟨#[97]⟩ : ByteArray), .int .i64 t231, .int .i64 t232, .string t233, .string (⟨#[99]⟩ : ByteArray), .int .i64 t234, .int .i64 t235, .string t236]) (ok := fun _ => True) (okp := fun _ => True) ?hr ?hp (fun _ hk => hk) trivial (Below.refl _ _) (Nat.le_refl _) (by simp) ?_; (case hd => rfl); (case hg => rfl); (case hr => first | (go_simp; done) | (go_simp; rfl)); (case hp => exact (Reps.c4 (show Kd.M k44 _ _ _ (⟨(⟨#[97]⟩ : ByteArray), (⟨t231, t232, t233⟩ : S37)⟩ : S44) [.string (⟨#[97]⟩ : ByteArray), .int .i64 t231, .int .i64 t232, .string t233] from (k44_mkM _ _ _ (⟨(⟨#[97]⟩ : ByteArray), (⟨t231, t232, t233⟩ : S37)⟩ : S44) )) (Reps.c4 (show Kd.M k44 _ _ _ (⟨(⟨#[99]⟩ : ByteArray), (⟨t234, t235, t236⟩ : S37)⟩ : S44) [.string (⟨#[99]⟩ : ByteArray), .int .i64 t234, .int .i64 t235, .string t236] from (k44_mkM _ _ _ (⟨(⟨#[99]⟩ : ByteArray), (⟨t234, t235, t236⟩ : S37)⟩ : S44) )) (Reps.none _ _)))); intro v238 w42 ho43 hb hg_ hnew_; clear hg_ hnew_; (first | rw [← Ny237.out] at ho43 | (simp only [Int.reduceToNat] at ho43; rw [← Ny237.out] at ho43)); have n0_ := Aside0.mk (Kd.R_below (by (with_reducible repeat (first | apply Kd.R_alloc | apply Kd.R_drewN | apply Kd.R_drew)); exact HO201.out) hb); have n1_ := Aside0.mk (Kd.R_below (by (with_reducible repeat (first | apply Kd.R_alloc | apply Kd.R_drewN | apply Kd.R_drew)); exact HO205.out) hb); have n2_ := Aside0.mk (Kd.R_below (by (with_reducible repeat (first | apply Kd.R_alloc | apply Kd.R_drewN | apply Kd.R_drew)); exact HO209.out) hb); have n3_ := Aside0.mk (Kd.R_elder' (by (with_reducible repeat (first | apply Kd.R_alloc | apply Kd.R_drewN | apply Kd.R_drew)); exact HO215.out) (Kd.R_base ho43) hb); have n4_ := Aside0.mk (Kd.R_elder' (by (with_reducible repeat (first | apply Kd.R_alloc | apply Kd.R_drewN | apply Kd.R_drew)); exact HO222.out) (Kd.R_base ho43) hb); have n5_ := Aside0.mk (Kd.R_elder' (by (with_reducible repeat (first | apply Kd.R_alloc | apply Kd.R_drewN | apply Kd.R_drew)); exact HO229.out) (Kd.R_base ho43) hb); have n6_ := Aside0.mk (Kd.R_lower (Kd.R_new' (Kd.R_new' (Kd.R_new' ho43 (Kd.R_lt (by (with_reducible repeat (first | apply Kd.R_alloc | apply Kd.R_drewN | apply Kd.R_drew)); exact HO215.out))) (Kd.R_lt (by (with_reducible repeat (first | apply Kd.R_alloc | apply Kd.R_drewN | apply Kd.R_drew)); exact HO222.out))) (Kd.R_lt (by (with_reducible repeat (first | apply Kd.R_alloc | apply Kd.R_drewN | apply Kd.R_drew)); exact HO229.out))) (below_size (bwA))); have n7_ := Aside0.mk (below_step (bwA) hb); clear HO201; clear HO205; clear HO209; clear HO215; clear HO222; clear HO229; clear HB; have HO201 := n0_; have HO205 := n1_; have HO209 := n2_; have HO215 := n3_; have HO222 := n4_; have HO229 := n5_; have HO239 := n6_; have HB := n7_; clear n0_ n1_ n2_ n3_ n4_ n5_ n6_ n7_; clear hb ho43; obtain ⟨Ao44, co44, eo44⟩ := Kd.R_slice HO239.out; subst eo44) | ((with_reducible refine gate_callee (f := 20) rfl ?_); refine goesA (some 46) Tryz.func20 #[.slice Ao22 t198.length co22, .slice Ao44 y237.length co44] ?_; (with_reducible refine (schema_Fits.calls k _ _ t198 _ _ y237 t240 _ ?side1 ?side2 ?side3 ?side4 ?side5 A12.out).mono ?_); (case side1 => repeat (first | exact (Kd.R_reads' HO201.out).2.2 | (with_reducible refine Kd.C_alloc ?_ _) | (with_reducible refine Kd.C_drewN ?_ _) | (with_reducible refine Kd.C_drew ?_))); (case side2 => exact (Kd.R_reads' HO201.out).2.1); (case side3 => repeat (first | exact (Kd.R_reads' HO239.out).2.2 | (with_reducible refine Kd.C_alloc ?_ _) | (with_reducible refine Kd.C_drewN ?_ _) | (with_reducible refine Kd.C_drew ?_))); (case side4 => exact (Kd.R_reads' HO239.out).2.1); (case side5 => exact Tabs.below HT.out (bwA)); rintro e w45 ⟨rfl, hb⟩; refine ⟨_, rfl, ?_⟩; have n0_ := Aside0.mk (Kd.R_below (by (with_reducible repeat (first | apply Kd.R_alloc | apply Kd.R_drewN | apply Kd.R_drew)); exact HO201.out) hb); have n1_ := Aside0.mk (Kd.R_below (by (with_reducible repeat (first | apply Kd.R_alloc | apply Kd.R_drewN | apply Kd.R_drew)); exact HO205.out) hb); have n2_ := Aside0.mk (Kd.R_below (by (with_reducible repeat (first | apply Kd.R_alloc | apply Kd.R_drewN | apply Kd.R_drew)); exact HO209.out) hb); have n3_ := Aside0.mk (Kd.R_below (by (with_reducible repeat (first | apply Kd.R_alloc | apply Kd.R_drewN | apply Kd.R_drew)); exact HO215.out) hb); have n4_ := Aside0.mk (Kd.R_below (by (with_reducible repeat (first | apply Kd.R_alloc | apply Kd.R_drewN | apply Kd.R_drew)); exact HO222.out) hb); have n5_ := Aside0.mk (Kd.R_below (by (with_reducible repeat (first | apply Kd.R_alloc | apply Kd.R_drewN | apply Kd.R_drew)); exact HO229.out) hb); have n6_ := Aside0.mk (Kd.R_below (by (with_reducible repeat (first | apply Kd.R_alloc | apply Kd.R_drewN | apply Kd.R_drew)); exact HO239.out) hb); have n7_ := Aside0.mk (below_step (bwA) hb); clear HO201; clear HO205; clear HO209; clear HO215; clear HO222; clear HO229; clear HO239; clear HB; have HO201 := n0_; have HO205 := n1_; have HO209 := n2_; have HO215 := n3_; have HO222 := n4_; have HO229 := n5_; have HO239 := n6_; have HB := n7_; clear n0_ n1_ n2_ n3_ n4_ n5_ n6_ n7_; (try clear hb); (try clear hb2); (try clear hk); (try clear hi)))
        go_ret
        exact ⟨endA, bwA⟩
       ·rw [if_neg c19] at H
        exact absurd H (by simp)
      ·rw [if_neg c18] at H
       exact absurd H (by simp)
     ·rw [if_neg c17] at H
      exact absurd H (by simp)
    ·rw [if_neg c16] at H
     exact absurd H (by simp)
   ·rw [if_neg c15] at H
    exact absurd H (by simp)
  ·rw [if_neg c14] at H
   exact absurd H (by simp)
 ·rw [if_neg c13] at H
  exact absurd H (by simp)

end Go.Proofs.YtnbbajiabbmdmaaGreatDoor.A
