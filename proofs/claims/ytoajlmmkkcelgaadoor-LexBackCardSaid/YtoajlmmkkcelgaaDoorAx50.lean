-- By drv.py, the session's own driver round the kit's print: the machine's side of the laws, function by function. Not trusted: Lean checks it.
import Derived.Test.YtoajlmmkkcelgaaDoorAx0
import Derived.Test.YtoajlmmkkcelgaaDoorAx13
import Derived.Test.YtoajlmmkkcelgaaDoorAx18
import Derived.Test.YtoajlmmkkcelgaaDoorAx19
import Derived.Test.YtoajlmmkkcelgaaDoorAx28
import Derived.Test.YtoajlmmkkcelgaaDoorAx29
import Derived.Test.YtoajlmmkkcelgaaDoorAx30
namespace Go.Proofs.YtoajlmmkkcelgaaDoor.A
open Go.RowKit Go.Proofs.YtoajlmmkkcelgaaDoorW.PrintWords Go.Proofs.YtoajlmmkkcelgaaDoorW.PrintLast Go.Proofs.YtoajlmmkkcelgaaDoorW.PrintMore
attribute [local go_sem] max2_int min2_int max_two min_two max_three min_three max_four min_four   -- for this text's walks alone
set_option linter.unusedVariables false
set_option linter.unusedSimpArgs false

/-! ### strings_Join: function 66, by hand -/
def strings_Join.f (l0 : List ByteArray) (a1 : ByteArray) : Option ByteArray := if l0.length ≤ 140737488355328 ∧ (Lib.join (l0.map (·.data.toList)) a1.data.toList).length ≤ 140737488355328 then some ⟨(Lib.join (l0.map (·.data.toList)) a1.data.toList).toArray⟩ else none
theorem strings_Join.calls (A0 : Option Addr) (c0 : Nat) (l0 : List ByteArray) (a1 : ByteArray) (r : ByteArray) (w : World) (hr0 : Kd.C Kd.string w A0 l0.length l0) (hc0 : l0.length ≤ c0) (h : strings_Join.f l0 a1 = some r) :
  Calls Tryd.prog 66 #[.slice A0 l0.length c0, .string a1] w fun e w' => e = .returned (.string r) ∧ Below w.heap.size w w' := by
 unfold strings_Join.f at h
 split at h
 ·rename_i hs
  obtain rfl := Option.some.inj h
  cases l0 with
  | nil =>
   refine (Tryd.strings_Join_none A0 c0 a1 w).mono ?_
   rintro e w' ⟨he, rfl⟩
   exact ⟨he, Below.refl _ _⟩
  | cons x t =>
   obtain ⟨b, o, rfl, hb, hc⟩ := Kd.C_addr hr0 (by simp) (by decide)
   refine Tryd.strings_Join b o c0 (x :: t) a1 w (fun j y hj => ?_) hb hs.1 hc0 hs.2
   obtain ⟨cs, c1, c2, c3⟩ := hc j y hj
   have e : cs = [.string y] := c2
   have := c3 0 (.string y) (by rw [e]; rfl)
   rw [show o + j = o + j * Kd.string.sz + 0 from by show o + j = o + j * 1 + 0; omega]
   exact this
 ·cases h

/-! ### lex_Show: function 37 -/
def lex_Show.l0 : Nat → List ByteArray → List (S68) → Int → Int → Option (ByteArray)
 | 0, _, _, _, _ => none
 | k + 1, x3, x6, x7, x8 => if x8 < x7 then (if 0 ≤ x8 then (if x8 < (x6.length : Int) then (if ((rd_T68 x6 x8).f0) = 2 then ((value_Show.f k ((rd_T68 x6 x8).f3.f0) ((rd_T68 x6 x8).f3.f1) ((rd_T68 x6 x8).f3.f2)).bind fun t664 => (if x3.length < 8796093022208 then (lex_Show.l0 k (x3 ++ [t664]) x6 x7 (wrap64 (x8 + 1))) else (none))) else (if x3.length < 8796093022208 then (lex_Show.l0 k (x3 ++ [(rd_T68 x6 x8).f2]) x6 x7 (wrap64 (x8 + 1))) else (none))) else (none)) else (none)) else ((strings_Join.f x3 (⟨#[32]⟩ : ByteArray)).bind fun t671 => (some t671))
def lex_Show.f (k : Nat) (l0 : List (S68)) : Option (ByteArray) := lex_Show.l0 k ([] : List ByteArray) l0 (l0.length : Int) 0
theorem lex_Show.mono_l : ∀ k, (∀ y0 y1 y2 y3, LeO (lex_Show.l0 k y0 y1 y2 y3) (lex_Show.l0 (k + 1) y0 y1 y2 y3))
 | 0 => fun _ _ _ _ r h => by simp [lex_Show.l0] at h
 | k + 1 => by
  have ih0 := lex_Show.mono_l k
  ·intro y0 y1 y2 y3
   unfold lex_Show.l0
   repeat' first
   | (with_reducible exact ih0 _ _ _ _)
   | (with_reducible exact value_Show.mono _ _ _ _)
   | (with_reducible exact LeO.refl _)
   | (with_reducible exact LeO.none _)
   | (with_reducible refine LeO.ite ?_ ?_)
   | (with_reducible refine LeO.bind ?_ (fun _ => ?_))
   | exact ih0 _ _ _ _
   | exact value_Show.mono _ _ _ _
   | exact LeO.none _
   | refine LeO.ite ?_ ?_
   | refine LeO.bind ?_ (fun _ => ?_)
theorem lex_Show.mono : ∀ a0 k, LeO (lex_Show.f k a0) (lex_Show.f (k + 1) a0) := by
 intro a0 k
 have ih0 := lex_Show.mono_l k
 unfold lex_Show.f
 repeat' first
   | (with_reducible exact ih0 _ _ _ _)
   | (with_reducible exact value_Show.mono _ _ _ _)
   | (with_reducible exact LeO.refl _)
   | (with_reducible exact LeO.none _)
   | (with_reducible refine LeO.ite ?_ ?_)
   | (with_reducible refine LeO.bind ?_ (fun _ => ?_))
   | exact ih0 _ _ _ _
   | exact value_Show.mono _ _ _ _
   | exact LeO.none _
   | refine LeO.ite ?_ ?_
   | refine LeO.bind ?_ (fun _ => ?_)
set_option maxHeartbeats 8000000 in
set_option maxRecDepth 100000 in
theorem lex_Show.calls (k : Nat) (A0 : Option Addr) (c0 : Nat) (l0 : List (S68)) (r : ByteArray) (w : World) (hr0 : Kd.C k68 w A0 l0.length l0) (hc0 : l0.length ≤ c0) (hT : Tabs w) (h : lex_Show.f k l0 = some r) :
  Calls Tryd.prog 37 #[.slice A0 l0.length c0] w fun e w' => e = .returned (.string r) ∧ Below w.heap.size w w' := by
 have hu68 := Tryd.underlying68
 have hu25 := Tryd.underlying25
 have HR0 := Aside0.mk hr0
 have HC0 := Aside0.mk hc0
 clear hr0 hc0
 have HB := Aside0.mk (Below.refl w.heap.size w)
 have H : (lex_Show.l0 k ([] : List ByteArray) l0 (l0.length : Int) 0) = some r := h
 clear h
 have HT := Aside0.mk hT
 clear hT
 have H' := Aside0.mk H
 clear H
 go_enter Tryd.func37, Tryd.ntmps37
 go_wp2
 go_loopg [3, 8] k (fun kq v3 v8 w' => ∃ (x3_1 : List ByteArray) (x8_1 : Int), v8 = .int .i64 x8_1 ∧ Aside0 (lex_Show.l0 kq x3_1 l0 (l0.length : Int) x8_1 = some r) ∧ Aside0 (kq ≤ k) ∧ Aside0 (Kd.R Kd.string 9 w' w.heap.size (fun _ => True) v3 x3_1) ∧ Aside0 (Below w.heap.size w w'))
 case atStart => exact ⟨(([] : List ByteArray)), (0), (by first | rfl | (simp; done) | (simp [*]; done)), H', ⟨Nat.le_refl _⟩, ⟨by first | exact Kd.R_nil _ _ _ _ _ | exact Kd.N_nil _ _ _ _ _ | exact Kd.V_nil _ _ _ _ _ | exact Kd.Q_nil _ _ _ _ _ | exact Kd.S_nil _ _ _ _ _⟩, ⟨by repeat (first | (with_reducible first | exact HB.out | apply below_alloc | apply pw_below_drewN | apply below_drew1) | exact HB.out)⟩⟩
 case round =>
  clear H'
  obtain ⟨x3_1, x8_1, rfl, HA, HK1, HO_3, HB⟩ := hrel
  cases gk with
  | zero => exact absurd HA.out (by simp [lex_Show.l0])
  | succ k1 =>
   have H := HA.out
   clear HA
   simp only [lex_Show.l0] at H
   by_cases c2 : x8_1 < (l0.length : Int)
   ·rw [if_pos c2] at H
    have c2b0 : decide (x8_1 < (l0.length : Int)) = true := decide_eq_true c2
    clear c2
    by_cases c3 : 0 ≤ x8_1
    ·rw [if_pos c3] at H
     have c3b0 : decide (0 ≤ x8_1) = true := decide_eq_true c3
     clear c3
     by_cases c4 : x8_1 < (l0.length : Int)
     ·rw [if_pos c4] at H
      have c4b0 : decide (x8_1 < (l0.length : Int)) = true := decide_eq_true c4
      clear c4
      by_cases c5 : ((rd_T68 l0 x8_1).f0) = 2
      ·rw [if_pos c5] at H
       have c5b0 : (((rd_T68 l0 x8_1).f0) == 2) = true := beq_iff_eq.mpr c5
       have c5b1 : (((rd_T68 l0 x8_1).f0) != 2) = false := bne_eq_false_iff_eq.mpr c5
       clear c5
       replace H := Option.bind_eq_some_iff.mp H
       obtain ⟨t664, A60, H⟩ := H
       replace H : (if x3_1.length < 8796093022208 then (lex_Show.l0 k1 (x3_1 ++ [t664]) l0 (l0.length : Int) (wrap64 (x8_1 + 1))) else (none)) = some r := H
       have A6 := Aside0.mk A60
       clear A60
       by_cases c7 : x3_1.length < 8796093022208
       ·rw [if_pos c7] at H
        have LMc7 := Aside0.mk c7
        clear c7
        obtain ⟨y665, hy665⟩ : ∃ y_ : List ByteArray, y_ = (x3_1 ++ [t664]) := ⟨_, rfl⟩
        replace H : (lex_Show.l0 k1 y665 l0 (l0.length : Int) (wrap64 (x8_1 + 1))) = some r := by first | (rw [hy665]; with_reducible exact H) | (have H2_ := (Option.bind_some _ _).symm.trans H; rw [hy665]; with_reducible exact H2_) | (have H2_ := (Option.bind_some _ _).symm.trans H; with_reducible exact H2_) | with_reducible exact H | (rw [hy665]; exact H) | exact H
        have Ny665 := Aside0.mk hy665
        clear hy665
        have H' := Aside0.mk H
        clear H
        have p662 : 0 ≤ (x8_1 : Int) := of_decide_eq_true (by first | (with_reducible assumption) | assumption)
        have q662 : x8_1 < (l0.length : Int) := of_decide_eq_true (by first | (with_reducible assumption) | assumption)
        obtain ⟨ad662, e662, hx662_0, hx662_1, hx662_2, hx662_3, hx662_4, hx662_5⟩ := at_T68 HR0.out x8_1 p662 q662
        cases e662
        replace hx662_0 := (HB.out.cell (World.block_lt_of_cell? w _ hx662_0)).trans hx662_0
        replace hx662_1 := (HB.out.cell (World.block_lt_of_cell? w _ hx662_1)).trans hx662_1
        replace hx662_2 := (HB.out.cell (World.block_lt_of_cell? w _ hx662_2)).trans hx662_2
        replace hx662_3 := (HB.out.cell (World.block_lt_of_cell? w _ hx662_3)).trans hx662_3
        replace hx662_4 := (HB.out.cell (World.block_lt_of_cell? w _ hx662_4)).trans hx662_4
        replace hx662_5 := (HB.out.cell (World.block_lt_of_cell? w _ hx662_5)).trans hx662_5
        replace p662 := eq_true p662
        replace q662 := eq_true q662
        go_wp2_with (first | ((with_reducible refine gate_dst (N := 5) rfl ?_); refine box_event ?hg (N := 5) ?hd (cs := #[.int .i64 0, .int .i64 0, .string (⟨#[]⟩ : ByteArray), .int .i64 0, .int .i64 0, .string (⟨#[]⟩ : ByteArray)]) (t := 68) ?hr ?_; (case hd => rfl); (case hg => rfl); (case hr => first | (go_simp; done) | (go_simp; rfl)); intro gb663 hg w8 hbox hb; have n0_ := Aside0.mk (Kd.R_below (by (with_reducible repeat (first | apply Kd.R_alloc | apply Kd.R_drewN | apply Kd.R_drew)); exact HO_3.out) hb); have n1_ := Aside0.mk (below_step bwA hb); have n2_ := Aside0.mk (hbox); have n3_ := Aside0.mk ((by rw [hg]; exact (below_size bwA) : w.heap.size ≤ gb663)); have n4_ := Aside0.mk ((by rw [hg]; exact (below_size bwA) : w.heap.size ≤ gb663)); clear HO_3; clear HB; have HO_3 := n0_; have HB := n1_; have BK663 := n2_; have GW663 := n3_; have GE663 := n4_; clear n0_ n1_ n2_ n3_ n4_; clear hb hbox hg; have hcz9_0 : w8.cell? ⟨gb663, 0, none⟩ = some (.int .i64 0) := (blk_cell BK663.out 0).trans rfl; have hcz9_1 : w8.cell? ⟨gb663, 1, none⟩ = some (.int .i64 0) := (blk_cell BK663.out 1).trans rfl; have hcz9_2 : w8.cell? ⟨gb663, 2, none⟩ = some (.string (⟨#[]⟩ : ByteArray)) := (blk_cell BK663.out 2).trans rfl; have hcz9_3 : w8.cell? ⟨gb663, 3, none⟩ = some (.int .i64 0) := (blk_cell BK663.out 3).trans rfl; have hcz9_4 : w8.cell? ⟨gb663, 4, none⟩ = some (.int .i64 0) := (blk_cell BK663.out 4).trans rfl; have hcz9_5 : w8.cell? ⟨gb663, 5, none⟩ = some (.string (⟨#[]⟩ : ByteArray)) := (blk_cell BK663.out 5).trans rfl; have hfz9_0 := blk_frozen BK663.out 0; have hfz9_1 := blk_frozen BK663.out 1; have hfz9_2 := blk_frozen BK663.out 2; have hfz9_3 := blk_frozen BK663.out 3; have hfz9_4 := blk_frozen BK663.out 4; have hfz9_5 := blk_frozen BK663.out 5) | ((with_reducible refine gate_callee (f := 39) rfl ?_); refine goesA (some 18) Tryd.func39 #[.agg #[.int .i64 ((rd_T68 l0 x8_1).f3.f0), .int .i64 ((rd_T68 l0 x8_1).f3.f1), .string ((rd_T68 l0 x8_1).f3.f2)]] ?_; (with_reducible refine (value_Show.calls k1 ((rd_T68 l0 x8_1).f3.f0) ((rd_T68 l0 x8_1).f3.f1) ((rd_T68 l0 x8_1).f3.f2) t664 _ ?side1 A6.out).mono ?_); (case side1 => exact Tabs.below HT.out bwA); rintro e w10 ⟨rfl, hb⟩; refine ⟨_, rfl, ?_⟩; have n0_ := Aside0.mk (Kd.R_below (by (with_reducible repeat (first | apply Kd.R_alloc | apply Kd.R_drewN | apply Kd.R_drew)); exact (Kd.R_mono (Kd.R_far (p := ⟨gb663, 5, none⟩) (Kd.R_far (p := ⟨gb663, 4, none⟩) (Kd.R_far (p := ⟨gb663, 3, none⟩) (Kd.R_far (p := ⟨gb663, 2, none⟩) (Kd.R_far (p := ⟨gb663, 1, none⟩) (Kd.R_far (p := ⟨gb663, 0, none⟩) (Kd.R_types HO_3.out BK663.out (by decide)) (fun _ hk => hk.2) (.int .i64 ((rd_T68 l0 x8_1).f0))) (fun _ hk => hk.2) (.int .i64 ((rd_T68 l0 x8_1).f1))) (fun _ hk => hk.2) (.string ((rd_T68 l0 x8_1).f2))) (fun _ hk => hk.2) (.int .i64 ((rd_T68 l0 x8_1).f3.f0))) (fun _ hk => hk.2) (.int .i64 ((rd_T68 l0 x8_1).f3.f1))) (fun _ hk => hk.2) (.string ((rd_T68 l0 x8_1).f3.f2))) (fun _ h_ => h_.1))) hb); have n1_ := Aside0.mk (blk_below (g := gb663) (o := .cells #[.int .i64 ((rd_T68 l0 x8_1).f0), .int .i64 ((rd_T68 l0 x8_1).f1), .string ((rd_T68 l0 x8_1).f2), .int .i64 ((rd_T68 l0 x8_1).f3.f0), .int .i64 ((rd_T68 l0 x8_1).f3.f1), .string ((rd_T68 l0 x8_1).f3.f2)] 68 (0, 0)) (by (with_reducible repeat (first | refine blk_drewN ?_ _ | refine blk_drew ?_ | refine blk_alloc ?_ _)); refine blk_put (cs := #[.int .i64 ((rd_T68 l0 x8_1).f0), .int .i64 ((rd_T68 l0 x8_1).f1), .string ((rd_T68 l0 x8_1).f2), .int .i64 ((rd_T68 l0 x8_1).f3.f0), .int .i64 ((rd_T68 l0 x8_1).f3.f1), .string (⟨#[]⟩ : ByteArray)]) ?_ 5 _ rfl; (with_reducible repeat (first | refine blk_drewN ?_ _ | refine blk_drew ?_ | refine blk_alloc ?_ _)); refine blk_put (cs := #[.int .i64 ((rd_T68 l0 x8_1).f0), .int .i64 ((rd_T68 l0 x8_1).f1), .string ((rd_T68 l0 x8_1).f2), .int .i64 ((rd_T68 l0 x8_1).f3.f0), .int .i64 0, .string (⟨#[]⟩ : ByteArray)]) ?_ 4 _ rfl; (with_reducible repeat (first | refine blk_drewN ?_ _ | refine blk_drew ?_ | refine blk_alloc ?_ _)); refine blk_put (cs := #[.int .i64 ((rd_T68 l0 x8_1).f0), .int .i64 ((rd_T68 l0 x8_1).f1), .string ((rd_T68 l0 x8_1).f2), .int .i64 0, .int .i64 0, .string (⟨#[]⟩ : ByteArray)]) ?_ 3 _ rfl; (with_reducible repeat (first | refine blk_drewN ?_ _ | refine blk_drew ?_ | refine blk_alloc ?_ _)); refine blk_put (cs := #[.int .i64 ((rd_T68 l0 x8_1).f0), .int .i64 ((rd_T68 l0 x8_1).f1), .string (⟨#[]⟩ : ByteArray), .int .i64 0, .int .i64 0, .string (⟨#[]⟩ : ByteArray)]) ?_ 2 _ rfl; (with_reducible repeat (first | refine blk_drewN ?_ _ | refine blk_drew ?_ | refine blk_alloc ?_ _)); refine blk_put (cs := #[.int .i64 ((rd_T68 l0 x8_1).f0), .int .i64 0, .string (⟨#[]⟩ : ByteArray), .int .i64 0, .int .i64 0, .string (⟨#[]⟩ : ByteArray)]) ?_ 1 _ rfl; (with_reducible repeat (first | refine blk_drewN ?_ _ | refine blk_drew ?_ | refine blk_alloc ?_ _)); refine blk_put (cs := #[.int .i64 0, .int .i64 0, .string (⟨#[]⟩ : ByteArray), .int .i64 0, .int .i64 0, .string (⟨#[]⟩ : ByteArray)]) ?_ 0 _ rfl; (with_reducible repeat (first | refine blk_drewN ?_ _ | refine blk_drew ?_ | refine blk_alloc ?_ _)); exact BK663.out) hb); have n2_ := Aside0.mk (below_step bwA hb); clear HO_3; clear BK663; clear HB; have HO_3 := n0_; have BK663 := n1_; have HB := n2_; clear n0_ n1_ n2_; (try clear hb); (try clear hb2); (try clear hk); (try clear hi)) | ((with_reducible refine gate_builtin (b := .append) (xs := #[.tmp 15, .tmp 19]) rfl ?_); at_builtin; refine Kd.R_append Kd.string (w0 := w) w.heap.size rfl (.tmp 15) (.tmp 19) 100 9 (.string ⟨#[]⟩) 16 rfl Tryd.underlying100 info9 rfl (by decide) (by omega) u3 x3_1 t664 [.string t664] (fun _ => True) (fun _ => False) rfl rfl ?aP (fun _ hk => hk.elim) ?aF ?aO ?aB ?aS ?aL ?_; (case aP => exact rfl); (case aB => exact bwA); (case aF => exact (fun _ _ => trivial)); (case aO => exact (by (with_reducible repeat (first | apply Kd.R_alloc | apply Kd.R_drewN | apply Kd.R_drew)); exact HO_3.out)); (case aS => exact (below_size bwA)); (case aL => have := LMc7.out; omega); intro v666 w11 ho hb hg hat; rw [← Ny665.out] at ho; have n0_ := Aside0.mk (blk_grown (g := gb663) (o := .cells #[.int .i64 ((rd_T68 l0 x8_1).f0), .int .i64 ((rd_T68 l0 x8_1).f1), .string ((rd_T68 l0 x8_1).f2), .int .i64 ((rd_T68 l0 x8_1).f3.f0), .int .i64 ((rd_T68 l0 x8_1).f3.f1), .string ((rd_T68 l0 x8_1).f3.f2)] 68 (0, 0)) blkA hg (Kd.R_ne HO_3.out BK663.out (by decide))); have n1_ := Aside0.mk (hb); have n2_ := Aside0.mk (ho); clear BK663; clear HB; clear HO_3; have BK663 := n0_; have HB := n1_; have HO667 := n2_; clear n0_ n1_ n2_; clear ho hb hg hat))
        go_roundg k1
        case measure => have := HK1.out; omega
        case rel => exact ⟨(y665), (wrap64 (x8_1 + 1)), (by first | rfl | (simp; done) | (simp [*]; done)), H', ⟨by have := HK1.out; omega⟩, ⟨by (with_reducible repeat (first | apply Kd.R_alloc | apply Kd.R_drewN | apply Kd.R_drew)); exact HO667.out⟩, ⟨by repeat (first | (with_reducible first | exact HB.out | apply below_alloc | apply pw_below_drewN | apply below_drew1 | refine below_set ?_ GE663.out) | exact HB.out)⟩⟩
       ·rw [if_neg c7] at H
        exact absurd H (by simp)
      ·rw [if_neg c5] at H
       have c5b0 : (((rd_T68 l0 x8_1).f0) == 2) = false := beq_eq_false_iff_ne.mpr c5
       have c5b1 : (((rd_T68 l0 x8_1).f0) != 2) = true := bne_iff_ne.mpr c5
       by_cases c12 : x3_1.length < 8796093022208
       ·rw [if_pos c12] at H
        have LMc12 := Aside0.mk c12
        clear c12
        obtain ⟨y668, hy668⟩ : ∃ y_ : List ByteArray, y_ = (x3_1 ++ [(rd_T68 l0 x8_1).f2]) := ⟨_, rfl⟩
        replace H : (lex_Show.l0 k1 y668 l0 (l0.length : Int) (wrap64 (x8_1 + 1))) = some r := by first | (rw [hy668]; with_reducible exact H) | (have H2_ := (Option.bind_some _ _).symm.trans H; rw [hy668]; with_reducible exact H2_) | (have H2_ := (Option.bind_some _ _).symm.trans H; with_reducible exact H2_) | with_reducible exact H | (rw [hy668]; exact H) | exact H
        have Ny668 := Aside0.mk hy668
        clear hy668
        have H' := Aside0.mk H
        clear H
        have p662 : 0 ≤ (x8_1 : Int) := of_decide_eq_true (by first | (with_reducible assumption) | assumption)
        have q662 : x8_1 < (l0.length : Int) := of_decide_eq_true (by first | (with_reducible assumption) | assumption)
        obtain ⟨ad662, e662, hx662_0, hx662_1, hx662_2, hx662_3, hx662_4, hx662_5⟩ := at_T68 HR0.out x8_1 p662 q662
        cases e662
        replace hx662_0 := (HB.out.cell (World.block_lt_of_cell? w _ hx662_0)).trans hx662_0
        replace hx662_1 := (HB.out.cell (World.block_lt_of_cell? w _ hx662_1)).trans hx662_1
        replace hx662_2 := (HB.out.cell (World.block_lt_of_cell? w _ hx662_2)).trans hx662_2
        replace hx662_3 := (HB.out.cell (World.block_lt_of_cell? w _ hx662_3)).trans hx662_3
        replace hx662_4 := (HB.out.cell (World.block_lt_of_cell? w _ hx662_4)).trans hx662_4
        replace hx662_5 := (HB.out.cell (World.block_lt_of_cell? w _ hx662_5)).trans hx662_5
        replace p662 := eq_true p662
        replace q662 := eq_true q662
        go_wp2_with (first | ((with_reducible refine gate_dst (N := 5) rfl ?_); refine box_event ?hg (N := 5) ?hd (cs := #[.int .i64 0, .int .i64 0, .string (⟨#[]⟩ : ByteArray), .int .i64 0, .int .i64 0, .string (⟨#[]⟩ : ByteArray)]) (t := 68) ?hr ?_; (case hd => rfl); (case hg => rfl); (case hr => first | (go_simp; done) | (go_simp; rfl)); intro gb663 hg w13 hbox hb; have n0_ := Aside0.mk (Kd.R_below (by (with_reducible repeat (first | apply Kd.R_alloc | apply Kd.R_drewN | apply Kd.R_drew)); exact HO_3.out) hb); have n1_ := Aside0.mk (below_step bwA hb); have n2_ := Aside0.mk (hbox); have n3_ := Aside0.mk ((by rw [hg]; exact (below_size bwA) : w.heap.size ≤ gb663)); have n4_ := Aside0.mk ((by rw [hg]; exact (below_size bwA) : w.heap.size ≤ gb663)); clear HO_3; clear HB; have HO_3 := n0_; have HB := n1_; have BK663 := n2_; have GW663 := n3_; have GE663 := n4_; clear n0_ n1_ n2_ n3_ n4_; clear hb hbox hg; have hcz14_0 : w13.cell? ⟨gb663, 0, none⟩ = some (.int .i64 0) := (blk_cell BK663.out 0).trans rfl; have hcz14_1 : w13.cell? ⟨gb663, 1, none⟩ = some (.int .i64 0) := (blk_cell BK663.out 1).trans rfl; have hcz14_2 : w13.cell? ⟨gb663, 2, none⟩ = some (.string (⟨#[]⟩ : ByteArray)) := (blk_cell BK663.out 2).trans rfl; have hcz14_3 : w13.cell? ⟨gb663, 3, none⟩ = some (.int .i64 0) := (blk_cell BK663.out 3).trans rfl; have hcz14_4 : w13.cell? ⟨gb663, 4, none⟩ = some (.int .i64 0) := (blk_cell BK663.out 4).trans rfl; have hcz14_5 : w13.cell? ⟨gb663, 5, none⟩ = some (.string (⟨#[]⟩ : ByteArray)) := (blk_cell BK663.out 5).trans rfl; have hfz14_0 := blk_frozen BK663.out 0; have hfz14_1 := blk_frozen BK663.out 1; have hfz14_2 := blk_frozen BK663.out 2; have hfz14_3 := blk_frozen BK663.out 3; have hfz14_4 := blk_frozen BK663.out 4; have hfz14_5 := blk_frozen BK663.out 5) | ((with_reducible refine gate_builtin (b := .append) (xs := #[.tmp 21, .tmp 24]) rfl ?_); at_builtin; refine Kd.R_append Kd.string (w0 := w) w.heap.size rfl (.tmp 21) (.tmp 24) 100 9 (.string ⟨#[]⟩) 16 rfl Tryd.underlying100 info9 rfl (by decide) (by omega) u3 x3_1 ((rd_T68 l0 x8_1).f2) [.string ((rd_T68 l0 x8_1).f2)] (fun _ => True) (fun _ => False) rfl (by first | (go_simp; done) | (go_simp; rfl)) ?aP (fun _ hk => hk.elim) ?aF ?aO ?aB ?aS ?aL ?_; (case aP => exact rfl); (case aB => exact bwA); (case aF => exact (fun _ _ => trivial)); (case aO => exact (by (with_reducible repeat (first | apply Kd.R_alloc | apply Kd.R_drewN | apply Kd.R_drew)); exact Kd.R_mono (Kd.R_far (p := ⟨gb663, 5, none⟩) (Kd.R_far (p := ⟨gb663, 4, none⟩) (Kd.R_far (p := ⟨gb663, 3, none⟩) (Kd.R_far (p := ⟨gb663, 2, none⟩) (Kd.R_far (p := ⟨gb663, 1, none⟩) (Kd.R_far (p := ⟨gb663, 0, none⟩) (Kd.R_types HO_3.out BK663.out (by decide)) (fun _ hk => hk.2) (.int .i64 ((rd_T68 l0 x8_1).f0))) (fun _ hk => hk.2) (.int .i64 ((rd_T68 l0 x8_1).f1))) (fun _ hk => hk.2) (.string ((rd_T68 l0 x8_1).f2))) (fun _ hk => hk.2) (.int .i64 ((rd_T68 l0 x8_1).f3.f0))) (fun _ hk => hk.2) (.int .i64 ((rd_T68 l0 x8_1).f3.f1))) (fun _ hk => hk.2) (.string ((rd_T68 l0 x8_1).f3.f2))) (fun _ hk => trivial))); (case aS => exact (below_size bwA)); (case aL => have := LMc12.out; omega); intro v669 w15 ho hb hg hat; rw [← Ny668.out] at ho; have n0_ := Aside0.mk (blk_grown (g := gb663) (o := .cells #[.int .i64 ((rd_T68 l0 x8_1).f0), .int .i64 ((rd_T68 l0 x8_1).f1), .string ((rd_T68 l0 x8_1).f2), .int .i64 ((rd_T68 l0 x8_1).f3.f0), .int .i64 ((rd_T68 l0 x8_1).f3.f1), .string ((rd_T68 l0 x8_1).f3.f2)] 68 (0, 0)) (by (with_reducible repeat (first | refine blk_drewN ?_ _ | refine blk_drew ?_ | refine blk_alloc ?_ _)); refine blk_put (cs := #[.int .i64 ((rd_T68 l0 x8_1).f0), .int .i64 ((rd_T68 l0 x8_1).f1), .string ((rd_T68 l0 x8_1).f2), .int .i64 ((rd_T68 l0 x8_1).f3.f0), .int .i64 ((rd_T68 l0 x8_1).f3.f1), .string (⟨#[]⟩ : ByteArray)]) ?_ 5 _ rfl; (with_reducible repeat (first | refine blk_drewN ?_ _ | refine blk_drew ?_ | refine blk_alloc ?_ _)); refine blk_put (cs := #[.int .i64 ((rd_T68 l0 x8_1).f0), .int .i64 ((rd_T68 l0 x8_1).f1), .string ((rd_T68 l0 x8_1).f2), .int .i64 ((rd_T68 l0 x8_1).f3.f0), .int .i64 0, .string (⟨#[]⟩ : ByteArray)]) ?_ 4 _ rfl; (with_reducible repeat (first | refine blk_drewN ?_ _ | refine blk_drew ?_ | refine blk_alloc ?_ _)); refine blk_put (cs := #[.int .i64 ((rd_T68 l0 x8_1).f0), .int .i64 ((rd_T68 l0 x8_1).f1), .string ((rd_T68 l0 x8_1).f2), .int .i64 0, .int .i64 0, .string (⟨#[]⟩ : ByteArray)]) ?_ 3 _ rfl; (with_reducible repeat (first | refine blk_drewN ?_ _ | refine blk_drew ?_ | refine blk_alloc ?_ _)); refine blk_put (cs := #[.int .i64 ((rd_T68 l0 x8_1).f0), .int .i64 ((rd_T68 l0 x8_1).f1), .string (⟨#[]⟩ : ByteArray), .int .i64 0, .int .i64 0, .string (⟨#[]⟩ : ByteArray)]) ?_ 2 _ rfl; (with_reducible repeat (first | refine blk_drewN ?_ _ | refine blk_drew ?_ | refine blk_alloc ?_ _)); refine blk_put (cs := #[.int .i64 ((rd_T68 l0 x8_1).f0), .int .i64 0, .string (⟨#[]⟩ : ByteArray), .int .i64 0, .int .i64 0, .string (⟨#[]⟩ : ByteArray)]) ?_ 1 _ rfl; (with_reducible repeat (first | refine blk_drewN ?_ _ | refine blk_drew ?_ | refine blk_alloc ?_ _)); refine blk_put (cs := #[.int .i64 0, .int .i64 0, .string (⟨#[]⟩ : ByteArray), .int .i64 0, .int .i64 0, .string (⟨#[]⟩ : ByteArray)]) ?_ 0 _ rfl; (with_reducible repeat (first | refine blk_drewN ?_ _ | refine blk_drew ?_ | refine blk_alloc ?_ _)); exact BK663.out) hg (Kd.R_ne HO_3.out BK663.out (by decide))); have n1_ := Aside0.mk (hb); have n2_ := Aside0.mk (ho); clear BK663; clear HB; clear HO_3; have BK663 := n0_; have HB := n1_; have HO670 := n2_; clear n0_ n1_ n2_; clear ho hb hg hat))
        go_roundg k1
        case measure => have := HK1.out; omega
        case rel => exact ⟨(y668), (wrap64 (x8_1 + 1)), (by first | rfl | (simp; done) | (simp [*]; done)), H', ⟨by have := HK1.out; omega⟩, ⟨by (with_reducible repeat (first | apply Kd.R_alloc | apply Kd.R_drewN | apply Kd.R_drew)); exact HO670.out⟩, ⟨by repeat (first | (with_reducible first | exact HB.out | apply below_alloc | apply pw_below_drewN | apply below_drew1 | refine below_set ?_ GE663.out) | exact HB.out)⟩⟩
       ·rw [if_neg c12] at H
        exact absurd H (by simp)
     ·rw [if_neg c4] at H
      exact absurd H (by simp)
    ·rw [if_neg c3] at H
     exact absurd H (by simp)
   ·rw [if_neg c2] at H
    have c2b0 : decide (x8_1 < (l0.length : Int)) = false := decide_eq_false c2
    clear c2
    replace H := Option.bind_eq_some_iff.mp H
    obtain ⟨t671, A160, H⟩ := H
    replace H : (some t671) = some r := H
    have A16 := Aside0.mk A160
    clear A160
    obtain rfl := Option.some.inj H
    obtain ⟨Ao17, co17, eo17⟩ := Kd.R_slice HO_3.out
    subst eo17
    go_wp2_with (first | ((with_reducible refine gate_callee (f := 66) rfl ?_); refine goesA (some 28) Tryd.func66 #[.slice Ao17 x3_1.length co17, .string (⟨#[32]⟩ : ByteArray)] ?_; (with_reducible refine (strings_Join.calls _ _ x3_1 (⟨#[32]⟩ : ByteArray) t671 _ ?side1 ?side2 A16.out).mono ?_); (case side1 => repeat (first | exact (Kd.R_reads' HO_3.out).2.2 | (with_reducible refine Kd.C_alloc ?_ _) | (with_reducible refine Kd.C_drewN ?_ _) | (with_reducible refine Kd.C_drew ?_))); (case side2 => exact (Kd.R_reads' HO_3.out).2.1); rintro e w18 ⟨rfl, hb⟩; refine ⟨_, rfl, ?_⟩; have n0_ := Aside0.mk (Kd.R_below (by (with_reducible repeat (first | apply Kd.R_alloc | apply Kd.R_drewN | apply Kd.R_drew)); exact HO_3.out) hb); have n1_ := Aside0.mk (below_step bwA hb); clear HO_3; clear HB; have HO_3 := n0_; have HB := n1_; clear n0_ n1_; (try clear hb); (try clear hb2); (try clear hk); (try clear hi)))
    go_ret
    exact ⟨by first | rfl | (simp [errW_none, errW_some] <;> rfl) | (simp [*, errW_none, errW_some] <;> rfl), by repeat (first | (with_reducible first | exact HB.out | apply below_alloc | apply pw_below_drewN | apply below_drew1) | exact HB.out)⟩

/-! ### caduceuslaw07_LexBack: function 12 -/
def caduceuslaw07_LexBack.l0 : Nat → ByteArray → List (S68) → Int → Int → Option (Bool)
 | 0, _, _, _, _ => none
 | k + 1, x0, x3, x4, x6 => if x6 < (x3.length : Int) then (if 0 ≤ x6 then (if ((rd_T68 x3 x6).f1) < 0 then (none) else (if ((rd_T68 x3 x6).f1) ≥ x4 then (none) else (if x6 > 0 then (if 0 ≤ (wrap64 (x6 - 1)) then (if (wrap64 (x6 - 1)) < (x3.length : Int) then (if ((rd_T68 x3 x6).f1) ≤ ((rd_T68 x3 (wrap64 (x6 - 1))).f1) then (none) else (caduceuslaw07_LexBack.l0 k x0 x3 x4 (wrap64 (x6 + 1)))) else (none)) else (none)) else (caduceuslaw07_LexBack.l0 k x0 x3 x4 (wrap64 (x6 + 1)))))) else (none)) else ((lex_Show.f k x3).bind fun t683 => ((lex_Lex.f k t683).bind fun bt684 => ((caduceuslaw07_awake.f k).bind fun t689 => (if t689 = true then (if bt684.2.2 = 0 then ((caduceuslaw07_refs.f k bt684.1).bind fun t690 => ((caduceuslaw07_refs.f k x3).bind fun t693 => ((caduceusref07_Same.f k t690 t693 true).bind fun t696 => (if t696 = true then ((caduceusref02_Runes.f k x0).bind fun t697 => (some (x4 == (t697.length : Int)))) else (none))))) else (none)) else (none)))))
def caduceuslaw07_LexBack.f (k : Nat) (a0 : ByteArray) : Option (Bool) := if (a0.size : Int) > 2000 then ((caduceuslaw07_awake.f k).bind fun t672 => (some t672)) else ((lex_Lex.f k a0).bind fun bt673 => (if bt673.2.2 = 0 then (caduceuslaw07_LexBack.l0 k a0 bt673.1 bt673.2.1 0) else ((caduceuslaw07_awake.f k).bind fun t678 => (if t678 = true then (if (bt673.1.length : Int) = 0 then (if bt673.2.1 ≥ 0 then (some (decide (bt673.2.1 ≤ (a0.size : Int)))) else (none)) else (none)) else (none)))))
theorem caduceuslaw07_LexBack.mono_l : ∀ k, (∀ y0 y1 y2 y3, LeO (caduceuslaw07_LexBack.l0 k y0 y1 y2 y3) (caduceuslaw07_LexBack.l0 (k + 1) y0 y1 y2 y3))
 | 0 => fun _ _ _ _ r h => by simp [caduceuslaw07_LexBack.l0] at h
 | k + 1 => by
  have ih0 := caduceuslaw07_LexBack.mono_l k
  ·intro y0 y1 y2 y3
   unfold caduceuslaw07_LexBack.l0
   repeat' first
   | (with_reducible exact ih0 _ _ _ _)
   | (with_reducible exact caduceuslaw07_awake.mono _)
   | (with_reducible exact caduceuslaw07_refs.mono _ _)
   | (with_reducible exact caduceusref02_Runes.mono _ _)
   | (with_reducible exact caduceusref07_Same.mono _ _ _ _)
   | (with_reducible exact lex_Lex.mono _ _)
   | (with_reducible exact lex_Show.mono _ _)
   | (with_reducible exact LeO.refl _)
   | (with_reducible exact LeO.none _)
   | (with_reducible refine LeO.ite ?_ ?_)
   | (with_reducible refine LeO.bind ?_ (fun _ => ?_))
   | exact ih0 _ _ _ _
   | exact caduceuslaw07_awake.mono _
   | exact caduceuslaw07_refs.mono _ _
   | exact caduceusref02_Runes.mono _ _
   | exact caduceusref07_Same.mono _ _ _ _
   | exact lex_Lex.mono _ _
   | exact lex_Show.mono _ _
   | exact LeO.none _
   | refine LeO.ite ?_ ?_
   | refine LeO.bind ?_ (fun _ => ?_)
theorem caduceuslaw07_LexBack.mono : ∀ a0 k, LeO (caduceuslaw07_LexBack.f k a0) (caduceuslaw07_LexBack.f (k + 1) a0) := by
 intro a0 k
 have ih0 := caduceuslaw07_LexBack.mono_l k
 unfold caduceuslaw07_LexBack.f
 repeat' first
   | (with_reducible exact ih0 _ _ _ _)
   | (with_reducible exact caduceuslaw07_awake.mono _)
   | (with_reducible exact caduceuslaw07_refs.mono _ _)
   | (with_reducible exact caduceusref02_Runes.mono _ _)
   | (with_reducible exact caduceusref07_Same.mono _ _ _ _)
   | (with_reducible exact lex_Lex.mono _ _)
   | (with_reducible exact lex_Show.mono _ _)
   | (with_reducible exact LeO.refl _)
   | (with_reducible exact LeO.none _)
   | (with_reducible refine LeO.ite ?_ ?_)
   | (with_reducible refine LeO.bind ?_ (fun _ => ?_))
   | exact ih0 _ _ _ _
   | exact caduceuslaw07_awake.mono _
   | exact caduceuslaw07_refs.mono _ _
   | exact caduceusref02_Runes.mono _ _
   | exact caduceusref07_Same.mono _ _ _ _
   | exact lex_Lex.mono _ _
   | exact lex_Show.mono _ _
   | exact LeO.none _
   | refine LeO.ite ?_ ?_
   | refine LeO.bind ?_ (fun _ => ?_)
set_option maxHeartbeats 8000000 in
set_option maxRecDepth 100000 in
theorem caduceuslaw07_LexBack.calls (k : Nat) (a0 : ByteArray) (r : Bool) (w : World) (hT : Tabs w) (h : caduceuslaw07_LexBack.f k a0 = some r) :
  Calls Tryd.prog 12 #[.string a0] w fun e w' => e = .returned (.bool r) ∧ Below w.heap.size w w' := by
 have HB := Aside0.mk (Below.refl w.heap.size w)
 have H : (if (a0.size : Int) > 2000 then ((caduceuslaw07_awake.f k).bind fun t672 => (some t672)) else ((lex_Lex.f k a0).bind fun bt673 => (if bt673.2.2 = 0 then (caduceuslaw07_LexBack.l0 k a0 bt673.1 bt673.2.1 0) else ((caduceuslaw07_awake.f k).bind fun t678 => (if t678 = true then (if (bt673.1.length : Int) = 0 then (if bt673.2.1 ≥ 0 then (some (decide (bt673.2.1 ≤ (a0.size : Int)))) else (none)) else (none)) else (none)))))) = some r := h
 clear h
 have HT := Aside0.mk hT
 clear hT
 by_cases c2 : (a0.size : Int) > 2000
 ·rw [if_pos c2] at H
  have c2b0 : decide (2000 < (a0.size : Int)) = true := decide_eq_true c2
  have c2b1 : decide (2000 < a0.size) = true := decide_eq_true (by omega)
  clear c2
  replace H := Option.bind_eq_some_iff.mp H
  obtain ⟨t672, A30, H⟩ := H
  replace H : (some t672) = some r := H
  have A3 := Aside0.mk A30
  clear A30
  obtain rfl := Option.some.inj H
  go_enter Tryd.func12, Tryd.ntmps12
  go_wp2_with (first | (go_at_call 24; (with_reducible refine (caduceuslaw07_awake.calls k  t672 _ ?side1 A3.out).mono ?_); (case side1 => exact Tabs.below HT.out bwA); rintro e w4 ⟨rfl, hb⟩; have n0_ := Aside0.mk (below_step bwA hb); clear HB; have HB := n0_; clear n0_; (try clear hb); (try clear hb2); (try clear hk); (try clear hi)))
  repeat (go_quiet (first | (go_at_call 24; (with_reducible refine (caduceuslaw07_awake.calls k  t672 _ ?side1 A3.out).mono ?_); (case side1 => exact Tabs.below HT.out bwA); rintro e w4 ⟨rfl, hb⟩; have n0_ := Aside0.mk (below_step bwA hb); clear HB; have HB := n0_; clear n0_; (try clear hb); (try clear hb2); (try clear hk); (try clear hi))); try go_wp2_with (first | (go_at_call 24; (with_reducible refine (caduceuslaw07_awake.calls k  t672 _ ?side1 A3.out).mono ?_); (case side1 => exact Tabs.below HT.out bwA); rintro e w4 ⟨rfl, hb⟩; have n0_ := Aside0.mk (below_step bwA hb); clear HB; have HB := n0_; clear n0_; (try clear hb); (try clear hb2); (try clear hk); (try clear hi))))
  go_ret
  exact ⟨by first | rfl | (simp [errW_none, errW_some] <;> rfl) | (simp [*, errW_none, errW_some] <;> rfl), by repeat (first | (with_reducible first | exact HB.out | apply below_alloc | apply pw_below_drewN | apply below_drew1) | exact HB.out)⟩
 ·rw [if_neg c2] at H
  have c2b0 : decide (2000 < (a0.size : Int)) = false := decide_eq_false c2
  have c2b1 : decide (2000 < a0.size) = false := decide_eq_false (by omega)
  clear c2
  replace H := Option.bind_eq_some_iff.mp H
  obtain ⟨⟨t673, t674, t675⟩, A50, H⟩ := H
  replace H : (if t675 = 0 then (caduceuslaw07_LexBack.l0 k a0 t673 t674 0) else ((caduceuslaw07_awake.f k).bind fun t678 => (if t678 = true then (if (t673.length : Int) = 0 then (if t674 ≥ 0 then (some (decide (t674 ≤ (a0.size : Int)))) else (none)) else (none)) else (none)))) = some r := H
  have A5 := Aside0.mk A50
  clear A50
  by_cases c6 : t675 = 0
  ·rw [if_pos c6] at H
   have c6b0 : (t675 == 0) = true := beq_iff_eq.mpr c6
   have c6b1 : (t675 != 0) = false := bne_eq_false_iff_eq.mpr c6
   clear c6
   have H' := Aside0.mk H
   clear H
   go_enter Tryd.func12, Tryd.ntmps12
   go_wp2_with (first | (go_at_call 25; (with_reducible refine (lex_Lex.calls k a0 t673 t674 t675 _ ?side1 A5.out).mono ?_); (case side1 => exact Tabs.below HT.out bwA); rintro e w7 ⟨v676, rfl, ho0, hb⟩; have n0_ := Aside0.mk (Kd.R_lower ho0 (below_size bwA)); have n1_ := Aside0.mk (below_step bwA hb); clear HB; have HO677 := n0_; have HB := n1_; clear n0_ n1_; (try clear hb); (try clear hb2); (try clear hk); (try clear hi); (try clear ho0)))
   repeat (go_quiet (first | (go_at_call 25; (with_reducible refine (lex_Lex.calls k a0 t673 t674 t675 _ ?side1 A5.out).mono ?_); (case side1 => exact Tabs.below HT.out bwA); rintro e w7 ⟨v676, rfl, ho0, hb⟩; have n0_ := Aside0.mk (Kd.R_lower ho0 (below_size bwA)); have n1_ := Aside0.mk (below_step bwA hb); clear HB; have HO677 := n0_; have HB := n1_; clear n0_ n1_; (try clear hb); (try clear hb2); (try clear hk); (try clear hi); (try clear ho0))); try go_wp2_with (first | (go_at_call 25; (with_reducible refine (lex_Lex.calls k a0 t673 t674 t675 _ ?side1 A5.out).mono ?_); (case side1 => exact Tabs.below HT.out bwA); rintro e w7 ⟨v676, rfl, ho0, hb⟩; have n0_ := Aside0.mk (Kd.R_lower ho0 (below_size bwA)); have n1_ := Aside0.mk (below_step bwA hb); clear HB; have HO677 := n0_; have HB := n1_; clear n0_ n1_; (try clear hb); (try clear hb2); (try clear hk); (try clear hi); (try clear ho0))))
   go_loopg [6] k (fun kq v6 w' => ∃ (x6_1 : Int), v6 = .int .i64 x6_1 ∧ Aside0 (caduceuslaw07_LexBack.l0 kq a0 t673 t674 x6_1 = some r) ∧ Aside0 (kq ≤ k) ∧ Aside0 (Kd.R k68 68 w' w.heap.size (fun _ => True) v676 t673) ∧ Aside0 (Below w.heap.size w w'))
   case atStart => exact ⟨(0), (by first | rfl | (simp; done) | (simp [*]; done)), H', ⟨Nat.le_refl _⟩, ⟨by (with_reducible repeat (first | apply Kd.R_alloc | apply Kd.R_drewN | apply Kd.R_drew)); exact HO677.out⟩, ⟨by repeat (first | (with_reducible first | exact HB.out | apply below_alloc | apply pw_below_drewN | apply below_drew1) | exact HB.out)⟩⟩
   case round =>
    clear H'
    try clear c1
    try clear c2
    try clear c2b0
    try clear c2b1
    try clear p2
    try clear c6
    try clear c6b0
    try clear c6b1
    obtain ⟨x6_1, rfl, HA, HK1, HO_3, HB⟩ := hrel
    cases gk with
    | zero => exact absurd HA.out (by simp [caduceuslaw07_LexBack.l0])
    | succ k1 =>
     have H := HA.out
     clear HA
     simp only [caduceuslaw07_LexBack.l0] at H
     by_cases c8 : x6_1 < (t673.length : Int)
     ·rw [if_pos c8] at H
      have c8b0 : decide (x6_1 < (t673.length : Int)) = true := decide_eq_true c8
      clear c8
      by_cases c9 : 0 ≤ x6_1
      ·rw [if_pos c9] at H
       have c9b0 : decide (0 ≤ x6_1) = true := decide_eq_true c9
       clear c9
       by_cases c10 : ((rd_T68 t673 x6_1).f1) < 0
       ·rw [if_pos c10] at H
        exact absurd H (by simp)
       ·rw [if_neg c10] at H
        have c10b0 : decide (((rd_T68 t673 x6_1).f1) < 0) = false := decide_eq_false c10
        clear c10
        by_cases c11 : ((rd_T68 t673 x6_1).f1) ≥ t674
        ·rw [if_pos c11] at H
         exact absurd H (by simp)
        ·rw [if_neg c11] at H
         have c11b0 : decide (t674 ≤ ((rd_T68 t673 x6_1).f1)) = false := decide_eq_false c11
         clear c11
         by_cases c12 : x6_1 > 0
         ·rw [if_pos c12] at H
          have c12b0 : decide (0 < x6_1) = true := decide_eq_true c12
          clear c12
          obtain ⟨ji13, hji13⟩ : ∃ j_ : Int, (wrap64 (x6_1 - 1)) = j_ := ⟨_, rfl⟩
          replace H : (if 0 ≤ (ji13) then (if (ji13) < (t673.length : Int) then (if ((rd_T68 t673 x6_1).f1) ≤ ((rd_T68 t673 (ji13)).f1) then (none) else (caduceuslaw07_LexBack.l0 k1 a0 t673 t674 (wrap64 (x6_1 + 1)))) else (none)) else (none)) = some r := by first | (rw [hji13] at H; exact H) | (simp only [hji13] at H ⊢; exact H)
          have hji13w : (IntKind.i64.wrap (x6_1 - 1)) = ji13 := (i64_w _).trans hji13
          by_cases c14 : 0 ≤ (ji13)
          ·rw [if_pos c14] at H
           have c14b0 : decide (0 ≤ (ji13)) = true := decide_eq_true c14
           clear c14
           by_cases c15 : (ji13) < (t673.length : Int)
           ·rw [if_pos c15] at H
            have c15b0 : decide ((ji13) < (t673.length : Int)) = true := decide_eq_true c15
            clear c15
            by_cases c16 : ((rd_T68 t673 x6_1).f1) ≤ ((rd_T68 t673 (ji13)).f1)
            ·rw [if_pos c16] at H
             exact absurd H (by simp)
            ·rw [if_neg c16] at H
             have c16b0 : decide (((rd_T68 t673 x6_1).f1) ≤ ((rd_T68 t673 (ji13)).f1)) = false := decide_eq_false c16
             clear c16
             have H' := Aside0.mk H
             clear H
             obtain ⟨Ao17, co17, eo17⟩ := Kd.R_slice HO_3.out
             subst eo17
             have p679 : 0 ≤ (x6_1 : Int) := of_decide_eq_true (by first | (with_reducible assumption) | assumption)
             have q679 : x6_1 < (t673.length : Int) := of_decide_eq_true (by first | (with_reducible assumption) | assumption)
             obtain ⟨ad679, e679, hx679_0, hx679_1, hx679_2, hx679_3, hx679_4, hx679_5⟩ := at_T68 (Kd.R_reads' HO_3.out).2.2 x6_1 p679 q679
             cases e679
             replace p679 := eq_true p679
             replace q679 := eq_true q679
             have p680 : 0 ≤ (x6_1 : Int) := of_decide_eq_true (by first | (with_reducible assumption) | assumption)
             have q680 : x6_1 < (t673.length : Int) := of_decide_eq_true (by first | (with_reducible assumption) | assumption)
             obtain ⟨ad680, e680, hx680_0, hx680_1, hx680_2, hx680_3, hx680_4, hx680_5⟩ := at_T68 (Kd.R_reads' HO_3.out).2.2 x6_1 p680 q680
             obtain rfl : ad679 = ad680 := (by injection e680)
             replace p680 := eq_true p680
             replace q680 := eq_true q680
             have p681 : 0 ≤ (x6_1 : Int) := of_decide_eq_true (by first | (with_reducible assumption) | assumption)
             have q681 : x6_1 < (t673.length : Int) := of_decide_eq_true (by first | (with_reducible assumption) | assumption)
             obtain ⟨ad681, e681, hx681_0, hx681_1, hx681_2, hx681_3, hx681_4, hx681_5⟩ := at_T68 (Kd.R_reads' HO_3.out).2.2 x6_1 p681 q681
             obtain rfl : ad679 = ad681 := (by injection e681)
             replace p681 := eq_true p681
             replace q681 := eq_true q681
             have p682 : 0 ≤ ((ji13) : Int) := of_decide_eq_true (by first | (with_reducible assumption) | assumption)
             have q682 : (ji13) < (t673.length : Int) := of_decide_eq_true (by first | (with_reducible assumption) | assumption)
             obtain ⟨ad682, e682, hx682_0, hx682_1, hx682_2, hx682_3, hx682_4, hx682_5⟩ := at_T68 (Kd.R_reads' HO_3.out).2.2 (ji13) p682 q682
             obtain rfl : ad679 = ad682 := (by injection e682)
             replace p682 := eq_true p682
             replace q682 := eq_true q682
             go_wp2
             repeat (go_quiet (fail); try go_wp2)
             go_roundg k1
             case measure => have := HK1.out; omega
             case rel => exact ⟨(wrap64 (x6_1 + 1)), (by first | rfl | (simp; done) | (simp [*]; done)), H', ⟨by have := HK1.out; omega⟩, ⟨by (with_reducible repeat (first | apply Kd.R_alloc | apply Kd.R_drewN | apply Kd.R_drew)); exact HO_3.out⟩, ⟨by repeat (first | (with_reducible first | exact HB.out | apply below_alloc | apply pw_below_drewN | apply below_drew1) | exact HB.out)⟩⟩
           ·rw [if_neg c15] at H
            exact absurd H (by simp)
          ·rw [if_neg c14] at H
           exact absurd H (by simp)
         ·rw [if_neg c12] at H
          have c12b0 : decide (0 < x6_1) = false := decide_eq_false c12
          clear c12
          have H' := Aside0.mk H
          clear H
          obtain ⟨Ao18, co18, eo18⟩ := Kd.R_slice HO_3.out
          subst eo18
          have p679 : 0 ≤ (x6_1 : Int) := of_decide_eq_true (by first | (with_reducible assumption) | assumption)
          have q679 : x6_1 < (t673.length : Int) := of_decide_eq_true (by first | (with_reducible assumption) | assumption)
          obtain ⟨ad679, e679, hx679_0, hx679_1, hx679_2, hx679_3, hx679_4, hx679_5⟩ := at_T68 (Kd.R_reads' HO_3.out).2.2 x6_1 p679 q679
          cases e679
          replace p679 := eq_true p679
          replace q679 := eq_true q679
          have p680 : 0 ≤ (x6_1 : Int) := of_decide_eq_true (by first | (with_reducible assumption) | assumption)
          have q680 : x6_1 < (t673.length : Int) := of_decide_eq_true (by first | (with_reducible assumption) | assumption)
          obtain ⟨ad680, e680, hx680_0, hx680_1, hx680_2, hx680_3, hx680_4, hx680_5⟩ := at_T68 (Kd.R_reads' HO_3.out).2.2 x6_1 p680 q680
          obtain rfl : ad679 = ad680 := (by injection e680)
          replace p680 := eq_true p680
          replace q680 := eq_true q680
          go_wp2
          repeat (go_quiet (fail); try go_wp2)
          go_roundg k1
          case measure => have := HK1.out; omega
          case rel => exact ⟨(wrap64 (x6_1 + 1)), (by first | rfl | (simp; done) | (simp [*]; done)), H', ⟨by have := HK1.out; omega⟩, ⟨by (with_reducible repeat (first | apply Kd.R_alloc | apply Kd.R_drewN | apply Kd.R_drew)); exact HO_3.out⟩, ⟨by repeat (first | (with_reducible first | exact HB.out | apply below_alloc | apply pw_below_drewN | apply below_drew1) | exact HB.out)⟩⟩
      ·rw [if_neg c9] at H
       exact absurd H (by simp)
     ·rw [if_neg c8] at H
      have c8b0 : decide (x6_1 < (t673.length : Int)) = false := decide_eq_false c8
      clear c8
      replace H := Option.bind_eq_some_iff.mp H
      obtain ⟨t683, A190, H⟩ := H
      replace H : ((lex_Lex.f k1 t683).bind fun bt684 => ((caduceuslaw07_awake.f k1).bind fun t689 => (if t689 = true then (if bt684.2.2 = 0 then ((caduceuslaw07_refs.f k1 bt684.1).bind fun t690 => ((caduceuslaw07_refs.f k1 t673).bind fun t693 => ((caduceusref07_Same.f k1 t690 t693 true).bind fun t696 => (if t696 = true then ((caduceusref02_Runes.f k1 a0).bind fun t697 => (some (t674 == (t697.length : Int)))) else (none))))) else (none)) else (none)))) = some r := H
      have A19 := Aside0.mk A190
      clear A190
      replace H := Option.bind_eq_some_iff.mp H
      obtain ⟨⟨t684, t685, t686⟩, A200, H⟩ := H
      replace H : ((caduceuslaw07_awake.f k1).bind fun t689 => (if t689 = true then (if t686 = 0 then ((caduceuslaw07_refs.f k1 t684).bind fun t690 => ((caduceuslaw07_refs.f k1 t673).bind fun t693 => ((caduceusref07_Same.f k1 t690 t693 true).bind fun t696 => (if t696 = true then ((caduceusref02_Runes.f k1 a0).bind fun t697 => (some (t674 == (t697.length : Int)))) else (none))))) else (none)) else (none))) = some r := H
      have A20 := Aside0.mk A200
      clear A200
      replace H := Option.bind_eq_some_iff.mp H
      obtain ⟨t689, A210, H⟩ := H
      replace H : (if t689 = true then (if t686 = 0 then ((caduceuslaw07_refs.f k1 t684).bind fun t690 => ((caduceuslaw07_refs.f k1 t673).bind fun t693 => ((caduceusref07_Same.f k1 t690 t693 true).bind fun t696 => (if t696 = true then ((caduceusref02_Runes.f k1 a0).bind fun t697 => (some (t674 == (t697.length : Int)))) else (none))))) else (none)) else (none)) = some r := H
      have A21 := Aside0.mk A210
      clear A210
      by_cases c22 : t689 = true
      ·subst c22
       have H1 : (if t686 = 0 then ((caduceuslaw07_refs.f k1 t684).bind fun t690 => ((caduceuslaw07_refs.f k1 t673).bind fun t693 => ((caduceusref07_Same.f k1 t690 t693 true).bind fun t696 => (if t696 = true then ((caduceusref02_Runes.f k1 a0).bind fun t697 => (some (t674 == (t697.length : Int)))) else (none))))) else (none)) = some r := by rw [if_pos rfl] at H; exact H
       clear H
       have H := H1
       clear H1
       by_cases c23 : t686 = 0
       ·rw [if_pos c23] at H
        have c23b0 : (t686 == 0) = true := beq_iff_eq.mpr c23
        have c23b1 : (t686 != 0) = false := bne_eq_false_iff_eq.mpr c23
        clear c23
        replace H := Option.bind_eq_some_iff.mp H
        obtain ⟨t690, A240, H⟩ := H
        replace H : ((caduceuslaw07_refs.f k1 t673).bind fun t693 => ((caduceusref07_Same.f k1 t690 t693 true).bind fun t696 => (if t696 = true then ((caduceusref02_Runes.f k1 a0).bind fun t697 => (some (t674 == (t697.length : Int)))) else (none)))) = some r := H
        have A24 := Aside0.mk A240
        clear A240
        replace H := Option.bind_eq_some_iff.mp H
        obtain ⟨t693, A250, H⟩ := H
        replace H : ((caduceusref07_Same.f k1 t690 t693 true).bind fun t696 => (if t696 = true then ((caduceusref02_Runes.f k1 a0).bind fun t697 => (some (t674 == (t697.length : Int)))) else (none))) = some r := H
        have A25 := Aside0.mk A250
        clear A250
        replace H := Option.bind_eq_some_iff.mp H
        obtain ⟨t696, A260, H⟩ := H
        replace H : (if t696 = true then ((caduceusref02_Runes.f k1 a0).bind fun t697 => (some (t674 == (t697.length : Int)))) else (none)) = some r := H
        have A26 := Aside0.mk A260
        clear A260
        by_cases c27 : t696 = true
        ·subst c27
         have H1 : ((caduceusref02_Runes.f k1 a0).bind fun t697 => (some (t674 == (t697.length : Int)))) = some r := by rw [if_pos rfl] at H; exact H
         clear H
         have H := H1
         clear H1
         replace H := Option.bind_eq_some_iff.mp H
         obtain ⟨t697, A280, H⟩ := H
         replace H : (some (t674 == (t697.length : Int))) = some r := H
         have A28 := Aside0.mk A280
         clear A280
         obtain rfl := Option.some.inj H
         obtain ⟨Ao29, co29, eo29⟩ := Kd.R_slice HO_3.out
         subst eo29
         go_wp2_with (first | (go_at_call 37; (with_reducible refine (lex_Show.calls k1 _ _ t673 t683 _ ?side1 ?side2 ?side3 A19.out).mono ?_); (case side1 => repeat (first | exact (Kd.R_reads' HO_3.out).2.2 | (with_reducible refine Kd.C_alloc ?_ _) | (with_reducible refine Kd.C_drewN ?_ _) | (with_reducible refine Kd.C_drew ?_))); (case side2 => exact (Kd.R_reads' HO_3.out).2.1); (case side3 => exact Tabs.below HT.out bwA); rintro e w30 ⟨rfl, hb⟩; have n0_ := Aside0.mk (Kd.R_below (by (with_reducible repeat (first | apply Kd.R_alloc | apply Kd.R_drewN | apply Kd.R_drew)); exact HO_3.out) hb); have n1_ := Aside0.mk (below_step bwA hb); clear HO_3; clear HB; have HO_3 := n0_; have HB := n1_; clear n0_ n1_; (try clear hb); (try clear hb2); (try clear hk); (try clear hi)) | (go_at_call 25; (with_reducible refine (lex_Lex.calls k1 t683 t684 t685 t686 _ ?side1 A20.out).mono ?_); (case side1 => exact Tabs.below HT.out bwA); rintro e w31 ⟨v687, rfl, ho0, hb⟩; have n0_ := Aside0.mk (Kd.R_elder' (by (with_reducible repeat (first | apply Kd.R_alloc | apply Kd.R_drewN | apply Kd.R_drew)); exact HO_3.out) (Kd.R_base ho0) hb); have n1_ := Aside0.mk (Kd.R_lower (Kd.R_new' ho0 (Kd.R_lt (by (with_reducible repeat (first | apply Kd.R_alloc | apply Kd.R_drewN | apply Kd.R_drew)); exact HO_3.out))) (below_size bwA)); have n2_ := Aside0.mk (below_step bwA hb); clear HO_3; clear HB; have HO_3 := n0_; have HO688 := n1_; have HB := n2_; clear n0_ n1_ n2_; (try clear hb); (try clear hb2); (try clear hk); (try clear hi); (try clear ho0)) | (go_at_call 24; (with_reducible refine (caduceuslaw07_awake.calls k1  true _ ?side1 A21.out).mono ?_); (case side1 => exact Tabs.below HT.out bwA); rintro e w32 ⟨rfl, hb⟩; have n0_ := Aside0.mk (Kd.R_below (by (with_reducible repeat (first | apply Kd.R_alloc | apply Kd.R_drewN | apply Kd.R_drew)); exact HO_3.out) hb); have n1_ := Aside0.mk (Kd.R_below (by (with_reducible repeat (first | apply Kd.R_alloc | apply Kd.R_drewN | apply Kd.R_drew)); exact HO688.out) hb); have n2_ := Aside0.mk (below_step bwA hb); clear HO_3; clear HO688; clear HB; have HO_3 := n0_; have HO688 := n1_; have HB := n2_; clear n0_ n1_ n2_; (try clear hb); (try clear hb2); (try clear hk); (try clear hi); obtain ⟨Ao33, co33, eo33⟩ := Kd.R_slice HO688.out; subst eo33) | (go_at_call 27; (with_reducible refine (caduceuslaw07_refs.calls k1 _ _ t684 t690 _ ?side1 ?side2 A24.out).mono ?_); (case side1 => repeat (first | exact (Kd.R_reads' HO688.out).2.2 | (with_reducible refine Kd.C_alloc ?_ _) | (with_reducible refine Kd.C_drewN ?_ _) | (with_reducible refine Kd.C_drew ?_))); (case side2 => exact (Kd.R_reads' HO688.out).2.1); rintro e w34 ⟨v691, rfl, ho0, hb⟩; have n0_ := Aside0.mk (Kd.R_below (by (with_reducible repeat (first | apply Kd.R_alloc | apply Kd.R_drewN | apply Kd.R_drew)); exact HO_3.out) hb); have n1_ := Aside0.mk (Kd.R_below (by (with_reducible repeat (first | apply Kd.R_alloc | apply Kd.R_drewN | apply Kd.R_drew)); exact HO688.out) hb); have n2_ := Aside0.mk (Kd.R_lower ho0 (below_size bwA)); have n3_ := Aside0.mk (below_step bwA hb); clear HO_3; clear HO688; clear HB; have HO_3 := n0_; have HO688 := n1_; have HO692 := n2_; have HB := n3_; clear n0_ n1_ n2_ n3_; (try clear hb); (try clear hb2); (try clear hk); (try clear hi); (try clear ho0)) | (go_at_call 27; (with_reducible refine (caduceuslaw07_refs.calls k1 _ _ t673 t693 _ ?side1 ?side2 A25.out).mono ?_); (case side1 => repeat (first | exact (Kd.R_reads' HO_3.out).2.2 | (with_reducible refine Kd.C_alloc ?_ _) | (with_reducible refine Kd.C_drewN ?_ _) | (with_reducible refine Kd.C_drew ?_))); (case side2 => exact (Kd.R_reads' HO_3.out).2.1); rintro e w35 ⟨v694, rfl, ho0, hb⟩; have n0_ := Aside0.mk (Kd.R_below (by (with_reducible repeat (first | apply Kd.R_alloc | apply Kd.R_drewN | apply Kd.R_drew)); exact HO_3.out) hb); have n1_ := Aside0.mk (Kd.R_below (by (with_reducible repeat (first | apply Kd.R_alloc | apply Kd.R_drewN | apply Kd.R_drew)); exact HO688.out) hb); have n2_ := Aside0.mk (Kd.R_elder' (by (with_reducible repeat (first | apply Kd.R_alloc | apply Kd.R_drewN | apply Kd.R_drew)); exact HO692.out) (Kd.R_base ho0) hb); have n3_ := Aside0.mk (Kd.R_lower (Kd.R_new' ho0 (Kd.R_lt (by (with_reducible repeat (first | apply Kd.R_alloc | apply Kd.R_drewN | apply Kd.R_drew)); exact HO692.out))) (below_size bwA)); have n4_ := Aside0.mk (below_step bwA hb); clear HO_3; clear HO688; clear HO692; clear HB; have HO_3 := n0_; have HO688 := n1_; have HO692 := n2_; have HO695 := n3_; have HB := n4_; clear n0_ n1_ n2_ n3_ n4_; (try clear hb); (try clear hb2); (try clear hk); (try clear hi); (try clear ho0); obtain ⟨Ao36, co36, eo36⟩ := Kd.R_slice HO692.out; subst eo36; obtain ⟨Ao37, co37, eo37⟩ := Kd.R_slice HO695.out; subst eo37) | (go_at_call 26; (with_reducible refine (caduceusref07_Same.calls k1 _ _ t690 _ _ t693 true true _ ?side1 ?side2 ?side3 ?side4 A26.out).mono ?_); (case side1 => repeat (first | exact (Kd.R_reads' HO692.out).2.2 | (with_reducible refine Kd.C_alloc ?_ _) | (with_reducible refine Kd.C_drewN ?_ _) | (with_reducible refine Kd.C_drew ?_))); (case side2 => exact (Kd.R_reads' HO692.out).2.1); (case side3 => repeat (first | exact (Kd.R_reads' HO695.out).2.2 | (with_reducible refine Kd.C_alloc ?_ _) | (with_reducible refine Kd.C_drewN ?_ _) | (with_reducible refine Kd.C_drew ?_))); (case side4 => exact (Kd.R_reads' HO695.out).2.1); rintro e w' ⟨rfl, ⟨nd, rfl⟩⟩; (try first | exact ⟨rfl, _, World.drewN_drewN _ _ _⟩ | exact ⟨rfl, _, Eq.trans (World.drewN_drewN _ _ _) (congrArg (World.drewN _) (Nat.add_assoc _ _ _))⟩)) | (go_at_call 38; (with_reducible refine (caduceusref02_Runes.calls k1 a0 t697 _ A28.out).mono ?_); rintro e w38 ⟨v698, rfl, ho0, hb⟩; have n0_ := Aside0.mk (Kd.R_below (by (with_reducible repeat (first | apply Kd.R_alloc | apply Kd.R_drewN | apply Kd.R_drew)); exact HO_3.out) hb); have n1_ := Aside0.mk (Kd.R_below (by (with_reducible repeat (first | apply Kd.R_alloc | apply Kd.R_drewN | apply Kd.R_drew)); exact HO688.out) hb); have n2_ := Aside0.mk (Kd.R_below (by (with_reducible repeat (first | apply Kd.R_alloc | apply Kd.R_drewN | apply Kd.R_drew)); exact HO692.out) hb); have n3_ := Aside0.mk (Kd.R_below (by (with_reducible repeat (first | apply Kd.R_alloc | apply Kd.R_drewN | apply Kd.R_drew)); exact HO695.out) hb); have n4_ := Aside0.mk (Kd.R_lower ho0 (below_size bwA)); have n5_ := Aside0.mk (below_step bwA hb); clear HO_3; clear HO688; clear HO692; clear HO695; clear HB; have HO_3 := n0_; have HO688 := n1_; have HO692 := n2_; have HO695 := n3_; have HO699 := n4_; have HB := n5_; clear n0_ n1_ n2_ n3_ n4_ n5_; (try clear hb); (try clear hb2); (try clear hk); (try clear hi); (try clear ho0); obtain ⟨Ao39, co39, eo39⟩ := Kd.R_slice HO699.out; subst eo39))
         repeat (go_quiet (first | (go_at_call 37; (with_reducible refine (lex_Show.calls k1 _ _ t673 t683 _ ?side1 ?side2 ?side3 A19.out).mono ?_); (case side1 => repeat (first | exact (Kd.R_reads' HO_3.out).2.2 | (with_reducible refine Kd.C_alloc ?_ _) | (with_reducible refine Kd.C_drewN ?_ _) | (with_reducible refine Kd.C_drew ?_))); (case side2 => exact (Kd.R_reads' HO_3.out).2.1); (case side3 => exact Tabs.below HT.out bwA); rintro e w30 ⟨rfl, hb⟩; have n0_ := Aside0.mk (Kd.R_below (by (with_reducible repeat (first | apply Kd.R_alloc | apply Kd.R_drewN | apply Kd.R_drew)); exact HO_3.out) hb); have n1_ := Aside0.mk (below_step bwA hb); clear HO_3; clear HB; have HO_3 := n0_; have HB := n1_; clear n0_ n1_; (try clear hb); (try clear hb2); (try clear hk); (try clear hi)) | (go_at_call 25; (with_reducible refine (lex_Lex.calls k1 t683 t684 t685 t686 _ ?side1 A20.out).mono ?_); (case side1 => exact Tabs.below HT.out bwA); rintro e w31 ⟨v687, rfl, ho0, hb⟩; have n0_ := Aside0.mk (Kd.R_elder' (by (with_reducible repeat (first | apply Kd.R_alloc | apply Kd.R_drewN | apply Kd.R_drew)); exact HO_3.out) (Kd.R_base ho0) hb); have n1_ := Aside0.mk (Kd.R_lower (Kd.R_new' ho0 (Kd.R_lt (by (with_reducible repeat (first | apply Kd.R_alloc | apply Kd.R_drewN | apply Kd.R_drew)); exact HO_3.out))) (below_size bwA)); have n2_ := Aside0.mk (below_step bwA hb); clear HO_3; clear HB; have HO_3 := n0_; have HO688 := n1_; have HB := n2_; clear n0_ n1_ n2_; (try clear hb); (try clear hb2); (try clear hk); (try clear hi); (try clear ho0)) | (go_at_call 24; (with_reducible refine (caduceuslaw07_awake.calls k1  true _ ?side1 A21.out).mono ?_); (case side1 => exact Tabs.below HT.out bwA); rintro e w32 ⟨rfl, hb⟩; have n0_ := Aside0.mk (Kd.R_below (by (with_reducible repeat (first | apply Kd.R_alloc | apply Kd.R_drewN | apply Kd.R_drew)); exact HO_3.out) hb); have n1_ := Aside0.mk (Kd.R_below (by (with_reducible repeat (first | apply Kd.R_alloc | apply Kd.R_drewN | apply Kd.R_drew)); exact HO688.out) hb); have n2_ := Aside0.mk (below_step bwA hb); clear HO_3; clear HO688; clear HB; have HO_3 := n0_; have HO688 := n1_; have HB := n2_; clear n0_ n1_ n2_; (try clear hb); (try clear hb2); (try clear hk); (try clear hi); obtain ⟨Ao33, co33, eo33⟩ := Kd.R_slice HO688.out; subst eo33) | (go_at_call 27; (with_reducible refine (caduceuslaw07_refs.calls k1 _ _ t684 t690 _ ?side1 ?side2 A24.out).mono ?_); (case side1 => repeat (first | exact (Kd.R_reads' HO688.out).2.2 | (with_reducible refine Kd.C_alloc ?_ _) | (with_reducible refine Kd.C_drewN ?_ _) | (with_reducible refine Kd.C_drew ?_))); (case side2 => exact (Kd.R_reads' HO688.out).2.1); rintro e w34 ⟨v691, rfl, ho0, hb⟩; have n0_ := Aside0.mk (Kd.R_below (by (with_reducible repeat (first | apply Kd.R_alloc | apply Kd.R_drewN | apply Kd.R_drew)); exact HO_3.out) hb); have n1_ := Aside0.mk (Kd.R_below (by (with_reducible repeat (first | apply Kd.R_alloc | apply Kd.R_drewN | apply Kd.R_drew)); exact HO688.out) hb); have n2_ := Aside0.mk (Kd.R_lower ho0 (below_size bwA)); have n3_ := Aside0.mk (below_step bwA hb); clear HO_3; clear HO688; clear HB; have HO_3 := n0_; have HO688 := n1_; have HO692 := n2_; have HB := n3_; clear n0_ n1_ n2_ n3_; (try clear hb); (try clear hb2); (try clear hk); (try clear hi); (try clear ho0)) | (go_at_call 27; (with_reducible refine (caduceuslaw07_refs.calls k1 _ _ t673 t693 _ ?side1 ?side2 A25.out).mono ?_); (case side1 => repeat (first | exact (Kd.R_reads' HO_3.out).2.2 | (with_reducible refine Kd.C_alloc ?_ _) | (with_reducible refine Kd.C_drewN ?_ _) | (with_reducible refine Kd.C_drew ?_))); (case side2 => exact (Kd.R_reads' HO_3.out).2.1); rintro e w35 ⟨v694, rfl, ho0, hb⟩; have n0_ := Aside0.mk (Kd.R_below (by (with_reducible repeat (first | apply Kd.R_alloc | apply Kd.R_drewN | apply Kd.R_drew)); exact HO_3.out) hb); have n1_ := Aside0.mk (Kd.R_below (by (with_reducible repeat (first | apply Kd.R_alloc | apply Kd.R_drewN | apply Kd.R_drew)); exact HO688.out) hb); have n2_ := Aside0.mk (Kd.R_elder' (by (with_reducible repeat (first | apply Kd.R_alloc | apply Kd.R_drewN | apply Kd.R_drew)); exact HO692.out) (Kd.R_base ho0) hb); have n3_ := Aside0.mk (Kd.R_lower (Kd.R_new' ho0 (Kd.R_lt (by (with_reducible repeat (first | apply Kd.R_alloc | apply Kd.R_drewN | apply Kd.R_drew)); exact HO692.out))) (below_size bwA)); have n4_ := Aside0.mk (below_step bwA hb); clear HO_3; clear HO688; clear HO692; clear HB; have HO_3 := n0_; have HO688 := n1_; have HO692 := n2_; have HO695 := n3_; have HB := n4_; clear n0_ n1_ n2_ n3_ n4_; (try clear hb); (try clear hb2); (try clear hk); (try clear hi); (try clear ho0); obtain ⟨Ao36, co36, eo36⟩ := Kd.R_slice HO692.out; subst eo36; obtain ⟨Ao37, co37, eo37⟩ := Kd.R_slice HO695.out; subst eo37) | (go_at_call 26; (with_reducible refine (caduceusref07_Same.calls k1 _ _ t690 _ _ t693 true true _ ?side1 ?side2 ?side3 ?side4 A26.out).mono ?_); (case side1 => repeat (first | exact (Kd.R_reads' HO692.out).2.2 | (with_reducible refine Kd.C_alloc ?_ _) | (with_reducible refine Kd.C_drewN ?_ _) | (with_reducible refine Kd.C_drew ?_))); (case side2 => exact (Kd.R_reads' HO692.out).2.1); (case side3 => repeat (first | exact (Kd.R_reads' HO695.out).2.2 | (with_reducible refine Kd.C_alloc ?_ _) | (with_reducible refine Kd.C_drewN ?_ _) | (with_reducible refine Kd.C_drew ?_))); (case side4 => exact (Kd.R_reads' HO695.out).2.1); rintro e w' ⟨rfl, ⟨nd, rfl⟩⟩; (try first | exact ⟨rfl, _, World.drewN_drewN _ _ _⟩ | exact ⟨rfl, _, Eq.trans (World.drewN_drewN _ _ _) (congrArg (World.drewN _) (Nat.add_assoc _ _ _))⟩)) | (go_at_call 38; (with_reducible refine (caduceusref02_Runes.calls k1 a0 t697 _ A28.out).mono ?_); rintro e w38 ⟨v698, rfl, ho0, hb⟩; have n0_ := Aside0.mk (Kd.R_below (by (with_reducible repeat (first | apply Kd.R_alloc | apply Kd.R_drewN | apply Kd.R_drew)); exact HO_3.out) hb); have n1_ := Aside0.mk (Kd.R_below (by (with_reducible repeat (first | apply Kd.R_alloc | apply Kd.R_drewN | apply Kd.R_drew)); exact HO688.out) hb); have n2_ := Aside0.mk (Kd.R_below (by (with_reducible repeat (first | apply Kd.R_alloc | apply Kd.R_drewN | apply Kd.R_drew)); exact HO692.out) hb); have n3_ := Aside0.mk (Kd.R_below (by (with_reducible repeat (first | apply Kd.R_alloc | apply Kd.R_drewN | apply Kd.R_drew)); exact HO695.out) hb); have n4_ := Aside0.mk (Kd.R_lower ho0 (below_size bwA)); have n5_ := Aside0.mk (below_step bwA hb); clear HO_3; clear HO688; clear HO692; clear HO695; clear HB; have HO_3 := n0_; have HO688 := n1_; have HO692 := n2_; have HO695 := n3_; have HO699 := n4_; have HB := n5_; clear n0_ n1_ n2_ n3_ n4_ n5_; (try clear hb); (try clear hb2); (try clear hk); (try clear hi); (try clear ho0); obtain ⟨Ao39, co39, eo39⟩ := Kd.R_slice HO699.out; subst eo39)); try go_wp2_with (first | (go_at_call 37; (with_reducible refine (lex_Show.calls k1 _ _ t673 t683 _ ?side1 ?side2 ?side3 A19.out).mono ?_); (case side1 => repeat (first | exact (Kd.R_reads' HO_3.out).2.2 | (with_reducible refine Kd.C_alloc ?_ _) | (with_reducible refine Kd.C_drewN ?_ _) | (with_reducible refine Kd.C_drew ?_))); (case side2 => exact (Kd.R_reads' HO_3.out).2.1); (case side3 => exact Tabs.below HT.out bwA); rintro e w30 ⟨rfl, hb⟩; have n0_ := Aside0.mk (Kd.R_below (by (with_reducible repeat (first | apply Kd.R_alloc | apply Kd.R_drewN | apply Kd.R_drew)); exact HO_3.out) hb); have n1_ := Aside0.mk (below_step bwA hb); clear HO_3; clear HB; have HO_3 := n0_; have HB := n1_; clear n0_ n1_; (try clear hb); (try clear hb2); (try clear hk); (try clear hi)) | (go_at_call 25; (with_reducible refine (lex_Lex.calls k1 t683 t684 t685 t686 _ ?side1 A20.out).mono ?_); (case side1 => exact Tabs.below HT.out bwA); rintro e w31 ⟨v687, rfl, ho0, hb⟩; have n0_ := Aside0.mk (Kd.R_elder' (by (with_reducible repeat (first | apply Kd.R_alloc | apply Kd.R_drewN | apply Kd.R_drew)); exact HO_3.out) (Kd.R_base ho0) hb); have n1_ := Aside0.mk (Kd.R_lower (Kd.R_new' ho0 (Kd.R_lt (by (with_reducible repeat (first | apply Kd.R_alloc | apply Kd.R_drewN | apply Kd.R_drew)); exact HO_3.out))) (below_size bwA)); have n2_ := Aside0.mk (below_step bwA hb); clear HO_3; clear HB; have HO_3 := n0_; have HO688 := n1_; have HB := n2_; clear n0_ n1_ n2_; (try clear hb); (try clear hb2); (try clear hk); (try clear hi); (try clear ho0)) | (go_at_call 24; (with_reducible refine (caduceuslaw07_awake.calls k1  true _ ?side1 A21.out).mono ?_); (case side1 => exact Tabs.below HT.out bwA); rintro e w32 ⟨rfl, hb⟩; have n0_ := Aside0.mk (Kd.R_below (by (with_reducible repeat (first | apply Kd.R_alloc | apply Kd.R_drewN | apply Kd.R_drew)); exact HO_3.out) hb); have n1_ := Aside0.mk (Kd.R_below (by (with_reducible repeat (first | apply Kd.R_alloc | apply Kd.R_drewN | apply Kd.R_drew)); exact HO688.out) hb); have n2_ := Aside0.mk (below_step bwA hb); clear HO_3; clear HO688; clear HB; have HO_3 := n0_; have HO688 := n1_; have HB := n2_; clear n0_ n1_ n2_; (try clear hb); (try clear hb2); (try clear hk); (try clear hi); obtain ⟨Ao33, co33, eo33⟩ := Kd.R_slice HO688.out; subst eo33) | (go_at_call 27; (with_reducible refine (caduceuslaw07_refs.calls k1 _ _ t684 t690 _ ?side1 ?side2 A24.out).mono ?_); (case side1 => repeat (first | exact (Kd.R_reads' HO688.out).2.2 | (with_reducible refine Kd.C_alloc ?_ _) | (with_reducible refine Kd.C_drewN ?_ _) | (with_reducible refine Kd.C_drew ?_))); (case side2 => exact (Kd.R_reads' HO688.out).2.1); rintro e w34 ⟨v691, rfl, ho0, hb⟩; have n0_ := Aside0.mk (Kd.R_below (by (with_reducible repeat (first | apply Kd.R_alloc | apply Kd.R_drewN | apply Kd.R_drew)); exact HO_3.out) hb); have n1_ := Aside0.mk (Kd.R_below (by (with_reducible repeat (first | apply Kd.R_alloc | apply Kd.R_drewN | apply Kd.R_drew)); exact HO688.out) hb); have n2_ := Aside0.mk (Kd.R_lower ho0 (below_size bwA)); have n3_ := Aside0.mk (below_step bwA hb); clear HO_3; clear HO688; clear HB; have HO_3 := n0_; have HO688 := n1_; have HO692 := n2_; have HB := n3_; clear n0_ n1_ n2_ n3_; (try clear hb); (try clear hb2); (try clear hk); (try clear hi); (try clear ho0)) | (go_at_call 27; (with_reducible refine (caduceuslaw07_refs.calls k1 _ _ t673 t693 _ ?side1 ?side2 A25.out).mono ?_); (case side1 => repeat (first | exact (Kd.R_reads' HO_3.out).2.2 | (with_reducible refine Kd.C_alloc ?_ _) | (with_reducible refine Kd.C_drewN ?_ _) | (with_reducible refine Kd.C_drew ?_))); (case side2 => exact (Kd.R_reads' HO_3.out).2.1); rintro e w35 ⟨v694, rfl, ho0, hb⟩; have n0_ := Aside0.mk (Kd.R_below (by (with_reducible repeat (first | apply Kd.R_alloc | apply Kd.R_drewN | apply Kd.R_drew)); exact HO_3.out) hb); have n1_ := Aside0.mk (Kd.R_below (by (with_reducible repeat (first | apply Kd.R_alloc | apply Kd.R_drewN | apply Kd.R_drew)); exact HO688.out) hb); have n2_ := Aside0.mk (Kd.R_elder' (by (with_reducible repeat (first | apply Kd.R_alloc | apply Kd.R_drewN | apply Kd.R_drew)); exact HO692.out) (Kd.R_base ho0) hb); have n3_ := Aside0.mk (Kd.R_lower (Kd.R_new' ho0 (Kd.R_lt (by (with_reducible repeat (first | apply Kd.R_alloc | apply Kd.R_drewN | apply Kd.R_drew)); exact HO692.out))) (below_size bwA)); have n4_ := Aside0.mk (below_step bwA hb); clear HO_3; clear HO688; clear HO692; clear HB; have HO_3 := n0_; have HO688 := n1_; have HO692 := n2_; have HO695 := n3_; have HB := n4_; clear n0_ n1_ n2_ n3_ n4_; (try clear hb); (try clear hb2); (try clear hk); (try clear hi); (try clear ho0); obtain ⟨Ao36, co36, eo36⟩ := Kd.R_slice HO692.out; subst eo36; obtain ⟨Ao37, co37, eo37⟩ := Kd.R_slice HO695.out; subst eo37) | (go_at_call 26; (with_reducible refine (caduceusref07_Same.calls k1 _ _ t690 _ _ t693 true true _ ?side1 ?side2 ?side3 ?side4 A26.out).mono ?_); (case side1 => repeat (first | exact (Kd.R_reads' HO692.out).2.2 | (with_reducible refine Kd.C_alloc ?_ _) | (with_reducible refine Kd.C_drewN ?_ _) | (with_reducible refine Kd.C_drew ?_))); (case side2 => exact (Kd.R_reads' HO692.out).2.1); (case side3 => repeat (first | exact (Kd.R_reads' HO695.out).2.2 | (with_reducible refine Kd.C_alloc ?_ _) | (with_reducible refine Kd.C_drewN ?_ _) | (with_reducible refine Kd.C_drew ?_))); (case side4 => exact (Kd.R_reads' HO695.out).2.1); rintro e w' ⟨rfl, ⟨nd, rfl⟩⟩; (try first | exact ⟨rfl, _, World.drewN_drewN _ _ _⟩ | exact ⟨rfl, _, Eq.trans (World.drewN_drewN _ _ _) (congrArg (World.drewN _) (Nat.add_assoc _ _ _))⟩)) | (go_at_call 38; (with_reducible refine (caduceusref02_Runes.calls k1 a0 t697 _ A28.out).mono ?_); rintro e w38 ⟨v698, rfl, ho0, hb⟩; have n0_ := Aside0.mk (Kd.R_below (by (with_reducible repeat (first | apply Kd.R_alloc | apply Kd.R_drewN | apply Kd.R_drew)); exact HO_3.out) hb); have n1_ := Aside0.mk (Kd.R_below (by (with_reducible repeat (first | apply Kd.R_alloc | apply Kd.R_drewN | apply Kd.R_drew)); exact HO688.out) hb); have n2_ := Aside0.mk (Kd.R_below (by (with_reducible repeat (first | apply Kd.R_alloc | apply Kd.R_drewN | apply Kd.R_drew)); exact HO692.out) hb); have n3_ := Aside0.mk (Kd.R_below (by (with_reducible repeat (first | apply Kd.R_alloc | apply Kd.R_drewN | apply Kd.R_drew)); exact HO695.out) hb); have n4_ := Aside0.mk (Kd.R_lower ho0 (below_size bwA)); have n5_ := Aside0.mk (below_step bwA hb); clear HO_3; clear HO688; clear HO692; clear HO695; clear HB; have HO_3 := n0_; have HO688 := n1_; have HO692 := n2_; have HO695 := n3_; have HO699 := n4_; have HB := n5_; clear n0_ n1_ n2_ n3_ n4_ n5_; (try clear hb); (try clear hb2); (try clear hk); (try clear hi); (try clear ho0); obtain ⟨Ao39, co39, eo39⟩ := Kd.R_slice HO699.out; subst eo39)))
         go_ret
         exact ⟨by first | rfl | (simp [errW_none, errW_some] <;> rfl) | (simp [*, errW_none, errW_some] <;> rfl), by repeat (first | (with_reducible first | exact HB.out | apply below_alloc | apply pw_below_drewN | apply below_drew1) | exact HB.out)⟩
        ·replace c27 := Bool.eq_false_iff.mpr c27
         subst c27
         have H1 : (none) = some r := by rw [if_neg (show ¬ (false = true) by decide)] at H; exact H
         clear H
         have H := H1
         clear H1
         exact absurd H (by simp)
       ·rw [if_neg c23] at H
        exact absurd H (by simp)
      ·replace c22 := Bool.eq_false_iff.mpr c22
       subst c22
       have H1 : (none) = some r := by rw [if_neg (show ¬ (false = true) by decide)] at H; exact H
       clear H
       have H := H1
       clear H1
       exact absurd H (by simp)
  ·rw [if_neg c6] at H
   have c6b0 : (t675 == 0) = false := beq_eq_false_iff_ne.mpr c6
   have c6b1 : (t675 != 0) = true := bne_iff_ne.mpr c6
   replace H := Option.bind_eq_some_iff.mp H
   obtain ⟨t678, A400, H⟩ := H
   replace H : (if t678 = true then (if (t673.length : Int) = 0 then (if t674 ≥ 0 then (some (decide (t674 ≤ (a0.size : Int)))) else (none)) else (none)) else (none)) = some r := H
   have A40 := Aside0.mk A400
   clear A400
   by_cases c41 : t678 = true
   ·subst c41
    have H1 : (if (t673.length : Int) = 0 then (if t674 ≥ 0 then (some (decide (t674 ≤ (a0.size : Int)))) else (none)) else (none)) = some r := by rw [if_pos rfl] at H; exact H
    clear H
    have H := H1
    clear H1
    by_cases c42 : (t673.length : Int) = 0
    ·rw [if_pos c42] at H
     have c42b0 : ((t673.length : Int) == 0) = true := beq_iff_eq.mpr c42
     have c42b1 : ((t673.length : Int) != 0) = false := bne_eq_false_iff_eq.mpr c42
     clear c42
     by_cases c43 : t674 ≥ 0
     ·rw [if_pos c43] at H
      have c43b0 : decide (0 ≤ t674) = true := decide_eq_true c43
      clear c43
      obtain rfl := Option.some.inj H
      go_enter Tryd.func12, Tryd.ntmps12
      go_wp2_with (first | (go_at_call 25; (with_reducible refine (lex_Lex.calls k a0 t673 t674 t675 _ ?side1 A5.out).mono ?_); (case side1 => exact Tabs.below HT.out bwA); rintro e w44 ⟨v676, rfl, ho0, hb⟩; have n0_ := Aside0.mk (Kd.R_lower ho0 (below_size bwA)); have n1_ := Aside0.mk (below_step bwA hb); clear HB; have HO677 := n0_; have HB := n1_; clear n0_ n1_; (try clear hb); (try clear hb2); (try clear hk); (try clear hi); (try clear ho0)) | (go_at_call 24; (with_reducible refine (caduceuslaw07_awake.calls k  true _ ?side1 A40.out).mono ?_); (case side1 => exact Tabs.below HT.out bwA); rintro e w45 ⟨rfl, hb⟩; have n0_ := Aside0.mk (Kd.R_below (by (with_reducible repeat (first | apply Kd.R_alloc | apply Kd.R_drewN | apply Kd.R_drew)); exact HO677.out) hb); have n1_ := Aside0.mk (below_step bwA hb); clear HO677; clear HB; have HO677 := n0_; have HB := n1_; clear n0_ n1_; (try clear hb); (try clear hb2); (try clear hk); (try clear hi); obtain ⟨Ao46, co46, eo46⟩ := Kd.R_slice HO677.out; subst eo46))
      repeat (go_quiet (first | (go_at_call 25; (with_reducible refine (lex_Lex.calls k a0 t673 t674 t675 _ ?side1 A5.out).mono ?_); (case side1 => exact Tabs.below HT.out bwA); rintro e w44 ⟨v676, rfl, ho0, hb⟩; have n0_ := Aside0.mk (Kd.R_lower ho0 (below_size bwA)); have n1_ := Aside0.mk (below_step bwA hb); clear HB; have HO677 := n0_; have HB := n1_; clear n0_ n1_; (try clear hb); (try clear hb2); (try clear hk); (try clear hi); (try clear ho0)) | (go_at_call 24; (with_reducible refine (caduceuslaw07_awake.calls k  true _ ?side1 A40.out).mono ?_); (case side1 => exact Tabs.below HT.out bwA); rintro e w45 ⟨rfl, hb⟩; have n0_ := Aside0.mk (Kd.R_below (by (with_reducible repeat (first | apply Kd.R_alloc | apply Kd.R_drewN | apply Kd.R_drew)); exact HO677.out) hb); have n1_ := Aside0.mk (below_step bwA hb); clear HO677; clear HB; have HO677 := n0_; have HB := n1_; clear n0_ n1_; (try clear hb); (try clear hb2); (try clear hk); (try clear hi); obtain ⟨Ao46, co46, eo46⟩ := Kd.R_slice HO677.out; subst eo46)); try go_wp2_with (first | (go_at_call 25; (with_reducible refine (lex_Lex.calls k a0 t673 t674 t675 _ ?side1 A5.out).mono ?_); (case side1 => exact Tabs.below HT.out bwA); rintro e w44 ⟨v676, rfl, ho0, hb⟩; have n0_ := Aside0.mk (Kd.R_lower ho0 (below_size bwA)); have n1_ := Aside0.mk (below_step bwA hb); clear HB; have HO677 := n0_; have HB := n1_; clear n0_ n1_; (try clear hb); (try clear hb2); (try clear hk); (try clear hi); (try clear ho0)) | (go_at_call 24; (with_reducible refine (caduceuslaw07_awake.calls k  true _ ?side1 A40.out).mono ?_); (case side1 => exact Tabs.below HT.out bwA); rintro e w45 ⟨rfl, hb⟩; have n0_ := Aside0.mk (Kd.R_below (by (with_reducible repeat (first | apply Kd.R_alloc | apply Kd.R_drewN | apply Kd.R_drew)); exact HO677.out) hb); have n1_ := Aside0.mk (below_step bwA hb); clear HO677; clear HB; have HO677 := n0_; have HB := n1_; clear n0_ n1_; (try clear hb); (try clear hb2); (try clear hk); (try clear hi); obtain ⟨Ao46, co46, eo46⟩ := Kd.R_slice HO677.out; subst eo46)))
      go_ret
      exact ⟨by first | rfl | (simp [errW_none, errW_some] <;> rfl) | (simp [*, errW_none, errW_some] <;> rfl), by repeat (first | (with_reducible first | exact HB.out | apply below_alloc | apply pw_below_drewN | apply below_drew1) | exact HB.out)⟩
     ·rw [if_neg c43] at H
      exact absurd H (by simp)
    ·rw [if_neg c42] at H
     exact absurd H (by simp)
   ·replace c41 := Bool.eq_false_iff.mpr c41
    subst c41
    have H1 : (none) = some r := by rw [if_neg (show ¬ (false = true) by decide)] at H; exact H
    clear H
    have H := H1
    clear H1
    exact absurd H (by simp)

end Go.Proofs.YtoajlmmkkcelgaaDoor.A
