-- By drv.py, the session's own driver round the kit's print: the machine's side of the laws, function by function. Not trusted: Lean checks it.
import Derived.Test.YtplemgmfnghoeaaGreatDoorAx0
import Derived.Test.YtplemgmfnghoeaaGreatDoorAx7
import Derived.Test.YtplemgmfnghoeaaGreatDoorAx8
import Derived.Test.YtplemgmfnghoeaaGreatDoorAx10
namespace Go.Proofs.YtplemgmfnghoeaaGreatDoor.A
open Go.RowKit Go.Proofs.YtplemgmfnghoeaaGreatDoorW.PrintWords Go.Proofs.YtplemgmfnghoeaaGreatDoorW.PrintLast Go.Proofs.YtplemgmfnghoeaaGreatDoorW.PrintMore
attribute [local go_sem] max2_int min2_int max_two min_two max_three min_three max_four min_four   -- for this text's walks alone
set_option linter.unusedVariables false
set_option linter.unusedSimpArgs false

/-! ### event_Check: function 12 -/
def event_Check.f (k : Nat) (a0_0 : Int) (a0_1 : Int) (a0_2 : Int) (a0_3 : ByteArray) (l0_4 : List (S57)) : Option (Bool) := (forest_IsID.f a0_0 a0_1 a0_2).bind fun t164 => (if t164 = true then ((name_Check.f k a0_3).bind fun t165 => (if t165 = 0 then ((schema_Attrs.f k l0_4).bind fun t166 => (some t166)) else (some false))) else (some false))
theorem event_Check.mono : ∀ a0 a1 a2 a3 a4 k, LeO (event_Check.f k a0 a1 a2 a3 a4) (event_Check.f (k + 1) a0 a1 a2 a3 a4) := by
 intro a0 a1 a2 a3 a4 k
 unfold event_Check.f
 repeat' first
   | (with_reducible exact name_Check.mono _ _)
   | (with_reducible exact schema_Attrs.mono _ _)
   | (with_reducible exact LeO.refl _)
   | (with_reducible exact LeO.none _)
   | (with_reducible refine LeO.ite ?_ ?_)
   | (with_reducible refine LeO.bind ?_ (fun _ => ?_))
   | exact name_Check.mono _ _
   | exact schema_Attrs.mono _ _
   | exact LeO.none _
   | refine LeO.ite ?_ ?_
   | refine LeO.bind ?_ (fun _ => ?_)
set_option maxHeartbeats 8000000 in
set_option maxRecDepth 100000 in
theorem event_Check.calls (k : Nat) (a0_0 : Int) (a0_1 : Int) (a0_2 : Int) (a0_3 : ByteArray) (A0_4 : Option Addr) (c0_4 : Nat) (l0_4 : List (S57)) (r : Bool) (w : World) (hr0_4 : Kd.C k57 w A0_4 l0_4.length l0_4) (hc0_4 : l0_4.length ≤ c0_4) (hT : Tabs w) (h : event_Check.f k a0_0 a0_1 a0_2 a0_3 l0_4 = some r) :
  Calls Tryz.prog 12 #[.agg #[.int .i64 a0_0, .int .i64 a0_1, .int .i64 a0_2, .string a0_3, .slice A0_4 l0_4.length c0_4]] w fun e w' => e = .returned (.bool r) ∧ Below w.heap.size w w' := by
 have hu27 := Tryz.underlying27
 have hu23 := Tryz.underlying23
 have HR0_4 := Aside0.mk hr0_4
 have HC0_4 := Aside0.mk hc0_4
 clear hr0_4 hc0_4
 have HB := Aside0.mk (Below.refl w.heap.size w)
 have H : ((forest_IsID.f a0_0 a0_1 a0_2).bind fun t164 => (if t164 = true then ((name_Check.f k a0_3).bind fun t165 => (if t165 = 0 then ((schema_Attrs.f k l0_4).bind fun t166 => (some t166)) else (some false))) else (some false))) = some r := h
 clear h
 have HT := Aside0.mk hT
 clear hT
 replace H := Option.bind_eq_some_iff.mp H
 obtain ⟨t164, A20, H⟩ := H
 replace H : (if t164 = true then ((name_Check.f k a0_3).bind fun t165 => (if t165 = 0 then ((schema_Attrs.f k l0_4).bind fun t166 => (some t166)) else (some false))) else (some false)) = some r := H
 have A2 := Aside0.mk A20
 clear A20
 by_cases c3 : t164 = true
 ·subst c3
  have H1 : ((name_Check.f k a0_3).bind fun t165 => (if t165 = 0 then ((schema_Attrs.f k l0_4).bind fun t166 => (some t166)) else (some false))) = some r := by rw [if_pos rfl] at H; exact H
  clear H
  have H := H1
  clear H1
  replace H := Option.bind_eq_some_iff.mp H
  obtain ⟨t165, A40, H⟩ := H
  replace H : (if t165 = 0 then ((schema_Attrs.f k l0_4).bind fun t166 => (some t166)) else (some false)) = some r := H
  have A4 := Aside0.mk A40
  clear A40
  by_cases c5 : t165 = 0
  ·rw [if_pos c5] at H
   have c5b0 : (t165 == 0) = true := beq_iff_eq.mpr c5
   have c5b1 : (t165 != 0) = false := bne_eq_false_iff_eq.mpr c5
   clear c5
   replace H := Option.bind_eq_some_iff.mp H
   obtain ⟨t166, A60, H⟩ := H
   replace H : (some t166) = some r := H
   have A6 := Aside0.mk A60
   clear A60
   obtain rfl := Option.some.inj H
   go_enter Tryz.func12, Tryz.ntmps12
   go_wp2_with (first | ((with_reducible refine gate_dst (N := 1) rfl ?_); refine box_event ?hg (N := 1) ?hd (cs := #[.int .i64 a0_0, .int .i64 a0_1, .int .i64 a0_2, .string a0_3, .slice A0_4 l0_4.length c0_4]) (t := 27) ?hr ?_; (case hd => rfl); (case hg => rfl); (case hr => first | (go_simp; done) | (go_simp; rfl)); intro gb163 hg w7 hbox hb; have n0_ := Aside0.mk (below_step (bwA) hb); have n1_ := Aside0.mk (hbox); have n2_ := Aside0.mk ((by rw [hg]; exact (below_size (bwA)) : w.heap.size ≤ gb163)); have n3_ := Aside0.mk ((by rw [hg]; exact (below_size (bwA)) : w.heap.size ≤ gb163)); clear HB; have HB := n0_; have BK163 := n1_; have GW163 := n2_; have GE163 := n3_; clear n0_ n1_ n2_ n3_; clear hb hbox hg; have hcz8_0 : w7.cell? ⟨gb163, 0, none⟩ = some (.int .i64 a0_0) := (blk_cell BK163.out 0).trans rfl; have hcz8_1 : w7.cell? ⟨gb163, 1, none⟩ = some (.int .i64 a0_1) := (blk_cell BK163.out 1).trans rfl; have hcz8_2 : w7.cell? ⟨gb163, 2, none⟩ = some (.int .i64 a0_2) := (blk_cell BK163.out 2).trans rfl; have hcz8_3 : w7.cell? ⟨gb163, 3, none⟩ = some (.string a0_3) := (blk_cell BK163.out 3).trans rfl; have hcz8_4 : w7.cell? ⟨gb163, 4, none⟩ = some (.slice A0_4 l0_4.length c0_4) := (blk_cell BK163.out 4).trans rfl; have hfz8_0 := blk_frozen BK163.out 0; have hfz8_1 := blk_frozen BK163.out 1; have hfz8_2 := blk_frozen BK163.out 2; have hfz8_3 := blk_frozen BK163.out 3; have hfz8_4 := blk_frozen BK163.out 4) | ((with_reducible refine gate_callee (f := 33) rfl ?_); refine goesA (some 5) Tryz.func33 #[.agg #[.int .i64 a0_0, .int .i64 a0_1, .int .i64 a0_2]] ?_; (with_reducible refine (forest_IsID.calls a0_0 a0_1 a0_2 true _ A2.out).mono ?_); rintro e w9 ⟨rfl, hb⟩; refine ⟨_, rfl, ?_⟩; have n0_ := Aside0.mk (blk_below (g := gb163) (o := .cells #[.int .i64 a0_0, .int .i64 a0_1, .int .i64 a0_2, .string a0_3, .slice A0_4 l0_4.length c0_4] 27 (0, 0)) blkA hb); have n1_ := Aside0.mk (below_step (bwA) hb); clear BK163; clear HB; have BK163 := n0_; have HB := n1_; clear n0_ n1_; (try clear hb); (try clear hb2); (try clear hk); (try clear hi); have hcz10_0 : w9.cell? ⟨gb163, 0, none⟩ = some (.int .i64 a0_0) := (blk_cell BK163.out 0).trans rfl; have hcz10_1 : w9.cell? ⟨gb163, 1, none⟩ = some (.int .i64 a0_1) := (blk_cell BK163.out 1).trans rfl; have hcz10_2 : w9.cell? ⟨gb163, 2, none⟩ = some (.int .i64 a0_2) := (blk_cell BK163.out 2).trans rfl; have hcz10_3 : w9.cell? ⟨gb163, 3, none⟩ = some (.string a0_3) := (blk_cell BK163.out 3).trans rfl; have hcz10_4 : w9.cell? ⟨gb163, 4, none⟩ = some (.slice A0_4 l0_4.length c0_4) := (blk_cell BK163.out 4).trans rfl; have hfz10_0 := blk_frozen BK163.out 0; have hfz10_1 := blk_frozen BK163.out 1; have hfz10_2 := blk_frozen BK163.out 2; have hfz10_3 := blk_frozen BK163.out 3; have hfz10_4 := blk_frozen BK163.out 4) | (go_at_call 34; (with_reducible refine (name_Check.calls k a0_3 t165 _ ?side1 A4.out).mono ?_); (case side1 => exact Tabs.below HT.out (bwA)); rintro e w11 ⟨rfl, hb⟩; have n0_ := Aside0.mk (blk_below (g := gb163) (o := .cells #[.int .i64 a0_0, .int .i64 a0_1, .int .i64 a0_2, .string a0_3, .slice A0_4 l0_4.length c0_4] 27 (0, 0)) blkA hb); have n1_ := Aside0.mk (below_step (bwA) hb); clear BK163; clear HB; have BK163 := n0_; have HB := n1_; clear n0_ n1_; (try clear hb); (try clear hb2); (try clear hk); (try clear hi); have hcz12_0 : w11.cell? ⟨gb163, 0, none⟩ = some (.int .i64 a0_0) := (blk_cell BK163.out 0).trans rfl; have hcz12_1 : w11.cell? ⟨gb163, 1, none⟩ = some (.int .i64 a0_1) := (blk_cell BK163.out 1).trans rfl; have hcz12_2 : w11.cell? ⟨gb163, 2, none⟩ = some (.int .i64 a0_2) := (blk_cell BK163.out 2).trans rfl; have hcz12_3 : w11.cell? ⟨gb163, 3, none⟩ = some (.string a0_3) := (blk_cell BK163.out 3).trans rfl; have hcz12_4 : w11.cell? ⟨gb163, 4, none⟩ = some (.slice A0_4 l0_4.length c0_4) := (blk_cell BK163.out 4).trans rfl; have hfz12_0 := blk_frozen BK163.out 0; have hfz12_1 := blk_frozen BK163.out 1; have hfz12_2 := blk_frozen BK163.out 2; have hfz12_3 := blk_frozen BK163.out 3; have hfz12_4 := blk_frozen BK163.out 4) | (go_at_call 35; (with_reducible refine (schema_Attrs.calls k _ _ l0_4 t166 _ ?side1 ?side2 ?side3 A6.out).mono ?_); (case side1 => repeat (first | exact (Kd.C_below HR0_4.out HB.out) | (with_reducible refine Kd.C_alloc ?_ _) | (with_reducible refine Kd.C_drewN ?_ _) | (with_reducible refine Kd.C_drew ?_))); (case side2 => exact HC0_4.out); (case side3 => exact Tabs.below HT.out (bwA)); rintro e w13 ⟨rfl, hb⟩; have n0_ := Aside0.mk (blk_below (g := gb163) (o := .cells #[.int .i64 a0_0, .int .i64 a0_1, .int .i64 a0_2, .string a0_3, .slice A0_4 l0_4.length c0_4] 27 (0, 0)) blkA hb); have n1_ := Aside0.mk (below_step (bwA) hb); clear BK163; clear HB; have BK163 := n0_; have HB := n1_; clear n0_ n1_; (try clear hb); (try clear hb2); (try clear hk); (try clear hi)))
   go_ret
   exact ⟨endA, bwA⟩
  ·rw [if_neg c5] at H
   have c5b0 : (t165 == 0) = false := beq_eq_false_iff_ne.mpr c5
   have c5b1 : (t165 != 0) = true := bne_iff_ne.mpr c5
   obtain rfl := Option.some.inj H
   go_enter Tryz.func12, Tryz.ntmps12
   go_wp2_with (first | ((with_reducible refine gate_dst (N := 1) rfl ?_); refine box_event ?hg (N := 1) ?hd (cs := #[.int .i64 a0_0, .int .i64 a0_1, .int .i64 a0_2, .string a0_3, .slice A0_4 l0_4.length c0_4]) (t := 27) ?hr ?_; (case hd => rfl); (case hg => rfl); (case hr => first | (go_simp; done) | (go_simp; rfl)); intro gb163 hg w14 hbox hb; have n0_ := Aside0.mk (below_step (bwA) hb); have n1_ := Aside0.mk (hbox); have n2_ := Aside0.mk ((by rw [hg]; exact (below_size (bwA)) : w.heap.size ≤ gb163)); have n3_ := Aside0.mk ((by rw [hg]; exact (below_size (bwA)) : w.heap.size ≤ gb163)); clear HB; have HB := n0_; have BK163 := n1_; have GW163 := n2_; have GE163 := n3_; clear n0_ n1_ n2_ n3_; clear hb hbox hg; have hcz15_0 : w14.cell? ⟨gb163, 0, none⟩ = some (.int .i64 a0_0) := (blk_cell BK163.out 0).trans rfl; have hcz15_1 : w14.cell? ⟨gb163, 1, none⟩ = some (.int .i64 a0_1) := (blk_cell BK163.out 1).trans rfl; have hcz15_2 : w14.cell? ⟨gb163, 2, none⟩ = some (.int .i64 a0_2) := (blk_cell BK163.out 2).trans rfl; have hcz15_3 : w14.cell? ⟨gb163, 3, none⟩ = some (.string a0_3) := (blk_cell BK163.out 3).trans rfl; have hcz15_4 : w14.cell? ⟨gb163, 4, none⟩ = some (.slice A0_4 l0_4.length c0_4) := (blk_cell BK163.out 4).trans rfl; have hfz15_0 := blk_frozen BK163.out 0; have hfz15_1 := blk_frozen BK163.out 1; have hfz15_2 := blk_frozen BK163.out 2; have hfz15_3 := blk_frozen BK163.out 3; have hfz15_4 := blk_frozen BK163.out 4) | ((with_reducible refine gate_callee (f := 33) rfl ?_); refine goesA (some 5) Tryz.func33 #[.agg #[.int .i64 a0_0, .int .i64 a0_1, .int .i64 a0_2]] ?_; (with_reducible refine (forest_IsID.calls a0_0 a0_1 a0_2 true _ A2.out).mono ?_); rintro e w16 ⟨rfl, hb⟩; refine ⟨_, rfl, ?_⟩; have n0_ := Aside0.mk (blk_below (g := gb163) (o := .cells #[.int .i64 a0_0, .int .i64 a0_1, .int .i64 a0_2, .string a0_3, .slice A0_4 l0_4.length c0_4] 27 (0, 0)) blkA hb); have n1_ := Aside0.mk (below_step (bwA) hb); clear BK163; clear HB; have BK163 := n0_; have HB := n1_; clear n0_ n1_; (try clear hb); (try clear hb2); (try clear hk); (try clear hi); have hcz17_0 : w16.cell? ⟨gb163, 0, none⟩ = some (.int .i64 a0_0) := (blk_cell BK163.out 0).trans rfl; have hcz17_1 : w16.cell? ⟨gb163, 1, none⟩ = some (.int .i64 a0_1) := (blk_cell BK163.out 1).trans rfl; have hcz17_2 : w16.cell? ⟨gb163, 2, none⟩ = some (.int .i64 a0_2) := (blk_cell BK163.out 2).trans rfl; have hcz17_3 : w16.cell? ⟨gb163, 3, none⟩ = some (.string a0_3) := (blk_cell BK163.out 3).trans rfl; have hcz17_4 : w16.cell? ⟨gb163, 4, none⟩ = some (.slice A0_4 l0_4.length c0_4) := (blk_cell BK163.out 4).trans rfl; have hfz17_0 := blk_frozen BK163.out 0; have hfz17_1 := blk_frozen BK163.out 1; have hfz17_2 := blk_frozen BK163.out 2; have hfz17_3 := blk_frozen BK163.out 3; have hfz17_4 := blk_frozen BK163.out 4) | (go_at_call 34; (with_reducible refine (name_Check.calls k a0_3 t165 _ ?side1 A4.out).mono ?_); (case side1 => exact Tabs.below HT.out (bwA)); rintro e w18 ⟨rfl, hb⟩; have n0_ := Aside0.mk (blk_below (g := gb163) (o := .cells #[.int .i64 a0_0, .int .i64 a0_1, .int .i64 a0_2, .string a0_3, .slice A0_4 l0_4.length c0_4] 27 (0, 0)) blkA hb); have n1_ := Aside0.mk (below_step (bwA) hb); clear BK163; clear HB; have BK163 := n0_; have HB := n1_; clear n0_ n1_; (try clear hb); (try clear hb2); (try clear hk); (try clear hi)))
   go_ret
   exact ⟨endA, bwA⟩
 ·replace c3 := Bool.eq_false_iff.mpr c3
  subst c3
  have H1 : (some false) = some r := by rw [if_neg (show ¬ (false = true) by decide)] at H; exact H
  clear H
  have H := H1
  clear H1
  obtain rfl := Option.some.inj H
  go_enter Tryz.func12, Tryz.ntmps12
  go_wp2_with (first | ((with_reducible refine gate_dst (N := 1) rfl ?_); refine box_event ?hg (N := 1) ?hd (cs := #[.int .i64 a0_0, .int .i64 a0_1, .int .i64 a0_2, .string a0_3, .slice A0_4 l0_4.length c0_4]) (t := 27) ?hr ?_; (case hd => rfl); (case hg => rfl); (case hr => first | (go_simp; done) | (go_simp; rfl)); intro gb163 hg w19 hbox hb; have n0_ := Aside0.mk (below_step (bwA) hb); have n1_ := Aside0.mk (hbox); have n2_ := Aside0.mk ((by rw [hg]; exact (below_size (bwA)) : w.heap.size ≤ gb163)); have n3_ := Aside0.mk ((by rw [hg]; exact (below_size (bwA)) : w.heap.size ≤ gb163)); clear HB; have HB := n0_; have BK163 := n1_; have GW163 := n2_; have GE163 := n3_; clear n0_ n1_ n2_ n3_; clear hb hbox hg; have hcz20_0 : w19.cell? ⟨gb163, 0, none⟩ = some (.int .i64 a0_0) := (blk_cell BK163.out 0).trans rfl; have hcz20_1 : w19.cell? ⟨gb163, 1, none⟩ = some (.int .i64 a0_1) := (blk_cell BK163.out 1).trans rfl; have hcz20_2 : w19.cell? ⟨gb163, 2, none⟩ = some (.int .i64 a0_2) := (blk_cell BK163.out 2).trans rfl; have hcz20_3 : w19.cell? ⟨gb163, 3, none⟩ = some (.string a0_3) := (blk_cell BK163.out 3).trans rfl; have hcz20_4 : w19.cell? ⟨gb163, 4, none⟩ = some (.slice A0_4 l0_4.length c0_4) := (blk_cell BK163.out 4).trans rfl; have hfz20_0 := blk_frozen BK163.out 0; have hfz20_1 := blk_frozen BK163.out 1; have hfz20_2 := blk_frozen BK163.out 2; have hfz20_3 := blk_frozen BK163.out 3; have hfz20_4 := blk_frozen BK163.out 4) | ((with_reducible refine gate_callee (f := 33) rfl ?_); refine goesA (some 5) Tryz.func33 #[.agg #[.int .i64 a0_0, .int .i64 a0_1, .int .i64 a0_2]] ?_; (with_reducible refine (forest_IsID.calls a0_0 a0_1 a0_2 false _ A2.out).mono ?_); rintro e w21 ⟨rfl, hb⟩; refine ⟨_, rfl, ?_⟩; have n0_ := Aside0.mk (blk_below (g := gb163) (o := .cells #[.int .i64 a0_0, .int .i64 a0_1, .int .i64 a0_2, .string a0_3, .slice A0_4 l0_4.length c0_4] 27 (0, 0)) blkA hb); have n1_ := Aside0.mk (below_step (bwA) hb); clear BK163; clear HB; have BK163 := n0_; have HB := n1_; clear n0_ n1_; (try clear hb); (try clear hb2); (try clear hk); (try clear hi)))
  go_ret
  exact ⟨endA, bwA⟩

/-! ### strconv_Itoa: function 49, by hand -/
def strconv_Itoa.f (a0 : Int) : Option ByteArray := if -9223372036854775808 ≤ a0 ∧ a0 ≤ 9223372036854775807 then some ⟨(Lib.itoa a0).toArray⟩ else none
theorem strconv_Itoa.calls (a0 : Int) (r : ByteArray) (w : World) (hT : Tabs w) (h : strconv_Itoa.f a0 = some r) :
  Calls Tryz.prog 49 #[.int .i64 a0] w fun e w' => e = .returned (.string r) ∧ Below w.heap.size w w' := by
 unfold strconv_Itoa.f at h
 split at h
 ·rename_i hs
  obtain rfl := Option.some.inj h
  refine (Tryz.strconv_Itoa a0 hs.1 hs.2 w hT.pow).mono ?_
  rintro e w' ⟨he, k, os, rfl⟩
  exact ⟨he, Lib.below_grow _ w (Nat.le_refl _) k os⟩
 ·cases h

/-! ### event_ShowID: function 20 -/
def event_ShowID.f (a0_0 : Int) (a0_1 : Int) (a0_2 : Int) : Option (ByteArray) := (forest_IsID.f a0_0 a0_1 a0_2).bind fun t168 => (if t168 = true then ((strconv_Itoa.f a0_0).bind fun t169 => (if t169.size + 1 ≤ 9223372036854775807 then ((strconv_Itoa.f a0_1).bind fun t170 => (if (t169 ++ (⟨#[46]⟩ : ByteArray)).size + t170.size ≤ 9223372036854775807 then (if ((t169 ++ (⟨#[46]⟩ : ByteArray)) ++ t170).size + 1 ≤ 9223372036854775807 then ((strconv_Itoa.f a0_2).bind fun t171 => (if (((t169 ++ (⟨#[46]⟩ : ByteArray)) ++ t170) ++ (⟨#[46]⟩ : ByteArray)).size + t171.size ≤ 9223372036854775807 then (some ((((t169 ++ (⟨#[46]⟩ : ByteArray)) ++ t170) ++ (⟨#[46]⟩ : ByteArray)) ++ t171)) else (none))) else (none)) else (none))) else (none))) else (some (⟨#[]⟩ : ByteArray)))
def event_ShowID.T3 : Bool × List (List Nat × List Nat) := (true, [([], []), ([0], [0]), ([1], [1]), ([2], [2]), ([], []), ([4], [4]), ([5, 2], [5]), ([3, 6], [3, 6]), ([7], [7]), ([], []), ([9], [9]), ([10, 6], [10]), ([8, 11], [8, 11]), ([12, 11, 0, 1, 2, 3, 4, 5, 6, 7, 8, 9, 10, 11, 12], [12])])
def event_ShowID.B3 : List Nat := [0, 1, 3, 7, 0, 16, 55, 127, 255, 0, 512, 1655, 4095, 8191]
theorem event_ShowID.tab3 : rtab .any (opsOf Tryz.f20 3) = event_ShowID.T3 := by kernel_rfl
theorem event_ShowID.bits3 : waitsOk event_ShowID.T3.2 event_ShowID.B3 = true := by kernel_rfl
set_option maxHeartbeats 8000000 in
set_option maxRecDepth 100000 in
theorem event_ShowID.calls (a0_0 : Int) (a0_1 : Int) (a0_2 : Int) (r : ByteArray) (w : World) (hT : Tabs w) (h : event_ShowID.f a0_0 a0_1 a0_2 = some r) :
  Calls Tryz.prog 20 #[.agg #[.int .i64 a0_0, .int .i64 a0_1, .int .i64 a0_2]] w fun e w' => e = .returned (.string r) ∧ Below w.heap.size w w' := by
 have hu23 := Tryz.underlying23
 have HB := Aside0.mk (Below.refl w.heap.size w)
 have H : ((forest_IsID.f a0_0 a0_1 a0_2).bind fun t168 => (if t168 = true then ((strconv_Itoa.f a0_0).bind fun t169 => (if t169.size + 1 ≤ 9223372036854775807 then ((strconv_Itoa.f a0_1).bind fun t170 => (if (t169 ++ (⟨#[46]⟩ : ByteArray)).size + t170.size ≤ 9223372036854775807 then (if ((t169 ++ (⟨#[46]⟩ : ByteArray)) ++ t170).size + 1 ≤ 9223372036854775807 then ((strconv_Itoa.f a0_2).bind fun t171 => (if (((t169 ++ (⟨#[46]⟩ : ByteArray)) ++ t170) ++ (⟨#[46]⟩ : ByteArray)).size + t171.size ≤ 9223372036854775807 then (some ((((t169 ++ (⟨#[46]⟩ : ByteArray)) ++ t170) ++ (⟨#[46]⟩ : ByteArray)) ++ t171)) else (none))) else (none)) else (none))) else (none))) else (some (⟨#[]⟩ : ByteArray)))) = some r := h
 clear h
 have HT := Aside0.mk hT
 clear hT
 replace H := Option.bind_eq_some_iff.mp H
 obtain ⟨t168, A20, H⟩ := H
 replace H : (if t168 = true then ((strconv_Itoa.f a0_0).bind fun t169 => (if t169.size + 1 ≤ 9223372036854775807 then ((strconv_Itoa.f a0_1).bind fun t170 => (if (t169 ++ (⟨#[46]⟩ : ByteArray)).size + t170.size ≤ 9223372036854775807 then (if ((t169 ++ (⟨#[46]⟩ : ByteArray)) ++ t170).size + 1 ≤ 9223372036854775807 then ((strconv_Itoa.f a0_2).bind fun t171 => (if (((t169 ++ (⟨#[46]⟩ : ByteArray)) ++ t170) ++ (⟨#[46]⟩ : ByteArray)).size + t171.size ≤ 9223372036854775807 then (some ((((t169 ++ (⟨#[46]⟩ : ByteArray)) ++ t170) ++ (⟨#[46]⟩ : ByteArray)) ++ t171)) else (none))) else (none)) else (none))) else (none))) else (some (⟨#[]⟩ : ByteArray))) = some r := H
 have A2 := Aside0.mk A20
 clear A20
 by_cases c3 : t168 = true
 ·subst c3
  have H1 : ((strconv_Itoa.f a0_0).bind fun t169 => (if t169.size + 1 ≤ 9223372036854775807 then ((strconv_Itoa.f a0_1).bind fun t170 => (if (t169 ++ (⟨#[46]⟩ : ByteArray)).size + t170.size ≤ 9223372036854775807 then (if ((t169 ++ (⟨#[46]⟩ : ByteArray)) ++ t170).size + 1 ≤ 9223372036854775807 then ((strconv_Itoa.f a0_2).bind fun t171 => (if (((t169 ++ (⟨#[46]⟩ : ByteArray)) ++ t170) ++ (⟨#[46]⟩ : ByteArray)).size + t171.size ≤ 9223372036854775807 then (some ((((t169 ++ (⟨#[46]⟩ : ByteArray)) ++ t170) ++ (⟨#[46]⟩ : ByteArray)) ++ t171)) else (none))) else (none)) else (none))) else (none))) = some r := by rw [if_pos rfl] at H; exact H
  clear H
  have H := H1
  clear H1
  replace H := Option.bind_eq_some_iff.mp H
  obtain ⟨t169, A40, H⟩ := H
  replace H : (if t169.size + 1 ≤ 9223372036854775807 then ((strconv_Itoa.f a0_1).bind fun t170 => (if (t169 ++ (⟨#[46]⟩ : ByteArray)).size + t170.size ≤ 9223372036854775807 then (if ((t169 ++ (⟨#[46]⟩ : ByteArray)) ++ t170).size + 1 ≤ 9223372036854775807 then ((strconv_Itoa.f a0_2).bind fun t171 => (if (((t169 ++ (⟨#[46]⟩ : ByteArray)) ++ t170) ++ (⟨#[46]⟩ : ByteArray)).size + t171.size ≤ 9223372036854775807 then (some ((((t169 ++ (⟨#[46]⟩ : ByteArray)) ++ t170) ++ (⟨#[46]⟩ : ByteArray)) ++ t171)) else (none))) else (none)) else (none))) else (none)) = some r := H
  have A4 := Aside0.mk A40
  clear A40
  by_cases c5 : t169.size + 1 ≤ 9223372036854775807
  ·rw [if_pos c5] at H
   have c5b0 := eq_true c5
   have c5b1 : decide (t169.size + 1 ≤ 9223372036854775807) = true := decide_eq_true c5
   try have c5b2 : (9223372036854775807 < t169.size + 1) = False := eq_false (Nat.not_lt.2 c5)
   replace H := Option.bind_eq_some_iff.mp H
   obtain ⟨t170, A60, H⟩ := H
   replace H : (if (t169 ++ (⟨#[46]⟩ : ByteArray)).size + t170.size ≤ 9223372036854775807 then (if ((t169 ++ (⟨#[46]⟩ : ByteArray)) ++ t170).size + 1 ≤ 9223372036854775807 then ((strconv_Itoa.f a0_2).bind fun t171 => (if (((t169 ++ (⟨#[46]⟩ : ByteArray)) ++ t170) ++ (⟨#[46]⟩ : ByteArray)).size + t171.size ≤ 9223372036854775807 then (some ((((t169 ++ (⟨#[46]⟩ : ByteArray)) ++ t170) ++ (⟨#[46]⟩ : ByteArray)) ++ t171)) else (none))) else (none)) else (none)) = some r := H
   have A6 := Aside0.mk A60
   clear A60
   by_cases c7 : (t169 ++ (⟨#[46]⟩ : ByteArray)).size + t170.size ≤ 9223372036854775807
   ·rw [if_pos c7] at H
    have c7b0 := eq_true c7
    have c7b1 : decide ((t169 ++ (⟨#[46]⟩ : ByteArray)).size + t170.size ≤ 9223372036854775807) = true := decide_eq_true c7
    try have c7b2 : (9223372036854775807 < (t169 ++ (⟨#[46]⟩ : ByteArray)).size + t170.size) = False := eq_false (Nat.not_lt.2 c7)
    try have c7b3 : (9223372036854775807 < t169.size + 1 + t170.size) = False := eq_false (by have zz_ := c7; simp only [ByteArray.size_append] at zz_; have zy0_ : (⟨#[46]⟩ : ByteArray).size = 1 := rfl; omega)
    by_cases c8 : ((t169 ++ (⟨#[46]⟩ : ByteArray)) ++ t170).size + 1 ≤ 9223372036854775807
    ·rw [if_pos c8] at H
     have c8b0 := eq_true c8
     have c8b1 : decide (((t169 ++ (⟨#[46]⟩ : ByteArray)) ++ t170).size + 1 ≤ 9223372036854775807) = true := decide_eq_true c8
     try have c8b2 : (9223372036854775807 < ((t169 ++ (⟨#[46]⟩ : ByteArray)) ++ t170).size + 1) = False := eq_false (Nat.not_lt.2 c8)
     try have c8b3 : (9223372036854775807 < t169.size + 1 + t170.size + 1) = False := eq_false (by have zz_ := c8; simp only [ByteArray.size_append] at zz_; have zy0_ : (⟨#[46]⟩ : ByteArray).size = 1 := rfl; omega)
     replace H := Option.bind_eq_some_iff.mp H
     obtain ⟨t171, A90, H⟩ := H
     replace H : (if (((t169 ++ (⟨#[46]⟩ : ByteArray)) ++ t170) ++ (⟨#[46]⟩ : ByteArray)).size + t171.size ≤ 9223372036854775807 then (some ((((t169 ++ (⟨#[46]⟩ : ByteArray)) ++ t170) ++ (⟨#[46]⟩ : ByteArray)) ++ t171)) else (none)) = some r := H
     have A9 := Aside0.mk A90
     clear A90
     by_cases c10 : (((t169 ++ (⟨#[46]⟩ : ByteArray)) ++ t170) ++ (⟨#[46]⟩ : ByteArray)).size + t171.size ≤ 9223372036854775807
     ·rw [if_pos c10] at H
      have c10b0 := eq_true c10
      have c10b1 : decide ((((t169 ++ (⟨#[46]⟩ : ByteArray)) ++ t170) ++ (⟨#[46]⟩ : ByteArray)).size + t171.size ≤ 9223372036854775807) = true := decide_eq_true c10
      try have c10b2 : (9223372036854775807 < (((t169 ++ (⟨#[46]⟩ : ByteArray)) ++ t170) ++ (⟨#[46]⟩ : ByteArray)).size + t171.size) = False := eq_false (Nat.not_lt.2 c10)
      try have c10b3 : (9223372036854775807 < t169.size + 1 + t170.size + 1 + t171.size) = False := eq_false (by have zz_ := c10; simp only [ByteArray.size_append] at zz_; have zy0_ : (⟨#[46]⟩ : ByteArray).size = 1 := rfl; have zy1_ : (⟨#[46]⟩ : ByteArray).size = 1 := rfl; omega)
      obtain rfl := Option.some.inj H
      go_enter Tryz.func20, Tryz.ntmps20
      try go_wp2_with (first | ((with_reducible refine gate_dst (N := 1) rfl ?_); refine box_event ?hg (N := 1) ?hd (cs := #[.int .i64 a0_0, .int .i64 a0_1, .int .i64 a0_2]) (t := 23) ?hr ?_; (case hd => rfl); (case hg => rfl); (case hr => first | (go_simp; done) | (go_simp; rfl)); intro gb167 hg w11 hbox hb; have n0_ := Aside0.mk (below_step (bwA) hb); have n1_ := Aside0.mk (hbox); have n2_ := Aside0.mk ((by rw [hg]; exact (below_size (bwA)) : w.heap.size ≤ gb167)); have n3_ := Aside0.mk ((by rw [hg]; exact (below_size (bwA)) : w.heap.size ≤ gb167)); clear HB; have HB := n0_; have BK167 := n1_; have GW167 := n2_; have GE167 := n3_; clear n0_ n1_ n2_ n3_; clear hb hbox hg; have hcz12_0 : w11.cell? ⟨gb167, 0, none⟩ = some (.int .i64 a0_0) := (blk_cell BK167.out 0).trans rfl; have hcz12_1 : w11.cell? ⟨gb167, 1, none⟩ = some (.int .i64 a0_1) := (blk_cell BK167.out 1).trans rfl; have hcz12_2 : w11.cell? ⟨gb167, 2, none⟩ = some (.int .i64 a0_2) := (blk_cell BK167.out 2).trans rfl; have hfz12_0 := blk_frozen BK167.out 0; have hfz12_1 := blk_frozen BK167.out 1; have hfz12_2 := blk_frozen BK167.out 2) | ((with_reducible refine gate_callee (f := 33) rfl ?_); refine goesA (some 4) Tryz.func33 #[.agg #[.int .i64 a0_0, .int .i64 a0_1, .int .i64 a0_2]] ?_; (with_reducible refine (forest_IsID.calls a0_0 a0_1 a0_2 true _ A2.out).mono ?_); rintro e w13 ⟨rfl, hb⟩; refine ⟨_, rfl, ?_⟩; have n0_ := Aside0.mk (blk_below (g := gb167) (o := .cells #[.int .i64 a0_0, .int .i64 a0_1, .int .i64 a0_2] 23 (0, 0)) blkA hb); have n1_ := Aside0.mk (below_step (bwA) hb); clear BK167; clear HB; have BK167 := n0_; have HB := n1_; clear n0_ n1_; (try clear hb); (try clear hb2); (try clear hk); (try clear hi)))
      have n0_ := Aside0.mk (blk_drew BK167.out)
      have n1_ := Aside0.mk (below_drew1 HB.out)
      clear BK167
      clear HB
      have BK167 := n0_
      have HB := n1_
      clear n0_ n1_
      refine start_ (n := 14) (S := fun w' => w'.cell? ⟨gb167, 0, none⟩ = some (.int .i64 a0_0) ∧ w'.cell? ⟨gb167, 1, none⟩ = some (.int .i64 a0_1) ∧ w'.cell? ⟨gb167, 2, none⟩ = some (.int .i64 a0_2)) (ds := []) (mkB 14 0) (by kernel_rfl) rfl rfl ⟨(blk_cell BK167.out 0).trans rfl, (blk_cell BK167.out 1).trans rfl, (blk_cell BK167.out 2).trans rfl⟩ (fun hHeld => ?_); refine with_tabW event_ShowID.tab3 event_ShowID.bits3 (fun HT_ HW_ => ?_)
      generalize w13.drew = w14 at BK167 HB hHeld ⊢
      refine pureA 0 (some 6) (mkB 14 1) ?_
      refine pureA 4 (some 10) (mkB 14 17) ?_
      refine pureA 9 (some 15) (mkB 14 529) ?_
      refine takeA 1 (some 7) (mkB 14 531) ?_ rfl (Or.inl ⟨by rfl, by rintro w' ⟨s0, s1, s2⟩; go_simp; with_reducible rfl⟩)
      refine takeA 5 (some 11) (mkB 14 563) ?_ rfl (Or.inl ⟨by rfl, by rintro w' ⟨s0, s1, s2⟩; go_simp; with_reducible rfl⟩)
      refine takeA 10 (some 16) (mkB 14 1587) ?_ rfl (Or.inl ⟨by rfl, by rintro w' ⟨s0, s1, s2⟩; go_simp; with_reducible rfl⟩)
      refine oneA 2 (some 8) (mkB 14 1591) (fun K hK => ?_)
      refine goes_ Tryz.func49 (by kernel_rfl) rfl #[.int .i64 a0_0] (by rfl) rfl rfl (by (try simp only [List.map_toArray, List.map_cons, List.map_nil]); first | done | rfl | (simp only [List.length_drop, List.length_take]; rfl)) ?_
      with_reducible refine (strconv_Itoa.calls a0_0 t169 _ ?side1 A4.out).mono ?_
      (case side1 => exact Tabs.below HT.out (bwA))
      rintro e w15 ⟨rfl, hb⟩
      refine ⟨_, rfl, ?_⟩
      have n0_ := Aside0.mk (blk_below (g := gb167) (o := .cells #[.int .i64 a0_0, .int .i64 a0_1, .int .i64 a0_2] 23 (0, 0)) blkA hb)
      have n1_ := Aside0.mk (below_step (bwA) hb)
      clear BK167
      clear HB
      have BK167 := n0_
      have HB := n1_
      clear n0_ n1_
      (try clear hb); (try clear hb2); (try clear hk); (try clear hi)
      refine hK.out _ _ ⟨(blk_cell BK167.out 0).trans rfl, (blk_cell BK167.out 1).trans rfl, (blk_cell BK167.out 2).trans rfl⟩ (fun hHeld => ?_)
      clear hK K
      refine normA ?_
      refine pureA 3 (some 9) (mkB 14 1599) ?_
      refine oneA 6 (some 12) (mkB 14 1663) (fun K hK => ?_)
      refine goes_ Tryz.func49 (by kernel_rfl) rfl #[.int .i64 a0_1] (by rfl) rfl rfl (by (try simp only [List.map_toArray, List.map_cons, List.map_nil]); first | done | rfl | (simp only [List.length_drop, List.length_take]; rfl)) ?_
      with_reducible refine (strconv_Itoa.calls a0_1 t170 _ ?side1 A6.out).mono ?_
      (case side1 => exact Tabs.below HT.out (bwA))
      rintro e w16 ⟨rfl, hb⟩
      refine ⟨_, rfl, ?_⟩
      have n0_ := Aside0.mk (blk_below (g := gb167) (o := .cells #[.int .i64 a0_0, .int .i64 a0_1, .int .i64 a0_2] 23 (0, 0)) blkA hb)
      have n1_ := Aside0.mk (below_step (bwA) hb)
      clear BK167
      clear HB
      have BK167 := n0_
      have HB := n1_
      clear n0_ n1_
      (try clear hb); (try clear hb2); (try clear hk); (try clear hi)
      refine hK.out _ _ ⟨(blk_cell BK167.out 0).trans rfl, (blk_cell BK167.out 1).trans rfl, (blk_cell BK167.out 2).trans rfl⟩ (fun hHeld => ?_)
      clear hK K
      refine normA ?_
      refine pureA 7 (some 13) (mkB 14 1791) ?_
      refine pureA 8 (some 14) (mkB 14 2047) ?_
      refine oneA 11 (some 17) (mkB 14 4095) (fun K hK => ?_)
      refine goes_ Tryz.func49 (by kernel_rfl) rfl #[.int .i64 a0_2] (by rfl) rfl rfl (by (try simp only [List.map_toArray, List.map_cons, List.map_nil]); first | done | rfl | (simp only [List.length_drop, List.length_take]; rfl)) ?_
      with_reducible refine (strconv_Itoa.calls a0_2 t171 _ ?side1 A9.out).mono ?_
      (case side1 => exact Tabs.below HT.out (bwA))
      rintro e w17 ⟨rfl, hb⟩
      refine ⟨_, rfl, ?_⟩
      have n0_ := Aside0.mk (blk_below (g := gb167) (o := .cells #[.int .i64 a0_0, .int .i64 a0_1, .int .i64 a0_2] 23 (0, 0)) blkA hb)
      have n1_ := Aside0.mk (below_step (bwA) hb)
      clear BK167
      clear HB
      have BK167 := n0_
      have HB := n1_
      clear n0_ n1_
      (try clear hb); (try clear hb2); (try clear hk); (try clear hi)
      refine hK.out _ _ ⟨(blk_cell BK167.out 0).trans rfl, (blk_cell BK167.out 1).trans rfl, (blk_cell BK167.out 2).trans rfl⟩ (fun hHeld => ?_)
      clear hK K
      refine normA ?_
      refine pureA 12 (some 18) (mkB 14 8191) ?_
      refine pureA 13 (some 2) (mkB 14 16383) ?_
      refine done_ (done_of HT_.out (by kernel_rfl)) ?_
      try go_wp2
      go_ret
      exact ⟨endA, bwA⟩
     ·rw [if_neg c10] at H
      exact absurd H (by simp)
    ·rw [if_neg c8] at H
     exact absurd H (by simp)
   ·rw [if_neg c7] at H
    exact absurd H (by simp)
  ·rw [if_neg c5] at H
   exact absurd H (by simp)
 ·replace c3 := Bool.eq_false_iff.mpr c3
  subst c3
  have H1 : (some (⟨#[]⟩ : ByteArray)) = some r := by rw [if_neg (show ¬ (false = true) by decide)] at H; exact H
  clear H
  have H := H1
  clear H1
  obtain rfl := Option.some.inj H
  go_enter Tryz.func20, Tryz.ntmps20
  go_wp2_with (first | ((with_reducible refine gate_dst (N := 1) rfl ?_); refine box_event ?hg (N := 1) ?hd (cs := #[.int .i64 a0_0, .int .i64 a0_1, .int .i64 a0_2]) (t := 23) ?hr ?_; (case hd => rfl); (case hg => rfl); (case hr => first | (go_simp; done) | (go_simp; rfl)); intro gb167 hg w18 hbox hb; have n0_ := Aside0.mk (below_step (bwA) hb); have n1_ := Aside0.mk (hbox); have n2_ := Aside0.mk ((by rw [hg]; exact (below_size (bwA)) : w.heap.size ≤ gb167)); have n3_ := Aside0.mk ((by rw [hg]; exact (below_size (bwA)) : w.heap.size ≤ gb167)); clear HB; have HB := n0_; have BK167 := n1_; have GW167 := n2_; have GE167 := n3_; clear n0_ n1_ n2_ n3_; clear hb hbox hg; have hcz19_0 : w18.cell? ⟨gb167, 0, none⟩ = some (.int .i64 a0_0) := (blk_cell BK167.out 0).trans rfl; have hcz19_1 : w18.cell? ⟨gb167, 1, none⟩ = some (.int .i64 a0_1) := (blk_cell BK167.out 1).trans rfl; have hcz19_2 : w18.cell? ⟨gb167, 2, none⟩ = some (.int .i64 a0_2) := (blk_cell BK167.out 2).trans rfl; have hfz19_0 := blk_frozen BK167.out 0; have hfz19_1 := blk_frozen BK167.out 1; have hfz19_2 := blk_frozen BK167.out 2) | ((with_reducible refine gate_callee (f := 33) rfl ?_); refine goesA (some 4) Tryz.func33 #[.agg #[.int .i64 a0_0, .int .i64 a0_1, .int .i64 a0_2]] ?_; (with_reducible refine (forest_IsID.calls a0_0 a0_1 a0_2 false _ A2.out).mono ?_); rintro e w20 ⟨rfl, hb⟩; refine ⟨_, rfl, ?_⟩; have n0_ := Aside0.mk (blk_below (g := gb167) (o := .cells #[.int .i64 a0_0, .int .i64 a0_1, .int .i64 a0_2] 23 (0, 0)) blkA hb); have n1_ := Aside0.mk (below_step (bwA) hb); clear BK167; clear HB; have BK167 := n0_; have HB := n1_; clear n0_ n1_; (try clear hb); (try clear hb2); (try clear hk); (try clear hi)))
  go_ret
  exact ⟨endA, bwA⟩

/-! ### strconv_FormatInt: function 133, by hand -/
def strconv_FormatInt.f (a0 : Int) (a1 : Int) : Option ByteArray := if a1 = 16 ∧ 0 ≤ a0 ∧ a0 < 256 then some (hexStr a0) else none
theorem pow2_16 (w : World) : Calls Tryz.prog 159 #[.int .i64 16] w fun e w' => e = .returned (.bool true) ∧ w' = w := by
 go_enter Tryz.func159, Tryz.ntmps159
 go_wp2
 go_ret
 exact ⟨rfl, rfl⟩
def digs : ByteArray := ⟨#[48, 49, 50, 51, 52, 53, 54, 55, 56, 57, 97, 98, 99, 100, 101, 102, 103, 104, 105, 106, 107, 108, 109, 110, 111, 112, 113, 114, 115, 116, 117, 118, 119, 120, 121, 122]⟩
theorem digs_at' : ∀ n : Fin 16, ((digs[n.val]'(by have := n.isLt; show n.val < 36; omega)).toNat : Int) = hexd n.val := by decide
theorem digs_at (n : Nat) (h : n < 16) (hp : n < digs.size) : ((digs[n]'hp).toNat : Int) = hexd n := digs_at' ⟨n, h⟩
theorem conv64 (w : World) (D : Int) : (convert 73 9 (.slice (some ⟨w.heap.size, 64, none⟩) 1 1)).run Tryz.prog (w.alloc (.cells (Tryz.zeroCells164.setIfInBounds 64 (.int .u8 D)) 164)) = .ok (.string (strOfNums [D])) (w.alloc (.cells (Tryz.zeroCells164.setIfInBounds 64 (.int .u8 D)) 164)) := by
 refine run_convert_bytes_arg _ 73 5 Tryz.underlying73 Tryz.underlying5 w.heap.size 64 1 1 [D] rfl (fun i hi => ?_) 9 Tryz.underlying9
 obtain rfl : i = 0 := by omega
 have hz : Tryz.zeroCells164.size = 65 := by kernel_rfl
 have hn := heap_alloc_new w (.cells (Tryz.zeroCells164.setIfInBounds 64 (.int .u8 D)) 164)
 exact (Lib.cell_of_heap hn (64 + 0)).trans (by simp [hz])
set_option maxRecDepth 100000 in
theorem formatBits16_lo (n : Nat) (h1 : n < 16) (w : World) (hT : Tabs w) :
  Calls Tryz.prog 139 #[.slice none 0 0, .int .u64 n, .int .i64 16, .bool false, .bool false] w fun e w' => e = .returned (.tuple #[.slice none 0 0, .string (hexStr n)]) ∧ Below w.heap.size w w' := by
 have h1z : (n : Int) < 16 := by omega
 have b1 : decide ((n : Int) ≥ 16) = false := decide_eq_false (by omega)
 have c2 : ∀ W, Tabs W → Calls Tryz.prog 160 #[.int .u64 16] W _ := fun W hW => Tryz.bits_TrailingZeros 16 (by omega) W (fun _ => hW.tz)
 have k4 : (Lib.ctz 64 16 : Int) = 4 := by decide
 rw [k4] at c2
 have hcv := fun D => conv64 w D
 go_enter Tryz.func139, Tryz.ntmps139
 go_wp2_with (first | (go_at_call 159; refine (pow2_16 _).mono ?_; rintro e w1 ⟨rfl, rfl⟩) | (go_at_call 160; refine (c2 _ (hT.below ((Below.refl _ _).alloc (Nat.le_refl _) _))).mono ?_; rintro e w1 ⟨rfl, rfl⟩))
 refine wp_loop_rounds 1 ?_
 rw [rounds_succ]
 go_wp2
 have hx : hexStr n = strOfNums [((digs[n]'(by show n < 36; omega)).toNat : Int)] := by
  unfold hexStr; rw [if_pos h1z, digs_at n h1]
 rw [hx]
 go_ret2
 exact ⟨rfl, (Below.refl _ _).alloc (Nat.le_refl _) _⟩
theorem conv63 (w : World) (D E : Int) : (convert 73 9 (.slice (some ⟨w.heap.size, 63, none⟩) 2 2)).run Tryz.prog (w.alloc (.cells ((Tryz.zeroCells164.setIfInBounds 64 (.int .u8 D)).setIfInBounds 63 (.int .u8 E)) 164)) = .ok (.string (strOfNums [E, D])) (w.alloc (.cells ((Tryz.zeroCells164.setIfInBounds 64 (.int .u8 D)).setIfInBounds 63 (.int .u8 E)) 164)) := by
 refine run_convert_bytes_arg _ 73 5 Tryz.underlying73 Tryz.underlying5 w.heap.size 63 2 2 [E, D] rfl (fun i hi => ?_) 9 Tryz.underlying9
 have hz : Tryz.zeroCells164.size = 65 := by kernel_rfl
 have hn := heap_alloc_new w (.cells ((Tryz.zeroCells164.setIfInBounds 64 (.int .u8 D)).setIfInBounds 63 (.int .u8 E)) 164)
 obtain rfl | rfl : i = 0 ∨ i = 1 := by omega
 ·exact (Lib.cell_of_heap hn (63 + 0)).trans (by simp [hz])
 ·exact (Lib.cell_of_heap hn (63 + 1)).trans (by simp [hz])
set_option maxRecDepth 100000 in
theorem formatBits16_hi (n p q : Nat) (hn : n = 16 * p + q) (hp0 : 0 < p) (hp : p < 16) (hq : q < 16) (w : World) (hT : Tabs w) :
  Calls Tryz.prog 139 #[.slice none 0 0, .int .u64 n, .int .i64 16, .bool false, .bool false] w fun e w' => e = .returned (.tuple #[.slice none 0 0, .string (strOfNums [hexd p, hexd q])]) ∧ Below w.heap.size w w' := by
 have b1 : decide ((n : Int) ≥ 16) = true := decide_eq_true (by omega)
 have b2 : decide ((p : Int) ≥ 16) = false := decide_eq_false (by omega)
 have c2 : ∀ W, Tabs W → Calls Tryz.prog 160 #[.int .u64 16] W _ := fun W hW => Tryz.bits_TrailingZeros 16 (by omega) W (fun _ => hW.tz)
 have k4 : (Lib.ctz 64 16 : Int) = 4 := by decide
 rw [k4] at c2
 have hcv := fun D E => conv63 w D E
 have ha : bits .and .u64 (n : Int) 15 = (q : Int) := by
  rw [show ((15 : Int)) = ((15 : Nat) : Int) from rfl, u64_and_nat n 15 (by omega) (by omega), show n &&& 15 = n % 16 from Nat.and_two_pow_sub_one_eq_mod n 4]
  omega
 have hs : (n : Int) / 16 = (p : Int) := by omega
 have hpz : (p : Int) < 36 := by omega
 have hqz : (q : Int) < 36 := by omega
 have hp36 : p < 36 := by omega
 have hq36 : q < 36 := by omega
 clear hn
 go_enter Tryz.func139, Tryz.ntmps139
 go_wp2_with (first | (go_at_call 159; refine (pow2_16 _).mono ?_; rintro e w1 ⟨rfl, rfl⟩) | (go_at_call 160; refine (c2 _ (hT.below ((Below.refl _ _).alloc (Nat.le_refl _) _))).mono ?_; rintro e w1 ⟨rfl, rfl⟩))
 refine wp_loop_rounds 2 ?_
 rw [rounds_succ]
 go_wp2
 rw [rounds_succ]
 go_wp2
 have hx : strOfNums [hexd p, hexd q] = strOfNums [((digs[p]'hp36).toNat : Int), ((digs[q]'hq36).toNat : Int)] := by
  rw [digs_at p hp hp36, digs_at q hq hq36]
 rw [hx]
 go_ret2
 exact ⟨rfl, (Below.refl _ _).alloc (Nat.le_refl _) _⟩
theorem formatBits16 (n : Nat) (h1 : n < 256) (w : World) (hT : Tabs w) :
  Calls Tryz.prog 139 #[.slice none 0 0, .int .u64 n, .int .i64 16, .bool false, .bool false] w fun e w' => e = .returned (.tuple #[.slice none 0 0, .string (hexStr n)]) ∧ Below w.heap.size w w' := by
 by_cases h : n < 16
 ·exact formatBits16_lo n h w hT
 ·have e : hexStr n = strOfNums [hexd (n / 16 : Nat), hexd (n % 16 : Nat)] := by
   unfold hexStr; rw [if_neg (by omega)]
   exact congrArg strOfNums (by congr 1)
  rw [e]
  exact formatBits16_hi n (n / 16) (n % 16) (by omega) (by omega) (by omega) (by omega) w hT
theorem strconvFormatInt16 (n : Nat) (h1 : n < 256) (w : World) (hT : Tabs w) :
  Calls Tryz.prog 116 #[.int .i64 n, .int .i64 16] w fun e w' => e = .returned (.string (hexStr n)) ∧ Below w.heap.size w w' := by
 have b1 : decide ((n : Int) < 0) = false := decide_eq_false (by omega)
 have cF := formatBits16 n h1 w hT
 generalize hexStr n = E at cF ⊢
 go_enter Tryz.func116, Tryz.ntmps116
 go_wp2_with (go_at_call 139; refine cF.mono ?_; rintro e w1 ⟨rfl, hb⟩)
 go_ret
 exact ⟨rfl, hb⟩
theorem strconv_FormatInt.calls (a0 : Int) (a1 : Int) (r : ByteArray) (w : World) (hT : Tabs w) (h : strconv_FormatInt.f a0 a1 = some r) :
  Calls Tryz.prog 133 #[.int .i64 a0, .int .i64 a1] w fun e w' => e = .returned (.string r) ∧ Below w.heap.size w w' := by
 unfold strconv_FormatInt.f at h
 split at h
 ·rename_i hs
  obtain rfl := Option.some.inj h
  obtain ⟨rfl, h0, h1⟩ := hs
  obtain ⟨n, rfl⟩ := Int.eq_ofNat_of_zero_le h0
  have cF := strconvFormatInt16 n (by omega) w hT
  clear h h0
  generalize hexStr n = E at cF ⊢
  go_enter Tryz.func133, Tryz.ntmps133
  go_wp2_with (go_at_call 116; refine cF.mono ?_; rintro e w1 ⟨rfl, hb⟩)
  go_ret
  exact ⟨rfl, hb⟩
 ·cases h

/-! ### value_escape: function 108, by hand -/
def value_escape.f (a0 : Int) : Option ByteArray := if 0 ≤ a0 then some (escB a0) else none
theorem value_escape.calls (a0 : Int) (r : ByteArray) (w : World) (hT : Tabs w) (h : value_escape.f a0 = some r) :
  Calls Tryz.prog 108 #[.int .i32 a0] w fun e w' => e = .returned (.string r) ∧ Below w.heap.size w w' := by
 unfold value_escape.f at h
 split at h
 ·rename_i h0
  obtain rfl := Option.some.inj h
  clear h
  have hs4 := encode_le4 a0
  have hs2 := hexStr_size a0
  by_cases e1 : a0 = 34
  ·subst e1
   go_enter Tryz.func108, Tryz.ntmps108
   go_wp2
   go_ret
   exact ⟨rfl, Below.refl _ _⟩
  by_cases e2 : a0 = 92
  ·subst e2
   go_enter Tryz.func108, Tryz.ntmps108
   go_wp2
   go_ret
   exact ⟨rfl, Below.refl _ _⟩
  by_cases e3 : a0 = 10
  ·subst e3
   go_enter Tryz.func108, Tryz.ntmps108
   go_wp2
   go_ret
   exact ⟨rfl, Below.refl _ _⟩
  by_cases e4 : a0 = 9
  ·subst e4
   go_enter Tryz.func108, Tryz.ntmps108
   go_wp2
   go_ret
   exact ⟨rfl, Below.refl _ _⟩
  by_cases e5 : a0 = 13
  ·subst e5
   go_enter Tryz.func108, Tryz.ntmps108
   go_wp2
   go_ret
   exact ⟨rfl, Below.refl _ _⟩
  have b1 : (a0 == 34) = false := beq_eq_false_iff_ne.2 e1
  have b2 : (a0 == 92) = false := beq_eq_false_iff_ne.2 e2
  have b3 : (a0 == 10) = false := beq_eq_false_iff_ne.2 e3
  have b4 : (a0 == 9) = false := beq_eq_false_iff_ne.2 e4
  have b5 : (a0 == 13) = false := beq_eq_false_iff_ne.2 e5
  by_cases h6 : a0 < 32 ∨ a0 = 127
  ·have he : escB a0 = (⟨#[92, 117, 123]⟩ : ByteArray) ++ hexStr a0 ++ (⟨#[125]⟩ : ByteArray) := by
    unfold escB; rw [if_neg (by omega), if_neg e3, if_neg e4, if_neg e5, if_pos h6]
   rw [he]
   clear he
   have cF : ∀ W, Tabs W → Calls Tryz.prog 133 #[.int .i64 a0, .int .i64 16] W _ := fun W hW => strconv_FormatInt.calls a0 16 (hexStr a0) W hW (by unfold strconv_FormatInt.f; rw [if_pos ⟨rfl, h0, by omega⟩])
   generalize hexStr a0 = E at hs2 cF ⊢
   clear e1 e2 e3 e4 e5
   by_cases h7 : a0 < 32
   ·have b6 : decide (a0 < 32) = true := decide_eq_true h7
    clear h6
    go_enter Tryz.func108, Tryz.ntmps108
    go_wp2_with (go_at_call 133; refine (cF _ hT).mono ?_; rintro e w1 ⟨rfl, hb⟩)
    go_ret
    exact ⟨rfl, hb⟩
   ·have b6 : decide (a0 < 32) = false := decide_eq_false h7
    obtain rfl : a0 = 127 := by omega
    clear h6
    go_enter Tryz.func108, Tryz.ntmps108
    go_wp2_with (go_at_call 133; refine (cF _ hT).mono ?_; rintro e w1 ⟨rfl, hb⟩)
    go_ret
    exact ⟨rfl, hb⟩
  ·have b6 : decide (a0 < 32) = false := decide_eq_false (by omega)
   have b7 : (a0 == 127) = false := beq_eq_false_iff_ne.2 (by omega)
   have he : escB a0 = Utf8.encode a0 := by
    unfold escB; rw [if_neg (by omega), if_neg e3, if_neg e4, if_neg e5, if_neg h6]
   rw [he]
   clear he e1 e2 e3 e4 e5 h6
   go_enter Tryz.func108, Tryz.ntmps108
   go_wp2
   go_ret
   exact ⟨rfl, Below.refl _ _⟩
 ·cases h

end Go.Proofs.YtplemgmfnghoeaaGreatDoor.A
