-- By drv.py, the session's own driver round the kit's print: the machine's side of the laws, function by function. Not trusted: Lean checks it.
import Derived.Test.YtplemgmfnghoeaaGreatDoorAx0
import Derived.Test.YtplemgmfnghoeaaGreatDoorAx1
import Derived.Test.YtplemgmfnghoeaaGreatDoorAx3
namespace Go.Proofs.YtplemgmfnghoeaaGreatDoor.A
open Go.RowKit Go.Proofs.YtplemgmfnghoeaaGreatDoorW.PrintWords Go.Proofs.YtplemgmfnghoeaaGreatDoorW.PrintLast Go.Proofs.YtplemgmfnghoeaaGreatDoorW.PrintMore
attribute [local go_sem] max2_int min2_int max_two min_two max_three min_three max_four min_four   -- for this text's walks alone
set_option linter.unusedVariables false
set_option linter.unusedSimpArgs false

attribute [local go_sem high] eqA23 eqA57
/-! ### api_Attr_27: function 27 -/
def api_Attr_27.l0 : Nat → List (S57) → List (S57) → Int → Int → Option (Bool)
 | 0, _, _, _, _ => none
 | k + 1, x0, x1, x12, x13 => if x13 < x12 then (if 0 ≤ x13 then (if x13 < (x0.length : Int) then (if x13 < (x1.length : Int) then (if (!((((rd_T57 x0 x13).f0).toList) == (((rd_T57 x1 x13).f0).toList)) || ((!(((rd_T57 x0 x13).f1.f0) == ((rd_T57 x1 x13).f1.f0)) || (!(((rd_T57 x0 x13).f1.f1) == ((rd_T57 x1 x13).f1.f1)) || (!((((rd_T57 x0 x13).f1.f2).toList) == (((rd_T57 x1 x13).f1.f2).toList))))))) = true then (some false) else (api_Attr_27.l0 k x0 x1 x12 (wrap64 (x13 + 1)))) else (none)) else (none)) else (none)) else (some true)
def api_Attr_27.f (k : Nat) (l0 : List (S57)) (l1 : List (S57)) : Option (Bool) := if (l0.length : Int) = (l1.length : Int) then (api_Attr_27.l0 k l0 l1 (l0.length : Int) 0) else (some false)
theorem api_Attr_27.mono_l : ∀ k, (∀ y0 y1 y2 y3, LeO (api_Attr_27.l0 k y0 y1 y2 y3) (api_Attr_27.l0 (k + 1) y0 y1 y2 y3))
 | 0 => fun _ _ _ _ r h => by simp [api_Attr_27.l0] at h
 | k + 1 => by
  have ih0 := api_Attr_27.mono_l k
  ·intro y0 y1 y2 y3
   unfold api_Attr_27.l0
   repeat' first
   | (with_reducible exact ih0 _ _ _ _)
   | (with_reducible exact LeO.refl _)
   | (with_reducible exact LeO.none _)
   | (with_reducible refine LeO.ite ?_ ?_)
   | (with_reducible refine LeO.bind ?_ (fun _ => ?_))
   | exact ih0 _ _ _ _
   | exact LeO.none _
   | refine LeO.ite ?_ ?_
   | refine LeO.bind ?_ (fun _ => ?_)
theorem api_Attr_27.mono : ∀ a0 a1 k, LeO (api_Attr_27.f k a0 a1) (api_Attr_27.f (k + 1) a0 a1) := by
 intro a0 a1 k
 have ih0 := api_Attr_27.mono_l k
 unfold api_Attr_27.f
 repeat' first
   | (with_reducible exact ih0 _ _ _ _)
   | (with_reducible exact LeO.refl _)
   | (with_reducible exact LeO.none _)
   | (with_reducible refine LeO.ite ?_ ?_)
   | (with_reducible refine LeO.bind ?_ (fun _ => ?_))
   | exact ih0 _ _ _ _
   | exact LeO.none _
   | refine LeO.ite ?_ ?_
   | refine LeO.bind ?_ (fun _ => ?_)
set_option maxHeartbeats 8000000 in
set_option maxRecDepth 100000 in
theorem api_Attr_27.calls (k : Nat) (A0 : Option Addr) (c0 : Nat) (l0 : List (S57)) (A1 : Option Addr) (c1 : Nat) (l1 : List (S57)) (r : Bool) (w : World) (hr0 : Kd.C k57 w A0 l0.length l0) (hc0 : l0.length ≤ c0) (hr1 : Kd.C k57 w A1 l1.length l1) (hc1 : l1.length ≤ c1) (h : api_Attr_27.f k l0 l1 = some r) :
  Calls Tryz.prog 27 #[.slice A0 l0.length c0, .slice A1 l1.length c1] w fun e w' => e = .returned (.bool r) ∧ Drawn0 w w' := by
 have hu57 := Tryz.underlying57
 have HR0 := Aside0.mk hr0
 have HC0 := Aside0.mk hc0
 clear hr0 hc0
 have HR1 := Aside0.mk hr1
 have HC1 := Aside0.mk hc1
 clear hr1 hc1
 have H : (if (l0.length : Int) = (l1.length : Int) then (api_Attr_27.l0 k l0 l1 (l0.length : Int) 0) else (some false)) = some r := h
 clear h
 by_cases c3 : (l0.length : Int) = (l1.length : Int)
 ·rw [if_pos c3] at H
  have c3b0 : ((l0.length : Int) == (l1.length : Int)) = true := beq_iff_eq.mpr c3
  have c3b1 : ((l0.length : Int) != (l1.length : Int)) = false := bne_eq_false_iff_eq.mpr c3
  have c3b2 : (l0.length == l1.length) = true := by first | simpa using c3 | (simp at c3 ⊢; omega)
  clear c3
  have H' := Aside0.mk H
  clear H
  go_enter Tryz.func27, Tryz.ntmps27
  go_wp2
  repeat (go_quiet (fail); try go_wp2)
  go_loopg [13] k (fun kq v13 w' => ∃ (x13_1 : Int), v13 = .int .i64 x13_1 ∧ Aside0 (api_Attr_27.l0 kq l0 l1 (l0.length : Int) x13_1 = some r) ∧ Aside0 (kq ≤ k) ∧ Drawn0 w w')
  case atStart => exact ⟨(0), (endS), H', ⟨Nat.le_refl _⟩, drA⟩
  case round =>
   clear H'
   try clear c1
   try clear c2
   try clear p2
   try clear c3
   try clear c3b0
   try clear c3b1
   try clear c3b2
   obtain ⟨x13_1, rfl, HA, HK1, ⟨m1, rfl⟩⟩ := hrel
   cases gk with
   | zero => exact absurd HA.out (by simp [api_Attr_27.l0])
   | succ k1 =>
    have H := HA.out
    clear HA
    simp only [api_Attr_27.l0] at H
    by_cases c4 : x13_1 < (l0.length : Int)
    ·rw [if_pos c4] at H
     have c4b0 : decide (x13_1 < (l0.length : Int)) = true := decide_eq_true c4
     clear c4
     by_cases c5 : 0 ≤ x13_1
     ·rw [if_pos c5] at H
      have c5b0 : decide (0 ≤ x13_1) = true := decide_eq_true c5
      clear c5
      by_cases c6 : x13_1 < (l0.length : Int)
      ·rw [if_pos c6] at H
       have c6b0 : decide (x13_1 < (l0.length : Int)) = true := decide_eq_true c6
       clear c6
       by_cases c7 : x13_1 < (l1.length : Int)
       ·rw [if_pos c7] at H
        have c7b0 : decide (x13_1 < (l1.length : Int)) = true := decide_eq_true c7
        clear c7
        by_cases c8 : (!((((rd_T57 l0 x13_1).f0).toList) == (((rd_T57 l1 x13_1).f0).toList)) || ((!(((rd_T57 l0 x13_1).f1.f0) == ((rd_T57 l1 x13_1).f1.f0)) || (!(((rd_T57 l0 x13_1).f1.f1) == ((rd_T57 l1 x13_1).f1.f1)) || (!((((rd_T57 l0 x13_1).f1.f2).toList) == (((rd_T57 l1 x13_1).f1.f2).toList))))))) = true
        ·rw [if_pos c8] at H
         have c8b0 : (!((((rd_T57 l0 x13_1).f0).toList) == (((rd_T57 l1 x13_1).f0).toList)) || ((!(((rd_T57 l0 x13_1).f1.f0) == ((rd_T57 l1 x13_1).f1.f0)) || (!(((rd_T57 l0 x13_1).f1.f1) == ((rd_T57 l1 x13_1).f1.f1)) || (!((((rd_T57 l0 x13_1).f1.f2).toList) == (((rd_T57 l1 x13_1).f1.f2).toList))))))) = true := c8
         clear c8
         obtain rfl := Option.some.inj H
         have p113 : 0 ≤ (x13_1 : Int) := odA
         have q113 : x13_1 < (l0.length : Int) := odA
         obtain ⟨ad113, e113, hx113_0, hx113_1, hx113_2, hx113_3⟩ := at_T57 HR0.out x13_1 p113 q113
         cases e113
         replace p113 := eq_true p113
         replace q113 := eq_true q113
         have p114 : 0 ≤ (x13_1 : Int) := odA
         have q114 : x13_1 < (l1.length : Int) := odA
         obtain ⟨ad114, e114, hx114_0, hx114_1, hx114_2, hx114_3⟩ := at_T57 HR1.out x13_1 p114 q114
         cases e114
         replace p114 := eq_true p114
         replace q114 := eq_true q114
         go_wp2
         repeat (go_quiet (fail); try go_wp2)
         go_ret
         exact ⟨endS, drA⟩
        ·rw [if_neg c8] at H
         have c8b0 : (!((((rd_T57 l0 x13_1).f0).toList) == (((rd_T57 l1 x13_1).f0).toList)) || ((!(((rd_T57 l0 x13_1).f1.f0) == ((rd_T57 l1 x13_1).f1.f0)) || (!(((rd_T57 l0 x13_1).f1.f1) == ((rd_T57 l1 x13_1).f1.f1)) || (!((((rd_T57 l0 x13_1).f1.f2).toList) == (((rd_T57 l1 x13_1).f1.f2).toList))))))) = false := by simpa using c8
         clear c8
         have H' := Aside0.mk H
         clear H
         have p113 : 0 ≤ (x13_1 : Int) := odA
         have q113 : x13_1 < (l0.length : Int) := odA
         obtain ⟨ad113, e113, hx113_0, hx113_1, hx113_2, hx113_3⟩ := at_T57 HR0.out x13_1 p113 q113
         cases e113
         replace p113 := eq_true p113
         replace q113 := eq_true q113
         have p114 : 0 ≤ (x13_1 : Int) := odA
         have q114 : x13_1 < (l1.length : Int) := odA
         obtain ⟨ad114, e114, hx114_0, hx114_1, hx114_2, hx114_3⟩ := at_T57 HR1.out x13_1 p114 q114
         cases e114
         replace p114 := eq_true p114
         replace q114 := eq_true q114
         go_wp2
         repeat (go_quiet (fail); try go_wp2)
         go_roundg k1
         case measure => have := HK1.out; omega
         case rel => exact ⟨(wrap64 (x13_1 + 1)), (endS), H', ⟨by have := HK1.out; omega⟩, drA⟩
       ·rw [if_neg c7] at H
        exact absurd H (by simp)
      ·rw [if_neg c6] at H
       exact absurd H (by simp)
     ·rw [if_neg c5] at H
      exact absurd H (by simp)
    ·rw [if_neg c4] at H
     have c4b0 : decide (x13_1 < (l0.length : Int)) = false := decide_eq_false c4
     clear c4
     obtain rfl := Option.some.inj H
     go_wp2
     repeat (go_quiet (fail); try go_wp2)
     go_ret
     exact ⟨endS, drA⟩
 ·rw [if_neg c3] at H
  have c3b0 : ((l0.length : Int) == (l1.length : Int)) = false := beq_eq_false_iff_ne.mpr c3
  have c3b1 : ((l0.length : Int) != (l1.length : Int)) = true := bne_iff_ne.mpr c3
  have c3b2 : (l0.length == l1.length) = false := by first | simpa using c3 | (simp at c3 ⊢; omega)
  obtain rfl := Option.some.inj H
  go_enter Tryz.func27, Tryz.ntmps27
  go_wp2
  repeat (go_quiet (fail); try go_wp2)
  go_ret
  exact ⟨endS, drA⟩

/-! ### event_Same: function 7 -/
def event_Same.f (k : Nat) (a0_0 : Int) (a0_1 : Int) (a0_2 : Int) (a0_3 : ByteArray) (l0_4 : List (S57)) (a1_0 : Int) (a1_1 : Int) (a1_2 : Int) (a1_3 : ByteArray) (l1_4 : List (S57)) : Option (Bool) := if (a0_0 == a1_0 && (a0_1 == a1_1 && (a0_2 == a1_2))) = true then (if a0_3.toList = a1_3.toList then ((api_Attr_27.f k l0_4 l1_4).bind fun t117 => (some t117)) else (some false)) else (some false)
theorem event_Same.mono : ∀ a0 a1 a2 a3 a4 a5 a6 a7 a8 a9 k, LeO (event_Same.f k a0 a1 a2 a3 a4 a5 a6 a7 a8 a9) (event_Same.f (k + 1) a0 a1 a2 a3 a4 a5 a6 a7 a8 a9) := by
 intro a0 a1 a2 a3 a4 a5 a6 a7 a8 a9 k
 unfold event_Same.f
 repeat' first
   | (with_reducible exact api_Attr_27.mono _ _ _)
   | (with_reducible exact LeO.refl _)
   | (with_reducible exact LeO.none _)
   | (with_reducible refine LeO.ite ?_ ?_)
   | (with_reducible refine LeO.bind ?_ (fun _ => ?_))
   | exact api_Attr_27.mono _ _ _
   | exact LeO.none _
   | refine LeO.ite ?_ ?_
   | refine LeO.bind ?_ (fun _ => ?_)
set_option maxHeartbeats 8000000 in
set_option maxRecDepth 100000 in
theorem event_Same.calls (k : Nat) (a0_0 : Int) (a0_1 : Int) (a0_2 : Int) (a0_3 : ByteArray) (A0_4 : Option Addr) (c0_4 : Nat) (l0_4 : List (S57)) (a1_0 : Int) (a1_1 : Int) (a1_2 : Int) (a1_3 : ByteArray) (A1_4 : Option Addr) (c1_4 : Nat) (l1_4 : List (S57)) (r : Bool) (w : World) (hr0_4 : Kd.C k57 w A0_4 l0_4.length l0_4) (hc0_4 : l0_4.length ≤ c0_4) (hr1_4 : Kd.C k57 w A1_4 l1_4.length l1_4) (hc1_4 : l1_4.length ≤ c1_4) (h : event_Same.f k a0_0 a0_1 a0_2 a0_3 l0_4 a1_0 a1_1 a1_2 a1_3 l1_4 = some r) :
  Calls Tryz.prog 7 #[.agg #[.int .i64 a0_0, .int .i64 a0_1, .int .i64 a0_2, .string a0_3, .slice A0_4 l0_4.length c0_4], .agg #[.int .i64 a1_0, .int .i64 a1_1, .int .i64 a1_2, .string a1_3, .slice A1_4 l1_4.length c1_4]] w fun e w' => e = .returned (.bool r) ∧ Below w.heap.size w w' := by
 have hu27 := Tryz.underlying27
 have hu23 := Tryz.underlying23
 have HR0_4 := Aside0.mk hr0_4
 have HC0_4 := Aside0.mk hc0_4
 clear hr0_4 hc0_4
 have HR1_4 := Aside0.mk hr1_4
 have HC1_4 := Aside0.mk hc1_4
 clear hr1_4 hc1_4
 have HB := Aside0.mk (Below.refl w.heap.size w)
 have H : (if (a0_0 == a1_0 && (a0_1 == a1_1 && (a0_2 == a1_2))) = true then (if a0_3.toList = a1_3.toList then ((api_Attr_27.f k l0_4 l1_4).bind fun t117 => (some t117)) else (some false)) else (some false)) = some r := h
 clear h
 by_cases c3 : (a0_0 == a1_0 && (a0_1 == a1_1 && (a0_2 == a1_2))) = true
 ·rw [if_pos c3] at H
  have c3b0 : (a0_0 == a1_0 && (a0_1 == a1_1 && (a0_2 == a1_2))) = true := c3
  (try (have c3b1 : decide (a0_0 = a1_0 && (a0_1 == a1_1 && (a0_2 == a1_2))) = true := by simpa using c3))
  (try (have c3b2 : (a0_0 == a1_0 && (a0_1 == a1_1 && (a0_2 == a1_2))) = true := by simpa using c3))
  clear c3
  by_cases c4 : a0_3.toList = a1_3.toList
  ·rw [if_pos c4] at H
   have c4b0 : (a0_3.toList == a1_3.toList) = true := beq_iff_eq.mpr c4
   have c4b1 : (a0_3.toList != a1_3.toList) = false := bne_eq_false_iff_eq.mpr c4
   clear c4
   replace H := Option.bind_eq_some_iff.mp H
   obtain ⟨t117, A50, H⟩ := H
   replace H : (some t117) = some r := H
   have A5 := Aside0.mk A50
   clear A50
   obtain rfl := Option.some.inj H
   go_enter Tryz.func7, Tryz.ntmps7
   go_wp2_with (first | ((with_reducible refine gate_dst (N := 2) rfl ?_); refine box_event ?hg (N := 2) ?hd (cs := #[.int .i64 a0_0, .int .i64 a0_1, .int .i64 a0_2, .string a0_3, .slice A0_4 l0_4.length c0_4]) (t := 27) ?hr ?_; (case hd => rfl); (case hg => rfl); (case hr => first | (go_simp; done) | (go_simp; rfl)); intro gb115 hg w6 hbox hb; have n0_ := Aside0.mk (below_step (bwA) hb); have n1_ := Aside0.mk (hbox); have n2_ := Aside0.mk ((by rw [hg]; exact (below_size (bwA)) : w.heap.size ≤ gb115)); have n3_ := Aside0.mk ((by rw [hg]; exact (below_size (bwA)) : w.heap.size ≤ gb115)); clear HB; have HB := n0_; have BK115 := n1_; have GW115 := n2_; have GE115 := n3_; clear n0_ n1_ n2_ n3_; clear hb hbox hg) | ((with_reducible refine gate_dst (N := 3) rfl ?_); refine box_event ?hg (N := 3) ?hd (cs := #[.int .i64 a1_0, .int .i64 a1_1, .int .i64 a1_2, .string a1_3, .slice A1_4 l1_4.length c1_4]) (t := 27) ?hr ?_; (case hd => rfl); (case hg => rfl); (case hr => first | (go_simp; done) | (go_simp; rfl)); intro gb116 hg w7 hbox hb; have n0_ := Aside0.mk (blk_below (g := gb115) (o := .cells #[.int .i64 a0_0, .int .i64 a0_1, .int .i64 a0_2, .string a0_3, .slice A0_4 l0_4.length c0_4] 27 (0, 0)) blkA hb); have n1_ := Aside0.mk (below_step (bwA) hb); have n2_ := Aside0.mk (hbox); have n3_ := Aside0.mk ((by rw [hg]; exact (below_size (bwA)) : w.heap.size ≤ gb116)); have n4_ := Aside0.mk ((by rw [hg]; exact (below_size (bwA)) : w.heap.size ≤ gb116)); have n5_ := Aside0.mk ((by rw [hg]; exact Nat.ne_of_lt (blk_lt (g := gb115) (o := .cells #[.int .i64 a0_0, .int .i64 a0_1, .int .i64 a0_2, .string a0_3, .slice A0_4 l0_4.length c0_4] 27 (0, 0)) blkA) : gb115 ≠ gb116)); have n6_ := Aside0.mk ((by rw [hg]; exact Nat.ne_of_gt (blk_lt (g := gb115) (o := .cells #[.int .i64 a0_0, .int .i64 a0_1, .int .i64 a0_2, .string a0_3, .slice A0_4 l0_4.length c0_4] 27 (0, 0)) blkA) : gb116 ≠ gb115)); clear BK115; clear HB; have BK115 := n0_; have HB := n1_; have BK116 := n2_; have GW116 := n3_; have GE116 := n4_; have NB115_116 := n5_; have NB116_115 := n6_; clear n0_ n1_ n2_ n3_ n4_ n5_ n6_; clear hb hbox hg; have hnb8 := NB115_116.out; have hnc8 := NB116_115.out; have hcz9_0 : w7.cell? ⟨gb115, 0, none⟩ = some (.int .i64 a0_0) := (blk_cell BK115.out 0).trans rfl; have hcz9_1 : w7.cell? ⟨gb115, 1, none⟩ = some (.int .i64 a0_1) := (blk_cell BK115.out 1).trans rfl; have hcz9_2 : w7.cell? ⟨gb115, 2, none⟩ = some (.int .i64 a0_2) := (blk_cell BK115.out 2).trans rfl; have hcz9_3 : w7.cell? ⟨gb115, 3, none⟩ = some (.string a0_3) := (blk_cell BK115.out 3).trans rfl; have hcz9_4 : w7.cell? ⟨gb115, 4, none⟩ = some (.slice A0_4 l0_4.length c0_4) := (blk_cell BK115.out 4).trans rfl; have hfz9_0 := blk_frozen BK115.out 0; have hfz9_1 := blk_frozen BK115.out 1; have hfz9_2 := blk_frozen BK115.out 2; have hfz9_3 := blk_frozen BK115.out 3; have hfz9_4 := blk_frozen BK115.out 4; have hcz10_0 : w7.cell? ⟨gb116, 0, none⟩ = some (.int .i64 a1_0) := (blk_cell BK116.out 0).trans rfl; have hcz10_1 : w7.cell? ⟨gb116, 1, none⟩ = some (.int .i64 a1_1) := (blk_cell BK116.out 1).trans rfl; have hcz10_2 : w7.cell? ⟨gb116, 2, none⟩ = some (.int .i64 a1_2) := (blk_cell BK116.out 2).trans rfl; have hcz10_3 : w7.cell? ⟨gb116, 3, none⟩ = some (.string a1_3) := (blk_cell BK116.out 3).trans rfl; have hcz10_4 : w7.cell? ⟨gb116, 4, none⟩ = some (.slice A1_4 l1_4.length c1_4) := (blk_cell BK116.out 4).trans rfl; have hfz10_0 := blk_frozen BK116.out 0; have hfz10_1 := blk_frozen BK116.out 1; have hfz10_2 := blk_frozen BK116.out 2; have hfz10_3 := blk_frozen BK116.out 3; have hfz10_4 := blk_frozen BK116.out 4) | (go_at_call 27; (with_reducible refine (api_Attr_27.calls k _ _ l0_4 _ _ l1_4 t117 _ ?side1 ?side2 ?side3 ?side4 A5.out).mono ?_); (case side1 => repeat (first | exact (Kd.C_below HR0_4.out HB.out) | (with_reducible refine Kd.C_alloc ?_ _) | (with_reducible refine Kd.C_drewN ?_ _) | (with_reducible refine Kd.C_drew ?_))); (case side2 => exact HC0_4.out); (case side3 => repeat (first | exact (Kd.C_below HR1_4.out HB.out) | (with_reducible refine Kd.C_alloc ?_ _) | (with_reducible refine Kd.C_drewN ?_ _) | (with_reducible refine Kd.C_drew ?_))); (case side4 => exact HC1_4.out); rintro e w' ⟨rfl, ⟨nd, rfl⟩⟩))
   go_ret
   exact ⟨endA, bwA⟩
  ·rw [if_neg c4] at H
   have c4b0 : (a0_3.toList == a1_3.toList) = false := beq_eq_false_iff_ne.mpr c4
   have c4b1 : (a0_3.toList != a1_3.toList) = true := bne_iff_ne.mpr c4
   obtain rfl := Option.some.inj H
   go_enter Tryz.func7, Tryz.ntmps7
   go_wp2_with (first | ((with_reducible refine gate_dst (N := 2) rfl ?_); refine box_event ?hg (N := 2) ?hd (cs := #[.int .i64 a0_0, .int .i64 a0_1, .int .i64 a0_2, .string a0_3, .slice A0_4 l0_4.length c0_4]) (t := 27) ?hr ?_; (case hd => rfl); (case hg => rfl); (case hr => first | (go_simp; done) | (go_simp; rfl)); intro gb115 hg w11 hbox hb; have n0_ := Aside0.mk (below_step (bwA) hb); have n1_ := Aside0.mk (hbox); have n2_ := Aside0.mk ((by rw [hg]; exact (below_size (bwA)) : w.heap.size ≤ gb115)); have n3_ := Aside0.mk ((by rw [hg]; exact (below_size (bwA)) : w.heap.size ≤ gb115)); clear HB; have HB := n0_; have BK115 := n1_; have GW115 := n2_; have GE115 := n3_; clear n0_ n1_ n2_ n3_; clear hb hbox hg) | ((with_reducible refine gate_dst (N := 3) rfl ?_); refine box_event ?hg (N := 3) ?hd (cs := #[.int .i64 a1_0, .int .i64 a1_1, .int .i64 a1_2, .string a1_3, .slice A1_4 l1_4.length c1_4]) (t := 27) ?hr ?_; (case hd => rfl); (case hg => rfl); (case hr => first | (go_simp; done) | (go_simp; rfl)); intro gb116 hg w12 hbox hb; have n0_ := Aside0.mk (blk_below (g := gb115) (o := .cells #[.int .i64 a0_0, .int .i64 a0_1, .int .i64 a0_2, .string a0_3, .slice A0_4 l0_4.length c0_4] 27 (0, 0)) blkA hb); have n1_ := Aside0.mk (below_step (bwA) hb); have n2_ := Aside0.mk (hbox); have n3_ := Aside0.mk ((by rw [hg]; exact (below_size (bwA)) : w.heap.size ≤ gb116)); have n4_ := Aside0.mk ((by rw [hg]; exact (below_size (bwA)) : w.heap.size ≤ gb116)); have n5_ := Aside0.mk ((by rw [hg]; exact Nat.ne_of_lt (blk_lt (g := gb115) (o := .cells #[.int .i64 a0_0, .int .i64 a0_1, .int .i64 a0_2, .string a0_3, .slice A0_4 l0_4.length c0_4] 27 (0, 0)) blkA) : gb115 ≠ gb116)); have n6_ := Aside0.mk ((by rw [hg]; exact Nat.ne_of_gt (blk_lt (g := gb115) (o := .cells #[.int .i64 a0_0, .int .i64 a0_1, .int .i64 a0_2, .string a0_3, .slice A0_4 l0_4.length c0_4] 27 (0, 0)) blkA) : gb116 ≠ gb115)); clear BK115; clear HB; have BK115 := n0_; have HB := n1_; have BK116 := n2_; have GW116 := n3_; have GE116 := n4_; have NB115_116 := n5_; have NB116_115 := n6_; clear n0_ n1_ n2_ n3_ n4_ n5_ n6_; clear hb hbox hg; have hnb13 := NB115_116.out; have hnc13 := NB116_115.out; have hcz14_0 : w12.cell? ⟨gb115, 0, none⟩ = some (.int .i64 a0_0) := (blk_cell BK115.out 0).trans rfl; have hcz14_1 : w12.cell? ⟨gb115, 1, none⟩ = some (.int .i64 a0_1) := (blk_cell BK115.out 1).trans rfl; have hcz14_2 : w12.cell? ⟨gb115, 2, none⟩ = some (.int .i64 a0_2) := (blk_cell BK115.out 2).trans rfl; have hcz14_3 : w12.cell? ⟨gb115, 3, none⟩ = some (.string a0_3) := (blk_cell BK115.out 3).trans rfl; have hcz14_4 : w12.cell? ⟨gb115, 4, none⟩ = some (.slice A0_4 l0_4.length c0_4) := (blk_cell BK115.out 4).trans rfl; have hfz14_0 := blk_frozen BK115.out 0; have hfz14_1 := blk_frozen BK115.out 1; have hfz14_2 := blk_frozen BK115.out 2; have hfz14_3 := blk_frozen BK115.out 3; have hfz14_4 := blk_frozen BK115.out 4; have hcz15_0 : w12.cell? ⟨gb116, 0, none⟩ = some (.int .i64 a1_0) := (blk_cell BK116.out 0).trans rfl; have hcz15_1 : w12.cell? ⟨gb116, 1, none⟩ = some (.int .i64 a1_1) := (blk_cell BK116.out 1).trans rfl; have hcz15_2 : w12.cell? ⟨gb116, 2, none⟩ = some (.int .i64 a1_2) := (blk_cell BK116.out 2).trans rfl; have hcz15_3 : w12.cell? ⟨gb116, 3, none⟩ = some (.string a1_3) := (blk_cell BK116.out 3).trans rfl; have hcz15_4 : w12.cell? ⟨gb116, 4, none⟩ = some (.slice A1_4 l1_4.length c1_4) := (blk_cell BK116.out 4).trans rfl; have hfz15_0 := blk_frozen BK116.out 0; have hfz15_1 := blk_frozen BK116.out 1; have hfz15_2 := blk_frozen BK116.out 2; have hfz15_3 := blk_frozen BK116.out 3; have hfz15_4 := blk_frozen BK116.out 4))
   go_ret
   exact ⟨endA, bwA⟩
 ·rw [if_neg c3] at H
  have c3b0 : (a0_0 == a1_0 && (a0_1 == a1_1 && (a0_2 == a1_2))) = false := by simpa using c3
  (try (have c3b1 : decide (a0_0 = a1_0 && (a0_1 == a1_1 && (a0_2 == a1_2))) = false := by simpa using c3))
  (try (have c3b2 : (a0_0 == a1_0 && (a0_1 == a1_1 && (a0_2 == a1_2))) = false := by simpa using c3))
  (try (have c3b3 : ¬ (a0_0 = a1_0 && (a0_1 == a1_1 && (a0_2 == a1_2))) := by simpa using c3))
  clear c3
  obtain rfl := Option.some.inj H
  go_enter Tryz.func7, Tryz.ntmps7
  go_wp2_with (first | ((with_reducible refine gate_dst (N := 2) rfl ?_); refine box_event ?hg (N := 2) ?hd (cs := #[.int .i64 a0_0, .int .i64 a0_1, .int .i64 a0_2, .string a0_3, .slice A0_4 l0_4.length c0_4]) (t := 27) ?hr ?_; (case hd => rfl); (case hg => rfl); (case hr => first | (go_simp; done) | (go_simp; rfl)); intro gb115 hg w16 hbox hb; have n0_ := Aside0.mk (below_step (bwA) hb); have n1_ := Aside0.mk (hbox); have n2_ := Aside0.mk ((by rw [hg]; exact (below_size (bwA)) : w.heap.size ≤ gb115)); have n3_ := Aside0.mk ((by rw [hg]; exact (below_size (bwA)) : w.heap.size ≤ gb115)); clear HB; have HB := n0_; have BK115 := n1_; have GW115 := n2_; have GE115 := n3_; clear n0_ n1_ n2_ n3_; clear hb hbox hg) | ((with_reducible refine gate_dst (N := 3) rfl ?_); refine box_event ?hg (N := 3) ?hd (cs := #[.int .i64 a1_0, .int .i64 a1_1, .int .i64 a1_2, .string a1_3, .slice A1_4 l1_4.length c1_4]) (t := 27) ?hr ?_; (case hd => rfl); (case hg => rfl); (case hr => first | (go_simp; done) | (go_simp; rfl)); intro gb116 hg w17 hbox hb; have n0_ := Aside0.mk (blk_below (g := gb115) (o := .cells #[.int .i64 a0_0, .int .i64 a0_1, .int .i64 a0_2, .string a0_3, .slice A0_4 l0_4.length c0_4] 27 (0, 0)) blkA hb); have n1_ := Aside0.mk (below_step (bwA) hb); have n2_ := Aside0.mk (hbox); have n3_ := Aside0.mk ((by rw [hg]; exact (below_size (bwA)) : w.heap.size ≤ gb116)); have n4_ := Aside0.mk ((by rw [hg]; exact (below_size (bwA)) : w.heap.size ≤ gb116)); have n5_ := Aside0.mk ((by rw [hg]; exact Nat.ne_of_lt (blk_lt (g := gb115) (o := .cells #[.int .i64 a0_0, .int .i64 a0_1, .int .i64 a0_2, .string a0_3, .slice A0_4 l0_4.length c0_4] 27 (0, 0)) blkA) : gb115 ≠ gb116)); have n6_ := Aside0.mk ((by rw [hg]; exact Nat.ne_of_gt (blk_lt (g := gb115) (o := .cells #[.int .i64 a0_0, .int .i64 a0_1, .int .i64 a0_2, .string a0_3, .slice A0_4 l0_4.length c0_4] 27 (0, 0)) blkA) : gb116 ≠ gb115)); clear BK115; clear HB; have BK115 := n0_; have HB := n1_; have BK116 := n2_; have GW116 := n3_; have GE116 := n4_; have NB115_116 := n5_; have NB116_115 := n6_; clear n0_ n1_ n2_ n3_ n4_ n5_ n6_; clear hb hbox hg; have hnb18 := NB115_116.out; have hnc18 := NB116_115.out; have hcz19_0 : w17.cell? ⟨gb115, 0, none⟩ = some (.int .i64 a0_0) := (blk_cell BK115.out 0).trans rfl; have hcz19_1 : w17.cell? ⟨gb115, 1, none⟩ = some (.int .i64 a0_1) := (blk_cell BK115.out 1).trans rfl; have hcz19_2 : w17.cell? ⟨gb115, 2, none⟩ = some (.int .i64 a0_2) := (blk_cell BK115.out 2).trans rfl; have hcz19_3 : w17.cell? ⟨gb115, 3, none⟩ = some (.string a0_3) := (blk_cell BK115.out 3).trans rfl; have hcz19_4 : w17.cell? ⟨gb115, 4, none⟩ = some (.slice A0_4 l0_4.length c0_4) := (blk_cell BK115.out 4).trans rfl; have hfz19_0 := blk_frozen BK115.out 0; have hfz19_1 := blk_frozen BK115.out 1; have hfz19_2 := blk_frozen BK115.out 2; have hfz19_3 := blk_frozen BK115.out 3; have hfz19_4 := blk_frozen BK115.out 4; have hcz20_0 : w17.cell? ⟨gb116, 0, none⟩ = some (.int .i64 a1_0) := (blk_cell BK116.out 0).trans rfl; have hcz20_1 : w17.cell? ⟨gb116, 1, none⟩ = some (.int .i64 a1_1) := (blk_cell BK116.out 1).trans rfl; have hcz20_2 : w17.cell? ⟨gb116, 2, none⟩ = some (.int .i64 a1_2) := (blk_cell BK116.out 2).trans rfl; have hcz20_3 : w17.cell? ⟨gb116, 3, none⟩ = some (.string a1_3) := (blk_cell BK116.out 3).trans rfl; have hcz20_4 : w17.cell? ⟨gb116, 4, none⟩ = some (.slice A1_4 l1_4.length c1_4) := (blk_cell BK116.out 4).trans rfl; have hfz20_0 := blk_frozen BK116.out 0; have hfz20_1 := blk_frozen BK116.out 1; have hfz20_2 := blk_frozen BK116.out 2; have hfz20_3 := blk_frozen BK116.out 3; have hfz20_4 := blk_frozen BK116.out 4))
  go_ret
  exact ⟨endA, bwA⟩

/-! ### name_between: function 129 -/
def name_between.f (a0 : Int) (a1 : Int) (a2 : Int) : Option (Bool) := if a0 ≥ a1 then (some (decide (a0 ≤ a2))) else (some false)
set_option maxHeartbeats 8000000 in
set_option maxRecDepth 100000 in
theorem name_between.calls (a0 : Int) (a1 : Int) (a2 : Int) (r : Bool) (w : World) (h : name_between.f a0 a1 a2 = some r) :
  Calls Tryz.prog 129 #[.int .i32 a0, .int .i32 a1, .int .i32 a2] w fun e w' => e = .returned (.bool r) ∧ Drawn0 w w' := by
 have H : (if a0 ≥ a1 then (some (decide (a0 ≤ a2))) else (some false)) = some r := h
 clear h
 by_cases c4 : a0 ≥ a1
 ·rw [if_pos c4] at H
  have c4b0 : decide (a1 ≤ a0) = true := decide_eq_true c4
  clear c4
  obtain rfl := Option.some.inj H
  go_enter Tryz.func129, Tryz.ntmps129
  go_wp2
  go_ret
  exact ⟨endS, drA⟩
 ·rw [if_neg c4] at H
  have c4b0 : decide (a1 ≤ a0) = false := decide_eq_false c4
  clear c4
  obtain rfl := Option.some.inj H
  go_enter Tryz.func129, Tryz.ntmps129
  go_wp2
  go_ret
  exact ⟨endS, drA⟩

/-! ### name_Small: function 93 -/
def name_Small.f (a0 : Int) : Option (Int) := (name_between.f a0 65 90).bind fun t118 => (if t118 = true then (some (wrap32 (a0 + 32))) else ((name_between.f a0 192 222).bind fun t119 => (if t119 = true then (if a0 = 215 then ((name_between.f a0 913 937).bind fun t120 => (if t120 = true then (if a0 = 930 then ((name_between.f a0 1040 1071).bind fun t121 => (if t121 = true then (some (wrap32 (a0 + 32))) else (some a0))) else (some (wrap32 (a0 + 32)))) else ((name_between.f a0 1040 1071).bind fun t122 => (if t122 = true then (some (wrap32 (a0 + 32))) else (some a0))))) else (some (wrap32 (a0 + 32)))) else ((name_between.f a0 913 937).bind fun t123 => (if t123 = true then (if a0 = 930 then ((name_between.f a0 1040 1071).bind fun t124 => (if t124 = true then (some (wrap32 (a0 + 32))) else (some a0))) else (some (wrap32 (a0 + 32)))) else ((name_between.f a0 1040 1071).bind fun t125 => (if t125 = true then (some (wrap32 (a0 + 32))) else (some a0))))))))
set_option maxHeartbeats 8000000 in
set_option maxRecDepth 100000 in
theorem name_Small.calls (a0 : Int) (r : Int) (w : World) (h : name_Small.f a0 = some r) :
  Calls Tryz.prog 93 #[.int .i32 a0] w fun e w' => e = .returned (.int .i32 r) ∧ Drawn0 w w' := by
 have H : ((name_between.f a0 65 90).bind fun t118 => (if t118 = true then (some (wrap32 (a0 + 32))) else ((name_between.f a0 192 222).bind fun t119 => (if t119 = true then (if a0 = 215 then ((name_between.f a0 913 937).bind fun t120 => (if t120 = true then (if a0 = 930 then ((name_between.f a0 1040 1071).bind fun t121 => (if t121 = true then (some (wrap32 (a0 + 32))) else (some a0))) else (some (wrap32 (a0 + 32)))) else ((name_between.f a0 1040 1071).bind fun t122 => (if t122 = true then (some (wrap32 (a0 + 32))) else (some a0))))) else (some (wrap32 (a0 + 32)))) else ((name_between.f a0 913 937).bind fun t123 => (if t123 = true then (if a0 = 930 then ((name_between.f a0 1040 1071).bind fun t124 => (if t124 = true then (some (wrap32 (a0 + 32))) else (some a0))) else (some (wrap32 (a0 + 32)))) else ((name_between.f a0 1040 1071).bind fun t125 => (if t125 = true then (some (wrap32 (a0 + 32))) else (some a0))))))))) = some r := h
 clear h
 replace H := Option.bind_eq_some_iff.mp H
 obtain ⟨t118, A20, H⟩ := H
 replace H : (if t118 = true then (some (wrap32 (a0 + 32))) else ((name_between.f a0 192 222).bind fun t119 => (if t119 = true then (if a0 = 215 then ((name_between.f a0 913 937).bind fun t120 => (if t120 = true then (if a0 = 930 then ((name_between.f a0 1040 1071).bind fun t121 => (if t121 = true then (some (wrap32 (a0 + 32))) else (some a0))) else (some (wrap32 (a0 + 32)))) else ((name_between.f a0 1040 1071).bind fun t122 => (if t122 = true then (some (wrap32 (a0 + 32))) else (some a0))))) else (some (wrap32 (a0 + 32)))) else ((name_between.f a0 913 937).bind fun t123 => (if t123 = true then (if a0 = 930 then ((name_between.f a0 1040 1071).bind fun t124 => (if t124 = true then (some (wrap32 (a0 + 32))) else (some a0))) else (some (wrap32 (a0 + 32)))) else ((name_between.f a0 1040 1071).bind fun t125 => (if t125 = true then (some (wrap32 (a0 + 32))) else (some a0)))))))) = some r := H
 have A2 := Aside0.mk A20
 clear A20
 by_cases c3 : t118 = true
 ·subst c3
  have H1 : (some (wrap32 (a0 + 32))) = some r := by rw [if_pos rfl] at H; exact H
  clear H
  have H := H1
  clear H1
  obtain rfl := Option.some.inj H
  go_enter Tryz.func93, Tryz.ntmps93
  go_wp2_with (first | ((with_reducible refine gate_callee (f := 129) rfl ?_); refine goesA (some 4) Tryz.func129 #[.int .i32 a0, .int .i32 65, .int .i32 90] ?_; (with_reducible refine (name_between.calls a0 65 90 true _ A2.out).mono ?_); rintro e w' ⟨rfl, ⟨nd, rfl⟩⟩; refine ⟨_, rfl, ?_⟩))
  go_ret
  exact ⟨endS, drA⟩
 ·replace c3 := Bool.eq_false_iff.mpr c3
  subst c3
  have H1 : ((name_between.f a0 192 222).bind fun t119 => (if t119 = true then (if a0 = 215 then ((name_between.f a0 913 937).bind fun t120 => (if t120 = true then (if a0 = 930 then ((name_between.f a0 1040 1071).bind fun t121 => (if t121 = true then (some (wrap32 (a0 + 32))) else (some a0))) else (some (wrap32 (a0 + 32)))) else ((name_between.f a0 1040 1071).bind fun t122 => (if t122 = true then (some (wrap32 (a0 + 32))) else (some a0))))) else (some (wrap32 (a0 + 32)))) else ((name_between.f a0 913 937).bind fun t123 => (if t123 = true then (if a0 = 930 then ((name_between.f a0 1040 1071).bind fun t124 => (if t124 = true then (some (wrap32 (a0 + 32))) else (some a0))) else (some (wrap32 (a0 + 32)))) else ((name_between.f a0 1040 1071).bind fun t125 => (if t125 = true then (some (wrap32 (a0 + 32))) else (some a0))))))) = some r := by rw [if_neg (show ¬ (false = true) by decide)] at H; exact H
  clear H
  have H := H1
  clear H1
  replace H := Option.bind_eq_some_iff.mp H
  obtain ⟨t119, A40, H⟩ := H
  replace H : (if t119 = true then (if a0 = 215 then ((name_between.f a0 913 937).bind fun t120 => (if t120 = true then (if a0 = 930 then ((name_between.f a0 1040 1071).bind fun t121 => (if t121 = true then (some (wrap32 (a0 + 32))) else (some a0))) else (some (wrap32 (a0 + 32)))) else ((name_between.f a0 1040 1071).bind fun t122 => (if t122 = true then (some (wrap32 (a0 + 32))) else (some a0))))) else (some (wrap32 (a0 + 32)))) else ((name_between.f a0 913 937).bind fun t123 => (if t123 = true then (if a0 = 930 then ((name_between.f a0 1040 1071).bind fun t124 => (if t124 = true then (some (wrap32 (a0 + 32))) else (some a0))) else (some (wrap32 (a0 + 32)))) else ((name_between.f a0 1040 1071).bind fun t125 => (if t125 = true then (some (wrap32 (a0 + 32))) else (some a0)))))) = some r := H
  have A4 := Aside0.mk A40
  clear A40
  by_cases c5 : t119 = true
  ·subst c5
   have H1 : (if a0 = 215 then ((name_between.f a0 913 937).bind fun t120 => (if t120 = true then (if a0 = 930 then ((name_between.f a0 1040 1071).bind fun t121 => (if t121 = true then (some (wrap32 (a0 + 32))) else (some a0))) else (some (wrap32 (a0 + 32)))) else ((name_between.f a0 1040 1071).bind fun t122 => (if t122 = true then (some (wrap32 (a0 + 32))) else (some a0))))) else (some (wrap32 (a0 + 32)))) = some r := by rw [if_pos rfl] at H; exact H
   clear H
   have H := H1
   clear H1
   by_cases c6 : a0 = 215
   ·rw [if_pos c6] at H
    have c6b0 : (a0 == 215) = true := beq_iff_eq.mpr c6
    have c6b1 : (a0 != 215) = false := bne_eq_false_iff_eq.mpr c6
    clear c6
    replace H := Option.bind_eq_some_iff.mp H
    obtain ⟨t120, A70, H⟩ := H
    replace H : (if t120 = true then (if a0 = 930 then ((name_between.f a0 1040 1071).bind fun t121 => (if t121 = true then (some (wrap32 (a0 + 32))) else (some a0))) else (some (wrap32 (a0 + 32)))) else ((name_between.f a0 1040 1071).bind fun t122 => (if t122 = true then (some (wrap32 (a0 + 32))) else (some a0)))) = some r := H
    have A7 := Aside0.mk A70
    clear A70
    by_cases c8 : t120 = true
    ·subst c8
     have H1 : (if a0 = 930 then ((name_between.f a0 1040 1071).bind fun t121 => (if t121 = true then (some (wrap32 (a0 + 32))) else (some a0))) else (some (wrap32 (a0 + 32)))) = some r := by rw [if_pos rfl] at H; exact H
     clear H
     have H := H1
     clear H1
     by_cases c9 : a0 = 930
     ·rw [if_pos c9] at H
      have c9b0 : (a0 == 930) = true := beq_iff_eq.mpr c9
      have c9b1 : (a0 != 930) = false := bne_eq_false_iff_eq.mpr c9
      clear c9
      replace H := Option.bind_eq_some_iff.mp H
      obtain ⟨t121, A100, H⟩ := H
      replace H : (if t121 = true then (some (wrap32 (a0 + 32))) else (some a0)) = some r := H
      have A10 := Aside0.mk A100
      clear A100
      by_cases c11 : t121 = true
      ·subst c11
       have H1 : (some (wrap32 (a0 + 32))) = some r := by rw [if_pos rfl] at H; exact H
       clear H
       have H := H1
       clear H1
       obtain rfl := Option.some.inj H
       go_enter Tryz.func93, Tryz.ntmps93
       go_wp2_with (first | ((with_reducible refine gate_callee (f := 129) rfl ?_); refine goesA (some 4) Tryz.func129 #[.int .i32 a0, .int .i32 65, .int .i32 90] ?_; (with_reducible refine (name_between.calls a0 65 90 false _ A2.out).mono ?_); rintro e w' ⟨rfl, ⟨nd, rfl⟩⟩; refine ⟨_, rfl, ?_⟩) | (go_at_call 129; (with_reducible refine (name_between.calls a0 192 222 true _ A4.out).mono ?_); rintro e w' ⟨rfl, ⟨nd, rfl⟩⟩) | (go_at_call 129; (with_reducible refine (name_between.calls a0 913 937 true _ A7.out).mono ?_); rintro e w' ⟨rfl, ⟨nd, rfl⟩⟩) | (go_at_call 129; (with_reducible refine (name_between.calls a0 1040 1071 true _ A10.out).mono ?_); rintro e w' ⟨rfl, ⟨nd, rfl⟩⟩))
       go_ret
       exact ⟨endS, drA⟩
      ·replace c11 := Bool.eq_false_iff.mpr c11
       subst c11
       have H1 : (some a0) = some r := by rw [if_neg (show ¬ (false = true) by decide)] at H; exact H
       clear H
       have H := H1
       clear H1
       obtain rfl := Option.some.inj H
       go_enter Tryz.func93, Tryz.ntmps93
       go_wp2_with (first | ((with_reducible refine gate_callee (f := 129) rfl ?_); refine goesA (some 4) Tryz.func129 #[.int .i32 a0, .int .i32 65, .int .i32 90] ?_; (with_reducible refine (name_between.calls a0 65 90 false _ A2.out).mono ?_); rintro e w' ⟨rfl, ⟨nd, rfl⟩⟩; refine ⟨_, rfl, ?_⟩) | (go_at_call 129; (with_reducible refine (name_between.calls a0 192 222 true _ A4.out).mono ?_); rintro e w' ⟨rfl, ⟨nd, rfl⟩⟩) | (go_at_call 129; (with_reducible refine (name_between.calls a0 913 937 true _ A7.out).mono ?_); rintro e w' ⟨rfl, ⟨nd, rfl⟩⟩) | (go_at_call 129; (with_reducible refine (name_between.calls a0 1040 1071 false _ A10.out).mono ?_); rintro e w' ⟨rfl, ⟨nd, rfl⟩⟩))
       go_ret
       exact ⟨endS, drA⟩
     ·rw [if_neg c9] at H
      have c9b0 : (a0 == 930) = false := beq_eq_false_iff_ne.mpr c9
      have c9b1 : (a0 != 930) = true := bne_iff_ne.mpr c9
      obtain rfl := Option.some.inj H
      go_enter Tryz.func93, Tryz.ntmps93
      go_wp2_with (first | ((with_reducible refine gate_callee (f := 129) rfl ?_); refine goesA (some 4) Tryz.func129 #[.int .i32 a0, .int .i32 65, .int .i32 90] ?_; (with_reducible refine (name_between.calls a0 65 90 false _ A2.out).mono ?_); rintro e w' ⟨rfl, ⟨nd, rfl⟩⟩; refine ⟨_, rfl, ?_⟩) | (go_at_call 129; (with_reducible refine (name_between.calls a0 192 222 true _ A4.out).mono ?_); rintro e w' ⟨rfl, ⟨nd, rfl⟩⟩) | (go_at_call 129; (with_reducible refine (name_between.calls a0 913 937 true _ A7.out).mono ?_); rintro e w' ⟨rfl, ⟨nd, rfl⟩⟩))
      go_ret
      exact ⟨endS, drA⟩
    ·replace c8 := Bool.eq_false_iff.mpr c8
     subst c8
     have H1 : ((name_between.f a0 1040 1071).bind fun t122 => (if t122 = true then (some (wrap32 (a0 + 32))) else (some a0))) = some r := by rw [if_neg (show ¬ (false = true) by decide)] at H; exact H
     clear H
     have H := H1
     clear H1
     replace H := Option.bind_eq_some_iff.mp H
     obtain ⟨t122, A120, H⟩ := H
     replace H : (if t122 = true then (some (wrap32 (a0 + 32))) else (some a0)) = some r := H
     have A12 := Aside0.mk A120
     clear A120
     by_cases c13 : t122 = true
     ·subst c13
      have H1 : (some (wrap32 (a0 + 32))) = some r := by rw [if_pos rfl] at H; exact H
      clear H
      have H := H1
      clear H1
      obtain rfl := Option.some.inj H
      go_enter Tryz.func93, Tryz.ntmps93
      go_wp2_with (first | ((with_reducible refine gate_callee (f := 129) rfl ?_); refine goesA (some 4) Tryz.func129 #[.int .i32 a0, .int .i32 65, .int .i32 90] ?_; (with_reducible refine (name_between.calls a0 65 90 false _ A2.out).mono ?_); rintro e w' ⟨rfl, ⟨nd, rfl⟩⟩; refine ⟨_, rfl, ?_⟩) | (go_at_call 129; (with_reducible refine (name_between.calls a0 192 222 true _ A4.out).mono ?_); rintro e w' ⟨rfl, ⟨nd, rfl⟩⟩) | (go_at_call 129; (with_reducible refine (name_between.calls a0 913 937 false _ A7.out).mono ?_); rintro e w' ⟨rfl, ⟨nd, rfl⟩⟩) | (go_at_call 129; (with_reducible refine (name_between.calls a0 1040 1071 true _ A12.out).mono ?_); rintro e w' ⟨rfl, ⟨nd, rfl⟩⟩))
      go_ret
      exact ⟨endS, drA⟩
     ·replace c13 := Bool.eq_false_iff.mpr c13
      subst c13
      have H1 : (some a0) = some r := by rw [if_neg (show ¬ (false = true) by decide)] at H; exact H
      clear H
      have H := H1
      clear H1
      obtain rfl := Option.some.inj H
      go_enter Tryz.func93, Tryz.ntmps93
      go_wp2_with (first | ((with_reducible refine gate_callee (f := 129) rfl ?_); refine goesA (some 4) Tryz.func129 #[.int .i32 a0, .int .i32 65, .int .i32 90] ?_; (with_reducible refine (name_between.calls a0 65 90 false _ A2.out).mono ?_); rintro e w' ⟨rfl, ⟨nd, rfl⟩⟩; refine ⟨_, rfl, ?_⟩) | (go_at_call 129; (with_reducible refine (name_between.calls a0 192 222 true _ A4.out).mono ?_); rintro e w' ⟨rfl, ⟨nd, rfl⟩⟩) | (go_at_call 129; (with_reducible refine (name_between.calls a0 913 937 false _ A7.out).mono ?_); rintro e w' ⟨rfl, ⟨nd, rfl⟩⟩) | (go_at_call 129; (with_reducible refine (name_between.calls a0 1040 1071 false _ A12.out).mono ?_); rintro e w' ⟨rfl, ⟨nd, rfl⟩⟩))
      go_ret
      exact ⟨endS, drA⟩
   ·rw [if_neg c6] at H
    have c6b0 : (a0 == 215) = false := beq_eq_false_iff_ne.mpr c6
    have c6b1 : (a0 != 215) = true := bne_iff_ne.mpr c6
    obtain rfl := Option.some.inj H
    go_enter Tryz.func93, Tryz.ntmps93
    go_wp2_with (first | ((with_reducible refine gate_callee (f := 129) rfl ?_); refine goesA (some 4) Tryz.func129 #[.int .i32 a0, .int .i32 65, .int .i32 90] ?_; (with_reducible refine (name_between.calls a0 65 90 false _ A2.out).mono ?_); rintro e w' ⟨rfl, ⟨nd, rfl⟩⟩; refine ⟨_, rfl, ?_⟩) | (go_at_call 129; (with_reducible refine (name_between.calls a0 192 222 true _ A4.out).mono ?_); rintro e w' ⟨rfl, ⟨nd, rfl⟩⟩))
    go_ret
    exact ⟨endS, drA⟩
  ·replace c5 := Bool.eq_false_iff.mpr c5
   subst c5
   have H1 : ((name_between.f a0 913 937).bind fun t123 => (if t123 = true then (if a0 = 930 then ((name_between.f a0 1040 1071).bind fun t124 => (if t124 = true then (some (wrap32 (a0 + 32))) else (some a0))) else (some (wrap32 (a0 + 32)))) else ((name_between.f a0 1040 1071).bind fun t125 => (if t125 = true then (some (wrap32 (a0 + 32))) else (some a0))))) = some r := by rw [if_neg (show ¬ (false = true) by decide)] at H; exact H
   clear H
   have H := H1
   clear H1
   replace H := Option.bind_eq_some_iff.mp H
   obtain ⟨t123, A140, H⟩ := H
   replace H : (if t123 = true then (if a0 = 930 then ((name_between.f a0 1040 1071).bind fun t124 => (if t124 = true then (some (wrap32 (a0 + 32))) else (some a0))) else (some (wrap32 (a0 + 32)))) else ((name_between.f a0 1040 1071).bind fun t125 => (if t125 = true then (some (wrap32 (a0 + 32))) else (some a0)))) = some r := H
   have A14 := Aside0.mk A140
   clear A140
   by_cases c15 : t123 = true
   ·subst c15
    have H1 : (if a0 = 930 then ((name_between.f a0 1040 1071).bind fun t124 => (if t124 = true then (some (wrap32 (a0 + 32))) else (some a0))) else (some (wrap32 (a0 + 32)))) = some r := by rw [if_pos rfl] at H; exact H
    clear H
    have H := H1
    clear H1
    by_cases c16 : a0 = 930
    ·rw [if_pos c16] at H
     have c16b0 : (a0 == 930) = true := beq_iff_eq.mpr c16
     have c16b1 : (a0 != 930) = false := bne_eq_false_iff_eq.mpr c16
     clear c16
     replace H := Option.bind_eq_some_iff.mp H
     obtain ⟨t124, A170, H⟩ := H
     replace H : (if t124 = true then (some (wrap32 (a0 + 32))) else (some a0)) = some r := H
     have A17 := Aside0.mk A170
     clear A170
     by_cases c18 : t124 = true
     ·subst c18
      have H1 : (some (wrap32 (a0 + 32))) = some r := by rw [if_pos rfl] at H; exact H
      clear H
      have H := H1
      clear H1
      obtain rfl := Option.some.inj H
      go_enter Tryz.func93, Tryz.ntmps93
      go_wp2_with (first | ((with_reducible refine gate_callee (f := 129) rfl ?_); refine goesA (some 4) Tryz.func129 #[.int .i32 a0, .int .i32 65, .int .i32 90] ?_; (with_reducible refine (name_between.calls a0 65 90 false _ A2.out).mono ?_); rintro e w' ⟨rfl, ⟨nd, rfl⟩⟩; refine ⟨_, rfl, ?_⟩) | (go_at_call 129; (with_reducible refine (name_between.calls a0 192 222 false _ A4.out).mono ?_); rintro e w' ⟨rfl, ⟨nd, rfl⟩⟩) | (go_at_call 129; (with_reducible refine (name_between.calls a0 913 937 true _ A14.out).mono ?_); rintro e w' ⟨rfl, ⟨nd, rfl⟩⟩) | (go_at_call 129; (with_reducible refine (name_between.calls a0 1040 1071 true _ A17.out).mono ?_); rintro e w' ⟨rfl, ⟨nd, rfl⟩⟩))
      go_ret
      exact ⟨endS, drA⟩
     ·replace c18 := Bool.eq_false_iff.mpr c18
      subst c18
      have H1 : (some a0) = some r := by rw [if_neg (show ¬ (false = true) by decide)] at H; exact H
      clear H
      have H := H1
      clear H1
      obtain rfl := Option.some.inj H
      go_enter Tryz.func93, Tryz.ntmps93
      go_wp2_with (first | ((with_reducible refine gate_callee (f := 129) rfl ?_); refine goesA (some 4) Tryz.func129 #[.int .i32 a0, .int .i32 65, .int .i32 90] ?_; (with_reducible refine (name_between.calls a0 65 90 false _ A2.out).mono ?_); rintro e w' ⟨rfl, ⟨nd, rfl⟩⟩; refine ⟨_, rfl, ?_⟩) | (go_at_call 129; (with_reducible refine (name_between.calls a0 192 222 false _ A4.out).mono ?_); rintro e w' ⟨rfl, ⟨nd, rfl⟩⟩) | (go_at_call 129; (with_reducible refine (name_between.calls a0 913 937 true _ A14.out).mono ?_); rintro e w' ⟨rfl, ⟨nd, rfl⟩⟩) | (go_at_call 129; (with_reducible refine (name_between.calls a0 1040 1071 false _ A17.out).mono ?_); rintro e w' ⟨rfl, ⟨nd, rfl⟩⟩))
      go_ret
      exact ⟨endS, drA⟩
    ·rw [if_neg c16] at H
     have c16b0 : (a0 == 930) = false := beq_eq_false_iff_ne.mpr c16
     have c16b1 : (a0 != 930) = true := bne_iff_ne.mpr c16
     obtain rfl := Option.some.inj H
     go_enter Tryz.func93, Tryz.ntmps93
     go_wp2_with (first | ((with_reducible refine gate_callee (f := 129) rfl ?_); refine goesA (some 4) Tryz.func129 #[.int .i32 a0, .int .i32 65, .int .i32 90] ?_; (with_reducible refine (name_between.calls a0 65 90 false _ A2.out).mono ?_); rintro e w' ⟨rfl, ⟨nd, rfl⟩⟩; refine ⟨_, rfl, ?_⟩) | (go_at_call 129; (with_reducible refine (name_between.calls a0 192 222 false _ A4.out).mono ?_); rintro e w' ⟨rfl, ⟨nd, rfl⟩⟩) | (go_at_call 129; (with_reducible refine (name_between.calls a0 913 937 true _ A14.out).mono ?_); rintro e w' ⟨rfl, ⟨nd, rfl⟩⟩))
     go_ret
     exact ⟨endS, drA⟩
   ·replace c15 := Bool.eq_false_iff.mpr c15
    subst c15
    have H1 : ((name_between.f a0 1040 1071).bind fun t125 => (if t125 = true then (some (wrap32 (a0 + 32))) else (some a0))) = some r := by rw [if_neg (show ¬ (false = true) by decide)] at H; exact H
    clear H
    have H := H1
    clear H1
    replace H := Option.bind_eq_some_iff.mp H
    obtain ⟨t125, A190, H⟩ := H
    replace H : (if t125 = true then (some (wrap32 (a0 + 32))) else (some a0)) = some r := H
    have A19 := Aside0.mk A190
    clear A190
    by_cases c20 : t125 = true
    ·subst c20
     have H1 : (some (wrap32 (a0 + 32))) = some r := by rw [if_pos rfl] at H; exact H
     clear H
     have H := H1
     clear H1
     obtain rfl := Option.some.inj H
     go_enter Tryz.func93, Tryz.ntmps93
     go_wp2_with (first | ((with_reducible refine gate_callee (f := 129) rfl ?_); refine goesA (some 4) Tryz.func129 #[.int .i32 a0, .int .i32 65, .int .i32 90] ?_; (with_reducible refine (name_between.calls a0 65 90 false _ A2.out).mono ?_); rintro e w' ⟨rfl, ⟨nd, rfl⟩⟩; refine ⟨_, rfl, ?_⟩) | (go_at_call 129; (with_reducible refine (name_between.calls a0 192 222 false _ A4.out).mono ?_); rintro e w' ⟨rfl, ⟨nd, rfl⟩⟩) | (go_at_call 129; (with_reducible refine (name_between.calls a0 913 937 false _ A14.out).mono ?_); rintro e w' ⟨rfl, ⟨nd, rfl⟩⟩) | (go_at_call 129; (with_reducible refine (name_between.calls a0 1040 1071 true _ A19.out).mono ?_); rintro e w' ⟨rfl, ⟨nd, rfl⟩⟩))
     go_ret
     exact ⟨endS, drA⟩
    ·replace c20 := Bool.eq_false_iff.mpr c20
     subst c20
     have H1 : (some a0) = some r := by rw [if_neg (show ¬ (false = true) by decide)] at H; exact H
     clear H
     have H := H1
     clear H1
     obtain rfl := Option.some.inj H
     go_enter Tryz.func93, Tryz.ntmps93
     go_wp2_with (first | ((with_reducible refine gate_callee (f := 129) rfl ?_); refine goesA (some 4) Tryz.func129 #[.int .i32 a0, .int .i32 65, .int .i32 90] ?_; (with_reducible refine (name_between.calls a0 65 90 false _ A2.out).mono ?_); rintro e w' ⟨rfl, ⟨nd, rfl⟩⟩; refine ⟨_, rfl, ?_⟩) | (go_at_call 129; (with_reducible refine (name_between.calls a0 192 222 false _ A4.out).mono ?_); rintro e w' ⟨rfl, ⟨nd, rfl⟩⟩) | (go_at_call 129; (with_reducible refine (name_between.calls a0 913 937 false _ A14.out).mono ?_); rintro e w' ⟨rfl, ⟨nd, rfl⟩⟩) | (go_at_call 129; (with_reducible refine (name_between.calls a0 1040 1071 false _ A19.out).mono ?_); rintro e w' ⟨rfl, ⟨nd, rfl⟩⟩))
     go_ret
     exact ⟨endS, drA⟩

/-! ### name_Fold: function 58, by hand -/
theorem name_Fold.info : (Tryz.prog.info? 21).map (fun i => (i.zero, i.size, i.bytes)) = some (some (.int .i32 0), 1, 4) := by kernel_rfl
def name_Fold.go (s : ByteArray) : Nat → Nat → List Int → Option (List Int)
 | 0, _, _ => none
 | f + 1, pos, acc => if pos < s.size then (name_Small.f ((Utf8.decode s pos).1 : Int)).bind fun c => name_Fold.go s f (pos + (Utf8.decode s pos).2) (acc ++ [c]) else some acc
def name_Fold.f (a0 : ByteArray) : Option ByteArray := if a0.size ≤ 1099511627776 then (if Lib.validD a0.data.toList = true then (name_Fold.go a0 (a0.size + 1) 0 []).bind fun l => some (runesBytes l) else some a0) else none
set_option maxHeartbeats 4000000 in
set_option maxRecDepth 100000 in
theorem name_Fold.calls (a0 : ByteArray) (r : ByteArray) (w : World) (hT : Tabs w) (h : name_Fold.f a0 = some r) :
  Calls Tryz.prog 58 #[.string a0] w fun e w' => e = .returned (.string r) ∧ Below w.heap.size w w' := by
 unfold name_Fold.f at h
 split at h
 ·rename_i hs
  have cV := Tryz.utf8_ValidString a0 w (by omega) hT.u8
  by_cases hv : Lib.validD a0.data.toList = true
  ·rw [if_pos hv] at h
   obtain ⟨l, hl, h⟩ := Option.bind_eq_some_iff.1 h
   obtain rfl := Option.some.inj h
   have H := Lib.hid hl
   rw [hv] at cV
   clear h hv hl
   go_enter Tryz.func58, Tryz.ntmps58
   go_wp2_with (go_at_call 92; refine cV.mono ?_; rintro e w1 ⟨rfl, hb1⟩)
   go_loopw [3] (fun v3 wr => ∃ (pos fuel : Nat) (acc : List Int), wr.heap[w1.heap.size]? = some (.stringIter a0 pos) ∧ Kd.R (Kd.int .i32) 21 wr w.heap.size (fun k => k ≠ w1.heap.size) v3 acc ∧ Below w.heap.size w wr ∧ Hid (name_Fold.go a0 fuel pos acc = some l) ∧ acc.length ≤ pos) (fun _ wr => a0.size - wr.iterPos w1.heap.size)
   case atStart => exact ⟨0, _, [], World.iter_heap w1 a0 0, Kd.R_nil _ _ _ _ _, hb1.alloc hb1.size _, H, by simp⟩
   case round =>
    obtain ⟨pos, fuel, acc, hit, hR, hbw, HG, hal⟩ := hrel
    clear H
    have hsz : w1.heap.size < wr.heap.size := (Array.getElem?_eq_some_iff.1 hit).1
    have hsw : w.heap.size ≤ w1.heap.size := hb1.size
    cases fuel with
    | zero => exact absurd HG.out (by simp [name_Fold.go])
    | succ f =>
     have hgo := HG.out
     clear HG
     unfold name_Fold.go at hgo
     by_cases hp : pos < a0.size
     ·rw [if_pos hp] at hgo
      have hnx : ∀ ty, (Instr.next (.pointer (some ⟨w1.heap.size, 0, none⟩)) true ty).run Tryz.prog wr = _ := fun ty => Lib.run_next_any_at wr w1.heap.size a0 pos ty hit hp
      have Hwd := Lib.hid (Lib.width_pos a0 pos)
      have Hd1 := Lib.hid (decode_le a0 pos)
      have hit2 := Lib.iterAt_heap wr w1.heap.size a0 pos (pos + (Utf8.decode a0 pos).2) hit
      have hbw2 := Lib.below_iterAt hbw (k := w1.heap.size) hsw a0 (pos + (Utf8.decode a0 pos).2)
      have hR2 : Kd.R (Kd.int .i32) 21 (wr.iterAt w1.heap.size a0 (pos + (Utf8.decode a0 pos).2)) w.heap.size (fun k => k ≠ w1.heap.size) u3 acc := Kd.R_move hR (fun k hk => Lib.iterAt_other wr w1.heap.size k a0 _ hk)
      obtain ⟨c, hc, hgo⟩ := Option.bind_eq_some_iff.1 hgo
      have cS := fun W => name_Small.calls ((Utf8.decode a0 pos).1 : Int) c W hc
      generalize hq : (((Utf8.decode a0 pos).1 : Nat) : Int) = q at cS hnx
      have HE := Lib.hid hgo
      have hz2 : w1.heap.size < (wr.iterAt w1.heap.size a0 (pos + (Utf8.decode a0 pos).2)).heap.size := by rw [Lib.iterAt_size]; exact hsz
      have Hit := Lib.hid hit
      have HL := Lib.hid (show (acc.length + 1) * 4 ≤ 140737488355328 by omega)
      have HA := Lib.hid hal
      clear hgo hc hq hit hbw hR hal
      go_wp2_with (first | (go_at_call 93; refine (cS _).mono ?_; rintro e w2 ⟨rfl, ⟨nd, rfl⟩⟩) | ((with_reducible refine gate_builtin (b := .append) (xs := #[.tmp 15, .tmp 18]) rfl ?_); at_builtin; refine Kd.R_append (Kd.int .i32) (w0 := w) w.heap.size rfl (.tmp 15) (.tmp 18) 124 21 (.int .i32 0) 4 rfl Tryz.underlying124 name_Fold.info rfl (by decide) (by omega) u3 acc c [.int .i32 c] (fun k => k ≠ w1.heap.size) (fun _ => False) rfl (by first | (go_simp; done) | (go_simp; rfl)) rfl (fun _ hk => hk.elim) ?aF ?aO ?aB ?aS HL.out ?_; (case aF => (intro k hk he; rw [he] at hk; exact absurd (Nat.lt_of_lt_of_le hz2 hk) (Nat.lt_irrefl _))); (case aB => (repeat (first | exact hbw2 | apply pw_below_drewN))); (case aO => ((with_reducible repeat (first | apply Kd.R_alloc | apply Kd.R_drewN | apply Kd.R_drew)); exact hR2)); (case aS => exact hbw2.size); intro v4 w4 ho hb hg hat; have hit3 := blk_grown (show ((wr.iterAt w1.heap.size a0 (pos + (Utf8.decode a0 pos).2)).drewN nd).heap[w1.heap.size]? = _ from hit2) hg (fun e => hR2.1 _ e.symm rfl)))
      go_roundw
      case rel =>
       refine ⟨_, f, acc ++ [c], hit3, ho, hb, HE, ?_⟩
       have := HA.out
       have := Hwd.out
       rw [List.length_append]
       show acc.length + 1 ≤ _
       omega
      case measure =>
       have hwd := Hwd.out
       have hd1 := Hd1.out
       simp only [World.iterPos, hit3, Hit.out]
       omega
     ·rw [if_neg hp] at hgo
      obtain rfl := Option.some.inj hgo
      clear hal
      have hnx : ∀ ty, (Instr.next (.pointer (some ⟨w1.heap.size, 0, none⟩)) true ty).run Tryz.prog wr = _ := fun ty => Lib.run_next_end_at wr w1.heap.size a0 pos ty hit hp
      have hcv := own_runes (P := Tryz.prog) Tryz.underlying124 Tryz.underlying21 Tryz.underlying9 (Kd.own_of_R hR)
      go_wp2
      go_ret
      exact ⟨rfl, hbw⟩
  ·rw [if_neg hv] at h
   obtain rfl := Option.some.inj h
   rw [Bool.eq_false_iff.2 hv] at cV
   clear hv
   go_enter Tryz.func58, Tryz.ntmps58
   go_wp2_with (go_at_call 92; refine cV.mono ?_; rintro e w1 ⟨rfl, hb1⟩)
   go_ret
   exact ⟨rfl, hb1⟩
 ·cases h

/-! ### forest_count: function 59 -/
def forest_count.f (a0 : Int) : Option (Bool) := if a0 ≥ 1 then (some (decide (a0 ≤ 1099511627775))) else (some false)
set_option maxHeartbeats 8000000 in
set_option maxRecDepth 100000 in
theorem forest_count.calls (a0 : Int) (r : Bool) (w : World) (h : forest_count.f a0 = some r) :
  Calls Tryz.prog 59 #[.int .i64 a0] w fun e w' => e = .returned (.bool r) ∧ Drawn0 w w' := by
 have H : (if a0 ≥ 1 then (some (decide (a0 ≤ 1099511627775))) else (some false)) = some r := h
 clear h
 by_cases c2 : a0 ≥ 1
 ·rw [if_pos c2] at H
  have c2b0 : decide (1 ≤ a0) = true := decide_eq_true c2
  clear c2
  obtain rfl := Option.some.inj H
  go_enter Tryz.func59, Tryz.ntmps59
  go_wp2
  go_ret
  exact ⟨endS, drA⟩
 ·rw [if_neg c2] at H
  have c2b0 : decide (1 ≤ a0) = false := decide_eq_false c2
  clear c2
  obtain rfl := Option.some.inj H
  go_enter Tryz.func59, Tryz.ntmps59
  go_wp2
  go_ret
  exact ⟨endS, drA⟩

end Go.Proofs.YtplemgmfnghoeaaGreatDoor.A
