-- By drv.py, the session's own driver round the kit's print: the machine's side of the laws, function by function. Not trusted: Lean checks it.
import Derived.Test.YtnbbajiabbmdmaaGreatDoorAx0
import Derived.Test.YtnbbajiabbmdmaaGreatDoorAx8
import Derived.Test.YtnbbajiabbmdmaaGreatDoorAx9
import Derived.Test.YtnbbajiabbmdmaaGreatDoorAx19
import Derived.Test.YtnbbajiabbmdmaaGreatDoorAx21
namespace Go.Proofs.YtnbbajiabbmdmaaGreatDoor.A
open Go.RowKit Go.Proofs.YtnbbajiabbmdmaaGreatDoorW.PrintWords Go.Proofs.YtnbbajiabbmdmaaGreatDoorW.PrintLast Go.Proofs.YtnbbajiabbmdmaaGreatDoorW.PrintMore
attribute [local go_sem] max2_int min2_int max_two min_two max_three min_three max_four min_four   -- for this text's walks alone
set_option linter.unusedVariables false
set_option linter.unusedSimpArgs false

/-! ### value_Text: function 68 -/
def value_Text.f (k : Nat) (a0_0 : Int) (a0_1 : Int) (a0_2 : ByteArray) : Option (ByteArray) := (value_Check.f a0_0 a0_1 a0_2).bind fun t505 => (if t505 = true then ((some (([(⟨1, a0_0, (⟨#[]⟩ : ByteArray)⟩ : S101)] : List (S101)) : List (S101))).bind fun y506 => (if a0_0 = 1 then (if y506.length < 4398046511104 then ((quic_Put.f k (y506 ++ [(⟨2, a0_1, (⟨#[]⟩ : ByteArray)⟩ : S101)])).bind fun bt512 => (some bt512.1)) else (none)) else (if a0_0 = 3 then (if y506.length < 4398046511104 then ((quic_Put.f k (y506 ++ [(⟨3, a0_1, (⟨#[]⟩ : ByteArray)⟩ : S101)])).bind fun bt517 => (some bt517.1)) else (none)) else (if y506.length < 4398046511104 then ((quic_Put.f k (y506 ++ [(⟨4, 0, a0_2⟩ : S101)])).bind fun bt522 => (some bt522.1)) else (none))))) else (some (⟨#[]⟩ : ByteArray)))
theorem value_Text.mono : ∀ a0 a1 a2 k, LeO (value_Text.f k a0 a1 a2) (value_Text.f (k + 1) a0 a1 a2) := by
 intro a0 a1 a2 k
 unfold value_Text.f
 repeat' first
   | (with_reducible exact quic_Put.mono _ _)
   | (with_reducible exact LeO.refl _)
   | (with_reducible exact LeO.none _)
   | (with_reducible refine LeO.ite ?_ ?_)
   | (with_reducible refine LeO.bind ?_ (fun _ => ?_))
   | exact quic_Put.mono _ _
   | exact LeO.none _
   | refine LeO.ite ?_ ?_
   | refine LeO.bind ?_ (fun _ => ?_)
set_option maxHeartbeats 8000000 in
set_option maxRecDepth 100000 in
theorem value_Text.calls (k : Nat) (a0_0 : Int) (a0_1 : Int) (a0_2 : ByteArray) (r : ByteArray) (w : World) (hT : Tabs w) (h : value_Text.f k a0_0 a0_1 a0_2 = some r) :
  Calls Tryz.prog 68 #[.agg #[.int .i64 a0_0, .int .i64 a0_1, .string a0_2]] w fun e w' => e = .returned (.string r) ∧ Below w.heap.size w w' := by
 have hu37 := Tryz.underlying37
 have hu101 := Tryz.underlying101
 have HB := Aside0.mk (Below.refl w.heap.size w)
 have H : ((value_Check.f a0_0 a0_1 a0_2).bind fun t505 => (if t505 = true then ((some (([(⟨1, a0_0, (⟨#[]⟩ : ByteArray)⟩ : S101)] : List (S101)) : List (S101))).bind fun y506 => (if a0_0 = 1 then (if y506.length < 4398046511104 then ((quic_Put.f k (y506 ++ [(⟨2, a0_1, (⟨#[]⟩ : ByteArray)⟩ : S101)])).bind fun bt512 => (some bt512.1)) else (none)) else (if a0_0 = 3 then (if y506.length < 4398046511104 then ((quic_Put.f k (y506 ++ [(⟨3, a0_1, (⟨#[]⟩ : ByteArray)⟩ : S101)])).bind fun bt517 => (some bt517.1)) else (none)) else (if y506.length < 4398046511104 then ((quic_Put.f k (y506 ++ [(⟨4, 0, a0_2⟩ : S101)])).bind fun bt522 => (some bt522.1)) else (none))))) else (some (⟨#[]⟩ : ByteArray)))) = some r := h
 clear h
 have HT := Aside0.mk hT
 clear hT
 replace H := Option.bind_eq_some_iff.mp H
 obtain ⟨t505, A20, H⟩ := H
 replace H : (if t505 = true then ((some (([(⟨1, a0_0, (⟨#[]⟩ : ByteArray)⟩ : S101)] : List (S101)) : List (S101))).bind fun y506 => (if a0_0 = 1 then (if y506.length < 4398046511104 then ((quic_Put.f k (y506 ++ [(⟨2, a0_1, (⟨#[]⟩ : ByteArray)⟩ : S101)])).bind fun bt512 => (some bt512.1)) else (none)) else (if a0_0 = 3 then (if y506.length < 4398046511104 then ((quic_Put.f k (y506 ++ [(⟨3, a0_1, (⟨#[]⟩ : ByteArray)⟩ : S101)])).bind fun bt517 => (some bt517.1)) else (none)) else (if y506.length < 4398046511104 then ((quic_Put.f k (y506 ++ [(⟨4, 0, a0_2⟩ : S101)])).bind fun bt522 => (some bt522.1)) else (none))))) else (some (⟨#[]⟩ : ByteArray))) = some r := H
 have A2 := Aside0.mk A20
 clear A20
 by_cases c3 : t505 = true
 ·subst c3
  have H1 : ((some (([(⟨1, a0_0, (⟨#[]⟩ : ByteArray)⟩ : S101)] : List (S101)) : List (S101))).bind fun y506 => (if a0_0 = 1 then (if y506.length < 4398046511104 then ((quic_Put.f k (y506 ++ [(⟨2, a0_1, (⟨#[]⟩ : ByteArray)⟩ : S101)])).bind fun bt512 => (some bt512.1)) else (none)) else (if a0_0 = 3 then (if y506.length < 4398046511104 then ((quic_Put.f k (y506 ++ [(⟨3, a0_1, (⟨#[]⟩ : ByteArray)⟩ : S101)])).bind fun bt517 => (some bt517.1)) else (none)) else (if y506.length < 4398046511104 then ((quic_Put.f k (y506 ++ [(⟨4, 0, a0_2⟩ : S101)])).bind fun bt522 => (some bt522.1)) else (none))))) = some r := by rw [if_pos rfl] at H; exact H
  clear H
  have H := H1
  clear H1
  obtain ⟨y506, hy506⟩ : ∃ y_ : List (S101), y_ = (([(⟨1, a0_0, (⟨#[]⟩ : ByteArray)⟩ : S101)] : List (S101))) := ⟨_, rfl⟩
  replace H : (if a0_0 = 1 then (if y506.length < 4398046511104 then ((quic_Put.f k (y506 ++ [(⟨2, a0_1, (⟨#[]⟩ : ByteArray)⟩ : S101)])).bind fun bt512 => (some bt512.1)) else (none)) else (if a0_0 = 3 then (if y506.length < 4398046511104 then ((quic_Put.f k (y506 ++ [(⟨3, a0_1, (⟨#[]⟩ : ByteArray)⟩ : S101)])).bind fun bt517 => (some bt517.1)) else (none)) else (if y506.length < 4398046511104 then ((quic_Put.f k (y506 ++ [(⟨4, 0, a0_2⟩ : S101)])).bind fun bt522 => (some bt522.1)) else (none)))) = some r := by first | (rw [hy506]; with_reducible exact H) | (have H2_ := (Option.bind_some _ _).symm.trans H; rw [hy506]; with_reducible exact H2_) | (have H2_ := (Option.bind_some _ _).symm.trans H; with_reducible exact H2_) | with_reducible exact H | (rw [hy506]; exact H) | exact H
  have Ny506 := Aside0.mk hy506
  clear hy506
  by_cases c4 : a0_0 = 1
  ·rw [if_pos c4] at H
   have c4b0 : (a0_0 == 1) = true := beq_iff_eq.mpr c4
   have c4b1 : (a0_0 != 1) = false := bne_eq_false_iff_eq.mpr c4
   clear c4
   by_cases c5 : y506.length < 4398046511104
   ·rw [if_pos c5] at H
    have LMc5 := Aside0.mk c5
    clear c5
    obtain ⟨y509, hy509⟩ : ∃ y_ : List (S101), y_ = (y506 ++ [(⟨2, a0_1, (⟨#[]⟩ : ByteArray)⟩ : S101)]) := ⟨_, rfl⟩
    replace H : ((quic_Put.f k y509).bind fun bt512 => (some bt512.1)) = some r := by first | (rw [hy509]; with_reducible exact H) | (have H2_ := (Option.bind_some _ _).symm.trans H; rw [hy509]; with_reducible exact H2_) | (have H2_ := (Option.bind_some _ _).symm.trans H; with_reducible exact H2_) | with_reducible exact H | (rw [hy509]; exact H) | exact H
    have Ny509 := Aside0.mk hy509
    clear hy509
    replace H := Option.bind_eq_some_iff.mp H
    obtain ⟨⟨t512, t513⟩, A60, H⟩ := H
    replace H : (some t512) = some r := H
    have A6 := Aside0.mk A60
    clear A60
    obtain rfl := Option.some.inj H
    go_enter Tryz.func68, Tryz.ntmps68
    go_wp2_with (first | ((with_reducible refine gate_dst (N := 1) rfl ?_); refine box_event ?hg (N := 1) ?hd (cs := #[.int .i64 a0_0, .int .i64 a0_1, .string a0_2]) (t := 37) ?hr ?_; (case hd => rfl); (case hg => rfl); (case hr => first | (go_simp; done) | (go_simp; rfl)); intro gb504 hg w7 hbox hb; have n0_ := Aside0.mk (below_step (bwA) hb); have n1_ := Aside0.mk (hbox); have n2_ := Aside0.mk ((by rw [hg]; exact (below_size (bwA)) : w.heap.size ≤ gb504)); have n3_ := Aside0.mk ((by rw [hg]; exact (below_size (bwA)) : w.heap.size ≤ gb504)); clear HB; have HB := n0_; have BK504 := n1_; have GW504 := n2_; have GE504 := n3_; clear n0_ n1_ n2_ n3_; clear hb hbox hg; have hcz8_0 : w7.cell? ⟨gb504, 0, none⟩ = some (.int .i64 a0_0) := (blk_cell BK504.out 0).trans rfl; have hcz8_1 : w7.cell? ⟨gb504, 1, none⟩ = some (.int .i64 a0_1) := (blk_cell BK504.out 1).trans rfl; have hcz8_2 : w7.cell? ⟨gb504, 2, none⟩ = some (.string a0_2) := (blk_cell BK504.out 2).trans rfl; have hfz8_0 := blk_frozen BK504.out 0; have hfz8_1 := blk_frozen BK504.out 1; have hfz8_2 := blk_frozen BK504.out 2) | ((with_reducible refine gate_callee (f := 52) rfl ?_); refine goesA (some 7) Tryz.func52 #[.agg #[.int .i64 a0_0, .int .i64 a0_1, .string a0_2]] ?_; (with_reducible refine (value_Check.calls a0_0 a0_1 a0_2 true _ ?side1 A2.out).mono ?_); (case side1 => exact Tabs.below HT.out (bwA)); rintro e w9 ⟨rfl, hb⟩; refine ⟨_, rfl, ?_⟩; have n0_ := Aside0.mk (blk_below (g := gb504) (o := .cells #[.int .i64 a0_0, .int .i64 a0_1, .string a0_2] 37 (0, 0)) blkA hb); have n1_ := Aside0.mk (below_step (bwA) hb); clear BK504; clear HB; have BK504 := n0_; have HB := n1_; clear n0_ n1_; (try clear hb); (try clear hb2); (try clear hk); (try clear hi); have hcz10_0 : w9.cell? ⟨gb504, 0, none⟩ = some (.int .i64 a0_0) := (blk_cell BK504.out 0).trans rfl; have hcz10_1 : w9.cell? ⟨gb504, 1, none⟩ = some (.int .i64 a0_1) := (blk_cell BK504.out 1).trans rfl; have hcz10_2 : w9.cell? ⟨gb504, 2, none⟩ = some (.string a0_2) := (blk_cell BK504.out 2).trans rfl; have hfz10_0 := blk_frozen BK504.out 0; have hfz10_1 := blk_frozen BK504.out 1; have hfz10_2 := blk_frozen BK504.out 2) | ((with_reducible refine gate_dst (N := 12) rfl ?_); refine Kd.R_lit k101 _ 101 ?hg (N := 12) ?hd (xs := ([(⟨1, a0_0, (⟨#[]⟩ : ByteArray)⟩ : S101)] : List (S101))) (inner := [.int .i64 1, .int .i64 a0_0, .string (⟨#[]⟩ : ByteArray)]) (ok := fun _ => True) (okp := fun _ => True) ?hr ?hp (fun _ hk => hk) trivial (Below.refl _ _) (Nat.le_refl _) (by simp) ?_; (case hd => rfl); (case hg => rfl); (case hr => first | (go_simp; done) | (go_simp; rfl)); (case hp => exact (Reps.c3 (show Kd.M k101 _ _ _ (⟨1, a0_0, (⟨#[]⟩ : ByteArray)⟩ : S101) [.int .i64 1, .int .i64 a0_0, .string (⟨#[]⟩ : ByteArray)] from (k101_mkM _ _ _ (⟨1, a0_0, (⟨#[]⟩ : ByteArray)⟩ : S101) )) (Reps.none _ _))); intro v507 w11 ho12 hb hg_ hnew_; clear hg_ hnew_; (first | rw [← Ny506.out] at ho12 | (simp only [Int.reduceToNat] at ho12; rw [← Ny506.out] at ho12)); have n0_ := Aside0.mk (Kd.R_lower ho12 (below_size (bwA))); have n1_ := Aside0.mk (blk_below (g := gb504) (o := .cells #[.int .i64 a0_0, .int .i64 a0_1, .string a0_2] 37 (0, 0)) blkA hb); have n2_ := Aside0.mk (below_step (bwA) hb); clear BK504; clear HB; have HO508 := n0_; have BK504 := n1_; have HB := n2_; clear n0_ n1_ n2_; clear hb ho12; have hcz13_0 : w11.cell? ⟨gb504, 0, none⟩ = some (.int .i64 a0_0) := (blk_cell BK504.out 0).trans rfl; have hcz13_1 : w11.cell? ⟨gb504, 1, none⟩ = some (.int .i64 a0_1) := (blk_cell BK504.out 1).trans rfl; have hcz13_2 : w11.cell? ⟨gb504, 2, none⟩ = some (.string a0_2) := (blk_cell BK504.out 2).trans rfl; have hfz13_0 := blk_frozen BK504.out 0; have hfz13_1 := blk_frozen BK504.out 1; have hfz13_2 := blk_frozen BK504.out 2) | ((with_reducible refine gate_builtin (b := .append) (xs := #[.tmp 23, .tmp 27]) rfl ?_); at_builtin; refine Kd.R_append k101 (w0 := w) w.heap.size rfl (.tmp 23) (.tmp 27) 97 101 (.agg #[(.int .i64 0), (.int .i64 0), (.string ⟨#[]⟩)]) 32 rfl Tryz.underlying97 info101 rfl (by decide) (by omega) v507 y506 (⟨2, a0_1, (⟨#[]⟩ : ByteArray)⟩ : S101) [.int .i64 2, .int .i64 a0_1, .string (⟨#[]⟩ : ByteArray)] (fun _ => True) (fun _ => False) rfl rfl ?aP (fun _ hk => hk.elim) ?aF ?aO ?aB ?aS ?aL ?_; (case aP => exact k101_mkM _ _ _ (⟨2, a0_1, (⟨#[]⟩ : ByteArray)⟩ : S101)); (case aB => exact (bwA)); (case aF => exact (fun _ _ => trivial)); (case aO => exact (by (with_reducible repeat (first | apply Kd.R_alloc | apply Kd.R_drewN | apply Kd.R_drew)); exact HO508.out)); (case aS => exact (below_size (bwA))); (case aL => have := LMc5.out; omega); intro v510 w14 ho hb hg hat; rw [← Ny509.out] at ho; have n0_ := Aside0.mk (blk_grown (g := gb504) (o := .cells #[.int .i64 a0_0, .int .i64 a0_1, .string a0_2] 37 (0, 0)) blkA hg (Kd.R_ne HO508.out BK504.out (by decide))); have n1_ := Aside0.mk (hb); have n2_ := Aside0.mk (ho); clear BK504; clear HB; clear HO508; have BK504 := n0_; have HB := n1_; have HO511 := n2_; clear n0_ n1_ n2_; clear ho hb hg hat; obtain ⟨Ao15, co15, eo15⟩ := Kd.R_slice HO511.out; subst eo15) | ((with_reducible refine gate_callee (f := 65) rfl ?_); refine goesA (some 39) Tryz.func65 #[.slice Ao15 y509.length co15] ?_; (with_reducible refine (quic_Put.calls k _ _ y509 t512 t513 _ ?side1 ?side2 A6.out).mono ?_); (case side1 => repeat (first | exact (Kd.R_reads' HO511.out).2.2 | (with_reducible refine Kd.C_alloc ?_ _) | (with_reducible refine Kd.C_drewN ?_ _) | (with_reducible refine Kd.C_drew ?_))); (case side2 => exact (Kd.R_reads' HO511.out).2.1); rintro e w16 ⟨rfl, hb⟩; refine ⟨_, rfl, ?_⟩; have n0_ := Aside0.mk (Kd.R_below (by (with_reducible repeat (first | apply Kd.R_alloc | apply Kd.R_drewN | apply Kd.R_drew)); exact HO511.out) hb); have n1_ := Aside0.mk (blk_below (g := gb504) (o := .cells #[.int .i64 a0_0, .int .i64 a0_1, .string a0_2] 37 (0, 0)) blkA hb); have n2_ := Aside0.mk (below_step (bwA) hb); clear HO511; clear BK504; clear HB; have HO511 := n0_; have BK504 := n1_; have HB := n2_; clear n0_ n1_ n2_; (try clear hb); (try clear hb2); (try clear hk); (try clear hi)))
    go_ret
    exact ⟨endA, bwA⟩
   ·rw [if_neg c5] at H
    exact absurd H (by simp)
  ·rw [if_neg c4] at H
   have c4b0 : (a0_0 == 1) = false := beq_eq_false_iff_ne.mpr c4
   have c4b1 : (a0_0 != 1) = true := bne_iff_ne.mpr c4
   by_cases c17 : a0_0 = 3
   ·rw [if_pos c17] at H
    have c17b0 : (a0_0 == 3) = true := beq_iff_eq.mpr c17
    have c17b1 : (a0_0 != 3) = false := bne_eq_false_iff_eq.mpr c17
    clear c17
    by_cases c18 : y506.length < 4398046511104
    ·rw [if_pos c18] at H
     have LMc18 := Aside0.mk c18
     clear c18
     obtain ⟨y514, hy514⟩ : ∃ y_ : List (S101), y_ = (y506 ++ [(⟨3, a0_1, (⟨#[]⟩ : ByteArray)⟩ : S101)]) := ⟨_, rfl⟩
     replace H : ((quic_Put.f k y514).bind fun bt517 => (some bt517.1)) = some r := by first | (rw [hy514]; with_reducible exact H) | (have H2_ := (Option.bind_some _ _).symm.trans H; rw [hy514]; with_reducible exact H2_) | (have H2_ := (Option.bind_some _ _).symm.trans H; with_reducible exact H2_) | with_reducible exact H | (rw [hy514]; exact H) | exact H
     have Ny514 := Aside0.mk hy514
     clear hy514
     replace H := Option.bind_eq_some_iff.mp H
     obtain ⟨⟨t517, t518⟩, A190, H⟩ := H
     replace H : (some t517) = some r := H
     have A19 := Aside0.mk A190
     clear A190
     obtain rfl := Option.some.inj H
     go_enter Tryz.func68, Tryz.ntmps68
     go_wp2_with (first | ((with_reducible refine gate_dst (N := 1) rfl ?_); refine box_event ?hg (N := 1) ?hd (cs := #[.int .i64 a0_0, .int .i64 a0_1, .string a0_2]) (t := 37) ?hr ?_; (case hd => rfl); (case hg => rfl); (case hr => first | (go_simp; done) | (go_simp; rfl)); intro gb504 hg w20 hbox hb; have n0_ := Aside0.mk (below_step (bwA) hb); have n1_ := Aside0.mk (hbox); have n2_ := Aside0.mk ((by rw [hg]; exact (below_size (bwA)) : w.heap.size ≤ gb504)); have n3_ := Aside0.mk ((by rw [hg]; exact (below_size (bwA)) : w.heap.size ≤ gb504)); clear HB; have HB := n0_; have BK504 := n1_; have GW504 := n2_; have GE504 := n3_; clear n0_ n1_ n2_ n3_; clear hb hbox hg; have hcz21_0 : w20.cell? ⟨gb504, 0, none⟩ = some (.int .i64 a0_0) := (blk_cell BK504.out 0).trans rfl; have hcz21_1 : w20.cell? ⟨gb504, 1, none⟩ = some (.int .i64 a0_1) := (blk_cell BK504.out 1).trans rfl; have hcz21_2 : w20.cell? ⟨gb504, 2, none⟩ = some (.string a0_2) := (blk_cell BK504.out 2).trans rfl; have hfz21_0 := blk_frozen BK504.out 0; have hfz21_1 := blk_frozen BK504.out 1; have hfz21_2 := blk_frozen BK504.out 2) | ((with_reducible refine gate_callee (f := 52) rfl ?_); refine goesA (some 7) Tryz.func52 #[.agg #[.int .i64 a0_0, .int .i64 a0_1, .string a0_2]] ?_; (with_reducible refine (value_Check.calls a0_0 a0_1 a0_2 true _ ?side1 A2.out).mono ?_); (case side1 => exact Tabs.below HT.out (bwA)); rintro e w22 ⟨rfl, hb⟩; refine ⟨_, rfl, ?_⟩; have n0_ := Aside0.mk (blk_below (g := gb504) (o := .cells #[.int .i64 a0_0, .int .i64 a0_1, .string a0_2] 37 (0, 0)) blkA hb); have n1_ := Aside0.mk (below_step (bwA) hb); clear BK504; clear HB; have BK504 := n0_; have HB := n1_; clear n0_ n1_; (try clear hb); (try clear hb2); (try clear hk); (try clear hi); have hcz23_0 : w22.cell? ⟨gb504, 0, none⟩ = some (.int .i64 a0_0) := (blk_cell BK504.out 0).trans rfl; have hcz23_1 : w22.cell? ⟨gb504, 1, none⟩ = some (.int .i64 a0_1) := (blk_cell BK504.out 1).trans rfl; have hcz23_2 : w22.cell? ⟨gb504, 2, none⟩ = some (.string a0_2) := (blk_cell BK504.out 2).trans rfl; have hfz23_0 := blk_frozen BK504.out 0; have hfz23_1 := blk_frozen BK504.out 1; have hfz23_2 := blk_frozen BK504.out 2) | ((with_reducible refine gate_dst (N := 12) rfl ?_); refine Kd.R_lit k101 _ 101 ?hg (N := 12) ?hd (xs := ([(⟨1, a0_0, (⟨#[]⟩ : ByteArray)⟩ : S101)] : List (S101))) (inner := [.int .i64 1, .int .i64 a0_0, .string (⟨#[]⟩ : ByteArray)]) (ok := fun _ => True) (okp := fun _ => True) ?hr ?hp (fun _ hk => hk) trivial (Below.refl _ _) (Nat.le_refl _) (by simp) ?_; (case hd => rfl); (case hg => rfl); (case hr => first | (go_simp; done) | (go_simp; rfl)); (case hp => exact (Reps.c3 (show Kd.M k101 _ _ _ (⟨1, a0_0, (⟨#[]⟩ : ByteArray)⟩ : S101) [.int .i64 1, .int .i64 a0_0, .string (⟨#[]⟩ : ByteArray)] from (k101_mkM _ _ _ (⟨1, a0_0, (⟨#[]⟩ : ByteArray)⟩ : S101) )) (Reps.none _ _))); intro v507 w24 ho25 hb hg_ hnew_; clear hg_ hnew_; (first | rw [← Ny506.out] at ho25 | (simp only [Int.reduceToNat] at ho25; rw [← Ny506.out] at ho25)); have n0_ := Aside0.mk (Kd.R_lower ho25 (below_size (bwA))); have n1_ := Aside0.mk (blk_below (g := gb504) (o := .cells #[.int .i64 a0_0, .int .i64 a0_1, .string a0_2] 37 (0, 0)) blkA hb); have n2_ := Aside0.mk (below_step (bwA) hb); clear BK504; clear HB; have HO508 := n0_; have BK504 := n1_; have HB := n2_; clear n0_ n1_ n2_; clear hb ho25; have hcz26_0 : w24.cell? ⟨gb504, 0, none⟩ = some (.int .i64 a0_0) := (blk_cell BK504.out 0).trans rfl; have hcz26_1 : w24.cell? ⟨gb504, 1, none⟩ = some (.int .i64 a0_1) := (blk_cell BK504.out 1).trans rfl; have hcz26_2 : w24.cell? ⟨gb504, 2, none⟩ = some (.string a0_2) := (blk_cell BK504.out 2).trans rfl; have hfz26_0 := blk_frozen BK504.out 0; have hfz26_1 := blk_frozen BK504.out 1; have hfz26_2 := blk_frozen BK504.out 2) | ((with_reducible refine gate_builtin (b := .append) (xs := #[.tmp 31, .tmp 35]) rfl ?_); at_builtin; refine Kd.R_append k101 (w0 := w) w.heap.size rfl (.tmp 31) (.tmp 35) 97 101 (.agg #[(.int .i64 0), (.int .i64 0), (.string ⟨#[]⟩)]) 32 rfl Tryz.underlying97 info101 rfl (by decide) (by omega) v507 y506 (⟨3, a0_1, (⟨#[]⟩ : ByteArray)⟩ : S101) [.int .i64 3, .int .i64 a0_1, .string (⟨#[]⟩ : ByteArray)] (fun _ => True) (fun _ => False) rfl rfl ?aP (fun _ hk => hk.elim) ?aF ?aO ?aB ?aS ?aL ?_; (case aP => exact k101_mkM _ _ _ (⟨3, a0_1, (⟨#[]⟩ : ByteArray)⟩ : S101)); (case aB => exact (bwA)); (case aF => exact (fun _ _ => trivial)); (case aO => exact (by (with_reducible repeat (first | apply Kd.R_alloc | apply Kd.R_drewN | apply Kd.R_drew)); exact HO508.out)); (case aS => exact (below_size (bwA))); (case aL => have := LMc18.out; omega); intro v515 w27 ho hb hg hat; rw [← Ny514.out] at ho; have n0_ := Aside0.mk (blk_grown (g := gb504) (o := .cells #[.int .i64 a0_0, .int .i64 a0_1, .string a0_2] 37 (0, 0)) blkA hg (Kd.R_ne HO508.out BK504.out (by decide))); have n1_ := Aside0.mk (hb); have n2_ := Aside0.mk (ho); clear BK504; clear HB; clear HO508; have BK504 := n0_; have HB := n1_; have HO516 := n2_; clear n0_ n1_ n2_; clear ho hb hg hat; obtain ⟨Ao28, co28, eo28⟩ := Kd.R_slice HO516.out; subst eo28) | ((with_reducible refine gate_callee (f := 65) rfl ?_); refine goesA (some 39) Tryz.func65 #[.slice Ao28 y514.length co28] ?_; (with_reducible refine (quic_Put.calls k _ _ y514 t517 t518 _ ?side1 ?side2 A19.out).mono ?_); (case side1 => repeat (first | exact (Kd.R_reads' HO516.out).2.2 | (with_reducible refine Kd.C_alloc ?_ _) | (with_reducible refine Kd.C_drewN ?_ _) | (with_reducible refine Kd.C_drew ?_))); (case side2 => exact (Kd.R_reads' HO516.out).2.1); rintro e w29 ⟨rfl, hb⟩; refine ⟨_, rfl, ?_⟩; have n0_ := Aside0.mk (Kd.R_below (by (with_reducible repeat (first | apply Kd.R_alloc | apply Kd.R_drewN | apply Kd.R_drew)); exact HO516.out) hb); have n1_ := Aside0.mk (blk_below (g := gb504) (o := .cells #[.int .i64 a0_0, .int .i64 a0_1, .string a0_2] 37 (0, 0)) blkA hb); have n2_ := Aside0.mk (below_step (bwA) hb); clear HO516; clear BK504; clear HB; have HO516 := n0_; have BK504 := n1_; have HB := n2_; clear n0_ n1_ n2_; (try clear hb); (try clear hb2); (try clear hk); (try clear hi)))
     go_ret
     exact ⟨endA, bwA⟩
    ·rw [if_neg c18] at H
     exact absurd H (by simp)
   ·rw [if_neg c17] at H
    have c17b0 : (a0_0 == 3) = false := beq_eq_false_iff_ne.mpr c17
    have c17b1 : (a0_0 != 3) = true := bne_iff_ne.mpr c17
    by_cases c30 : y506.length < 4398046511104
    ·rw [if_pos c30] at H
     have LMc30 := Aside0.mk c30
     clear c30
     obtain ⟨y519, hy519⟩ : ∃ y_ : List (S101), y_ = (y506 ++ [(⟨4, 0, a0_2⟩ : S101)]) := ⟨_, rfl⟩
     replace H : ((quic_Put.f k y519).bind fun bt522 => (some bt522.1)) = some r := by first | (rw [hy519]; with_reducible exact H) | (have H2_ := (Option.bind_some _ _).symm.trans H; rw [hy519]; with_reducible exact H2_) | (have H2_ := (Option.bind_some _ _).symm.trans H; with_reducible exact H2_) | with_reducible exact H | (rw [hy519]; exact H) | exact H
     have Ny519 := Aside0.mk hy519
     clear hy519
     replace H := Option.bind_eq_some_iff.mp H
     obtain ⟨⟨t522, t523⟩, A310, H⟩ := H
     replace H : (some t522) = some r := H
     have A31 := Aside0.mk A310
     clear A310
     obtain rfl := Option.some.inj H
     go_enter Tryz.func68, Tryz.ntmps68
     go_wp2_with (first | ((with_reducible refine gate_dst (N := 1) rfl ?_); refine box_event ?hg (N := 1) ?hd (cs := #[.int .i64 a0_0, .int .i64 a0_1, .string a0_2]) (t := 37) ?hr ?_; (case hd => rfl); (case hg => rfl); (case hr => first | (go_simp; done) | (go_simp; rfl)); intro gb504 hg w32 hbox hb; have n0_ := Aside0.mk (below_step (bwA) hb); have n1_ := Aside0.mk (hbox); have n2_ := Aside0.mk ((by rw [hg]; exact (below_size (bwA)) : w.heap.size ≤ gb504)); have n3_ := Aside0.mk ((by rw [hg]; exact (below_size (bwA)) : w.heap.size ≤ gb504)); clear HB; have HB := n0_; have BK504 := n1_; have GW504 := n2_; have GE504 := n3_; clear n0_ n1_ n2_ n3_; clear hb hbox hg; have hcz33_0 : w32.cell? ⟨gb504, 0, none⟩ = some (.int .i64 a0_0) := (blk_cell BK504.out 0).trans rfl; have hcz33_1 : w32.cell? ⟨gb504, 1, none⟩ = some (.int .i64 a0_1) := (blk_cell BK504.out 1).trans rfl; have hcz33_2 : w32.cell? ⟨gb504, 2, none⟩ = some (.string a0_2) := (blk_cell BK504.out 2).trans rfl; have hfz33_0 := blk_frozen BK504.out 0; have hfz33_1 := blk_frozen BK504.out 1; have hfz33_2 := blk_frozen BK504.out 2) | ((with_reducible refine gate_callee (f := 52) rfl ?_); refine goesA (some 7) Tryz.func52 #[.agg #[.int .i64 a0_0, .int .i64 a0_1, .string a0_2]] ?_; (with_reducible refine (value_Check.calls a0_0 a0_1 a0_2 true _ ?side1 A2.out).mono ?_); (case side1 => exact Tabs.below HT.out (bwA)); rintro e w34 ⟨rfl, hb⟩; refine ⟨_, rfl, ?_⟩; have n0_ := Aside0.mk (blk_below (g := gb504) (o := .cells #[.int .i64 a0_0, .int .i64 a0_1, .string a0_2] 37 (0, 0)) blkA hb); have n1_ := Aside0.mk (below_step (bwA) hb); clear BK504; clear HB; have BK504 := n0_; have HB := n1_; clear n0_ n1_; (try clear hb); (try clear hb2); (try clear hk); (try clear hi); have hcz35_0 : w34.cell? ⟨gb504, 0, none⟩ = some (.int .i64 a0_0) := (blk_cell BK504.out 0).trans rfl; have hcz35_1 : w34.cell? ⟨gb504, 1, none⟩ = some (.int .i64 a0_1) := (blk_cell BK504.out 1).trans rfl; have hcz35_2 : w34.cell? ⟨gb504, 2, none⟩ = some (.string a0_2) := (blk_cell BK504.out 2).trans rfl; have hfz35_0 := blk_frozen BK504.out 0; have hfz35_1 := blk_frozen BK504.out 1; have hfz35_2 := blk_frozen BK504.out 2) | ((with_reducible refine gate_dst (N := 12) rfl ?_); refine Kd.R_lit k101 _ 101 ?hg (N := 12) ?hd (xs := ([(⟨1, a0_0, (⟨#[]⟩ : ByteArray)⟩ : S101)] : List (S101))) (inner := [.int .i64 1, .int .i64 a0_0, .string (⟨#[]⟩ : ByteArray)]) (ok := fun _ => True) (okp := fun _ => True) ?hr ?hp (fun _ hk => hk) trivial (Below.refl _ _) (Nat.le_refl _) (by simp) ?_; (case hd => rfl); (case hg => rfl); (case hr => first | (go_simp; done) | (go_simp; rfl)); (case hp => exact (Reps.c3 (show Kd.M k101 _ _ _ (⟨1, a0_0, (⟨#[]⟩ : ByteArray)⟩ : S101) [.int .i64 1, .int .i64 a0_0, .string (⟨#[]⟩ : ByteArray)] from (k101_mkM _ _ _ (⟨1, a0_0, (⟨#[]⟩ : ByteArray)⟩ : S101) )) (Reps.none _ _))); intro v507 w36 ho37 hb hg_ hnew_; clear hg_ hnew_; (first | rw [← Ny506.out] at ho37 | (simp only [Int.reduceToNat] at ho37; rw [← Ny506.out] at ho37)); have n0_ := Aside0.mk (Kd.R_lower ho37 (below_size (bwA))); have n1_ := Aside0.mk (blk_below (g := gb504) (o := .cells #[.int .i64 a0_0, .int .i64 a0_1, .string a0_2] 37 (0, 0)) blkA hb); have n2_ := Aside0.mk (below_step (bwA) hb); clear BK504; clear HB; have HO508 := n0_; have BK504 := n1_; have HB := n2_; clear n0_ n1_ n2_; clear hb ho37; have hcz38_0 : w36.cell? ⟨gb504, 0, none⟩ = some (.int .i64 a0_0) := (blk_cell BK504.out 0).trans rfl; have hcz38_1 : w36.cell? ⟨gb504, 1, none⟩ = some (.int .i64 a0_1) := (blk_cell BK504.out 1).trans rfl; have hcz38_2 : w36.cell? ⟨gb504, 2, none⟩ = some (.string a0_2) := (blk_cell BK504.out 2).trans rfl; have hfz38_0 := blk_frozen BK504.out 0; have hfz38_1 := blk_frozen BK504.out 1; have hfz38_2 := blk_frozen BK504.out 2) | ((with_reducible refine gate_builtin (b := .append) (xs := #[.tmp 15, .tmp 19]) rfl ?_); at_builtin; refine Kd.R_append k101 (w0 := w) w.heap.size rfl (.tmp 15) (.tmp 19) 97 101 (.agg #[(.int .i64 0), (.int .i64 0), (.string ⟨#[]⟩)]) 32 rfl Tryz.underlying97 info101 rfl (by decide) (by omega) v507 y506 (⟨4, 0, a0_2⟩ : S101) [.int .i64 4, .int .i64 0, .string a0_2] (fun _ => True) (fun _ => False) rfl rfl ?aP (fun _ hk => hk.elim) ?aF ?aO ?aB ?aS ?aL ?_; (case aP => exact k101_mkM _ _ _ (⟨4, 0, a0_2⟩ : S101)); (case aB => exact (bwA)); (case aF => exact (fun _ _ => trivial)); (case aO => exact (by (with_reducible repeat (first | apply Kd.R_alloc | apply Kd.R_drewN | apply Kd.R_drew)); exact HO508.out)); (case aS => exact (below_size (bwA))); (case aL => have := LMc30.out; omega); intro v520 w39 ho hb hg hat; rw [← Ny519.out] at ho; have n0_ := Aside0.mk (blk_grown (g := gb504) (o := .cells #[.int .i64 a0_0, .int .i64 a0_1, .string a0_2] 37 (0, 0)) blkA hg (Kd.R_ne HO508.out BK504.out (by decide))); have n1_ := Aside0.mk (hb); have n2_ := Aside0.mk (ho); clear BK504; clear HB; clear HO508; have BK504 := n0_; have HB := n1_; have HO521 := n2_; clear n0_ n1_ n2_; clear ho hb hg hat; obtain ⟨Ao40, co40, eo40⟩ := Kd.R_slice HO521.out; subst eo40) | ((with_reducible refine gate_callee (f := 65) rfl ?_); refine goesA (some 39) Tryz.func65 #[.slice Ao40 y519.length co40] ?_; (with_reducible refine (quic_Put.calls k _ _ y519 t522 t523 _ ?side1 ?side2 A31.out).mono ?_); (case side1 => repeat (first | exact (Kd.R_reads' HO521.out).2.2 | (with_reducible refine Kd.C_alloc ?_ _) | (with_reducible refine Kd.C_drewN ?_ _) | (with_reducible refine Kd.C_drew ?_))); (case side2 => exact (Kd.R_reads' HO521.out).2.1); rintro e w41 ⟨rfl, hb⟩; refine ⟨_, rfl, ?_⟩; have n0_ := Aside0.mk (Kd.R_below (by (with_reducible repeat (first | apply Kd.R_alloc | apply Kd.R_drewN | apply Kd.R_drew)); exact HO521.out) hb); have n1_ := Aside0.mk (blk_below (g := gb504) (o := .cells #[.int .i64 a0_0, .int .i64 a0_1, .string a0_2] 37 (0, 0)) blkA hb); have n2_ := Aside0.mk (below_step (bwA) hb); clear HO521; clear BK504; clear HB; have HO521 := n0_; have BK504 := n1_; have HB := n2_; clear n0_ n1_ n2_; (try clear hb); (try clear hb2); (try clear hk); (try clear hi)))
     go_ret
     exact ⟨endA, bwA⟩
    ·rw [if_neg c30] at H
     exact absurd H (by simp)
 ·replace c3 := Bool.eq_false_iff.mpr c3
  subst c3
  have H1 : (some (⟨#[]⟩ : ByteArray)) = some r := by rw [if_neg (show ¬ (false = true) by decide)] at H; exact H
  clear H
  have H := H1
  clear H1
  obtain rfl := Option.some.inj H
  go_enter Tryz.func68, Tryz.ntmps68
  go_wp2_with (first | ((with_reducible refine gate_dst (N := 1) rfl ?_); refine box_event ?hg (N := 1) ?hd (cs := #[.int .i64 a0_0, .int .i64 a0_1, .string a0_2]) (t := 37) ?hr ?_; (case hd => rfl); (case hg => rfl); (case hr => first | (go_simp; done) | (go_simp; rfl)); intro gb504 hg w42 hbox hb; have n0_ := Aside0.mk (below_step (bwA) hb); have n1_ := Aside0.mk (hbox); have n2_ := Aside0.mk ((by rw [hg]; exact (below_size (bwA)) : w.heap.size ≤ gb504)); have n3_ := Aside0.mk ((by rw [hg]; exact (below_size (bwA)) : w.heap.size ≤ gb504)); clear HB; have HB := n0_; have BK504 := n1_; have GW504 := n2_; have GE504 := n3_; clear n0_ n1_ n2_ n3_; clear hb hbox hg; have hcz43_0 : w42.cell? ⟨gb504, 0, none⟩ = some (.int .i64 a0_0) := (blk_cell BK504.out 0).trans rfl; have hcz43_1 : w42.cell? ⟨gb504, 1, none⟩ = some (.int .i64 a0_1) := (blk_cell BK504.out 1).trans rfl; have hcz43_2 : w42.cell? ⟨gb504, 2, none⟩ = some (.string a0_2) := (blk_cell BK504.out 2).trans rfl; have hfz43_0 := blk_frozen BK504.out 0; have hfz43_1 := blk_frozen BK504.out 1; have hfz43_2 := blk_frozen BK504.out 2) | ((with_reducible refine gate_callee (f := 52) rfl ?_); refine goesA (some 7) Tryz.func52 #[.agg #[.int .i64 a0_0, .int .i64 a0_1, .string a0_2]] ?_; (with_reducible refine (value_Check.calls a0_0 a0_1 a0_2 false _ ?side1 A2.out).mono ?_); (case side1 => exact Tabs.below HT.out (bwA)); rintro e w44 ⟨rfl, hb⟩; refine ⟨_, rfl, ?_⟩; have n0_ := Aside0.mk (blk_below (g := gb504) (o := .cells #[.int .i64 a0_0, .int .i64 a0_1, .string a0_2] 37 (0, 0)) blkA hb); have n1_ := Aside0.mk (below_step (bwA) hb); clear BK504; clear HB; have BK504 := n0_; have HB := n1_; clear n0_ n1_; (try clear hb); (try clear hb2); (try clear hk); (try clear hi)))
  go_ret
  exact ⟨endA, bwA⟩

/-! ### schema_AttrText: function 30, by hand -/
theorem vput4 {w : World} {g : Nat} {T : TypeId} {x y z u : Value} (h : w.heap[g]? = some (.cells #[x, y, z, u] T (0, 0))) (a b c d : Value) :
  ((((w.setCell ⟨g, 0, none⟩ a).setCell ⟨g, 1, none⟩ b).setCell ⟨g, 2, none⟩ c).setCell ⟨g, 3, none⟩ d).heap[g]? = some (.cells #[a, b, c, d] T (0, 0)) :=
 blk_put (blk_put (blk_put (blk_put h 0 a rfl) 1 b rfl) 2 c rfl) 3 d rfl
theorem bput4 {w W : World} {g B : Nat} (h : Below B w W) (hg : B ≤ g) (a b c d : Value) : Below B w ((((W.setCell ⟨g, 0, none⟩ a).setCell ⟨g, 1, none⟩ b).setCell ⟨g, 2, none⟩ c).setCell ⟨g, 3, none⟩ d) :=
 (((h.setCell (p := ⟨g, 0, none⟩) hg a).setCell (p := ⟨g, 1, none⟩) hg b).setCell (p := ⟨g, 2, none⟩) hg c).setCell (p := ⟨g, 3, none⟩) hg d
def schema_AttrText.go (k : Nat) : List S44 → List UInt8 → Option ByteArray
 | [], acc => some ⟨acc.toArray⟩
 | x :: l, acc => (quic_Num.f k (x.f0.size : Int)).bind fun t => (value_Text.f k x.f1.f0 x.f1.f1 x.f1.f2).bind fun u => if acc.length + (t.size + x.f0.size + u.size) ≤ 140737488355328 then schema_AttrText.go k l (acc ++ ((t ++ x.f0) ++ u).data.toList) else none
def schema_AttrText.f (k : Nat) (l0 : List S44) : Option ByteArray := (schema_Attrs.f k l0).bind fun t => if t = true then ((quic_Num.f k (l0.length : Int)).bind fun u => if u.size ≤ 140737488355328 then schema_AttrText.go k l0 u.data.toList else none) else some ⟨#[]⟩
theorem schema_AttrText.mono_go (k : Nat) : ∀ l acc, LeO (schema_AttrText.go k l acc) (schema_AttrText.go (k + 1) l acc)
 | [], acc => LeO.refl _
 | x :: l, acc => by
  unfold schema_AttrText.go
  repeat' first
   | (with_reducible exact LeO.refl _)
   | (with_reducible exact LeO.none _)
   | (with_reducible exact quic_Num.mono _ _)
   | (with_reducible exact value_Text.mono _ _ _ _)
   | exact schema_AttrText.mono_go k l _
   | (with_reducible refine LeO.ite ?_ ?_)
   | (with_reducible refine LeO.bind ?_ (fun _ => ?_))
theorem schema_AttrText.mono : ∀ a0 k, LeO (schema_AttrText.f k a0) (schema_AttrText.f (k + 1) a0) := by
 intro a0 k
 unfold schema_AttrText.f
 repeat' first
  | (with_reducible exact schema_Attrs.mono _ _)
  | (with_reducible exact quic_Num.mono _ _)
  | exact schema_AttrText.mono_go k a0 _
  | (with_reducible exact LeO.refl _)
  | (with_reducible exact LeO.none _)
  | refine LeO.ite ?_ ?_
  | refine LeO.bind ?_ (fun _ => ?_)
def schema_AttrText.T8 : Bool × List (List Nat × List Nat) := (true, [([], []), ([0], [0]), ([1], [1]), ([2], [2]), ([], []), ([4], [4]), ([3, 5], [3, 5]), ([], []), ([7], [7]), ([8, 3], [8]), ([6, 9], [6, 9]), ([10, 9], [10])])
def schema_AttrText.B8 : List Nat := [0, 1, 3, 7, 0, 16, 63, 0, 128, 399, 1023, 2047]
theorem schema_AttrText.tab8 : rtab .any (opsOf Tryz.f30 8) = schema_AttrText.T8 := by kernel_rfl
theorem schema_AttrText.bits8 : waitsOk schema_AttrText.T8.2 schema_AttrText.B8 = true := by kernel_rfl
set_option maxHeartbeats 8000000 in
set_option maxRecDepth 100000 in
theorem schema_AttrText.calls (k : Nat) (A0 : Option Addr) (c0 : Nat) (l0 : List S44) (r : ByteArray) (w : World) (hr0 : Kd.C k44 w A0 l0.length l0) (hc0 : l0.length ≤ c0) (hT : Tabs w) (h : schema_AttrText.f k l0 = some r) :
  Calls Tryz.prog 30 #[.slice A0 l0.length c0] w fun e w' => e = .returned (.string r) ∧ Below w.heap.size w w' := by
 have huA := Tryz.underlying44
 have huV := Tryz.underlying37
 unfold schema_AttrText.f at h
 obtain ⟨t, ha, h⟩ := Option.bind_eq_some_iff.1 h
 have cA := fun W (hb : Below w.heap.size w W) => schema_Attrs.calls k A0 c0 l0 t W (Kd.C_below hr0 hb) hc0 (hT.below hb) ha
 have HR := Aside0.mk hr0
 have HC := Aside0.mk hc0
 have HT := Aside0.mk hT
 clear hr0 hc0 hT ha
 cases t with
 | false =>
  rw [if_neg (by decide)] at h
  obtain rfl := Option.some.inj h
  go_enter Tryz.func30, Tryz.ntmps30
  go_wp2_with (go_at_call 22; refine (cA _ (Below.refl _ w)).mono ?_; rintro e w1 ⟨rfl, hb1⟩)
  go_ret
  exact ⟨rfl, hb1⟩
 | true =>
  rw [if_pos rfl] at h
  obtain ⟨u, hu, h⟩ := Option.bind_eq_some_iff.1 h
  by_cases hz : u.size ≤ 140737488355328
  case neg => rw [if_neg hz] at h; cases h
  rw [if_pos hz] at h
  have cN := fun W => quic_Num.calls k (l0.length : Int) u W hu
  have H := Aside0.mk h
  have HZ := Aside0.mk hz
  clear h hu hz
  go_enter Tryz.func30, Tryz.ntmps30
  go_wp2_with (first | (go_at_call 22; refine (cA _ (Below.refl _ w)).mono ?_; rintro e w1 ⟨rfl, hb1⟩) | (go_at_call 67; refine (cN _).mono ?_; rintro e w2 ⟨rfl, hb2⟩))
  have I2 := builderF_below (Lib.IsBuilderF.of (Lib.fresh_isBuilder 108 5 w1)) hb2
  have hs1 : w1.heap.size ≤ w2.heap.size := by have := hb2.size; simp at this; omega
  refine (Tryz.Bld_WriteString w1.heap.size w1.heap.size [] u _ I2 (by have := HZ.out; simp; omega) hs1).mono ?_
  rintro e W3 ⟨rfl, h1, b1, k1⟩
  have I3 : Lib.IsBuilderF 108 5 w1.heap.size w1.heap.size (Lib.byteCells u.data.toList) W3 := by rw [← strCells_mk]; exact Or.inr h1
  have hbw3 : Below w.heap.size w W3 := by
   have h2 : Below w1.heap.size w1 w2 := ((Below.refl _ w1).alloc (Nat.le_refl _) _).trans (hb2.mono (by simp))
   exact hb1.trans ((h2.trans b1).mono hb1.size)
  have hsz3 := Aside0.mk (show w1.heap.size ≤ W3.heap.size from Nat.le_trans hs1 b1.size)
  have HS1 := Aside0.mk (show w.heap.size ≤ w1.heap.size from hb1.size)
  clear I2 hs1 h1 b1 k1 hb2 hb1 cA cN
  generalize w1.heap.size = B at I3 hsz3 HS1 ⊢
  go_wp2
  go_loopw [15] (fun v15 wr => ∃ (x : Int) (acc : List UInt8), v15 = .int .i64 x ∧ Hid (0 ≤ x ∧ x ≤ (l0.length : Int)) ∧ Lib.IsBuilderF 108 5 B B (Lib.byteCells acc) wr ∧ Below w.heap.size w wr ∧ Hid (B ≤ wr.heap.size) ∧ Hid (schema_AttrText.go k (l0.drop x.toNat) acc = some r)) (fun v15 _ => l0.length - (intOf v15).toNat)
  case atStart => exact ⟨0, u.data.toList, rfl, ⟨by omega, by omega⟩, I3, hbw3, Lib.hid hsz3.out, Lib.hid H.out⟩
  case round =>
   obtain ⟨x, acc, rfl, HX, hI, hbw, HS, HG⟩ := hrel
   clear H I3 hbw3 hsz3
   have hx := HX.out
   by_cases hlt : x < (l0.length : Int)
   ·have bb1 : decide (x < (l0.length : Int)) = true := decide_eq_true hlt
    have p0 : 0 ≤ x := hx.1
    have hd : l0.drop x.toNat = rd_T44 l0 x :: l0.drop (x + 1).toNat := by
     have e : (x + 1).toNat = x.toNat + 1 := by omega
     have hn : x.toNat < l0.length := by omega
     rw [e, List.drop_eq_getElem_cons hn]
     unfold rd_T44
     rw [List.getD_eq_getElem?_getD, List.getElem?_eq_getElem hn]
     rfl
    have hgo := HG.out
    rw [hd, schema_AttrText.go] at hgo
    obtain ⟨t1, ho1, hgo⟩ := Option.bind_eq_some_iff.1 hgo
    obtain ⟨t2, ho2, hgo⟩ := Option.bind_eq_some_iff.1 hgo
    by_cases hz : acc.length + (t1.size + (rd_T44 l0 x).f0.size + t2.size) ≤ 140737488355328
    case neg => rw [if_neg hz] at hgo; cases hgo
    rw [if_pos hz] at hgo
    obtain ⟨ad, ead, hx0, hx1, hx2, hx3⟩ := at_T44 (Kd.C_below HR.out hbw) x p0 hlt
    cases ead
    have cN := fun W => quic_Num.calls k ((rd_T44 l0 x).f0.size : Int) t1 W ho1
    have cV := fun W (hb : Below w.heap.size w W) => value_Text.calls k (rd_T44 l0 x).f1.f0 (rd_T44 l0 x).f1.f1 (rd_T44 l0 x).f1.f2 t2 W (HT.out.below hb) ho2
    have HG2 := Lib.hid hgo
    have HZ2 := Lib.hid hz
    have w1 := Lib.hid (show wrap64 (x + 1) = x + 1 by unfold wrap64; have := HR.out.2.1; omega)
    have z1 : (9223372036854775807 < t1.size + (rd_T44 l0 x).f0.size) = False := eq_false (by omega)
    have z2 : (9223372036854775807 < t1.size + (rd_T44 l0 x).f0.size + t2.size) = False := eq_false (by omega)
    have z3 : (9223372036854775807 < (t1 ++ (rd_T44 l0 x).f0).size + t2.size) = False := eq_false (by rw [ByteArray.size_append]; omega)
    clear hd hgo ho1 ho2 HG HX hx hz
    have HX0 := Lib.hid (show 0 ≤ x by omega)
    have HB2 := Lib.hid (show 0 ≤ x + 1 ∧ x + 1 ≤ (l0.length : Int) by omega)
    replace p0 := eq_true p0
    replace hlt := eq_true hlt
    go_wp2_with (first | ((with_reducible refine gate_dst (N := 5) rfl ?_); refine box_event ?hg (N := 5) ?hd (cs := #[.string (⟨#[]⟩ : ByteArray), .int .i64 0, .int .i64 0, .string (⟨#[]⟩ : ByteArray)]) (t := 44) ?hr ?_; (case hd => rfl); (case hg => rfl); (case hr => first | (go_simp; done) | (go_simp; rfl)); intro gb hg w2 hbox hb; have Hg := Lib.hid hg; clear hg; have hcz := fun j => Lib.cell_of_heap hbox j; have hfz := fun j => blk_frozen hbox j; have hv4 := vput4 hbox (.string (rd_T44 l0 x).f0) (.int .i64 (rd_T44 l0 x).f1.f0) (.int .i64 (rd_T44 l0 x).f1.f1) (.string (rd_T44 l0 x).f1.f2)))
    have hb4 := bput4 hb (show _ ≤ gb by rw [Hg.out]; exact Nat.le_refl _) (.string (rd_T44 l0 x).f0) (.int .i64 (rd_T44 l0 x).f1.f0) (.int .i64 (rd_T44 l0 x).f1.f1) (.string (rd_T44 l0 x).f1.f2)
    have BK0 := Aside0.mk hv4
    have HB0 := Aside0.mk (below_step hbw hb4)
    have HI0 := Aside0.mk (builderF_below hI hb4)
    have HQ0 := Aside0.mk (Nat.le_trans HS.out hb4.size)
    clear hI hb hbw hb4 hcz hfz hv4 Hg hbox
    generalize ((((w2.setCell ⟨gb, 0, none⟩ (.string (rd_T44 l0 x).f0)).setCell ⟨gb, 1, none⟩ (.int .i64 (rd_T44 l0 x).f1.f0)).setCell ⟨gb, 2, none⟩ (.int .i64 (rd_T44 l0 x).f1.f1)).setCell ⟨gb, 3, none⟩ (.string (rd_T44 l0 x).f1.f2)) = w5 at BK0 HB0 HI0 HQ0 ⊢
    have HQ := Aside0.mk (show B ≤ w5.drew.heap.size from HQ0.out)
    have BK := Aside0.mk (blk_drew BK0.out)
    have HB := Aside0.mk (below_drew1 HB0.out)
    have HI := Aside0.mk (builderF_below HI0.out (below_drew1 (Below.refl _ w5)))
    clear BK0 HB0 HI0 HQ0
    refine start_ (n := 12) (S := fun w' => w'.cell? ⟨gb, 0, none⟩ = some (.string (rd_T44 l0 x).f0) ∧ w'.cell? ⟨gb, 1, none⟩ = some (.int .i64 (rd_T44 l0 x).f1.f0) ∧ w'.cell? ⟨gb, 2, none⟩ = some (.int .i64 (rd_T44 l0 x).f1.f1) ∧ w'.cell? ⟨gb, 3, none⟩ = some (.string (rd_T44 l0 x).f1.f2)) (ds := [11]) (mkB 12 0) (by kernel_rfl) rfl rfl ⟨(blk_cell BK.out 0).trans rfl, (blk_cell BK.out 1).trans rfl, (blk_cell BK.out 2).trans rfl, (blk_cell BK.out 3).trans rfl⟩ (fun hHeld => ?_); refine with_tabW schema_AttrText.tab8 schema_AttrText.bits8 (fun HT_ HW_ => ?_)
    generalize w5.drew = w6 at BK HB HI HQ hHeld ⊢
    refine pureA 0 (some 19) (mkB 12 1) ?_
    refine takeA 1 (some 20) (mkB 12 3) ?_ rfl (Or.inl ⟨by rfl, by rintro w' ⟨s0, s1, s2, s3⟩; go_simp; with_reducible rfl⟩)
    refine pureA 2 (some 21) (mkB 12 7) ?_
    refine pureA 4 (some 23) (mkB 12 23) ?_
    refine takeA 5 (some 24) (mkB 12 55) ?_ rfl (Or.inl ⟨by rfl, by rintro w' ⟨s0, s1, s2, s3⟩; go_simp; with_reducible rfl⟩)
    refine pureA 7 (some 26) (mkB 12 183) ?_
    refine takeA 8 (some 27) (mkB 12 439) ?_ rfl (Or.inl ⟨by rfl, by rintro w' ⟨s0, s1, s2, s3⟩; go_simp; with_reducible rfl⟩)
    refine oneA 3 (some 22) (mkB 12 447) (fun K hK => ?_)
    refine goes_ Tryz.func67 (by kernel_rfl) rfl #[.int .i64 ((rd_T44 l0 x).f0.size : Int)] (by rfl) rfl rfl (by (try simp only [List.map_toArray, List.map_cons, List.map_nil]); first | done | rfl | (simp only [List.length_drop, List.length_take]; rfl)) ?_
    refine (cN _).mono ?_
    rintro e w7 ⟨rfl, hb⟩
    refine ⟨_, rfl, ?_⟩
    have n0_ := Aside0.mk (blk_below (g := gb) (o := .cells #[.string (rd_T44 l0 x).f0, .int .i64 (rd_T44 l0 x).f1.f0, .int .i64 (rd_T44 l0 x).f1.f1, .string (rd_T44 l0 x).f1.f2] 44 (0, 0)) BK.out hb)
    have n1_ := Aside0.mk (below_step HB.out hb)
    have n2_ := Aside0.mk (builderF_below HI.out hb)
    have n3_ := Aside0.mk (Nat.le_trans HQ.out hb.size)
    clear BK HB HI HQ
    have BK := n0_
    have HB := n1_
    have HI := n2_
    have HQ := n3_
    clear n0_ n1_ n2_ n3_ hb
    refine hK.out _ _ ⟨(blk_cell BK.out 0).trans rfl, (blk_cell BK.out 1).trans rfl, (blk_cell BK.out 2).trans rfl, (blk_cell BK.out 3).trans rfl⟩ (fun hHeld => ?_)
    clear hK K
    refine normA ?_
    refine pureA 6 (some 25) (mkB 12 511) ?_
    refine oneA 9 (some 28) (mkB 12 1023) (fun K hK => ?_)
    refine goes_ Tryz.func68 (by kernel_rfl) rfl #[.agg #[.int .i64 (rd_T44 l0 x).f1.f0, .int .i64 (rd_T44 l0 x).f1.f1, .string (rd_T44 l0 x).f1.f2]] (by rfl) rfl rfl (by (try simp only [List.map_toArray, List.map_cons, List.map_nil]); first | done | rfl | (simp only [List.length_drop, List.length_take]; rfl)) ?_
    refine (cV _ HB.out).mono ?_
    rintro e w8 ⟨rfl, hb⟩
    refine ⟨_, rfl, ?_⟩
    have n0_ := Aside0.mk (blk_below (g := gb) (o := .cells #[.string (rd_T44 l0 x).f0, .int .i64 (rd_T44 l0 x).f1.f0, .int .i64 (rd_T44 l0 x).f1.f1, .string (rd_T44 l0 x).f1.f2] 44 (0, 0)) BK.out hb)
    have n1_ := Aside0.mk (below_step HB.out hb)
    have n2_ := Aside0.mk (builderF_below HI.out hb)
    have n3_ := Aside0.mk (Nat.le_trans HQ.out hb.size)
    clear BK HB HI HQ
    have BK := n0_
    have HB := n1_
    have HI := n2_
    have HQ := n3_
    clear n0_ n1_ n2_ n3_ hb
    refine hK.out _ _ ⟨(blk_cell BK.out 0).trans rfl, (blk_cell BK.out 1).trans rfl, (blk_cell BK.out 2).trans rfl, (blk_cell BK.out 3).trans rfl⟩ (fun hHeld => ?_)
    clear hK K
    refine normA ?_
    refine pureA 10 (some 29) (mkB 12 2047) ?_
    refine last_ (i := 11) (N := some 30) (mkB 12 4095) rfl rfl (one_of HT_.out (by kernel_rfl)) (by decide) (fun K hK => ?_)
    refine goes_ Tryz.func66 (by kernel_rfl) rfl #[.pointer (some ⟨B, 0, none⟩), .string ((t1 ++ (rd_T44 l0 x).f0) ++ t2)] (by rfl) rfl rfl (by (try simp only [List.map_toArray, List.map_cons, List.map_nil]); first | done | rfl | (simp only [List.length_drop, List.length_take]; rfl)) ?_
    refine (Tryz.Bld_WriteString B B _ ((t1 ++ (rd_T44 l0 x).f0) ++ t2) _ HI.out (by rw [Lib.byteCells_length, ByteArray.size_append, ByteArray.size_append]; exact HZ2.out) HQ.out).mono ?_
    rintro e W9 ⟨rfl, h1, b1, k1⟩
    refine ⟨_, rfl, ?_⟩
    refine hK.out _ _ ?_
    clear hK K
    refine normA ?_
    refine done_ (done_of HT_.out (by kernel_rfl)) ?_
    go_wp2
    go_roundw
    case rel => exact ⟨x + 1, acc ++ ((t1 ++ (rd_T44 l0 x).f0) ++ t2).data.toList, (by rw [w1.out]), HB2, (by rw [Lib.byteCells_append, ← strCells_mk]; exact Or.inr h1), HB.out.trans (b1.mono HS1.out), Lib.hid (Nat.le_trans HQ.out b1.size), HG2⟩
    case measure =>
     have e1 := w1.out
     have e2 := HB2.out
     have e3 := HX0.out
     show l0.length - (intOf (.int .i64 (wrap64 (x + 1)))).toNat < l0.length - (intOf (.int .i64 x)).toNat
     rw [e1]
     simp only [intOf]
     omega
   ·have bb1 : decide (x < (l0.length : Int)) = false := decide_eq_false hlt
    have hgo := HG.out
    rw [List.drop_of_length_le (by omega), schema_AttrText.go] at hgo
    obtain rfl := Option.some.inj hgo
    clear HG HX hx hlt hgo
    go_wp2_with fail
    refine (Tryz.Builder_String_any_k B B acc _ hI HS.out).mono ?_
    rintro e W4 ⟨rfl, _, b4, _⟩
    go_wp2
    go_ret
    exact ⟨rfl, hbw.trans (b4.mono HS1.out)⟩

/-! ### value_how: function 96 -/
def value_how.f (a0 : Int) : Option (Int) := if a0 = 1 then (some 2) else (if a0 = 3 then (some 3) else (if a0 = 2 then (some 4) else (if a0 = 4 then (some 4) else (some 0))))
set_option maxHeartbeats 8000000 in
set_option maxRecDepth 100000 in
theorem value_how.calls (a0 : Int) (r : Int) (w : World) (h : value_how.f a0 = some r) :
  Calls Tryz.prog 96 #[.int .i64 a0] w fun e w' => e = .returned (.int .i64 r) ∧ Drawn0 w w' := by
 have H : (if a0 = 1 then (some 2) else (if a0 = 3 then (some 3) else (if a0 = 2 then (some 4) else (if a0 = 4 then (some 4) else (some 0))))) = some r := h
 clear h
 by_cases c2 : a0 = 1
 ·rw [if_pos c2] at H
  have c2b0 : (a0 == 1) = true := beq_iff_eq.mpr c2
  have c2b1 : (a0 != 1) = false := bne_eq_false_iff_eq.mpr c2
  clear c2
  obtain rfl := Option.some.inj H
  go_enter Tryz.func96, Tryz.ntmps96
  go_wp2
  go_ret
  exact ⟨endS, drA⟩
 ·rw [if_neg c2] at H
  have c2b0 : (a0 == 1) = false := beq_eq_false_iff_ne.mpr c2
  have c2b1 : (a0 != 1) = true := bne_iff_ne.mpr c2
  by_cases c3 : a0 = 3
  ·rw [if_pos c3] at H
   have c3b0 : (a0 == 3) = true := beq_iff_eq.mpr c3
   have c3b1 : (a0 != 3) = false := bne_eq_false_iff_eq.mpr c3
   clear c3
   obtain rfl := Option.some.inj H
   go_enter Tryz.func96, Tryz.ntmps96
   go_wp2
   go_ret
   exact ⟨endS, drA⟩
  ·rw [if_neg c3] at H
   have c3b0 : (a0 == 3) = false := beq_eq_false_iff_ne.mpr c3
   have c3b1 : (a0 != 3) = true := bne_iff_ne.mpr c3
   by_cases c4 : a0 = 2
   ·rw [if_pos c4] at H
    have c4b0 : (a0 == 2) = true := beq_iff_eq.mpr c4
    have c4b1 : (a0 != 2) = false := bne_eq_false_iff_eq.mpr c4
    clear c4
    obtain rfl := Option.some.inj H
    go_enter Tryz.func96, Tryz.ntmps96
    go_wp2
    go_ret
    exact ⟨endS, drA⟩
   ·rw [if_neg c4] at H
    have c4b0 : (a0 == 2) = false := beq_eq_false_iff_ne.mpr c4
    have c4b1 : (a0 != 2) = true := bne_iff_ne.mpr c4
    by_cases c5 : a0 = 4
    ·rw [if_pos c5] at H
     have c5b0 : (a0 == 4) = true := beq_iff_eq.mpr c5
     have c5b1 : (a0 != 4) = false := bne_eq_false_iff_eq.mpr c5
     clear c5
     obtain rfl := Option.some.inj H
     go_enter Tryz.func96, Tryz.ntmps96
     go_wp2
     go_ret
     exact ⟨endS, drA⟩
    ·rw [if_neg c5] at H
     have c5b0 : (a0 == 4) = false := beq_eq_false_iff_ne.mpr c5
     have c5b1 : (a0 != 4) = true := bne_iff_ne.mpr c5
     obtain rfl := Option.some.inj H
     go_enter Tryz.func96, Tryz.ntmps96
     go_wp2
     go_ret
     exact ⟨endS, drA⟩

end Go.Proofs.YtnbbajiabbmdmaaGreatDoor.A
