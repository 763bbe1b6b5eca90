-- By drv.py, the session's own driver round the kit's print: the machine's side of the laws, function by function. Not trusted: Lean checks it.
import Derived.Test.YtnbbajiabbmdmaaGreatDoorAx0
import Derived.Test.YtnbbajiabbmdmaaGreatDoorAx7
import Derived.Test.YtnbbajiabbmdmaaGreatDoorAx18
import Derived.Test.YtnbbajiabbmdmaaGreatDoorAx20
namespace Go.Proofs.YtnbbajiabbmdmaaGreatDoor.A
open Go.RowKit Go.Proofs.YtnbbajiabbmdmaaGreatDoorW.PrintWords Go.Proofs.YtnbbajiabbmdmaaGreatDoorW.PrintLast Go.Proofs.YtnbbajiabbmdmaaGreatDoorW.PrintMore
attribute [local go_sem] max2_int min2_int max_two min_two max_three min_three max_four min_four   -- for this text's walks alone
set_option linter.unusedVariables false
set_option linter.unusedSimpArgs false

/-! ### quic_Put: function 65, by hand -/
def quic_Put.go (k : Nat) : List S101 → List UInt8 → Option (ByteArray × Int)
 | [], acc => some (⟨acc.toArray⟩, 0)
 | x :: l, acc => (quic_one.f k x.f0 x.f1 x.f2).bind fun t => if t.2 = true then (if acc.length + t.1.size ≤ 140737488355328 then quic_Put.go k l (acc ++ t.1.data.toList) else none) else some (⟨#[]⟩, 1)
def quic_Put.f (k : Nat) (l0 : List S101) : Option (ByteArray × Int) := if l0.length ≤ 4096 then quic_Put.go k l0 [] else some (⟨#[]⟩, 2)
theorem quic_Put.mono_go (k : Nat) : ∀ l acc, LeO (quic_Put.go k l acc) (quic_Put.go (k + 1) l acc)
 | [], acc => LeO.refl _
 | x :: l, acc => by
  unfold quic_Put.go
  repeat' first
   | (with_reducible exact LeO.refl _)
   | (with_reducible exact LeO.none _)
   | (with_reducible exact quic_one.mono _ _ _ _)
   | exact quic_Put.mono_go k l _
   | (with_reducible refine LeO.ite ?_ ?_)
   | (with_reducible refine LeO.bind ?_ (fun _ => ?_))
theorem quic_Put.mono : ∀ a0 k, LeO (quic_Put.f k a0) (quic_Put.f (k + 1) a0) := by
 intro a0 k
 unfold quic_Put.f
 repeat' first
  | exact quic_Put.mono_go k a0 _
  | exact LeO.refl _
  | refine LeO.ite ?_ ?_
set_option maxHeartbeats 4000000 in
set_option maxRecDepth 100000 in
theorem quic_Put.calls (k : Nat) (A0 : Option Addr) (c0 : Nat) (l0 : List S101) (r1 : ByteArray) (r2 : Int) (w : World) (hr0 : Kd.C k101 w A0 l0.length l0) (hc0 : l0.length ≤ c0) (h : quic_Put.f k l0 = some (r1, r2)) :
  Calls Tryz.prog 65 #[.slice A0 l0.length c0] w fun e w' => e = .returned (.tuple #[.string r1, .int .i64 r2]) ∧ Below w.heap.size w w' := by
 have hu := Tryz.underlying101
 have HR := Aside0.mk hr0
 have HC := Aside0.mk hc0
 clear hr0 hc0
 unfold quic_Put.f at h
 by_cases hl : l0.length ≤ 4096
 ·rw [if_pos hl] at h
  have b0 : decide ((l0.length : Int) > 4096) = false := decide_eq_false (by omega)
  have H := Lib.hid h
  have HL := Lib.hid hl
  clear h hl
  go_enter Tryz.func65, Tryz.ntmps65
  go_wp2
  have I0 := Lib.IsBuilderF.of (Lib.fresh_isBuilder 108 5 w)
  go_loopw [14] (fun v14 wr => ∃ (x : Int) (acc : List UInt8), v14 = .int .i64 x ∧ Hid (0 ≤ x ∧ x ≤ (l0.length : Int)) ∧ Lib.IsBuilderF 108 5 w.heap.size w.heap.size (Lib.byteCells acc) wr ∧ Below w.heap.size w wr ∧ Hid (quic_Put.go k (l0.drop x.toNat) acc = some (r1, r2))) (fun v14 _ => l0.length - (intOf v14).toNat)
  case atStart => exact ⟨0, [], rfl, ⟨by omega, by omega⟩, I0, (Below.refl _ w).alloc (Nat.le_refl _) _, H⟩
  case round =>
   obtain ⟨x, acc, rfl, HX, hI, hbw, HG⟩ := hrel
   clear H
   have hx := HX.out
   by_cases hlt : x < (l0.length : Int)
   ·have b1 : decide (x < (l0.length : Int)) = true := decide_eq_true hlt
    have p0 : 0 ≤ x := hx.1
    have hd : l0.drop x.toNat = rd_T101 l0 x :: l0.drop (x + 1).toNat := by
     have e : (x + 1).toNat = x.toNat + 1 := by omega
     have hn : x.toNat < l0.length := by omega
     rw [e, List.drop_eq_getElem_cons hn]
     unfold rd_T101
     rw [List.getD_eq_getElem?_getD, List.getElem?_eq_getElem hn]
     rfl
    have hgo := HG.out
    rw [hd, quic_Put.go] at hgo
    obtain ⟨⟨t1, t2⟩, ho, hgo⟩ := Option.bind_eq_some_iff.1 hgo
    dsimp only at hgo
    obtain ⟨ad, ead, hx0, hx1, hx2⟩ := at_T101 (Kd.C_below HR.out hbw) x p0 hlt
    cases ead
    have cO := fun W => quic_one.calls k (rd_T101 l0 x).f0 (rd_T101 l0 x).f1 (rd_T101 l0 x).f2 t1 t2 W ho
    have HGo := Lib.hid hgo
    have hsz := Lib.hid hbw.size
    have w1 := Lib.hid (show wrap64 (x + 1) = x + 1 by unfold wrap64; have := HL.out; omega)
    clear hd hgo ho HG HX hx
    have HX0 := Lib.hid (show 0 ≤ x by omega)
    have HB2 := Lib.hid (show 0 ≤ x + 1 ∧ x + 1 ≤ (l0.length : Int) by omega)
    replace p0 := eq_true p0
    replace hlt := eq_true hlt
    cases t2 with
    | true =>
     have hgo := HGo.out
     clear HGo
     rw [if_pos rfl] at hgo
     by_cases hz : acc.length + t1.size ≤ 140737488355328
     ·rw [if_pos hz] at hgo
      have HG2 := Lib.hid hgo
      have HZ := Lib.hid hz
      clear hgo hz
      go_wp2_with (first | ((with_reducible refine gate_dst (N := 6) rfl ?_); refine box_event ?hg (N := 6) ?hd (cs := #[.int .i64 0, .int .i64 0, .string (⟨#[]⟩ : ByteArray)]) (t := 101) ?hr ?_; (case hd => rfl); (case hg => rfl); (case hr => first | (go_simp; done) | (go_simp; rfl)); intro gb hg w2 hbox hb; have Hg := Lib.hid hg; clear hg; have hcz := fun j => Lib.cell_of_heap hbox j; have hfz := fun j => blk_frozen hbox j; have hv3 := vput3 hbox (.int .i64 (rd_T101 l0 x).f0) (.int .i64 (rd_T101 l0 x).f1) (.string (rd_T101 l0 x).f2); have c3 := fun j => Lib.cell_of_heap hv3 j; have f3 := fun j => Lib.frozen_of_heap hv3 j) | (go_at_call 93; refine (cO _).mono ?_; rintro e w4 ⟨rfl, hb4⟩))
      have hb3 := bput3 hb (show _ ≤ gb by rw [Hg.out]; exact Nat.le_refl _) (.int .i64 (rd_T101 l0 x).f0) (.int .i64 (rd_T101 l0 x).f1) (.string (rd_T101 l0 x).f2)
      have hI4 := builderF_below (builderF_below hI hb3) hb4
      have hbw4 := below_step (below_step hbw hb3) hb4
      refine (Tryz.Bld_WriteString w.heap.size w.heap.size _ t1 _ hI4 (by rw [Lib.byteCells_length]; exact HZ.out) hbw4.size).mono ?_
      rintro e W5 ⟨rfl, h1, b1, k1⟩
      go_wp2
      go_roundw
      case rel => exact ⟨x + 1, acc ++ t1.data.toList, (by rw [w1.out]), HB2, (by rw [Lib.byteCells_append, ← strCells_mk]; exact Or.inr h1), hbw4.trans b1, HG2⟩
      case measure =>
       have e1 := w1.out
       have e2 := HB2.out
       have e3 := HX0.out
       show l0.length - (intOf (.int .i64 (wrap64 (x + 1)))).toNat < l0.length - (intOf (.int .i64 x)).toNat
       rw [e1]
       simp only [intOf]
       omega
     ·rw [if_neg hz] at hgo
      cases hgo
    | false =>
     have hgo := HGo.out
     clear HGo
     rw [if_neg (by decide)] at hgo
     have hgo := Option.some.inj hgo
     simp only [Prod.mk.injEq] at hgo
     obtain ⟨rfl, rfl⟩ := hgo
     go_wp2_with (first | ((with_reducible refine gate_dst (N := 6) rfl ?_); refine box_event ?hg (N := 6) ?hd (cs := #[.int .i64 0, .int .i64 0, .string (⟨#[]⟩ : ByteArray)]) (t := 101) ?hr ?_; (case hd => rfl); (case hg => rfl); (case hr => first | (go_simp; done) | (go_simp; rfl)); intro gb hg w2 hbox hb; have Hg := Lib.hid hg; clear hg; have hcz := fun j => Lib.cell_of_heap hbox j; have hfz := fun j => blk_frozen hbox j; have hv3 := vput3 hbox (.int .i64 (rd_T101 l0 x).f0) (.int .i64 (rd_T101 l0 x).f1) (.string (rd_T101 l0 x).f2); have c3 := fun j => Lib.cell_of_heap hv3 j; have f3 := fun j => Lib.frozen_of_heap hv3 j) | (go_at_call 93; refine (cO _).mono ?_; rintro e w4 ⟨rfl, hb4⟩))
     have hb3 := bput3 hb (show _ ≤ gb by rw [Hg.out]; exact Nat.le_refl _) (.int .i64 (rd_T101 l0 x).f0) (.int .i64 (rd_T101 l0 x).f1) (.string (rd_T101 l0 x).f2)
     have hbw4 := below_step (below_step hbw hb3) hb4
     go_ret2
     exact ⟨rfl, hbw4⟩
   ·have b1 : decide (x < (l0.length : Int)) = false := decide_eq_false hlt
    have hgo := HG.out
    rw [List.drop_of_length_le (by omega), quic_Put.go] at hgo
    have hgo := Option.some.inj hgo
    simp only [Prod.mk.injEq] at hgo
    obtain ⟨rfl, rfl⟩ := hgo
    clear HG HX hx hlt
    go_wp2_with fail
    refine (Tryz.Builder_String_any_k w.heap.size w.heap.size acc _ hI hbw.size).mono ?_
    rintro e W4 ⟨rfl, _, b4, _⟩
    go_wp2
    go_ret2
    exact ⟨rfl, hbw.trans b4⟩
 ·rw [if_neg hl] at h
  have h := Option.some.inj h
  simp only [Prod.mk.injEq] at h
  obtain ⟨rfl, rfl⟩ := h
  have b0 : decide ((l0.length : Int) > 4096) = true := decide_eq_true (by omega)
  clear hl
  go_enter Tryz.func65, Tryz.ntmps65
  go_wp2
  go_ret2
  exact ⟨rfl, Below.refl _ _⟩

/-! ### schema_Text: function 29 -/
def schema_Text.l0 : Nat → List (S101) → List (S62) → Int → Int → Option (ByteArray)
 | 0, _, _, _, _ => none
 | k + 1, x3, x15, x16, x17 => if x17 < x16 then (if 0 ≤ x17 then (if x17 < (x15.length : Int) then ((schema_flag.f ((rd_T62 x15 x17).f2)).bind fun t495 => ((some (([(⟨4, 0, (rd_T62 x15 x17).f0⟩ : S101), (⟨1, (rd_T62 x15 x17).f1, (⟨#[]⟩ : ByteArray)⟩ : S101), (⟨3, t495, (⟨#[]⟩ : ByteArray)⟩ : S101)] : List (S101)) : List (S101))).bind fun y496 => (if x3.length + y496.length < 4398046511104 then (schema_Text.l0 k (x3 ++ y496) x15 x16 (wrap64 (x17 + 1))) else (none)))) else (none)) else (none)) else ((quic_Put.f k x3).bind fun bt502 => (some bt502.1))
def schema_Text.f (k : Nat) (l0 : List (S62)) : Option (ByteArray) := (schema_Check.f k l0).bind fun t489 => (if t489 = true then (schema_Text.l0 k (([(⟨1, (l0.length : Int), (⟨#[]⟩ : ByteArray)⟩ : S101)] : List (S101))) l0 (l0.length : Int) 0) else (some (⟨#[]⟩ : ByteArray)))
theorem schema_Text.mono_l : ∀ k, (∀ y0 y1 y2 y3, LeO (schema_Text.l0 k y0 y1 y2 y3) (schema_Text.l0 (k + 1) y0 y1 y2 y3))
 | 0 => fun _ _ _ _ r h => by simp [schema_Text.l0] at h
 | k + 1 => by
  have ih0 := schema_Text.mono_l k
  ·intro y0 y1 y2 y3
   unfold schema_Text.l0
   repeat' first
   | (with_reducible exact ih0 _ _ _ _)
   | (with_reducible exact quic_Put.mono _ _)
   | (with_reducible exact schema_Check.mono _ _)
   | (with_reducible exact LeO.refl _)
   | (with_reducible exact LeO.none _)
   | (with_reducible refine LeO.ite ?_ ?_)
   | (with_reducible refine LeO.bind ?_ (fun _ => ?_))
   | exact ih0 _ _ _ _
   | exact quic_Put.mono _ _
   | exact schema_Check.mono _ _
   | exact LeO.none _
   | refine LeO.ite ?_ ?_
   | refine LeO.bind ?_ (fun _ => ?_)
theorem schema_Text.mono : ∀ a0 k, LeO (schema_Text.f k a0) (schema_Text.f (k + 1) a0) := by
 intro a0 k
 have ih0 := schema_Text.mono_l k
 unfold schema_Text.f
 repeat' first
   | (with_reducible exact ih0 _ _ _ _)
   | (with_reducible exact quic_Put.mono _ _)
   | (with_reducible exact schema_Check.mono _ _)
   | (with_reducible exact LeO.refl _)
   | (with_reducible exact LeO.none _)
   | (with_reducible refine LeO.ite ?_ ?_)
   | (with_reducible refine LeO.bind ?_ (fun _ => ?_))
   | exact ih0 _ _ _ _
   | exact quic_Put.mono _ _
   | exact schema_Check.mono _ _
   | exact LeO.none _
   | refine LeO.ite ?_ ?_
   | refine LeO.bind ?_ (fun _ => ?_)
def schema_Text.T7 : Bool × List (List Nat × List Nat) := (true, [([], []), ([], []), ([1], [1]), ([2], [2]), ([], []), ([4], [4]), ([5], [5]), ([], []), ([7], [7]), ([8], [8]), ([9], [9]), ([3, 6, 10], [3, 6, 10]), ([0, 11, 9], [0, 11]), ([12, 12, 0, 1, 2, 3, 4, 5, 6, 7, 8, 9, 10, 11, 12], [0, 12])])
def schema_Text.B7 : List Nat := [0, 0, 2, 6, 0, 16, 48, 0, 128, 384, 896, 2046, 4095, 8191]
theorem schema_Text.tab7 : rtab .any (opsOf Tryz.f29 7) = schema_Text.T7 := by kernel_rfl
theorem schema_Text.bits7 : waitsOk schema_Text.T7.2 schema_Text.B7 = true := by kernel_rfl
set_option maxHeartbeats 8000000 in
set_option maxRecDepth 100000 in
theorem schema_Text.calls (k : Nat) (A0 : Option Addr) (c0 : Nat) (l0 : List (S62)) (r : ByteArray) (w : World) (hr0 : Kd.C k62 w A0 l0.length l0) (hc0 : l0.length ≤ c0) (hT : Tabs w) (h : schema_Text.f k l0 = some r) :
  Calls Tryz.prog 29 #[.slice A0 l0.length c0] w fun e w' => e = .returned (.string r) ∧ Below w.heap.size w w' := by
 have hu101 := Tryz.underlying101
 have hu62 := Tryz.underlying62
 have HR0 := Aside0.mk hr0
 have HC0 := Aside0.mk hc0
 clear hr0 hc0
 have HB := Aside0.mk (Below.refl w.heap.size w)
 have H : ((schema_Check.f k l0).bind fun t489 => (if t489 = true then (schema_Text.l0 k (([(⟨1, (l0.length : Int), (⟨#[]⟩ : ByteArray)⟩ : S101)] : List (S101))) l0 (l0.length : Int) 0) else (some (⟨#[]⟩ : ByteArray)))) = some r := h
 clear h
 have HT := Aside0.mk hT
 clear hT
 replace H := Option.bind_eq_some_iff.mp H
 obtain ⟨t489, A20, H⟩ := H
 replace H : (if t489 = true then (schema_Text.l0 k (([(⟨1, (l0.length : Int), (⟨#[]⟩ : ByteArray)⟩ : S101)] : List (S101))) l0 (l0.length : Int) 0) else (some (⟨#[]⟩ : ByteArray))) = some r := H
 have A2 := Aside0.mk A20
 clear A20
 by_cases c3 : t489 = true
 ·subst c3
  have H1 : (schema_Text.l0 k (([(⟨1, (l0.length : Int), (⟨#[]⟩ : ByteArray)⟩ : S101)] : List (S101))) l0 (l0.length : Int) 0) = some r := by rw [if_pos rfl] at H; exact H
  clear H
  have H := H1
  clear H1
  obtain ⟨y490, hy490⟩ : ∃ y_ : List (S101), y_ = (([(⟨1, (l0.length : Int), (⟨#[]⟩ : ByteArray)⟩ : S101)] : List (S101))) := ⟨_, rfl⟩
  replace H : (schema_Text.l0 k y490 l0 (l0.length : Int) 0) = some r := by first | (rw [hy490]; with_reducible exact H) | (have H2_ := (Option.bind_some _ _).symm.trans H; rw [hy490]; with_reducible exact H2_) | (have H2_ := (Option.bind_some _ _).symm.trans H; with_reducible exact H2_) | with_reducible exact H | (rw [hy490]; exact H) | exact H
  have Ny490 := Aside0.mk hy490
  clear hy490
  have H' := Aside0.mk H
  clear H
  go_enter Tryz.func29, Tryz.ntmps29
  go_wp2_with (first | ((with_reducible refine gate_callee (f := 13) rfl ?_); refine goesA (some 9) Tryz.func13 #[.slice A0 l0.length c0] ?_; (with_reducible refine (schema_Check.calls k _ _ l0 true _ ?side1 ?side2 ?side3 A2.out).mono ?_); (case side1 => repeat (first | exact HR0.out | (with_reducible refine Kd.C_alloc ?_ _) | (with_reducible refine Kd.C_drewN ?_ _) | (with_reducible refine Kd.C_drew ?_))); (case side2 => exact HC0.out); (case side3 => exact Tabs.below HT.out (bwA)); rintro e w4 ⟨rfl, hb⟩; refine ⟨_, rfl, ?_⟩; have n0_ := Aside0.mk (below_step (bwA) hb); clear HB; have HB := n0_; clear n0_; (try clear hb); (try clear hb2); (try clear hk); (try clear hi)) | ((with_reducible refine gate_dst (N := 14) rfl ?_); refine Kd.R_lit k101 _ 101 ?hg (N := 14) ?hd (xs := ([(⟨1, (l0.length : Int), (⟨#[]⟩ : ByteArray)⟩ : S101)] : List (S101))) (inner := [.int .i64 1, .int .i64 (l0.length : Int), .string (⟨#[]⟩ : ByteArray)]) (ok := fun _ => True) (okp := fun _ => True) ?hr ?hp (fun _ hk => hk) trivial (Below.refl _ _) (Nat.le_refl _) (by simp) ?_; (case hd => rfl); (case hg => rfl); (case hr => first | (go_simp; done) | (go_simp; rfl)); (case hp => exact (Reps.c3 (show Kd.M k101 _ _ _ (⟨1, (l0.length : Int), (⟨#[]⟩ : ByteArray)⟩ : S101) [.int .i64 1, .int .i64 (l0.length : Int), .string (⟨#[]⟩ : ByteArray)] from (k101_mkM _ _ _ (⟨1, (l0.length : Int), (⟨#[]⟩ : ByteArray)⟩ : S101) )) (Reps.none _ _))); intro v491 w5 ho6 hb hg_ hnew_; clear hg_ hnew_; (first | rw [← Ny490.out] at ho6 | (simp only [Int.reduceToNat] at ho6; rw [← Ny490.out] at ho6)); have n0_ := Aside0.mk (Kd.R_lower ho6 (below_size (bwA))); have n1_ := Aside0.mk (below_step (bwA) hb); clear HB; have HO492 := n0_; have HB := n1_; clear n0_ n1_; clear hb ho6))
  go_loopg [3, 17] k (fun kq v3 v17 w' => ∃ (x3_1 : List (S101)) (x17_1 : Int), v17 = .int .i64 x17_1 ∧ Aside0 (schema_Text.l0 kq x3_1 l0 (l0.length : Int) x17_1 = some r) ∧ Aside0 (kq ≤ k) ∧ Aside0 (Kd.R k101 101 w' w.heap.size (fun _ => True) v3 x3_1) ∧ Aside0 (Below w.heap.size w w'))
  case atStart => exact ⟨(y490), (0), (endS), H', ⟨Nat.le_refl _⟩, ⟨by (with_reducible repeat (first | apply Kd.R_alloc | apply Kd.R_drewN | apply Kd.R_drew)); exact HO492.out⟩, ⟨bwA⟩⟩
  case round =>
   clear H'
   try clear c1
   try clear c2
   try clear p2
   try clear c3
   obtain ⟨x3_1, x17_1, rfl, HA, HK1, HO_3, HB⟩ := hrel
   cases gk with
   | zero => exact absurd HA.out (by simp [schema_Text.l0])
   | succ k1 =>
    have H := HA.out
    clear HA
    simp only [schema_Text.l0] at H
    by_cases c7 : x17_1 < (l0.length : Int)
    ·rw [if_pos c7] at H
     have c7b0 : decide (x17_1 < (l0.length : Int)) = true := decide_eq_true c7
     clear c7
     by_cases c8 : 0 ≤ x17_1
     ·rw [if_pos c8] at H
      have c8b0 : decide (0 ≤ x17_1) = true := decide_eq_true c8
      clear c8
      by_cases c9 : x17_1 < (l0.length : Int)
      ·rw [if_pos c9] at H
       have c9b0 : decide (x17_1 < (l0.length : Int)) = true := decide_eq_true c9
       clear c9
       replace H := Option.bind_eq_some_iff.mp H
       obtain ⟨t495, A100, H⟩ := H
       replace H : ((some (([(⟨4, 0, (rd_T62 l0 x17_1).f0⟩ : S101), (⟨1, (rd_T62 l0 x17_1).f1, (⟨#[]⟩ : ByteArray)⟩ : S101), (⟨3, t495, (⟨#[]⟩ : ByteArray)⟩ : S101)] : List (S101)) : List (S101))).bind fun y496 => (if x3_1.length + y496.length < 4398046511104 then (schema_Text.l0 k1 (x3_1 ++ y496) l0 (l0.length : Int) (wrap64 (x17_1 + 1))) else (none))) = some r := H
       have A10 := Aside0.mk A100
       clear A100
       obtain ⟨y496, hy496⟩ : ∃ y_ : List (S101), y_ = (([(⟨4, 0, (rd_T62 l0 x17_1).f0⟩ : S101), (⟨1, (rd_T62 l0 x17_1).f1, (⟨#[]⟩ : ByteArray)⟩ : S101), (⟨3, t495, (⟨#[]⟩ : ByteArray)⟩ : S101)] : List (S101))) := ⟨_, rfl⟩
       replace H : (if x3_1.length + y496.length < 4398046511104 then (schema_Text.l0 k1 (x3_1 ++ y496) l0 (l0.length : Int) (wrap64 (x17_1 + 1))) else (none)) = some r := by first | (rw [hy496]; with_reducible exact H) | (have H2_ := (Option.bind_some _ _).symm.trans H; rw [hy496]; with_reducible exact H2_) | (have H2_ := (Option.bind_some _ _).symm.trans H; with_reducible exact H2_) | with_reducible exact H | (rw [hy496]; exact H) | exact H
       have Ny496 := Aside0.mk hy496
       clear hy496
       by_cases c11 : x3_1.length + y496.length < 4398046511104
       ·rw [if_pos c11] at H
        have LMc11 := Aside0.mk c11
        clear c11
        obtain ⟨y499, hy499⟩ : ∃ y_ : List (S101), y_ = (x3_1 ++ y496) := ⟨_, rfl⟩
        replace H : (schema_Text.l0 k1 y499 l0 (l0.length : Int) (wrap64 (x17_1 + 1))) = some r := by first | (rw [hy499]; with_reducible exact H) | (have H2_ := (Option.bind_some _ _).symm.trans H; rw [hy499]; with_reducible exact H2_) | (have H2_ := (Option.bind_some _ _).symm.trans H; with_reducible exact H2_) | with_reducible exact H | (rw [hy499]; exact H) | exact H
        have Ny499 := Aside0.mk hy499
        clear hy499
        have H' := Aside0.mk H
        clear H
        have p493 : 0 ≤ (x17_1 : Int) := odA
        have q493 : x17_1 < (l0.length : Int) := odA
        obtain ⟨ad493, e493, hx493_0, hx493_1, hx493_2⟩ := at_T62 HR0.out x17_1 p493 q493
        cases e493
        replace hx493_0 := crA hx493_0
        replace hx493_1 := crA hx493_1
        replace hx493_2 := crA hx493_2
        replace p493 := eq_true p493
        replace q493 := eq_true q493
        try go_wp2_with (first | ((with_reducible refine gate_dst (N := 5) rfl ?_); refine box_event ?hg (N := 5) ?hd (cs := #[.string (⟨#[]⟩ : ByteArray), .int .i64 0, .bool false]) (t := 62) ?hr ?_; (case hd => rfl); (case hg => rfl); (case hr => first | (go_simp; done) | (go_simp; rfl)); intro gb494 hg w12 hbox hb; have n0_ := Aside0.mk (Kd.R_below (by (with_reducible repeat (first | apply Kd.R_alloc | apply Kd.R_drewN | apply Kd.R_drew)); exact HO_3.out) hb); have n1_ := Aside0.mk (below_step (bwA) hb); have n2_ := Aside0.mk (hbox); have n3_ := Aside0.mk ((by rw [hg]; exact (below_size (bwA)) : w.heap.size ≤ gb494)); have n4_ := Aside0.mk ((by rw [hg]; exact (below_size (bwA)) : w.heap.size ≤ gb494)); clear HO_3; clear HB; have HO_3 := n0_; have HB := n1_; have BK494 := n2_; have GW494 := n3_; have GE494 := n4_; clear n0_ n1_ n2_ n3_ n4_; clear hb hbox hg; have hcz13_0 : w12.cell? ⟨gb494, 0, none⟩ = some (.string (⟨#[]⟩ : ByteArray)) := (blk_cell BK494.out 0).trans rfl; have hcz13_1 : w12.cell? ⟨gb494, 1, none⟩ = some (.int .i64 0) := (blk_cell BK494.out 1).trans rfl; have hcz13_2 : w12.cell? ⟨gb494, 2, none⟩ = some (.bool false) := (blk_cell BK494.out 2).trans rfl; have hfz13_0 := blk_frozen BK494.out 0; have hfz13_1 := blk_frozen BK494.out 1; have hfz13_2 := blk_frozen BK494.out 2))
        have n0_ : Aside0 (Kd.R k101 101 (((w12.setCell ⟨gb494, 0, none⟩ (.string ((rd_T62 l0 x17_1).f0))).setCell ⟨gb494, 1, none⟩ (.int .i64 ((rd_T62 l0 x17_1).f1))).setCell ⟨gb494, 2, none⟩ (.bool ((rd_T62 l0 x17_1).f2))) w.heap.size (fun _ => True) u3 x3_1) := ⟨by (with_reducible repeat (first | apply Kd.R_alloc | apply Kd.R_drewN | apply Kd.R_drew)); exact Kd.R_mono (Kd.R_far (p := ⟨gb494, 2, none⟩) (Kd.R_far (p := ⟨gb494, 1, none⟩) (Kd.R_far (p := ⟨gb494, 0, none⟩) (Kd.R_types HO_3.out BK494.out (by decide)) (fun _ hk => hk.2) (.string ((rd_T62 l0 x17_1).f0))) (fun _ hk => hk.2) (.int .i64 ((rd_T62 l0 x17_1).f1))) (fun _ hk => hk.2) (.bool ((rd_T62 l0 x17_1).f2))) (fun _ hk => trivial)⟩
        have n1_ : Aside0 ((((w12.setCell ⟨gb494, 0, none⟩ (.string ((rd_T62 l0 x17_1).f0))).setCell ⟨gb494, 1, none⟩ (.int .i64 ((rd_T62 l0 x17_1).f1))).setCell ⟨gb494, 2, none⟩ (.bool ((rd_T62 l0 x17_1).f2))).heap[gb494]? = some (.cells #[.string ((rd_T62 l0 x17_1).f0), .int .i64 ((rd_T62 l0 x17_1).f1), .bool ((rd_T62 l0 x17_1).f2)] 62 (0, 0))) := ⟨by (with_reducible repeat (first | refine blk_drewN ?_ _ | refine blk_drew ?_ | refine blk_alloc ?_ _)); refine blk_put (cs := #[.string ((rd_T62 l0 x17_1).f0), .int .i64 ((rd_T62 l0 x17_1).f1), .bool false]) ?_ 2 _ rfl; (with_reducible repeat (first | refine blk_drewN ?_ _ | refine blk_drew ?_ | refine blk_alloc ?_ _)); refine blk_put (cs := #[.string ((rd_T62 l0 x17_1).f0), .int .i64 0, .bool false]) ?_ 1 _ rfl; (with_reducible repeat (first | refine blk_drewN ?_ _ | refine blk_drew ?_ | refine blk_alloc ?_ _)); refine blk_put (cs := #[.string (⟨#[]⟩ : ByteArray), .int .i64 0, .bool false]) ?_ 0 _ rfl; (with_reducible repeat (first | refine blk_drewN ?_ _ | refine blk_drew ?_ | refine blk_alloc ?_ _)); exact BK494.out⟩
        have n2_ : Aside0 (Below w.heap.size w (((w12.setCell ⟨gb494, 0, none⟩ (.string ((rd_T62 l0 x17_1).f0))).setCell ⟨gb494, 1, none⟩ (.int .i64 ((rd_T62 l0 x17_1).f1))).setCell ⟨gb494, 2, none⟩ (.bool ((rd_T62 l0 x17_1).f2)))) := ⟨bwA⟩
        (try clear HO_3)
        (try clear BK494)
        (try clear HB)
        generalize (((w12.setCell ⟨gb494, 0, none⟩ (.string ((rd_T62 l0 x17_1).f0))).setCell ⟨gb494, 1, none⟩ (.int .i64 ((rd_T62 l0 x17_1).f1))).setCell ⟨gb494, 2, none⟩ (.bool ((rd_T62 l0 x17_1).f2))) = w14 at n0_ n1_ n2_ ⊢
        have HO_3 := n0_
        have BK494 := n1_
        have HB := n2_
        clear n0_ n1_ n2_
        have n0_ := Aside0.mk (Kd.R_drew HO_3.out)
        have n1_ := Aside0.mk (blk_drew BK494.out)
        have n2_ := Aside0.mk (below_drew1 HB.out)
        clear HO_3
        clear BK494
        clear HB
        have HO_3 := n0_
        have BK494 := n1_
        have HB := n2_
        clear n0_ n1_ n2_
        refine start_ (n := 14) (S := fun w' => w'.cell? ⟨gb494, 0, none⟩ = some (.string ((rd_T62 l0 x17_1).f0)) ∧ w'.cell? ⟨gb494, 1, none⟩ = some (.int .i64 ((rd_T62 l0 x17_1).f1)) ∧ w'.cell? ⟨gb494, 2, none⟩ = some (.bool ((rd_T62 l0 x17_1).f2))) (ds := []) (mkB 14 0) (by kernel_rfl) rfl rfl ⟨(blk_cell BK494.out 0).trans rfl, (blk_cell BK494.out 1).trans rfl, (blk_cell BK494.out 2).trans rfl⟩ (fun hHeld => ?_); refine with_tabW schema_Text.tab7 schema_Text.bits7 (fun HT_ HW_ => ?_)
        generalize w14.drew = w15 at HO_3 BK494 HB hHeld ⊢
        refine pureA 0 (some 21) (mkB 14 1) ?_
        refine pureA 1 (some 22) (mkB 14 3) ?_
        refine pureA 4 (some 25) (mkB 14 19) ?_
        refine pureA 7 (some 28) (mkB 14 147) ?_
        refine takeA 2 (some 23) (mkB 14 151) ?_ rfl (Or.inl ⟨by rfl, by rintro w' ⟨s0, s1, s2⟩; go_simp; with_reducible rfl⟩)
        refine pureA 3 (some 24) (mkB 14 159) ?_
        refine takeA 5 (some 26) (mkB 14 191) ?_ rfl (Or.inl ⟨by rfl, by rintro w' ⟨s0, s1, s2⟩; go_simp; with_reducible rfl⟩)
        refine pureA 6 (some 27) (mkB 14 255) ?_
        refine takeA 8 (some 29) (mkB 14 511) ?_ rfl (Or.inl ⟨by rfl, by rintro w' ⟨s0, s1, s2⟩; go_simp; with_reducible rfl⟩)
        refine oneA 9 (some 30) (mkB 14 1023) (fun K hK => ?_)
        refine goes_ Tryz.func64 (by kernel_rfl) rfl #[.bool ((rd_T62 l0 x17_1).f2)] (by rfl) rfl rfl (by (try simp only [List.map_toArray, List.map_cons, List.map_nil]); first | done | rfl | (simp only [List.length_drop, List.length_take]; rfl)) ?_
        with_reducible refine (schema_flag.calls ((rd_T62 l0 x17_1).f2) t495 _ A10.out).mono ?_
        rintro e w' ⟨rfl, ⟨nd, rfl⟩⟩
        refine ⟨_, rfl, ?_⟩
        refine hK.out _ _ ⟨(blk_cell BK494.out 0).trans rfl, (blk_cell BK494.out 1).trans rfl, (blk_cell BK494.out 2).trans rfl⟩ (fun hHeld => ?_)
        clear hK K
        refine normA ?_
        refine pureA 10 (some 31) (mkB 14 2047) ?_
        refine oneA 11 (some 32) (mkB 14 4095) (fun K hK => ?_)
        refine Kd.R_lit_step k101 _ 101 ?hg (N := 32) ?hd (xs := ([(⟨4, 0, (rd_T62 l0 x17_1).f0⟩ : S101), (⟨1, (rd_T62 l0 x17_1).f1, (⟨#[]⟩ : ByteArray)⟩ : S101), (⟨3, t495, (⟨#[]⟩ : ByteArray)⟩ : S101)] : List (S101))) (inner := [.int .i64 4, .int .i64 0, .string ((rd_T62 l0 x17_1).f0), .int .i64 1, .int .i64 ((rd_T62 l0 x17_1).f1), .string (⟨#[]⟩ : ByteArray), .int .i64 3, .int .i64 t495, .string (⟨#[]⟩ : ByteArray)]) (ok := fun _ => True) (okp := fun _ => True) ?hr ?hp (fun _ hk => hk) trivial (Below.refl _ _) (Nat.le_refl _) (by simp) ?_; (case hd => rfl); (case hg => rfl); (case hr => first | (go_simp; done) | (go_simp; rfl)); (case hp => exact (Reps.c3 (show Kd.M k101 _ _ _ (⟨4, 0, (rd_T62 l0 x17_1).f0⟩ : S101) [.int .i64 4, .int .i64 0, .string ((rd_T62 l0 x17_1).f0)] from (k101_mkM _ _ _ (⟨4, 0, (rd_T62 l0 x17_1).f0⟩ : S101) )) (Reps.c3 (show Kd.M k101 _ _ _ (⟨1, (rd_T62 l0 x17_1).f1, (⟨#[]⟩ : ByteArray)⟩ : S101) [.int .i64 1, .int .i64 ((rd_T62 l0 x17_1).f1), .string (⟨#[]⟩ : ByteArray)] from (k101_mkM _ _ _ (⟨1, (rd_T62 l0 x17_1).f1, (⟨#[]⟩ : ByteArray)⟩ : S101) )) (Reps.c3 (show Kd.M k101 _ _ _ (⟨3, t495, (⟨#[]⟩ : ByteArray)⟩ : S101) [.int .i64 3, .int .i64 t495, .string (⟨#[]⟩ : ByteArray)] from (k101_mkM _ _ _ (⟨3, t495, (⟨#[]⟩ : ByteArray)⟩ : S101) )) (Reps.none _ _)))))
        intro v497 w16 ho17 hb hg_ hnew_
        clear hg_ hnew_
        (first | rw [← Ny496.out] at ho17 | (simp only [Int.reduceToNat] at ho17; rw [← Ny496.out] at ho17))
        have n0_ := Aside0.mk (Kd.R_elder' (by (with_reducible repeat (first | apply Kd.R_alloc | apply Kd.R_drewN | apply Kd.R_drew)); exact HO_3.out) (Kd.R_base ho17) hb)
        have n1_ := Aside0.mk (Kd.R_lower (Kd.R_new' ho17 (Kd.R_lt (by (with_reducible repeat (first | apply Kd.R_alloc | apply Kd.R_drewN | apply Kd.R_drew)); exact HO_3.out))) (below_size (bwA)))
        have n2_ := Aside0.mk (blk_below (g := gb494) (o := .cells #[.string ((rd_T62 l0 x17_1).f0), .int .i64 ((rd_T62 l0 x17_1).f1), .bool ((rd_T62 l0 x17_1).f2)] 62 (0, 0)) blkA hb)
        have n3_ := Aside0.mk (below_step (bwA) hb)
        clear HO_3
        clear BK494
        clear HB
        have HO_3 := n0_
        have HO498 := n1_
        have BK494 := n2_
        have HB := n3_
        clear n0_ n1_ n2_ n3_
        clear hb ho17
        obtain ⟨Ao19, co19, eo19⟩ := Kd.R_slice HO498.out
        (first | subst eo19 | (injection eo19 with f1_ f2_ f3_; have f4_ := f1_.symm; have f5_ := f3_.symm; clear f1_ f2_ f3_; subst f4_; subst f5_))
        refine hK.out _ _ ⟨(blk_cell BK494.out 0).trans rfl, (blk_cell BK494.out 1).trans rfl, (blk_cell BK494.out 2).trans rfl⟩ (fun hHeld => ?_)
        clear hK K
        refine normA ?_
        refine oneA 12 (some 33) (mkB 14 8191) (fun K hK => ?_)
        refine Kd.R_append_rows_step k101 (w0 := w) w.heap.size (by rfl) (.tmp 21) (.tmp 32) 97 101 (.agg #[(.int .i64 0), (.int .i64 0), (.string ⟨#[]⟩)]) 32 rfl Tryz.underlying97 info101 rfl (by decide) (by omega) u3 x3_1 y496 _ _ _ (fun k_ => some k_ ≠ (.slice Ao19 y496.length co19 : Value).ownBlock) (fun _ => False) rfl rfl ?aO ?aR (fun _ _ h => h) (fun _ h => h.elim) ?aF ?aB ?aS ?aL ?_
        (case aR => repeat (first | exact (Kd.R_reads' HO498.out).2.2 | (with_reducible refine Kd.C_alloc ?_ _) | (with_reducible refine Kd.C_drewN ?_ _) | (with_reducible refine Kd.C_drew ?_)))
        (case aB => exact (bwA))
        (case aF => exact (fun k_ hk => Kd.fresh' (Kd.R_lt (by (with_reducible repeat (first | apply Kd.R_alloc | apply Kd.R_drewN | apply Kd.R_drew)); exact HO498.out)) k_ hk))
        (case aO => exact (by (with_reducible repeat (first | apply Kd.R_alloc | apply Kd.R_drewN | apply Kd.R_drew)); exact Kd.R_mono HO_3.out (fun _ hk => hk.2)))
        (case aS => exact (below_size (bwA)))
        (case aL => have := LMc11.out; omega)
        intro v500 w18 ho hb hg hat
        rw [← Ny499.out] at ho
        have n0_ := Aside0.mk (blk_grown (g := gb494) (o := .cells #[.string ((rd_T62 l0 x17_1).f0), .int .i64 ((rd_T62 l0 x17_1).f1), .bool ((rd_T62 l0 x17_1).f2)] 62 (0, 0)) blkA hg (Kd.R_ne HO_3.out BK494.out (by decide)))
        have n1_ := Aside0.mk (Kd.R_after (ok := (fun _ => True)) (by (with_reducible repeat (first | apply Kd.R_alloc | apply Kd.R_drewN | apply Kd.R_drew)); exact HO498.out) hg hat)
        have n2_ := Aside0.mk (hb)
        have n3_ := Aside0.mk (ho)
        clear BK494
        clear HO498
        clear HB
        clear HO_3
        have BK494 := n0_
        have HO498 := n1_
        have HB := n2_
        have HO501 := n3_
        clear n0_ n1_ n2_ n3_
        clear ho hb hg hat
        refine hK.out _ _ ⟨(blk_cell BK494.out 0).trans rfl, (blk_cell BK494.out 1).trans rfl, (blk_cell BK494.out 2).trans rfl⟩ (fun hHeld => ?_)
        clear hK K
        refine normA ?_
        refine pureA 13 (some 3) (mkB 14 16383) ?_
        refine done_ (done_of HT_.out (by kernel_rfl)) ?_
        try go_wp2
        go_roundg k1
        case measure => have := HK1.out; omega
        case rel => exact ⟨(y499), (wrap64 (x17_1 + 1)), (endS), H', ⟨by have := HK1.out; omega⟩, ⟨by (with_reducible repeat (first | apply Kd.R_alloc | apply Kd.R_drewN | apply Kd.R_drew)); exact Kd.R_mono HO501.out (fun _ hk => trivial)⟩, ⟨bwA⟩⟩
       ·rw [if_neg c11] at H
        exact absurd H (by simp)
      ·rw [if_neg c9] at H
       exact absurd H (by simp)
     ·rw [if_neg c8] at H
      exact absurd H (by simp)
    ·rw [if_neg c7] at H
     have c7b0 : decide (x17_1 < (l0.length : Int)) = false := decide_eq_false c7
     clear c7
     replace H := Option.bind_eq_some_iff.mp H
     obtain ⟨⟨t502, t503⟩, A200, H⟩ := H
     replace H : (some t502) = some r := H
     have A20 := Aside0.mk A200
     clear A200
     obtain rfl := Option.some.inj H
     obtain ⟨Ao21, co21, eo21⟩ := Kd.R_slice HO_3.out
     subst eo21
     go_wp2_with (first | ((with_reducible refine gate_callee (f := 65) rfl ?_); refine goesA (some 37) Tryz.func65 #[.slice Ao21 x3_1.length co21] ?_; (with_reducible refine (quic_Put.calls k1 _ _ x3_1 t502 t503 _ ?side1 ?side2 A20.out).mono ?_); (case side1 => repeat (first | exact (Kd.R_reads' HO_3.out).2.2 | (with_reducible refine Kd.C_alloc ?_ _) | (with_reducible refine Kd.C_drewN ?_ _) | (with_reducible refine Kd.C_drew ?_))); (case side2 => exact (Kd.R_reads' HO_3.out).2.1); rintro e w22 ⟨rfl, hb⟩; refine ⟨_, rfl, ?_⟩; have n0_ := Aside0.mk (Kd.R_below (by (with_reducible repeat (first | apply Kd.R_alloc | apply Kd.R_drewN | apply Kd.R_drew)); exact HO_3.out) hb); have n1_ := Aside0.mk (below_step (bwA) hb); clear HO_3; clear HB; have HO_3 := n0_; have HB := n1_; clear n0_ n1_; (try clear hb); (try clear hb2); (try clear hk); (try clear hi)))
     go_ret
     exact ⟨endA, bwA⟩
 ·replace c3 := Bool.eq_false_iff.mpr c3
  subst c3
  have H1 : (some (⟨#[]⟩ : ByteArray)) = some r := by rw [if_neg (show ¬ (false = true) by decide)] at H; exact H
  clear H
  have H := H1
  clear H1
  obtain rfl := Option.some.inj H
  go_enter Tryz.func29, Tryz.ntmps29
  go_wp2_with (first | ((with_reducible refine gate_callee (f := 13) rfl ?_); refine goesA (some 9) Tryz.func13 #[.slice A0 l0.length c0] ?_; (with_reducible refine (schema_Check.calls k _ _ l0 false _ ?side1 ?side2 ?side3 A2.out).mono ?_); (case side1 => repeat (first | exact HR0.out | (with_reducible refine Kd.C_alloc ?_ _) | (with_reducible refine Kd.C_drewN ?_ _) | (with_reducible refine Kd.C_drew ?_))); (case side2 => exact HC0.out); (case side3 => exact Tabs.below HT.out (bwA)); rintro e w23 ⟨rfl, hb⟩; refine ⟨_, rfl, ?_⟩; have n0_ := Aside0.mk (below_step (bwA) hb); clear HB; have HB := n0_; clear n0_; (try clear hb); (try clear hb2); (try clear hk); (try clear hi)))
  go_ret
  exact ⟨endA, bwA⟩

end Go.Proofs.YtnbbajiabbmdmaaGreatDoor.A
