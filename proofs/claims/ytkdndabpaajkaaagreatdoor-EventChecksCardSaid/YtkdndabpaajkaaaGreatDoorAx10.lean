import Derived.Test.YtkdndabpaajkaaaGreatDoorAx0
import Derived.Test.YtkdndabpaajkaaaGreatDoorAx7
import Derived.Test.YtkdndabpaajkaaaGreatDoorAx8
import Derived.Test.YtkdndabpaajkaaaGreatDoorAx9
namespace Go.Proofs.YtkdndabpaajkaaaGreatDoor.A
open Go.RowKit Go.Proofs.YtkdndabpaajkaaaGreatDoorW.PrintWords Go.Proofs.YtkdndabpaajkaaaGreatDoorW.PrintLast Go.Proofs.YtkdndabpaajkaaaGreatDoorW.PrintMore
attribute [local go_sem] max2_int min2_int max_two min_two max_three min_three max_four min_four   -- for this text's walks alone
set_option linter.unusedVariables false
set_option linter.unusedSimpArgs false
set_option maxHeartbeats 8000000
set_option maxRecDepth 100000
theorem vputE {w : World} {g : Nat} {T : TypeId} {x y z u : Value} (h : w.heap[g]? = some (.cells #[x, y, z, u] T (0, 0))) (a b c d : Value) :
  ((((w.setCell ⟨g, 0, none⟩ a).setCell ⟨g, 1, none⟩ b).setCell ⟨g, 2, none⟩ c).setCell ⟨g, 3, none⟩ d).heap[g]? = some (.cells #[a, b, c, d] T (0, 0)) :=
 blk_put (blk_put (blk_put (blk_put h 0 a rfl) 1 b rfl) 2 c rfl) 3 d rfl
theorem bputE {w W : World} {g B : Nat} (h : Below B w W) (hg : B ≤ g) (a b c d : Value) : Below B w ((((W.setCell ⟨g, 0, none⟩ a).setCell ⟨g, 1, none⟩ b).setCell ⟨g, 2, none⟩ c).setCell ⟨g, 3, none⟩ d) :=
 (((h.setCell (p := ⟨g, 0, none⟩) hg a).setCell (p := ⟨g, 1, none⟩) hg b).setCell (p := ⟨g, 2, none⟩) hg c).setCell (p := ⟨g, 3, none⟩) hg d
def event_Show.go (k : Nat) : List S76 → List UInt8 → Option ByteArray
 | [], acc => some ⟨acc.toArray⟩
 | x :: l, acc => (value_Show.f k x.f1.f0 x.f1.f1 x.f1.f2).bind fun u => if acc.length + (x.f0.size + u.size + 2) ≤ 140737488355328 then event_Show.go k l (acc ++ ((((⟨#[32]⟩ : ByteArray) ++ x.f0) ++ (⟨#[61]⟩ : ByteArray)) ++ u).data.toList) else none
def event_Show.f (k : Nat) (a0_0 : Int) (a0_1 : Int) (a0_2 : Int) (a0_3 : ByteArray) (l0_4 : List S76) : Option ByteArray := (event_Check.f k a0_0 a0_1 a0_2 a0_3 l0_4).bind fun t => if t = true then ((event_ShowID.f a0_0 a0_1 a0_2).bind fun u => if u.size + a0_3.size + 1 ≤ 140737488355328 then event_Show.go k l0_4 ((u ++ (⟨#[32]⟩ : ByteArray)) ++ a0_3).data.toList else none) else some ⟨#[]⟩
theorem event_Show.mono_go (k : Nat) : ∀ l acc, LeO (event_Show.go k l acc) (event_Show.go (k + 1) l acc)
 | [], acc => LeO.refl _
 | x :: l, acc => by
  unfold event_Show.go
  repeat' first
   | (with_reducible exact LeO.refl _)
   | (with_reducible exact LeO.none _)
   | (with_reducible exact value_Show.mono _ _ _ _)
   | exact event_Show.mono_go k l _
   | (with_reducible refine LeO.ite ?_ ?_)
   | (with_reducible refine LeO.bind ?_ (fun _ => ?_))
theorem event_Show.mono : ∀ a0 a1 a2 a3 a4 k, LeO (event_Show.f k a0 a1 a2 a3 a4) (event_Show.f (k + 1) a0 a1 a2 a3 a4) := by
 intro a0 a1 a2 a3 a4 k; unfold event_Show.f
 repeat' (with_reducible first | exact event_Check.mono _ _ _ _ _ _ | exact event_Show.mono_go k a4 _ | exact LeO.refl _ | exact LeO.none _ | refine LeO.ite ?_ ?_ | refine LeO.bind ?_ (fun _ => ?_))
def bitsE (T : List (List Nat × List Nat)) : List Nat := T.foldl (fun B r => B ++ [r.1.foldl (fun b n => b ||| (2 ^ n ||| B.getD n 0)) 0]) []
def event_Show.T4 : Bool × List (List Nat × List Nat) := (true, [([], []), ([0], [0]), ([1], [1]), ([2], [2]), ([], []), ([4], [4]), ([3, 5], [3, 5]), ([6, 2], [6])])
def event_Show.T8 : Bool × List (List Nat × List Nat) := (true, [([], []), ([0], [0]), ([1], [1]), ([2], [2]), ([], []), ([4], [4]), ([5], [5]), ([3, 6], [3, 6]), ([7, 6], [7])])
theorem event_Show.tab4 : rtab .any (opsOf Tryz.f52 4) = event_Show.T4 := by kernel_rfl
theorem event_Show.bits4 : waitsOk event_Show.T4.2 (bitsE event_Show.T4.2) = true := by kernel_rfl
theorem event_Show.tab8 : rtab .any (opsOf Tryz.f52 8) = event_Show.T8 := by kernel_rfl
theorem event_Show.bits8 : waitsOk event_Show.T8.2 (bitsE event_Show.T8.2) = true := by kernel_rfl
theorem event_Show.calls (k : Nat) (a0_0 : Int) (a0_1 : Int) (a0_2 : Int) (a0_3 : ByteArray) (A0_4 : Option Addr) (c0_4 : Nat) (l0_4 : List (S76)) (r : ByteArray) (w : World) (hr0_4 : Kd.C k76 w A0_4 l0_4.length l0_4) (hc0_4 : l0_4.length ≤ c0_4) (hT : Tabs w) (h : event_Show.f k a0_0 a0_1 a0_2 a0_3 l0_4 = some r) :
  Calls Tryz.prog 52 #[.agg #[.int .i64 a0_0, .int .i64 a0_1, .int .i64 a0_2, .string a0_3, .slice A0_4 l0_4.length c0_4]] w fun e w' => e = .returned (.string r) ∧ Below w.heap.size w w' := by
 have huE := Tryz.underlying66; have huI := Tryz.underlying25; have huA := Tryz.underlying76; have huV := Tryz.underlying74; unfold event_Show.f at h; obtain ⟨t, ha, h⟩ := Option.bind_eq_some_iff.1 h; have cA := fun W (hb : Below w.heap.size w W) => event_Check.calls k a0_0 a0_1 a0_2 a0_3 A0_4 c0_4 l0_4 t W (Kd.C_below hr0_4 hb) hc0_4 (hT.below hb) ha
 have hb0 : Below w.heap.size w (w.alloc (.cells #[.int .i64 a0_0, .int .i64 a0_1, .int .i64 a0_2, .string a0_3, .slice A0_4 l0_4.length c0_4] 66)) := (Below.refl _ w).alloc (Nat.le_refl _) _; have HR := aM hr0_4; have HT := aM hT; have HB0 := aM hb0; clear hr0_4 hc0_4 hT ha hb0
 cases t with
 | false =>
  rw [if_neg (by decide)] at h; obtain rfl := sI h; go_enter Tryz.func52, Tryz.ntmps52; go_wp2_with (go_at_call 46; refine (cA _ HB0.out).mono ?_; rintro e w1 ⟨rfl, hb1⟩); go_ret; exact ⟨rfl, HB0.out.trans (hb1.mono HB0.out.size)⟩
 | true =>
  rw [if_pos rfl] at h; obtain ⟨u, hu, h⟩ := Option.bind_eq_some_iff.1 h
  by_cases hz : u.size + a0_3.size + 1 ≤ 140737488355328
  case neg => rw [if_neg hz] at h; cases h
  rw [if_pos hz] at h; have cN := fun W (hb : Below w.heap.size w W) => event_ShowID.calls a0_0 a0_1 a0_2 u W (HT.out.below hb) hu
  have z1 : (9223372036854775807 < u.size + 1) = False := eq_false (by omega); have z2 : (9223372036854775807 < u.size + 1 + a0_3.size) = False := eq_false (by omega); have z3 : (9223372036854775807 < (u ++ (⟨#[32]⟩ : ByteArray)).size + a0_3.size) = False := eq_false (by rw [ByteArray.size_append]; show ¬ _ < u.size + 1 + a0_3.size; omega); have H := aM h; have HZ := aM hz; clear h hu hz; go_enter Tryz.func52, Tryz.ntmps52; go_wp2_with (go_at_call 46; refine (cA _ HB0.out).mono ?_; rintro e w1 ⟨rfl, hb1⟩); have I0 := Lib.IsBuilderF.of (Lib.fresh_isBuilder 162 5 w1); have hlt1 : w.heap.size < w1.heap.size := Nat.lt_of_lt_of_le (by simp) hb1.size; have hw1 := HB0.out.trans (hb1.mono HB0.out.size); have hal : Below w1.heap.size w1 (w1.alloc (.cells #[.pointer none, .slice none 0 0] 162)) := (Below.refl _ w1).alloc (Nat.le_refl _) _; have X0 := blk_below (blk_below (heap_alloc_new w (.cells #[.int .i64 a0_0, .int .i64 a0_1, .int .i64 a0_2, .string a0_3, .slice A0_4 l0_4.length c0_4] 66)) hb1) hal; have hb5 := below_step hw1 hal; have hq5 : w1.heap.size ≤ (w1.alloc (.cells #[.pointer none, .slice none 0 0] 162)).heap.size := hal.size; have HLT := aM hlt1; clear hal hw1 hb1 hlt1 cA
  generalize w1.alloc (.cells #[.pointer none, .slice none 0 0] 162) = w5 at I0 X0 hb5 hq5 ⊢
  generalize w1.heap.size = B at I0 hq5 HLT ⊢
  have BX := aM (blk_drew X0); have HB := aM (below_drew1 hb5); have HI := aM (builderF_below I0 (below_drew1 (Below.refl _ w5))); have HQ := aM (show B ≤ w5.drew.heap.size from hq5); clear X0 hb5 I0 hq5; refine start_ (n := 8) (S := fun w' => w'.cell? ⟨w.heap.size, 0, none⟩ = some (.int .i64 a0_0) ∧ w'.cell? ⟨w.heap.size, 1, none⟩ = some (.int .i64 a0_1) ∧ w'.cell? ⟨w.heap.size, 2, none⟩ = some (.int .i64 a0_2) ∧ w'.cell? ⟨w.heap.size, 3, none⟩ = some (.string a0_3) ∧ w'.cell? ⟨w.heap.size, 4, none⟩ = some (.slice A0_4 l0_4.length c0_4)) (ds := [7]) (mkB 8 0) (by kernel_rfl) rfl rfl ⟨(blk_cell BX.out 0).trans rfl, (blk_cell BX.out 1).trans rfl, (blk_cell BX.out 2).trans rfl, (blk_cell BX.out 3).trans rfl, (blk_cell BX.out 4).trans rfl⟩ (fun hHeld => ?_); refine with_tabW event_Show.tab4 event_Show.bits4 (fun HT_ HW_ => ?_)
  generalize w5.drew = w6 at BX HB HI HQ hHeld ⊢
  refine pureA 0 (some 9) (mkB 8 1) ?_; refine takeA 1 (some 10) (mkB 8 3) ?_ rfl (Or.inl ⟨by rfl, by rintro w' ⟨s0, s1, s2, s3, s4⟩; go_simp; with_reducible rfl⟩); refine pureA 4 (some 13) (mkB 8 19) ?_; refine takeA 5 (some 14) (mkB 8 51) ?_ rfl (Or.inl ⟨by rfl, by rintro w' ⟨s0, s1, s2, s3, s4⟩; go_simp; with_reducible rfl⟩); refine oneA 2 (some 11) (mkB 8 55) (fun K hK => ?_); refine goesS Tryz.func56 #[.agg #[.int .i64 a0_0, .int .i64 a0_1, .int .i64 a0_2]] ?_; refine (cN _ HB.out).mono ?_; rintro e w7 ⟨rfl, hb⟩; refine ⟨_, rfl, ?_⟩; have n0_ := aM (blk_below BX.out hb); have n1_ := aM (below_step HB.out hb); have n2_ := aM (builderF_below HI.out hb); have n3_ := aM (Nat.le_trans HQ.out hb.size); clear BX HB HI HQ; have BX := n0_; have HB := n1_; have HI := n2_; have HQ := n3_; clear n0_ n1_ n2_ n3_ hb; refine hK.out _ _ ⟨(blk_cell BX.out 0).trans rfl, (blk_cell BX.out 1).trans rfl, (blk_cell BX.out 2).trans rfl, (blk_cell BX.out 3).trans rfl, (blk_cell BX.out 4).trans rfl⟩ (fun hHeld => ?_); clear hK K; refine normA ?_; refine pureA 3 (some 12) (mkB 8 63) ?_; refine pureA 6 (some 15) (mkB 8 127) ?_; refine last_ (i := 7) (N := some 16) (mkB 8 255) rfl rfl (one_of HT_.out (by kernel_rfl)) (by decide) (fun K hK => ?_); refine goesS Tryz.func109 #[.pointer (some ⟨B, 0, none⟩), .string ((u ++ (⟨#[32]⟩ : ByteArray)) ++ a0_3)] ?_; refine (Tryz.Bld_WriteString B B [] ((u ++ (⟨#[32]⟩ : ByteArray)) ++ a0_3) _ HI.out (by have := HZ.out; rw [ByteArray.size_append, ByteArray.size_append]; show 0 + (u.size + 1 + a0_3.size) ≤ _; omega) HQ.out).mono ?_; rintro e W9 ⟨he, h1, b1, k1⟩; obtain ⟨v16, rfl⟩ : ∃ v16, e = .returned v16 := ⟨_, he⟩; clear he; refine ⟨_, rfl, ?_⟩; refine hK.out _ _ ?_; clear hK K; refine normA ?_; refine done_ (done_of HT_.out (by kernel_rfl)) ?_; have I3 : Lib.IsBuilderF 162 5 B B (Lib.byteCells ((u ++ (⟨#[32]⟩ : ByteArray)) ++ a0_3).data.toList) W9 := by rw [← strCells_mk]; exact Or.inr h1
  have hbw3 : Below w.heap.size w W9 := HB.out.trans (b1.mono (Nat.le_of_lt HLT.out)); have hsz3 := aM (show B ≤ W9.heap.size from Nat.le_trans HQ.out b1.size); have x4 := (b1.cell (p := ⟨w.heap.size, 4, none⟩) HLT.out).trans ((blk_cell BX.out 4).trans rfl); clear BX HB HI HQ h1 b1 k1 cN z1 z2 z3 hHeld; go_wp2; clear x4
  go_loopw [20] (fun v20 wr => ∃ (x : Int) (acc : List UInt8), v20 = .int .i64 x ∧ Hid (0 ≤ x ∧ x ≤ (l0_4.length : Int)) ∧ Lib.IsBuilderF 162 5 B B (Lib.byteCells acc) wr ∧ Below w.heap.size w wr ∧ Hid (B ≤ wr.heap.size) ∧ Hid (event_Show.go k (l0_4.drop x.toNat) acc = some r)) (fun v20 _ => l0_4.length - (intOf v20).toNat)
  case atStart => exact ⟨0, ((u ++ (⟨#[32]⟩ : ByteArray)) ++ a0_3).data.toList, rfl, ⟨by omega, by omega⟩, I3, hbw3, Lib.hid hsz3.out, Lib.hid H.out⟩
  case round =>
   obtain ⟨x, acc, rfl, HX, hI, hbw, HS, HG⟩ := hrel; clear H I3 hbw3 hsz3; have hx := HX.out
   by_cases hlt : x < (l0_4.length : Int)
   ·have bb1 : decide (x < (l0_4.length : Int)) = true := dT hlt
    have p0 : 0 ≤ x := hx.1
    have hd : l0_4.drop x.toNat = (rd_T76 l0_4 x) :: l0_4.drop (x + 1).toNat := by
     have e : (x + 1).toNat = x.toNat + 1 := by omega
     have hn : x.toNat < l0_4.length := by omega
     rw [e, List.drop_eq_getElem_cons hn]; unfold rd_T76; rw [List.getD_eq_getElem?_getD, List.getElem?_eq_getElem hn]; rfl
    have hgo := HG.out; rw [hd, event_Show.go] at hgo; obtain ⟨t2, ho2, hgo⟩ := Option.bind_eq_some_iff.1 hgo
    by_cases hz : acc.length + ((rd_T76 l0_4 x).f0.size + t2.size + 2) ≤ 140737488355328
    case neg => rw [if_neg hz] at hgo; cases hgo
    rw [if_pos hz] at hgo; obtain ⟨ad, ead, hx0, hx1, hx2, hx3⟩ := at_T76 (Kd.C_below HR.out hbw) x p0 hlt
    cases ead
    have cV := fun W (hb : Below w.heap.size w W) => value_Show.calls k (rd_T76 l0_4 x).f1.f0 (rd_T76 l0_4 x).f1.f1 (rd_T76 l0_4 x).f1.f2 t2 W (HT.out.below hb) ho2
    have HG2 := Lib.hid hgo; have HZ2 := Lib.hid hz; have w1' := Lib.hid (show wrap64 (x + 1) = x + 1 by unfold wrap64; have := HR.out.2.1; omega); have z1 : (9223372036854775807 < 1 + (rd_T76 l0_4 x).f0.size) = False := eq_false (by omega); have z2 : (9223372036854775807 < 1 + (rd_T76 l0_4 x).f0.size + 1) = False := eq_false (by omega); have e1 : ((⟨#[32]⟩ : ByteArray) ++ (rd_T76 l0_4 x).f0).size = 1 + (rd_T76 l0_4 x).f0.size := ByteArray.size_append; have e2 : (((⟨#[32]⟩ : ByteArray) ++ (rd_T76 l0_4 x).f0) ++ (⟨#[61]⟩ : ByteArray)).size = 1 + (rd_T76 l0_4 x).f0.size + 1 := by rw [ByteArray.size_append, e1]; rfl
    have z3 : (9223372036854775807 < ((⟨#[32]⟩ : ByteArray) ++ (rd_T76 l0_4 x).f0).size + 1) = False := eq_false (by rw [e1]; omega); have z4 : (9223372036854775807 < 1 + (rd_T76 l0_4 x).f0.size + 1 + t2.size) = False := eq_false (by omega); have z5 : (9223372036854775807 < (((⟨#[32]⟩ : ByteArray) ++ (rd_T76 l0_4 x).f0) ++ (⟨#[61]⟩ : ByteArray)).size + t2.size) = False := eq_false (by rw [e2]; omega); have HE2 := aM e2; clear hd hgo ho2 HG HX hx hz e1 e2; have HX0 := Lib.hid (show 0 ≤ x by omega); have HB2 := Lib.hid (show 0 ≤ x + 1 ∧ x + 1 ≤ (l0_4.length : Int) by omega); replace p0 := eq_true p0; replace hlt := eq_true hlt; (try go_wp2_with (first | ((with_reducible refine gate_dst (N := 5) rfl ?_); refine boxA 5 #[.string (⟨#[]⟩ : ByteArray), .int .i64 0, .int .i64 0, .string (⟨#[]⟩ : ByteArray)] 76 ?_; intro gb hg w2 hbox hb; have Hg := Lib.hid hg; clear hg; have hcz := fun j => Lib.cell_of_heap hbox j; have hfz := fun j => blk_frozen hbox j; have hv4 := vputE hbox (.string (rd_T76 l0_4 x).f0) (.int .i64 (rd_T76 l0_4 x).f1.f0) (.int .i64 (rd_T76 l0_4 x).f1.f1) (.string (rd_T76 l0_4 x).f1.f2)))); have hb4 := bputE hb (show _ ≤ gb by rw [Hg.out]; exact Nat.le_refl _) (.string (rd_T76 l0_4 x).f0) (.int .i64 (rd_T76 l0_4 x).f1.f0) (.int .i64 (rd_T76 l0_4 x).f1.f1) (.string (rd_T76 l0_4 x).f1.f2); have BK0 := aM hv4; have HB0' := aM (below_step hbw hb4); have HI0 := aM (builderF_below hI hb4); have HQ0 := aM (Nat.le_trans HS.out hb4.size); clear hI hb hbw hb4 hcz hfz hv4 Hg hbox
    generalize ((((w2.setCell ⟨gb, 0, none⟩ (.string (rd_T76 l0_4 x).f0)).setCell ⟨gb, 1, none⟩ (.int .i64 (rd_T76 l0_4 x).f1.f0)).setCell ⟨gb, 2, none⟩ (.int .i64 (rd_T76 l0_4 x).f1.f1)).setCell ⟨gb, 3, none⟩ (.string (rd_T76 l0_4 x).f1.f2)) = w5' at BK0 HB0' HI0 HQ0 ⊢
    have HQ := aM (show B ≤ w5'.drew.heap.size from HQ0.out); have BK := aM (blk_drew BK0.out); have HB := aM (below_drew1 HB0'.out); have HI := aM (builderF_below HI0.out (below_drew1 (Below.refl _ w5'))); clear BK0 HB0' HI0 HQ0; refine start_ (n := 9) (S := fun w' => w'.cell? ⟨gb, 0, none⟩ = some (.string (rd_T76 l0_4 x).f0) ∧ w'.cell? ⟨gb, 1, none⟩ = some (.int .i64 (rd_T76 l0_4 x).f1.f0) ∧ w'.cell? ⟨gb, 2, none⟩ = some (.int .i64 (rd_T76 l0_4 x).f1.f1) ∧ w'.cell? ⟨gb, 3, none⟩ = some (.string (rd_T76 l0_4 x).f1.f2)) (ds := [8]) (mkB 9 0) (by kernel_rfl) rfl rfl ⟨(blk_cell BK.out 0).trans rfl, (blk_cell BK.out 1).trans rfl, (blk_cell BK.out 2).trans rfl, (blk_cell BK.out 3).trans rfl⟩ (fun hHeld => ?_); refine with_tabW event_Show.tab8 event_Show.bits8 (fun HT_ HW_ => ?_)
    generalize w5'.drew = w6 at BK HB HI HQ hHeld ⊢
    refine pureA 0 (some 24) (mkB 9 1) ?_; refine takeA 1 (some 25) (mkB 9 3) ?_ rfl (Or.inl ⟨by rfl, by rintro w' ⟨s0, s1, s2, s3⟩; go_simp; with_reducible rfl⟩); refine pureA 2 (some 26) (mkB 9 7) ?_; refine pureA 3 (some 27) (mkB 9 15) ?_; refine pureA 4 (some 28) (mkB 9 31) ?_; refine takeA 5 (some 29) (mkB 9 63) ?_ rfl (Or.inl ⟨by rfl, by rintro w' ⟨s0, s1, s2, s3⟩; go_simp; with_reducible rfl⟩); refine oneA 6 (some 30) (mkB 9 127) (fun K hK => ?_); refine goesS Tryz.func116 #[.agg #[.int .i64 (rd_T76 l0_4 x).f1.f0, .int .i64 (rd_T76 l0_4 x).f1.f1, .string (rd_T76 l0_4 x).f1.f2]] ?_; refine (cV _ HB.out).mono ?_; rintro e w8 ⟨rfl, hb⟩; refine ⟨_, rfl, ?_⟩; have n0_ := aM (blk_below (g := gb) (o := .cells #[.string (rd_T76 l0_4 x).f0, .int .i64 (rd_T76 l0_4 x).f1.f0, .int .i64 (rd_T76 l0_4 x).f1.f1, .string (rd_T76 l0_4 x).f1.f2] 76 (0, 0)) BK.out hb); have n1_ := aM (below_step HB.out hb); have n2_ := aM (builderF_below HI.out hb); have n3_ := aM (Nat.le_trans HQ.out hb.size); clear BK HB HI HQ; have BK := n0_; have HB := n1_; have HI := n2_; have HQ := n3_; clear n0_ n1_ n2_ n3_ hb; refine hK.out _ _ ⟨(blk_cell BK.out 0).trans rfl, (blk_cell BK.out 1).trans rfl, (blk_cell BK.out 2).trans rfl, (blk_cell BK.out 3).trans rfl⟩ (fun hHeld => ?_); clear hK K; refine normA ?_; refine pureA 7 (some 31) (mkB 9 255) ?_; refine last_ (i := 8) (N := some 32) (mkB 9 511) rfl rfl (one_of HT_.out (by kernel_rfl)) (by decide) (fun K hK => ?_); refine goesS Tryz.func109 #[.pointer (some ⟨B, 0, none⟩), .string ((((⟨#[32]⟩ : ByteArray) ++ (rd_T76 l0_4 x).f0) ++ (⟨#[61]⟩ : ByteArray)) ++ t2)] ?_; refine (Tryz.Bld_WriteString B B _ ((((⟨#[32]⟩ : ByteArray) ++ (rd_T76 l0_4 x).f0) ++ (⟨#[61]⟩ : ByteArray)) ++ t2) _ HI.out (by rw [Lib.byteCells_length, ByteArray.size_append, HE2.out]; have := HZ2.out; omega) HQ.out).mono ?_; rintro e W9' ⟨rfl, h1, b1, k1⟩; refine ⟨_, rfl, ?_⟩; refine hK.out _ _ ?_; clear hK K; refine normA ?_; refine done_ (done_of HT_.out (by kernel_rfl)) ?_; go_wp2
    go_roundw
    case rel => exact ⟨x + 1, acc ++ ((((⟨#[32]⟩ : ByteArray) ++ (rd_T76 l0_4 x).f0) ++ (⟨#[61]⟩ : ByteArray)) ++ t2).data.toList, (by rw [w1'.out]), HB2, (by rw [Lib.byteCells_append, ← strCells_mk]; exact Or.inr h1), HB.out.trans (b1.mono (Nat.le_of_lt HLT.out)), Lib.hid (Nat.le_trans HQ.out b1.size), HG2⟩
    case measure =>
     have e1 := w1'.out; have e2 := HB2.out; have e3 := HX0.out
     show l0_4.length - (intOf (.int .i64 (wrap64 (x + 1)))).toNat < l0_4.length - (intOf (.int .i64 x)).toNat
     rw [e1]; simp only [intOf]
     omega
   ·have bb1 : decide (x < (l0_4.length : Int)) = false := dF hlt
    have hgo := HG.out; rw [List.drop_of_length_le (by omega), event_Show.go] at hgo; obtain rfl := sI hgo; clear HG HX hx hlt hgo; go_wp2_with fail; refine (Tryz.Builder_String_any_k B B acc _ hI HS.out).mono ?_; rintro e W4 ⟨rfl, _, b4, _⟩; go_wp2; go_ret; exact ⟨rfl, hbw.trans (b4.mono (Nat.le_of_lt HLT.out))⟩
def event_number.l0 : Nat → ByteArray → Int → Int → Int → Option (Int)
 | 0, _, _, _, _ => none
 | k + 1, x0, x3, x9, x10 => if x10 < x9 then (if 0 ≤ x10 then (if x10 < (x0.size : Int) then (if (bt x0 x10) < 48 then (none) else (if (bt x0 x10) > 57 then (none) else (event_number.l0 k x0 (wrap64 ((wrap64 (10 * x3)) + (((bt x0 x10) - 48) % 256))) x9 (wrap64 (x10 + 1))))) else (none)) else (none)) else (some x3)
def event_number.f (k : Nat) (a0 : ByteArray) : Option (Int) := if (a0.size : Int) > 13 then (none) else (event_number.l0 k a0 0 (a0.size : Int) 0)
theorem event_number.mono_l : ∀ k, (∀ y0 y1 y2 y3, LeO (event_number.l0 k y0 y1 y2 y3) (event_number.l0 (k + 1) y0 y1 y2 y3))
 | 0 => fun _ _ _ _ r h => by simp [event_number.l0] at h
 | k + 1 => by
  have ih0 := event_number.mono_l k
  ·intro y0 y1 y2 y3
   unfold event_number.l0
   repeat' (with_reducible first | exact ih0 _ _ _ _ | exact LeO.refl _ | exact LeO.none _ | refine LeO.ite ?_ ?_ | refine LeO.bind ?_ (fun _ => ?_))
theorem event_number.mono : ∀ a0 k, LeO (event_number.f k a0) (event_number.f (k + 1) a0) := by
 intro a0 k; have ih0 := event_number.mono_l k; unfold event_number.f
 repeat' (with_reducible first | exact ih0 _ _ _ _ | exact LeO.refl _ | exact LeO.none _ | refine LeO.ite ?_ ?_ | refine LeO.bind ?_ (fun _ => ?_))
theorem event_number.calls (k : Nat) (a0 : ByteArray) (r : Int) (w : World) (h : event_number.f k a0 = some r) :
  Calls Tryz.prog 136 #[.string a0] w fun e w' => e = .returned (.int .i64 r) ∧ Drawn0 w w' := by
 unfold event_number.f at h; have H := h; clear h; replace H := itM H; obtain ⟨c2, H⟩ := H; have c2b0 := gtF c2; have c2b1 : decide (13 < a0.size) = false := dF (by omega); clear c2; have H' := aM H; clear H; go_enter Tryz.func136, Tryz.ntmps136; go_wp2
 go_loopg [3, 10] k (fun kq v3 v10 w' => ∃ (x3_1 : Int) (x10_1 : Int), v3 = .int .i64 x3_1 ∧ v10 = .int .i64 x10_1 ∧ Aside0 (event_number.l0 kq a0 x3_1 (a0.size : Int) x10_1 = some r) ∧ Aside0 (kq ≤ k) ∧ Drawn0 w w')
 case atStart => exact ⟨(0), (0), (endS), (endS), H', ⟨Nat.le_refl _⟩, drA⟩
 case round =>
  clear H'; (try clear c1); (try clear c2); (try clear c2b0); (try clear c2b1); (try clear p2); (try clear c13); obtain ⟨x3_1, x10_1, rfl, rfl, HA, HK1, ⟨m1, rfl⟩⟩ := hrel
  cases gk with
  | zero => exact absurd HA.out (by simp [event_number.l0])
  | succ k1 =>
   have H := HA.out; clear HA; simp only [event_number.l0] at H; revert H; refine itR ?L2p ?L2n
   case' L2p =>
    intro c101 H; have c101b0 := dT c101; clear c101; replace H := itN H; obtain ⟨c102, H⟩ := H; have c102b0 := dT c102; clear c102; replace H := itN H; obtain ⟨c103, H⟩ := H; have c103b0 := dT c103; clear c103; replace H := itM H; obtain ⟨c105, H⟩ := H; have c105b0 := dF c105; clear c105; replace H := itM H; obtain ⟨c107, H⟩ := H; have c107b0 := gtF c107; clear c107; have H' := aM H; clear H; have p104 : 0 ≤ (x10_1 : Int) := odA; have q104 : x10_1 < (a0.size : Int) := odA; have hx104 := bt_at a0 x10_1; replace p104 := eq_true p104; replace q104 := eq_true q104; have p106 : 0 ≤ (x10_1 : Int) := odA; have q106 : x10_1 < (a0.size : Int) := odA; have hx106 := bt_at a0 x10_1; replace p106 := eq_true p106; replace q106 := eq_true q106; have p108 : 0 ≤ (x10_1 : Int) := odA; have q108 : x10_1 < (a0.size : Int) := odA; have hx108 := bt_at a0 x10_1; replace p108 := eq_true p108; replace q108 := eq_true q108; go_wp2
    go_roundg k1
    case measure => have := HK1.out; omega
    case rel => exact ⟨(wrap64 ((wrap64 (10 * x3_1)) + (((bt a0 x10_1) - 48) % 256))), (wrap64 (x10_1 + 1)), (endS), (endS), H', ⟨by have := HK1.out; omega⟩, drA⟩
   case' L2n =>
    intro c101 H; have c101b0 := dF c101; clear c101; obtain rfl := sI H; go_wp2; go_ret; exact ⟨endS, drA⟩
def event_ParseID.f (k : Nat) (a0 : ByteArray) : Option (Int × Int × Int × Int) := (strings_Split.f a0 (⟨#[46]⟩ : ByteArray)).bind fun t182 => (if (t182.length : Int) = 3 then (if 0 < (t182.length : Int) then ((event_number.f k (rdOf ByteArray.empty t182 0)).bind fun t186 => (if 1 < (t182.length : Int) then ((event_number.f k (rdOf ByteArray.empty t182 1)).bind fun t188 => (if 2 < (t182.length : Int) then ((event_number.f k (rdOf ByteArray.empty t182 2)).bind fun t190 => (if a0.toList = ([] : List UInt8) then (none) else ((event_ShowID.f t186 t188 t190).bind fun t192 => (if t192.toList = a0.toList then (some (t186, t188, t190, 0)) else (none))))) else (none))) else (none))) else (none)) else (none))
theorem event_ParseID.mono : ∀ a0 k, LeO (event_ParseID.f k a0) (event_ParseID.f (k + 1) a0) := by
 intro a0 k; unfold event_ParseID.f
 repeat' (with_reducible first | exact event_number.mono _ _ | exact LeO.refl _ | exact LeO.none _ | refine LeO.ite ?_ ?_ | refine LeO.bind ?_ (fun _ => ?_))
def event_ParseID.T4 : Bool × List (List Nat × List Nat) := (true, [([], []), ([0], [0]), ([1], [1]), ([2], [2]), ([], []), ([4], [4]), ([5], [5]), ([6, 3], [6]), ([], []), ([8], [8]), ([9], [9]), ([10, 7], [10]), ([3, 7, 11], [3, 7, 11]), ([], []), ([13, 12, 11, 0, 1, 2, 3, 4, 5, 6, 7, 8, 9, 10, 11, 12, 13], [12, 13])])
def event_ParseID.B4 : List Nat := [0, 1, 3, 7, 0, 16, 48, 127, 0, 256, 768, 2047, 4095, 0, 16383]
theorem event_ParseID.tab4 : rtab .any (opsOf Tryz.f66 4) = event_ParseID.T4 := by kernel_rfl
theorem event_ParseID.bits4 : waitsOk event_ParseID.T4.2 event_ParseID.B4 = true := by kernel_rfl
theorem event_ParseID.calls (k : Nat) (a0 : ByteArray) (r1 : Int) (r2 : Int) (r3 : Int) (r4 : Int) (w : World) (hT : Tabs w) (h : event_ParseID.f k a0 = some (r1, r2, r3, r4)) :
  Calls Tryz.prog 66 #[.string a0] w fun e w' => e = .returned (.tuple #[.agg #[.int .i64 r1, .int .i64 r2, .int .i64 r3], .int .i64 r4]) ∧ Below w.heap.size w w' := by
 have hu25 := Tryz.underlying25; have HB := aM (Below.refl w.heap.size w); unfold event_ParseID.f at h; have H := h; clear h; have HT := aM hT; clear hT; replace H := bnA H; obtain ⟨t182, A2, H⟩ := H; replace H := itN H; obtain ⟨c3, H⟩ := H; obtain ⟨c3b0, c3b1⟩ := fcE c3; clear c3; replace H := itN H; obtain ⟨c4, H⟩ := H; have c4b0 := dT c4; have c4b1 : decide (0 < t182.length) = true := dT (by omega); clear c4; replace H := bnA H; obtain ⟨t186, A5, H⟩ := H; replace H := itN H; obtain ⟨c6, H⟩ := H; have c6b0 := dT c6; have c6b1 : decide (1 < t182.length) = true := dT (by omega); clear c6; replace H := bnA H; obtain ⟨t188, A7, H⟩ := H; replace H := itN H; obtain ⟨c8, H⟩ := H; have c8b0 := dT c8; have c8b1 : decide (2 < t182.length) = true := dT (by omega); clear c8; replace H := bnA H; obtain ⟨t190, A9, H⟩ := H; replace H := itM H; obtain ⟨c10, H⟩ := H; obtain ⟨c10b0, c10b1⟩ := fcN c10; replace H := bnA H; obtain ⟨t192, A11, H⟩ := H; replace H := itN H; obtain ⟨c12, H⟩ := H; obtain ⟨c12b0, c12b1⟩ := fcE c12; clear c12; obtain ⟨rfl, rfl, rfl, rfl⟩ := sJ4 H; go_enter Tryz.func66, Tryz.ntmps66; (try go_wp2_with (first | ((with_reducible refine gate_dst (N := 2) rfl ?_); refine boxB 2 #[.int .i64 0, .int .i64 0, .int .i64 0] 25 HB ?_; clear HB; intro gb181 w101 BK181 GW181 GE181 HB) | ((with_reducible refine gate_callee (f := 135) rfl ?_); refine goesA (some 7) Tryz.func135 #[.string a0, .string (⟨#[46]⟩ : ByteArray)] ?_; (with_reducible refine (strings_Split.calls _ _ _ _ ?side1 A2.out).mono ?_); (case side1 => exact Tabs.below HT.out (bwA)); rintro e w102 ⟨v183, rfl, ho0, hb⟩; refine ⟨_, rfl, ?_⟩; have HO184 := aM (Kd.R_lower ho0 (below_size (bwA))); replace BK181 := aM (bkB BK181 hb); replace HB := aM (below_step (bwA) hb); (try clear hb); (try clear ho0); obtain ⟨Ao103, co103, eo103⟩ := Kd.R_slice HO184.out; subst eo103))); replace HO184 := aM (Kd.R_drew HO184.out); replace BK181 := aM (blk_drew BK181.out); replace HB := aM (below_drew1 HB.out); have p185 : 0 ≤ (0 : Int) := (by omega); have q185 : 0 < (t182.length : Int) := odA; obtain ⟨ad185, e185, hx185_0⟩ := Kd.at_string (Kd.R_reads' HO184.out).2.2 0 p185 q185
 cases e185
 have qi185 : (0 < t182.length) = True := eq_true (by omega)
 (try rw [show ((0 : Int)).toNat = 0 from rfl] at hx185_0)
 (try rw [Addr.add_zero'] at hx185_0)
 replace p185 := eq_true p185; replace q185 := eq_true q185; have p187 : 0 ≤ (1 : Int) := (by omega); have q187 : 1 < (t182.length : Int) := odA; obtain ⟨ad187, e187, hx187_0⟩ := Kd.at_string (Kd.R_reads' HO184.out).2.2 1 p187 q187; obtain rfl : ad185 = ad187 := (by injection e187)
 (try simp only [show (1 : Int).toNat = 1 from rfl, Nat.reduceMul, Nat.reduceEqDiff, Go.Addr.add, ↓reduceIte] at hx187_0)
 have qi187 : (1 < t182.length) = True := eq_true (by omega)
 (try rw [show ((1 : Int)).toNat = 1 from rfl] at hx187_0)
 replace p187 := eq_true p187; replace q187 := eq_true q187; have p189 : 0 ≤ (2 : Int) := (by omega); have q189 : 2 < (t182.length : Int) := odA; obtain ⟨ad189, e189, hx189_0⟩ := Kd.at_string (Kd.R_reads' HO184.out).2.2 2 p189 q189; obtain rfl : ad185 = ad189 := (by injection e189)
 (try simp only [show (2 : Int).toNat = 2 from rfl, Nat.reduceMul, Nat.reduceEqDiff, Go.Addr.add, ↓reduceIte] at hx189_0)
 have qi189 : (2 < t182.length) = True := eq_true (by omega)
 (try rw [show ((2 : Int)).toNat = 2 from rfl] at hx189_0)
 replace p189 := eq_true p189; replace q189 := eq_true q189; refine start_ (n := 15) (S := fun w' => w'.cell? ad185 = some (.string (rdOf ByteArray.empty t182 0)) ∧ w'.cell? ⟨ad185.block, ad185.off + 1, none⟩ = some (.string (rdOf ByteArray.empty t182 1)) ∧ w'.cell? ⟨ad185.block, ad185.off + 2, none⟩ = some (.string (rdOf ByteArray.empty t182 2))) (ds := []) (mkB 15 0) (by kernel_rfl) rfl rfl ⟨hx185_0, hx187_0, hx189_0⟩ (fun hHeld => ?_); refine with_tabW event_ParseID.tab4 event_ParseID.bits4 (fun HT_ HW_ => ?_)
 generalize w102.drew = w104 at HO184 BK181 HB hx185_0 hx187_0 hx189_0 hHeld ⊢
 refine pureA 0 (some 12) (mkB 15 1) ?_; refine pureA 1 (some 13) (mkB 15 3) ?_; refine pureA 4 (some 16) (mkB 15 19) ?_; refine pureA 5 (some 17) (mkB 15 51) ?_; refine pureA 8 (some 20) (mkB 15 307) ?_; refine pureA 9 (some 21) (mkB 15 819) ?_; refine takeA 2 (some 14) (mkB 15 823) ?_ rfl (Or.inl ⟨by rfl, by rintro w' ⟨s0, s1, s2⟩; go_simp; with_reducible rfl⟩); refine takeA 6 (some 18) (mkB 15 887) ?_ rfl (Or.inl ⟨by rfl, by rintro w' ⟨s0, s1, s2⟩; go_simp; with_reducible rfl⟩); refine takeA 10 (some 22) (mkB 15 1911) ?_ rfl (Or.inl ⟨by rfl, by rintro w' ⟨s0, s1, s2⟩; go_simp; with_reducible rfl⟩); refine join_ (σ := Nat) 1 (mkB 15 16383) (fun s_ => [(15, .int .i64 t186), (19, .int .i64 t188), (23, .int .i64 t190), (5, .pointer (some ⟨s_, 0, none⟩)), (24, .agg #[.int .i64 t186, .int .i64 t188, .int .i64 t190])]) (fun s_ w' => (w'.cell? ad185 = some (.string (rdOf ByteArray.empty t182 0)) ∧ w'.cell? ⟨ad185.block, ad185.off + 1, none⟩ = some (.string (rdOf ByteArray.empty t182 1)) ∧ w'.cell? ⟨ad185.block, ad185.off + 2, none⟩ = some (.string (rdOf ByteArray.empty t182 2))) ∧ (Kd.R Kd.string 9 w' w.heap.size (fun _ => True) (.slice (some ad185) t182.length co103) t182) ∧ (w'.heap[gb181]? = some (.cells #[.int .i64 0, .int .i64 0, .int .i64 0] 25 (0, 0))) ∧ (w'.heap[s_]? = some (.cells #[.int .i64 0, .int .i64 0, .int .i64 0] 25 (0, 0))) ∧ (w.heap.size ≤ s_) ∧ (w.heap.size ≤ s_) ∧ (gb181 ≠ s_) ∧ (s_ ≠ gb181) ∧ (Below w.heap.size w w')) ?_ ?_; rotate_left
 ·intro hCont
  refine two_ (i := 3) (j := 13) (Ni := some 15) (Nj := some 5) (mkB 15 1919) (mkB 15 10103) rfl rfl rfl rfl (two_of HT_.out (by kernel_rfl)) (by decide) (by decide) (fun K hK => ?_) (fun K hK => ?_)
  ·skip
   refine goesS Tryz.func136 #[.string (rdOf ByteArray.empty t182 0)] ?_
   with_reducible refine (event_number.calls _ _ _ _ A5.out).mono ?_
   rintro e w' ⟨rfl, ⟨nd, rfl⟩⟩; refine ⟨_, rfl, ?_⟩; refine hK.out _ _ ⟨hHeld.1, hHeld.2.1, hHeld.2.2⟩ (fun hHeld => ?_); clear hK K; refine normA ?_; refine two_ (i := 7) (j := 13) (Ni := some 19) (Nj := some 5) (mkB 15 2047) (mkB 15 10111) rfl rfl rfl rfl (two_of HT_.out (by kernel_rfl)) (by decide) (by decide) (fun K hK => ?_) (fun K hK => ?_)
   ·skip
    refine goesS Tryz.func136 #[.string (rdOf ByteArray.empty t182 1)] ?_
    with_reducible refine (event_number.calls _ _ _ _ A7.out).mono ?_
    rintro e w' ⟨rfl, ⟨nd, rfl⟩⟩; refine ⟨_, rfl, ?_⟩; refine hK.out _ _ ⟨hHeld.1, hHeld.2.1, hHeld.2.2⟩ (fun hHeld => ?_); clear hK K; refine normA ?_; refine two_ (i := 11) (j := 13) (Ni := some 23) (Nj := some 5) (mkB 15 4095) (mkB 15 10239) rfl rfl rfl rfl (two_of HT_.out (by kernel_rfl)) (by decide) (by decide) (fun K hK => ?_) (fun K hK => ?_)
    ·skip
     refine goesS Tryz.func136 #[.string (rdOf ByteArray.empty t182 2)] ?_
     with_reducible refine (event_number.calls _ _ _ _ A9.out).mono ?_
     rintro e w' ⟨rfl, ⟨nd, rfl⟩⟩; refine ⟨_, rfl, ?_⟩; refine hK.out _ _ ⟨hHeld.1, hHeld.2.1, hHeld.2.2⟩ (fun hHeld => ?_); clear hK K; refine normA ?_; refine pureA 12 (some 24) (mkB 15 8191) ?_; refine oneA 13 (some 5) (mkB 15 16383) (fun K hK => ?_); refine boxS 5 #[.int .i64 0, .int .i64 0, .int .i64 0] 25 ?_; intro gb191 hg w105 hbox hb; have HS0_ := hbC hHeld.1 hb; have HS1_ := hbC hHeld.2.1 hb; have HS2_ := hbC hHeld.2.2 hb; have BK191 := aM (hbox); have GW191 := aM (hgW hg : w.heap.size ≤ gb191); have GE191 := aM (hgW hg : w.heap.size ≤ gb191); have NB181_191 := aM (hgL hg BK181 : gb181 ≠ gb191); have NB191_181 := aM (hgG hg BK181 : gb191 ≠ gb181); replace HO184 := aM (Kd.R_below (raA HO184.out) hb); replace BK181 := aM (bkB BK181 hb); replace HB := aM (below_step (bwA) hb); clear hb hbox hg; refine hK.out _ _ ⟨HS0_, HS1_, HS2_⟩ (fun hHeld => ?_); clear hK K; refine normA ?_; exact norm_ (by first | (simp only [putAll, Act.put, List.setIfInBounds_toArray, List.set_cons_zero, List.set_cons_succ]; done) | rfl) (hCont (gb191) _ ⟨hHeld, (raA HO184.out), blkA, blkA, GW191.out, GE191.out, NB181_191.out, NB191_181.out, (bwA)⟩)
    ·skip
     refine boxS 5 #[.int .i64 0, .int .i64 0, .int .i64 0] 25 ?_; intro gb191 hg w105 hbox hb; have HS0_ := hbC hHeld.1 hb; have HS1_ := hbC hHeld.2.1 hb; have HS2_ := hbC hHeld.2.2 hb; have BK191 := aM (hbox); have GW191 := aM (hgW hg : w.heap.size ≤ gb191); have GE191 := aM (hgW hg : w.heap.size ≤ gb191); have NB181_191 := aM (hgL hg BK181 : gb181 ≠ gb191); have NB191_181 := aM (hgG hg BK181 : gb191 ≠ gb181); replace HO184 := aM (Kd.R_below (raA HO184.out) hb); replace BK181 := aM (bkB BK181 hb); replace HB := aM (below_step (bwA) hb); clear hb hbox hg; refine hK.out _ _ ⟨HS0_, HS1_, HS2_⟩ (fun hHeld => ?_); clear hK K; refine normA ?_; refine oneA 11 (some 23) (mkB 15 12287) (fun K hK => ?_); refine goesS Tryz.func136 #[.string (rdOf ByteArray.empty t182 2)] ?_
     with_reducible refine (event_number.calls _ _ _ _ A9.out).mono ?_
     rintro e w' ⟨rfl, ⟨nd, rfl⟩⟩; refine ⟨_, rfl, ?_⟩; refine hK.out _ _ ⟨hHeld.1, hHeld.2.1, hHeld.2.2⟩ (fun hHeld => ?_); clear hK K; refine normA ?_; refine pureA 12 (some 24) (mkB 15 16383) ?_; exact norm_ (by first | (simp only [putAll, Act.put, List.setIfInBounds_toArray, List.set_cons_zero, List.set_cons_succ]; done) | rfl) (hCont (gb191) _ ⟨hHeld, (raA HO184.out), blkA, blkA, GW191.out, GE191.out, NB181_191.out, NB191_181.out, (bwA)⟩)
   ·skip
    refine boxS 5 #[.int .i64 0, .int .i64 0, .int .i64 0] 25 ?_; intro gb191 hg w105 hbox hb; have HS0_ := hbC hHeld.1 hb; have HS1_ := hbC hHeld.2.1 hb; have HS2_ := hbC hHeld.2.2 hb; have BK191 := aM (hbox); have GW191 := aM (hgW hg : w.heap.size ≤ gb191); have GE191 := aM (hgW hg : w.heap.size ≤ gb191); have NB181_191 := aM (hgL hg BK181 : gb181 ≠ gb191); have NB191_181 := aM (hgG hg BK181 : gb191 ≠ gb181); replace HO184 := aM (Kd.R_below (raA HO184.out) hb); replace BK181 := aM (bkB BK181 hb); replace HB := aM (below_step (bwA) hb); clear hb hbox hg; refine hK.out _ _ ⟨HS0_, HS1_, HS2_⟩ (fun hHeld => ?_); clear hK K; refine normA ?_; refine oneA 7 (some 19) (mkB 15 10239) (fun K hK => ?_); refine goesS Tryz.func136 #[.string (rdOf ByteArray.empty t182 1)] ?_
    with_reducible refine (event_number.calls _ _ _ _ A7.out).mono ?_
    rintro e w' ⟨rfl, ⟨nd, rfl⟩⟩; refine ⟨_, rfl, ?_⟩; refine hK.out _ _ ⟨hHeld.1, hHeld.2.1, hHeld.2.2⟩ (fun hHeld => ?_); clear hK K; refine normA ?_; refine oneA 11 (some 23) (mkB 15 12287) (fun K hK => ?_); refine goesS Tryz.func136 #[.string (rdOf ByteArray.empty t182 2)] ?_
    with_reducible refine (event_number.calls _ _ _ _ A9.out).mono ?_
    rintro e w' ⟨rfl, ⟨nd, rfl⟩⟩; refine ⟨_, rfl, ?_⟩; refine hK.out _ _ ⟨hHeld.1, hHeld.2.1, hHeld.2.2⟩ (fun hHeld => ?_); clear hK K; refine normA ?_; refine pureA 12 (some 24) (mkB 15 16383) ?_; exact norm_ (by first | (simp only [putAll, Act.put, List.setIfInBounds_toArray, List.set_cons_zero, List.set_cons_succ]; done) | rfl) (hCont (gb191) _ ⟨hHeld, (raA HO184.out), blkA, blkA, GW191.out, GE191.out, NB181_191.out, NB191_181.out, (bwA)⟩)
  ·skip
   refine boxS 5 #[.int .i64 0, .int .i64 0, .int .i64 0] 25 ?_; intro gb191 hg w105 hbox hb; have HS0_ := hbC hHeld.1 hb; have HS1_ := hbC hHeld.2.1 hb; have HS2_ := hbC hHeld.2.2 hb; have BK191 := aM (hbox); have GW191 := aM (hgW hg : w.heap.size ≤ gb191); have GE191 := aM (hgW hg : w.heap.size ≤ gb191); have NB181_191 := aM (hgL hg BK181 : gb181 ≠ gb191); have NB191_181 := aM (hgG hg BK181 : gb191 ≠ gb181); replace HO184 := aM (Kd.R_below (raA HO184.out) hb); replace BK181 := aM (bkB BK181 hb); replace HB := aM (below_step (bwA) hb); clear hb hbox hg; refine hK.out _ _ ⟨HS0_, HS1_, HS2_⟩ (fun hHeld => ?_); clear hK K; refine normA ?_; refine oneA 3 (some 15) (mkB 15 10111) (fun K hK => ?_); refine goesS Tryz.func136 #[.string (rdOf ByteArray.empty t182 0)] ?_
   with_reducible refine (event_number.calls _ _ _ _ A5.out).mono ?_
   rintro e w' ⟨rfl, ⟨nd, rfl⟩⟩; refine ⟨_, rfl, ?_⟩; refine hK.out _ _ ⟨hHeld.1, hHeld.2.1, hHeld.2.2⟩ (fun hHeld => ?_); clear hK K; refine normA ?_; refine oneA 7 (some 19) (mkB 15 10239) (fun K hK => ?_); refine goesS Tryz.func136 #[.string (rdOf ByteArray.empty t182 1)] ?_
   with_reducible refine (event_number.calls _ _ _ _ A7.out).mono ?_
   rintro e w' ⟨rfl, ⟨nd, rfl⟩⟩; refine ⟨_, rfl, ?_⟩; refine hK.out _ _ ⟨hHeld.1, hHeld.2.1, hHeld.2.2⟩ (fun hHeld => ?_); clear hK K; refine normA ?_; refine oneA 11 (some 23) (mkB 15 12287) (fun K hK => ?_); refine goesS Tryz.func136 #[.string (rdOf ByteArray.empty t182 2)] ?_
   with_reducible refine (event_number.calls _ _ _ _ A9.out).mono ?_
   rintro e w' ⟨rfl, ⟨nd, rfl⟩⟩; refine ⟨_, rfl, ?_⟩; refine hK.out _ _ ⟨hHeld.1, hHeld.2.1, hHeld.2.2⟩ (fun hHeld => ?_); clear hK K; refine normA ?_; refine pureA 12 (some 24) (mkB 15 16383) ?_; exact norm_ (by first | (simp only [putAll, Act.put, List.setIfInBounds_toArray, List.set_cons_zero, List.set_cons_succ]; done) | rfl) (hCont (gb191) _ ⟨hHeld, (raA HO184.out), blkA, blkA, GW191.out, GE191.out, NB181_191.out, NB191_181.out, (bwA)⟩)
 rintro gb191 w106 ⟨hS_, h0_, h1_, h2_, h3_, h4_, h5_, h6_, h7_⟩; have n0_ := aM h0_; have n1_ := aM h1_; have n2_ := aM h2_; have n3_ := aM h3_; have n4_ := aM h4_; have n5_ := aM h5_; have n6_ := aM h6_; have n7_ := aM h7_; clear HO184 BK181 HB h0_ h1_ h2_ h3_ h4_ h5_ h6_ h7_; have HO184 := n0_; have BK181 := n1_; have BK191 := n2_; have GW191 := n3_; have GE191 := n4_; have NB181_191 := n5_; have NB191_181 := n6_; have HB := n7_; clear n0_ n1_ n2_ n3_ n4_ n5_ n6_ n7_; have hHeld := hS_; refine norm_ (a' := ?_) ?_ ?_; rotate_left
 ·simp only [putAll, Act.put, List.setIfInBounds_toArray, List.set_cons_zero, List.set_cons_succ]
  rfl
 refine oneA 14 (none) (mkB 15 32767) (fun K hK => ?_); have hs107 : w106.cell? ⟨gb191, 0, none⟩ = some (.int .i64 0) := (blk_cell BK191.out 0).trans rfl; have hfs107 := blk_frozen BK191.out 0; have hns107_0 := NB181_191.out; have hms107_0 := NB191_181.out; have hs108 : w106.cell? ⟨gb191, 1, none⟩ = some (.int .i64 0) := (blk_cell BK191.out 1).trans rfl; have hfs108 := blk_frozen BK191.out 1; have hns108_0 := NB181_191.out; have hms108_0 := NB191_181.out; have hs109 : w106.cell? ⟨gb191, 2, none⟩ = some (.int .i64 0) := (blk_cell BK191.out 2).trans rfl; have hfs109 := blk_frozen BK191.out 2; have hns109_0 := NB181_191.out; have hms109_0 := NB191_181.out; refine skip_ (w1 := ?_) (by rfl) rfl ?_ ?_; rotate_left
 ·go_simp
  rfl
 have nz0_ := aM (Kd.own_blk (Kd.R_ne HO184.out BK191.out (by decide))); refine hK.out _ _ ⟨far3 nz0_.out hHeld.1, far3 nz0_.out hHeld.2.1, far3 nz0_.out hHeld.2.2⟩ (fun hHeld => ?_); clear hK K; refine done_ (done_of HT_.out (by kernel_rfl)) ?_; have hnb110 := NB191_181.out; have hnc110 := NB181_191.out; obtain ⟨hcz111_0, hcz111_1, hcz111_2⟩ := cel3 BK191.out; obtain ⟨hfz111_0, hfz111_1, hfz111_2⟩ := frz3 BK191.out; (try go_wp2_with (first | (go_at_call 56; (with_reducible refine (event_ShowID.calls _ _ _ _ _ ?side1 A11.out).mono ?_); (case side1 => exact Tabs.below HT.out (bwA)); rintro e w112 ⟨rfl, hb⟩; replace HO184 := aM (Kd.R_below (raA (Kd.R_mono (Kd.R_far (p := ⟨gb191, 2, none⟩) (Kd.R_far (p := ⟨gb191, 1, none⟩) (Kd.R_far (p := ⟨gb191, 0, none⟩) (Kd.R_types HO184.out BK191.out (by decide)) (fun _ hk => hk.2) (.int .i64 t186)) (fun _ hk => hk.2) (.int .i64 t188)) (fun _ hk => hk.2) (.int .i64 t190)) (fun _ h_ => h_.1))) hb); replace BK181 := aM (blk_below (g := gb181) (o := .cells #[.int .i64 0, .int .i64 0, .int .i64 0] 25 (0, 0)) blkZ hb); replace BK191 := aM (blk_below (g := gb191) (o := .cells #[.int .i64 t186, .int .i64 t188, .int .i64 t190] 25 (0, 0)) blkZ hb); replace HB := aM (below_step (bwA) hb); (try clear hb); obtain ⟨hcz113_0, hcz113_1, hcz113_2⟩ := cel3 BK191.out; obtain ⟨hfz113_0, hfz113_1, hfz113_2⟩ := frz3 BK191.out; obtain ⟨hcz114_0, hcz114_1, hcz114_2⟩ := cel3 BK181.out; obtain ⟨hfz114_0, hfz114_1, hfz114_2⟩ := frz3 BK181.out))); refine bodyPost_ret (results_ct rfl _ _ gb181 25 #[.int .i64 t186, .int .i64 t188, .int .i64 t190] (0, 0) _ rfl blkZ Tryz.underlying25 rfl (by kernel_rfl)) rfl ?_; exact ⟨endA, bwA⟩
def strings_Cut.f (a0 : ByteArray) (a1 : ByteArray) : Option (ByteArray × ByteArray × Bool) := if a0.size < 4294967281 then some (⟨(Lib.cut a0.data.toList a1.data.toList).1.toArray⟩, ⟨(Lib.cut a0.data.toList a1.data.toList).2.1.toArray⟩, (Lib.cut a0.data.toList a1.data.toList).2.2) else none
theorem strings_Cut.calls (a0 : ByteArray) (a1 : ByteArray) (r1 : ByteArray) (r2 : ByteArray) (r3 : Bool) (w : World) (hT : Tabs w) (h : strings_Cut.f a0 a1 = some (r1, r2, r3)) :
  Calls Tryz.prog 132 #[.string a0, .string a1] w fun e w' => e = .returned (.tuple #[.string r1, .string r2, .bool r3]) ∧ Drawn0 w w' := by
 unfold strings_Cut.f at h
 split at h
 ·rename_i hs
  have h := sI h; simp only [Prod.mk.injEq] at h; obtain ⟨rfl, rfl, rfl⟩ := h; obtain ⟨m, hm⟩ := hT.ml; exact (Tryz.strings_Cut a0 a1 m w hs hm).mono fun e w' ⟨he, n, hw⟩ => ⟨he, ⟨n, hw⟩⟩
 ·cases h
def stringslite_HasPrefix.f (a0 : ByteArray) (a1 : ByteArray) : Option (Bool) := if (a0.size : Int) ≥ (a1.size : Int) then (if 0 ≤ (a1.size : Int) then (if (a1.size : Int) ≤ (a0.size : Int) then (some ((a0.extract 0 ((a1.size : Int) : Int).toNat).toList == a1.toList)) else (none)) else (none)) else (none)
theorem stringslite_HasPrefix.calls (a0 : ByteArray) (a1 : ByteArray) (r : Bool) (w : World) (h : stringslite_HasPrefix.f a0 a1 = some r) :
  Calls Tryz.prog 259 #[.string a0, .string a1] w fun e w' => e = .returned (.bool r) ∧ Drawn0 w w' := by
 unfold stringslite_HasPrefix.f at h; have H := h; clear h; replace H := itN H; obtain ⟨c3, H⟩ := H; have c3b0 := geT c3; have c3b1 : decide (a1.size ≤ a0.size) = true := dT (Int.ofNat_le.mp c3); clear c3; replace H := itN H; obtain ⟨c4, H⟩ := H; have c4b0 := eq_true c4; have c4b1 := dT c4; clear c4; replace H := itN H; obtain ⟨c5, H⟩ := H; have c5b0 := eq_true c5; have c5b1 := dT c5; clear c5; obtain rfl := sI H; go_enter Tryz.func259, Tryz.ntmps259; go_wp2; go_ret; exact ⟨endS, drA⟩
def strings_HasPrefix.f (a0 : ByteArray) (a1 : ByteArray) : Option (Bool) := (stringslite_HasPrefix.f a0 a1).bind fun t193 => (some t193)
theorem strings_HasPrefix.calls (a0 : ByteArray) (a1 : ByteArray) (r : Bool) (w : World) (h : strings_HasPrefix.f a0 a1 = some r) :
  Calls Tryz.prog 233 #[.string a0, .string a1] w fun e w' => e = .returned (.bool r) ∧ Drawn0 w w' := by
 unfold strings_HasPrefix.f at h; have H := h; clear h; replace H := Option.bind_eq_some_iff.mp H; obtain ⟨t193, A30, H⟩ := H; replace H : (some t193) = some r := H; have A3 := aM A30; clear A30; obtain rfl := sI H; go_enter Tryz.func233, Tryz.ntmps233; go_wp2_with (first | ((with_reducible refine gate_callee (f := 259) rfl ?_); refine goesA (some 7) Tryz.func259 #[.string a0, .string a1] ?_; (with_reducible refine (stringslite_HasPrefix.calls a0 a1 t193 _ A3.out).mono ?_); rintro e w' ⟨rfl, ⟨nd, rfl⟩⟩; refine ⟨_, rfl, ?_⟩)); go_ret; exact ⟨endS, drA⟩
def utf8_DecodeRuneInString.f (a0 : ByteArray) : Option (Int × Int) := some (((Lib.decodeGo a0).1 : Int), ((Lib.decodeGo a0).2 : Int))
theorem utf8_DecodeRuneInString.calls (a0 : ByteArray) (r1 : Int) (r2 : Int) (w : World) (hT : Tabs w) (h : utf8_DecodeRuneInString.f a0 = some (r1, r2)) :
  Calls Tryz.prog 266 #[.string a0] w fun e w' => e = .returned (.tuple #[.int .i32 r1, .int .i64 r2]) ∧ Below w.heap.size w w' := by
 have h := sI h; simp only [Prod.mk.injEq] at h; obtain ⟨rfl, rfl⟩ := h; exact Tryz.utf8_DecodeRuneInString a0 w hT.u8
mutual
def value_next.j0 : Nat → ByteArray → Int → Int → Bool → Option (Int × Int)
 | 0, _, _, _, _ => none
 | k + 1, x0, x4, x5, x16 => if x16 = true then (none) else (if x4 = 92 then (none) else (value_next.j1 k x0 x4 x5))
def value_next.j1 : Nat → ByteArray → Int → Int → Option (Int × Int)
 | 0, _, _, _ => none
 | k + 1, x0, x4, x5 => (value_escape.f x4).bind fun t203 => ((strings_HasPrefix.f x0 t203).bind fun t204 => (if t204 = true then ((value_escape.f x4).bind fun t205 => (if (t205.size : Int) = x5 then (some (x4, x5)) else (none))) else (none)))
end
def value_next.f (k : Nat) (a0 : ByteArray) : Option (Int × Int) := (utf8_DecodeRuneInString.f a0).bind fun bt199 => (if bt199.1 = 65533 then (none) else (value_next.j0 k a0 bt199.1 bt199.2 false))
theorem value_next.mono_l : ∀ k, (∀ y0 y1 y2 y3, LeO (value_next.j0 k y0 y1 y2 y3) (value_next.j0 (k + 1) y0 y1 y2 y3)) ∧ (∀ y0 y1 y2, LeO (value_next.j1 k y0 y1 y2) (value_next.j1 (k + 1) y0 y1 y2))
 | 0 => ⟨fun _ _ _ _ r h => by simp [value_next.j0] at h, fun _ _ _ r h => by simp [value_next.j1] at h⟩
 | k + 1 => by
  obtain ⟨ih0, ih1⟩ := value_next.mono_l k; refine ⟨?_, ?_⟩
  all_goals intros
  all_goals first | unfold value_next.j0 | unfold value_next.j1
  all_goals repeat' (with_reducible first | exact ih0 _ _ _ _ | exact ih1 _ _ _ | exact LeO.refl _ | exact LeO.none _ | refine LeO.ite ?_ ?_ | refine LeO.bind ?_ (fun _ => ?_))
theorem value_next.mono : ∀ a0 k, LeO (value_next.f k a0) (value_next.f (k + 1) a0) := by
 intro a0 k; obtain ⟨ih0, ih1⟩ := value_next.mono_l k; unfold value_next.f
 repeat' (with_reducible first | exact ih0 _ _ _ _ | exact ih1 _ _ _ | exact LeO.refl _ | exact LeO.none _ | refine LeO.ite ?_ ?_ | refine LeO.bind ?_ (fun _ => ?_))
theorem value_next.calls (k : Nat) (a0 : ByteArray) (r1 : Int) (r2 : Int) (w : World) (hT : Tabs w) (h : value_next.f k a0 = some (r1, r2)) :
  Calls Tryz.prog 256 #[.string a0] w fun e w' => e = .returned (.tuple #[.int .i32 r1, .int .i64 r2]) ∧ Below w.heap.size w w' := by
 have HB := aM (Below.refl w.heap.size w); unfold value_next.f at h; have H := h; clear h; have HT := aM hT; clear hT; replace H := bnA H; obtain ⟨⟨t199, t200⟩, A2, H⟩ := H; dsimp only at H; have HC101 := aM H; clear H; go_enter Tryz.func256, Tryz.ntmps256; go_upto_region 2 with (first | ((with_reducible refine gate_callee (f := 266) rfl ?_); refine goesA (some 8) Tryz.func266 #[.string a0] ?_; (with_reducible refine (utf8_DecodeRuneInString.calls _ _ _ _ ?side1 A2.out).mono ?_); (case side1 => exact Tabs.below HT.out (bwA)); rintro e w102 ⟨rfl, hb⟩; refine ⟨_, rfl, ?_⟩; have n0_ := aM (below_step (bwA) hb); clear HB; have HB := n0_; clear n0_; (try clear hb); (try clear hb2); (try clear hk); (try clear hi)))
 (try simp only [Act.put, List.setIfInBounds_toArray, List.set_cons_zero, List.set_cons_succ])
 go_cut [16] (fun v16 wc => ∃ (kq : Nat) (x16_100 : Bool), v16 = .bool x16_100 ∧ Aside0 (value_next.j0 kq a0 t199 t200 x16_100 = some (r1, r2)) ∧ Aside0 (kq ≤ k) ∧ Aside0 (Below w.heap.size w wc))
 case first =>
  have H := HC101.out; clear HC101; replace H := itM H; obtain ⟨c103, H⟩ := H; obtain ⟨c103b0, c103b1⟩ := fcN c103
  (first | rw [c103b0] | (simp only [i64_w, i32_w]; rw [c103b0]) | skip)
  have H' := aM H; clear H; go_wp2
  go_meet
  case rel => exact ⟨_, (false), (endS), H', ⟨by first | omega | exact Nat.le_refl _⟩, ⟨bwA⟩⟩
 case rest =>
  clear HC101; (try clear c1); (try clear c2); (try clear p2); (try clear c10); (try clear c25); (try clear c26); obtain ⟨kq, x16_100, rfl, HA, HJ100, HB⟩ := hcut
  cases kq with
  | zero => exact absurd HA.out (by simp [value_next.j0])
  | succ kj100 =>
   have H := HA.out; clear HA; simp only [value_next.j0] at H; replace H := itM H; obtain ⟨c103, H⟩ := H; replace c103 := Bool.eq_false_iff.mpr c103; subst c103; have HC201 := aM H; clear H
   go_upto_if 18 with (fail)
   go_cut [4, 5] (fun v4 v5 wc => ∃ (kq : Nat) (x4_200 : Int) (x5_200 : Int), v4 = .int .i32 x4_200 ∧ v5 = .int .i64 x5_200 ∧ Aside0 (value_next.j1 kq a0 x4_200 x5_200 = some (r1, r2)) ∧ Aside0 (kq ≤ kj100) ∧ Aside0 (Below w.heap.size w wc))
   case first =>
    have H := HC201.out; clear HC201; replace H := itM H; obtain ⟨c202, H⟩ := H; obtain ⟨c202b0, c202b1⟩ := fcN c202
    (first | rw [c202b0] | (simp only [i64_w, i32_w]; rw [c202b0]) | skip)
    have H' := aM H; clear H; go_wp2
    go_meet
    case rel => exact ⟨_, (t199), (t200), (endS), (endS), H', ⟨by have := HJ100.out; first | omega | exact Nat.le_refl _⟩, ⟨bwA⟩⟩
   case rest =>
    clear HC201; (try clear c1); (try clear c2); (try clear p2); (try clear c10); (try clear c20); (try clear c25); (try clear c26); (try clear c103); (try clear c103b0); (try clear c103b1); (try clear p2); obtain ⟨kq, x4_200, x5_200, rfl, rfl, HA, HJ200, HB⟩ := hcut
    cases kq with
    | zero => exact absurd HA.out (by simp [value_next.j1])
    | succ kj200 =>
     have H := HA.out; clear HA; simp only [value_next.j1] at H; replace H := bnA H; obtain ⟨t203, A202, H⟩ := H; replace H := bnA H; obtain ⟨t204, A203, H⟩ := H; replace H := itN H; obtain ⟨c204, H⟩ := H; subst c204; replace H := bnA H; obtain ⟨t205, A205, H⟩ := H; replace H := itN H; obtain ⟨c206, H⟩ := H; obtain ⟨c206b0, c206b1⟩ := fcE c206; clear c206; obtain ⟨rfl, rfl⟩ := sJ2 H; try go_wp2_with (first | ((with_reducible refine gate_callee (f := 225) rfl ?_); refine goesA (some 31) Tryz.func225 #[.int .i32 x4_200] ?_; (with_reducible refine (value_escape.calls _ _ _ ?side1 A202.out).mono ?_); (case side1 => exact Tabs.below HT.out (bwA)); rintro e w301 ⟨rfl, hb⟩; refine ⟨_, rfl, ?_⟩; replace HB := aM (below_step (bwA) hb); (try clear hb)) | ((with_reducible refine gate_callee (f := 233) rfl ?_); refine goesA (some 32) Tryz.func233 #[.string a0, .string t203] ?_; (with_reducible refine (strings_HasPrefix.calls _ _ _ _ A203.out).mono ?_); rintro e w' ⟨rfl, ⟨nd, rfl⟩⟩; refine ⟨_, rfl, ?_⟩) | (go_at_call 225; (with_reducible refine (value_escape.calls _ _ _ ?side1 A205.out).mono ?_); (case side1 => exact Tabs.below HT.out (bwA)); rintro e w302 ⟨rfl, hb⟩; replace HB := aM (below_step (bwA) hb); (try clear hb)))
     go_ret2
     exact ⟨endA, bwA⟩
def value_text.go (k : Nat) : Nat → ByteArray → List UInt8 → Option (Int × Int × ByteArray × ByteArray × Int)
 | 0, _, _ => none
 | f + 1, s, acc =>
  if s.size = 0 then some (0, 0, ⟨#[]⟩, ⟨#[]⟩, 3)
  else if bt s 0 = 34 then (if acc.length > 200 then some (0, 0, ⟨#[]⟩, ⟨#[]⟩, 2) else some (2, 0, ⟨acc.toArray⟩, s.extract 1 s.size, 0))
  else (value_next.f k s).bind fun cn => if cn.2 = 0 then some (0, 0, ⟨#[]⟩, ⟨#[]⟩, 3)
   else if 0 ≤ cn.2 ∧ cn.2 ≤ s.size ∧ -2147483648 ≤ cn.1 ∧ cn.1 ≤ 2147483647 then value_text.go k f (s.extract cn.2.toNat s.size) (acc ++ Lib.encodeRune cn.1) else none
def value_text.f (k : Nat) (a0 : ByteArray) : Option (Int × Int × ByteArray × ByteArray × Int) :=
 if 1 ≤ a0.size ∧ a0.size ≤ 1099511627776 then value_text.go k k (a0.extract 1 a0.size) [] else none
theorem value_text.mono_go (k : Nat) : ∀ f s acc, LeO (value_text.go k f s acc) (value_text.go (k + 1) (f + 1) s acc)
 | 0, _, _ => fun r h => by simp [value_text.go] at h
 | f + 1, s, acc => by
  unfold value_text.go
  repeat' first
   | (with_reducible exact LeO.refl _)
   | (with_reducible exact LeO.none _)
   | (with_reducible exact value_next.mono _ _)
   | exact value_text.mono_go k f _ _
   | (with_reducible refine LeO.ite ?_ ?_)
   | (with_reducible refine LeO.bind ?_ (fun _ => ?_))
theorem value_text.mono : ∀ a0 k, LeO (value_text.f k a0) (value_text.f (k + 1) a0) := by
 intro a0 k; unfold value_text.f
 repeat' (with_reducible first | exact value_text.mono_go k k _ _ | exact LeO.refl _ | exact LeO.none _ | refine LeO.ite ?_ ?_ | refine LeO.bind ?_ (fun _ => ?_))
theorem value_text.calls (k : Nat) (a0 : ByteArray) (r1 : Int) (r2 : Int) (r3 : ByteArray) (r4 : ByteArray) (r5 : Int) (w : World) (hT : Tabs w) (h : value_text.f k a0 = some (r1, r2, r3, r4, r5)) :
  Calls Tryz.prog 232 #[.string a0] w fun e w' => e = .returned (.tuple #[.agg #[.int .i64 r1, .int .i64 r2, .string r3], .string r4, .int .i64 r5]) ∧ Below w.heap.size w w' := by
 unfold value_text.f at h
 split at h
 ·rename_i hs
  obtain ⟨hs0, hs1⟩ := hs; have hs0z : (1 : Int) ≤ (a0.size : Int) := by omega
  have H := Lib.hid h; clear h; have hu := Tryz.underlying74; have hez : (a0.extract 1 a0.size).size ≤ a0.size := by simp
  go_enter Tryz.func232, Tryz.ntmps232; go_wp2_with fail; obtain ⟨w1, hw1⟩ : ∃ w1, w1 = w.alloc (.cells #[.int .i64 0, .int .i64 0, .string ⟨#[]⟩] 74) := ⟨_, rfl⟩; have hz1 : w1.heap.size = w.heap.size + 1 := by rw [hw1]; simp
  have hv1 : w1.heap[w.heap.size]? = some (.cells #[.int .i64 0, .int .i64 0, .string ⟨#[]⟩] 74 (0, 0)) := by rw [hw1]; exact heap_alloc_new w _
  have hb1 : Below w.heap.size w w1 := by rw [hw1]; exact (Below.refl _ w).alloc (Nat.le_refl _) _
  rw [← hw1]; clear hw1; have I0 := Lib.IsBuilderF.of (Lib.fresh_isBuilder 162 5 w1); rw [hz1] at I0
  go_loopg [0] k (fun gk s0 wx => ∃ (t : ByteArray) (acc : List UInt8), s0 = .string t ∧ Lib.IsBuilderF 162 5 (w.heap.size + 1) (w.heap.size + 1) (Lib.byteCells acc) wx ∧ Below (w.heap.size + 1) w1 wx ∧ Hid (value_text.go k gk t acc = some (r1, r2, r3, r4, r5)) ∧ acc.length + 4 * t.size ≤ 4398046511104 ∧ t.size ≤ 1099511627776)
  case atStart => exact ⟨_, [], rfl, I0, (Below.refl _ w1).alloc (by omega) _, H, by simp; omega, by omega⟩
  case round =>
   obtain ⟨t, acc, rfl, hI, hbw, HG, hal, hts⟩ := hrel; have hvx : wr.heap[w.heap.size]? = some (.cells #[.int .i64 0, .int .i64 0, .string ⟨#[]⟩] 74 (0, 0)) := (hbw.block _ (by omega)).trans hv1; have hszx : w.heap.size + 1 ≤ wr.heap.size := by have := hbw.size; omega
   have hbx : Below w.heap.size w wr := hb1.trans (hbw.mono (by omega))
   cases gk with
   | zero => exact absurd HG.out (by simp [value_text.go])
   | succ g =>
    have hgo := HG.out; clear HG hu; unfold value_text.go at hgo
    by_cases ht0 : t.size = 0
    ·rw [if_pos ht0] at hgo
     have hgo := sI hgo; simp only [Prod.mk.injEq] at hgo; obtain ⟨rfl, rfl, rfl, rfl, rfl⟩ := hgo
     obtain rfl : t = ⟨#[]⟩ := by
      cases t with | mk d => simp only [ByteArray.size] at ht0; rw [Array.eq_empty_of_size_eq_zero ht0]
     clear hI hal hts ht0; have c0 := fun j => Lib.cell_of_heap hvx j
     have f0 := fun j => Lib.frozen_of_heap hvx j
     go_wp2_with fail; refine bodyPost_ret (results_ctt rfl _ _ w.heap.size 74 _ (0, 0) _ rfl (vput3 hvx _ _ _) Tryz.underlying74 rfl (by kernel_rfl)) rfl ?_; exact ⟨rfl, bput3 hbx (Nat.le_refl _) _ _ _⟩
    ·rw [if_neg ht0] at hgo
     have hpos : 0 < t.size := by omega
     have hposz : (0 : Int) < (t.size : Int) := by omega
     obtain ⟨ch, hch⟩ : ∃ ch : Int, bt t 0 = ch := ⟨_, rfl⟩; have hchr : 0 ≤ ch ∧ ch ≤ 255 := hch ▸ bt_range t 0; have hcb : ((t[0]'hpos).toNat : Int) = ch := by rw [← hch]; exact bt_at t 0 hpos
     rw [hch] at hgo; clear hch; have hne1 := toList_ne hpos; have hne2 : t.toList.isEmpty = false := by rw [Bool.eq_false_iff]; simpa using hne1
     have c0 := fun j => Lib.cell_of_heap hvx j
     have f0 := fun j => Lib.frozen_of_heap hvx j
     by_cases hq : ch = 34
     ·rw [if_pos hq] at hgo
      subst hq
      by_cases hl : acc.length > 200
      ·rw [if_pos hl] at hgo
       have hgo := sI hgo; simp only [Prod.mk.injEq] at hgo; obtain ⟨rfl, rfl, rfl, rfl, rfl⟩ := hgo; have b1 : decide (((Lib.byteCells acc).length : Int) > 200) = true := dT (by rw [Lib.byteCells_length]; omega); go_wp2_with fail; refine (Tryz.Builder_Len_f _ _ _ _ hI).mono ?_; rintro e W2 ⟨rfl, rfl⟩; go_wp2; refine bodyPost_ret (results_ctt rfl _ _ w.heap.size 74 _ (0, 0) _ rfl (vput3 hvx _ _ _) Tryz.underlying74 rfl (by kernel_rfl)) rfl ?_; exact ⟨rfl, bput3 hbx (Nat.le_refl _) _ _ _⟩
      ·rw [if_neg hl] at hgo
       have hgo := sI hgo; simp only [Prod.mk.injEq] at hgo; obtain ⟨rfl, rfl, rfl, rfl, rfl⟩ := hgo; have b1 : decide (((Lib.byteCells acc).length : Int) > 200) = false := dF (by rw [Lib.byteCells_length]; omega); go_wp2_with fail; refine (Tryz.Builder_Len_f _ _ _ _ hI).mono ?_; rintro e W2 ⟨rfl, rfl⟩; have cS := fun (W : World) (hW : W.heap = W2.heap) => Tryz.Builder_String_any_k (w.heap.size + 1) (w.heap.size + 1) acc W (builderF_heap hI hW) (by rw [hW]; exact hszx)
       go_wp2_with fail
       go_region_with (go_at_call 110; refine (cS _ ?_).mono ?_; exact rfl; rintro e W3 ⟨rfl, _, b3, _⟩; have hv3 := (b3.block w.heap.size (by omega)).trans hvx; have c3 := fun j => Lib.cell_of_heap hv3 j; have f3 := fun j => Lib.frozen_of_heap hv3 j)
       all_goals
        have b4 := b3.mono (Nat.le_succ w.heap.size); have hb3 : Below w.heap.size w W3 := (below_drew hbx).trans b4; go_wp2; refine bodyPost_ret (results_ctt rfl _ _ w.heap.size 74 _ (0, 0) _ rfl (vput3 hv3 _ _ _) Tryz.underlying74 rfl (by kernel_rfl)) rfl ?_; exact ⟨rfl, bput3 hb3 (Nat.le_refl _) _ _ _⟩
     ·rw [if_neg hq] at hgo
      have bq : (ch == 34) = false := beq_eq_false_iff_ne.2 hq; have bq2 : (ch != 34) = true := bne_iff_ne.2 hq; obtain ⟨⟨c, n⟩, hcn, hgo⟩ := Option.bind_eq_some_iff.1 hgo; have cN := fun W hW => value_next.calls k t c n W hW hcn
      have hTx : Tabs wr := hT.below hbx; simp only at hgo; have HC := Lib.hid hcn; clear hcn; go_wp2_with fail; refine (cN _ hTx).mono ?_; rintro e W2 ⟨rfl, hb2⟩; have hI2 := builderF_below hI hb2; have hv2 := (hb2.block w.heap.size (by omega)).trans hvx; have hbx2 : Below w.heap.size w W2 := hbx.trans (hb2.mono (by omega)); have hbw2 : Below (w.heap.size + 1) w1 W2 := hbw.trans (hb2.mono (by omega)); have hsz2 : w.heap.size + 1 ≤ W2.heap.size := Nat.le_trans hszx hb2.size; have c2 := fun j => Lib.cell_of_heap hv2 j
      have f2 := fun j => Lib.frozen_of_heap hv2 j
      clear c0 f0 cN hI hbw hvx hbx hTx
      by_cases hn0 : n = 0
      ·subst hn0
       rw [if_pos rfl] at hgo; have hgo := sI hgo; simp only [Prod.mk.injEq] at hgo; obtain ⟨rfl, rfl, rfl, rfl, rfl⟩ := hgo; go_wp2; refine bodyPost_ret (results_ctt rfl _ _ w.heap.size 74 _ (0, 0) _ rfl (vput3 hv2 _ _ _) Tryz.underlying74 rfl (by kernel_rfl)) rfl ?_; exact ⟨rfl, bput3 hbx2 (Nat.le_refl _) _ _ _⟩
      ·rw [if_neg hn0] at hgo
       have bn : (n == 0) = false := beq_eq_false_iff_ne.2 hn0
       split at hgo
       ·rename_i hr
        obtain ⟨hr1, hr2, hr3, hr4⟩ := hr; have HGO := Lib.hid hgo; have hn1 : 1 ≤ n := by omega
        clear hgo hn0; go_wp2_with fail; refine (Tryz.Bld_WriteRune _ _ _ c hr3 hr4 _ hI2 (by rw [Lib.byteCells_length]; omega) hsz2).mono ?_; rintro e W3 ⟨rfl, h1, b3, k3⟩; go_wp2
        go_roundg g
        case measure => omega
        case rel =>
         have hl4 := Lib.runeCells_le c; rw [Lib.runeCells_length] at hl4; have hex : (t.extract n.toNat t.size).size = t.size - n.toNat := by simp
         refine ⟨_, acc ++ Lib.encodeRune c, rfl, ?_, hbw2.trans b3, HGO, ?_, ?_⟩
         ·rw [Lib.byteCells_append, Lib.byteCells_encodeRune]; exact Or.inr h1
         ·rw [List.length_append, hex]; omega
         ·rw [hex]; omega
       ·cases hgo
 ·cases h
end Go.Proofs.YtkdndabpaajkaaaGreatDoor.A
