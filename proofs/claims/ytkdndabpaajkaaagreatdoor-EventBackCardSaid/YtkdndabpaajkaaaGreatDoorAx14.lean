-- By drv.py, the session's own driver round the kit's print: the machine's side of the laws, function by function. Not trusted: Lean checks it.
import Derived.Test.YtkdndabpaajkaaaGreatDoorAx0
import Derived.Test.YtkdndabpaajkaaaGreatDoorAx11
import Derived.Test.YtkdndabpaajkaaaGreatDoorAx13
namespace Go.Proofs.YtkdndabpaajkaaaGreatDoor.A
open Go.RowKit Go.Proofs.YtkdndabpaajkaaaGreatDoorW.PrintWords Go.Proofs.YtkdndabpaajkaaaGreatDoorW.PrintLast Go.Proofs.YtkdndabpaajkaaaGreatDoorW.PrintMore
attribute [local go_sem] max2_int min2_int max_two min_two max_three min_three max_four min_four   -- for this text's walks alone
set_option linter.unusedVariables false
set_option linter.unusedSimpArgs false

/-! ### event_Show: function 52, by hand -/
theorem vputE {w : World} {g : Nat} {T : TypeId} {x y z u : Value} (h : w.heap[g]? = some (.cells #[x, y, z, u] T (0, 0))) (a b c d : Value) :
  ((((w.setCell ⟨g, 0, none⟩ a).setCell ⟨g, 1, none⟩ b).setCell ⟨g, 2, none⟩ c).setCell ⟨g, 3, none⟩ d).heap[g]? = some (.cells #[a, b, c, d] T (0, 0)) :=
 blk_put (blk_put (blk_put (blk_put h 0 a rfl) 1 b rfl) 2 c rfl) 3 d rfl
theorem bputE {w W : World} {g B : Nat} (h : Below B w W) (hg : B ≤ g) (a b c d : Value) : Below B w ((((W.setCell ⟨g, 0, none⟩ a).setCell ⟨g, 1, none⟩ b).setCell ⟨g, 2, none⟩ c).setCell ⟨g, 3, none⟩ d) :=
 (((h.setCell (p := ⟨g, 0, none⟩) hg a).setCell (p := ⟨g, 1, none⟩) hg b).setCell (p := ⟨g, 2, none⟩) hg c).setCell (p := ⟨g, 3, none⟩) hg d
def event_Show.go (k : Nat) : List S76 → List UInt8 → Option ByteArray
 | [], acc => some ⟨acc.toArray⟩
 | x :: l, acc => (value_Show.f k x.f1.f0 x.f1.f1 x.f1.f2).bind fun u => if acc.length + (x.f0.size + u.size + 2) ≤ 140737488355328 then event_Show.go k l (acc ++ ((((⟨#[32]⟩ : ByteArray) ++ x.f0) ++ (⟨#[61]⟩ : ByteArray)) ++ u).data.toList) else none
def event_Show.f (k : Nat) (a0_0 : Int) (a0_1 : Int) (a0_2 : Int) (a0_3 : ByteArray) (l0_4 : List S76) : Option ByteArray := (event_Check.f k a0_0 a0_1 a0_2 a0_3 l0_4).bind fun t => if t = true then ((event_ShowID.f a0_0 a0_1 a0_2).bind fun u => if u.size + a0_3.size + 1 ≤ 140737488355328 then event_Show.go k l0_4 ((u ++ (⟨#[32]⟩ : ByteArray)) ++ a0_3).data.toList else none) else some ⟨#[]⟩
theorem event_Show.mono_go (k : Nat) : ∀ l acc, LeO (event_Show.go k l acc) (event_Show.go (k + 1) l acc)
 | [], acc => LeO.refl _
 | x :: l, acc => by
  unfold event_Show.go
  repeat' first
   | (with_reducible exact LeO.refl _)
   | (with_reducible exact LeO.none _)
   | (with_reducible exact value_Show.mono _ _ _ _)
   | exact event_Show.mono_go k l _
   | (with_reducible refine LeO.ite ?_ ?_)
   | (with_reducible refine LeO.bind ?_ (fun _ => ?_))
theorem event_Show.mono : ∀ a0 a1 a2 a3 a4 k, LeO (event_Show.f k a0 a1 a2 a3 a4) (event_Show.f (k + 1) a0 a1 a2 a3 a4) := by
 intro a0 a1 a2 a3 a4 k
 unfold event_Show.f
 repeat' (with_reducible first | exact event_Check.mono _ _ _ _ _ _ | exact event_Show.mono_go k a4 _ | exact LeO.refl _ | exact LeO.none _ | refine LeO.ite ?_ ?_ | refine LeO.bind ?_ (fun _ => ?_))
def bitsE (T : List (List Nat × List Nat)) : List Nat := T.foldl (fun B r => B ++ [r.1.foldl (fun b n => b ||| (2 ^ n ||| B.getD n 0)) 0]) []
def event_Show.T4 : Bool × List (List Nat × List Nat) := (true, [([], []), ([0], [0]), ([1], [1]), ([2], [2]), ([], []), ([4], [4]), ([3, 5], [3, 5]), ([6, 2], [6])])
def event_Show.T8 : Bool × List (List Nat × List Nat) := (true, [([], []), ([0], [0]), ([1], [1]), ([2], [2]), ([], []), ([4], [4]), ([5], [5]), ([3, 6], [3, 6]), ([7, 6], [7])])
theorem event_Show.tab4 : rtab .any (opsOf Tryz.f52 4) = event_Show.T4 := by kernel_rfl
theorem event_Show.bits4 : waitsOk event_Show.T4.2 (bitsE event_Show.T4.2) = true := by kernel_rfl
theorem event_Show.tab8 : rtab .any (opsOf Tryz.f52 8) = event_Show.T8 := by kernel_rfl
theorem event_Show.bits8 : waitsOk event_Show.T8.2 (bitsE event_Show.T8.2) = true := by kernel_rfl
set_option maxHeartbeats 8000000 in
set_option maxRecDepth 100000 in
theorem event_Show.calls (k : Nat) (a0_0 : Int) (a0_1 : Int) (a0_2 : Int) (a0_3 : ByteArray) (A0_4 : Option Addr) (c0_4 : Nat) (l0_4 : List (S76)) (r : ByteArray) (w : World) (hr0_4 : Kd.C k76 w A0_4 l0_4.length l0_4) (hc0_4 : l0_4.length ≤ c0_4) (hT : Tabs w) (h : event_Show.f k a0_0 a0_1 a0_2 a0_3 l0_4 = some r) :
  Calls Tryz.prog 52 #[.agg #[.int .i64 a0_0, .int .i64 a0_1, .int .i64 a0_2, .string a0_3, .slice A0_4 l0_4.length c0_4]] w fun e w' => e = .returned (.string r) ∧ Below w.heap.size w w' := by
 have huE := Tryz.underlying66
 have huI := Tryz.underlying25
 have huA := Tryz.underlying76
 have huV := Tryz.underlying74
 unfold event_Show.f at h
 obtain ⟨t, ha, h⟩ := Option.bind_eq_some_iff.1 h
 have cA := fun W (hb : Below w.heap.size w W) => event_Check.calls k a0_0 a0_1 a0_2 a0_3 A0_4 c0_4 l0_4 t W (Kd.C_below hr0_4 hb) hc0_4 (hT.below hb) ha
 have hb0 : Below w.heap.size w (w.alloc (.cells #[.int .i64 a0_0, .int .i64 a0_1, .int .i64 a0_2, .string a0_3, .slice A0_4 l0_4.length c0_4] 66)) := (Below.refl _ w).alloc (Nat.le_refl _) _
 have HR := Aside0.mk hr0_4
 have HT := Aside0.mk hT
 have HB0 := Aside0.mk hb0
 clear hr0_4 hc0_4 hT ha hb0
 cases t with
 | false =>
  rw [if_neg (by decide)] at h
  obtain rfl := Option.some.inj h
  go_enter Tryz.func52, Tryz.ntmps52
  go_wp2_with (go_at_call 46; refine (cA _ HB0.out).mono ?_; rintro e w1 ⟨rfl, hb1⟩)
  go_ret
  exact ⟨rfl, HB0.out.trans (hb1.mono HB0.out.size)⟩
 | true =>
  rw [if_pos rfl] at h
  obtain ⟨u, hu, h⟩ := Option.bind_eq_some_iff.1 h
  by_cases hz : u.size + a0_3.size + 1 ≤ 140737488355328
  case neg => rw [if_neg hz] at h; cases h
  rw [if_pos hz] at h
  have cN := fun W (hb : Below w.heap.size w W) => event_ShowID.calls a0_0 a0_1 a0_2 u W (HT.out.below hb) hu
  have z1 : (9223372036854775807 < u.size + 1) = False := eq_false (by omega)
  have z2 : (9223372036854775807 < u.size + 1 + a0_3.size) = False := eq_false (by omega)
  have z3 : (9223372036854775807 < (u ++ (⟨#[32]⟩ : ByteArray)).size + a0_3.size) = False := eq_false (by rw [ByteArray.size_append]; show ¬ _ < u.size + 1 + a0_3.size; omega)
  have H := Aside0.mk h
  have HZ := Aside0.mk hz
  clear h hu hz
  go_enter Tryz.func52, Tryz.ntmps52
  go_wp2_with (go_at_call 46; refine (cA _ HB0.out).mono ?_; rintro e w1 ⟨rfl, hb1⟩)
  have I0 := Lib.IsBuilderF.of (Lib.fresh_isBuilder 162 5 w1)
  have hlt1 : w.heap.size < w1.heap.size := Nat.lt_of_lt_of_le (by simp) hb1.size
  have hw1 := HB0.out.trans (hb1.mono HB0.out.size)
  have hal : Below w1.heap.size w1 (w1.alloc (.cells #[.pointer none, .slice none 0 0] 162)) := (Below.refl _ w1).alloc (Nat.le_refl _) _
  have X0 := blk_below (blk_below (heap_alloc_new w (.cells #[.int .i64 a0_0, .int .i64 a0_1, .int .i64 a0_2, .string a0_3, .slice A0_4 l0_4.length c0_4] 66)) hb1) hal
  have hb5 := below_step hw1 hal
  have hq5 : w1.heap.size ≤ (w1.alloc (.cells #[.pointer none, .slice none 0 0] 162)).heap.size := hal.size
  have HLT := Aside0.mk hlt1
  clear hal hw1 hb1 hlt1 cA
  generalize w1.alloc (.cells #[.pointer none, .slice none 0 0] 162) = w5 at I0 X0 hb5 hq5 ⊢
  generalize w1.heap.size = B at I0 hq5 HLT ⊢
  have BX := Aside0.mk (blk_drew X0)
  have HB := Aside0.mk (below_drew1 hb5)
  have HI := Aside0.mk (builderF_below I0 (below_drew1 (Below.refl _ w5)))
  have HQ := Aside0.mk (show B ≤ w5.drew.heap.size from hq5)
  clear X0 hb5 I0 hq5
  refine start_ (n := 8) (S := fun w' => w'.cell? ⟨w.heap.size, 0, none⟩ = some (.int .i64 a0_0) ∧ w'.cell? ⟨w.heap.size, 1, none⟩ = some (.int .i64 a0_1) ∧ w'.cell? ⟨w.heap.size, 2, none⟩ = some (.int .i64 a0_2) ∧ w'.cell? ⟨w.heap.size, 3, none⟩ = some (.string a0_3) ∧ w'.cell? ⟨w.heap.size, 4, none⟩ = some (.slice A0_4 l0_4.length c0_4)) (ds := [7]) (mkB 8 0) (by kernel_rfl) rfl rfl ⟨(blk_cell BX.out 0).trans rfl, (blk_cell BX.out 1).trans rfl, (blk_cell BX.out 2).trans rfl, (blk_cell BX.out 3).trans rfl, (blk_cell BX.out 4).trans rfl⟩ (fun hHeld => ?_); refine with_tabW event_Show.tab4 event_Show.bits4 (fun HT_ HW_ => ?_)
  generalize w5.drew = w6 at BX HB HI HQ hHeld ⊢
  refine pureA 0 (some 9) (mkB 8 1) ?_
  refine takeA 1 (some 10) (mkB 8 3) ?_ rfl (Or.inl ⟨by rfl, by rintro w' ⟨s0, s1, s2, s3, s4⟩; go_simp; with_reducible rfl⟩)
  refine pureA 4 (some 13) (mkB 8 19) ?_
  refine takeA 5 (some 14) (mkB 8 51) ?_ rfl (Or.inl ⟨by rfl, by rintro w' ⟨s0, s1, s2, s3, s4⟩; go_simp; with_reducible rfl⟩)
  refine oneA 2 (some 11) (mkB 8 55) (fun K hK => ?_)
  refine goesS Tryz.func56 #[.agg #[.int .i64 a0_0, .int .i64 a0_1, .int .i64 a0_2]] ?_
  refine (cN _ HB.out).mono ?_
  rintro e w7 ⟨rfl, hb⟩
  refine ⟨_, rfl, ?_⟩
  have n0_ := Aside0.mk (blk_below BX.out hb)
  have n1_ := Aside0.mk (below_step HB.out hb)
  have n2_ := Aside0.mk (builderF_below HI.out hb)
  have n3_ := Aside0.mk (Nat.le_trans HQ.out hb.size)
  clear BX HB HI HQ
  have BX := n0_
  have HB := n1_
  have HI := n2_
  have HQ := n3_
  clear n0_ n1_ n2_ n3_ hb
  refine hK.out _ _ ⟨(blk_cell BX.out 0).trans rfl, (blk_cell BX.out 1).trans rfl, (blk_cell BX.out 2).trans rfl, (blk_cell BX.out 3).trans rfl, (blk_cell BX.out 4).trans rfl⟩ (fun hHeld => ?_)
  clear hK K
  refine normA ?_
  refine pureA 3 (some 12) (mkB 8 63) ?_
  refine pureA 6 (some 15) (mkB 8 127) ?_
  refine last_ (i := 7) (N := some 16) (mkB 8 255) rfl rfl (one_of HT_.out (by kernel_rfl)) (by decide) (fun K hK => ?_)
  refine goesS Tryz.func109 #[.pointer (some ⟨B, 0, none⟩), .string ((u ++ (⟨#[32]⟩ : ByteArray)) ++ a0_3)] ?_
  refine (Tryz.Bld_WriteString B B [] ((u ++ (⟨#[32]⟩ : ByteArray)) ++ a0_3) _ HI.out (by have := HZ.out; rw [ByteArray.size_append, ByteArray.size_append]; show 0 + (u.size + 1 + a0_3.size) ≤ _; omega) HQ.out).mono ?_
  rintro e W9 ⟨he, h1, b1, k1⟩
  obtain ⟨v16, rfl⟩ : ∃ v16, e = .returned v16 := ⟨_, he⟩
  clear he
  refine ⟨_, rfl, ?_⟩
  refine hK.out _ _ ?_
  clear hK K
  refine normA ?_
  refine done_ (done_of HT_.out (by kernel_rfl)) ?_
  have I3 : Lib.IsBuilderF 162 5 B B (Lib.byteCells ((u ++ (⟨#[32]⟩ : ByteArray)) ++ a0_3).data.toList) W9 := by rw [← strCells_mk]; exact Or.inr h1
  have hbw3 : Below w.heap.size w W9 := HB.out.trans (b1.mono (Nat.le_of_lt HLT.out))
  have hsz3 := Aside0.mk (show B ≤ W9.heap.size from Nat.le_trans HQ.out b1.size)
  have x4 := (b1.cell (p := ⟨w.heap.size, 4, none⟩) HLT.out).trans ((blk_cell BX.out 4).trans rfl)
  clear BX HB HI HQ h1 b1 k1 cN z1 z2 z3 hHeld
  go_wp2
  clear x4
  go_loopw [20] (fun v20 wr => ∃ (x : Int) (acc : List UInt8), v20 = .int .i64 x ∧ Hid (0 ≤ x ∧ x ≤ (l0_4.length : Int)) ∧ Lib.IsBuilderF 162 5 B B (Lib.byteCells acc) wr ∧ Below w.heap.size w wr ∧ Hid (B ≤ wr.heap.size) ∧ Hid (event_Show.go k (l0_4.drop x.toNat) acc = some r)) (fun v20 _ => l0_4.length - (intOf v20).toNat)
  case atStart => exact ⟨0, ((u ++ (⟨#[32]⟩ : ByteArray)) ++ a0_3).data.toList, rfl, ⟨by omega, by omega⟩, I3, hbw3, Lib.hid hsz3.out, Lib.hid H.out⟩
  case round =>
   obtain ⟨x, acc, rfl, HX, hI, hbw, HS, HG⟩ := hrel
   clear H I3 hbw3 hsz3
   have hx := HX.out
   by_cases hlt : x < (l0_4.length : Int)
   ·have bb1 : decide (x < (l0_4.length : Int)) = true := decide_eq_true hlt
    have p0 : 0 ≤ x := hx.1
    have hd : l0_4.drop x.toNat = (rd_T76 l0_4 x) :: l0_4.drop (x + 1).toNat := by
     have e : (x + 1).toNat = x.toNat + 1 := by omega
     have hn : x.toNat < l0_4.length := by omega
     rw [e, List.drop_eq_getElem_cons hn]
     unfold rd_T76
     rw [List.getD_eq_getElem?_getD, List.getElem?_eq_getElem hn]
     rfl
    have hgo := HG.out
    rw [hd, event_Show.go] at hgo
    obtain ⟨t2, ho2, hgo⟩ := Option.bind_eq_some_iff.1 hgo
    by_cases hz : acc.length + ((rd_T76 l0_4 x).f0.size + t2.size + 2) ≤ 140737488355328
    case neg => rw [if_neg hz] at hgo; cases hgo
    rw [if_pos hz] at hgo
    obtain ⟨ad, ead, hx0, hx1, hx2, hx3⟩ := at_T76 (Kd.C_below HR.out hbw) x p0 hlt
    cases ead
    have cV := fun W (hb : Below w.heap.size w W) => value_Show.calls k (rd_T76 l0_4 x).f1.f0 (rd_T76 l0_4 x).f1.f1 (rd_T76 l0_4 x).f1.f2 t2 W (HT.out.below hb) ho2
    have HG2 := Lib.hid hgo
    have HZ2 := Lib.hid hz
    have w1' := Lib.hid (show wrap64 (x + 1) = x + 1 by unfold wrap64; have := HR.out.2.1; omega)
    have z1 : (9223372036854775807 < 1 + (rd_T76 l0_4 x).f0.size) = False := eq_false (by omega)
    have z2 : (9223372036854775807 < 1 + (rd_T76 l0_4 x).f0.size + 1) = False := eq_false (by omega)
    have e1 : ((⟨#[32]⟩ : ByteArray) ++ (rd_T76 l0_4 x).f0).size = 1 + (rd_T76 l0_4 x).f0.size := ByteArray.size_append
    have e2 : (((⟨#[32]⟩ : ByteArray) ++ (rd_T76 l0_4 x).f0) ++ (⟨#[61]⟩ : ByteArray)).size = 1 + (rd_T76 l0_4 x).f0.size + 1 := by rw [ByteArray.size_append, e1]; rfl
    have z3 : (9223372036854775807 < ((⟨#[32]⟩ : ByteArray) ++ (rd_T76 l0_4 x).f0).size + 1) = False := eq_false (by rw [e1]; omega)
    have z4 : (9223372036854775807 < 1 + (rd_T76 l0_4 x).f0.size + 1 + t2.size) = False := eq_false (by omega)
    have z5 : (9223372036854775807 < (((⟨#[32]⟩ : ByteArray) ++ (rd_T76 l0_4 x).f0) ++ (⟨#[61]⟩ : ByteArray)).size + t2.size) = False := eq_false (by rw [e2]; omega)
    have HE2 := Aside0.mk e2
    clear hd hgo ho2 HG HX hx hz e1 e2
    have HX0 := Lib.hid (show 0 ≤ x by omega)
    have HB2 := Lib.hid (show 0 ≤ x + 1 ∧ x + 1 ≤ (l0_4.length : Int) by omega)
    replace p0 := eq_true p0
    replace hlt := eq_true hlt
    try go_wp2_with (first | ((with_reducible refine gate_dst (N := 5) rfl ?_); refine boxA 5 #[.string (⟨#[]⟩ : ByteArray), .int .i64 0, .int .i64 0, .string (⟨#[]⟩ : ByteArray)] 76 ?_; intro gb hg w2 hbox hb; have Hg := Lib.hid hg; clear hg; have hcz := fun j => Lib.cell_of_heap hbox j; have hfz := fun j => blk_frozen hbox j; have hv4 := vputE hbox (.string (rd_T76 l0_4 x).f0) (.int .i64 (rd_T76 l0_4 x).f1.f0) (.int .i64 (rd_T76 l0_4 x).f1.f1) (.string (rd_T76 l0_4 x).f1.f2)))
    have hb4 := bputE hb (show _ ≤ gb by rw [Hg.out]; exact Nat.le_refl _) (.string (rd_T76 l0_4 x).f0) (.int .i64 (rd_T76 l0_4 x).f1.f0) (.int .i64 (rd_T76 l0_4 x).f1.f1) (.string (rd_T76 l0_4 x).f1.f2)
    have BK0 := Aside0.mk hv4
    have HB0' := Aside0.mk (below_step hbw hb4)
    have HI0 := Aside0.mk (builderF_below hI hb4)
    have HQ0 := Aside0.mk (Nat.le_trans HS.out hb4.size)
    clear hI hb hbw hb4 hcz hfz hv4 Hg hbox
    generalize ((((w2.setCell ⟨gb, 0, none⟩ (.string (rd_T76 l0_4 x).f0)).setCell ⟨gb, 1, none⟩ (.int .i64 (rd_T76 l0_4 x).f1.f0)).setCell ⟨gb, 2, none⟩ (.int .i64 (rd_T76 l0_4 x).f1.f1)).setCell ⟨gb, 3, none⟩ (.string (rd_T76 l0_4 x).f1.f2)) = w5' at BK0 HB0' HI0 HQ0 ⊢
    have HQ := Aside0.mk (show B ≤ w5'.drew.heap.size from HQ0.out)
    have BK := Aside0.mk (blk_drew BK0.out)
    have HB := Aside0.mk (below_drew1 HB0'.out)
    have HI := Aside0.mk (builderF_below HI0.out (below_drew1 (Below.refl _ w5')))
    clear BK0 HB0' HI0 HQ0
    refine start_ (n := 9) (S := fun w' => w'.cell? ⟨gb, 0, none⟩ = some (.string (rd_T76 l0_4 x).f0) ∧ w'.cell? ⟨gb, 1, none⟩ = some (.int .i64 (rd_T76 l0_4 x).f1.f0) ∧ w'.cell? ⟨gb, 2, none⟩ = some (.int .i64 (rd_T76 l0_4 x).f1.f1) ∧ w'.cell? ⟨gb, 3, none⟩ = some (.string (rd_T76 l0_4 x).f1.f2)) (ds := [8]) (mkB 9 0) (by kernel_rfl) rfl rfl ⟨(blk_cell BK.out 0).trans rfl, (blk_cell BK.out 1).trans rfl, (blk_cell BK.out 2).trans rfl, (blk_cell BK.out 3).trans rfl⟩ (fun hHeld => ?_); refine with_tabW event_Show.tab8 event_Show.bits8 (fun HT_ HW_ => ?_)
    generalize w5'.drew = w6 at BK HB HI HQ hHeld ⊢
    refine pureA 0 (some 24) (mkB 9 1) ?_
    refine takeA 1 (some 25) (mkB 9 3) ?_ rfl (Or.inl ⟨by rfl, by rintro w' ⟨s0, s1, s2, s3⟩; go_simp; with_reducible rfl⟩)
    refine pureA 2 (some 26) (mkB 9 7) ?_
    refine pureA 3 (some 27) (mkB 9 15) ?_
    refine pureA 4 (some 28) (mkB 9 31) ?_
    refine takeA 5 (some 29) (mkB 9 63) ?_ rfl (Or.inl ⟨by rfl, by rintro w' ⟨s0, s1, s2, s3⟩; go_simp; with_reducible rfl⟩)
    refine oneA 6 (some 30) (mkB 9 127) (fun K hK => ?_)
    refine goesS Tryz.func116 #[.agg #[.int .i64 (rd_T76 l0_4 x).f1.f0, .int .i64 (rd_T76 l0_4 x).f1.f1, .string (rd_T76 l0_4 x).f1.f2]] ?_
    refine (cV _ HB.out).mono ?_
    rintro e w8 ⟨rfl, hb⟩
    refine ⟨_, rfl, ?_⟩
    have n0_ := Aside0.mk (blk_below (g := gb) (o := .cells #[.string (rd_T76 l0_4 x).f0, .int .i64 (rd_T76 l0_4 x).f1.f0, .int .i64 (rd_T76 l0_4 x).f1.f1, .string (rd_T76 l0_4 x).f1.f2] 76 (0, 0)) BK.out hb)
    have n1_ := Aside0.mk (below_step HB.out hb)
    have n2_ := Aside0.mk (builderF_below HI.out hb)
    have n3_ := Aside0.mk (Nat.le_trans HQ.out hb.size)
    clear BK HB HI HQ
    have BK := n0_
    have HB := n1_
    have HI := n2_
    have HQ := n3_
    clear n0_ n1_ n2_ n3_ hb
    refine hK.out _ _ ⟨(blk_cell BK.out 0).trans rfl, (blk_cell BK.out 1).trans rfl, (blk_cell BK.out 2).trans rfl, (blk_cell BK.out 3).trans rfl⟩ (fun hHeld => ?_)
    clear hK K
    refine normA ?_
    refine pureA 7 (some 31) (mkB 9 255) ?_
    refine last_ (i := 8) (N := some 32) (mkB 9 511) rfl rfl (one_of HT_.out (by kernel_rfl)) (by decide) (fun K hK => ?_)
    refine goesS Tryz.func109 #[.pointer (some ⟨B, 0, none⟩), .string ((((⟨#[32]⟩ : ByteArray) ++ (rd_T76 l0_4 x).f0) ++ (⟨#[61]⟩ : ByteArray)) ++ t2)] ?_
    refine (Tryz.Bld_WriteString B B _ ((((⟨#[32]⟩ : ByteArray) ++ (rd_T76 l0_4 x).f0) ++ (⟨#[61]⟩ : ByteArray)) ++ t2) _ HI.out (by rw [Lib.byteCells_length, ByteArray.size_append, HE2.out]; have := HZ2.out; omega) HQ.out).mono ?_
    rintro e W9' ⟨rfl, h1, b1, k1⟩
    refine ⟨_, rfl, ?_⟩
    refine hK.out _ _ ?_
    clear hK K
    refine normA ?_
    refine done_ (done_of HT_.out (by kernel_rfl)) ?_
    go_wp2
    go_roundw
    case rel => exact ⟨x + 1, acc ++ ((((⟨#[32]⟩ : ByteArray) ++ (rd_T76 l0_4 x).f0) ++ (⟨#[61]⟩ : ByteArray)) ++ t2).data.toList, (by rw [w1'.out]), HB2, (by rw [Lib.byteCells_append, ← strCells_mk]; exact Or.inr h1), HB.out.trans (b1.mono (Nat.le_of_lt HLT.out)), Lib.hid (Nat.le_trans HQ.out b1.size), HG2⟩
    case measure =>
     have e1 := w1'.out
     have e2 := HB2.out
     have e3 := HX0.out
     show l0_4.length - (intOf (.int .i64 (wrap64 (x + 1)))).toNat < l0_4.length - (intOf (.int .i64 x)).toNat
     rw [e1]
     simp only [intOf]
     omega
   ·have bb1 : decide (x < (l0_4.length : Int)) = false := decide_eq_false hlt
    have hgo := HG.out
    rw [List.drop_of_length_le (by omega), event_Show.go] at hgo
    obtain rfl := Option.some.inj hgo
    clear HG HX hx hlt hgo
    go_wp2_with fail
    refine (Tryz.Builder_String_any_k B B acc _ hI HS.out).mono ?_
    rintro e W4 ⟨rfl, _, b4, _⟩
    go_wp2
    go_ret
    exact ⟨rfl, hbw.trans (b4.mono (Nat.le_of_lt HLT.out))⟩
/-! ### event_number: function 136 -/
def event_number.l0 : Nat → ByteArray → Int → Int → Int → Option (Int)
 | 0, _, _, _, _ => none
 | k + 1, x0, x3, x9, x10 => if x10 < x9 then (if 0 ≤ x10 then (if x10 < (x0.size : Int) then (if (bt x0 x10) < 48 then (some 0) else (if (bt x0 x10) > 57 then (some 0) else (event_number.l0 k x0 (wrap64 ((wrap64 (10 * x3)) + (((bt x0 x10) - 48) % 256))) x9 (wrap64 (x10 + 1))))) else (none)) else (none)) else (some x3)
def event_number.f (k : Nat) (a0 : ByteArray) : Option (Int) := if (a0.size : Int) > 13 then (some 0) else (event_number.l0 k a0 0 (a0.size : Int) 0)
theorem event_number.mono_l : ∀ k, (∀ y0 y1 y2 y3, LeO (event_number.l0 k y0 y1 y2 y3) (event_number.l0 (k + 1) y0 y1 y2 y3))
 | 0 => fun _ _ _ _ r h => by simp [event_number.l0] at h
 | k + 1 => by
  have ih0 := event_number.mono_l k
  ·intro y0 y1 y2 y3
   unfold event_number.l0
   repeat' (with_reducible first | exact ih0 _ _ _ _ | exact LeO.refl _ | exact LeO.none _ | refine LeO.ite ?_ ?_ | refine LeO.bind ?_ (fun _ => ?_))
theorem event_number.mono : ∀ a0 k, LeO (event_number.f k a0) (event_number.f (k + 1) a0) := by
 intro a0 k
 have ih0 := event_number.mono_l k
 unfold event_number.f
 repeat' (with_reducible first | exact ih0 _ _ _ _ | exact LeO.refl _ | exact LeO.none _ | refine LeO.ite ?_ ?_ | refine LeO.bind ?_ (fun _ => ?_))
set_option maxHeartbeats 8000000 in
set_option maxRecDepth 100000 in
theorem event_number.calls (k : Nat) (a0 : ByteArray) (r : Int) (w : World) (h : event_number.f k a0 = some r) :
  Calls Tryz.prog 136 #[.string a0] w fun e w' => e = .returned (.int .i64 r) ∧ Drawn0 w w' := by
 unfold event_number.f at h
 have H := h
 clear h
 revert H; refine itR ?L10p ?L10n
 case' L10p =>
  intro c2 H
  have c2b0 := gtT c2
  have c2b1 : decide (13 < a0.size) = true := decide_eq_true (by omega)
  clear c2
  obtain rfl := Option.some.inj H
  have M8 := True.intro
 case' L10n =>
  intro c2 H
  have c2b0 := gtF c2
  have c2b1 : decide (13 < a0.size) = false := decide_eq_false (by omega)
  clear c2
  have H' := Aside0.mk H
  clear H
  have M9 := True.intro
 all_goals
  case _ =>
   go_enter Tryz.func136, Tryz.ntmps136
   go_wp2
   first
    | clear M8
      go_ret
      exact ⟨endS, drA⟩
    | clear M9
      go_loopg [3, 10] k (fun kq v3 v10 w' => ∃ (x3_1 : Int) (x10_1 : Int), v3 = .int .i64 x3_1 ∧ v10 = .int .i64 x10_1 ∧ Aside0 (event_number.l0 kq a0 x3_1 (a0.size : Int) x10_1 = some r) ∧ Aside0 (kq ≤ k) ∧ Drawn0 w w')
      case atStart => exact ⟨(0), (0), (endS), (endS), H', ⟨Nat.le_refl _⟩, drA⟩
      case round =>
       clear H'
       try clear c1
       try clear c2
       try clear c2b0
       try clear c2b1
       try clear p2
       try clear c13
       obtain ⟨x3_1, x10_1, rfl, rfl, HA, HK1, ⟨m1, rfl⟩⟩ := hrel
       cases gk with
       | zero => exact absurd HA.out (by simp [event_number.l0])
       | succ k1 =>
        have H := HA.out
        clear HA
        simp only [event_number.l0] at H
        revert H; refine itR ?L5p ?L5n
        case' L5p =>
         intro c101 H
         have c101b0 := decide_eq_true c101
         clear c101
         replace H := itN H
         obtain ⟨c102, H⟩ := H
         have c102b0 := decide_eq_true c102
         clear c102
         replace H := itN H
         obtain ⟨c103, H⟩ := H
         have c103b0 := decide_eq_true c103
         clear c103
         revert H; refine itR ?L6p ?L6n
         case' L6p =>
          intro c105 H
          have c105b0 := decide_eq_true c105
          clear c105
          obtain rfl := Option.some.inj H
          have M1 := True.intro
         case' L6n =>
          intro c105 H
          have c105b0 := decide_eq_false c105
          clear c105
          revert H; refine itR ?L7p ?L7n
          case' L7p =>
           intro c107 H
           have c107b0 := gtT c107
           clear c107
           obtain rfl := Option.some.inj H
           have M2 := True.intro
           have M3 := True.intro
          case' L7n =>
           intro c107 H
           have c107b0 := gtF c107
           clear c107
           have H' := Aside0.mk H
           clear H
           have M2 := True.intro
           have M4 := True.intro
        case' L5n =>
         intro c101 H
         have c101b0 := decide_eq_false c101
         clear c101
         obtain rfl := Option.some.inj H
         go_wp2
         go_ret
         exact ⟨endS, drA⟩
        all_goals
         case _ =>
          have p104 : 0 ≤ (x10_1 : Int) := odA
          have q104 : x10_1 < (a0.size : Int) := odA
          have hx104 := bt_at a0 x10_1
          replace p104 := eq_true p104
          replace q104 := eq_true q104
          first
           | clear M1
             go_wp2
             go_ret
             exact ⟨endS, drA⟩
           | clear M2
             have p106 : 0 ≤ (x10_1 : Int) := odA
             have q106 : x10_1 < (a0.size : Int) := odA
             have hx106 := bt_at a0 x10_1
             replace p106 := eq_true p106
             replace q106 := eq_true q106
             first
              | clear M3
                go_wp2
                go_ret
                exact ⟨endS, drA⟩
              | clear M4
                have p108 : 0 ≤ (x10_1 : Int) := odA
                have q108 : x10_1 < (a0.size : Int) := odA
                have hx108 := bt_at a0 x10_1
                replace p108 := eq_true p108
                replace q108 := eq_true q108
                go_wp2
                go_roundg k1
                case measure => have := HK1.out; omega
                case rel => exact ⟨(wrap64 ((wrap64 (10 * x3_1)) + (((bt a0 x10_1) - 48) % 256))), (wrap64 (x10_1 + 1)), (endS), (endS), H', ⟨by have := HK1.out; omega⟩, drA⟩
end Go.Proofs.YtkdndabpaajkaaaGreatDoor.A
