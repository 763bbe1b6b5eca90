-- By drv.py, the session's own driver round the kit's print: the machine's side of the laws, function by function. Not trusted: Lean checks it.
import Derived.Test.YtnbbajiabbmdmaaGreatDoorAx0
import Derived.Test.YtnbbajiabbmdmaaGreatDoorAx19
namespace Go.Proofs.YtnbbajiabbmdmaaGreatDoor.A
open Go.RowKit Go.Proofs.YtnbbajiabbmdmaaGreatDoorW.PrintWords Go.Proofs.YtnbbajiabbmdmaaGreatDoorW.PrintLast Go.Proofs.YtnbbajiabbmdmaaGreatDoorW.PrintMore
attribute [local go_sem] max2_int min2_int max_two min_two max_three min_three max_four min_four   -- for this text's walks alone
set_option linter.unusedVariables false
set_option linter.unusedSimpArgs false

/-! ### quic_one: function 93 -/
def quic_one.f (k : Nat) (a0_0 : Int) (a0_1 : Int) (a0_2 : ByteArray) : Option (ByteArray × Bool) := if a0_0 = 1 then ((quic_Num.f k a0_1).bind fun t482 => (if a0_1 ≥ 0 then (if a0_1 ≤ 4611686018427387903 then (some (t482, (a0_2.toList == ([] : List UInt8)))) else (some (t482, false))) else (some (t482, false)))) else (if a0_0 = 2 then ((quic_Whole.f k a0_1).bind fun t483 => ((quic_whole.f a0_1).bind fun t484 => (if t484 = true then (some (t483, (a0_2.toList == ([] : List UInt8)))) else (some (t483, false))))) else (if a0_0 = 3 then ((some (([(Go.bits .and .i64 a0_1 1) % 256] : List Int) : List Int)).bind fun y485 => (if a0_1 = 0 then (some (strOfNums y485, (a0_2.toList == ([] : List UInt8)))) else (if a0_1 = 1 then (some (strOfNums y485, (a0_2.toList == ([] : List UInt8)))) else (some (strOfNums y485, false))))) else (if a0_0 = 4 then ((quic_text.f k a0_2).bind fun t488 => (if (a0_2.size : Int) ≤ 65536 then (some (t488, (a0_1 == 0))) else (some (t488, false)))) else (some ((⟨#[]⟩ : ByteArray), false)))))
theorem quic_one.mono : ∀ a0 a1 a2 k, LeO (quic_one.f k a0 a1 a2) (quic_one.f (k + 1) a0 a1 a2) := by
 intro a0 a1 a2 k
 unfold quic_one.f
 repeat' first
   | (with_reducible exact quic_Num.mono _ _)
   | (with_reducible exact quic_Whole.mono _ _)
   | (with_reducible exact quic_text.mono _ _)
   | (with_reducible exact LeO.refl _)
   | (with_reducible exact LeO.none _)
   | (with_reducible refine LeO.ite ?_ ?_)
   | (with_reducible refine LeO.bind ?_ (fun _ => ?_))
   | exact quic_Num.mono _ _
   | exact quic_Whole.mono _ _
   | exact quic_text.mono _ _
   | exact LeO.none _
   | refine LeO.ite ?_ ?_
   | refine LeO.bind ?_ (fun _ => ?_)
def quic_one.T3 : Bool × List (List Nat × List Nat) := (true, [([], []), ([0], [0]), ([1], [1]), ([], []), ([3], [3]), ([4], [4]), ([5, 2], [5]), ([6], [6]), ([7, 6], [6, 7]), ([8, 6], [6, 8]), ([6, 9], [6, 9]), ([10, 6], [10]), ([11], [11]), ([12, 11], [11, 12]), ([13, 11], [11, 13]), ([11, 14], [11, 14]), ([2, 11, 0, 1, 2], [2]), ([15, 16, 0, 1, 2, 3, 4, 5, 6, 7, 8, 9, 10, 11, 12, 13, 14, 15, 16], [15])])
def quic_one.B3 : List Nat := [0, 1, 3, 0, 8, 24, 63, 127, 255, 511, 1023, 2047, 4095, 8191, 16383, 32767, 4095, 131071]
theorem quic_one.tab3 : rtab .any (opsOf Tryz.f93 3) = quic_one.T3 := by kernel_rfl
theorem quic_one.bits3 : waitsOk quic_one.T3.2 quic_one.B3 = true := by kernel_rfl
def quic_one.T5 : Bool × List (List Nat × List Nat) := (true, [([], []), ([0], [0]), ([1], [1]), ([], []), ([3], [3]), ([4, 2], [4]), ([5, 5], [5]), ([6], [6]), ([7, 6], [6, 7]), ([8, 6], [6, 8]), ([6, 9], [6, 9]), ([2, 6, 0, 1, 2], [2]), ([10, 11, 0, 1, 2, 3, 4, 5, 6, 7, 8, 9, 10, 11], [10])])
def quic_one.B5 : List Nat := [0, 1, 3, 0, 8, 31, 63, 127, 255, 511, 1023, 127, 4095]
theorem quic_one.tab5 : rtab .any (opsOf Tryz.f93 5) = quic_one.T5 := by kernel_rfl
theorem quic_one.bits5 : waitsOk quic_one.T5.2 quic_one.B5 = true := by kernel_rfl
def quic_one.T7 : Bool × List (List Nat × List Nat) := (true, [([], []), ([0], [0]), ([1], [1]), ([2], [2]), ([3], [3]), ([4], [4]), ([], []), ([6], [6]), ([7], [7]), ([8], [8]), ([9], [9]), ([10, 9], [9, 10]), ([11, 9], [9, 11]), ([9, 12], [9, 12]), ([13, 9], [13]), ([14], [14]), ([15, 14], [14, 15]), ([16, 14], [14, 16]), ([14, 17], [14, 17]), ([5, 14, 0, 1, 2, 3, 4, 5], [5]), ([18, 19, 0, 1, 2, 3, 4, 5, 6, 7, 8, 9, 10, 11, 12, 13, 14, 15, 16, 17, 18, 19], [18])])
def quic_one.B7 : List Nat := [0, 1, 3, 7, 15, 31, 0, 64, 192, 448, 960, 1984, 4032, 8128, 16320, 32704, 65472, 131008, 262080, 32767, 1048575]
theorem quic_one.tab7 : rtab .any (opsOf Tryz.f93 7) = quic_one.T7 := by kernel_rfl
theorem quic_one.bits7 : waitsOk quic_one.T7.2 quic_one.B7 = true := by kernel_rfl
def quic_one.T9 : Bool × List (List Nat × List Nat) := (true, [([], []), ([0], [0]), ([1], [1]), ([], []), ([3], [3]), ([4], [4]), ([5], [5]), ([6, 2], [6]), ([7], [7]), ([8, 7], [7, 8]), ([9, 7], [7, 9]), ([7, 10], [7, 10]), ([2, 7, 0, 1, 2], [2]), ([11, 12, 0, 1, 2, 3, 4, 5, 6, 7, 8, 9, 10, 11, 12], [11])])
def quic_one.B9 : List Nat := [0, 1, 3, 0, 8, 24, 56, 127, 255, 511, 1023, 2047, 255, 8191]
theorem quic_one.tab9 : rtab .any (opsOf Tryz.f93 9) = quic_one.T9 := by kernel_rfl
theorem quic_one.bits9 : waitsOk quic_one.T9.2 quic_one.B9 = true := by kernel_rfl
set_option maxHeartbeats 8000000 in
set_option maxRecDepth 100000 in
theorem quic_one.calls (k : Nat) (a0_0 : Int) (a0_1 : Int) (a0_2 : ByteArray) (r1 : ByteArray) (r2 : Bool) (w : World) (h : quic_one.f k a0_0 a0_1 a0_2 = some (r1, r2)) :
  Calls Tryz.prog 93 #[.agg #[.int .i64 a0_0, .int .i64 a0_1, .string a0_2]] w fun e w' => e = .returned (.tuple #[.string r1, .bool r2]) ∧ Below w.heap.size w w' := by
 have hu101 := Tryz.underlying101
 have HB := Aside0.mk (Below.refl w.heap.size w)
 have H : (if a0_0 = 1 then ((quic_Num.f k a0_1).bind fun t482 => (if a0_1 ≥ 0 then (if a0_1 ≤ 4611686018427387903 then (some (t482, (a0_2.toList == ([] : List UInt8)))) else (some (t482, false))) else (some (t482, false)))) else (if a0_0 = 2 then ((quic_Whole.f k a0_1).bind fun t483 => ((quic_whole.f a0_1).bind fun t484 => (if t484 = true then (some (t483, (a0_2.toList == ([] : List UInt8)))) else (some (t483, false))))) else (if a0_0 = 3 then ((some (([(Go.bits .and .i64 a0_1 1) % 256] : List Int) : List Int)).bind fun y485 => (if a0_1 = 0 then (some (strOfNums y485, (a0_2.toList == ([] : List UInt8)))) else (if a0_1 = 1 then (some (strOfNums y485, (a0_2.toList == ([] : List UInt8)))) else (some (strOfNums y485, false))))) else (if a0_0 = 4 then ((quic_text.f k a0_2).bind fun t488 => (if (a0_2.size : Int) ≤ 65536 then (some (t488, (a0_1 == 0))) else (some (t488, false)))) else (some ((⟨#[]⟩ : ByteArray), false)))))) = some (r1, r2) := h
 clear h
 by_cases c2 : a0_0 = 1
 ·rw [if_pos c2] at H
  have c2b0 : (a0_0 == 1) = true := beq_iff_eq.mpr c2
  have c2b1 : (a0_0 != 1) = false := bne_eq_false_iff_eq.mpr c2
  clear c2
  replace H := Option.bind_eq_some_iff.mp H
  obtain ⟨t482, A30, H⟩ := H
  replace H : (if a0_1 ≥ 0 then (if a0_1 ≤ 4611686018427387903 then (some (t482, (a0_2.toList == ([] : List UInt8)))) else (some (t482, false))) else (some (t482, false))) = some (r1, r2) := H
  have A3 := Aside0.mk A30
  clear A30
  by_cases c4 : a0_1 ≥ 0
  ·rw [if_pos c4] at H
   have c4b0 : decide (0 ≤ a0_1) = true := decide_eq_true c4
   clear c4
   by_cases c5 : a0_1 ≤ 4611686018427387903
   ·rw [if_pos c5] at H
    have c5b0 : decide (a0_1 ≤ 4611686018427387903) = true := decide_eq_true c5
    clear c5
    simp only [Option.some.injEq, Prod.mk.injEq] at H
    obtain ⟨rfl, rfl⟩ := H
    go_enter Tryz.func93, Tryz.ntmps93
    try go_wp2_with (first | ((with_reducible refine gate_dst (N := 1) rfl ?_); refine box_event ?hg (N := 1) ?hd (cs := #[.int .i64 a0_0, .int .i64 a0_1, .string a0_2]) (t := 101) ?hr ?_; (case hd => rfl); (case hg => rfl); (case hr => first | (go_simp; done) | (go_simp; rfl)); intro gb481 hg w6 hbox hb; have n0_ := Aside0.mk (below_step (bwA) hb); have n1_ := Aside0.mk (hbox); have n2_ := Aside0.mk ((by rw [hg]; exact (below_size (bwA)) : w.heap.size ≤ gb481)); have n3_ := Aside0.mk ((by rw [hg]; exact (below_size (bwA)) : w.heap.size ≤ gb481)); clear HB; have HB := n0_; have BK481 := n1_; have GW481 := n2_; have GE481 := n3_; clear n0_ n1_ n2_ n3_; clear hb hbox hg; have hcz7_0 : w6.cell? ⟨gb481, 0, none⟩ = some (.int .i64 a0_0) := (blk_cell BK481.out 0).trans rfl; have hcz7_1 : w6.cell? ⟨gb481, 1, none⟩ = some (.int .i64 a0_1) := (blk_cell BK481.out 1).trans rfl; have hcz7_2 : w6.cell? ⟨gb481, 2, none⟩ = some (.string a0_2) := (blk_cell BK481.out 2).trans rfl; have hfz7_0 := blk_frozen BK481.out 0; have hfz7_1 := blk_frozen BK481.out 1; have hfz7_2 := blk_frozen BK481.out 2))
    have n0_ := Aside0.mk (blk_drew BK481.out)
    have n1_ := Aside0.mk (below_drew1 HB.out)
    clear BK481
    clear HB
    have BK481 := n0_
    have HB := n1_
    clear n0_ n1_
    refine start_ (n := 18) (S := fun w' => w'.cell? ⟨gb481, 0, none⟩ = some (.int .i64 a0_0) ∧ w'.cell? ⟨gb481, 1, none⟩ = some (.int .i64 a0_1) ∧ w'.cell? ⟨gb481, 2, none⟩ = some (.string a0_2)) (ds := []) (mkB 18 0) (by kernel_rfl) rfl rfl ⟨(blk_cell BK481.out 0).trans rfl, (blk_cell BK481.out 1).trans rfl, (blk_cell BK481.out 2).trans rfl⟩ (fun hHeld => ?_); refine with_tabW quic_one.tab3 quic_one.bits3 (fun HT_ HW_ => ?_)
    generalize w6.drew = w8 at BK481 HB hHeld ⊢
    refine pureA 0 (some 8) (mkB 18 1) ?_
    refine pureA 3 (some 11) (mkB 18 9) ?_
    refine takeA 1 (some 9) (mkB 18 11) ?_ rfl (Or.inl ⟨by rfl, by rintro w' ⟨s0, s1, s2⟩; go_simp; with_reducible rfl⟩)
    refine takeA 4 (some 12) (mkB 18 27) ?_ rfl (Or.inl ⟨by rfl, by rintro w' ⟨s0, s1, s2⟩; go_simp; with_reducible rfl⟩)
    refine pureA 5 (some 13) (mkB 18 59) ?_
    refine oneA 2 (some 10) (mkB 18 63) (fun K hK => ?_)
    refine goes_ Tryz.func67 (by kernel_rfl) rfl #[.int .i64 a0_1] (by rfl) rfl rfl (by (try simp only [List.map_toArray, List.map_cons, List.map_nil]); first | done | rfl | (simp only [List.length_drop, List.length_take]; rfl)) ?_
    with_reducible refine (quic_Num.calls k a0_1 t482 _ A3.out).mono ?_
    rintro e w9 ⟨rfl, hb⟩
    refine ⟨_, rfl, ?_⟩
    have n0_ := Aside0.mk (blk_below (g := gb481) (o := .cells #[.int .i64 a0_0, .int .i64 a0_1, .string a0_2] 101 (0, 0)) blkA hb)
    have n1_ := Aside0.mk (below_step (bwA) hb)
    clear BK481
    clear HB
    have BK481 := n0_
    have HB := n1_
    clear n0_ n1_
    (try clear hb); (try clear hb2); (try clear hk); (try clear hi)
    refine hK.out _ _ ⟨(blk_cell BK481.out 0).trans rfl, (blk_cell BK481.out 1).trans rfl, (blk_cell BK481.out 2).trans rfl⟩ (fun hHeld => ?_)
    clear hK K
    refine normA ?_
    refine pureA 6 (some 14) (mkB 18 127) ?_
    refine pureA 7 (some 15) (mkB 18 255) ?_
    refine takeA 8 (some 16) (mkB 18 511) ?_ rfl (Or.inl ⟨by rfl, by rintro w' ⟨s0, s1, s2⟩; go_simp; with_reducible rfl⟩)
    refine pureA 9 (some 17) (mkB 18 1023) ?_
    refine pureA 10 (some 18) (mkB 18 2047) ?_
    refine pureA 11 (some 19) (mkB 18 4095) ?_
    refine pureA 12 (some 20) (mkB 18 8191) ?_
    refine pureA 16 (some 2) (mkB 18 73727) ?_
    refine takeA 13 (some 21) (mkB 18 81919) ?_ rfl (Or.inl ⟨by rfl, by rintro w' ⟨s0, s1, s2⟩; go_simp; with_reducible rfl⟩)
    refine pureA 14 (some 22) (mkB 18 98303) ?_
    refine pureA 15 (some 23) (mkB 18 131071) ?_
    refine pureA 17 (some 3) (mkB 18 262143) ?_
    refine done_ (done_of HT_.out (by kernel_rfl)) ?_
    try go_wp2
    go_ret2
    exact ⟨endA, bwA⟩
   ·rw [if_neg c5] at H
    have c5b0 : decide (a0_1 ≤ 4611686018427387903) = false := decide_eq_false c5
    clear c5
    simp only [Option.some.injEq, Prod.mk.injEq] at H
    obtain ⟨rfl, rfl⟩ := H
    go_enter Tryz.func93, Tryz.ntmps93
    try go_wp2_with (first | ((with_reducible refine gate_dst (N := 1) rfl ?_); refine box_event ?hg (N := 1) ?hd (cs := #[.int .i64 a0_0, .int .i64 a0_1, .string a0_2]) (t := 101) ?hr ?_; (case hd => rfl); (case hg => rfl); (case hr => first | (go_simp; done) | (go_simp; rfl)); intro gb481 hg w10 hbox hb; have n0_ := Aside0.mk (below_step (bwA) hb); have n1_ := Aside0.mk (hbox); have n2_ := Aside0.mk ((by rw [hg]; exact (below_size (bwA)) : w.heap.size ≤ gb481)); have n3_ := Aside0.mk ((by rw [hg]; exact (below_size (bwA)) : w.heap.size ≤ gb481)); clear HB; have HB := n0_; have BK481 := n1_; have GW481 := n2_; have GE481 := n3_; clear n0_ n1_ n2_ n3_; clear hb hbox hg; have hcz11_0 : w10.cell? ⟨gb481, 0, none⟩ = some (.int .i64 a0_0) := (blk_cell BK481.out 0).trans rfl; have hcz11_1 : w10.cell? ⟨gb481, 1, none⟩ = some (.int .i64 a0_1) := (blk_cell BK481.out 1).trans rfl; have hcz11_2 : w10.cell? ⟨gb481, 2, none⟩ = some (.string a0_2) := (blk_cell BK481.out 2).trans rfl; have hfz11_0 := blk_frozen BK481.out 0; have hfz11_1 := blk_frozen BK481.out 1; have hfz11_2 := blk_frozen BK481.out 2))
    have n0_ := Aside0.mk (blk_drew BK481.out)
    have n1_ := Aside0.mk (below_drew1 HB.out)
    clear BK481
    clear HB
    have BK481 := n0_
    have HB := n1_
    clear n0_ n1_
    refine start_ (n := 18) (S := fun w' => w'.cell? ⟨gb481, 0, none⟩ = some (.int .i64 a0_0) ∧ w'.cell? ⟨gb481, 1, none⟩ = some (.int .i64 a0_1) ∧ w'.cell? ⟨gb481, 2, none⟩ = some (.string a0_2)) (ds := []) (mkB 18 0) (by kernel_rfl) rfl rfl ⟨(blk_cell BK481.out 0).trans rfl, (blk_cell BK481.out 1).trans rfl, (blk_cell BK481.out 2).trans rfl⟩ (fun hHeld => ?_); refine with_tabW quic_one.tab3 quic_one.bits3 (fun HT_ HW_ => ?_)
    generalize w10.drew = w12 at BK481 HB hHeld ⊢
    refine pureA 0 (some 8) (mkB 18 1) ?_
    refine pureA 3 (some 11) (mkB 18 9) ?_
    refine takeA 1 (some 9) (mkB 18 11) ?_ rfl (Or.inl ⟨by rfl, by rintro w' ⟨s0, s1, s2⟩; go_simp; with_reducible rfl⟩)
    refine takeA 4 (some 12) (mkB 18 27) ?_ rfl (Or.inl ⟨by rfl, by rintro w' ⟨s0, s1, s2⟩; go_simp; with_reducible rfl⟩)
    refine pureA 5 (some 13) (mkB 18 59) ?_
    refine oneA 2 (some 10) (mkB 18 63) (fun K hK => ?_)
    refine goes_ Tryz.func67 (by kernel_rfl) rfl #[.int .i64 a0_1] (by rfl) rfl rfl (by (try simp only [List.map_toArray, List.map_cons, List.map_nil]); first | done | rfl | (simp only [List.length_drop, List.length_take]; rfl)) ?_
    with_reducible refine (quic_Num.calls k a0_1 t482 _ A3.out).mono ?_
    rintro e w13 ⟨rfl, hb⟩
    refine ⟨_, rfl, ?_⟩
    have n0_ := Aside0.mk (blk_below (g := gb481) (o := .cells #[.int .i64 a0_0, .int .i64 a0_1, .string a0_2] 101 (0, 0)) blkA hb)
    have n1_ := Aside0.mk (below_step (bwA) hb)
    clear BK481
    clear HB
    have BK481 := n0_
    have HB := n1_
    clear n0_ n1_
    (try clear hb); (try clear hb2); (try clear hk); (try clear hi)
    refine hK.out _ _ ⟨(blk_cell BK481.out 0).trans rfl, (blk_cell BK481.out 1).trans rfl, (blk_cell BK481.out 2).trans rfl⟩ (fun hHeld => ?_)
    clear hK K
    refine normA ?_
    refine pureA 6 (some 14) (mkB 18 127) ?_
    refine pureA 7 (some 15) (mkB 18 255) ?_
    refine takeA 8 (some 16) (mkB 18 511) ?_ rfl (Or.inl ⟨by rfl, by rintro w' ⟨s0, s1, s2⟩; go_simp; with_reducible rfl⟩)
    refine pureA 9 (some 17) (mkB 18 1023) ?_
    refine pureA 10 (some 18) (mkB 18 2047) ?_
    refine pureA 11 (some 19) (mkB 18 4095) ?_
    refine pureU 12 (some 20) (mkB 18 8191) ?_
    refine pureU 13 (some 21) (mkB 18 16383) ?_
    refine pureU 14 (some 22) (mkB 18 32767) ?_
    refine pureA 15 (some 23) (mkB 18 65535) ?_
    refine pureA 16 (some 2) (mkB 18 131071) ?_
    refine pureA 17 (some 3) (mkB 18 262143) ?_
    refine done_ (done_of HT_.out (by kernel_rfl)) ?_
    try go_wp2
    go_ret2
    exact ⟨endA, bwA⟩
  ·rw [if_neg c4] at H
   have c4b0 : decide (0 ≤ a0_1) = false := decide_eq_false c4
   clear c4
   simp only [Option.some.injEq, Prod.mk.injEq] at H
   obtain ⟨rfl, rfl⟩ := H
   go_enter Tryz.func93, Tryz.ntmps93
   try go_wp2_with (first | ((with_reducible refine gate_dst (N := 1) rfl ?_); refine box_event ?hg (N := 1) ?hd (cs := #[.int .i64 a0_0, .int .i64 a0_1, .string a0_2]) (t := 101) ?hr ?_; (case hd => rfl); (case hg => rfl); (case hr => first | (go_simp; done) | (go_simp; rfl)); intro gb481 hg w14 hbox hb; have n0_ := Aside0.mk (below_step (bwA) hb); have n1_ := Aside0.mk (hbox); have n2_ := Aside0.mk ((by rw [hg]; exact (below_size (bwA)) : w.heap.size ≤ gb481)); have n3_ := Aside0.mk ((by rw [hg]; exact (below_size (bwA)) : w.heap.size ≤ gb481)); clear HB; have HB := n0_; have BK481 := n1_; have GW481 := n2_; have GE481 := n3_; clear n0_ n1_ n2_ n3_; clear hb hbox hg; have hcz15_0 : w14.cell? ⟨gb481, 0, none⟩ = some (.int .i64 a0_0) := (blk_cell BK481.out 0).trans rfl; have hcz15_1 : w14.cell? ⟨gb481, 1, none⟩ = some (.int .i64 a0_1) := (blk_cell BK481.out 1).trans rfl; have hcz15_2 : w14.cell? ⟨gb481, 2, none⟩ = some (.string a0_2) := (blk_cell BK481.out 2).trans rfl; have hfz15_0 := blk_frozen BK481.out 0; have hfz15_1 := blk_frozen BK481.out 1; have hfz15_2 := blk_frozen BK481.out 2))
   have n0_ := Aside0.mk (blk_drew BK481.out)
   have n1_ := Aside0.mk (below_drew1 HB.out)
   clear BK481
   clear HB
   have BK481 := n0_
   have HB := n1_
   clear n0_ n1_
   refine start_ (n := 18) (S := fun w' => w'.cell? ⟨gb481, 0, none⟩ = some (.int .i64 a0_0) ∧ w'.cell? ⟨gb481, 1, none⟩ = some (.int .i64 a0_1) ∧ w'.cell? ⟨gb481, 2, none⟩ = some (.string a0_2)) (ds := []) (mkB 18 0) (by kernel_rfl) rfl rfl ⟨(blk_cell BK481.out 0).trans rfl, (blk_cell BK481.out 1).trans rfl, (blk_cell BK481.out 2).trans rfl⟩ (fun hHeld => ?_); refine with_tabW quic_one.tab3 quic_one.bits3 (fun HT_ HW_ => ?_)
   generalize w14.drew = w16 at BK481 HB hHeld ⊢
   refine pureA 0 (some 8) (mkB 18 1) ?_
   refine pureA 3 (some 11) (mkB 18 9) ?_
   refine takeA 1 (some 9) (mkB 18 11) ?_ rfl (Or.inl ⟨by rfl, by rintro w' ⟨s0, s1, s2⟩; go_simp; with_reducible rfl⟩)
   refine takeA 4 (some 12) (mkB 18 27) ?_ rfl (Or.inl ⟨by rfl, by rintro w' ⟨s0, s1, s2⟩; go_simp; with_reducible rfl⟩)
   refine pureA 5 (some 13) (mkB 18 59) ?_
   refine oneA 2 (some 10) (mkB 18 63) (fun K hK => ?_)
   refine goes_ Tryz.func67 (by kernel_rfl) rfl #[.int .i64 a0_1] (by rfl) rfl rfl (by (try simp only [List.map_toArray, List.map_cons, List.map_nil]); first | done | rfl | (simp only [List.length_drop, List.length_take]; rfl)) ?_
   with_reducible refine (quic_Num.calls k a0_1 t482 _ A3.out).mono ?_
   rintro e w17 ⟨rfl, hb⟩
   refine ⟨_, rfl, ?_⟩
   have n0_ := Aside0.mk (blk_below (g := gb481) (o := .cells #[.int .i64 a0_0, .int .i64 a0_1, .string a0_2] 101 (0, 0)) blkA hb)
   have n1_ := Aside0.mk (below_step (bwA) hb)
   clear BK481
   clear HB
   have BK481 := n0_
   have HB := n1_
   clear n0_ n1_
   (try clear hb); (try clear hb2); (try clear hk); (try clear hi)
   refine hK.out _ _ ⟨(blk_cell BK481.out 0).trans rfl, (blk_cell BK481.out 1).trans rfl, (blk_cell BK481.out 2).trans rfl⟩ (fun hHeld => ?_)
   clear hK K
   refine normA ?_
   refine pureA 6 (some 14) (mkB 18 127) ?_
   refine pureU 7 (some 15) (mkB 18 255) ?_
   refine pureU 8 (some 16) (mkB 18 511) ?_
   refine pureU 9 (some 17) (mkB 18 1023) ?_
   refine pureA 10 (some 18) (mkB 18 2047) ?_
   refine pureA 11 (some 19) (mkB 18 4095) ?_
   refine pureU 12 (some 20) (mkB 18 8191) ?_
   refine pureU 13 (some 21) (mkB 18 16383) ?_
   refine pureU 14 (some 22) (mkB 18 32767) ?_
   refine pureA 15 (some 23) (mkB 18 65535) ?_
   refine pureA 16 (some 2) (mkB 18 131071) ?_
   refine pureA 17 (some 3) (mkB 18 262143) ?_
   refine done_ (done_of HT_.out (by kernel_rfl)) ?_
   try go_wp2
   go_ret2
   exact ⟨endA, bwA⟩
 ·rw [if_neg c2] at H
  have c2b0 : (a0_0 == 1) = false := beq_eq_false_iff_ne.mpr c2
  have c2b1 : (a0_0 != 1) = true := bne_iff_ne.mpr c2
  by_cases c18 : a0_0 = 2
  ·rw [if_pos c18] at H
   have c18b0 : (a0_0 == 2) = true := beq_iff_eq.mpr c18
   have c18b1 : (a0_0 != 2) = false := bne_eq_false_iff_eq.mpr c18
   clear c18
   replace H := Option.bind_eq_some_iff.mp H
   obtain ⟨t483, A190, H⟩ := H
   replace H : ((quic_whole.f a0_1).bind fun t484 => (if t484 = true then (some (t483, (a0_2.toList == ([] : List UInt8)))) else (some (t483, false)))) = some (r1, r2) := H
   have A19 := Aside0.mk A190
   clear A190
   replace H := Option.bind_eq_some_iff.mp H
   obtain ⟨t484, A200, H⟩ := H
   replace H : (if t484 = true then (some (t483, (a0_2.toList == ([] : List UInt8)))) else (some (t483, false))) = some (r1, r2) := H
   have A20 := Aside0.mk A200
   clear A200
   by_cases c21 : t484 = true
   ·subst c21
    have H1 : (some (t483, (a0_2.toList == ([] : List UInt8)))) = some (r1, r2) := by rw [if_pos rfl] at H; exact H
    clear H
    have H := H1
    clear H1
    simp only [Option.some.injEq, Prod.mk.injEq] at H
    obtain ⟨rfl, rfl⟩ := H
    go_enter Tryz.func93, Tryz.ntmps93
    try go_wp2_with (first | ((with_reducible refine gate_dst (N := 1) rfl ?_); refine box_event ?hg (N := 1) ?hd (cs := #[.int .i64 a0_0, .int .i64 a0_1, .string a0_2]) (t := 101) ?hr ?_; (case hd => rfl); (case hg => rfl); (case hr => first | (go_simp; done) | (go_simp; rfl)); intro gb481 hg w22 hbox hb; have n0_ := Aside0.mk (below_step (bwA) hb); have n1_ := Aside0.mk (hbox); have n2_ := Aside0.mk ((by rw [hg]; exact (below_size (bwA)) : w.heap.size ≤ gb481)); have n3_ := Aside0.mk ((by rw [hg]; exact (below_size (bwA)) : w.heap.size ≤ gb481)); clear HB; have HB := n0_; have BK481 := n1_; have GW481 := n2_; have GE481 := n3_; clear n0_ n1_ n2_ n3_; clear hb hbox hg; have hcz23_0 : w22.cell? ⟨gb481, 0, none⟩ = some (.int .i64 a0_0) := (blk_cell BK481.out 0).trans rfl; have hcz23_1 : w22.cell? ⟨gb481, 1, none⟩ = some (.int .i64 a0_1) := (blk_cell BK481.out 1).trans rfl; have hcz23_2 : w22.cell? ⟨gb481, 2, none⟩ = some (.string a0_2) := (blk_cell BK481.out 2).trans rfl; have hfz23_0 := blk_frozen BK481.out 0; have hfz23_1 := blk_frozen BK481.out 1; have hfz23_2 := blk_frozen BK481.out 2))
    have n0_ := Aside0.mk (blk_drew BK481.out)
    have n1_ := Aside0.mk (below_drew1 HB.out)
    clear BK481
    clear HB
    have BK481 := n0_
    have HB := n1_
    clear n0_ n1_
    refine start_ (n := 13) (S := fun w' => w'.cell? ⟨gb481, 0, none⟩ = some (.int .i64 a0_0) ∧ w'.cell? ⟨gb481, 1, none⟩ = some (.int .i64 a0_1) ∧ w'.cell? ⟨gb481, 2, none⟩ = some (.string a0_2)) (ds := []) (mkB 13 0) (by kernel_rfl) rfl rfl ⟨(blk_cell BK481.out 0).trans rfl, (blk_cell BK481.out 1).trans rfl, (blk_cell BK481.out 2).trans rfl⟩ (fun hHeld => ?_); refine with_tabW quic_one.tab5 quic_one.bits5 (fun HT_ HW_ => ?_)
    generalize w22.drew = w24 at BK481 HB hHeld ⊢
    refine pureA 0 (some 26) (mkB 13 1) ?_
    refine pureA 3 (some 29) (mkB 13 9) ?_
    refine takeA 1 (some 27) (mkB 13 11) ?_ rfl (Or.inl ⟨by rfl, by rintro w' ⟨s0, s1, s2⟩; go_simp; with_reducible rfl⟩)
    refine takeA 4 (some 30) (mkB 13 27) ?_ rfl (Or.inl ⟨by rfl, by rintro w' ⟨s0, s1, s2⟩; go_simp; with_reducible rfl⟩)
    refine oneA 2 (some 28) (mkB 13 31) (fun K hK => ?_)
    refine goes_ Tryz.func120 (by kernel_rfl) rfl #[.int .i64 a0_1] (by rfl) rfl rfl (by (try simp only [List.map_toArray, List.map_cons, List.map_nil]); first | done | rfl | (simp only [List.length_drop, List.length_take]; rfl)) ?_
    with_reducible refine (quic_Whole.calls k a0_1 t483 _ A19.out).mono ?_
    rintro e w25 ⟨rfl, hb⟩
    refine ⟨_, rfl, ?_⟩
    have n0_ := Aside0.mk (blk_below (g := gb481) (o := .cells #[.int .i64 a0_0, .int .i64 a0_1, .string a0_2] 101 (0, 0)) blkA hb)
    have n1_ := Aside0.mk (below_step (bwA) hb)
    clear BK481
    clear HB
    have BK481 := n0_
    have HB := n1_
    clear n0_ n1_
    (try clear hb); (try clear hb2); (try clear hk); (try clear hi)
    refine hK.out _ _ ⟨(blk_cell BK481.out 0).trans rfl, (blk_cell BK481.out 1).trans rfl, (blk_cell BK481.out 2).trans rfl⟩ (fun hHeld => ?_)
    clear hK K
    refine normA ?_
    refine oneA 5 (some 31) (mkB 13 63) (fun K hK => ?_)
    refine goes_ Tryz.func121 (by kernel_rfl) rfl #[.int .i64 a0_1] (by rfl) rfl rfl (by (try simp only [List.map_toArray, List.map_cons, List.map_nil]); first | done | rfl | (simp only [List.length_drop, List.length_take]; rfl)) ?_
    with_reducible refine (quic_whole.calls a0_1 true _ A20.out).mono ?_
    rintro e w' ⟨rfl, ⟨nd, rfl⟩⟩
    refine ⟨_, rfl, ?_⟩
    refine hK.out _ _ ⟨(blk_cell BK481.out 0).trans rfl, (blk_cell BK481.out 1).trans rfl, (blk_cell BK481.out 2).trans rfl⟩ (fun hHeld => ?_)
    clear hK K
    refine normA ?_
    refine pureA 6 (some 32) (mkB 13 127) ?_
    refine pureA 7 (some 33) (mkB 13 255) ?_
    refine pureA 11 (some 2) (mkB 13 2303) ?_
    refine takeA 8 (some 34) (mkB 13 2559) ?_ rfl (Or.inl ⟨by rfl, by rintro w' ⟨s0, s1, s2⟩; go_simp; with_reducible rfl⟩)
    refine pureA 9 (some 35) (mkB 13 3071) ?_
    refine pureA 10 (some 36) (mkB 13 4095) ?_
    refine pureA 12 (some 3) (mkB 13 8191) ?_
    refine done_ (done_of HT_.out (by kernel_rfl)) ?_
    try go_wp2
    go_ret2
    exact ⟨endA, bwA⟩
   ·replace c21 := Bool.eq_false_iff.mpr c21
    subst c21
    have H1 : (some (t483, false)) = some (r1, r2) := by rw [if_neg (show ¬ (false = true) by decide)] at H; exact H
    clear H
    have H := H1
    clear H1
    simp only [Option.some.injEq, Prod.mk.injEq] at H
    obtain ⟨rfl, rfl⟩ := H
    go_enter Tryz.func93, Tryz.ntmps93
    try go_wp2_with (first | ((with_reducible refine gate_dst (N := 1) rfl ?_); refine box_event ?hg (N := 1) ?hd (cs := #[.int .i64 a0_0, .int .i64 a0_1, .string a0_2]) (t := 101) ?hr ?_; (case hd => rfl); (case hg => rfl); (case hr => first | (go_simp; done) | (go_simp; rfl)); intro gb481 hg w26 hbox hb; have n0_ := Aside0.mk (below_step (bwA) hb); have n1_ := Aside0.mk (hbox); have n2_ := Aside0.mk ((by rw [hg]; exact (below_size (bwA)) : w.heap.size ≤ gb481)); have n3_ := Aside0.mk ((by rw [hg]; exact (below_size (bwA)) : w.heap.size ≤ gb481)); clear HB; have HB := n0_; have BK481 := n1_; have GW481 := n2_; have GE481 := n3_; clear n0_ n1_ n2_ n3_; clear hb hbox hg; have hcz27_0 : w26.cell? ⟨gb481, 0, none⟩ = some (.int .i64 a0_0) := (blk_cell BK481.out 0).trans rfl; have hcz27_1 : w26.cell? ⟨gb481, 1, none⟩ = some (.int .i64 a0_1) := (blk_cell BK481.out 1).trans rfl; have hcz27_2 : w26.cell? ⟨gb481, 2, none⟩ = some (.string a0_2) := (blk_cell BK481.out 2).trans rfl; have hfz27_0 := blk_frozen BK481.out 0; have hfz27_1 := blk_frozen BK481.out 1; have hfz27_2 := blk_frozen BK481.out 2))
    have n0_ := Aside0.mk (blk_drew BK481.out)
    have n1_ := Aside0.mk (below_drew1 HB.out)
    clear BK481
    clear HB
    have BK481 := n0_
    have HB := n1_
    clear n0_ n1_
    refine start_ (n := 13) (S := fun w' => w'.cell? ⟨gb481, 0, none⟩ = some (.int .i64 a0_0) ∧ w'.cell? ⟨gb481, 1, none⟩ = some (.int .i64 a0_1) ∧ w'.cell? ⟨gb481, 2, none⟩ = some (.string a0_2)) (ds := []) (mkB 13 0) (by kernel_rfl) rfl rfl ⟨(blk_cell BK481.out 0).trans rfl, (blk_cell BK481.out 1).trans rfl, (blk_cell BK481.out 2).trans rfl⟩ (fun hHeld => ?_); refine with_tabW quic_one.tab5 quic_one.bits5 (fun HT_ HW_ => ?_)
    generalize w26.drew = w28 at BK481 HB hHeld ⊢
    refine pureA 0 (some 26) (mkB 13 1) ?_
    refine pureA 3 (some 29) (mkB 13 9) ?_
    refine takeA 1 (some 27) (mkB 13 11) ?_ rfl (Or.inl ⟨by rfl, by rintro w' ⟨s0, s1, s2⟩; go_simp; with_reducible rfl⟩)
    refine takeA 4 (some 30) (mkB 13 27) ?_ rfl (Or.inl ⟨by rfl, by rintro w' ⟨s0, s1, s2⟩; go_simp; with_reducible rfl⟩)
    refine oneA 2 (some 28) (mkB 13 31) (fun K hK => ?_)
    refine goes_ Tryz.func120 (by kernel_rfl) rfl #[.int .i64 a0_1] (by rfl) rfl rfl (by (try simp only [List.map_toArray, List.map_cons, List.map_nil]); first | done | rfl | (simp only [List.length_drop, List.length_take]; rfl)) ?_
    with_reducible refine (quic_Whole.calls k a0_1 t483 _ A19.out).mono ?_
    rintro e w29 ⟨rfl, hb⟩
    refine ⟨_, rfl, ?_⟩
    have n0_ := Aside0.mk (blk_below (g := gb481) (o := .cells #[.int .i64 a0_0, .int .i64 a0_1, .string a0_2] 101 (0, 0)) blkA hb)
    have n1_ := Aside0.mk (below_step (bwA) hb)
    clear BK481
    clear HB
    have BK481 := n0_
    have HB := n1_
    clear n0_ n1_
    (try clear hb); (try clear hb2); (try clear hk); (try clear hi)
    refine hK.out _ _ ⟨(blk_cell BK481.out 0).trans rfl, (blk_cell BK481.out 1).trans rfl, (blk_cell BK481.out 2).trans rfl⟩ (fun hHeld => ?_)
    clear hK K
    refine normA ?_
    refine oneA 5 (some 31) (mkB 13 63) (fun K hK => ?_)
    refine goes_ Tryz.func121 (by kernel_rfl) rfl #[.int .i64 a0_1] (by rfl) rfl rfl (by (try simp only [List.map_toArray, List.map_cons, List.map_nil]); first | done | rfl | (simp only [List.length_drop, List.length_take]; rfl)) ?_
    with_reducible refine (quic_whole.calls a0_1 false _ A20.out).mono ?_
    rintro e w' ⟨rfl, ⟨nd, rfl⟩⟩
    refine ⟨_, rfl, ?_⟩
    refine hK.out _ _ ⟨(blk_cell BK481.out 0).trans rfl, (blk_cell BK481.out 1).trans rfl, (blk_cell BK481.out 2).trans rfl⟩ (fun hHeld => ?_)
    clear hK K
    refine normA ?_
    refine pureA 6 (some 32) (mkB 13 127) ?_
    refine pureU 7 (some 33) (mkB 13 255) ?_
    refine pureU 8 (some 34) (mkB 13 511) ?_
    refine pureU 9 (some 35) (mkB 13 1023) ?_
    refine pureA 10 (some 36) (mkB 13 2047) ?_
    refine pureA 11 (some 2) (mkB 13 4095) ?_
    refine pureA 12 (some 3) (mkB 13 8191) ?_
    refine done_ (done_of HT_.out (by kernel_rfl)) ?_
    try go_wp2
    go_ret2
    exact ⟨endA, bwA⟩
  ·rw [if_neg c18] at H
   have c18b0 : (a0_0 == 2) = false := beq_eq_false_iff_ne.mpr c18
   have c18b1 : (a0_0 != 2) = true := bne_iff_ne.mpr c18
   by_cases c30 : a0_0 = 3
   ·rw [if_pos c30] at H
    have c30b0 : (a0_0 == 3) = true := beq_iff_eq.mpr c30
    have c30b1 : (a0_0 != 3) = false := bne_eq_false_iff_eq.mpr c30
    clear c30
    obtain ⟨y485, hy485⟩ : ∃ y_ : List Int, y_ = (([(Go.bits .and .i64 a0_1 1) % 256] : List Int)) := ⟨_, rfl⟩
    replace H : (if a0_1 = 0 then (some (strOfNums y485, (a0_2.toList == ([] : List UInt8)))) else (if a0_1 = 1 then (some (strOfNums y485, (a0_2.toList == ([] : List UInt8)))) else (some (strOfNums y485, false)))) = some (r1, r2) := by first | (rw [hy485]; with_reducible exact H) | (have H2_ := (Option.bind_some _ _).symm.trans H; rw [hy485]; with_reducible exact H2_) | (have H2_ := (Option.bind_some _ _).symm.trans H; with_reducible exact H2_) | with_reducible exact H | (rw [hy485]; exact H) | exact H
    have Ny485 := Aside0.mk hy485
    clear hy485
    by_cases c31 : a0_1 = 0
    ·rw [if_pos c31] at H
     have c31b0 : (a0_1 == 0) = true := beq_iff_eq.mpr c31
     have c31b1 : (a0_1 != 0) = false := bne_eq_false_iff_eq.mpr c31
     clear c31
     simp only [Option.some.injEq, Prod.mk.injEq] at H
     obtain ⟨rfl, rfl⟩ := H
     go_enter Tryz.func93, Tryz.ntmps93
     try go_wp2_with (first | ((with_reducible refine gate_dst (N := 1) rfl ?_); refine box_event ?hg (N := 1) ?hd (cs := #[.int .i64 a0_0, .int .i64 a0_1, .string a0_2]) (t := 101) ?hr ?_; (case hd => rfl); (case hg => rfl); (case hr => first | (go_simp; done) | (go_simp; rfl)); intro gb481 hg w32 hbox hb; have n0_ := Aside0.mk (below_step (bwA) hb); have n1_ := Aside0.mk (hbox); have n2_ := Aside0.mk ((by rw [hg]; exact (below_size (bwA)) : w.heap.size ≤ gb481)); have n3_ := Aside0.mk ((by rw [hg]; exact (below_size (bwA)) : w.heap.size ≤ gb481)); clear HB; have HB := n0_; have BK481 := n1_; have GW481 := n2_; have GE481 := n3_; clear n0_ n1_ n2_ n3_; clear hb hbox hg; have hcz33_0 : w32.cell? ⟨gb481, 0, none⟩ = some (.int .i64 a0_0) := (blk_cell BK481.out 0).trans rfl; have hcz33_1 : w32.cell? ⟨gb481, 1, none⟩ = some (.int .i64 a0_1) := (blk_cell BK481.out 1).trans rfl; have hcz33_2 : w32.cell? ⟨gb481, 2, none⟩ = some (.string a0_2) := (blk_cell BK481.out 2).trans rfl; have hfz33_0 := blk_frozen BK481.out 0; have hfz33_1 := blk_frozen BK481.out 1; have hfz33_2 := blk_frozen BK481.out 2))
     have n0_ := Aside0.mk (blk_drew BK481.out)
     have n1_ := Aside0.mk (below_drew1 HB.out)
     clear BK481
     clear HB
     have BK481 := n0_
     have HB := n1_
     clear n0_ n1_
     refine start_ (n := 21) (S := fun w' => w'.cell? ⟨gb481, 0, none⟩ = some (.int .i64 a0_0) ∧ w'.cell? ⟨gb481, 1, none⟩ = some (.int .i64 a0_1) ∧ w'.cell? ⟨gb481, 2, none⟩ = some (.string a0_2)) (ds := []) (mkB 21 0) (by kernel_rfl) rfl rfl ⟨(blk_cell BK481.out 0).trans rfl, (blk_cell BK481.out 1).trans rfl, (blk_cell BK481.out 2).trans rfl⟩ (fun hHeld => ?_); refine with_tabW quic_one.tab7 quic_one.bits7 (fun HT_ HW_ => ?_)
     generalize w32.drew = w34 at BK481 HB hHeld ⊢
     refine pureA 0 (some 39) (mkB 21 1) ?_
     refine pureA 6 (some 45) (mkB 21 65) ?_
     refine takeA 1 (some 40) (mkB 21 67) ?_ rfl (Or.inl ⟨by rfl, by rintro w' ⟨s0, s1, s2⟩; go_simp; with_reducible rfl⟩)
     refine pureA 2 (some 41) (mkB 21 71) ?_
     refine pureA 3 (some 42) (mkB 21 79) ?_
     refine takeA 7 (some 46) (mkB 21 207) ?_ rfl (Or.inl ⟨by rfl, by rintro w' ⟨s0, s1, s2⟩; go_simp; with_reducible rfl⟩)
     refine pureA 8 (some 47) (mkB 21 463) ?_
     refine pureA 9 (some 48) (mkB 21 975) ?_
     refine pureU 10 (some 49) (mkB 21 1999) ?_
     refine pureU 11 (some 50) (mkB 21 4047) ?_
     refine pureU 12 (some 51) (mkB 21 8143) ?_
     refine pureA 13 (some 52) (mkB 21 16335) ?_
     refine pureA 14 (some 53) (mkB 21 32719) ?_
     refine pureA 15 (some 54) (mkB 21 65487) ?_
     refine takeA 16 (some 55) (mkB 21 131023) ?_ rfl (Or.inl ⟨by rfl, by rintro w' ⟨s0, s1, s2⟩; go_simp; with_reducible rfl⟩)
     refine pureA 17 (some 56) (mkB 21 262095) ?_
     refine pureA 18 (some 57) (mkB 21 524239) ?_
     refine oneA 4 (some 43) (mkB 21 524255) (fun K hK => ?_)
     refine Kd.R_lit_step (Kd.int .u8) _ 5 ?hg (N := 43) ?hd (xs := ([(Go.bits .and .i64 a0_1 1) % 256] : List Int)) (inner := [.int .u8 ((Go.bits .and .i64 a0_1 1) % 256)]) (ok := fun _ => True) (okp := fun _ => True) ?hr ?hp (fun _ hk => hk) trivial (Below.refl _ _) (Nat.le_refl _) (by simp) ?_; (case hd => rfl); (case hg => rfl); (case hr => first | (go_simp; done) | (go_simp; rfl)); (case hp => exact (Reps.one (show Kd.M (Kd.int .u8) _ _ _ ((Go.bits .and .i64 a0_1 1) % 256) [.int .u8 ((Go.bits .and .i64 a0_1 1) % 256)] from rfl) (Reps.none _ _)))
     intro v486 w35 ho36 hb hg_ hnew_
     clear hg_ hnew_
     (first | rw [← Ny485.out] at ho36 | (simp only [Int.reduceToNat] at ho36; rw [← Ny485.out] at ho36))
     have n0_ := Aside0.mk (Kd.R_lower ho36 (below_size (bwA)))
     have n1_ := Aside0.mk (blk_below (g := gb481) (o := .cells #[.int .i64 a0_0, .int .i64 a0_1, .string a0_2] 101 (0, 0)) blkA hb)
     have n2_ := Aside0.mk (below_step (bwA) hb)
     clear BK481
     clear HB
     have HO487 := n0_
     have BK481 := n1_
     have HB := n2_
     clear n0_ n1_ n2_
     clear hb ho36
     refine hK.out _ _ ⟨(blk_cell BK481.out 0).trans rfl, (blk_cell BK481.out 1).trans rfl, (blk_cell BK481.out 2).trans rfl⟩ (fun hHeld => ?_)
     clear hK K
     refine normA ?_
     refine oneA 5 (some 44) (mkB 21 524287) (fun K hK => ?_)
     have hcv37 := own_string (P := Tryz.prog) Tryz.underlying106 Tryz.underlying5 Tryz.underlying9 (Kd.own_of_R HO487.out)
     refine value_ (w1 := ?_) (v := ?_) (by rfl) rfl ?_ ?_
     rotate_left 2
     ·go_simp
      constructor
      ·rfl
      ·rfl
     clear hcv37
     refine hK.out _ _ ⟨(blk_cell BK481.out 0).trans rfl, (blk_cell BK481.out 1).trans rfl, (blk_cell BK481.out 2).trans rfl⟩ (fun hHeld => ?_)
     clear hK K
     refine normA ?_
     refine pureA 19 (some 2) (mkB 21 1048575) ?_
     refine pureA 20 (some 3) (mkB 21 2097151) ?_
     refine done_ (done_of HT_.out (by kernel_rfl)) ?_
     try go_wp2
     go_ret2
     exact ⟨endA, bwA⟩
    ·rw [if_neg c31] at H
     have c31b0 : (a0_1 == 0) = false := beq_eq_false_iff_ne.mpr c31
     have c31b1 : (a0_1 != 0) = true := bne_iff_ne.mpr c31
     by_cases c38 : a0_1 = 1
     ·rw [if_pos c38] at H
      have c38b0 : (a0_1 == 1) = true := beq_iff_eq.mpr c38
      have c38b1 : (a0_1 != 1) = false := bne_eq_false_iff_eq.mpr c38
      clear c38
      simp only [Option.some.injEq, Prod.mk.injEq] at H
      obtain ⟨rfl, rfl⟩ := H
      go_enter Tryz.func93, Tryz.ntmps93
      try go_wp2_with (first | ((with_reducible refine gate_dst (N := 1) rfl ?_); refine box_event ?hg (N := 1) ?hd (cs := #[.int .i64 a0_0, .int .i64 a0_1, .string a0_2]) (t := 101) ?hr ?_; (case hd => rfl); (case hg => rfl); (case hr => first | (go_simp; done) | (go_simp; rfl)); intro gb481 hg w39 hbox hb; have n0_ := Aside0.mk (below_step (bwA) hb); have n1_ := Aside0.mk (hbox); have n2_ := Aside0.mk ((by rw [hg]; exact (below_size (bwA)) : w.heap.size ≤ gb481)); have n3_ := Aside0.mk ((by rw [hg]; exact (below_size (bwA)) : w.heap.size ≤ gb481)); clear HB; have HB := n0_; have BK481 := n1_; have GW481 := n2_; have GE481 := n3_; clear n0_ n1_ n2_ n3_; clear hb hbox hg; have hcz40_0 : w39.cell? ⟨gb481, 0, none⟩ = some (.int .i64 a0_0) := (blk_cell BK481.out 0).trans rfl; have hcz40_1 : w39.cell? ⟨gb481, 1, none⟩ = some (.int .i64 a0_1) := (blk_cell BK481.out 1).trans rfl; have hcz40_2 : w39.cell? ⟨gb481, 2, none⟩ = some (.string a0_2) := (blk_cell BK481.out 2).trans rfl; have hfz40_0 := blk_frozen BK481.out 0; have hfz40_1 := blk_frozen BK481.out 1; have hfz40_2 := blk_frozen BK481.out 2))
      have n0_ := Aside0.mk (blk_drew BK481.out)
      have n1_ := Aside0.mk (below_drew1 HB.out)
      clear BK481
      clear HB
      have BK481 := n0_
      have HB := n1_
      clear n0_ n1_
      refine start_ (n := 21) (S := fun w' => w'.cell? ⟨gb481, 0, none⟩ = some (.int .i64 a0_0) ∧ w'.cell? ⟨gb481, 1, none⟩ = some (.int .i64 a0_1) ∧ w'.cell? ⟨gb481, 2, none⟩ = some (.string a0_2)) (ds := []) (mkB 21 0) (by kernel_rfl) rfl rfl ⟨(blk_cell BK481.out 0).trans rfl, (blk_cell BK481.out 1).trans rfl, (blk_cell BK481.out 2).trans rfl⟩ (fun hHeld => ?_); refine with_tabW quic_one.tab7 quic_one.bits7 (fun HT_ HW_ => ?_)
      generalize w39.drew = w41 at BK481 HB hHeld ⊢
      refine pureA 0 (some 39) (mkB 21 1) ?_
      refine pureA 6 (some 45) (mkB 21 65) ?_
      refine takeA 1 (some 40) (mkB 21 67) ?_ rfl (Or.inl ⟨by rfl, by rintro w' ⟨s0, s1, s2⟩; go_simp; with_reducible rfl⟩)
      refine pureA 2 (some 41) (mkB 21 71) ?_
      refine pureA 3 (some 42) (mkB 21 79) ?_
      refine takeA 7 (some 46) (mkB 21 207) ?_ rfl (Or.inl ⟨by rfl, by rintro w' ⟨s0, s1, s2⟩; go_simp; with_reducible rfl⟩)
      refine pureA 8 (some 47) (mkB 21 463) ?_
      refine pureA 9 (some 48) (mkB 21 975) ?_
      refine pureA 10 (some 49) (mkB 21 1999) ?_
      refine takeA 11 (some 50) (mkB 21 4047) ?_ rfl (Or.inl ⟨by rfl, by rintro w' ⟨s0, s1, s2⟩; go_simp; with_reducible rfl⟩)
      refine pureA 12 (some 51) (mkB 21 8143) ?_
      refine pureA 13 (some 52) (mkB 21 16335) ?_
      refine pureA 14 (some 53) (mkB 21 32719) ?_
      refine pureA 15 (some 54) (mkB 21 65487) ?_
      refine takeA 16 (some 55) (mkB 21 131023) ?_ rfl (Or.inl ⟨by rfl, by rintro w' ⟨s0, s1, s2⟩; go_simp; with_reducible rfl⟩)
      refine pureA 17 (some 56) (mkB 21 262095) ?_
      refine pureA 18 (some 57) (mkB 21 524239) ?_
      refine oneA 4 (some 43) (mkB 21 524255) (fun K hK => ?_)
      refine Kd.R_lit_step (Kd.int .u8) _ 5 ?hg (N := 43) ?hd (xs := ([(Go.bits .and .i64 a0_1 1) % 256] : List Int)) (inner := [.int .u8 ((Go.bits .and .i64 a0_1 1) % 256)]) (ok := fun _ => True) (okp := fun _ => True) ?hr ?hp (fun _ hk => hk) trivial (Below.refl _ _) (Nat.le_refl _) (by simp) ?_; (case hd => rfl); (case hg => rfl); (case hr => first | (go_simp; done) | (go_simp; rfl)); (case hp => exact (Reps.one (show Kd.M (Kd.int .u8) _ _ _ ((Go.bits .and .i64 a0_1 1) % 256) [.int .u8 ((Go.bits .and .i64 a0_1 1) % 256)] from rfl) (Reps.none _ _)))
      intro v486 w42 ho43 hb hg_ hnew_
      clear hg_ hnew_
      (first | rw [← Ny485.out] at ho43 | (simp only [Int.reduceToNat] at ho43; rw [← Ny485.out] at ho43))
      have n0_ := Aside0.mk (Kd.R_lower ho43 (below_size (bwA)))
      have n1_ := Aside0.mk (blk_below (g := gb481) (o := .cells #[.int .i64 a0_0, .int .i64 a0_1, .string a0_2] 101 (0, 0)) blkA hb)
      have n2_ := Aside0.mk (below_step (bwA) hb)
      clear BK481
      clear HB
      have HO487 := n0_
      have BK481 := n1_
      have HB := n2_
      clear n0_ n1_ n2_
      clear hb ho43
      refine hK.out _ _ ⟨(blk_cell BK481.out 0).trans rfl, (blk_cell BK481.out 1).trans rfl, (blk_cell BK481.out 2).trans rfl⟩ (fun hHeld => ?_)
      clear hK K
      refine normA ?_
      refine oneA 5 (some 44) (mkB 21 524287) (fun K hK => ?_)
      have hcv44 := own_string (P := Tryz.prog) Tryz.underlying106 Tryz.underlying5 Tryz.underlying9 (Kd.own_of_R HO487.out)
      refine value_ (w1 := ?_) (v := ?_) (by rfl) rfl ?_ ?_
      rotate_left 2
      ·go_simp
       constructor
       ·rfl
       ·rfl
      clear hcv44
      refine hK.out _ _ ⟨(blk_cell BK481.out 0).trans rfl, (blk_cell BK481.out 1).trans rfl, (blk_cell BK481.out 2).trans rfl⟩ (fun hHeld => ?_)
      clear hK K
      refine normA ?_
      refine pureA 19 (some 2) (mkB 21 1048575) ?_
      refine pureA 20 (some 3) (mkB 21 2097151) ?_
      refine done_ (done_of HT_.out (by kernel_rfl)) ?_
      try go_wp2
      go_ret2
      exact ⟨endA, bwA⟩
     ·rw [if_neg c38] at H
      have c38b0 : (a0_1 == 1) = false := beq_eq_false_iff_ne.mpr c38
      have c38b1 : (a0_1 != 1) = true := bne_iff_ne.mpr c38
      simp only [Option.some.injEq, Prod.mk.injEq] at H
      obtain ⟨rfl, rfl⟩ := H
      go_enter Tryz.func93, Tryz.ntmps93
      try go_wp2_with (first | ((with_reducible refine gate_dst (N := 1) rfl ?_); refine box_event ?hg (N := 1) ?hd (cs := #[.int .i64 a0_0, .int .i64 a0_1, .string a0_2]) (t := 101) ?hr ?_; (case hd => rfl); (case hg => rfl); (case hr => first | (go_simp; done) | (go_simp; rfl)); intro gb481 hg w45 hbox hb; have n0_ := Aside0.mk (below_step (bwA) hb); have n1_ := Aside0.mk (hbox); have n2_ := Aside0.mk ((by rw [hg]; exact (below_size (bwA)) : w.heap.size ≤ gb481)); have n3_ := Aside0.mk ((by rw [hg]; exact (below_size (bwA)) : w.heap.size ≤ gb481)); clear HB; have HB := n0_; have BK481 := n1_; have GW481 := n2_; have GE481 := n3_; clear n0_ n1_ n2_ n3_; clear hb hbox hg; have hcz46_0 : w45.cell? ⟨gb481, 0, none⟩ = some (.int .i64 a0_0) := (blk_cell BK481.out 0).trans rfl; have hcz46_1 : w45.cell? ⟨gb481, 1, none⟩ = some (.int .i64 a0_1) := (blk_cell BK481.out 1).trans rfl; have hcz46_2 : w45.cell? ⟨gb481, 2, none⟩ = some (.string a0_2) := (blk_cell BK481.out 2).trans rfl; have hfz46_0 := blk_frozen BK481.out 0; have hfz46_1 := blk_frozen BK481.out 1; have hfz46_2 := blk_frozen BK481.out 2))
      have n0_ := Aside0.mk (blk_drew BK481.out)
      have n1_ := Aside0.mk (below_drew1 HB.out)
      clear BK481
      clear HB
      have BK481 := n0_
      have HB := n1_
      clear n0_ n1_
      refine start_ (n := 21) (S := fun w' => w'.cell? ⟨gb481, 0, none⟩ = some (.int .i64 a0_0) ∧ w'.cell? ⟨gb481, 1, none⟩ = some (.int .i64 a0_1) ∧ w'.cell? ⟨gb481, 2, none⟩ = some (.string a0_2)) (ds := []) (mkB 21 0) (by kernel_rfl) rfl rfl ⟨(blk_cell BK481.out 0).trans rfl, (blk_cell BK481.out 1).trans rfl, (blk_cell BK481.out 2).trans rfl⟩ (fun hHeld => ?_); refine with_tabW quic_one.tab7 quic_one.bits7 (fun HT_ HW_ => ?_)
      generalize w45.drew = w47 at BK481 HB hHeld ⊢
      refine pureA 0 (some 39) (mkB 21 1) ?_
      refine pureA 6 (some 45) (mkB 21 65) ?_
      refine takeA 1 (some 40) (mkB 21 67) ?_ rfl (Or.inl ⟨by rfl, by rintro w' ⟨s0, s1, s2⟩; go_simp; with_reducible rfl⟩)
      refine pureA 2 (some 41) (mkB 21 71) ?_
      refine pureA 3 (some 42) (mkB 21 79) ?_
      refine takeA 7 (some 46) (mkB 21 207) ?_ rfl (Or.inl ⟨by rfl, by rintro w' ⟨s0, s1, s2⟩; go_simp; with_reducible rfl⟩)
      refine pureA 8 (some 47) (mkB 21 463) ?_
      refine pureA 9 (some 48) (mkB 21 975) ?_
      refine pureA 10 (some 49) (mkB 21 1999) ?_
      refine takeA 11 (some 50) (mkB 21 4047) ?_ rfl (Or.inl ⟨by rfl, by rintro w' ⟨s0, s1, s2⟩; go_simp; with_reducible rfl⟩)
      refine pureA 12 (some 51) (mkB 21 8143) ?_
      refine pureA 13 (some 52) (mkB 21 16335) ?_
      refine pureA 14 (some 53) (mkB 21 32719) ?_
      refine pureU 15 (some 54) (mkB 21 65487) ?_
      refine pureU 16 (some 55) (mkB 21 131023) ?_
      refine pureU 17 (some 56) (mkB 21 262095) ?_
      refine pureA 18 (some 57) (mkB 21 524239) ?_
      refine oneA 4 (some 43) (mkB 21 524255) (fun K hK => ?_)
      refine Kd.R_lit_step (Kd.int .u8) _ 5 ?hg (N := 43) ?hd (xs := ([(Go.bits .and .i64 a0_1 1) % 256] : List Int)) (inner := [.int .u8 ((Go.bits .and .i64 a0_1 1) % 256)]) (ok := fun _ => True) (okp := fun _ => True) ?hr ?hp (fun _ hk => hk) trivial (Below.refl _ _) (Nat.le_refl _) (by simp) ?_; (case hd => rfl); (case hg => rfl); (case hr => first | (go_simp; done) | (go_simp; rfl)); (case hp => exact (Reps.one (show Kd.M (Kd.int .u8) _ _ _ ((Go.bits .and .i64 a0_1 1) % 256) [.int .u8 ((Go.bits .and .i64 a0_1 1) % 256)] from rfl) (Reps.none _ _)))
      intro v486 w48 ho49 hb hg_ hnew_
      clear hg_ hnew_
      (first | rw [← Ny485.out] at ho49 | (simp only [Int.reduceToNat] at ho49; rw [← Ny485.out] at ho49))
      have n0_ := Aside0.mk (Kd.R_lower ho49 (below_size (bwA)))
      have n1_ := Aside0.mk (blk_below (g := gb481) (o := .cells #[.int .i64 a0_0, .int .i64 a0_1, .string a0_2] 101 (0, 0)) blkA hb)
      have n2_ := Aside0.mk (below_step (bwA) hb)
      clear BK481
      clear HB
      have HO487 := n0_
      have BK481 := n1_
      have HB := n2_
      clear n0_ n1_ n2_
      clear hb ho49
      refine hK.out _ _ ⟨(blk_cell BK481.out 0).trans rfl, (blk_cell BK481.out 1).trans rfl, (blk_cell BK481.out 2).trans rfl⟩ (fun hHeld => ?_)
      clear hK K
      refine normA ?_
      refine oneA 5 (some 44) (mkB 21 524287) (fun K hK => ?_)
      have hcv50 := own_string (P := Tryz.prog) Tryz.underlying106 Tryz.underlying5 Tryz.underlying9 (Kd.own_of_R HO487.out)
      refine value_ (w1 := ?_) (v := ?_) (by rfl) rfl ?_ ?_
      rotate_left 2
      ·go_simp
       constructor
       ·rfl
       ·rfl
      clear hcv50
      refine hK.out _ _ ⟨(blk_cell BK481.out 0).trans rfl, (blk_cell BK481.out 1).trans rfl, (blk_cell BK481.out 2).trans rfl⟩ (fun hHeld => ?_)
      clear hK K
      refine normA ?_
      refine pureA 19 (some 2) (mkB 21 1048575) ?_
      refine pureA 20 (some 3) (mkB 21 2097151) ?_
      refine done_ (done_of HT_.out (by kernel_rfl)) ?_
      try go_wp2
      go_ret2
      exact ⟨endA, bwA⟩
   ·rw [if_neg c30] at H
    have c30b0 : (a0_0 == 3) = false := beq_eq_false_iff_ne.mpr c30
    have c30b1 : (a0_0 != 3) = true := bne_iff_ne.mpr c30
    by_cases c51 : a0_0 = 4
    ·rw [if_pos c51] at H
     have c51b0 : (a0_0 == 4) = true := beq_iff_eq.mpr c51
     have c51b1 : (a0_0 != 4) = false := bne_eq_false_iff_eq.mpr c51
     clear c51
     replace H := Option.bind_eq_some_iff.mp H
     obtain ⟨t488, A520, H⟩ := H
     replace H : (if (a0_2.size : Int) ≤ 65536 then (some (t488, (a0_1 == 0))) else (some (t488, false))) = some (r1, r2) := H
     have A52 := Aside0.mk A520
     clear A520
     by_cases c53 : (a0_2.size : Int) ≤ 65536
     ·rw [if_pos c53] at H
      have c53b0 : decide ((a0_2.size : Int) ≤ 65536) = true := decide_eq_true c53
      have c53b1 : decide (a0_2.size ≤ 65536) = true := decide_eq_true (by omega)
      clear c53
      simp only [Option.some.injEq, Prod.mk.injEq] at H
      obtain ⟨rfl, rfl⟩ := H
      go_enter Tryz.func93, Tryz.ntmps93
      try go_wp2_with (first | ((with_reducible refine gate_dst (N := 1) rfl ?_); refine box_event ?hg (N := 1) ?hd (cs := #[.int .i64 a0_0, .int .i64 a0_1, .string a0_2]) (t := 101) ?hr ?_; (case hd => rfl); (case hg => rfl); (case hr => first | (go_simp; done) | (go_simp; rfl)); intro gb481 hg w54 hbox hb; have n0_ := Aside0.mk (below_step (bwA) hb); have n1_ := Aside0.mk (hbox); have n2_ := Aside0.mk ((by rw [hg]; exact (below_size (bwA)) : w.heap.size ≤ gb481)); have n3_ := Aside0.mk ((by rw [hg]; exact (below_size (bwA)) : w.heap.size ≤ gb481)); clear HB; have HB := n0_; have BK481 := n1_; have GW481 := n2_; have GE481 := n3_; clear n0_ n1_ n2_ n3_; clear hb hbox hg; have hcz55_0 : w54.cell? ⟨gb481, 0, none⟩ = some (.int .i64 a0_0) := (blk_cell BK481.out 0).trans rfl; have hcz55_1 : w54.cell? ⟨gb481, 1, none⟩ = some (.int .i64 a0_1) := (blk_cell BK481.out 1).trans rfl; have hcz55_2 : w54.cell? ⟨gb481, 2, none⟩ = some (.string a0_2) := (blk_cell BK481.out 2).trans rfl; have hfz55_0 := blk_frozen BK481.out 0; have hfz55_1 := blk_frozen BK481.out 1; have hfz55_2 := blk_frozen BK481.out 2))
      have n0_ := Aside0.mk (blk_drew BK481.out)
      have n1_ := Aside0.mk (below_drew1 HB.out)
      clear BK481
      clear HB
      have BK481 := n0_
      have HB := n1_
      clear n0_ n1_
      refine start_ (n := 14) (S := fun w' => w'.cell? ⟨gb481, 0, none⟩ = some (.int .i64 a0_0) ∧ w'.cell? ⟨gb481, 1, none⟩ = some (.int .i64 a0_1) ∧ w'.cell? ⟨gb481, 2, none⟩ = some (.string a0_2)) (ds := []) (mkB 14 0) (by kernel_rfl) rfl rfl ⟨(blk_cell BK481.out 0).trans rfl, (blk_cell BK481.out 1).trans rfl, (blk_cell BK481.out 2).trans rfl⟩ (fun hHeld => ?_); refine with_tabW quic_one.tab9 quic_one.bits9 (fun HT_ HW_ => ?_)
      generalize w54.drew = w56 at BK481 HB hHeld ⊢
      refine pureA 0 (some 60) (mkB 14 1) ?_
      refine pureA 3 (some 63) (mkB 14 9) ?_
      refine takeA 1 (some 61) (mkB 14 11) ?_ rfl (Or.inl ⟨by rfl, by rintro w' ⟨s0, s1, s2⟩; go_simp; with_reducible rfl⟩)
      refine takeA 4 (some 64) (mkB 14 27) ?_ rfl (Or.inl ⟨by rfl, by rintro w' ⟨s0, s1, s2⟩; go_simp; with_reducible rfl⟩)
      refine pureA 5 (some 65) (mkB 14 59) ?_
      refine pureA 6 (some 66) (mkB 14 123) ?_
      refine oneA 2 (some 62) (mkB 14 127) (fun K hK => ?_)
      refine goes_ Tryz.func122 (by kernel_rfl) rfl #[.string a0_2] (by rfl) rfl rfl (by (try simp only [List.map_toArray, List.map_cons, List.map_nil]); first | done | rfl | (simp only [List.length_drop, List.length_take]; rfl)) ?_
      with_reducible refine (quic_text.calls k a0_2 t488 _ A52.out).mono ?_
      rintro e w57 ⟨rfl, hb⟩
      refine ⟨_, rfl, ?_⟩
      have n0_ := Aside0.mk (blk_below (g := gb481) (o := .cells #[.int .i64 a0_0, .int .i64 a0_1, .string a0_2] 101 (0, 0)) blkA hb)
      have n1_ := Aside0.mk (below_step (bwA) hb)
      clear BK481
      clear HB
      have BK481 := n0_
      have HB := n1_
      clear n0_ n1_
      (try clear hb); (try clear hb2); (try clear hk); (try clear hi)
      refine hK.out _ _ ⟨(blk_cell BK481.out 0).trans rfl, (blk_cell BK481.out 1).trans rfl, (blk_cell BK481.out 2).trans rfl⟩ (fun hHeld => ?_)
      clear hK K
      refine normA ?_
      refine pureA 7 (some 67) (mkB 14 255) ?_
      refine pureA 8 (some 68) (mkB 14 511) ?_
      refine pureA 12 (some 2) (mkB 14 4607) ?_
      refine takeA 9 (some 69) (mkB 14 5119) ?_ rfl (Or.inl ⟨by rfl, by rintro w' ⟨s0, s1, s2⟩; go_simp; with_reducible rfl⟩)
      refine pureA 10 (some 70) (mkB 14 6143) ?_
      refine pureA 11 (some 71) (mkB 14 8191) ?_
      refine pureA 13 (some 3) (mkB 14 16383) ?_
      refine done_ (done_of HT_.out (by kernel_rfl)) ?_
      try go_wp2
      go_ret2
      exact ⟨endA, bwA⟩
     ·rw [if_neg c53] at H
      have c53b0 : decide ((a0_2.size : Int) ≤ 65536) = false := decide_eq_false c53
      have c53b1 : decide (a0_2.size ≤ 65536) = false := decide_eq_false (by omega)
      clear c53
      simp only [Option.some.injEq, Prod.mk.injEq] at H
      obtain ⟨rfl, rfl⟩ := H
      go_enter Tryz.func93, Tryz.ntmps93
      try go_wp2_with (first | ((with_reducible refine gate_dst (N := 1) rfl ?_); refine box_event ?hg (N := 1) ?hd (cs := #[.int .i64 a0_0, .int .i64 a0_1, .string a0_2]) (t := 101) ?hr ?_; (case hd => rfl); (case hg => rfl); (case hr => first | (go_simp; done) | (go_simp; rfl)); intro gb481 hg w58 hbox hb; have n0_ := Aside0.mk (below_step (bwA) hb); have n1_ := Aside0.mk (hbox); have n2_ := Aside0.mk ((by rw [hg]; exact (below_size (bwA)) : w.heap.size ≤ gb481)); have n3_ := Aside0.mk ((by rw [hg]; exact (below_size (bwA)) : w.heap.size ≤ gb481)); clear HB; have HB := n0_; have BK481 := n1_; have GW481 := n2_; have GE481 := n3_; clear n0_ n1_ n2_ n3_; clear hb hbox hg; have hcz59_0 : w58.cell? ⟨gb481, 0, none⟩ = some (.int .i64 a0_0) := (blk_cell BK481.out 0).trans rfl; have hcz59_1 : w58.cell? ⟨gb481, 1, none⟩ = some (.int .i64 a0_1) := (blk_cell BK481.out 1).trans rfl; have hcz59_2 : w58.cell? ⟨gb481, 2, none⟩ = some (.string a0_2) := (blk_cell BK481.out 2).trans rfl; have hfz59_0 := blk_frozen BK481.out 0; have hfz59_1 := blk_frozen BK481.out 1; have hfz59_2 := blk_frozen BK481.out 2))
      have n0_ := Aside0.mk (blk_drew BK481.out)
      have n1_ := Aside0.mk (below_drew1 HB.out)
      clear BK481
      clear HB
      have BK481 := n0_
      have HB := n1_
      clear n0_ n1_
      refine start_ (n := 14) (S := fun w' => w'.cell? ⟨gb481, 0, none⟩ = some (.int .i64 a0_0) ∧ w'.cell? ⟨gb481, 1, none⟩ = some (.int .i64 a0_1) ∧ w'.cell? ⟨gb481, 2, none⟩ = some (.string a0_2)) (ds := []) (mkB 14 0) (by kernel_rfl) rfl rfl ⟨(blk_cell BK481.out 0).trans rfl, (blk_cell BK481.out 1).trans rfl, (blk_cell BK481.out 2).trans rfl⟩ (fun hHeld => ?_); refine with_tabW quic_one.tab9 quic_one.bits9 (fun HT_ HW_ => ?_)
      generalize w58.drew = w60 at BK481 HB hHeld ⊢
      refine pureA 0 (some 60) (mkB 14 1) ?_
      refine pureA 3 (some 63) (mkB 14 9) ?_
      refine takeA 1 (some 61) (mkB 14 11) ?_ rfl (Or.inl ⟨by rfl, by rintro w' ⟨s0, s1, s2⟩; go_simp; with_reducible rfl⟩)
      refine takeA 4 (some 64) (mkB 14 27) ?_ rfl (Or.inl ⟨by rfl, by rintro w' ⟨s0, s1, s2⟩; go_simp; with_reducible rfl⟩)
      refine pureA 5 (some 65) (mkB 14 59) ?_
      refine pureA 6 (some 66) (mkB 14 123) ?_
      refine oneA 2 (some 62) (mkB 14 127) (fun K hK => ?_)
      refine goes_ Tryz.func122 (by kernel_rfl) rfl #[.string a0_2] (by rfl) rfl rfl (by (try simp only [List.map_toArray, List.map_cons, List.map_nil]); first | done | rfl | (simp only [List.length_drop, List.length_take]; rfl)) ?_
      with_reducible refine (quic_text.calls k a0_2 t488 _ A52.out).mono ?_
      rintro e w61 ⟨rfl, hb⟩
      refine ⟨_, rfl, ?_⟩
      have n0_ := Aside0.mk (blk_below (g := gb481) (o := .cells #[.int .i64 a0_0, .int .i64 a0_1, .string a0_2] 101 (0, 0)) blkA hb)
      have n1_ := Aside0.mk (below_step (bwA) hb)
      clear BK481
      clear HB
      have BK481 := n0_
      have HB := n1_
      clear n0_ n1_
      (try clear hb); (try clear hb2); (try clear hk); (try clear hi)
      refine hK.out _ _ ⟨(blk_cell BK481.out 0).trans rfl, (blk_cell BK481.out 1).trans rfl, (blk_cell BK481.out 2).trans rfl⟩ (fun hHeld => ?_)
      clear hK K
      refine normA ?_
      refine pureA 7 (some 67) (mkB 14 255) ?_
      refine pureU 8 (some 68) (mkB 14 511) ?_
      refine pureU 9 (some 69) (mkB 14 1023) ?_
      refine pureU 10 (some 70) (mkB 14 2047) ?_
      refine pureA 11 (some 71) (mkB 14 4095) ?_
      refine pureA 12 (some 2) (mkB 14 8191) ?_
      refine pureA 13 (some 3) (mkB 14 16383) ?_
      refine done_ (done_of HT_.out (by kernel_rfl)) ?_
      try go_wp2
      go_ret2
      exact ⟨endA, bwA⟩
    ·rw [if_neg c51] at H
     have c51b0 : (a0_0 == 4) = false := beq_eq_false_iff_ne.mpr c51
     have c51b1 : (a0_0 != 4) = true := bne_iff_ne.mpr c51
     simp only [Option.some.injEq, Prod.mk.injEq] at H
     obtain ⟨rfl, rfl⟩ := H
     go_enter Tryz.func93, Tryz.ntmps93
     go_wp2_with (first | ((with_reducible refine gate_dst (N := 1) rfl ?_); refine box_event ?hg (N := 1) ?hd (cs := #[.int .i64 a0_0, .int .i64 a0_1, .string a0_2]) (t := 101) ?hr ?_; (case hd => rfl); (case hg => rfl); (case hr => first | (go_simp; done) | (go_simp; rfl)); intro gb481 hg w62 hbox hb; have n0_ := Aside0.mk (below_step (bwA) hb); have n1_ := Aside0.mk (hbox); have n2_ := Aside0.mk ((by rw [hg]; exact (below_size (bwA)) : w.heap.size ≤ gb481)); have n3_ := Aside0.mk ((by rw [hg]; exact (below_size (bwA)) : w.heap.size ≤ gb481)); clear HB; have HB := n0_; have BK481 := n1_; have GW481 := n2_; have GE481 := n3_; clear n0_ n1_ n2_ n3_; clear hb hbox hg; have hcz63_0 : w62.cell? ⟨gb481, 0, none⟩ = some (.int .i64 a0_0) := (blk_cell BK481.out 0).trans rfl; have hcz63_1 : w62.cell? ⟨gb481, 1, none⟩ = some (.int .i64 a0_1) := (blk_cell BK481.out 1).trans rfl; have hcz63_2 : w62.cell? ⟨gb481, 2, none⟩ = some (.string a0_2) := (blk_cell BK481.out 2).trans rfl; have hfz63_0 := blk_frozen BK481.out 0; have hfz63_1 := blk_frozen BK481.out 1; have hfz63_2 := blk_frozen BK481.out 2))
     go_ret2
     exact ⟨endA, bwA⟩

end Go.Proofs.YtnbbajiabbmdmaaGreatDoor.A
