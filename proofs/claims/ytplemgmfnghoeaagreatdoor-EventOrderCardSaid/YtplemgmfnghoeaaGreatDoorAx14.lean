-- By drv.py, the session's own driver round the kit's print: the machine's side of the laws, function by function. Not trusted: Lean checks it.
import Derived.Test.YtplemgmfnghoeaaGreatDoorAx0
import Derived.Test.YtplemgmfnghoeaaGreatDoorAx8
import Derived.Test.YtplemgmfnghoeaaGreatDoorAx11
import Derived.Test.YtplemgmfnghoeaaGreatDoorAx13
namespace Go.Proofs.YtplemgmfnghoeaaGreatDoor.A
open Go.RowKit Go.Proofs.YtplemgmfnghoeaaGreatDoorW.PrintWords Go.Proofs.YtplemgmfnghoeaaGreatDoorW.PrintLast Go.Proofs.YtplemgmfnghoeaaGreatDoorW.PrintMore
attribute [local go_sem] max2_int min2_int max_two min_two max_three min_three max_four min_four   -- for this text's walks alone
set_option linter.unusedVariables false
set_option linter.unusedSimpArgs false

/-! ### event_ParseID: function 24 -/
def event_ParseID.f (k : Nat) (a0 : ByteArray) : Option (Int × Int × Int × Int) := (strings_Split.f a0 (⟨#[46]⟩ : ByteArray)).bind fun t192 => (if (t192.length : Int) = 3 then (if 0 < (t192.length : Int) then ((event_number.f k (rdOf ByteArray.empty t192 0)).bind fun t196 => (if 1 < (t192.length : Int) then ((event_number.f k (rdOf ByteArray.empty t192 1)).bind fun t198 => (if 2 < (t192.length : Int) then ((event_number.f k (rdOf ByteArray.empty t192 2)).bind fun t200 => (if a0.toList = ([] : List UInt8) then (some (0, 0, 0, 3)) else ((event_ShowID.f t196 t198 t200).bind fun t202 => (if t202.toList = a0.toList then (some (t196, t198, t200, 0)) else (some (0, 0, 0, 3)))))) else (none))) else (none))) else (none)) else (some (0, 0, 0, 3)))
theorem event_ParseID.mono : ∀ a0 k, LeO (event_ParseID.f k a0) (event_ParseID.f (k + 1) a0) := by
 intro a0 k
 unfold event_ParseID.f
 repeat' first
   | (with_reducible exact event_number.mono _ _)
   | (with_reducible exact LeO.refl _)
   | (with_reducible exact LeO.none _)
   | (with_reducible refine LeO.ite ?_ ?_)
   | (with_reducible refine LeO.bind ?_ (fun _ => ?_))
   | exact event_number.mono _ _
   | exact LeO.none _
   | refine LeO.ite ?_ ?_
   | refine LeO.bind ?_ (fun _ => ?_)
def event_ParseID.T4 : Bool × List (List Nat × List Nat) := (true, [([], []), ([0], [0]), ([1], [1]), ([2], [2]), ([], []), ([4], [4]), ([5], [5]), ([6, 3], [6]), ([], []), ([8], [8]), ([9], [9]), ([10, 7], [10]), ([3, 7, 11], [3, 7, 11]), ([], []), ([13, 12, 11, 0, 1, 2, 3, 4, 5, 6, 7, 8, 9, 10, 11, 12, 13], [12, 13])])
def event_ParseID.B4 : List Nat := [0, 1, 3, 7, 0, 16, 48, 127, 0, 256, 768, 2047, 4095, 0, 16383]
theorem event_ParseID.tab4 : rtab .any (opsOf Tryz.f24 4) = event_ParseID.T4 := by kernel_rfl
theorem event_ParseID.bits4 : waitsOk event_ParseID.T4.2 event_ParseID.B4 = true := by kernel_rfl
set_option maxHeartbeats 8000000 in
set_option maxRecDepth 100000 in
theorem event_ParseID.calls (k : Nat) (a0 : ByteArray) (r1 : Int) (r2 : Int) (r3 : Int) (r4 : Int) (w : World) (hT : Tabs w) (h : event_ParseID.f k a0 = some (r1, r2, r3, r4)) :
  Calls Tryz.prog 24 #[.string a0] w fun e w' => e = .returned (.tuple #[.agg #[.int .i64 r1, .int .i64 r2, .int .i64 r3], .int .i64 r4]) ∧ Below w.heap.size w w' := by
 have hu23 := Tryz.underlying23
 have HB := Aside0.mk (Below.refl w.heap.size w)
 have H : ((strings_Split.f a0 (⟨#[46]⟩ : ByteArray)).bind fun t192 => (if (t192.length : Int) = 3 then (if 0 < (t192.length : Int) then ((event_number.f k (rdOf ByteArray.empty t192 0)).bind fun t196 => (if 1 < (t192.length : Int) then ((event_number.f k (rdOf ByteArray.empty t192 1)).bind fun t198 => (if 2 < (t192.length : Int) then ((event_number.f k (rdOf ByteArray.empty t192 2)).bind fun t200 => (if a0.toList = ([] : List UInt8) then (some (0, 0, 0, 3)) else ((event_ShowID.f t196 t198 t200).bind fun t202 => (if t202.toList = a0.toList then (some (t196, t198, t200, 0)) else (some (0, 0, 0, 3)))))) else (none))) else (none))) else (none)) else (some (0, 0, 0, 3)))) = some (r1, r2, r3, r4) := h
 clear h
 have HT := Aside0.mk hT
 clear hT
 replace H := Option.bind_eq_some_iff.mp H
 obtain ⟨t192, A20, H⟩ := H
 replace H : (if (t192.length : Int) = 3 then (if 0 < (t192.length : Int) then ((event_number.f k (rdOf ByteArray.empty t192 0)).bind fun t196 => (if 1 < (t192.length : Int) then ((event_number.f k (rdOf ByteArray.empty t192 1)).bind fun t198 => (if 2 < (t192.length : Int) then ((event_number.f k (rdOf ByteArray.empty t192 2)).bind fun t200 => (if a0.toList = ([] : List UInt8) then (some (0, 0, 0, 3)) else ((event_ShowID.f t196 t198 t200).bind fun t202 => (if t202.toList = a0.toList then (some (t196, t198, t200, 0)) else (some (0, 0, 0, 3)))))) else (none))) else (none))) else (none)) else (some (0, 0, 0, 3))) = some (r1, r2, r3, r4) := H
 have A2 := Aside0.mk A20
 clear A20
 by_cases c3 : (t192.length : Int) = 3
 ·rw [if_pos c3] at H
  have c3b0 : ((t192.length : Int) == 3) = true := beq_iff_eq.mpr c3
  have c3b1 : ((t192.length : Int) != 3) = false := bne_eq_false_iff_eq.mpr c3
  clear c3
  by_cases c4 : 0 < (t192.length : Int)
  ·rw [if_pos c4] at H
   have c4b0 : decide (0 < (t192.length : Int)) = true := decide_eq_true c4
   have c4b1 : decide (0 < t192.length) = true := decide_eq_true (by omega)
   clear c4
   replace H := Option.bind_eq_some_iff.mp H
   obtain ⟨t196, A50, H⟩ := H
   replace H : (if 1 < (t192.length : Int) then ((event_number.f k (rdOf ByteArray.empty t192 1)).bind fun t198 => (if 2 < (t192.length : Int) then ((event_number.f k (rdOf ByteArray.empty t192 2)).bind fun t200 => (if a0.toList = ([] : List UInt8) then (some (0, 0, 0, 3)) else ((event_ShowID.f t196 t198 t200).bind fun t202 => (if t202.toList = a0.toList then (some (t196, t198, t200, 0)) else (some (0, 0, 0, 3)))))) else (none))) else (none)) = some (r1, r2, r3, r4) := H
   have A5 := Aside0.mk A50
   clear A50
   by_cases c6 : 1 < (t192.length : Int)
   ·rw [if_pos c6] at H
    have c6b0 : decide (1 < (t192.length : Int)) = true := decide_eq_true c6
    have c6b1 : decide (1 < t192.length) = true := decide_eq_true (by omega)
    clear c6
    replace H := Option.bind_eq_some_iff.mp H
    obtain ⟨t198, A70, H⟩ := H
    replace H : (if 2 < (t192.length : Int) then ((event_number.f k (rdOf ByteArray.empty t192 2)).bind fun t200 => (if a0.toList = ([] : List UInt8) then (some (0, 0, 0, 3)) else ((event_ShowID.f t196 t198 t200).bind fun t202 => (if t202.toList = a0.toList then (some (t196, t198, t200, 0)) else (some (0, 0, 0, 3)))))) else (none)) = some (r1, r2, r3, r4) := H
    have A7 := Aside0.mk A70
    clear A70
    by_cases c8 : 2 < (t192.length : Int)
    ·rw [if_pos c8] at H
     have c8b0 : decide (2 < (t192.length : Int)) = true := decide_eq_true c8
     have c8b1 : decide (2 < t192.length) = true := decide_eq_true (by omega)
     clear c8
     replace H := Option.bind_eq_some_iff.mp H
     obtain ⟨t200, A90, H⟩ := H
     replace H : (if a0.toList = ([] : List UInt8) then (some (0, 0, 0, 3)) else ((event_ShowID.f t196 t198 t200).bind fun t202 => (if t202.toList = a0.toList then (some (t196, t198, t200, 0)) else (some (0, 0, 0, 3))))) = some (r1, r2, r3, r4) := H
     have A9 := Aside0.mk A90
     clear A90
     by_cases c10 : a0.toList = ([] : List UInt8)
     ·rw [if_pos c10] at H
      have c10b0 : (a0.toList == ([] : List UInt8)) = true := beq_iff_eq.mpr c10
      have c10b1 : (a0.toList != ([] : List UInt8)) = false := bne_eq_false_iff_eq.mpr c10
      clear c10
      simp only [Option.some.injEq, Prod.mk.injEq] at H
      obtain ⟨rfl, rfl, rfl, rfl⟩ := H
      go_enter Tryz.func24, Tryz.ntmps24
      try go_wp2_with (first | ((with_reducible refine gate_dst (N := 2) rfl ?_); refine box_event ?hg (N := 2) ?hd (cs := #[.int .i64 0, .int .i64 0, .int .i64 0]) (t := 23) ?hr ?_; (case hd => rfl); (case hg => rfl); (case hr => first | (go_simp; done) | (go_simp; rfl)); intro gb191 hg w11 hbox hb; have n0_ := Aside0.mk (below_step (bwA) hb); have n1_ := Aside0.mk (hbox); have n2_ := Aside0.mk ((by rw [hg]; exact (below_size (bwA)) : w.heap.size ≤ gb191)); have n3_ := Aside0.mk ((by rw [hg]; exact (below_size (bwA)) : w.heap.size ≤ gb191)); clear HB; have HB := n0_; have BK191 := n1_; have GW191 := n2_; have GE191 := n3_; clear n0_ n1_ n2_ n3_; clear hb hbox hg) | ((with_reducible refine gate_callee (f := 55) rfl ?_); refine goesA (some 7) Tryz.func55 #[.string a0, .string (⟨#[46]⟩ : ByteArray)] ?_; (with_reducible refine (strings_Split.calls a0 (⟨#[46]⟩ : ByteArray) t192 _ ?side1 A2.out).mono ?_); (case side1 => exact Tabs.below HT.out (bwA)); rintro e w12 ⟨v193, rfl, ho0, hb⟩; refine ⟨_, rfl, ?_⟩; have n0_ := Aside0.mk (Kd.R_lower ho0 (below_size (bwA))); have n1_ := Aside0.mk (blk_below (g := gb191) (o := .cells #[.int .i64 0, .int .i64 0, .int .i64 0] 23 (0, 0)) blkA hb); have n2_ := Aside0.mk (below_step (bwA) hb); clear BK191; clear HB; have HO194 := n0_; have BK191 := n1_; have HB := n2_; clear n0_ n1_ n2_; (try clear hb); (try clear hb2); (try clear hk); (try clear hi); (try clear ho0); obtain ⟨Ao13, co13, eo13⟩ := Kd.R_slice HO194.out; subst eo13))
      have n0_ := Aside0.mk (Kd.R_drew HO194.out)
      have n1_ := Aside0.mk (blk_drew BK191.out)
      have n2_ := Aside0.mk (below_drew1 HB.out)
      clear HO194
      clear BK191
      clear HB
      have HO194 := n0_
      have BK191 := n1_
      have HB := n2_
      clear n0_ n1_ n2_
      have p195 : 0 ≤ (0 : Int) := (by omega)
      have q195 : 0 < (t192.length : Int) := odA
      obtain ⟨ad195, e195, hx195_0⟩ := Kd.at_string (Kd.R_reads' HO194.out).2.2 0 p195 q195
      cases e195
      have qi195 : (0 < t192.length) = True := eq_true (by omega)
      (try rw [show ((0 : Int)).toNat = 0 from rfl] at hx195_0)
      (try rw [Addr.add_zero'] at hx195_0)
      replace p195 := eq_true p195
      replace q195 := eq_true q195
      have p197 : 0 ≤ (1 : Int) := (by omega)
      have q197 : 1 < (t192.length : Int) := odA
      obtain ⟨ad197, e197, hx197_0⟩ := Kd.at_string (Kd.R_reads' HO194.out).2.2 1 p197 q197
      obtain rfl : ad195 = ad197 := (by injection e197)
      (try simp only [show (1 : Int).toNat = 1 from rfl, Nat.reduceMul, Nat.reduceEqDiff, Go.Addr.add, ↓reduceIte] at hx197_0)
      have qi197 : (1 < t192.length) = True := eq_true (by omega)
      (try rw [show ((1 : Int)).toNat = 1 from rfl] at hx197_0)
      replace p197 := eq_true p197
      replace q197 := eq_true q197
      have p199 : 0 ≤ (2 : Int) := (by omega)
      have q199 : 2 < (t192.length : Int) := odA
      obtain ⟨ad199, e199, hx199_0⟩ := Kd.at_string (Kd.R_reads' HO194.out).2.2 2 p199 q199
      obtain rfl : ad195 = ad199 := (by injection e199)
      (try simp only [show (2 : Int).toNat = 2 from rfl, Nat.reduceMul, Nat.reduceEqDiff, Go.Addr.add, ↓reduceIte] at hx199_0)
      have qi199 : (2 < t192.length) = True := eq_true (by omega)
      (try rw [show ((2 : Int)).toNat = 2 from rfl] at hx199_0)
      replace p199 := eq_true p199
      replace q199 := eq_true q199
      refine start_ (n := 15) (S := fun w' => w'.cell? ad195 = some (.string (rdOf ByteArray.empty t192 0)) ∧ w'.cell? ⟨ad195.block, ad195.off + 1, none⟩ = some (.string (rdOf ByteArray.empty t192 1)) ∧ w'.cell? ⟨ad195.block, ad195.off + 2, none⟩ = some (.string (rdOf ByteArray.empty t192 2))) (ds := []) (mkB 15 0) (by kernel_rfl) rfl rfl ⟨hx195_0, hx197_0, hx199_0⟩ (fun hHeld => ?_); refine with_tabW event_ParseID.tab4 event_ParseID.bits4 (fun HT_ HW_ => ?_)
      generalize w12.drew = w14 at HO194 BK191 HB hx195_0 hx197_0 hx199_0 hHeld ⊢
      refine pureA 0 (some 12) (mkB 15 1) ?_
      refine pureA 1 (some 13) (mkB 15 3) ?_
      refine pureA 4 (some 16) (mkB 15 19) ?_
      refine pureA 5 (some 17) (mkB 15 51) ?_
      refine pureA 8 (some 20) (mkB 15 307) ?_
      refine pureA 9 (some 21) (mkB 15 819) ?_
      refine takeA 2 (some 14) (mkB 15 823) ?_ rfl (Or.inl ⟨by rfl, by rintro w' ⟨s0, s1, s2⟩; go_simp; with_reducible rfl⟩)
      refine takeA 6 (some 18) (mkB 15 887) ?_ rfl (Or.inl ⟨by rfl, by rintro w' ⟨s0, s1, s2⟩; go_simp; with_reducible rfl⟩)
      refine takeA 10 (some 22) (mkB 15 1911) ?_ rfl (Or.inl ⟨by rfl, by rintro w' ⟨s0, s1, s2⟩; go_simp; with_reducible rfl⟩)
      refine join_ (σ := Nat) 1 #[true, true, true, true, true, true, true, true, true, true, true, true, true, true, false] (fun s_ => [(15, .int .i64 t196), (19, .int .i64 t198), (23, .int .i64 t200), (5, .pointer (some ⟨s_, 0, none⟩)), (24, .agg #[.int .i64 t196, .int .i64 t198, .int .i64 t200])]) (fun s_ w' => (w'.cell? ad195 = some (.string (rdOf ByteArray.empty t192 0)) ∧ w'.cell? ⟨ad195.block, ad195.off + 1, none⟩ = some (.string (rdOf ByteArray.empty t192 1)) ∧ w'.cell? ⟨ad195.block, ad195.off + 2, none⟩ = some (.string (rdOf ByteArray.empty t192 2))) ∧ (Kd.R Kd.string 9 w' w.heap.size (fun _ => True) (.slice (some ad195) t192.length co13) t192) ∧ (w'.heap[gb191]? = some (.cells #[.int .i64 0, .int .i64 0, .int .i64 0] 23 (0, 0))) ∧ (w'.heap[s_]? = some (.cells #[.int .i64 0, .int .i64 0, .int .i64 0] 23 (0, 0))) ∧ (w.heap.size ≤ s_) ∧ (w.heap.size ≤ s_) ∧ (gb191 ≠ s_) ∧ (s_ ≠ gb191) ∧ (Below w.heap.size w w')) ?_ ?_
      rotate_left
      ·intro hCont
       refine two_ (i := 3) (j := 13) (Ni := some 15) (Nj := some 5) #[true, true, true, true, true, true, true, false, true, true, true, false, false, false, false] #[true, true, true, false, true, true, true, false, true, true, true, false, false, true, false] rfl rfl rfl rfl (two_of HT_.out (by kernel_rfl)) (by decide) (by decide) (fun K hK => ?_) (fun K hK => ?_)
       ·skip
        refine goes_ Tryz.func56 (by kernel_rfl) rfl #[.string (rdOf ByteArray.empty t192 0)] (by rfl) rfl rfl (by (try simp only [List.map_toArray, List.map_cons, List.map_nil]); first | done | rfl | (simp only [List.length_drop, List.length_take]; rfl)) ?_
        with_reducible refine (event_number.calls k (rdOf ByteArray.empty t192 0) t196 _ A5.out).mono ?_
        rintro e w' ⟨rfl, ⟨nd, rfl⟩⟩
        refine ⟨_, rfl, ?_⟩
        refine hK.out _ _ ⟨hHeld.1, hHeld.2.1, hHeld.2.2⟩ (fun hHeld => ?_)
        clear hK K
        refine normA ?_
        refine two_ (i := 7) (j := 13) (Ni := some 19) (Nj := some 5) #[true, true, true, true, true, true, true, true, true, true, true, false, false, false, false] #[true, true, true, true, true, true, true, false, true, true, true, false, false, true, false] rfl rfl rfl rfl (two_of HT_.out (by kernel_rfl)) (by decide) (by decide) (fun K hK => ?_) (fun K hK => ?_)
        ·skip
         refine goes_ Tryz.func56 (by kernel_rfl) rfl #[.string (rdOf ByteArray.empty t192 1)] (by rfl) rfl rfl (by (try simp only [List.map_toArray, List.map_cons, List.map_nil]); first | done | rfl | (simp only [List.length_drop, List.length_take]; rfl)) ?_
         with_reducible refine (event_number.calls k (rdOf ByteArray.empty t192 1) t198 _ A7.out).mono ?_
         rintro e w' ⟨rfl, ⟨nd, rfl⟩⟩
         refine ⟨_, rfl, ?_⟩
         refine hK.out _ _ ⟨hHeld.1, hHeld.2.1, hHeld.2.2⟩ (fun hHeld => ?_)
         clear hK K
         refine normA ?_
         refine two_ (i := 11) (j := 13) (Ni := some 23) (Nj := some 5) #[true, true, true, true, true, true, true, true, true, true, true, true, false, false, false] #[true, true, true, true, true, true, true, true, true, true, true, false, false, true, false] rfl rfl rfl rfl (two_of HT_.out (by kernel_rfl)) (by decide) (by decide) (fun K hK => ?_) (fun K hK => ?_)
         ·skip
          refine goes_ Tryz.func56 (by kernel_rfl) rfl #[.string (rdOf ByteArray.empty t192 2)] (by rfl) rfl rfl (by (try simp only [List.map_toArray, List.map_cons, List.map_nil]); first | done | rfl | (simp only [List.length_drop, List.length_take]; rfl)) ?_
          with_reducible refine (event_number.calls k (rdOf ByteArray.empty t192 2) t200 _ A9.out).mono ?_
          rintro e w' ⟨rfl, ⟨nd, rfl⟩⟩
          refine ⟨_, rfl, ?_⟩
          refine hK.out _ _ ⟨hHeld.1, hHeld.2.1, hHeld.2.2⟩ (fun hHeld => ?_)
          clear hK K
          refine normA ?_
          refine pureA 12 (some 24) (mkB 15 8191) ?_
          refine oneA 13 (some 5) (mkB 15 16383) (fun K hK => ?_)
          refine box_step ?hg (N := 5) ?hd (cs := #[.int .i64 0, .int .i64 0, .int .i64 0]) (t := 23) ?hr ?_; (case hd => rfl); (case hg => rfl); (case hr => first | (go_simp; done) | (go_simp; rfl))
          intro gb201 hg w15 hbox hb
          have HS0_ := (hb.cell (World.block_lt_of_cell? _ _ (hHeld.1))).trans (hHeld.1)
          have HS1_ := (hb.cell (World.block_lt_of_cell? _ _ (hHeld.2.1))).trans (hHeld.2.1)
          have HS2_ := (hb.cell (World.block_lt_of_cell? _ _ (hHeld.2.2))).trans (hHeld.2.2)
          have n0_ := Aside0.mk (Kd.R_below (by (with_reducible repeat (first | apply Kd.R_alloc | apply Kd.R_drewN | apply Kd.R_drew)); exact HO194.out) hb)
          have n1_ := Aside0.mk (blk_below (g := gb191) (o := .cells #[.int .i64 0, .int .i64 0, .int .i64 0] 23 (0, 0)) blkA hb)
          have n2_ := Aside0.mk (below_step (bwA) hb)
          have n3_ := Aside0.mk (hbox)
          have n4_ := Aside0.mk ((by rw [hg]; exact (below_size (bwA)) : w.heap.size ≤ gb201))
          have n5_ := Aside0.mk ((by rw [hg]; exact (below_size (bwA)) : w.heap.size ≤ gb201))
          have n6_ := Aside0.mk ((by rw [hg]; exact Nat.ne_of_lt (blk_lt (g := gb191) (o := .cells #[.int .i64 0, .int .i64 0, .int .i64 0] 23 (0, 0)) blkA) : gb191 ≠ gb201))
          have n7_ := Aside0.mk ((by rw [hg]; exact Nat.ne_of_gt (blk_lt (g := gb191) (o := .cells #[.int .i64 0, .int .i64 0, .int .i64 0] 23 (0, 0)) blkA) : gb201 ≠ gb191))
          clear HO194
          clear BK191
          clear HB
          have HO194 := n0_
          have BK191 := n1_
          have HB := n2_
          have BK201 := n3_
          have GW201 := n4_
          have GE201 := n5_
          have NB191_201 := n6_
          have NB201_191 := n7_
          clear n0_ n1_ n2_ n3_ n4_ n5_ n6_ n7_
          clear hb hbox hg
          refine hK.out _ _ ⟨HS0_, HS1_, HS2_⟩ (fun hHeld => ?_)
          clear hK K
          refine normA ?_
          exact norm_ (by first | (simp only [putAll, Act.put, List.setIfInBounds_toArray, List.set_cons_zero, List.set_cons_succ]; done) | rfl) (hCont (gb201) _ ⟨hHeld, (by (with_reducible repeat (first | apply Kd.R_alloc | apply Kd.R_drewN | apply Kd.R_drew)); exact HO194.out), blkA, blkA, GW201.out, GE201.out, NB191_201.out, NB201_191.out, (bwA)⟩)
         ·skip
          refine box_step ?hg (N := 5) ?hd (cs := #[.int .i64 0, .int .i64 0, .int .i64 0]) (t := 23) ?hr ?_; (case hd => rfl); (case hg => rfl); (case hr => first | (go_simp; done) | (go_simp; rfl))
          intro gb201 hg w15 hbox hb
          have HS0_ := (hb.cell (World.block_lt_of_cell? _ _ (hHeld.1))).trans (hHeld.1)
          have HS1_ := (hb.cell (World.block_lt_of_cell? _ _ (hHeld.2.1))).trans (hHeld.2.1)
          have HS2_ := (hb.cell (World.block_lt_of_cell? _ _ (hHeld.2.2))).trans (hHeld.2.2)
          have n0_ := Aside0.mk (Kd.R_below (by (with_reducible repeat (first | apply Kd.R_alloc | apply Kd.R_drewN | apply Kd.R_drew)); exact HO194.out) hb)
          have n1_ := Aside0.mk (blk_below (g := gb191) (o := .cells #[.int .i64 0, .int .i64 0, .int .i64 0] 23 (0, 0)) blkA hb)
          have n2_ := Aside0.mk (below_step (bwA) hb)
          have n3_ := Aside0.mk (hbox)
          have n4_ := Aside0.mk ((by rw [hg]; exact (below_size (bwA)) : w.heap.size ≤ gb201))
          have n5_ := Aside0.mk ((by rw [hg]; exact (below_size (bwA)) : w.heap.size ≤ gb201))
          have n6_ := Aside0.mk ((by rw [hg]; exact Nat.ne_of_lt (blk_lt (g := gb191) (o := .cells #[.int .i64 0, .int .i64 0, .int .i64 0] 23 (0, 0)) blkA) : gb191 ≠ gb201))
          have n7_ := Aside0.mk ((by rw [hg]; exact Nat.ne_of_gt (blk_lt (g := gb191) (o := .cells #[.int .i64 0, .int .i64 0, .int .i64 0] 23 (0, 0)) blkA) : gb201 ≠ gb191))
          clear HO194
          clear BK191
          clear HB
          have HO194 := n0_
          have BK191 := n1_
          have HB := n2_
          have BK201 := n3_
          have GW201 := n4_
          have GE201 := n5_
          have NB191_201 := n6_
          have NB201_191 := n7_
          clear n0_ n1_ n2_ n3_ n4_ n5_ n6_ n7_
          clear hb hbox hg
          refine hK.out _ _ ⟨HS0_, HS1_, HS2_⟩ (fun hHeld => ?_)
          clear hK K
          refine normA ?_
          refine oneA 11 (some 23) (mkB 15 12287) (fun K hK => ?_)
          refine goes_ Tryz.func56 (by kernel_rfl) rfl #[.string (rdOf ByteArray.empty t192 2)] (by rfl) rfl rfl (by (try simp only [List.map_toArray, List.map_cons, List.map_nil]); first | done | rfl | (simp only [List.length_drop, List.length_take]; rfl)) ?_
          with_reducible refine (event_number.calls k (rdOf ByteArray.empty t192 2) t200 _ A9.out).mono ?_
          rintro e w' ⟨rfl, ⟨nd, rfl⟩⟩
          refine ⟨_, rfl, ?_⟩
          refine hK.out _ _ ⟨hHeld.1, hHeld.2.1, hHeld.2.2⟩ (fun hHeld => ?_)
          clear hK K
          refine normA ?_
          refine pureA 12 (some 24) (mkB 15 16383) ?_
          exact norm_ (by first | (simp only [putAll, Act.put, List.setIfInBounds_toArray, List.set_cons_zero, List.set_cons_succ]; done) | rfl) (hCont (gb201) _ ⟨hHeld, (by (with_reducible repeat (first | apply Kd.R_alloc | apply Kd.R_drewN | apply Kd.R_drew)); exact HO194.out), blkA, blkA, GW201.out, GE201.out, NB191_201.out, NB201_191.out, (bwA)⟩)
        ·skip
         refine box_step ?hg (N := 5) ?hd (cs := #[.int .i64 0, .int .i64 0, .int .i64 0]) (t := 23) ?hr ?_; (case hd => rfl); (case hg => rfl); (case hr => first | (go_simp; done) | (go_simp; rfl))
         intro gb201 hg w15 hbox hb
         have HS0_ := (hb.cell (World.block_lt_of_cell? _ _ (hHeld.1))).trans (hHeld.1)
         have HS1_ := (hb.cell (World.block_lt_of_cell? _ _ (hHeld.2.1))).trans (hHeld.2.1)
         have HS2_ := (hb.cell (World.block_lt_of_cell? _ _ (hHeld.2.2))).trans (hHeld.2.2)
         have n0_ := Aside0.mk (Kd.R_below (by (with_reducible repeat (first | apply Kd.R_alloc | apply Kd.R_drewN | apply Kd.R_drew)); exact HO194.out) hb)
         have n1_ := Aside0.mk (blk_below (g := gb191) (o := .cells #[.int .i64 0, .int .i64 0, .int .i64 0] 23 (0, 0)) blkA hb)
         have n2_ := Aside0.mk (below_step (bwA) hb)
         have n3_ := Aside0.mk (hbox)
         have n4_ := Aside0.mk ((by rw [hg]; exact (below_size (bwA)) : w.heap.size ≤ gb201))
         have n5_ := Aside0.mk ((by rw [hg]; exact (below_size (bwA)) : w.heap.size ≤ gb201))
         have n6_ := Aside0.mk ((by rw [hg]; exact Nat.ne_of_lt (blk_lt (g := gb191) (o := .cells #[.int .i64 0, .int .i64 0, .int .i64 0] 23 (0, 0)) blkA) : gb191 ≠ gb201))
         have n7_ := Aside0.mk ((by rw [hg]; exact Nat.ne_of_gt (blk_lt (g := gb191) (o := .cells #[.int .i64 0, .int .i64 0, .int .i64 0] 23 (0, 0)) blkA) : gb201 ≠ gb191))
         clear HO194
         clear BK191
         clear HB
         have HO194 := n0_
         have BK191 := n1_
         have HB := n2_
         have BK201 := n3_
         have GW201 := n4_
         have GE201 := n5_
         have NB191_201 := n6_
         have NB201_191 := n7_
         clear n0_ n1_ n2_ n3_ n4_ n5_ n6_ n7_
         clear hb hbox hg
         refine hK.out _ _ ⟨HS0_, HS1_, HS2_⟩ (fun hHeld => ?_)
         clear hK K
         refine normA ?_
         refine oneA 7 (some 19) (mkB 15 10239) (fun K hK => ?_)
         refine goes_ Tryz.func56 (by kernel_rfl) rfl #[.string (rdOf ByteArray.empty t192 1)] (by rfl) rfl rfl (by (try simp only [List.map_toArray, List.map_cons, List.map_nil]); first | done | rfl | (simp only [List.length_drop, List.length_take]; rfl)) ?_
         with_reducible refine (event_number.calls k (rdOf ByteArray.empty t192 1) t198 _ A7.out).mono ?_
         rintro e w' ⟨rfl, ⟨nd, rfl⟩⟩
         refine ⟨_, rfl, ?_⟩
         refine hK.out _ _ ⟨hHeld.1, hHeld.2.1, hHeld.2.2⟩ (fun hHeld => ?_)
         clear hK K
         refine normA ?_
         refine oneA 11 (some 23) (mkB 15 12287) (fun K hK => ?_)
         refine goes_ Tryz.func56 (by kernel_rfl) rfl #[.string (rdOf ByteArray.empty t192 2)] (by rfl) rfl rfl (by (try simp only [List.map_toArray, List.map_cons, List.map_nil]); first | done | rfl | (simp only [List.length_drop, List.length_take]; rfl)) ?_
         with_reducible refine (event_number.calls k (rdOf ByteArray.empty t192 2) t200 _ A9.out).mono ?_
         rintro e w' ⟨rfl, ⟨nd, rfl⟩⟩
         refine ⟨_, rfl, ?_⟩
         refine hK.out _ _ ⟨hHeld.1, hHeld.2.1, hHeld.2.2⟩ (fun hHeld => ?_)
         clear hK K
         refine normA ?_
         refine pureA 12 (some 24) (mkB 15 16383) ?_
         exact norm_ (by first | (simp only [putAll, Act.put, List.setIfInBounds_toArray, List.set_cons_zero, List.set_cons_succ]; done) | rfl) (hCont (gb201) _ ⟨hHeld, (by (with_reducible repeat (first | apply Kd.R_alloc | apply Kd.R_drewN | apply Kd.R_drew)); exact HO194.out), blkA, blkA, GW201.out, GE201.out, NB191_201.out, NB201_191.out, (bwA)⟩)
       ·skip
        refine box_step ?hg (N := 5) ?hd (cs := #[.int .i64 0, .int .i64 0, .int .i64 0]) (t := 23) ?hr ?_; (case hd => rfl); (case hg => rfl); (case hr => first | (go_simp; done) | (go_simp; rfl))
        intro gb201 hg w15 hbox hb
        have HS0_ := (hb.cell (World.block_lt_of_cell? _ _ (hHeld.1))).trans (hHeld.1)
        have HS1_ := (hb.cell (World.block_lt_of_cell? _ _ (hHeld.2.1))).trans (hHeld.2.1)
        have HS2_ := (hb.cell (World.block_lt_of_cell? _ _ (hHeld.2.2))).trans (hHeld.2.2)
        have n0_ := Aside0.mk (Kd.R_below (by (with_reducible repeat (first | apply Kd.R_alloc | apply Kd.R_drewN | apply Kd.R_drew)); exact HO194.out) hb)
        have n1_ := Aside0.mk (blk_below (g := gb191) (o := .cells #[.int .i64 0, .int .i64 0, .int .i64 0] 23 (0, 0)) blkA hb)
        have n2_ := Aside0.mk (below_step (bwA) hb)
        have n3_ := Aside0.mk (hbox)
        have n4_ := Aside0.mk ((by rw [hg]; exact (below_size (bwA)) : w.heap.size ≤ gb201))
        have n5_ := Aside0.mk ((by rw [hg]; exact (below_size (bwA)) : w.heap.size ≤ gb201))
        have n6_ := Aside0.mk ((by rw [hg]; exact Nat.ne_of_lt (blk_lt (g := gb191) (o := .cells #[.int .i64 0, .int .i64 0, .int .i64 0] 23 (0, 0)) blkA) : gb191 ≠ gb201))
        have n7_ := Aside0.mk ((by rw [hg]; exact Nat.ne_of_gt (blk_lt (g := gb191) (o := .cells #[.int .i64 0, .int .i64 0, .int .i64 0] 23 (0, 0)) blkA) : gb201 ≠ gb191))
        clear HO194
        clear BK191
        clear HB
        have HO194 := n0_
        have BK191 := n1_
        have HB := n2_
        have BK201 := n3_
        have GW201 := n4_
        have GE201 := n5_
        have NB191_201 := n6_
        have NB201_191 := n7_
        clear n0_ n1_ n2_ n3_ n4_ n5_ n6_ n7_
        clear hb hbox hg
        refine hK.out _ _ ⟨HS0_, HS1_, HS2_⟩ (fun hHeld => ?_)
        clear hK K
        refine normA ?_
        refine oneA 3 (some 15) (mkB 15 10111) (fun K hK => ?_)
        refine goes_ Tryz.func56 (by kernel_rfl) rfl #[.string (rdOf ByteArray.empty t192 0)] (by rfl) rfl rfl (by (try simp only [List.map_toArray, List.map_cons, List.map_nil]); first | done | rfl | (simp only [List.length_drop, List.length_take]; rfl)) ?_
        with_reducible refine (event_number.calls k (rdOf ByteArray.empty t192 0) t196 _ A5.out).mono ?_
        rintro e w' ⟨rfl, ⟨nd, rfl⟩⟩
        refine ⟨_, rfl, ?_⟩
        refine hK.out _ _ ⟨hHeld.1, hHeld.2.1, hHeld.2.2⟩ (fun hHeld => ?_)
        clear hK K
        refine normA ?_
        refine oneA 7 (some 19) (mkB 15 10239) (fun K hK => ?_)
        refine goes_ Tryz.func56 (by kernel_rfl) rfl #[.string (rdOf ByteArray.empty t192 1)] (by rfl) rfl rfl (by (try simp only [List.map_toArray, List.map_cons, List.map_nil]); first | done | rfl | (simp only [List.length_drop, List.length_take]; rfl)) ?_
        with_reducible refine (event_number.calls k (rdOf ByteArray.empty t192 1) t198 _ A7.out).mono ?_
        rintro e w' ⟨rfl, ⟨nd, rfl⟩⟩
        refine ⟨_, rfl, ?_⟩
        refine hK.out _ _ ⟨hHeld.1, hHeld.2.1, hHeld.2.2⟩ (fun hHeld => ?_)
        clear hK K
        refine normA ?_
        refine oneA 11 (some 23) (mkB 15 12287) (fun K hK => ?_)
        refine goes_ Tryz.func56 (by kernel_rfl) rfl #[.string (rdOf ByteArray.empty t192 2)] (by rfl) rfl rfl (by (try simp only [List.map_toArray, List.map_cons, List.map_nil]); first | done | rfl | (simp only [List.length_drop, List.length_take]; rfl)) ?_
        with_reducible refine (event_number.calls k (rdOf ByteArray.empty t192 2) t200 _ A9.out).mono ?_
        rintro e w' ⟨rfl, ⟨nd, rfl⟩⟩
        refine ⟨_, rfl, ?_⟩
        refine hK.out _ _ ⟨hHeld.1, hHeld.2.1, hHeld.2.2⟩ (fun hHeld => ?_)
        clear hK K
        refine normA ?_
        refine pureA 12 (some 24) (mkB 15 16383) ?_
        exact norm_ (by first | (simp only [putAll, Act.put, List.setIfInBounds_toArray, List.set_cons_zero, List.set_cons_succ]; done) | rfl) (hCont (gb201) _ ⟨hHeld, (by (with_reducible repeat (first | apply Kd.R_alloc | apply Kd.R_drewN | apply Kd.R_drew)); exact HO194.out), blkA, blkA, GW201.out, GE201.out, NB191_201.out, NB201_191.out, (bwA)⟩)
      rintro gb201 w16 ⟨hS_, h0_, h1_, h2_, h3_, h4_, h5_, h6_, h7_⟩
      have n0_ : Aside0 (Kd.R Kd.string 9 w16 w.heap.size (fun _ => True) (.slice (some ad195) t192.length co13) t192) := ⟨h0_⟩
      have n1_ : Aside0 (w16.heap[gb191]? = some (.cells #[.int .i64 0, .int .i64 0, .int .i64 0] 23 (0, 0))) := ⟨h1_⟩
      have n2_ : Aside0 (w16.heap[gb201]? = some (.cells #[.int .i64 0, .int .i64 0, .int .i64 0] 23 (0, 0))) := ⟨h2_⟩
      have n3_ : Aside0 (w.heap.size ≤ gb201) := ⟨h3_⟩
      have n4_ : Aside0 (w.heap.size ≤ gb201) := ⟨h4_⟩
      have n5_ : Aside0 (gb191 ≠ gb201) := ⟨h5_⟩
      have n6_ : Aside0 (gb201 ≠ gb191) := ⟨h6_⟩
      have n7_ : Aside0 (Below w.heap.size w w16) := ⟨h7_⟩
      clear HO194
      clear BK191
      clear HB
      clear h0_ h1_ h2_ h3_ h4_ h5_ h6_ h7_
      have HO194 := n0_
      have BK191 := n1_
      have BK201 := n2_
      have GW201 := n3_
      have GE201 := n4_
      have NB191_201 := n5_
      have NB201_191 := n6_
      have HB := n7_
      clear n0_ n1_ n2_ n3_ n4_ n5_ n6_ n7_
      have hHeld : w16.cell? ad195 = some (.string (rdOf ByteArray.empty t192 0)) ∧ w16.cell? ⟨ad195.block, ad195.off + 1, none⟩ = some (.string (rdOf ByteArray.empty t192 1)) ∧ w16.cell? ⟨ad195.block, ad195.off + 2, none⟩ = some (.string (rdOf ByteArray.empty t192 2)) := hS_
      refine norm_ (a' := ?_) ?_ ?_
      rotate_left
      ·simp only [putAll, Act.put, List.setIfInBounds_toArray, List.set_cons_zero, List.set_cons_succ]
       rfl
      refine oneA 14 (none) (mkB 15 32767) (fun K hK => ?_)
      have hs17 : w16.cell? ⟨gb201, 0, none⟩ = some (.int .i64 0) := (blk_cell BK201.out 0).trans rfl
      have hfs17 := blk_frozen BK201.out 0
      have hns17_0 := NB191_201.out
      have hms17_0 := NB201_191.out
      have hs18 : w16.cell? ⟨gb201, 1, none⟩ = some (.int .i64 0) := (blk_cell BK201.out 1).trans rfl
      have hfs18 := blk_frozen BK201.out 1
      have hns18_0 := NB191_201.out
      have hms18_0 := NB201_191.out
      have hs19 : w16.cell? ⟨gb201, 2, none⟩ = some (.int .i64 0) := (blk_cell BK201.out 2).trans rfl
      have hfs19 := blk_frozen BK201.out 2
      have hns19_0 := NB191_201.out
      have hms19_0 := NB201_191.out
      refine skip_ (w1 := ?_) (by rfl) rfl ?_ ?_
      rotate_left
      ·go_simp
       rfl
      have nz0_ := Aside0.mk (Kd.own_blk (Kd.R_ne HO194.out BK201.out (by decide)))
      refine hK.out _ _ ⟨far3 nz0_.out hHeld.1, far3 nz0_.out hHeld.2.1, far3 nz0_.out hHeld.2.2⟩ (fun hHeld => ?_)
      clear hK K
      refine done_ (done_of HT_.out (by kernel_rfl)) ?_
      have hnb20 := NB191_201.out
      have hnc20 := NB201_191.out
      have hcz21_0 : w16.cell? ⟨gb191, 0, none⟩ = some (.int .i64 0) := (blk_cell BK191.out 0).trans rfl
      have hcz21_1 : w16.cell? ⟨gb191, 1, none⟩ = some (.int .i64 0) := (blk_cell BK191.out 1).trans rfl
      have hcz21_2 : w16.cell? ⟨gb191, 2, none⟩ = some (.int .i64 0) := (blk_cell BK191.out 2).trans rfl
      have hfz21_0 := blk_frozen BK191.out 0
      have hfz21_1 := blk_frozen BK191.out 1
      have hfz21_2 := blk_frozen BK191.out 2
      try go_wp2
      refine bodyPost_ret (results_ct rfl _ _ gb191 23 #[.int .i64 0, .int .i64 0, .int .i64 0] (0, 0) _ rfl (by (with_reducible repeat (first | refine blk_drewN ?_ _ | refine blk_drew ?_ | refine blk_alloc ?_ _)); refine blk_put (cs := #[.int .i64 0, .int .i64 0, .int .i64 0]) ?_ 2 _ rfl; (with_reducible repeat (first | refine blk_drewN ?_ _ | refine blk_drew ?_ | refine blk_alloc ?_ _)); refine blk_put (cs := #[.int .i64 0, .int .i64 0, .int .i64 0]) ?_ 1 _ rfl; (with_reducible repeat (first | refine blk_drewN ?_ _ | refine blk_drew ?_ | refine blk_alloc ?_ _)); refine blk_put (cs := #[.int .i64 0, .int .i64 0, .int .i64 0]) ?_ 0 _ rfl; (with_reducible repeat (first | refine blk_drewN ?_ _ | refine blk_drew ?_ | refine blk_alloc ?_ _)); refine blk_far ?_ NB191_201.out _; (with_reducible repeat (first | refine blk_drewN ?_ _ | refine blk_drew ?_ | refine blk_alloc ?_ _)); refine blk_far ?_ NB191_201.out _; (with_reducible repeat (first | refine blk_drewN ?_ _ | refine blk_drew ?_ | refine blk_alloc ?_ _)); refine blk_far ?_ NB191_201.out _; (with_reducible repeat (first | refine blk_drewN ?_ _ | refine blk_drew ?_ | refine blk_alloc ?_ _)); exact BK191.out) Tryz.underlying23 rfl (by kernel_rfl)) rfl ?_
      exact ⟨endA, bwA⟩
     ·rw [if_neg c10] at H
      have c10b0 : (a0.toList == ([] : List UInt8)) = false := beq_eq_false_iff_ne.mpr c10
      have c10b1 : (a0.toList != ([] : List UInt8)) = true := bne_iff_ne.mpr c10
      replace H := Option.bind_eq_some_iff.mp H
      obtain ⟨t202, A220, H⟩ := H
      replace H : (if t202.toList = a0.toList then (some (t196, t198, t200, 0)) else (some (0, 0, 0, 3))) = some (r1, r2, r3, r4) := H
      have A22 := Aside0.mk A220
      clear A220
      by_cases c23 : t202.toList = a0.toList
      ·rw [if_pos c23] at H
       have c23b0 : (t202.toList == a0.toList) = true := beq_iff_eq.mpr c23
       have c23b1 : (t202.toList != a0.toList) = false := bne_eq_false_iff_eq.mpr c23
       clear c23
       simp only [Option.some.injEq, Prod.mk.injEq] at H
       obtain ⟨rfl, rfl, rfl, rfl⟩ := H
       go_enter Tryz.func24, Tryz.ntmps24
       try go_wp2_with (first | ((with_reducible refine gate_dst (N := 2) rfl ?_); refine box_event ?hg (N := 2) ?hd (cs := #[.int .i64 0, .int .i64 0, .int .i64 0]) (t := 23) ?hr ?_; (case hd => rfl); (case hg => rfl); (case hr => first | (go_simp; done) | (go_simp; rfl)); intro gb191 hg w24 hbox hb; have n0_ := Aside0.mk (below_step (bwA) hb); have n1_ := Aside0.mk (hbox); have n2_ := Aside0.mk ((by rw [hg]; exact (below_size (bwA)) : w.heap.size ≤ gb191)); have n3_ := Aside0.mk ((by rw [hg]; exact (below_size (bwA)) : w.heap.size ≤ gb191)); clear HB; have HB := n0_; have BK191 := n1_; have GW191 := n2_; have GE191 := n3_; clear n0_ n1_ n2_ n3_; clear hb hbox hg) | ((with_reducible refine gate_callee (f := 55) rfl ?_); refine goesA (some 7) Tryz.func55 #[.string a0, .string (⟨#[46]⟩ : ByteArray)] ?_; (with_reducible refine (strings_Split.calls a0 (⟨#[46]⟩ : ByteArray) t192 _ ?side1 A2.out).mono ?_); (case side1 => exact Tabs.below HT.out (bwA)); rintro e w25 ⟨v193, rfl, ho0, hb⟩; refine ⟨_, rfl, ?_⟩; have n0_ := Aside0.mk (Kd.R_lower ho0 (below_size (bwA))); have n1_ := Aside0.mk (blk_below (g := gb191) (o := .cells #[.int .i64 0, .int .i64 0, .int .i64 0] 23 (0, 0)) blkA hb); have n2_ := Aside0.mk (below_step (bwA) hb); clear BK191; clear HB; have HO194 := n0_; have BK191 := n1_; have HB := n2_; clear n0_ n1_ n2_; (try clear hb); (try clear hb2); (try clear hk); (try clear hi); (try clear ho0); obtain ⟨Ao26, co26, eo26⟩ := Kd.R_slice HO194.out; subst eo26))
       have n0_ := Aside0.mk (Kd.R_drew HO194.out)
       have n1_ := Aside0.mk (blk_drew BK191.out)
       have n2_ := Aside0.mk (below_drew1 HB.out)
       clear HO194
       clear BK191
       clear HB
       have HO194 := n0_
       have BK191 := n1_
       have HB := n2_
       clear n0_ n1_ n2_
       have p195 : 0 ≤ (0 : Int) := (by omega)
       have q195 : 0 < (t192.length : Int) := odA
       obtain ⟨ad195, e195, hx195_0⟩ := Kd.at_string (Kd.R_reads' HO194.out).2.2 0 p195 q195
       cases e195
       have qi195 : (0 < t192.length) = True := eq_true (by omega)
       (try rw [show ((0 : Int)).toNat = 0 from rfl] at hx195_0)
       (try rw [Addr.add_zero'] at hx195_0)
       replace p195 := eq_true p195
       replace q195 := eq_true q195
       have p197 : 0 ≤ (1 : Int) := (by omega)
       have q197 : 1 < (t192.length : Int) := odA
       obtain ⟨ad197, e197, hx197_0⟩ := Kd.at_string (Kd.R_reads' HO194.out).2.2 1 p197 q197
       obtain rfl : ad195 = ad197 := (by injection e197)
       (try simp only [show (1 : Int).toNat = 1 from rfl, Nat.reduceMul, Nat.reduceEqDiff, Go.Addr.add, ↓reduceIte] at hx197_0)
       have qi197 : (1 < t192.length) = True := eq_true (by omega)
       (try rw [show ((1 : Int)).toNat = 1 from rfl] at hx197_0)
       replace p197 := eq_true p197
       replace q197 := eq_true q197
       have p199 : 0 ≤ (2 : Int) := (by omega)
       have q199 : 2 < (t192.length : Int) := odA
       obtain ⟨ad199, e199, hx199_0⟩ := Kd.at_string (Kd.R_reads' HO194.out).2.2 2 p199 q199
       obtain rfl : ad195 = ad199 := (by injection e199)
       (try simp only [show (2 : Int).toNat = 2 from rfl, Nat.reduceMul, Nat.reduceEqDiff, Go.Addr.add, ↓reduceIte] at hx199_0)
       have qi199 : (2 < t192.length) = True := eq_true (by omega)
       (try rw [show ((2 : Int)).toNat = 2 from rfl] at hx199_0)
       replace p199 := eq_true p199
       replace q199 := eq_true q199
       refine start_ (n := 15) (S := fun w' => w'.cell? ad195 = some (.string (rdOf ByteArray.empty t192 0)) ∧ w'.cell? ⟨ad195.block, ad195.off + 1, none⟩ = some (.string (rdOf ByteArray.empty t192 1)) ∧ w'.cell? ⟨ad195.block, ad195.off + 2, none⟩ = some (.string (rdOf ByteArray.empty t192 2))) (ds := []) (mkB 15 0) (by kernel_rfl) rfl rfl ⟨hx195_0, hx197_0, hx199_0⟩ (fun hHeld => ?_); refine with_tabW event_ParseID.tab4 event_ParseID.bits4 (fun HT_ HW_ => ?_)
       generalize w25.drew = w27 at HO194 BK191 HB hx195_0 hx197_0 hx199_0 hHeld ⊢
       refine pureA 0 (some 12) (mkB 15 1) ?_
       refine pureA 1 (some 13) (mkB 15 3) ?_
       refine pureA 4 (some 16) (mkB 15 19) ?_
       refine pureA 5 (some 17) (mkB 15 51) ?_
       refine pureA 8 (some 20) (mkB 15 307) ?_
       refine pureA 9 (some 21) (mkB 15 819) ?_
       refine takeA 2 (some 14) (mkB 15 823) ?_ rfl (Or.inl ⟨by rfl, by rintro w' ⟨s0, s1, s2⟩; go_simp; with_reducible rfl⟩)
       refine takeA 6 (some 18) (mkB 15 887) ?_ rfl (Or.inl ⟨by rfl, by rintro w' ⟨s0, s1, s2⟩; go_simp; with_reducible rfl⟩)
       refine takeA 10 (some 22) (mkB 15 1911) ?_ rfl (Or.inl ⟨by rfl, by rintro w' ⟨s0, s1, s2⟩; go_simp; with_reducible rfl⟩)
       refine join_ (σ := Nat) 1 #[true, true, true, true, true, true, true, true, true, true, true, true, true, true, false] (fun s_ => [(15, .int .i64 t196), (19, .int .i64 t198), (23, .int .i64 t200), (5, .pointer (some ⟨s_, 0, none⟩)), (24, .agg #[.int .i64 t196, .int .i64 t198, .int .i64 t200])]) (fun s_ w' => (w'.cell? ad195 = some (.string (rdOf ByteArray.empty t192 0)) ∧ w'.cell? ⟨ad195.block, ad195.off + 1, none⟩ = some (.string (rdOf ByteArray.empty t192 1)) ∧ w'.cell? ⟨ad195.block, ad195.off + 2, none⟩ = some (.string (rdOf ByteArray.empty t192 2))) ∧ (Kd.R Kd.string 9 w' w.heap.size (fun _ => True) (.slice (some ad195) t192.length co26) t192) ∧ (w'.heap[gb191]? = some (.cells #[.int .i64 0, .int .i64 0, .int .i64 0] 23 (0, 0))) ∧ (w'.heap[s_]? = some (.cells #[.int .i64 0, .int .i64 0, .int .i64 0] 23 (0, 0))) ∧ (w.heap.size ≤ s_) ∧ (w.heap.size ≤ s_) ∧ (gb191 ≠ s_) ∧ (s_ ≠ gb191) ∧ (Below w.heap.size w w')) ?_ ?_
       rotate_left
       ·intro hCont
        refine two_ (i := 3) (j := 13) (Ni := some 15) (Nj := some 5) #[true, true, true, true, true, true, true, false, true, true, true, false, false, false, false] #[true, true, true, false, true, true, true, false, true, true, true, false, false, true, false] rfl rfl rfl rfl (two_of HT_.out (by kernel_rfl)) (by decide) (by decide) (fun K hK => ?_) (fun K hK => ?_)
        ·skip
         refine goes_ Tryz.func56 (by kernel_rfl) rfl #[.string (rdOf ByteArray.empty t192 0)] (by rfl) rfl rfl (by (try simp only [List.map_toArray, List.map_cons, List.map_nil]); first | done | rfl | (simp only [List.length_drop, List.length_take]; rfl)) ?_
         with_reducible refine (event_number.calls k (rdOf ByteArray.empty t192 0) t196 _ A5.out).mono ?_
         rintro e w' ⟨rfl, ⟨nd, rfl⟩⟩
         refine ⟨_, rfl, ?_⟩
         refine hK.out _ _ ⟨hHeld.1, hHeld.2.1, hHeld.2.2⟩ (fun hHeld => ?_)
         clear hK K
         refine normA ?_
         refine two_ (i := 7) (j := 13) (Ni := some 19) (Nj := some 5) #[true, true, true, true, true, true, true, true, true, true, true, false, false, false, false] #[true, true, true, true, true, true, true, false, true, true, true, false, false, true, false] rfl rfl rfl rfl (two_of HT_.out (by kernel_rfl)) (by decide) (by decide) (fun K hK => ?_) (fun K hK => ?_)
         ·skip
          refine goes_ Tryz.func56 (by kernel_rfl) rfl #[.string (rdOf ByteArray.empty t192 1)] (by rfl) rfl rfl (by (try simp only [List.map_toArray, List.map_cons, List.map_nil]); first | done | rfl | (simp only [List.length_drop, List.length_take]; rfl)) ?_
          with_reducible refine (event_number.calls k (rdOf ByteArray.empty t192 1) t198 _ A7.out).mono ?_
          rintro e w' ⟨rfl, ⟨nd, rfl⟩⟩
          refine ⟨_, rfl, ?_⟩
          refine hK.out _ _ ⟨hHeld.1, hHeld.2.1, hHeld.2.2⟩ (fun hHeld => ?_)
          clear hK K
          refine normA ?_
          refine two_ (i := 11) (j := 13) (Ni := some 23) (Nj := some 5) #[true, true, true, true, true, true, true, true, true, true, true, true, false, false, false] #[true, true, true, true, true, true, true, true, true, true, true, false, false, true, false] rfl rfl rfl rfl (two_of HT_.out (by kernel_rfl)) (by decide) (by decide) (fun K hK => ?_) (fun K hK => ?_)
          ·skip
           refine goes_ Tryz.func56 (by kernel_rfl) rfl #[.string (rdOf ByteArray.empty t192 2)] (by rfl) rfl rfl (by (try simp only [List.map_toArray, List.map_cons, List.map_nil]); first | done | rfl | (simp only [List.length_drop, List.length_take]; rfl)) ?_
           with_reducible refine (event_number.calls k (rdOf ByteArray.empty t192 2) t200 _ A9.out).mono ?_
           rintro e w' ⟨rfl, ⟨nd, rfl⟩⟩
           refine ⟨_, rfl, ?_⟩
           refine hK.out _ _ ⟨hHeld.1, hHeld.2.1, hHeld.2.2⟩ (fun hHeld => ?_)
           clear hK K
           refine normA ?_
           refine pureA 12 (some 24) (mkB 15 8191) ?_
           refine oneA 13 (some 5) (mkB 15 16383) (fun K hK => ?_)
           refine box_step ?hg (N := 5) ?hd (cs := #[.int .i64 0, .int .i64 0, .int .i64 0]) (t := 23) ?hr ?_; (case hd => rfl); (case hg => rfl); (case hr => first | (go_simp; done) | (go_simp; rfl))
           intro gb201 hg w28 hbox hb
           have HS0_ := (hb.cell (World.block_lt_of_cell? _ _ (hHeld.1))).trans (hHeld.1)
           have HS1_ := (hb.cell (World.block_lt_of_cell? _ _ (hHeld.2.1))).trans (hHeld.2.1)
           have HS2_ := (hb.cell (World.block_lt_of_cell? _ _ (hHeld.2.2))).trans (hHeld.2.2)
           have n0_ := Aside0.mk (Kd.R_below (by (with_reducible repeat (first | apply Kd.R_alloc | apply Kd.R_drewN | apply Kd.R_drew)); exact HO194.out) hb)
           have n1_ := Aside0.mk (blk_below (g := gb191) (o := .cells #[.int .i64 0, .int .i64 0, .int .i64 0] 23 (0, 0)) blkA hb)
           have n2_ := Aside0.mk (below_step (bwA) hb)
           have n3_ := Aside0.mk (hbox)
           have n4_ := Aside0.mk ((by rw [hg]; exact (below_size (bwA)) : w.heap.size ≤ gb201))
           have n5_ := Aside0.mk ((by rw [hg]; exact (below_size (bwA)) : w.heap.size ≤ gb201))
           have n6_ := Aside0.mk ((by rw [hg]; exact Nat.ne_of_lt (blk_lt (g := gb191) (o := .cells #[.int .i64 0, .int .i64 0, .int .i64 0] 23 (0, 0)) blkA) : gb191 ≠ gb201))
           have n7_ := Aside0.mk ((by rw [hg]; exact Nat.ne_of_gt (blk_lt (g := gb191) (o := .cells #[.int .i64 0, .int .i64 0, .int .i64 0] 23 (0, 0)) blkA) : gb201 ≠ gb191))
           clear HO194
           clear BK191
           clear HB
           have HO194 := n0_
           have BK191 := n1_
           have HB := n2_
           have BK201 := n3_
           have GW201 := n4_
           have GE201 := n5_
           have NB191_201 := n6_
           have NB201_191 := n7_
           clear n0_ n1_ n2_ n3_ n4_ n5_ n6_ n7_
           clear hb hbox hg
           refine hK.out _ _ ⟨HS0_, HS1_, HS2_⟩ (fun hHeld => ?_)
           clear hK K
           refine normA ?_
           exact norm_ (by first | (simp only [putAll, Act.put, List.setIfInBounds_toArray, List.set_cons_zero, List.set_cons_succ]; done) | rfl) (hCont (gb201) _ ⟨hHeld, (by (with_reducible repeat (first | apply Kd.R_alloc | apply Kd.R_drewN | apply Kd.R_drew)); exact HO194.out), blkA, blkA, GW201.out, GE201.out, NB191_201.out, NB201_191.out, (bwA)⟩)
          ·skip
           refine box_step ?hg (N := 5) ?hd (cs := #[.int .i64 0, .int .i64 0, .int .i64 0]) (t := 23) ?hr ?_; (case hd => rfl); (case hg => rfl); (case hr => first | (go_simp; done) | (go_simp; rfl))
           intro gb201 hg w28 hbox hb
           have HS0_ := (hb.cell (World.block_lt_of_cell? _ _ (hHeld.1))).trans (hHeld.1)
           have HS1_ := (hb.cell (World.block_lt_of_cell? _ _ (hHeld.2.1))).trans (hHeld.2.1)
           have HS2_ := (hb.cell (World.block_lt_of_cell? _ _ (hHeld.2.2))).trans (hHeld.2.2)
           have n0_ := Aside0.mk (Kd.R_below (by (with_reducible repeat (first | apply Kd.R_alloc | apply Kd.R_drewN | apply Kd.R_drew)); exact HO194.out) hb)
           have n1_ := Aside0.mk (blk_below (g := gb191) (o := .cells #[.int .i64 0, .int .i64 0, .int .i64 0] 23 (0, 0)) blkA hb)
           have n2_ := Aside0.mk (below_step (bwA) hb)
           have n3_ := Aside0.mk (hbox)
           have n4_ := Aside0.mk ((by rw [hg]; exact (below_size (bwA)) : w.heap.size ≤ gb201))
           have n5_ := Aside0.mk ((by rw [hg]; exact (below_size (bwA)) : w.heap.size ≤ gb201))
           have n6_ := Aside0.mk ((by rw [hg]; exact Nat.ne_of_lt (blk_lt (g := gb191) (o := .cells #[.int .i64 0, .int .i64 0, .int .i64 0] 23 (0, 0)) blkA) : gb191 ≠ gb201))
           have n7_ := Aside0.mk ((by rw [hg]; exact Nat.ne_of_gt (blk_lt (g := gb191) (o := .cells #[.int .i64 0, .int .i64 0, .int .i64 0] 23 (0, 0)) blkA) : gb201 ≠ gb191))
           clear HO194
           clear BK191
           clear HB
           have HO194 := n0_
           have BK191 := n1_
           have HB := n2_
           have BK201 := n3_
           have GW201 := n4_
           have GE201 := n5_
           have NB191_201 := n6_
           have NB201_191 := n7_
           clear n0_ n1_ n2_ n3_ n4_ n5_ n6_ n7_
           clear hb hbox hg
           refine hK.out _ _ ⟨HS0_, HS1_, HS2_⟩ (fun hHeld => ?_)
           clear hK K
           refine normA ?_
           refine oneA 11 (some 23) (mkB 15 12287) (fun K hK => ?_)
           refine goes_ Tryz.func56 (by kernel_rfl) rfl #[.string (rdOf ByteArray.empty t192 2)] (by rfl) rfl rfl (by (try simp only [List.map_toArray, List.map_cons, List.map_nil]); first | done | rfl | (simp only [List.length_drop, List.length_take]; rfl)) ?_
           with_reducible refine (event_number.calls k (rdOf ByteArray.empty t192 2) t200 _ A9.out).mono ?_
           rintro e w' ⟨rfl, ⟨nd, rfl⟩⟩
           refine ⟨_, rfl, ?_⟩
           refine hK.out _ _ ⟨hHeld.1, hHeld.2.1, hHeld.2.2⟩ (fun hHeld => ?_)
           clear hK K
           refine normA ?_
           refine pureA 12 (some 24) (mkB 15 16383) ?_
           exact norm_ (by first | (simp only [putAll, Act.put, List.setIfInBounds_toArray, List.set_cons_zero, List.set_cons_succ]; done) | rfl) (hCont (gb201) _ ⟨hHeld, (by (with_reducible repeat (first | apply Kd.R_alloc | apply Kd.R_drewN | apply Kd.R_drew)); exact HO194.out), blkA, blkA, GW201.out, GE201.out, NB191_201.out, NB201_191.out, (bwA)⟩)
         ·skip
          refine box_step ?hg (N := 5) ?hd (cs := #[.int .i64 0, .int .i64 0, .int .i64 0]) (t := 23) ?hr ?_; (case hd => rfl); (case hg => rfl); (case hr => first | (go_simp; done) | (go_simp; rfl))
          intro gb201 hg w28 hbox hb
          have HS0_ := (hb.cell (World.block_lt_of_cell? _ _ (hHeld.1))).trans (hHeld.1)
          have HS1_ := (hb.cell (World.block_lt_of_cell? _ _ (hHeld.2.1))).trans (hHeld.2.1)
          have HS2_ := (hb.cell (World.block_lt_of_cell? _ _ (hHeld.2.2))).trans (hHeld.2.2)
          have n0_ := Aside0.mk (Kd.R_below (by (with_reducible repeat (first | apply Kd.R_alloc | apply Kd.R_drewN | apply Kd.R_drew)); exact HO194.out) hb)
          have n1_ := Aside0.mk (blk_below (g := gb191) (o := .cells #[.int .i64 0, .int .i64 0, .int .i64 0] 23 (0, 0)) blkA hb)
          have n2_ := Aside0.mk (below_step (bwA) hb)
          have n3_ := Aside0.mk (hbox)
          have n4_ := Aside0.mk ((by rw [hg]; exact (below_size (bwA)) : w.heap.size ≤ gb201))
          have n5_ := Aside0.mk ((by rw [hg]; exact (below_size (bwA)) : w.heap.size ≤ gb201))
          have n6_ := Aside0.mk ((by rw [hg]; exact Nat.ne_of_lt (blk_lt (g := gb191) (o := .cells #[.int .i64 0, .int .i64 0, .int .i64 0] 23 (0, 0)) blkA) : gb191 ≠ gb201))
          have n7_ := Aside0.mk ((by rw [hg]; exact Nat.ne_of_gt (blk_lt (g := gb191) (o := .cells #[.int .i64 0, .int .i64 0, .int .i64 0] 23 (0, 0)) blkA) : gb201 ≠ gb191))
          clear HO194
          clear BK191
          clear HB
          have HO194 := n0_
          have BK191 := n1_
          have HB := n2_
          have BK201 := n3_
          have GW201 := n4_
          have GE201 := n5_
          have NB191_201 := n6_
          have NB201_191 := n7_
          clear n0_ n1_ n2_ n3_ n4_ n5_ n6_ n7_
          clear hb hbox hg
          refine hK.out _ _ ⟨HS0_, HS1_, HS2_⟩ (fun hHeld => ?_)
          clear hK K
          refine normA ?_
          refine oneA 7 (some 19) (mkB 15 10239) (fun K hK => ?_)
          refine goes_ Tryz.func56 (by kernel_rfl) rfl #[.string (rdOf ByteArray.empty t192 1)] (by rfl) rfl rfl (by (try simp only [List.map_toArray, List.map_cons, List.map_nil]); first | done | rfl | (simp only [List.length_drop, List.length_take]; rfl)) ?_
          with_reducible refine (event_number.calls k (rdOf ByteArray.empty t192 1) t198 _ A7.out).mono ?_
          rintro e w' ⟨rfl, ⟨nd, rfl⟩⟩
          refine ⟨_, rfl, ?_⟩
          refine hK.out _ _ ⟨hHeld.1, hHeld.2.1, hHeld.2.2⟩ (fun hHeld => ?_)
          clear hK K
          refine normA ?_
          refine oneA 11 (some 23) (mkB 15 12287) (fun K hK => ?_)
          refine goes_ Tryz.func56 (by kernel_rfl) rfl #[.string (rdOf ByteArray.empty t192 2)] (by rfl) rfl rfl (by (try simp only [List.map_toArray, List.map_cons, List.map_nil]); first | done | rfl | (simp only [List.length_drop, List.length_take]; rfl)) ?_
          with_reducible refine (event_number.calls k (rdOf ByteArray.empty t192 2) t200 _ A9.out).mono ?_
          rintro e w' ⟨rfl, ⟨nd, rfl⟩⟩
          refine ⟨_, rfl, ?_⟩
          refine hK.out _ _ ⟨hHeld.1, hHeld.2.1, hHeld.2.2⟩ (fun hHeld => ?_)
          clear hK K
          refine normA ?_
          refine pureA 12 (some 24) (mkB 15 16383) ?_
          exact norm_ (by first | (simp only [putAll, Act.put, List.setIfInBounds_toArray, List.set_cons_zero, List.set_cons_succ]; done) | rfl) (hCont (gb201) _ ⟨hHeld, (by (with_reducible repeat (first | apply Kd.R_alloc | apply Kd.R_drewN | apply Kd.R_drew)); exact HO194.out), blkA, blkA, GW201.out, GE201.out, NB191_201.out, NB201_191.out, (bwA)⟩)
        ·skip
         refine box_step ?hg (N := 5) ?hd (cs := #[.int .i64 0, .int .i64 0, .int .i64 0]) (t := 23) ?hr ?_; (case hd => rfl); (case hg => rfl); (case hr => first | (go_simp; done) | (go_simp; rfl))
         intro gb201 hg w28 hbox hb
         have HS0_ := (hb.cell (World.block_lt_of_cell? _ _ (hHeld.1))).trans (hHeld.1)
         have HS1_ := (hb.cell (World.block_lt_of_cell? _ _ (hHeld.2.1))).trans (hHeld.2.1)
         have HS2_ := (hb.cell (World.block_lt_of_cell? _ _ (hHeld.2.2))).trans (hHeld.2.2)
         have n0_ := Aside0.mk (Kd.R_below (by (with_reducible repeat (first | apply Kd.R_alloc | apply Kd.R_drewN | apply Kd.R_drew)); exact HO194.out) hb)
         have n1_ := Aside0.mk (blk_below (g := gb191) (o := .cells #[.int .i64 0, .int .i64 0, .int .i64 0] 23 (0, 0)) blkA hb)
         have n2_ := Aside0.mk (below_step (bwA) hb)
         have n3_ := Aside0.mk (hbox)
         have n4_ := Aside0.mk ((by rw [hg]; exact (below_size (bwA)) : w.heap.size ≤ gb201))
         have n5_ := Aside0.mk ((by rw [hg]; exact (below_size (bwA)) : w.heap.size ≤ gb201))
         have n6_ := Aside0.mk ((by rw [hg]; exact Nat.ne_of_lt (blk_lt (g := gb191) (o := .cells #[.int .i64 0, .int .i64 0, .int .i64 0] 23 (0, 0)) blkA) : gb191 ≠ gb201))
         have n7_ := Aside0.mk ((by rw [hg]; exact Nat.ne_of_gt (blk_lt (g := gb191) (o := .cells #[.int .i64 0, .int .i64 0, .int .i64 0] 23 (0, 0)) blkA) : gb201 ≠ gb191))
         clear HO194
         clear BK191
         clear HB
         have HO194 := n0_
         have BK191 := n1_
         have HB := n2_
         have BK201 := n3_
         have GW201 := n4_
         have GE201 := n5_
         have NB191_201 := n6_
         have NB201_191 := n7_
         clear n0_ n1_ n2_ n3_ n4_ n5_ n6_ n7_
         clear hb hbox hg
         refine hK.out _ _ ⟨HS0_, HS1_, HS2_⟩ (fun hHeld => ?_)
         clear hK K
         refine normA ?_
         refine oneA 3 (some 15) (mkB 15 10111) (fun K hK => ?_)
         refine goes_ Tryz.func56 (by kernel_rfl) rfl #[.string (rdOf ByteArray.empty t192 0)] (by rfl) rfl rfl (by (try simp only [List.map_toArray, List.map_cons, List.map_nil]); first | done | rfl | (simp only [List.length_drop, List.length_take]; rfl)) ?_
         with_reducible refine (event_number.calls k (rdOf ByteArray.empty t192 0) t196 _ A5.out).mono ?_
         rintro e w' ⟨rfl, ⟨nd, rfl⟩⟩
         refine ⟨_, rfl, ?_⟩
         refine hK.out _ _ ⟨hHeld.1, hHeld.2.1, hHeld.2.2⟩ (fun hHeld => ?_)
         clear hK K
         refine normA ?_
         refine oneA 7 (some 19) (mkB 15 10239) (fun K hK => ?_)
         refine goes_ Tryz.func56 (by kernel_rfl) rfl #[.string (rdOf ByteArray.empty t192 1)] (by rfl) rfl rfl (by (try simp only [List.map_toArray, List.map_cons, List.map_nil]); first | done | rfl | (simp only [List.length_drop, List.length_take]; rfl)) ?_
         with_reducible refine (event_number.calls k (rdOf ByteArray.empty t192 1) t198 _ A7.out).mono ?_
         rintro e w' ⟨rfl, ⟨nd, rfl⟩⟩
         refine ⟨_, rfl, ?_⟩
         refine hK.out _ _ ⟨hHeld.1, hHeld.2.1, hHeld.2.2⟩ (fun hHeld => ?_)
         clear hK K
         refine normA ?_
         refine oneA 11 (some 23) (mkB 15 12287) (fun K hK => ?_)
         refine goes_ Tryz.func56 (by kernel_rfl) rfl #[.string (rdOf ByteArray.empty t192 2)] (by rfl) rfl rfl (by (try simp only [List.map_toArray, List.map_cons, List.map_nil]); first | done | rfl | (simp only [List.length_drop, List.length_take]; rfl)) ?_
         with_reducible refine (event_number.calls k (rdOf ByteArray.empty t192 2) t200 _ A9.out).mono ?_
         rintro e w' ⟨rfl, ⟨nd, rfl⟩⟩
         refine ⟨_, rfl, ?_⟩
         refine hK.out _ _ ⟨hHeld.1, hHeld.2.1, hHeld.2.2⟩ (fun hHeld => ?_)
         clear hK K
         refine normA ?_
         refine pureA 12 (some 24) (mkB 15 16383) ?_
         exact norm_ (by first | (simp only [putAll, Act.put, List.setIfInBounds_toArray, List.set_cons_zero, List.set_cons_succ]; done) | rfl) (hCont (gb201) _ ⟨hHeld, (by (with_reducible repeat (first | apply Kd.R_alloc | apply Kd.R_drewN | apply Kd.R_drew)); exact HO194.out), blkA, blkA, GW201.out, GE201.out, NB191_201.out, NB201_191.out, (bwA)⟩)
       rintro gb201 w29 ⟨hS_, h0_, h1_, h2_, h3_, h4_, h5_, h6_, h7_⟩
       have n0_ : Aside0 (Kd.R Kd.string 9 w29 w.heap.size (fun _ => True) (.slice (some ad195) t192.length co26) t192) := ⟨h0_⟩
       have n1_ : Aside0 (w29.heap[gb191]? = some (.cells #[.int .i64 0, .int .i64 0, .int .i64 0] 23 (0, 0))) := ⟨h1_⟩
       have n2_ : Aside0 (w29.heap[gb201]? = some (.cells #[.int .i64 0, .int .i64 0, .int .i64 0] 23 (0, 0))) := ⟨h2_⟩
       have n3_ : Aside0 (w.heap.size ≤ gb201) := ⟨h3_⟩
       have n4_ : Aside0 (w.heap.size ≤ gb201) := ⟨h4_⟩
       have n5_ : Aside0 (gb191 ≠ gb201) := ⟨h5_⟩
       have n6_ : Aside0 (gb201 ≠ gb191) := ⟨h6_⟩
       have n7_ : Aside0 (Below w.heap.size w w29) := ⟨h7_⟩
       clear HO194
       clear BK191
       clear HB
       clear h0_ h1_ h2_ h3_ h4_ h5_ h6_ h7_
       have HO194 := n0_
       have BK191 := n1_
       have BK201 := n2_
       have GW201 := n3_
       have GE201 := n4_
       have NB191_201 := n5_
       have NB201_191 := n6_
       have HB := n7_
       clear n0_ n1_ n2_ n3_ n4_ n5_ n6_ n7_
       have hHeld : w29.cell? ad195 = some (.string (rdOf ByteArray.empty t192 0)) ∧ w29.cell? ⟨ad195.block, ad195.off + 1, none⟩ = some (.string (rdOf ByteArray.empty t192 1)) ∧ w29.cell? ⟨ad195.block, ad195.off + 2, none⟩ = some (.string (rdOf ByteArray.empty t192 2)) := hS_
       refine norm_ (a' := ?_) ?_ ?_
       rotate_left
       ·simp only [putAll, Act.put, List.setIfInBounds_toArray, List.set_cons_zero, List.set_cons_succ]
        rfl
       refine oneA 14 (none) (mkB 15 32767) (fun K hK => ?_)
       have hs30 : w29.cell? ⟨gb201, 0, none⟩ = some (.int .i64 0) := (blk_cell BK201.out 0).trans rfl
       have hfs30 := blk_frozen BK201.out 0
       have hns30_0 := NB191_201.out
       have hms30_0 := NB201_191.out
       have hs31 : w29.cell? ⟨gb201, 1, none⟩ = some (.int .i64 0) := (blk_cell BK201.out 1).trans rfl
       have hfs31 := blk_frozen BK201.out 1
       have hns31_0 := NB191_201.out
       have hms31_0 := NB201_191.out
       have hs32 : w29.cell? ⟨gb201, 2, none⟩ = some (.int .i64 0) := (blk_cell BK201.out 2).trans rfl
       have hfs32 := blk_frozen BK201.out 2
       have hns32_0 := NB191_201.out
       have hms32_0 := NB201_191.out
       refine skip_ (w1 := ?_) (by rfl) rfl ?_ ?_
       rotate_left
       ·go_simp
        rfl
       have nz0_ := Aside0.mk (Kd.own_blk (Kd.R_ne HO194.out BK201.out (by decide)))
       refine hK.out _ _ ⟨far3 nz0_.out hHeld.1, far3 nz0_.out hHeld.2.1, far3 nz0_.out hHeld.2.2⟩ (fun hHeld => ?_)
       clear hK K
       refine done_ (done_of HT_.out (by kernel_rfl)) ?_
       have hnb33 := NB201_191.out
       have hnc33 := NB191_201.out
       have hcz34_0 : w29.cell? ⟨gb201, 0, none⟩ = some (.int .i64 0) := (blk_cell BK201.out 0).trans rfl
       have hcz34_1 : w29.cell? ⟨gb201, 1, none⟩ = some (.int .i64 0) := (blk_cell BK201.out 1).trans rfl
       have hcz34_2 : w29.cell? ⟨gb201, 2, none⟩ = some (.int .i64 0) := (blk_cell BK201.out 2).trans rfl
       have hfz34_0 := blk_frozen BK201.out 0
       have hfz34_1 := blk_frozen BK201.out 1
       have hfz34_2 := blk_frozen BK201.out 2
       try go_wp2_with (first | (go_at_call 20; (with_reducible refine (event_ShowID.calls t196 t198 t200 t202 _ ?side1 A22.out).mono ?_); (case side1 => exact Tabs.below HT.out (bwA)); rintro e w35 ⟨rfl, hb⟩; have n0_ := Aside0.mk (Kd.R_below (by (with_reducible repeat (first | apply Kd.R_alloc | apply Kd.R_drewN | apply Kd.R_drew)); exact (Kd.R_mono (Kd.R_far (p := ⟨gb201, 2, none⟩) (Kd.R_far (p := ⟨gb201, 1, none⟩) (Kd.R_far (p := ⟨gb201, 0, none⟩) (Kd.R_types HO194.out BK201.out (by decide)) (fun _ hk => hk.2) (.int .i64 t196)) (fun _ hk => hk.2) (.int .i64 t198)) (fun _ hk => hk.2) (.int .i64 t200)) (fun _ h_ => h_.1))) hb); have n1_ := Aside0.mk (blk_below (g := gb191) (o := .cells #[.int .i64 0, .int .i64 0, .int .i64 0] 23 (0, 0)) (by (with_reducible repeat (first | refine blk_drewN ?_ _ | refine blk_drew ?_ | refine blk_alloc ?_ _)); refine blk_far ?_ NB191_201.out _; (with_reducible repeat (first | refine blk_drewN ?_ _ | refine blk_drew ?_ | refine blk_alloc ?_ _)); refine blk_far ?_ NB191_201.out _; (with_reducible repeat (first | refine blk_drewN ?_ _ | refine blk_drew ?_ | refine blk_alloc ?_ _)); refine blk_far ?_ NB191_201.out _; (with_reducible repeat (first | refine blk_drewN ?_ _ | refine blk_drew ?_ | refine blk_alloc ?_ _)); exact BK191.out) hb); have n2_ := Aside0.mk (blk_below (g := gb201) (o := .cells #[.int .i64 t196, .int .i64 t198, .int .i64 t200] 23 (0, 0)) (by (with_reducible repeat (first | refine blk_drewN ?_ _ | refine blk_drew ?_ | refine blk_alloc ?_ _)); refine blk_put (cs := #[.int .i64 t196, .int .i64 t198, .int .i64 0]) ?_ 2 _ rfl; (with_reducible repeat (first | refine blk_drewN ?_ _ | refine blk_drew ?_ | refine blk_alloc ?_ _)); refine blk_put (cs := #[.int .i64 t196, .int .i64 0, .int .i64 0]) ?_ 1 _ rfl; (with_reducible repeat (first | refine blk_drewN ?_ _ | refine blk_drew ?_ | refine blk_alloc ?_ _)); refine blk_put (cs := #[.int .i64 0, .int .i64 0, .int .i64 0]) ?_ 0 _ rfl; (with_reducible repeat (first | refine blk_drewN ?_ _ | refine blk_drew ?_ | refine blk_alloc ?_ _)); exact BK201.out) hb); have n3_ := Aside0.mk (below_step (bwA) hb); clear HO194; clear BK191; clear BK201; clear HB; have HO194 := n0_; have BK191 := n1_; have BK201 := n2_; have HB := n3_; clear n0_ n1_ n2_ n3_; (try clear hb); (try clear hb2); (try clear hk); (try clear hi); have hcz36_0 : w35.cell? ⟨gb201, 0, none⟩ = some (.int .i64 t196) := (blk_cell BK201.out 0).trans rfl; have hcz36_1 : w35.cell? ⟨gb201, 1, none⟩ = some (.int .i64 t198) := (blk_cell BK201.out 1).trans rfl; have hcz36_2 : w35.cell? ⟨gb201, 2, none⟩ = some (.int .i64 t200) := (blk_cell BK201.out 2).trans rfl; have hfz36_0 := blk_frozen BK201.out 0; have hfz36_1 := blk_frozen BK201.out 1; have hfz36_2 := blk_frozen BK201.out 2; have hcz37_0 : w35.cell? ⟨gb191, 0, none⟩ = some (.int .i64 0) := (blk_cell BK191.out 0).trans rfl; have hcz37_1 : w35.cell? ⟨gb191, 1, none⟩ = some (.int .i64 0) := (blk_cell BK191.out 1).trans rfl; have hcz37_2 : w35.cell? ⟨gb191, 2, none⟩ = some (.int .i64 0) := (blk_cell BK191.out 2).trans rfl; have hfz37_0 := blk_frozen BK191.out 0; have hfz37_1 := blk_frozen BK191.out 1; have hfz37_2 := blk_frozen BK191.out 2))
       refine bodyPost_ret (results_ct rfl _ _ gb191 23 #[.int .i64 t196, .int .i64 t198, .int .i64 t200] (0, 0) _ rfl (by (with_reducible repeat (first | refine blk_drewN ?_ _ | refine blk_drew ?_ | refine blk_alloc ?_ _)); refine blk_put (cs := #[.int .i64 t196, .int .i64 t198, .int .i64 0]) ?_ 2 _ rfl; (with_reducible repeat (first | refine blk_drewN ?_ _ | refine blk_drew ?_ | refine blk_alloc ?_ _)); refine blk_put (cs := #[.int .i64 t196, .int .i64 0, .int .i64 0]) ?_ 1 _ rfl; (with_reducible repeat (first | refine blk_drewN ?_ _ | refine blk_drew ?_ | refine blk_alloc ?_ _)); refine blk_put (cs := #[.int .i64 0, .int .i64 0, .int .i64 0]) ?_ 0 _ rfl; (with_reducible repeat (first | refine blk_drewN ?_ _ | refine blk_drew ?_ | refine blk_alloc ?_ _)); exact BK191.out) Tryz.underlying23 rfl (by kernel_rfl)) rfl ?_
       exact ⟨endA, bwA⟩
      ·rw [if_neg c23] at H
       have c23b0 : (t202.toList == a0.toList) = false := beq_eq_false_iff_ne.mpr c23
       have c23b1 : (t202.toList != a0.toList) = true := bne_iff_ne.mpr c23
       simp only [Option.some.injEq, Prod.mk.injEq] at H
       obtain ⟨rfl, rfl, rfl, rfl⟩ := H
       go_enter Tryz.func24, Tryz.ntmps24
       try go_wp2_with (first | ((with_reducible refine gate_dst (N := 2) rfl ?_); refine box_event ?hg (N := 2) ?hd (cs := #[.int .i64 0, .int .i64 0, .int .i64 0]) (t := 23) ?hr ?_; (case hd => rfl); (case hg => rfl); (case hr => first | (go_simp; done) | (go_simp; rfl)); intro gb191 hg w38 hbox hb; have n0_ := Aside0.mk (below_step (bwA) hb); have n1_ := Aside0.mk (hbox); have n2_ := Aside0.mk ((by rw [hg]; exact (below_size (bwA)) : w.heap.size ≤ gb191)); have n3_ := Aside0.mk ((by rw [hg]; exact (below_size (bwA)) : w.heap.size ≤ gb191)); clear HB; have HB := n0_; have BK191 := n1_; have GW191 := n2_; have GE191 := n3_; clear n0_ n1_ n2_ n3_; clear hb hbox hg) | ((with_reducible refine gate_callee (f := 55) rfl ?_); refine goesA (some 7) Tryz.func55 #[.string a0, .string (⟨#[46]⟩ : ByteArray)] ?_; (with_reducible refine (strings_Split.calls a0 (⟨#[46]⟩ : ByteArray) t192 _ ?side1 A2.out).mono ?_); (case side1 => exact Tabs.below HT.out (bwA)); rintro e w39 ⟨v193, rfl, ho0, hb⟩; refine ⟨_, rfl, ?_⟩; have n0_ := Aside0.mk (Kd.R_lower ho0 (below_size (bwA))); have n1_ := Aside0.mk (blk_below (g := gb191) (o := .cells #[.int .i64 0, .int .i64 0, .int .i64 0] 23 (0, 0)) blkA hb); have n2_ := Aside0.mk (below_step (bwA) hb); clear BK191; clear HB; have HO194 := n0_; have BK191 := n1_; have HB := n2_; clear n0_ n1_ n2_; (try clear hb); (try clear hb2); (try clear hk); (try clear hi); (try clear ho0); obtain ⟨Ao40, co40, eo40⟩ := Kd.R_slice HO194.out; subst eo40))
       have n0_ := Aside0.mk (Kd.R_drew HO194.out)
       have n1_ := Aside0.mk (blk_drew BK191.out)
       have n2_ := Aside0.mk (below_drew1 HB.out)
       clear HO194
       clear BK191
       clear HB
       have HO194 := n0_
       have BK191 := n1_
       have HB := n2_
       clear n0_ n1_ n2_
       have p195 : 0 ≤ (0 : Int) := (by omega)
       have q195 : 0 < (t192.length : Int) := odA
       obtain ⟨ad195, e195, hx195_0⟩ := Kd.at_string (Kd.R_reads' HO194.out).2.2 0 p195 q195
       cases e195
       have qi195 : (0 < t192.length) = True := eq_true (by omega)
       (try rw [show ((0 : Int)).toNat = 0 from rfl] at hx195_0)
       (try rw [Addr.add_zero'] at hx195_0)
       replace p195 := eq_true p195
       replace q195 := eq_true q195
       have p197 : 0 ≤ (1 : Int) := (by omega)
       have q197 : 1 < (t192.length : Int) := odA
       obtain ⟨ad197, e197, hx197_0⟩ := Kd.at_string (Kd.R_reads' HO194.out).2.2 1 p197 q197
       obtain rfl : ad195 = ad197 := (by injection e197)
       (try simp only [show (1 : Int).toNat = 1 from rfl, Nat.reduceMul, Nat.reduceEqDiff, Go.Addr.add, ↓reduceIte] at hx197_0)
       have qi197 : (1 < t192.length) = True := eq_true (by omega)
       (try rw [show ((1 : Int)).toNat = 1 from rfl] at hx197_0)
       replace p197 := eq_true p197
       replace q197 := eq_true q197
       have p199 : 0 ≤ (2 : Int) := (by omega)
       have q199 : 2 < (t192.length : Int) := odA
       obtain ⟨ad199, e199, hx199_0⟩ := Kd.at_string (Kd.R_reads' HO194.out).2.2 2 p199 q199
       obtain rfl : ad195 = ad199 := (by injection e199)
       (try simp only [show (2 : Int).toNat = 2 from rfl, Nat.reduceMul, Nat.reduceEqDiff, Go.Addr.add, ↓reduceIte] at hx199_0)
       have qi199 : (2 < t192.length) = True := eq_true (by omega)
       (try rw [show ((2 : Int)).toNat = 2 from rfl] at hx199_0)
       replace p199 := eq_true p199
       replace q199 := eq_true q199
       refine start_ (n := 15) (S := fun w' => w'.cell? ad195 = some (.string (rdOf ByteArray.empty t192 0)) ∧ w'.cell? ⟨ad195.block, ad195.off + 1, none⟩ = some (.string (rdOf ByteArray.empty t192 1)) ∧ w'.cell? ⟨ad195.block, ad195.off + 2, none⟩ = some (.string (rdOf ByteArray.empty t192 2))) (ds := []) (mkB 15 0) (by kernel_rfl) rfl rfl ⟨hx195_0, hx197_0, hx199_0⟩ (fun hHeld => ?_); refine with_tabW event_ParseID.tab4 event_ParseID.bits4 (fun HT_ HW_ => ?_)
       generalize w39.drew = w41 at HO194 BK191 HB hx195_0 hx197_0 hx199_0 hHeld ⊢
       refine pureA 0 (some 12) (mkB 15 1) ?_
       refine pureA 1 (some 13) (mkB 15 3) ?_
       refine pureA 4 (some 16) (mkB 15 19) ?_
       refine pureA 5 (some 17) (mkB 15 51) ?_
       refine pureA 8 (some 20) (mkB 15 307) ?_
       refine pureA 9 (some 21) (mkB 15 819) ?_
       refine takeA 2 (some 14) (mkB 15 823) ?_ rfl (Or.inl ⟨by rfl, by rintro w' ⟨s0, s1, s2⟩; go_simp; with_reducible rfl⟩)
       refine takeA 6 (some 18) (mkB 15 887) ?_ rfl (Or.inl ⟨by rfl, by rintro w' ⟨s0, s1, s2⟩; go_simp; with_reducible rfl⟩)
       refine takeA 10 (some 22) (mkB 15 1911) ?_ rfl (Or.inl ⟨by rfl, by rintro w' ⟨s0, s1, s2⟩; go_simp; with_reducible rfl⟩)
       refine join_ (σ := Nat) 1 #[true, true, true, true, true, true, true, true, true, true, true, true, true, true, false] (fun s_ => [(15, .int .i64 t196), (19, .int .i64 t198), (23, .int .i64 t200), (5, .pointer (some ⟨s_, 0, none⟩)), (24, .agg #[.int .i64 t196, .int .i64 t198, .int .i64 t200])]) (fun s_ w' => (w'.cell? ad195 = some (.string (rdOf ByteArray.empty t192 0)) ∧ w'.cell? ⟨ad195.block, ad195.off + 1, none⟩ = some (.string (rdOf ByteArray.empty t192 1)) ∧ w'.cell? ⟨ad195.block, ad195.off + 2, none⟩ = some (.string (rdOf ByteArray.empty t192 2))) ∧ (Kd.R Kd.string 9 w' w.heap.size (fun _ => True) (.slice (some ad195) t192.length co40) t192) ∧ (w'.heap[gb191]? = some (.cells #[.int .i64 0, .int .i64 0, .int .i64 0] 23 (0, 0))) ∧ (w'.heap[s_]? = some (.cells #[.int .i64 0, .int .i64 0, .int .i64 0] 23 (0, 0))) ∧ (w.heap.size ≤ s_) ∧ (w.heap.size ≤ s_) ∧ (gb191 ≠ s_) ∧ (s_ ≠ gb191) ∧ (Below w.heap.size w w')) ?_ ?_
       rotate_left
       ·intro hCont
        refine two_ (i := 3) (j := 13) (Ni := some 15) (Nj := some 5) #[true, true, true, true, true, true, true, false, true, true, true, false, false, false, false] #[true, true, true, false, true, true, true, false, true, true, true, false, false, true, false] rfl rfl rfl rfl (two_of HT_.out (by kernel_rfl)) (by decide) (by decide) (fun K hK => ?_) (fun K hK => ?_)
        ·skip
         refine goes_ Tryz.func56 (by kernel_rfl) rfl #[.string (rdOf ByteArray.empty t192 0)] (by rfl) rfl rfl (by (try simp only [List.map_toArray, List.map_cons, List.map_nil]); first | done | rfl | (simp only [List.length_drop, List.length_take]; rfl)) ?_
         with_reducible refine (event_number.calls k (rdOf ByteArray.empty t192 0) t196 _ A5.out).mono ?_
         rintro e w' ⟨rfl, ⟨nd, rfl⟩⟩
         refine ⟨_, rfl, ?_⟩
         refine hK.out _ _ ⟨hHeld.1, hHeld.2.1, hHeld.2.2⟩ (fun hHeld => ?_)
         clear hK K
         refine normA ?_
         refine two_ (i := 7) (j := 13) (Ni := some 19) (Nj := some 5) #[true, true, true, true, true, true, true, true, true, true, true, false, false, false, false] #[true, true, true, true, true, true, true, false, true, true, true, false, false, true, false] rfl rfl rfl rfl (two_of HT_.out (by kernel_rfl)) (by decide) (by decide) (fun K hK => ?_) (fun K hK => ?_)
         ·skip
          refine goes_ Tryz.func56 (by kernel_rfl) rfl #[.string (rdOf ByteArray.empty t192 1)] (by rfl) rfl rfl (by (try simp only [List.map_toArray, List.map_cons, List.map_nil]); first | done | rfl | (simp only [List.length_drop, List.length_take]; rfl)) ?_
          with_reducible refine (event_number.calls k (rdOf ByteArray.empty t192 1) t198 _ A7.out).mono ?_
          rintro e w' ⟨rfl, ⟨nd, rfl⟩⟩
          refine ⟨_, rfl, ?_⟩
          refine hK.out _ _ ⟨hHeld.1, hHeld.2.1, hHeld.2.2⟩ (fun hHeld => ?_)
          clear hK K
          refine normA ?_
          refine two_ (i := 11) (j := 13) (Ni := some 23) (Nj := some 5) #[true, true, true, true, true, true, true, true, true, true, true, true, false, false, false] #[true, true, true, true, true, true, true, true, true, true, true, false, false, true, false] rfl rfl rfl rfl (two_of HT_.out (by kernel_rfl)) (by decide) (by decide) (fun K hK => ?_) (fun K hK => ?_)
          ·skip
           refine goes_ Tryz.func56 (by kernel_rfl) rfl #[.string (rdOf ByteArray.empty t192 2)] (by rfl) rfl rfl (by (try simp only [List.map_toArray, List.map_cons, List.map_nil]); first | done | rfl | (simp only [List.length_drop, List.length_take]; rfl)) ?_
           with_reducible refine (event_number.calls k (rdOf ByteArray.empty t192 2) t200 _ A9.out).mono ?_
           rintro e w' ⟨rfl, ⟨nd, rfl⟩⟩
           refine ⟨_, rfl, ?_⟩
           refine hK.out _ _ ⟨hHeld.1, hHeld.2.1, hHeld.2.2⟩ (fun hHeld => ?_)
           clear hK K
           refine normA ?_
           refine pureA 12 (some 24) (mkB 15 8191) ?_
           refine oneA 13 (some 5) (mkB 15 16383) (fun K hK => ?_)
           refine box_step ?hg (N := 5) ?hd (cs := #[.int .i64 0, .int .i64 0, .int .i64 0]) (t := 23) ?hr ?_; (case hd => rfl); (case hg => rfl); (case hr => first | (go_simp; done) | (go_simp; rfl))
           intro gb201 hg w42 hbox hb
           have HS0_ := (hb.cell (World.block_lt_of_cell? _ _ (hHeld.1))).trans (hHeld.1)
           have HS1_ := (hb.cell (World.block_lt_of_cell? _ _ (hHeld.2.1))).trans (hHeld.2.1)
           have HS2_ := (hb.cell (World.block_lt_of_cell? _ _ (hHeld.2.2))).trans (hHeld.2.2)
           have n0_ := Aside0.mk (Kd.R_below (by (with_reducible repeat (first | apply Kd.R_alloc | apply Kd.R_drewN | apply Kd.R_drew)); exact HO194.out) hb)
           have n1_ := Aside0.mk (blk_below (g := gb191) (o := .cells #[.int .i64 0, .int .i64 0, .int .i64 0] 23 (0, 0)) blkA hb)
           have n2_ := Aside0.mk (below_step (bwA) hb)
           have n3_ := Aside0.mk (hbox)
           have n4_ := Aside0.mk ((by rw [hg]; exact (below_size (bwA)) : w.heap.size ≤ gb201))
           have n5_ := Aside0.mk ((by rw [hg]; exact (below_size (bwA)) : w.heap.size ≤ gb201))
           have n6_ := Aside0.mk ((by rw [hg]; exact Nat.ne_of_lt (blk_lt (g := gb191) (o := .cells #[.int .i64 0, .int .i64 0, .int .i64 0] 23 (0, 0)) blkA) : gb191 ≠ gb201))
           have n7_ := Aside0.mk ((by rw [hg]; exact Nat.ne_of_gt (blk_lt (g := gb191) (o := .cells #[.int .i64 0, .int .i64 0, .int .i64 0] 23 (0, 0)) blkA) : gb201 ≠ gb191))
           clear HO194
           clear BK191
           clear HB
           have HO194 := n0_
           have BK191 := n1_
           have HB := n2_
           have BK201 := n3_
           have GW201 := n4_
           have GE201 := n5_
           have NB191_201 := n6_
           have NB201_191 := n7_
           clear n0_ n1_ n2_ n3_ n4_ n5_ n6_ n7_
           clear hb hbox hg
           refine hK.out _ _ ⟨HS0_, HS1_, HS2_⟩ (fun hHeld => ?_)
           clear hK K
           refine normA ?_
           exact norm_ (by first | (simp only [putAll, Act.put, List.setIfInBounds_toArray, List.set_cons_zero, List.set_cons_succ]; done) | rfl) (hCont (gb201) _ ⟨hHeld, (by (with_reducible repeat (first | apply Kd.R_alloc | apply Kd.R_drewN | apply Kd.R_drew)); exact HO194.out), blkA, blkA, GW201.out, GE201.out, NB191_201.out, NB201_191.out, (bwA)⟩)
          ·skip
           refine box_step ?hg (N := 5) ?hd (cs := #[.int .i64 0, .int .i64 0, .int .i64 0]) (t := 23) ?hr ?_; (case hd => rfl); (case hg => rfl); (case hr => first | (go_simp; done) | (go_simp; rfl))
           intro gb201 hg w42 hbox hb
           have HS0_ := (hb.cell (World.block_lt_of_cell? _ _ (hHeld.1))).trans (hHeld.1)
           have HS1_ := (hb.cell (World.block_lt_of_cell? _ _ (hHeld.2.1))).trans (hHeld.2.1)
           have HS2_ := (hb.cell (World.block_lt_of_cell? _ _ (hHeld.2.2))).trans (hHeld.2.2)
           have n0_ := Aside0.mk (Kd.R_below (by (with_reducible repeat (first | apply Kd.R_alloc | apply Kd.R_drewN | apply Kd.R_drew)); exact HO194.out) hb)
           have n1_ := Aside0.mk (blk_below (g := gb191) (o := .cells #[.int .i64 0, .int .i64 0, .int .i64 0] 23 (0, 0)) blkA hb)
           have n2_ := Aside0.mk (below_step (bwA) hb)
           have n3_ := Aside0.mk (hbox)
           have n4_ := Aside0.mk ((by rw [hg]; exact (below_size (bwA)) : w.heap.size ≤ gb201))
           have n5_ := Aside0.mk ((by rw [hg]; exact (below_size (bwA)) : w.heap.size ≤ gb201))
           have n6_ := Aside0.mk ((by rw [hg]; exact Nat.ne_of_lt (blk_lt (g := gb191) (o := .cells #[.int .i64 0, .int .i64 0, .int .i64 0] 23 (0, 0)) blkA) : gb191 ≠ gb201))
           have n7_ := Aside0.mk ((by rw [hg]; exact Nat.ne_of_gt (blk_lt (g := gb191) (o := .cells #[.int .i64 0, .int .i64 0, .int .i64 0] 23 (0, 0)) blkA) : gb201 ≠ gb191))
           clear HO194
           clear BK191
           clear HB
           have HO194 := n0_
           have BK191 := n1_
           have HB := n2_
           have BK201 := n3_
           have GW201 := n4_
           have GE201 := n5_
           have NB191_201 := n6_
           have NB201_191 := n7_
           clear n0_ n1_ n2_ n3_ n4_ n5_ n6_ n7_
           clear hb hbox hg
           refine hK.out _ _ ⟨HS0_, HS1_, HS2_⟩ (fun hHeld => ?_)
           clear hK K
           refine normA ?_
           refine oneA 11 (some 23) (mkB 15 12287) (fun K hK => ?_)
           refine goes_ Tryz.func56 (by kernel_rfl) rfl #[.string (rdOf ByteArray.empty t192 2)] (by rfl) rfl rfl (by (try simp only [List.map_toArray, List.map_cons, List.map_nil]); first | done | rfl | (simp only [List.length_drop, List.length_take]; rfl)) ?_
           with_reducible refine (event_number.calls k (rdOf ByteArray.empty t192 2) t200 _ A9.out).mono ?_
           rintro e w' ⟨rfl, ⟨nd, rfl⟩⟩
           refine ⟨_, rfl, ?_⟩
           refine hK.out _ _ ⟨hHeld.1, hHeld.2.1, hHeld.2.2⟩ (fun hHeld => ?_)
           clear hK K
           refine normA ?_
           refine pureA 12 (some 24) (mkB 15 16383) ?_
           exact norm_ (by first | (simp only [putAll, Act.put, List.setIfInBounds_toArray, List.set_cons_zero, List.set_cons_succ]; done) | rfl) (hCont (gb201) _ ⟨hHeld, (by (with_reducible repeat (first | apply Kd.R_alloc | apply Kd.R_drewN | apply Kd.R_drew)); exact HO194.out), blkA, blkA, GW201.out, GE201.out, NB191_201.out, NB201_191.out, (bwA)⟩)
         ·skip
          refine box_step ?hg (N := 5) ?hd (cs := #[.int .i64 0, .int .i64 0, .int .i64 0]) (t := 23) ?hr ?_; (case hd => rfl); (case hg => rfl); (case hr => first | (go_simp; done) | (go_simp; rfl))
          intro gb201 hg w42 hbox hb
          have HS0_ := (hb.cell (World.block_lt_of_cell? _ _ (hHeld.1))).trans (hHeld.1)
          have HS1_ := (hb.cell (World.block_lt_of_cell? _ _ (hHeld.2.1))).trans (hHeld.2.1)
          have HS2_ := (hb.cell (World.block_lt_of_cell? _ _ (hHeld.2.2))).trans (hHeld.2.2)
          have n0_ := Aside0.mk (Kd.R_below (by (with_reducible repeat (first | apply Kd.R_alloc | apply Kd.R_drewN | apply Kd.R_drew)); exact HO194.out) hb)
          have n1_ := Aside0.mk (blk_below (g := gb191) (o := .cells #[.int .i64 0, .int .i64 0, .int .i64 0] 23 (0, 0)) blkA hb)
          have n2_ := Aside0.mk (below_step (bwA) hb)
          have n3_ := Aside0.mk (hbox)
          have n4_ := Aside0.mk ((by rw [hg]; exact (below_size (bwA)) : w.heap.size ≤ gb201))
          have n5_ := Aside0.mk ((by rw [hg]; exact (below_size (bwA)) : w.heap.size ≤ gb201))
          have n6_ := Aside0.mk ((by rw [hg]; exact Nat.ne_of_lt (blk_lt (g := gb191) (o := .cells #[.int .i64 0, .int .i64 0, .int .i64 0] 23 (0, 0)) blkA) : gb191 ≠ gb201))
          have n7_ := Aside0.mk ((by rw [hg]; exact Nat.ne_of_gt (blk_lt (g := gb191) (o := .cells #[.int .i64 0, .int .i64 0, .int .i64 0] 23 (0, 0)) blkA) : gb201 ≠ gb191))
          clear HO194
          clear BK191
          clear HB
          have HO194 := n0_
          have BK191 := n1_
          have HB := n2_
          have BK201 := n3_
          have GW201 := n4_
          have GE201 := n5_
          have NB191_201 := n6_
          have NB201_191 := n7_
          clear n0_ n1_ n2_ n3_ n4_ n5_ n6_ n7_
          clear hb hbox hg
          refine hK.out _ _ ⟨HS0_, HS1_, HS2_⟩ (fun hHeld => ?_)
          clear hK K
          refine normA ?_
          refine oneA 7 (some 19) (mkB 15 10239) (fun K hK => ?_)
          refine goes_ Tryz.func56 (by kernel_rfl) rfl #[.string (rdOf ByteArray.empty t192 1)] (by rfl) rfl rfl (by (try simp only [List.map_toArray, List.map_cons, List.map_nil]); first | done | rfl | (simp only [List.length_drop, List.length_take]; rfl)) ?_
          with_reducible refine (event_number.calls k (rdOf ByteArray.empty t192 1) t198 _ A7.out).mono ?_
          rintro e w' ⟨rfl, ⟨nd, rfl⟩⟩
          refine ⟨_, rfl, ?_⟩
          refine hK.out _ _ ⟨hHeld.1, hHeld.2.1, hHeld.2.2⟩ (fun hHeld => ?_)
          clear hK K
          refine normA ?_
          refine oneA 11 (some 23) (mkB 15 12287) (fun K hK => ?_)
          refine goes_ Tryz.func56 (by kernel_rfl) rfl #[.string (rdOf ByteArray.empty t192 2)] (by rfl) rfl rfl (by (try simp only [List.map_toArray, List.map_cons, List.map_nil]); first | done | rfl | (simp only [List.length_drop, List.length_take]; rfl)) ?_
          with_reducible refine (event_number.calls k (rdOf ByteArray.empty t192 2) t200 _ A9.out).mono ?_
          rintro e w' ⟨rfl, ⟨nd, rfl⟩⟩
          refine ⟨_, rfl, ?_⟩
          refine hK.out _ _ ⟨hHeld.1, hHeld.2.1, hHeld.2.2⟩ (fun hHeld => ?_)
          clear hK K
          refine normA ?_
          refine pureA 12 (some 24) (mkB 15 16383) ?_
          exact norm_ (by first | (simp only [putAll, Act.put, List.setIfInBounds_toArray, List.set_cons_zero, List.set_cons_succ]; done) | rfl) (hCont (gb201) _ ⟨hHeld, (by (with_reducible repeat (first | apply Kd.R_alloc | apply Kd.R_drewN | apply Kd.R_drew)); exact HO194.out), blkA, blkA, GW201.out, GE201.out, NB191_201.out, NB201_191.out, (bwA)⟩)
        ·skip
         refine box_step ?hg (N := 5) ?hd (cs := #[.int .i64 0, .int .i64 0, .int .i64 0]) (t := 23) ?hr ?_; (case hd => rfl); (case hg => rfl); (case hr => first | (go_simp; done) | (go_simp; rfl))
         intro gb201 hg w42 hbox hb
         have HS0_ := (hb.cell (World.block_lt_of_cell? _ _ (hHeld.1))).trans (hHeld.1)
         have HS1_ := (hb.cell (World.block_lt_of_cell? _ _ (hHeld.2.1))).trans (hHeld.2.1)
         have HS2_ := (hb.cell (World.block_lt_of_cell? _ _ (hHeld.2.2))).trans (hHeld.2.2)
         have n0_ := Aside0.mk (Kd.R_below (by (with_reducible repeat (first | apply Kd.R_alloc | apply Kd.R_drewN | apply Kd.R_drew)); exact HO194.out) hb)
         have n1_ := Aside0.mk (blk_below (g := gb191) (o := .cells #[.int .i64 0, .int .i64 0, .int .i64 0] 23 (0, 0)) blkA hb)
         have n2_ := Aside0.mk (below_step (bwA) hb)
         have n3_ := Aside0.mk (hbox)
         have n4_ := Aside0.mk ((by rw [hg]; exact (below_size (bwA)) : w.heap.size ≤ gb201))
         have n5_ := Aside0.mk ((by rw [hg]; exact (below_size (bwA)) : w.heap.size ≤ gb201))
         have n6_ := Aside0.mk ((by rw [hg]; exact Nat.ne_of_lt (blk_lt (g := gb191) (o := .cells #[.int .i64 0, .int .i64 0, .int .i64 0] 23 (0, 0)) blkA) : gb191 ≠ gb201))
         have n7_ := Aside0.mk ((by rw [hg]; exact Nat.ne_of_gt (blk_lt (g := gb191) (o := .cells #[.int .i64 0, .int .i64 0, .int .i64 0] 23 (0, 0)) blkA) : gb201 ≠ gb191))
         clear HO194
         clear BK191
         clear HB
         have HO194 := n0_
         have BK191 := n1_
         have HB := n2_
         have BK201 := n3_
         have GW201 := n4_
         have GE201 := n5_
         have NB191_201 := n6_
         have NB201_191 := n7_
         clear n0_ n1_ n2_ n3_ n4_ n5_ n6_ n7_
         clear hb hbox hg
         refine hK.out _ _ ⟨HS0_, HS1_, HS2_⟩ (fun hHeld => ?_)
         clear hK K
         refine normA ?_
         refine oneA 3 (some 15) (mkB 15 10111) (fun K hK => ?_)
         refine goes_ Tryz.func56 (by kernel_rfl) rfl #[.string (rdOf ByteArray.empty t192 0)] (by rfl) rfl rfl (by (try simp only [List.map_toArray, List.map_cons, List.map_nil]); first | done | rfl | (simp only [List.length_drop, List.length_take]; rfl)) ?_
         with_reducible refine (event_number.calls k (rdOf ByteArray.empty t192 0) t196 _ A5.out).mono ?_
         rintro e w' ⟨rfl, ⟨nd, rfl⟩⟩
         refine ⟨_, rfl, ?_⟩
         refine hK.out _ _ ⟨hHeld.1, hHeld.2.1, hHeld.2.2⟩ (fun hHeld => ?_)
         clear hK K
         refine normA ?_
         refine oneA 7 (some 19) (mkB 15 10239) (fun K hK => ?_)
         refine goes_ Tryz.func56 (by kernel_rfl) rfl #[.string (rdOf ByteArray.empty t192 1)] (by rfl) rfl rfl (by (try simp only [List.map_toArray, List.map_cons, List.map_nil]); first | done | rfl | (simp only [List.length_drop, List.length_take]; rfl)) ?_
         with_reducible refine (event_number.calls k (rdOf ByteArray.empty t192 1) t198 _ A7.out).mono ?_
         rintro e w' ⟨rfl, ⟨nd, rfl⟩⟩
         refine ⟨_, rfl, ?_⟩
         refine hK.out _ _ ⟨hHeld.1, hHeld.2.1, hHeld.2.2⟩ (fun hHeld => ?_)
         clear hK K
         refine normA ?_
         refine oneA 11 (some 23) (mkB 15 12287) (fun K hK => ?_)
         refine goes_ Tryz.func56 (by kernel_rfl) rfl #[.string (rdOf ByteArray.empty t192 2)] (by rfl) rfl rfl (by (try simp only [List.map_toArray, List.map_cons, List.map_nil]); first | done | rfl | (simp only [List.length_drop, List.length_take]; rfl)) ?_
         with_reducible refine (event_number.calls k (rdOf ByteArray.empty t192 2) t200 _ A9.out).mono ?_
         rintro e w' ⟨rfl, ⟨nd, rfl⟩⟩
         refine ⟨_, rfl, ?_⟩
         refine hK.out _ _ ⟨hHeld.1, hHeld.2.1, hHeld.2.2⟩ (fun hHeld => ?_)
         clear hK K
         refine normA ?_
         refine pureA 12 (some 24) (mkB 15 16383) ?_
         exact norm_ (by first | (simp only [putAll, Act.put, List.setIfInBounds_toArray, List.set_cons_zero, List.set_cons_succ]; done) | rfl) (hCont (gb201) _ ⟨hHeld, (by (with_reducible repeat (first | apply Kd.R_alloc | apply Kd.R_drewN | apply Kd.R_drew)); exact HO194.out), blkA, blkA, GW201.out, GE201.out, NB191_201.out, NB201_191.out, (bwA)⟩)
       rintro gb201 w43 ⟨hS_, h0_, h1_, h2_, h3_, h4_, h5_, h6_, h7_⟩
       have n0_ : Aside0 (Kd.R Kd.string 9 w43 w.heap.size (fun _ => True) (.slice (some ad195) t192.length co40) t192) := ⟨h0_⟩
       have n1_ : Aside0 (w43.heap[gb191]? = some (.cells #[.int .i64 0, .int .i64 0, .int .i64 0] 23 (0, 0))) := ⟨h1_⟩
       have n2_ : Aside0 (w43.heap[gb201]? = some (.cells #[.int .i64 0, .int .i64 0, .int .i64 0] 23 (0, 0))) := ⟨h2_⟩
       have n3_ : Aside0 (w.heap.size ≤ gb201) := ⟨h3_⟩
       have n4_ : Aside0 (w.heap.size ≤ gb201) := ⟨h4_⟩
       have n5_ : Aside0 (gb191 ≠ gb201) := ⟨h5_⟩
       have n6_ : Aside0 (gb201 ≠ gb191) := ⟨h6_⟩
       have n7_ : Aside0 (Below w.heap.size w w43) := ⟨h7_⟩
       clear HO194
       clear BK191
       clear HB
       clear h0_ h1_ h2_ h3_ h4_ h5_ h6_ h7_
       have HO194 := n0_
       have BK191 := n1_
       have BK201 := n2_
       have GW201 := n3_
       have GE201 := n4_
       have NB191_201 := n5_
       have NB201_191 := n6_
       have HB := n7_
       clear n0_ n1_ n2_ n3_ n4_ n5_ n6_ n7_
       have hHeld : w43.cell? ad195 = some (.string (rdOf ByteArray.empty t192 0)) ∧ w43.cell? ⟨ad195.block, ad195.off + 1, none⟩ = some (.string (rdOf ByteArray.empty t192 1)) ∧ w43.cell? ⟨ad195.block, ad195.off + 2, none⟩ = some (.string (rdOf ByteArray.empty t192 2)) := hS_
       refine norm_ (a' := ?_) ?_ ?_
       rotate_left
       ·simp only [putAll, Act.put, List.setIfInBounds_toArray, List.set_cons_zero, List.set_cons_succ]
        rfl
       refine oneA 14 (none) (mkB 15 32767) (fun K hK => ?_)
       have hs44 : w43.cell? ⟨gb201, 0, none⟩ = some (.int .i64 0) := (blk_cell BK201.out 0).trans rfl
       have hfs44 := blk_frozen BK201.out 0
       have hns44_0 := NB191_201.out
       have hms44_0 := NB201_191.out
       have hs45 : w43.cell? ⟨gb201, 1, none⟩ = some (.int .i64 0) := (blk_cell BK201.out 1).trans rfl
       have hfs45 := blk_frozen BK201.out 1
       have hns45_0 := NB191_201.out
       have hms45_0 := NB201_191.out
       have hs46 : w43.cell? ⟨gb201, 2, none⟩ = some (.int .i64 0) := (blk_cell BK201.out 2).trans rfl
       have hfs46 := blk_frozen BK201.out 2
       have hns46_0 := NB191_201.out
       have hms46_0 := NB201_191.out
       refine skip_ (w1 := ?_) (by rfl) rfl ?_ ?_
       rotate_left
       ·go_simp
        rfl
       have nz0_ := Aside0.mk (Kd.own_blk (Kd.R_ne HO194.out BK201.out (by decide)))
       refine hK.out _ _ ⟨far3 nz0_.out hHeld.1, far3 nz0_.out hHeld.2.1, far3 nz0_.out hHeld.2.2⟩ (fun hHeld => ?_)
       clear hK K
       refine done_ (done_of HT_.out (by kernel_rfl)) ?_
       have hnb47 := NB201_191.out
       have hnc47 := NB191_201.out
       have hcz48_0 : w43.cell? ⟨gb201, 0, none⟩ = some (.int .i64 0) := (blk_cell BK201.out 0).trans rfl
       have hcz48_1 : w43.cell? ⟨gb201, 1, none⟩ = some (.int .i64 0) := (blk_cell BK201.out 1).trans rfl
       have hcz48_2 : w43.cell? ⟨gb201, 2, none⟩ = some (.int .i64 0) := (blk_cell BK201.out 2).trans rfl
       have hfz48_0 := blk_frozen BK201.out 0
       have hfz48_1 := blk_frozen BK201.out 1
       have hfz48_2 := blk_frozen BK201.out 2
       try go_wp2_with (first | (go_at_call 20; (with_reducible refine (event_ShowID.calls t196 t198 t200 t202 _ ?side1 A22.out).mono ?_); (case side1 => exact Tabs.below HT.out (bwA)); rintro e w49 ⟨rfl, hb⟩; have n0_ := Aside0.mk (Kd.R_below (by (with_reducible repeat (first | apply Kd.R_alloc | apply Kd.R_drewN | apply Kd.R_drew)); exact (Kd.R_mono (Kd.R_far (p := ⟨gb201, 2, none⟩) (Kd.R_far (p := ⟨gb201, 1, none⟩) (Kd.R_far (p := ⟨gb201, 0, none⟩) (Kd.R_types HO194.out BK201.out (by decide)) (fun _ hk => hk.2) (.int .i64 t196)) (fun _ hk => hk.2) (.int .i64 t198)) (fun _ hk => hk.2) (.int .i64 t200)) (fun _ h_ => h_.1))) hb); have n1_ := Aside0.mk (blk_below (g := gb191) (o := .cells #[.int .i64 0, .int .i64 0, .int .i64 0] 23 (0, 0)) (by (with_reducible repeat (first | refine blk_drewN ?_ _ | refine blk_drew ?_ | refine blk_alloc ?_ _)); refine blk_far ?_ NB191_201.out _; (with_reducible repeat (first | refine blk_drewN ?_ _ | refine blk_drew ?_ | refine blk_alloc ?_ _)); refine blk_far ?_ NB191_201.out _; (with_reducible repeat (first | refine blk_drewN ?_ _ | refine blk_drew ?_ | refine blk_alloc ?_ _)); refine blk_far ?_ NB191_201.out _; (with_reducible repeat (first | refine blk_drewN ?_ _ | refine blk_drew ?_ | refine blk_alloc ?_ _)); exact BK191.out) hb); have n2_ := Aside0.mk (blk_below (g := gb201) (o := .cells #[.int .i64 t196, .int .i64 t198, .int .i64 t200] 23 (0, 0)) (by (with_reducible repeat (first | refine blk_drewN ?_ _ | refine blk_drew ?_ | refine blk_alloc ?_ _)); refine blk_put (cs := #[.int .i64 t196, .int .i64 t198, .int .i64 0]) ?_ 2 _ rfl; (with_reducible repeat (first | refine blk_drewN ?_ _ | refine blk_drew ?_ | refine blk_alloc ?_ _)); refine blk_put (cs := #[.int .i64 t196, .int .i64 0, .int .i64 0]) ?_ 1 _ rfl; (with_reducible repeat (first | refine blk_drewN ?_ _ | refine blk_drew ?_ | refine blk_alloc ?_ _)); refine blk_put (cs := #[.int .i64 0, .int .i64 0, .int .i64 0]) ?_ 0 _ rfl; (with_reducible repeat (first | refine blk_drewN ?_ _ | refine blk_drew ?_ | refine blk_alloc ?_ _)); exact BK201.out) hb); have n3_ := Aside0.mk (below_step (bwA) hb); clear HO194; clear BK191; clear BK201; clear HB; have HO194 := n0_; have BK191 := n1_; have BK201 := n2_; have HB := n3_; clear n0_ n1_ n2_ n3_; (try clear hb); (try clear hb2); (try clear hk); (try clear hi); have hcz50_0 : w49.cell? ⟨gb191, 0, none⟩ = some (.int .i64 0) := (blk_cell BK191.out 0).trans rfl; have hcz50_1 : w49.cell? ⟨gb191, 1, none⟩ = some (.int .i64 0) := (blk_cell BK191.out 1).trans rfl; have hcz50_2 : w49.cell? ⟨gb191, 2, none⟩ = some (.int .i64 0) := (blk_cell BK191.out 2).trans rfl; have hfz50_0 := blk_frozen BK191.out 0; have hfz50_1 := blk_frozen BK191.out 1; have hfz50_2 := blk_frozen BK191.out 2))
       refine bodyPost_ret (results_ct rfl _ _ gb191 23 #[.int .i64 0, .int .i64 0, .int .i64 0] (0, 0) _ rfl (by (with_reducible repeat (first | refine blk_drewN ?_ _ | refine blk_drew ?_ | refine blk_alloc ?_ _)); refine blk_put (cs := #[.int .i64 0, .int .i64 0, .int .i64 0]) ?_ 2 _ rfl; (with_reducible repeat (first | refine blk_drewN ?_ _ | refine blk_drew ?_ | refine blk_alloc ?_ _)); refine blk_put (cs := #[.int .i64 0, .int .i64 0, .int .i64 0]) ?_ 1 _ rfl; (with_reducible repeat (first | refine blk_drewN ?_ _ | refine blk_drew ?_ | refine blk_alloc ?_ _)); refine blk_put (cs := #[.int .i64 0, .int .i64 0, .int .i64 0]) ?_ 0 _ rfl; (with_reducible repeat (first | refine blk_drewN ?_ _ | refine blk_drew ?_ | refine blk_alloc ?_ _)); exact BK191.out) Tryz.underlying23 rfl (by kernel_rfl)) rfl ?_
       exact ⟨endA, bwA⟩
    ·rw [if_neg c8] at H
     exact absurd H (by simp)
   ·rw [if_neg c6] at H
    exact absurd H (by simp)
  ·rw [if_neg c4] at H
   exact absurd H (by simp)
 ·rw [if_neg c3] at H
  have c3b0 : ((t192.length : Int) == 3) = false := beq_eq_false_iff_ne.mpr c3
  have c3b1 : ((t192.length : Int) != 3) = true := bne_iff_ne.mpr c3
  simp only [Option.some.injEq, Prod.mk.injEq] at H
  obtain ⟨rfl, rfl, rfl, rfl⟩ := H
  go_enter Tryz.func24, Tryz.ntmps24
  go_wp2_with (first | ((with_reducible refine gate_dst (N := 2) rfl ?_); refine box_event ?hg (N := 2) ?hd (cs := #[.int .i64 0, .int .i64 0, .int .i64 0]) (t := 23) ?hr ?_; (case hd => rfl); (case hg => rfl); (case hr => first | (go_simp; done) | (go_simp; rfl)); intro gb191 hg w51 hbox hb; have n0_ := Aside0.mk (below_step (bwA) hb); have n1_ := Aside0.mk (hbox); have n2_ := Aside0.mk ((by rw [hg]; exact (below_size (bwA)) : w.heap.size ≤ gb191)); have n3_ := Aside0.mk ((by rw [hg]; exact (below_size (bwA)) : w.heap.size ≤ gb191)); clear HB; have HB := n0_; have BK191 := n1_; have GW191 := n2_; have GE191 := n3_; clear n0_ n1_ n2_ n3_; clear hb hbox hg) | ((with_reducible refine gate_callee (f := 55) rfl ?_); refine goesA (some 7) Tryz.func55 #[.string a0, .string (⟨#[46]⟩ : ByteArray)] ?_; (with_reducible refine (strings_Split.calls a0 (⟨#[46]⟩ : ByteArray) t192 _ ?side1 A2.out).mono ?_); (case side1 => exact Tabs.below HT.out (bwA)); rintro e w52 ⟨v193, rfl, ho0, hb⟩; refine ⟨_, rfl, ?_⟩; have n0_ := Aside0.mk (Kd.R_lower ho0 (below_size (bwA))); have n1_ := Aside0.mk (blk_below (g := gb191) (o := .cells #[.int .i64 0, .int .i64 0, .int .i64 0] 23 (0, 0)) blkA hb); have n2_ := Aside0.mk (below_step (bwA) hb); clear BK191; clear HB; have HO194 := n0_; have BK191 := n1_; have HB := n2_; clear n0_ n1_ n2_; (try clear hb); (try clear hb2); (try clear hk); (try clear hi); (try clear ho0); obtain ⟨Ao53, co53, eo53⟩ := Kd.R_slice HO194.out; subst eo53; have hcz54_0 : w52.cell? ⟨gb191, 0, none⟩ = some (.int .i64 0) := (blk_cell BK191.out 0).trans rfl; have hcz54_1 : w52.cell? ⟨gb191, 1, none⟩ = some (.int .i64 0) := (blk_cell BK191.out 1).trans rfl; have hcz54_2 : w52.cell? ⟨gb191, 2, none⟩ = some (.int .i64 0) := (blk_cell BK191.out 2).trans rfl; have hfz54_0 := blk_frozen BK191.out 0; have hfz54_1 := blk_frozen BK191.out 1; have hfz54_2 := blk_frozen BK191.out 2))
  refine bodyPost_ret (results_ct rfl _ _ gb191 23 #[.int .i64 0, .int .i64 0, .int .i64 0] (0, 0) _ rfl (by (with_reducible repeat (first | refine blk_drewN ?_ _ | refine blk_drew ?_ | refine blk_alloc ?_ _)); refine blk_put (cs := #[.int .i64 0, .int .i64 0, .int .i64 0]) ?_ 2 _ rfl; (with_reducible repeat (first | refine blk_drewN ?_ _ | refine blk_drew ?_ | refine blk_alloc ?_ _)); refine blk_put (cs := #[.int .i64 0, .int .i64 0, .int .i64 0]) ?_ 1 _ rfl; (with_reducible repeat (first | refine blk_drewN ?_ _ | refine blk_drew ?_ | refine blk_alloc ?_ _)); refine blk_put (cs := #[.int .i64 0, .int .i64 0, .int .i64 0]) ?_ 0 _ rfl; (with_reducible repeat (first | refine blk_drewN ?_ _ | refine blk_drew ?_ | refine blk_alloc ?_ _)); exact BK191.out) Tryz.underlying23 rfl (by kernel_rfl)) rfl ?_
  exact ⟨endA, bwA⟩

end Go.Proofs.YtplemgmfnghoeaaGreatDoor.A
