-- By drv.py, the session's own driver round the kit's print: the machine's side of the laws, function by function. Not trusted: Lean checks it.
import Derived.Test.YtplemgmfnghoeaaGreatDoorAx0
import Derived.Test.YtplemgmfnghoeaaGreatDoorAx1
import Derived.Test.YtplemgmfnghoeaaGreatDoorAx6
import Derived.Test.YtplemgmfnghoeaaGreatDoorAx23
import Derived.Test.YtplemgmfnghoeaaGreatDoorAx28
import Derived.Test.YtplemgmfnghoeaaGreatDoorAx54
namespace Go.Proofs.YtplemgmfnghoeaaGreatDoor.A
open Go.RowKit Go.Proofs.YtplemgmfnghoeaaGreatDoorW.PrintWords Go.Proofs.YtplemgmfnghoeaaGreatDoorW.PrintLast Go.Proofs.YtplemgmfnghoeaaGreatDoorW.PrintMore
attribute [local go_sem] max2_int min2_int max_two min_two max_three min_three max_four min_four   -- for this text's walks alone
set_option linter.unusedVariables false
set_option linter.unusedSimpArgs false

attribute [local go_sem high] eqA23
/-! ### caduceuslaw06_EventOrder: function 3 -/
def caduceuslaw06_EventOrder.j0 : Nat → Int → Int → Int → Bool → Int → Int → Int → Int → Int → Int → Option (Bool)
 | 0, _, _, _, _, _, _, _, _, _, _ => none
 | k + 1, x7, x8, x9, x39, x317000, x317001, x317002, x318000, x318001, x318002 => if x39 = true then (none) else ((caduceuslaw06_awake.f k).bind fun t327 => (if t327 = true then ((forest_Order.f k x318000 x318001 x318002 x317000 x317001 x317002).bind fun t328 => (if x7 = (wrap64 (-t328)) then (if ((x7 == 0) == (x317000 == x318000 && (x317001 == x318001 && (x317002 == x318002)))) = true then (if x7 ≥ 0 then (if x7 = 0 then (some (x8 == x9)) else (some true)) else (if x8 ≥ 0 then (if x7 = 0 then (some (x8 == x9)) else (some true)) else (if x9 < 0 then (if x7 = 0 then (some (x8 == x9)) else (some true)) else (none)))) else (none)) else (none))) else (none)))
def caduceuslaw06_EventOrder.f (k : Nat) (a0_0 : Int) (a0_1 : Int) (a0_2 : Int) (a1_0 : Int) (a1_1 : Int) (a1_2 : Int) (a2_0 : Int) (a2_1 : Int) (a2_2 : Int) : Option (Bool) := (forest_Order.f k a0_0 a0_1 a0_2 a1_0 a1_1 a1_2).bind fun t319 => ((forest_Order.f k a1_0 a1_1 a1_2 a2_0 a2_1 a2_2).bind fun t320 => ((forest_Order.f k a0_0 a0_1 a0_2 a2_0 a2_1 a2_2).bind fun t321 => ((event_Same.f k a0_0 a0_1 a0_2 (⟨#[116]⟩ : ByteArray) ([] : List (S57)) a1_0 a1_1 a1_2 (⟨#[84]⟩ : ByteArray) ([] : List (S57))).bind fun t324 => (if t324 = true then (caduceuslaw06_EventOrder.j0 k t319 t320 t321 true a0_0 a0_1 a0_2 a1_0 a1_1 a1_2) else ((event_Alike.f a0_0 a0_1 a0_2 (⟨#[116]⟩ : ByteArray) ([] : List (S57)) a1_0 a1_1 a1_2 (⟨#[84]⟩ : ByteArray) ([] : List (S57))).bind fun t325 => (if t325 = true then ((event_Same.f k a0_0 a0_1 a0_2 (⟨#[116]⟩ : ByteArray) ([] : List (S57)) a0_0 a0_1 a0_2 (⟨#[116]⟩ : ByteArray) ([] : List (S57))).bind fun t326 => (caduceuslaw06_EventOrder.j0 k t319 t320 t321 (!t326) a0_0 a0_1 a0_2 a1_0 a1_1 a1_2)) else (caduceuslaw06_EventOrder.j0 k t319 t320 t321 true a0_0 a0_1 a0_2 a1_0 a1_1 a1_2)))))))
theorem caduceuslaw06_EventOrder.mono_l : ∀ k, (∀ y0 y1 y2 y3 y4 y5 y6 y7 y8 y9, LeO (caduceuslaw06_EventOrder.j0 k y0 y1 y2 y3 y4 y5 y6 y7 y8 y9) (caduceuslaw06_EventOrder.j0 (k + 1) y0 y1 y2 y3 y4 y5 y6 y7 y8 y9))
 | 0 => fun _ _ _ _ _ _ _ _ _ _ r h => by simp [caduceuslaw06_EventOrder.j0] at h
 | k + 1 => by
  have ih0 := caduceuslaw06_EventOrder.mono_l k
  ·intro y0 y1 y2 y3 y4 y5 y6 y7 y8 y9
   unfold caduceuslaw06_EventOrder.j0
   repeat' first
   | (with_reducible exact ih0 _ _ _ _ _ _ _ _ _ _)
   | (with_reducible exact caduceuslaw06_awake.mono _)
   | (with_reducible exact event_Same.mono _ _ _ _ _ _ _ _ _ _ _)
   | (with_reducible exact forest_Order.mono _ _ _ _ _ _ _)
   | (with_reducible exact LeO.refl _)
   | (with_reducible exact LeO.none _)
   | (with_reducible refine LeO.ite ?_ ?_)
   | (with_reducible refine LeO.bind ?_ (fun _ => ?_))
   | exact ih0 _ _ _ _ _ _ _ _ _ _
   | exact caduceuslaw06_awake.mono _
   | exact event_Same.mono _ _ _ _ _ _ _ _ _ _ _
   | exact forest_Order.mono _ _ _ _ _ _ _
   | exact LeO.none _
   | refine LeO.ite ?_ ?_
   | refine LeO.bind ?_ (fun _ => ?_)
theorem caduceuslaw06_EventOrder.mono : ∀ a0 a1 a2 a3 a4 a5 a6 a7 a8 k, LeO (caduceuslaw06_EventOrder.f k a0 a1 a2 a3 a4 a5 a6 a7 a8) (caduceuslaw06_EventOrder.f (k + 1) a0 a1 a2 a3 a4 a5 a6 a7 a8) := by
 intro a0 a1 a2 a3 a4 a5 a6 a7 a8 k
 have ih0 := caduceuslaw06_EventOrder.mono_l k
 unfold caduceuslaw06_EventOrder.f
 repeat' first
   | (with_reducible exact ih0 _ _ _ _ _ _ _ _ _ _)
   | (with_reducible exact caduceuslaw06_awake.mono _)
   | (with_reducible exact event_Same.mono _ _ _ _ _ _ _ _ _ _ _)
   | (with_reducible exact forest_Order.mono _ _ _ _ _ _ _)
   | (with_reducible exact LeO.refl _)
   | (with_reducible exact LeO.none _)
   | (with_reducible refine LeO.ite ?_ ?_)
   | (with_reducible refine LeO.bind ?_ (fun _ => ?_))
   | exact ih0 _ _ _ _ _ _ _ _ _ _
   | exact caduceuslaw06_awake.mono _
   | exact event_Same.mono _ _ _ _ _ _ _ _ _ _ _
   | exact forest_Order.mono _ _ _ _ _ _ _
   | exact LeO.none _
   | refine LeO.ite ?_ ?_
   | refine LeO.bind ?_ (fun _ => ?_)
def caduceuslaw06_EventOrder.T1 : Bool × List (List Nat × List Nat) := (true, [([], []), ([], []), ([0, 1], [0, 1]), ([], []), ([], []), ([3, 4, 2], [3, 4]), ([], []), ([], []), ([6, 7, 5], [6, 7]), ([2, 8, 0, 1, 2], [2]), ([5, 9, 0, 1, 2, 3, 4, 5, 9], [5]), ([8, 10, 0, 1, 2, 3, 4, 5, 6, 7, 8, 9, 10], [8])])
def caduceuslaw06_EventOrder.B1 : List Nat := [0, 0, 3, 0, 0, 31, 0, 0, 255, 511, 1023, 2047]
theorem caduceuslaw06_EventOrder.tab1 : rtab .any (opsOf Tryz.f3 1) = caduceuslaw06_EventOrder.T1 := by kernel_rfl
theorem caduceuslaw06_EventOrder.bits1 : waitsOk caduceuslaw06_EventOrder.T1.2 caduceuslaw06_EventOrder.B1 = true := by kernel_rfl
set_option maxHeartbeats 8000000 in
set_option maxRecDepth 100000 in
theorem caduceuslaw06_EventOrder.calls (k : Nat) (a0_0 : Int) (a0_1 : Int) (a0_2 : Int) (a1_0 : Int) (a1_1 : Int) (a1_2 : Int) (a2_0 : Int) (a2_1 : Int) (a2_2 : Int) (r : Bool) (w : World) (hT : Tabs w) (h : caduceuslaw06_EventOrder.f k a0_0 a0_1 a0_2 a1_0 a1_1 a1_2 a2_0 a2_1 a2_2 = some r) :
  Calls Tryz.prog 3 #[.agg #[.int .i64 a0_0, .int .i64 a0_1, .int .i64 a0_2], .agg #[.int .i64 a1_0, .int .i64 a1_1, .int .i64 a1_2], .agg #[.int .i64 a2_0, .int .i64 a2_1, .int .i64 a2_2]] w fun e w' => e = .returned (.bool r) ∧ Below w.heap.size w w' := by
 have hu23 := Tryz.underlying23
 have hu27 := Tryz.underlying27
 have HB := Aside0.mk (Below.refl w.heap.size w)
 have H : ((forest_Order.f k a0_0 a0_1 a0_2 a1_0 a1_1 a1_2).bind fun t319 => ((forest_Order.f k a1_0 a1_1 a1_2 a2_0 a2_1 a2_2).bind fun t320 => ((forest_Order.f k a0_0 a0_1 a0_2 a2_0 a2_1 a2_2).bind fun t321 => ((event_Same.f k a0_0 a0_1 a0_2 (⟨#[116]⟩ : ByteArray) ([] : List (S57)) a1_0 a1_1 a1_2 (⟨#[84]⟩ : ByteArray) ([] : List (S57))).bind fun t324 => (if t324 = true then (caduceuslaw06_EventOrder.j0 k t319 t320 t321 true a0_0 a0_1 a0_2 a1_0 a1_1 a1_2) else ((event_Alike.f a0_0 a0_1 a0_2 (⟨#[116]⟩ : ByteArray) ([] : List (S57)) a1_0 a1_1 a1_2 (⟨#[84]⟩ : ByteArray) ([] : List (S57))).bind fun t325 => (if t325 = true then ((event_Same.f k a0_0 a0_1 a0_2 (⟨#[116]⟩ : ByteArray) ([] : List (S57)) a0_0 a0_1 a0_2 (⟨#[116]⟩ : ByteArray) ([] : List (S57))).bind fun t326 => (caduceuslaw06_EventOrder.j0 k t319 t320 t321 (!t326) a0_0 a0_1 a0_2 a1_0 a1_1 a1_2)) else (caduceuslaw06_EventOrder.j0 k t319 t320 t321 true a0_0 a0_1 a0_2 a1_0 a1_1 a1_2)))))))) = some r := h
 clear h
 have HT := Aside0.mk hT
 clear hT
 replace H := Option.bind_eq_some_iff.mp H
 obtain ⟨t319, A40, H⟩ := H
 replace H : ((forest_Order.f k a1_0 a1_1 a1_2 a2_0 a2_1 a2_2).bind fun t320 => ((forest_Order.f k a0_0 a0_1 a0_2 a2_0 a2_1 a2_2).bind fun t321 => ((event_Same.f k a0_0 a0_1 a0_2 (⟨#[116]⟩ : ByteArray) ([] : List (S57)) a1_0 a1_1 a1_2 (⟨#[84]⟩ : ByteArray) ([] : List (S57))).bind fun t324 => (if t324 = true then (caduceuslaw06_EventOrder.j0 k t319 t320 t321 true a0_0 a0_1 a0_2 a1_0 a1_1 a1_2) else ((event_Alike.f a0_0 a0_1 a0_2 (⟨#[116]⟩ : ByteArray) ([] : List (S57)) a1_0 a1_1 a1_2 (⟨#[84]⟩ : ByteArray) ([] : List (S57))).bind fun t325 => (if t325 = true then ((event_Same.f k a0_0 a0_1 a0_2 (⟨#[116]⟩ : ByteArray) ([] : List (S57)) a0_0 a0_1 a0_2 (⟨#[116]⟩ : ByteArray) ([] : List (S57))).bind fun t326 => (caduceuslaw06_EventOrder.j0 k t319 t320 t321 (!t326) a0_0 a0_1 a0_2 a1_0 a1_1 a1_2)) else (caduceuslaw06_EventOrder.j0 k t319 t320 t321 true a0_0 a0_1 a0_2 a1_0 a1_1 a1_2))))))) = some r := H
 have A4 := Aside0.mk A40
 clear A40
 replace H := Option.bind_eq_some_iff.mp H
 obtain ⟨t320, A50, H⟩ := H
 replace H : ((forest_Order.f k a0_0 a0_1 a0_2 a2_0 a2_1 a2_2).bind fun t321 => ((event_Same.f k a0_0 a0_1 a0_2 (⟨#[116]⟩ : ByteArray) ([] : List (S57)) a1_0 a1_1 a1_2 (⟨#[84]⟩ : ByteArray) ([] : List (S57))).bind fun t324 => (if t324 = true then (caduceuslaw06_EventOrder.j0 k t319 t320 t321 true a0_0 a0_1 a0_2 a1_0 a1_1 a1_2) else ((event_Alike.f a0_0 a0_1 a0_2 (⟨#[116]⟩ : ByteArray) ([] : List (S57)) a1_0 a1_1 a1_2 (⟨#[84]⟩ : ByteArray) ([] : List (S57))).bind fun t325 => (if t325 = true then ((event_Same.f k a0_0 a0_1 a0_2 (⟨#[116]⟩ : ByteArray) ([] : List (S57)) a0_0 a0_1 a0_2 (⟨#[116]⟩ : ByteArray) ([] : List (S57))).bind fun t326 => (caduceuslaw06_EventOrder.j0 k t319 t320 t321 (!t326) a0_0 a0_1 a0_2 a1_0 a1_1 a1_2)) else (caduceuslaw06_EventOrder.j0 k t319 t320 t321 true a0_0 a0_1 a0_2 a1_0 a1_1 a1_2)))))) = some r := H
 have A5 := Aside0.mk A50
 clear A50
 replace H := Option.bind_eq_some_iff.mp H
 obtain ⟨t321, A60, H⟩ := H
 replace H : ((event_Same.f k a0_0 a0_1 a0_2 (⟨#[116]⟩ : ByteArray) ([] : List (S57)) a1_0 a1_1 a1_2 (⟨#[84]⟩ : ByteArray) ([] : List (S57))).bind fun t324 => (if t324 = true then (caduceuslaw06_EventOrder.j0 k t319 t320 t321 true a0_0 a0_1 a0_2 a1_0 a1_1 a1_2) else ((event_Alike.f a0_0 a0_1 a0_2 (⟨#[116]⟩ : ByteArray) ([] : List (S57)) a1_0 a1_1 a1_2 (⟨#[84]⟩ : ByteArray) ([] : List (S57))).bind fun t325 => (if t325 = true then ((event_Same.f k a0_0 a0_1 a0_2 (⟨#[116]⟩ : ByteArray) ([] : List (S57)) a0_0 a0_1 a0_2 (⟨#[116]⟩ : ByteArray) ([] : List (S57))).bind fun t326 => (caduceuslaw06_EventOrder.j0 k t319 t320 t321 (!t326) a0_0 a0_1 a0_2 a1_0 a1_1 a1_2)) else (caduceuslaw06_EventOrder.j0 k t319 t320 t321 true a0_0 a0_1 a0_2 a1_0 a1_1 a1_2))))) = some r := H
 have A6 := Aside0.mk A60
 clear A60
 have HC7 := Aside0.mk H
 clear H
 go_enter Tryz.func3, Tryz.ntmps3
 try go_wp2_with (first | ((with_reducible refine gate_dst (N := 3) rfl ?_); refine box_event ?hg (N := 3) ?hd (cs := #[.int .i64 a0_0, .int .i64 a0_1, .int .i64 a0_2]) (t := 23) ?hr ?_; (case hd => rfl); (case hg => rfl); (case hr => first | (go_simp; done) | (go_simp; rfl)); intro gb316 hg w8 hbox hb; have n0_ := Aside0.mk (below_step (bwA) hb); have n1_ := Aside0.mk (hbox); have n2_ := Aside0.mk ((by rw [hg]; exact (below_size (bwA)) : w.heap.size ≤ gb316)); have n3_ := Aside0.mk ((by rw [hg]; exact (below_size (bwA)) : w.heap.size ≤ gb316)); clear HB; have HB := n0_; have BK316 := n1_; have GW316 := n2_; have GE316 := n3_; clear n0_ n1_ n2_ n3_; clear hb hbox hg) | ((with_reducible refine gate_dst (N := 4) rfl ?_); refine box_event ?hg (N := 4) ?hd (cs := #[.int .i64 a1_0, .int .i64 a1_1, .int .i64 a1_2]) (t := 23) ?hr ?_; (case hd => rfl); (case hg => rfl); (case hr => first | (go_simp; done) | (go_simp; rfl)); intro gb317 hg w9 hbox hb; have n0_ := Aside0.mk (blk_below (g := gb316) (o := .cells #[.int .i64 a0_0, .int .i64 a0_1, .int .i64 a0_2] 23 (0, 0)) blkA hb); have n1_ := Aside0.mk (below_step (bwA) hb); have n2_ := Aside0.mk (hbox); have n3_ := Aside0.mk ((by rw [hg]; exact (below_size (bwA)) : w.heap.size ≤ gb317)); have n4_ := Aside0.mk ((by rw [hg]; exact (below_size (bwA)) : w.heap.size ≤ gb317)); have n5_ := Aside0.mk ((by rw [hg]; exact Nat.ne_of_lt (blk_lt (g := gb316) (o := .cells #[.int .i64 a0_0, .int .i64 a0_1, .int .i64 a0_2] 23 (0, 0)) blkA) : gb316 ≠ gb317)); have n6_ := Aside0.mk ((by rw [hg]; exact Nat.ne_of_gt (blk_lt (g := gb316) (o := .cells #[.int .i64 a0_0, .int .i64 a0_1, .int .i64 a0_2] 23 (0, 0)) blkA) : gb317 ≠ gb316)); clear BK316; clear HB; have BK316 := n0_; have HB := n1_; have BK317 := n2_; have GW317 := n3_; have GE317 := n4_; have NB316_317 := n5_; have NB317_316 := n6_; clear n0_ n1_ n2_ n3_ n4_ n5_ n6_; clear hb hbox hg) | ((with_reducible refine gate_dst (N := 5) rfl ?_); refine box_event ?hg (N := 5) ?hd (cs := #[.int .i64 a2_0, .int .i64 a2_1, .int .i64 a2_2]) (t := 23) ?hr ?_; (case hd => rfl); (case hg => rfl); (case hr => first | (go_simp; done) | (go_simp; rfl)); intro gb318 hg w10 hbox hb; have n0_ := Aside0.mk (blk_below (g := gb316) (o := .cells #[.int .i64 a0_0, .int .i64 a0_1, .int .i64 a0_2] 23 (0, 0)) blkA hb); have n1_ := Aside0.mk (blk_below (g := gb317) (o := .cells #[.int .i64 a1_0, .int .i64 a1_1, .int .i64 a1_2] 23 (0, 0)) blkA hb); have n2_ := Aside0.mk (below_step (bwA) hb); have n3_ := Aside0.mk (hbox); have n4_ := Aside0.mk ((by rw [hg]; exact (below_size (bwA)) : w.heap.size ≤ gb318)); have n5_ := Aside0.mk ((by rw [hg]; exact (below_size (bwA)) : w.heap.size ≤ gb318)); have n6_ := Aside0.mk ((by rw [hg]; exact Nat.ne_of_lt (blk_lt (g := gb316) (o := .cells #[.int .i64 a0_0, .int .i64 a0_1, .int .i64 a0_2] 23 (0, 0)) blkA) : gb316 ≠ gb318)); have n7_ := Aside0.mk ((by rw [hg]; exact Nat.ne_of_gt (blk_lt (g := gb316) (o := .cells #[.int .i64 a0_0, .int .i64 a0_1, .int .i64 a0_2] 23 (0, 0)) blkA) : gb318 ≠ gb316)); have n8_ := Aside0.mk ((by rw [hg]; exact Nat.ne_of_lt (blk_lt (g := gb317) (o := .cells #[.int .i64 a1_0, .int .i64 a1_1, .int .i64 a1_2] 23 (0, 0)) blkA) : gb317 ≠ gb318)); have n9_ := Aside0.mk ((by rw [hg]; exact Nat.ne_of_gt (blk_lt (g := gb317) (o := .cells #[.int .i64 a1_0, .int .i64 a1_1, .int .i64 a1_2] 23 (0, 0)) blkA) : gb318 ≠ gb317)); clear BK316; clear BK317; clear HB; have BK316 := n0_; have BK317 := n1_; have HB := n2_; have BK318 := n3_; have GW318 := n4_; have GE318 := n5_; have NB316_318 := n6_; have NB318_316 := n7_; have NB317_318 := n8_; have NB318_317 := n9_; clear n0_ n1_ n2_ n3_ n4_ n5_ n6_ n7_ n8_ n9_; clear hb hbox hg))
 have n0_ := Aside0.mk (blk_drew BK316.out)
 have n1_ := Aside0.mk (blk_drew BK317.out)
 have n2_ := Aside0.mk (blk_drew BK318.out)
 have n3_ := Aside0.mk (below_drew1 HB.out)
 clear BK316
 clear BK317
 clear BK318
 clear HB
 have BK316 := n0_
 have BK317 := n1_
 have BK318 := n2_
 have HB := n3_
 clear n0_ n1_ n2_ n3_
 refine start_ (n := 12) (S := fun w' => w'.cell? ⟨gb316, 0, none⟩ = some (.int .i64 a0_0) ∧ w'.cell? ⟨gb316, 1, none⟩ = some (.int .i64 a0_1) ∧ w'.cell? ⟨gb316, 2, none⟩ = some (.int .i64 a0_2) ∧ w'.cell? ⟨gb317, 0, none⟩ = some (.int .i64 a1_0) ∧ w'.cell? ⟨gb317, 1, none⟩ = some (.int .i64 a1_1) ∧ w'.cell? ⟨gb317, 2, none⟩ = some (.int .i64 a1_2) ∧ w'.cell? ⟨gb318, 0, none⟩ = some (.int .i64 a2_0) ∧ w'.cell? ⟨gb318, 1, none⟩ = some (.int .i64 a2_1) ∧ w'.cell? ⟨gb318, 2, none⟩ = some (.int .i64 a2_2)) (ds := []) (mkB 12 0) (by kernel_rfl) rfl rfl ⟨(blk_cell BK316.out 0).trans rfl, (blk_cell BK316.out 1).trans rfl, (blk_cell BK316.out 2).trans rfl, (blk_cell BK317.out 0).trans rfl, (blk_cell BK317.out 1).trans rfl, (blk_cell BK317.out 2).trans rfl, (blk_cell BK318.out 0).trans rfl, (blk_cell BK318.out 1).trans rfl, (blk_cell BK318.out 2).trans rfl⟩ (fun hHeld => ?_); refine with_tabW caduceuslaw06_EventOrder.tab1 caduceuslaw06_EventOrder.bits1 (fun HT_ HW_ => ?_)
 generalize w10.drew = w11 at BK316 BK317 BK318 HB hHeld ⊢
 refine takeA 0 (some 12) (mkB 12 1) ?_ rfl (Or.inl ⟨by rfl, by rintro w' ⟨s0, s1, s2, s3, s4, s5, s6, s7, s8⟩; go_simp; with_reducible rfl⟩)
 refine takeA 1 (some 13) (mkB 12 3) ?_ rfl (Or.inl ⟨by rfl, by rintro w' ⟨s0, s1, s2, s3, s4, s5, s6, s7, s8⟩; go_simp; with_reducible rfl⟩)
 refine takeA 3 (some 15) (mkB 12 11) ?_ rfl (Or.inl ⟨by rfl, by rintro w' ⟨s0, s1, s2, s3, s4, s5, s6, s7, s8⟩; go_simp; with_reducible rfl⟩)
 refine takeA 4 (some 16) (mkB 12 27) ?_ rfl (Or.inl ⟨by rfl, by rintro w' ⟨s0, s1, s2, s3, s4, s5, s6, s7, s8⟩; go_simp; with_reducible rfl⟩)
 refine takeA 6 (some 18) (mkB 12 91) ?_ rfl (Or.inl ⟨by rfl, by rintro w' ⟨s0, s1, s2, s3, s4, s5, s6, s7, s8⟩; go_simp; with_reducible rfl⟩)
 refine takeA 7 (some 19) (mkB 12 219) ?_ rfl (Or.inl ⟨by rfl, by rintro w' ⟨s0, s1, s2, s3, s4, s5, s6, s7, s8⟩; go_simp; with_reducible rfl⟩)
 refine oneA 2 (some 14) (mkB 12 223) (fun K hK => ?_)
 refine goes_ Tryz.func6 (by kernel_rfl) rfl #[.agg #[.int .i64 a0_0, .int .i64 a0_1, .int .i64 a0_2], .agg #[.int .i64 a1_0, .int .i64 a1_1, .int .i64 a1_2]] (by rfl) rfl rfl (by (try simp only [List.map_toArray, List.map_cons, List.map_nil]); first | done | rfl | (simp only [List.length_drop, List.length_take]; rfl)) ?_
 with_reducible refine (forest_Order.calls k a0_0 a0_1 a0_2 a1_0 a1_1 a1_2 t319 _ A4.out).mono ?_
 rintro e w12 ⟨rfl, hb⟩
 refine ⟨_, rfl, ?_⟩
 have n0_ := Aside0.mk (blk_below (g := gb316) (o := .cells #[.int .i64 a0_0, .int .i64 a0_1, .int .i64 a0_2] 23 (0, 0)) blkA hb)
 have n1_ := Aside0.mk (blk_below (g := gb317) (o := .cells #[.int .i64 a1_0, .int .i64 a1_1, .int .i64 a1_2] 23 (0, 0)) blkA hb)
 have n2_ := Aside0.mk (blk_below (g := gb318) (o := .cells #[.int .i64 a2_0, .int .i64 a2_1, .int .i64 a2_2] 23 (0, 0)) blkA hb)
 have n3_ := Aside0.mk (below_step (bwA) hb)
 clear BK316
 clear BK317
 clear BK318
 clear HB
 have BK316 := n0_
 have BK317 := n1_
 have BK318 := n2_
 have HB := n3_
 clear n0_ n1_ n2_ n3_
 (try clear hb); (try clear hb2); (try clear hk); (try clear hi)
 refine hK.out _ _ ⟨(blk_cell BK316.out 0).trans rfl, (blk_cell BK316.out 1).trans rfl, (blk_cell BK316.out 2).trans rfl, (blk_cell BK317.out 0).trans rfl, (blk_cell BK317.out 1).trans rfl, (blk_cell BK317.out 2).trans rfl, (blk_cell BK318.out 0).trans rfl, (blk_cell BK318.out 1).trans rfl, (blk_cell BK318.out 2).trans rfl⟩ (fun hHeld => ?_)
 clear hK K
 refine normA ?_
 refine oneA 5 (some 17) (mkB 12 255) (fun K hK => ?_)
 refine goes_ Tryz.func6 (by kernel_rfl) rfl #[.agg #[.int .i64 a1_0, .int .i64 a1_1, .int .i64 a1_2], .agg #[.int .i64 a2_0, .int .i64 a2_1, .int .i64 a2_2]] (by rfl) rfl rfl (by (try simp only [List.map_toArray, List.map_cons, List.map_nil]); first | done | rfl | (simp only [List.length_drop, List.length_take]; rfl)) ?_
 with_reducible refine (forest_Order.calls k a1_0 a1_1 a1_2 a2_0 a2_1 a2_2 t320 _ A5.out).mono ?_
 rintro e w13 ⟨rfl, hb⟩
 refine ⟨_, rfl, ?_⟩
 have n0_ := Aside0.mk (blk_below (g := gb316) (o := .cells #[.int .i64 a0_0, .int .i64 a0_1, .int .i64 a0_2] 23 (0, 0)) blkA hb)
 have n1_ := Aside0.mk (blk_below (g := gb317) (o := .cells #[.int .i64 a1_0, .int .i64 a1_1, .int .i64 a1_2] 23 (0, 0)) blkA hb)
 have n2_ := Aside0.mk (blk_below (g := gb318) (o := .cells #[.int .i64 a2_0, .int .i64 a2_1, .int .i64 a2_2] 23 (0, 0)) blkA hb)
 have n3_ := Aside0.mk (below_step (bwA) hb)
 clear BK316
 clear BK317
 clear BK318
 clear HB
 have BK316 := n0_
 have BK317 := n1_
 have BK318 := n2_
 have HB := n3_
 clear n0_ n1_ n2_ n3_
 (try clear hb); (try clear hb2); (try clear hk); (try clear hi)
 refine hK.out _ _ ⟨(blk_cell BK316.out 0).trans rfl, (blk_cell BK316.out 1).trans rfl, (blk_cell BK316.out 2).trans rfl, (blk_cell BK317.out 0).trans rfl, (blk_cell BK317.out 1).trans rfl, (blk_cell BK317.out 2).trans rfl, (blk_cell BK318.out 0).trans rfl, (blk_cell BK318.out 1).trans rfl, (blk_cell BK318.out 2).trans rfl⟩ (fun hHeld => ?_)
 clear hK K
 refine normA ?_
 refine oneA 8 (some 20) (mkB 12 511) (fun K hK => ?_)
 refine goes_ Tryz.func6 (by kernel_rfl) rfl #[.agg #[.int .i64 a0_0, .int .i64 a0_1, .int .i64 a0_2], .agg #[.int .i64 a2_0, .int .i64 a2_1, .int .i64 a2_2]] (by rfl) rfl rfl (by (try simp only [List.map_toArray, List.map_cons, List.map_nil]); first | done | rfl | (simp only [List.length_drop, List.length_take]; rfl)) ?_
 with_reducible refine (forest_Order.calls k a0_0 a0_1 a0_2 a2_0 a2_1 a2_2 t321 _ A6.out).mono ?_
 rintro e w14 ⟨rfl, hb⟩
 refine ⟨_, rfl, ?_⟩
 have n0_ := Aside0.mk (blk_below (g := gb316) (o := .cells #[.int .i64 a0_0, .int .i64 a0_1, .int .i64 a0_2] 23 (0, 0)) blkA hb)
 have n1_ := Aside0.mk (blk_below (g := gb317) (o := .cells #[.int .i64 a1_0, .int .i64 a1_1, .int .i64 a1_2] 23 (0, 0)) blkA hb)
 have n2_ := Aside0.mk (blk_below (g := gb318) (o := .cells #[.int .i64 a2_0, .int .i64 a2_1, .int .i64 a2_2] 23 (0, 0)) blkA hb)
 have n3_ := Aside0.mk (below_step (bwA) hb)
 clear BK316
 clear BK317
 clear BK318
 clear HB
 have BK316 := n0_
 have BK317 := n1_
 have BK318 := n2_
 have HB := n3_
 clear n0_ n1_ n2_ n3_
 (try clear hb); (try clear hb2); (try clear hk); (try clear hi)
 refine hK.out _ _ ⟨(blk_cell BK316.out 0).trans rfl, (blk_cell BK316.out 1).trans rfl, (blk_cell BK316.out 2).trans rfl, (blk_cell BK317.out 0).trans rfl, (blk_cell BK317.out 1).trans rfl, (blk_cell BK317.out 2).trans rfl, (blk_cell BK318.out 0).trans rfl, (blk_cell BK318.out 1).trans rfl, (blk_cell BK318.out 2).trans rfl⟩ (fun hHeld => ?_)
 clear hK K
 refine normA ?_
 refine pureA 9 (some 7) (mkB 12 1023) ?_
 refine pureA 10 (some 8) (mkB 12 2047) ?_
 refine pureA 11 (some 9) (mkB 12 4095) ?_
 refine done_ (done_of HT_.out (by kernel_rfl)) ?_
 have hnb15 := NB316_317.out
 have hnc15 := NB317_316.out
 have hnb16 := NB316_318.out
 have hnc16 := NB318_316.out
 have hcz17_0 : w14.cell? ⟨gb316, 0, none⟩ = some (.int .i64 a0_0) := (blk_cell BK316.out 0).trans rfl
 have hcz17_1 : w14.cell? ⟨gb316, 1, none⟩ = some (.int .i64 a0_1) := (blk_cell BK316.out 1).trans rfl
 have hcz17_2 : w14.cell? ⟨gb316, 2, none⟩ = some (.int .i64 a0_2) := (blk_cell BK316.out 2).trans rfl
 have hfz17_0 := blk_frozen BK316.out 0
 have hfz17_1 := blk_frozen BK316.out 1
 have hfz17_2 := blk_frozen BK316.out 2
 go_upto_region 4 with (first | ((with_reducible refine gate_dst (N := 10) rfl ?_); refine box_event ?hg (N := 10) ?hd (cs := #[.int .i64 0, .int .i64 0, .int .i64 0, .string (⟨#[]⟩ : ByteArray), .slice none 0 0]) (t := 27) ?hr ?_; (case hd => rfl); (case hg => rfl); (case hr => first | (go_simp; done) | (go_simp; rfl)); intro gb322 hg w18 hbox hb; have n0_ := Aside0.mk (blk_below (g := gb316) (o := .cells #[.int .i64 a0_0, .int .i64 a0_1, .int .i64 a0_2] 23 (0, 0)) blkA hb); have n1_ := Aside0.mk (blk_below (g := gb317) (o := .cells #[.int .i64 a1_0, .int .i64 a1_1, .int .i64 a1_2] 23 (0, 0)) blkA hb); have n2_ := Aside0.mk (blk_below (g := gb318) (o := .cells #[.int .i64 a2_0, .int .i64 a2_1, .int .i64 a2_2] 23 (0, 0)) blkA hb); have n3_ := Aside0.mk (below_step (bwA) hb); have n4_ := Aside0.mk (hbox); have n5_ := Aside0.mk ((by rw [hg]; exact (below_size (bwA)) : w.heap.size ≤ gb322)); have n6_ := Aside0.mk ((by rw [hg]; exact (below_size (bwA)) : w.heap.size ≤ gb322)); have n7_ := Aside0.mk ((by rw [hg]; exact Nat.ne_of_lt (blk_lt (g := gb316) (o := .cells #[.int .i64 a0_0, .int .i64 a0_1, .int .i64 a0_2] 23 (0, 0)) blkA) : gb316 ≠ gb322)); have n8_ := Aside0.mk ((by rw [hg]; exact Nat.ne_of_gt (blk_lt (g := gb316) (o := .cells #[.int .i64 a0_0, .int .i64 a0_1, .int .i64 a0_2] 23 (0, 0)) blkA) : gb322 ≠ gb316)); have n9_ := Aside0.mk ((by rw [hg]; exact Nat.ne_of_lt (blk_lt (g := gb317) (o := .cells #[.int .i64 a1_0, .int .i64 a1_1, .int .i64 a1_2] 23 (0, 0)) blkA) : gb317 ≠ gb322)); have n10_ := Aside0.mk ((by rw [hg]; exact Nat.ne_of_gt (blk_lt (g := gb317) (o := .cells #[.int .i64 a1_0, .int .i64 a1_1, .int .i64 a1_2] 23 (0, 0)) blkA) : gb322 ≠ gb317)); have n11_ := Aside0.mk ((by rw [hg]; exact Nat.ne_of_lt (blk_lt (g := gb318) (o := .cells #[.int .i64 a2_0, .int .i64 a2_1, .int .i64 a2_2] 23 (0, 0)) blkA) : gb318 ≠ gb322)); have n12_ := Aside0.mk ((by rw [hg]; exact Nat.ne_of_gt (blk_lt (g := gb318) (o := .cells #[.int .i64 a2_0, .int .i64 a2_1, .int .i64 a2_2] 23 (0, 0)) blkA) : gb322 ≠ gb318)); clear BK316; clear BK317; clear BK318; clear HB; have BK316 := n0_; have BK317 := n1_; have BK318 := n2_; have HB := n3_; have BK322 := n4_; have GW322 := n5_; have GE322 := n6_; have NB316_322 := n7_; have NB322_316 := n8_; have NB317_322 := n9_; have NB322_317 := n10_; have NB318_322 := n11_; have NB322_318 := n12_; clear n0_ n1_ n2_ n3_ n4_ n5_ n6_ n7_ n8_ n9_ n10_ n11_ n12_; clear hb hbox hg; have hnb19 := NB322_316.out; have hnc19 := NB316_322.out; have hnb20 := NB322_317.out; have hnc20 := NB317_322.out; have hnb21 := NB322_318.out; have hnc21 := NB318_322.out; have hcz22_0 : w18.cell? ⟨gb322, 0, none⟩ = some (.int .i64 0) := (blk_cell BK322.out 0).trans rfl; have hcz22_1 : w18.cell? ⟨gb322, 1, none⟩ = some (.int .i64 0) := (blk_cell BK322.out 1).trans rfl; have hcz22_2 : w18.cell? ⟨gb322, 2, none⟩ = some (.int .i64 0) := (blk_cell BK322.out 2).trans rfl; have hcz22_3 : w18.cell? ⟨gb322, 3, none⟩ = some (.string (⟨#[]⟩ : ByteArray)) := (blk_cell BK322.out 3).trans rfl; have hcz22_4 : w18.cell? ⟨gb322, 4, none⟩ = some (.slice none 0 0) := (blk_cell BK322.out 4).trans rfl; have hfz22_0 := blk_frozen BK322.out 0; have hfz22_1 := blk_frozen BK322.out 1; have hfz22_2 := blk_frozen BK322.out 2; have hfz22_3 := blk_frozen BK322.out 3; have hfz22_4 := blk_frozen BK322.out 4; have hnb23 := NB317_318.out; have hnc23 := NB318_317.out; have hcz24_0 : w18.cell? ⟨gb317, 0, none⟩ = some (.int .i64 a1_0) := (blk_cell BK317.out 0).trans rfl; have hcz24_1 : w18.cell? ⟨gb317, 1, none⟩ = some (.int .i64 a1_1) := (blk_cell BK317.out 1).trans rfl; have hcz24_2 : w18.cell? ⟨gb317, 2, none⟩ = some (.int .i64 a1_2) := (blk_cell BK317.out 2).trans rfl; have hfz24_0 := blk_frozen BK317.out 0; have hfz24_1 := blk_frozen BK317.out 1; have hfz24_2 := blk_frozen BK317.out 2) | ((with_reducible refine gate_dst (N := 11) rfl ?_); refine box_event ?hg (N := 11) ?hd (cs := #[.int .i64 0, .int .i64 0, .int .i64 0, .string (⟨#[]⟩ : ByteArray), .slice none 0 0]) (t := 27) ?hr ?_; (case hd => rfl); (case hg => rfl); (case hr => first | (go_simp; done) | (go_simp; rfl)); intro gb323 hg w25 hbox hb; have n0_ := Aside0.mk (blk_below (g := gb316) (o := .cells #[.int .i64 a0_0, .int .i64 a0_1, .int .i64 a0_2] 23 (0, 0)) (by (with_reducible repeat (first | refine blk_drewN ?_ _ | refine blk_drew ?_ | refine blk_alloc ?_ _)); refine blk_far ?_ NB316_322.out _; (with_reducible repeat (first | refine blk_drewN ?_ _ | refine blk_drew ?_ | refine blk_alloc ?_ _)); refine blk_far ?_ NB316_322.out _; (with_reducible repeat (first | refine blk_drewN ?_ _ | refine blk_drew ?_ | refine blk_alloc ?_ _)); refine blk_far ?_ NB316_322.out _; (with_reducible repeat (first | refine blk_drewN ?_ _ | refine blk_drew ?_ | refine blk_alloc ?_ _)); refine blk_far ?_ NB316_322.out _; (with_reducible repeat (first | refine blk_drewN ?_ _ | refine blk_drew ?_ | refine blk_alloc ?_ _)); refine blk_far ?_ NB316_322.out _; (with_reducible repeat (first | refine blk_drewN ?_ _ | refine blk_drew ?_ | refine blk_alloc ?_ _)); exact BK316.out) hb); have n1_ := Aside0.mk (blk_below (g := gb317) (o := .cells #[.int .i64 a1_0, .int .i64 a1_1, .int .i64 a1_2] 23 (0, 0)) (by (with_reducible repeat (first | refine blk_drewN ?_ _ | refine blk_drew ?_ | refine blk_alloc ?_ _)); refine blk_far ?_ NB317_322.out _; (with_reducible repeat (first | refine blk_drewN ?_ _ | refine blk_drew ?_ | refine blk_alloc ?_ _)); refine blk_far ?_ NB317_322.out _; (with_reducible repeat (first | refine blk_drewN ?_ _ | refine blk_drew ?_ | refine blk_alloc ?_ _)); refine blk_far ?_ NB317_322.out _; (with_reducible repeat (first | refine blk_drewN ?_ _ | refine blk_drew ?_ | refine blk_alloc ?_ _)); refine blk_far ?_ NB317_322.out _; (with_reducible repeat (first | refine blk_drewN ?_ _ | refine blk_drew ?_ | refine blk_alloc ?_ _)); refine blk_far ?_ NB317_322.out _; (with_reducible repeat (first | refine blk_drewN ?_ _ | refine blk_drew ?_ | refine blk_alloc ?_ _)); exact BK317.out) hb); have n2_ := Aside0.mk (blk_below (g := gb318) (o := .cells #[.int .i64 a2_0, .int .i64 a2_1, .int .i64 a2_2] 23 (0, 0)) (by (with_reducible repeat (first | refine blk_drewN ?_ _ | refine blk_drew ?_ | refine blk_alloc ?_ _)); refine blk_far ?_ NB318_322.out _; (with_reducible repeat (first | refine blk_drewN ?_ _ | refine blk_drew ?_ | refine blk_alloc ?_ _)); refine blk_far ?_ NB318_322.out _; (with_reducible repeat (first | refine blk_drewN ?_ _ | refine blk_drew ?_ | refine blk_alloc ?_ _)); refine blk_far ?_ NB318_322.out _; (with_reducible repeat (first | refine blk_drewN ?_ _ | refine blk_drew ?_ | refine blk_alloc ?_ _)); refine blk_far ?_ NB318_322.out _; (with_reducible repeat (first | refine blk_drewN ?_ _ | refine blk_drew ?_ | refine blk_alloc ?_ _)); refine blk_far ?_ NB318_322.out _; (with_reducible repeat (first | refine blk_drewN ?_ _ | refine blk_drew ?_ | refine blk_alloc ?_ _)); exact BK318.out) hb); have n3_ := Aside0.mk (blk_below (g := gb322) (o := .cells #[.int .i64 a0_0, .int .i64 a0_1, .int .i64 a0_2, .string (⟨#[116]⟩ : ByteArray), .slice none 0 0] 27 (0, 0)) (by (with_reducible repeat (first | refine blk_drewN ?_ _ | refine blk_drew ?_ | refine blk_alloc ?_ _)); refine blk_put (cs := #[.int .i64 a0_0, .int .i64 a0_1, .int .i64 a0_2, .string (⟨#[116]⟩ : ByteArray), .slice none 0 0]) ?_ 4 _ rfl; (with_reducible repeat (first | refine blk_drewN ?_ _ | refine blk_drew ?_ | refine blk_alloc ?_ _)); refine blk_put (cs := #[.int .i64 a0_0, .int .i64 a0_1, .int .i64 a0_2, .string (⟨#[]⟩ : ByteArray), .slice none 0 0]) ?_ 3 _ rfl; (with_reducible repeat (first | refine blk_drewN ?_ _ | refine blk_drew ?_ | refine blk_alloc ?_ _)); refine blk_put (cs := #[.int .i64 a0_0, .int .i64 a0_1, .int .i64 0, .string (⟨#[]⟩ : ByteArray), .slice none 0 0]) ?_ 2 _ rfl; (with_reducible repeat (first | refine blk_drewN ?_ _ | refine blk_drew ?_ | refine blk_alloc ?_ _)); refine blk_put (cs := #[.int .i64 a0_0, .int .i64 0, .int .i64 0, .string (⟨#[]⟩ : ByteArray), .slice none 0 0]) ?_ 1 _ rfl; (with_reducible repeat (first | refine blk_drewN ?_ _ | refine blk_drew ?_ | refine blk_alloc ?_ _)); refine blk_put (cs := #[.int .i64 0, .int .i64 0, .int .i64 0, .string (⟨#[]⟩ : ByteArray), .slice none 0 0]) ?_ 0 _ rfl; (with_reducible repeat (first | refine blk_drewN ?_ _ | refine blk_drew ?_ | refine blk_alloc ?_ _)); exact BK322.out) hb); have n4_ := Aside0.mk (below_step (bwA) hb); have n5_ := Aside0.mk (hbox); have n6_ := Aside0.mk ((by rw [hg]; exact (below_size (bwA)) : w.heap.size ≤ gb323)); have n7_ := Aside0.mk ((by rw [hg]; exact (below_size (bwA)) : w.heap.size ≤ gb323)); have n8_ := Aside0.mk ((by rw [hg]; exact Nat.ne_of_lt (blk_lt (g := gb316) (o := .cells #[.int .i64 a0_0, .int .i64 a0_1, .int .i64 a0_2] 23 (0, 0)) (by (with_reducible repeat (first | refine blk_drewN ?_ _ | refine blk_drew ?_ | refine blk_alloc ?_ _)); refine blk_far ?_ NB316_322.out _; (with_reducible repeat (first | refine blk_drewN ?_ _ | refine blk_drew ?_ | refine blk_alloc ?_ _)); refine blk_far ?_ NB316_322.out _; (with_reducible repeat (first | refine blk_drewN ?_ _ | refine blk_drew ?_ | refine blk_alloc ?_ _)); refine blk_far ?_ NB316_322.out _; (with_reducible repeat (first | refine blk_drewN ?_ _ | refine blk_drew ?_ | refine blk_alloc ?_ _)); refine blk_far ?_ NB316_322.out _; (with_reducible repeat (first | refine blk_drewN ?_ _ | refine blk_drew ?_ | refine blk_alloc ?_ _)); refine blk_far ?_ NB316_322.out _; (with_reducible repeat (first | refine blk_drewN ?_ _ | refine blk_drew ?_ | refine blk_alloc ?_ _)); exact BK316.out)) : gb316 ≠ gb323)); have n9_ := Aside0.mk ((by rw [hg]; exact Nat.ne_of_gt (blk_lt (g := gb316) (o := .cells #[.int .i64 a0_0, .int .i64 a0_1, .int .i64 a0_2] 23 (0, 0)) (by (with_reducible repeat (first | refine blk_drewN ?_ _ | refine blk_drew ?_ | refine blk_alloc ?_ _)); refine blk_far ?_ NB316_322.out _; (with_reducible repeat (first | refine blk_drewN ?_ _ | refine blk_drew ?_ | refine blk_alloc ?_ _)); refine blk_far ?_ NB316_322.out _; (with_reducible repeat (first | refine blk_drewN ?_ _ | refine blk_drew ?_ | refine blk_alloc ?_ _)); refine blk_far ?_ NB316_322.out _; (with_reducible repeat (first | refine blk_drewN ?_ _ | refine blk_drew ?_ | refine blk_alloc ?_ _)); refine blk_far ?_ NB316_322.out _; (with_reducible repeat (first | refine blk_drewN ?_ _ | refine blk_drew ?_ | refine blk_alloc ?_ _)); refine blk_far ?_ NB316_322.out _; (with_reducible repeat (first | refine blk_drewN ?_ _ | refine blk_drew ?_ | refine blk_alloc ?_ _)); exact BK316.out)) : gb323 ≠ gb316)); have n10_ := Aside0.mk ((by rw [hg]; exact Nat.ne_of_lt (blk_lt (g := gb317) (o := .cells #[.int .i64 a1_0, .int .i64 a1_1, .int .i64 a1_2] 23 (0, 0)) (by (with_reducible repeat (first | refine blk_drewN ?_ _ | refine blk_drew ?_ | refine blk_alloc ?_ _)); refine blk_far ?_ NB317_322.out _; (with_reducible repeat (first | refine blk_drewN ?_ _ | refine blk_drew ?_ | refine blk_alloc ?_ _)); refine blk_far ?_ NB317_322.out _; (with_reducible repeat (first | refine blk_drewN ?_ _ | refine blk_drew ?_ | refine blk_alloc ?_ _)); refine blk_far ?_ NB317_322.out _; (with_reducible repeat (first | refine blk_drewN ?_ _ | refine blk_drew ?_ | refine blk_alloc ?_ _)); refine blk_far ?_ NB317_322.out _; (with_reducible repeat (first | refine blk_drewN ?_ _ | refine blk_drew ?_ | refine blk_alloc ?_ _)); refine blk_far ?_ NB317_322.out _; (with_reducible repeat (first | refine blk_drewN ?_ _ | refine blk_drew ?_ | refine blk_alloc ?_ _)); exact BK317.out)) : gb317 ≠ gb323)); have n11_ := Aside0.mk ((by rw [hg]; exact Nat.ne_of_gt (blk_lt (g := gb317) (o := .cells #[.int .i64 a1_0, .int .i64 a1_1, .int .i64 a1_2] 23 (0, 0)) (by (with_reducible repeat (first | refine blk_drewN ?_ _ | refine blk_drew ?_ | refine blk_alloc ?_ _)); refine blk_far ?_ NB317_322.out _; (with_reducible repeat (first | refine blk_drewN ?_ _ | refine blk_drew ?_ | refine blk_alloc ?_ _)); refine blk_far ?_ NB317_322.out _; (with_reducible repeat (first | refine blk_drewN ?_ _ | refine blk_drew ?_ | refine blk_alloc ?_ _)); refine blk_far ?_ NB317_322.out _; (with_reducible repeat (first | refine blk_drewN ?_ _ | refine blk_drew ?_ | refine blk_alloc ?_ _)); refine blk_far ?_ NB317_322.out _; (with_reducible repeat (first | refine blk_drewN ?_ _ | refine blk_drew ?_ | refine blk_alloc ?_ _)); refine blk_far ?_ NB317_322.out _; (with_reducible repeat (first | refine blk_drewN ?_ _ | refine blk_drew ?_ | refine blk_alloc ?_ _)); exact BK317.out)) : gb323 ≠ gb317)); have n12_ := Aside0.mk ((by rw [hg]; exact Nat.ne_of_lt (blk_lt (g := gb318) (o := .cells #[.int .i64 a2_0, .int .i64 a2_1, .int .i64 a2_2] 23 (0, 0)) (by (with_reducible repeat (first | refine blk_drewN ?_ _ | refine blk_drew ?_ | refine blk_alloc ?_ _)); refine blk_far ?_ NB318_322.out _; (with_reducible repeat (first | refine blk_drewN ?_ _ | refine blk_drew ?_ | refine blk_alloc ?_ _)); refine blk_far ?_ NB318_322.out _; (with_reducible repeat (first | refine blk_drewN ?_ _ | refine blk_drew ?_ | refine blk_alloc ?_ _)); refine blk_far ?_ NB318_322.out _; (with_reducible repeat (first | refine blk_drewN ?_ _ | refine blk_drew ?_ | refine blk_alloc ?_ _)); refine blk_far ?_ NB318_322.out _; (with_reducible repeat (first | refine blk_drewN ?_ _ | refine blk_drew ?_ | refine blk_alloc ?_ _)); refine blk_far ?_ NB318_322.out _; (with_reducible repeat (first | refine blk_drewN ?_ _ | refine blk_drew ?_ | refine blk_alloc ?_ _)); exact BK318.out)) : gb318 ≠ gb323)); have n13_ := Aside0.mk ((by rw [hg]; exact Nat.ne_of_gt (blk_lt (g := gb318) (o := .cells #[.int .i64 a2_0, .int .i64 a2_1, .int .i64 a2_2] 23 (0, 0)) (by (with_reducible repeat (first | refine blk_drewN ?_ _ | refine blk_drew ?_ | refine blk_alloc ?_ _)); refine blk_far ?_ NB318_322.out _; (with_reducible repeat (first | refine blk_drewN ?_ _ | refine blk_drew ?_ | refine blk_alloc ?_ _)); refine blk_far ?_ NB318_322.out _; (with_reducible repeat (first | refine blk_drewN ?_ _ | refine blk_drew ?_ | refine blk_alloc ?_ _)); refine blk_far ?_ NB318_322.out _; (with_reducible repeat (first | refine blk_drewN ?_ _ | refine blk_drew ?_ | refine blk_alloc ?_ _)); refine blk_far ?_ NB318_322.out _; (with_reducible repeat (first | refine blk_drewN ?_ _ | refine blk_drew ?_ | refine blk_alloc ?_ _)); refine blk_far ?_ NB318_322.out _; (with_reducible repeat (first | refine blk_drewN ?_ _ | refine blk_drew ?_ | refine blk_alloc ?_ _)); exact BK318.out)) : gb323 ≠ gb318)); have n14_ := Aside0.mk ((by rw [hg]; exact Nat.ne_of_lt (blk_lt (g := gb322) (o := .cells #[.int .i64 a0_0, .int .i64 a0_1, .int .i64 a0_2, .string (⟨#[116]⟩ : ByteArray), .slice none 0 0] 27 (0, 0)) (by (with_reducible repeat (first | refine blk_drewN ?_ _ | refine blk_drew ?_ | refine blk_alloc ?_ _)); refine blk_put (cs := #[.int .i64 a0_0, .int .i64 a0_1, .int .i64 a0_2, .string (⟨#[116]⟩ : ByteArray), .slice none 0 0]) ?_ 4 _ rfl; (with_reducible repeat (first | refine blk_drewN ?_ _ | refine blk_drew ?_ | refine blk_alloc ?_ _)); refine blk_put (cs := #[.int .i64 a0_0, .int .i64 a0_1, .int .i64 a0_2, .string (⟨#[]⟩ : ByteArray), .slice none 0 0]) ?_ 3 _ rfl; (with_reducible repeat (first | refine blk_drewN ?_ _ | refine blk_drew ?_ | refine blk_alloc ?_ _)); refine blk_put (cs := #[.int .i64 a0_0, .int .i64 a0_1, .int .i64 0, .string (⟨#[]⟩ : ByteArray), .slice none 0 0]) ?_ 2 _ rfl; (with_reducible repeat (first | refine blk_drewN ?_ _ | refine blk_drew ?_ | refine blk_alloc ?_ _)); refine blk_put (cs := #[.int .i64 a0_0, .int .i64 0, .int .i64 0, .string (⟨#[]⟩ : ByteArray), .slice none 0 0]) ?_ 1 _ rfl; (with_reducible repeat (first | refine blk_drewN ?_ _ | refine blk_drew ?_ | refine blk_alloc ?_ _)); refine blk_put (cs := #[.int .i64 0, .int .i64 0, .int .i64 0, .string (⟨#[]⟩ : ByteArray), .slice none 0 0]) ?_ 0 _ rfl; (with_reducible repeat (first | refine blk_drewN ?_ _ | refine blk_drew ?_ | refine blk_alloc ?_ _)); exact BK322.out)) : gb322 ≠ gb323)); have n15_ := Aside0.mk ((by rw [hg]; exact Nat.ne_of_gt (blk_lt (g := gb322) (o := .cells #[.int .i64 a0_0, .int .i64 a0_1, .int .i64 a0_2, .string (⟨#[116]⟩ : ByteArray), .slice none 0 0] 27 (0, 0)) (by (with_reducible repeat (first | refine blk_drewN ?_ _ | refine blk_drew ?_ | refine blk_alloc ?_ _)); refine blk_put (cs := #[.int .i64 a0_0, .int .i64 a0_1, .int .i64 a0_2, .string (⟨#[116]⟩ : ByteArray), .slice none 0 0]) ?_ 4 _ rfl; (with_reducible repeat (first | refine blk_drewN ?_ _ | refine blk_drew ?_ | refine blk_alloc ?_ _)); refine blk_put (cs := #[.int .i64 a0_0, .int .i64 a0_1, .int .i64 a0_2, .string (⟨#[]⟩ : ByteArray), .slice none 0 0]) ?_ 3 _ rfl; (with_reducible repeat (first | refine blk_drewN ?_ _ | refine blk_drew ?_ | refine blk_alloc ?_ _)); refine blk_put (cs := #[.int .i64 a0_0, .int .i64 a0_1, .int .i64 0, .string (⟨#[]⟩ : ByteArray), .slice none 0 0]) ?_ 2 _ rfl; (with_reducible repeat (first | refine blk_drewN ?_ _ | refine blk_drew ?_ | refine blk_alloc ?_ _)); refine blk_put (cs := #[.int .i64 a0_0, .int .i64 0, .int .i64 0, .string (⟨#[]⟩ : ByteArray), .slice none 0 0]) ?_ 1 _ rfl; (with_reducible repeat (first | refine blk_drewN ?_ _ | refine blk_drew ?_ | refine blk_alloc ?_ _)); refine blk_put (cs := #[.int .i64 0, .int .i64 0, .int .i64 0, .string (⟨#[]⟩ : ByteArray), .slice none 0 0]) ?_ 0 _ rfl; (with_reducible repeat (first | refine blk_drewN ?_ _ | refine blk_drew ?_ | refine blk_alloc ?_ _)); exact BK322.out)) : gb323 ≠ gb322)); clear BK316; clear BK317; clear BK318; clear BK322; clear HB; have BK316 := n0_; have BK317 := n1_; have BK318 := n2_; have BK322 := n3_; have HB := n4_; have BK323 := n5_; have GW323 := n6_; have GE323 := n7_; have NB316_323 := n8_; have NB323_316 := n9_; have NB317_323 := n10_; have NB323_317 := n11_; have NB318_323 := n12_; have NB323_318 := n13_; have NB322_323 := n14_; have NB323_322 := n15_; clear n0_ n1_ n2_ n3_ n4_ n5_ n6_ n7_ n8_ n9_ n10_ n11_ n12_ n13_ n14_ n15_; clear hb hbox hg; have hnb26 := NB323_316.out; have hnc26 := NB316_323.out; have hnb27 := NB323_317.out; have hnc27 := NB317_323.out; have hnb28 := NB323_318.out; have hnc28 := NB318_323.out; have hnb29 := NB323_322.out; have hnc29 := NB322_323.out; have hcz30_0 : w25.cell? ⟨gb323, 0, none⟩ = some (.int .i64 0) := (blk_cell BK323.out 0).trans rfl; have hcz30_1 : w25.cell? ⟨gb323, 1, none⟩ = some (.int .i64 0) := (blk_cell BK323.out 1).trans rfl; have hcz30_2 : w25.cell? ⟨gb323, 2, none⟩ = some (.int .i64 0) := (blk_cell BK323.out 2).trans rfl; have hcz30_3 : w25.cell? ⟨gb323, 3, none⟩ = some (.string (⟨#[]⟩ : ByteArray)) := (blk_cell BK323.out 3).trans rfl; have hcz30_4 : w25.cell? ⟨gb323, 4, none⟩ = some (.slice none 0 0) := (blk_cell BK323.out 4).trans rfl; have hfz30_0 := blk_frozen BK323.out 0; have hfz30_1 := blk_frozen BK323.out 1; have hfz30_2 := blk_frozen BK323.out 2; have hfz30_3 := blk_frozen BK323.out 3; have hfz30_4 := blk_frozen BK323.out 4))
 (try simp only [Act.put, List.setIfInBounds_toArray, List.set_cons_zero, List.set_cons_succ])
 go_cut [39] (fun v39 wc => ∃ (kq : Nat) (x39_6 : Bool), v39 = .bool x39_6 ∧ Aside0 (caduceuslaw06_EventOrder.j0 kq t319 t320 t321 x39_6 a0_0 a0_1 a0_2 a1_0 a1_1 a1_2 = some r) ∧ Aside0 (kq ≤ k) ∧ Aside0 (wc.heap[gb316]? = some (.cells #[.int .i64 a0_0, .int .i64 a0_1, .int .i64 a0_2] 23 (0, 0))) ∧ Aside0 (wc.heap[gb317]? = some (.cells #[.int .i64 a1_0, .int .i64 a1_1, .int .i64 a1_2] 23 (0, 0))) ∧ Aside0 (wc.heap[gb318]? = some (.cells #[.int .i64 a2_0, .int .i64 a2_1, .int .i64 a2_2] 23 (0, 0))) ∧ Aside0 (wc.heap[gb322]? = some (.cells #[.int .i64 a0_0, .int .i64 a0_1, .int .i64 a0_2, .string (⟨#[116]⟩ : ByteArray), (.slice none 0 0)] 27 (0, 0))) ∧ Aside0 (wc.heap[gb323]? = some (.cells #[.int .i64 a1_0, .int .i64 a1_1, .int .i64 a1_2, .string (⟨#[84]⟩ : ByteArray), (.slice none 0 0)] 27 (0, 0))) ∧ Aside0 (Below w.heap.size w wc))
 case first =>
  have H := HC7.out
  clear HC7
  replace H := Option.bind_eq_some_iff.mp H
  obtain ⟨t324, A310, H⟩ := H
  replace H : (if t324 = true then (caduceuslaw06_EventOrder.j0 k t319 t320 t321 true a0_0 a0_1 a0_2 a1_0 a1_1 a1_2) else ((event_Alike.f a0_0 a0_1 a0_2 (⟨#[116]⟩ : ByteArray) ([] : List (S57)) a1_0 a1_1 a1_2 (⟨#[84]⟩ : ByteArray) ([] : List (S57))).bind fun t325 => (if t325 = true then ((event_Same.f k a0_0 a0_1 a0_2 (⟨#[116]⟩ : ByteArray) ([] : List (S57)) a0_0 a0_1 a0_2 (⟨#[116]⟩ : ByteArray) ([] : List (S57))).bind fun t326 => (caduceuslaw06_EventOrder.j0 k t319 t320 t321 (!t326) a0_0 a0_1 a0_2 a1_0 a1_1 a1_2)) else (caduceuslaw06_EventOrder.j0 k t319 t320 t321 true a0_0 a0_1 a0_2 a1_0 a1_1 a1_2)))) = some r := H
  have A31 := Aside0.mk A310
  clear A310
  by_cases c32 : t324 = true
  ·subst c32
   have H1 : (caduceuslaw06_EventOrder.j0 k t319 t320 t321 true a0_0 a0_1 a0_2 a1_0 a1_1 a1_2) = some r := by rw [if_pos rfl] at H; exact H
   clear H
   have H := H1
   clear H1
   have H' := Aside0.mk H
   clear H
   have hnb33 := NB322_316.out
   have hnc33 := NB316_322.out
   have hnb34 := NB322_317.out
   have hnc34 := NB317_322.out
   have hnb35 := NB322_318.out
   have hnc35 := NB318_322.out
   have hnb36 := NB322_323.out
   have hnc36 := NB323_322.out
   have hcz37_0 : w25.cell? ⟨gb322, 0, none⟩ = some (.int .i64 a0_0) := (blk_cell BK322.out 0).trans rfl
   have hcz37_1 : w25.cell? ⟨gb322, 1, none⟩ = some (.int .i64 a0_1) := (blk_cell BK322.out 1).trans rfl
   have hcz37_2 : w25.cell? ⟨gb322, 2, none⟩ = some (.int .i64 a0_2) := (blk_cell BK322.out 2).trans rfl
   have hcz37_3 : w25.cell? ⟨gb322, 3, none⟩ = some (.string (⟨#[116]⟩ : ByteArray)) := (blk_cell BK322.out 3).trans rfl
   have hcz37_4 : w25.cell? ⟨gb322, 4, none⟩ = some (.slice none 0 0) := (blk_cell BK322.out 4).trans rfl
   have hfz37_0 := blk_frozen BK322.out 0
   have hfz37_1 := blk_frozen BK322.out 1
   have hfz37_2 := blk_frozen BK322.out 2
   have hfz37_3 := blk_frozen BK322.out 3
   have hfz37_4 := blk_frozen BK322.out 4
   have hnb38 := NB323_316.out
   have hnc38 := NB316_323.out
   have hnb39 := NB323_317.out
   have hnc39 := NB317_323.out
   have hnb40 := NB323_318.out
   have hnc40 := NB318_323.out
   have hcz41_0 : w25.cell? ⟨gb323, 0, none⟩ = some (.int .i64 0) := (blk_cell BK323.out 0).trans rfl
   have hcz41_1 : w25.cell? ⟨gb323, 1, none⟩ = some (.int .i64 0) := (blk_cell BK323.out 1).trans rfl
   have hcz41_2 : w25.cell? ⟨gb323, 2, none⟩ = some (.int .i64 0) := (blk_cell BK323.out 2).trans rfl
   have hcz41_3 : w25.cell? ⟨gb323, 3, none⟩ = some (.string (⟨#[]⟩ : ByteArray)) := (blk_cell BK323.out 3).trans rfl
   have hcz41_4 : w25.cell? ⟨gb323, 4, none⟩ = some (.slice none 0 0) := (blk_cell BK323.out 4).trans rfl
   have hfz41_0 := blk_frozen BK323.out 0
   have hfz41_1 := blk_frozen BK323.out 1
   have hfz41_2 := blk_frozen BK323.out 2
   have hfz41_3 := blk_frozen BK323.out 3
   have hfz41_4 := blk_frozen BK323.out 4
   go_wp2_with (first | ((with_reducible refine gate_callee (f := 7) rfl ?_); refine goesA (some 27) Tryz.func7 #[.agg #[.int .i64 a0_0, .int .i64 a0_1, .int .i64 a0_2, .string (⟨#[116]⟩ : ByteArray), .slice none 0 0], .agg #[.int .i64 a1_0, .int .i64 a1_1, .int .i64 a1_2, .string (⟨#[84]⟩ : ByteArray), .slice none 0 0]] ?_; (refine (event_Same.calls k a0_0 a0_1 a0_2 (⟨#[116]⟩ : ByteArray) _ _ ([] : List (S57)) a1_0 a1_1 a1_2 (⟨#[84]⟩ : ByteArray) _ _ ([] : List (S57)) true _ ?side1 ?side2 ?side3 ?side4 A31.out).mono ?_); (case side1 => exact Kd.C_nil _ _); (case side2 => exact Nat.le_refl _); (case side3 => exact Kd.C_nil _ _); (case side4 => exact Nat.le_refl _); rintro e w42 ⟨rfl, hb⟩; refine ⟨_, rfl, ?_⟩; have n0_ := Aside0.mk (blk_below (g := gb316) (o := .cells #[.int .i64 a0_0, .int .i64 a0_1, .int .i64 a0_2] 23 (0, 0)) (by (with_reducible repeat (first | refine blk_drewN ?_ _ | refine blk_drew ?_ | refine blk_alloc ?_ _)); refine blk_far ?_ NB316_323.out _; (with_reducible repeat (first | refine blk_drewN ?_ _ | refine blk_drew ?_ | refine blk_alloc ?_ _)); refine blk_far ?_ NB316_323.out _; (with_reducible repeat (first | refine blk_drewN ?_ _ | refine blk_drew ?_ | refine blk_alloc ?_ _)); refine blk_far ?_ NB316_323.out _; (with_reducible repeat (first | refine blk_drewN ?_ _ | refine blk_drew ?_ | refine blk_alloc ?_ _)); refine blk_far ?_ NB316_323.out _; (with_reducible repeat (first | refine blk_drewN ?_ _ | refine blk_drew ?_ | refine blk_alloc ?_ _)); refine blk_far ?_ NB316_323.out _; (with_reducible repeat (first | refine blk_drewN ?_ _ | refine blk_drew ?_ | refine blk_alloc ?_ _)); exact BK316.out) hb); have n1_ := Aside0.mk (blk_below (g := gb317) (o := .cells #[.int .i64 a1_0, .int .i64 a1_1, .int .i64 a1_2] 23 (0, 0)) (by (with_reducible repeat (first | refine blk_drewN ?_ _ | refine blk_drew ?_ | refine blk_alloc ?_ _)); refine blk_far ?_ NB317_323.out _; (with_reducible repeat (first | refine blk_drewN ?_ _ | refine blk_drew ?_ | refine blk_alloc ?_ _)); refine blk_far ?_ NB317_323.out _; (with_reducible repeat (first | refine blk_drewN ?_ _ | refine blk_drew ?_ | refine blk_alloc ?_ _)); refine blk_far ?_ NB317_323.out _; (with_reducible repeat (first | refine blk_drewN ?_ _ | refine blk_drew ?_ | refine blk_alloc ?_ _)); refine blk_far ?_ NB317_323.out _; (with_reducible repeat (first | refine blk_drewN ?_ _ | refine blk_drew ?_ | refine blk_alloc ?_ _)); refine blk_far ?_ NB317_323.out _; (with_reducible repeat (first | refine blk_drewN ?_ _ | refine blk_drew ?_ | refine blk_alloc ?_ _)); exact BK317.out) hb); have n2_ := Aside0.mk (blk_below (g := gb318) (o := .cells #[.int .i64 a2_0, .int .i64 a2_1, .int .i64 a2_2] 23 (0, 0)) (by (with_reducible repeat (first | refine blk_drewN ?_ _ | refine blk_drew ?_ | refine blk_alloc ?_ _)); refine blk_far ?_ NB318_323.out _; (with_reducible repeat (first | refine blk_drewN ?_ _ | refine blk_drew ?_ | refine blk_alloc ?_ _)); refine blk_far ?_ NB318_323.out _; (with_reducible repeat (first | refine blk_drewN ?_ _ | refine blk_drew ?_ | refine blk_alloc ?_ _)); refine blk_far ?_ NB318_323.out _; (with_reducible repeat (first | refine blk_drewN ?_ _ | refine blk_drew ?_ | refine blk_alloc ?_ _)); refine blk_far ?_ NB318_323.out _; (with_reducible repeat (first | refine blk_drewN ?_ _ | refine blk_drew ?_ | refine blk_alloc ?_ _)); refine blk_far ?_ NB318_323.out _; (with_reducible repeat (first | refine blk_drewN ?_ _ | refine blk_drew ?_ | refine blk_alloc ?_ _)); exact BK318.out) hb); have n3_ := Aside0.mk (blk_below (g := gb322) (o := .cells #[.int .i64 a0_0, .int .i64 a0_1, .int .i64 a0_2, .string (⟨#[116]⟩ : ByteArray), .slice none 0 0] 27 (0, 0)) (by (with_reducible repeat (first | refine blk_drewN ?_ _ | refine blk_drew ?_ | refine blk_alloc ?_ _)); refine blk_far ?_ NB322_323.out _; (with_reducible repeat (first | refine blk_drewN ?_ _ | refine blk_drew ?_ | refine blk_alloc ?_ _)); refine blk_far ?_ NB322_323.out _; (with_reducible repeat (first | refine blk_drewN ?_ _ | refine blk_drew ?_ | refine blk_alloc ?_ _)); refine blk_far ?_ NB322_323.out _; (with_reducible repeat (first | refine blk_drewN ?_ _ | refine blk_drew ?_ | refine blk_alloc ?_ _)); refine blk_far ?_ NB322_323.out _; (with_reducible repeat (first | refine blk_drewN ?_ _ | refine blk_drew ?_ | refine blk_alloc ?_ _)); refine blk_far ?_ NB322_323.out _; (with_reducible repeat (first | refine blk_drewN ?_ _ | refine blk_drew ?_ | refine blk_alloc ?_ _)); exact BK322.out) hb); have n4_ := Aside0.mk (blk_below (g := gb323) (o := .cells #[.int .i64 a1_0, .int .i64 a1_1, .int .i64 a1_2, .string (⟨#[84]⟩ : ByteArray), .slice none 0 0] 27 (0, 0)) (by (with_reducible repeat (first | refine blk_drewN ?_ _ | refine blk_drew ?_ | refine blk_alloc ?_ _)); refine blk_put (cs := #[.int .i64 a1_0, .int .i64 a1_1, .int .i64 a1_2, .string (⟨#[84]⟩ : ByteArray), .slice none 0 0]) ?_ 4 _ rfl; (with_reducible repeat (first | refine blk_drewN ?_ _ | refine blk_drew ?_ | refine blk_alloc ?_ _)); refine blk_put (cs := #[.int .i64 a1_0, .int .i64 a1_1, .int .i64 a1_2, .string (⟨#[]⟩ : ByteArray), .slice none 0 0]) ?_ 3 _ rfl; (with_reducible repeat (first | refine blk_drewN ?_ _ | refine blk_drew ?_ | refine blk_alloc ?_ _)); refine blk_put (cs := #[.int .i64 a1_0, .int .i64 a1_1, .int .i64 0, .string (⟨#[]⟩ : ByteArray), .slice none 0 0]) ?_ 2 _ rfl; (with_reducible repeat (first | refine blk_drewN ?_ _ | refine blk_drew ?_ | refine blk_alloc ?_ _)); refine blk_put (cs := #[.int .i64 a1_0, .int .i64 0, .int .i64 0, .string (⟨#[]⟩ : ByteArray), .slice none 0 0]) ?_ 1 _ rfl; (with_reducible repeat (first | refine blk_drewN ?_ _ | refine blk_drew ?_ | refine blk_alloc ?_ _)); refine blk_put (cs := #[.int .i64 0, .int .i64 0, .int .i64 0, .string (⟨#[]⟩ : ByteArray), .slice none 0 0]) ?_ 0 _ rfl; (with_reducible repeat (first | refine blk_drewN ?_ _ | refine blk_drew ?_ | refine blk_alloc ?_ _)); exact BK323.out) hb); have n5_ := Aside0.mk (below_step (bwA) hb); clear BK316; clear BK317; clear BK318; clear BK322; clear BK323; clear HB; have BK316 := n0_; have BK317 := n1_; have BK318 := n2_; have BK322 := n3_; have BK323 := n4_; have HB := n5_; clear n0_ n1_ n2_ n3_ n4_ n5_; (try clear hb); (try clear hb2); (try clear hk); (try clear hi)))
   go_meet
   case rel => exact ⟨_, (true), (endS), H', ⟨by first | omega | exact Nat.le_refl _⟩, ⟨by (with_reducible repeat (first | refine blk_drewN ?_ _ | refine blk_drew ?_ | refine blk_alloc ?_ _)); exact BK316.out⟩, ⟨by (with_reducible repeat (first | refine blk_drewN ?_ _ | refine blk_drew ?_ | refine blk_alloc ?_ _)); exact BK317.out⟩, ⟨by (with_reducible repeat (first | refine blk_drewN ?_ _ | refine blk_drew ?_ | refine blk_alloc ?_ _)); exact BK318.out⟩, ⟨by (with_reducible repeat (first | refine blk_drewN ?_ _ | refine blk_drew ?_ | refine blk_alloc ?_ _)); exact BK322.out⟩, ⟨by (with_reducible repeat (first | refine blk_drewN ?_ _ | refine blk_drew ?_ | refine blk_alloc ?_ _)); exact BK323.out⟩, ⟨bwA⟩⟩
  ·replace c32 := Bool.eq_false_iff.mpr c32
   subst c32
   have H1 : ((event_Alike.f a0_0 a0_1 a0_2 (⟨#[116]⟩ : ByteArray) ([] : List (S57)) a1_0 a1_1 a1_2 (⟨#[84]⟩ : ByteArray) ([] : List (S57))).bind fun t325 => (if t325 = true then ((event_Same.f k a0_0 a0_1 a0_2 (⟨#[116]⟩ : ByteArray) ([] : List (S57)) a0_0 a0_1 a0_2 (⟨#[116]⟩ : ByteArray) ([] : List (S57))).bind fun t326 => (caduceuslaw06_EventOrder.j0 k t319 t320 t321 (!t326) a0_0 a0_1 a0_2 a1_0 a1_1 a1_2)) else (caduceuslaw06_EventOrder.j0 k t319 t320 t321 true a0_0 a0_1 a0_2 a1_0 a1_1 a1_2))) = some r := by rw [if_neg (show ¬ (false = true) by decide)] at H; exact H
   clear H
   have H := H1
   clear H1
   replace H := Option.bind_eq_some_iff.mp H
   obtain ⟨t325, A430, H⟩ := H
   replace H : (if t325 = true then ((event_Same.f k a0_0 a0_1 a0_2 (⟨#[116]⟩ : ByteArray) ([] : List (S57)) a0_0 a0_1 a0_2 (⟨#[116]⟩ : ByteArray) ([] : List (S57))).bind fun t326 => (caduceuslaw06_EventOrder.j0 k t319 t320 t321 (!t326) a0_0 a0_1 a0_2 a1_0 a1_1 a1_2)) else (caduceuslaw06_EventOrder.j0 k t319 t320 t321 true a0_0 a0_1 a0_2 a1_0 a1_1 a1_2)) = some r := H
   have A43 := Aside0.mk A430
   clear A430
   by_cases c44 : t325 = true
   ·subst c44
    have H1 : ((event_Same.f k a0_0 a0_1 a0_2 (⟨#[116]⟩ : ByteArray) ([] : List (S57)) a0_0 a0_1 a0_2 (⟨#[116]⟩ : ByteArray) ([] : List (S57))).bind fun t326 => (caduceuslaw06_EventOrder.j0 k t319 t320 t321 (!t326) a0_0 a0_1 a0_2 a1_0 a1_1 a1_2)) = some r := by rw [if_pos rfl] at H; exact H
    clear H
    have H := H1
    clear H1
    replace H := Option.bind_eq_some_iff.mp H
    obtain ⟨t326, A450, H⟩ := H
    replace H : (caduceuslaw06_EventOrder.j0 k t319 t320 t321 (!t326) a0_0 a0_1 a0_2 a1_0 a1_1 a1_2) = some r := H
    have A45 := Aside0.mk A450
    clear A450
    have H' := Aside0.mk H
    clear H
    have hnb46 := NB322_316.out
    have hnc46 := NB316_322.out
    have hnb47 := NB322_317.out
    have hnc47 := NB317_322.out
    have hnb48 := NB322_318.out
    have hnc48 := NB318_322.out
    have hnb49 := NB322_323.out
    have hnc49 := NB323_322.out
    have hcz50_0 : w25.cell? ⟨gb322, 0, none⟩ = some (.int .i64 a0_0) := (blk_cell BK322.out 0).trans rfl
    have hcz50_1 : w25.cell? ⟨gb322, 1, none⟩ = some (.int .i64 a0_1) := (blk_cell BK322.out 1).trans rfl
    have hcz50_2 : w25.cell? ⟨gb322, 2, none⟩ = some (.int .i64 a0_2) := (blk_cell BK322.out 2).trans rfl
    have hcz50_3 : w25.cell? ⟨gb322, 3, none⟩ = some (.string (⟨#[116]⟩ : ByteArray)) := (blk_cell BK322.out 3).trans rfl
    have hcz50_4 : w25.cell? ⟨gb322, 4, none⟩ = some (.slice none 0 0) := (blk_cell BK322.out 4).trans rfl
    have hfz50_0 := blk_frozen BK322.out 0
    have hfz50_1 := blk_frozen BK322.out 1
    have hfz50_2 := blk_frozen BK322.out 2
    have hfz50_3 := blk_frozen BK322.out 3
    have hfz50_4 := blk_frozen BK322.out 4
    have hnb51 := NB323_316.out
    have hnc51 := NB316_323.out
    have hnb52 := NB323_317.out
    have hnc52 := NB317_323.out
    have hnb53 := NB323_318.out
    have hnc53 := NB318_323.out
    have hcz54_0 : w25.cell? ⟨gb323, 0, none⟩ = some (.int .i64 0) := (blk_cell BK323.out 0).trans rfl
    have hcz54_1 : w25.cell? ⟨gb323, 1, none⟩ = some (.int .i64 0) := (blk_cell BK323.out 1).trans rfl
    have hcz54_2 : w25.cell? ⟨gb323, 2, none⟩ = some (.int .i64 0) := (blk_cell BK323.out 2).trans rfl
    have hcz54_3 : w25.cell? ⟨gb323, 3, none⟩ = some (.string (⟨#[]⟩ : ByteArray)) := (blk_cell BK323.out 3).trans rfl
    have hcz54_4 : w25.cell? ⟨gb323, 4, none⟩ = some (.slice none 0 0) := (blk_cell BK323.out 4).trans rfl
    have hfz54_0 := blk_frozen BK323.out 0
    have hfz54_1 := blk_frozen BK323.out 1
    have hfz54_2 := blk_frozen BK323.out 2
    have hfz54_3 := blk_frozen BK323.out 3
    have hfz54_4 := blk_frozen BK323.out 4
    go_wp2_with (first | ((with_reducible refine gate_callee (f := 7) rfl ?_); refine goesA (some 27) Tryz.func7 #[.agg #[.int .i64 a0_0, .int .i64 a0_1, .int .i64 a0_2, .string (⟨#[116]⟩ : ByteArray), .slice none 0 0], .agg #[.int .i64 a1_0, .int .i64 a1_1, .int .i64 a1_2, .string (⟨#[84]⟩ : ByteArray), .slice none 0 0]] ?_; (refine (event_Same.calls k a0_0 a0_1 a0_2 (⟨#[116]⟩ : ByteArray) _ _ ([] : List (S57)) a1_0 a1_1 a1_2 (⟨#[84]⟩ : ByteArray) _ _ ([] : List (S57)) false _ ?side1 ?side2 ?side3 ?side4 A31.out).mono ?_); (case side1 => exact Kd.C_nil _ _); (case side2 => exact Nat.le_refl _); (case side3 => exact Kd.C_nil _ _); (case side4 => exact Nat.le_refl _); rintro e w55 ⟨rfl, hb⟩; refine ⟨_, rfl, ?_⟩; have n0_ := Aside0.mk (blk_below (g := gb316) (o := .cells #[.int .i64 a0_0, .int .i64 a0_1, .int .i64 a0_2] 23 (0, 0)) (by (with_reducible repeat (first | refine blk_drewN ?_ _ | refine blk_drew ?_ | refine blk_alloc ?_ _)); refine blk_far ?_ NB316_323.out _; (with_reducible repeat (first | refine blk_drewN ?_ _ | refine blk_drew ?_ | refine blk_alloc ?_ _)); refine blk_far ?_ NB316_323.out _; (with_reducible repeat (first | refine blk_drewN ?_ _ | refine blk_drew ?_ | refine blk_alloc ?_ _)); refine blk_far ?_ NB316_323.out _; (with_reducible repeat (first | refine blk_drewN ?_ _ | refine blk_drew ?_ | refine blk_alloc ?_ _)); refine blk_far ?_ NB316_323.out _; (with_reducible repeat (first | refine blk_drewN ?_ _ | refine blk_drew ?_ | refine blk_alloc ?_ _)); refine blk_far ?_ NB316_323.out _; (with_reducible repeat (first | refine blk_drewN ?_ _ | refine blk_drew ?_ | refine blk_alloc ?_ _)); exact BK316.out) hb); have n1_ := Aside0.mk (blk_below (g := gb317) (o := .cells #[.int .i64 a1_0, .int .i64 a1_1, .int .i64 a1_2] 23 (0, 0)) (by (with_reducible repeat (first | refine blk_drewN ?_ _ | refine blk_drew ?_ | refine blk_alloc ?_ _)); refine blk_far ?_ NB317_323.out _; (with_reducible repeat (first | refine blk_drewN ?_ _ | refine blk_drew ?_ | refine blk_alloc ?_ _)); refine blk_far ?_ NB317_323.out _; (with_reducible repeat (first | refine blk_drewN ?_ _ | refine blk_drew ?_ | refine blk_alloc ?_ _)); refine blk_far ?_ NB317_323.out _; (with_reducible repeat (first | refine blk_drewN ?_ _ | refine blk_drew ?_ | refine blk_alloc ?_ _)); refine blk_far ?_ NB317_323.out _; (with_reducible repeat (first | refine blk_drewN ?_ _ | refine blk_drew ?_ | refine blk_alloc ?_ _)); refine blk_far ?_ NB317_323.out _; (with_reducible repeat (first | refine blk_drewN ?_ _ | refine blk_drew ?_ | refine blk_alloc ?_ _)); exact BK317.out) hb); have n2_ := Aside0.mk (blk_below (g := gb318) (o := .cells #[.int .i64 a2_0, .int .i64 a2_1, .int .i64 a2_2] 23 (0, 0)) (by (with_reducible repeat (first | refine blk_drewN ?_ _ | refine blk_drew ?_ | refine blk_alloc ?_ _)); refine blk_far ?_ NB318_323.out _; (with_reducible repeat (first | refine blk_drewN ?_ _ | refine blk_drew ?_ | refine blk_alloc ?_ _)); refine blk_far ?_ NB318_323.out _; (with_reducible repeat (first | refine blk_drewN ?_ _ | refine blk_drew ?_ | refine blk_alloc ?_ _)); refine blk_far ?_ NB318_323.out _; (with_reducible repeat (first | refine blk_drewN ?_ _ | refine blk_drew ?_ | refine blk_alloc ?_ _)); refine blk_far ?_ NB318_323.out _; (with_reducible repeat (first | refine blk_drewN ?_ _ | refine blk_drew ?_ | refine blk_alloc ?_ _)); refine blk_far ?_ NB318_323.out _; (with_reducible repeat (first | refine blk_drewN ?_ _ | refine blk_drew ?_ | refine blk_alloc ?_ _)); exact BK318.out) hb); have n3_ := Aside0.mk (blk_below (g := gb322) (o := .cells #[.int .i64 a0_0, .int .i64 a0_1, .int .i64 a0_2, .string (⟨#[116]⟩ : ByteArray), .slice none 0 0] 27 (0, 0)) (by (with_reducible repeat (first | refine blk_drewN ?_ _ | refine blk_drew ?_ | refine blk_alloc ?_ _)); refine blk_far ?_ NB322_323.out _; (with_reducible repeat (first | refine blk_drewN ?_ _ | refine blk_drew ?_ | refine blk_alloc ?_ _)); refine blk_far ?_ NB322_323.out _; (with_reducible repeat (first | refine blk_drewN ?_ _ | refine blk_drew ?_ | refine blk_alloc ?_ _)); refine blk_far ?_ NB322_323.out _; (with_reducible repeat (first | refine blk_drewN ?_ _ | refine blk_drew ?_ | refine blk_alloc ?_ _)); refine blk_far ?_ NB322_323.out _; (with_reducible repeat (first | refine blk_drewN ?_ _ | refine blk_drew ?_ | refine blk_alloc ?_ _)); refine blk_far ?_ NB322_323.out _; (with_reducible repeat (first | refine blk_drewN ?_ _ | refine blk_drew ?_ | refine blk_alloc ?_ _)); exact BK322.out) hb); have n4_ := Aside0.mk (blk_below (g := gb323) (o := .cells #[.int .i64 a1_0, .int .i64 a1_1, .int .i64 a1_2, .string (⟨#[84]⟩ : ByteArray), .slice none 0 0] 27 (0, 0)) (by (with_reducible repeat (first | refine blk_drewN ?_ _ | refine blk_drew ?_ | refine blk_alloc ?_ _)); refine blk_put (cs := #[.int .i64 a1_0, .int .i64 a1_1, .int .i64 a1_2, .string (⟨#[84]⟩ : ByteArray), .slice none 0 0]) ?_ 4 _ rfl; (with_reducible repeat (first | refine blk_drewN ?_ _ | refine blk_drew ?_ | refine blk_alloc ?_ _)); refine blk_put (cs := #[.int .i64 a1_0, .int .i64 a1_1, .int .i64 a1_2, .string (⟨#[]⟩ : ByteArray), .slice none 0 0]) ?_ 3 _ rfl; (with_reducible repeat (first | refine blk_drewN ?_ _ | refine blk_drew ?_ | refine blk_alloc ?_ _)); refine blk_put (cs := #[.int .i64 a1_0, .int .i64 a1_1, .int .i64 0, .string (⟨#[]⟩ : ByteArray), .slice none 0 0]) ?_ 2 _ rfl; (with_reducible repeat (first | refine blk_drewN ?_ _ | refine blk_drew ?_ | refine blk_alloc ?_ _)); refine blk_put (cs := #[.int .i64 a1_0, .int .i64 0, .int .i64 0, .string (⟨#[]⟩ : ByteArray), .slice none 0 0]) ?_ 1 _ rfl; (with_reducible repeat (first | refine blk_drewN ?_ _ | refine blk_drew ?_ | refine blk_alloc ?_ _)); refine blk_put (cs := #[.int .i64 0, .int .i64 0, .int .i64 0, .string (⟨#[]⟩ : ByteArray), .slice none 0 0]) ?_ 0 _ rfl; (with_reducible repeat (first | refine blk_drewN ?_ _ | refine blk_drew ?_ | refine blk_alloc ?_ _)); exact BK323.out) hb); have n5_ := Aside0.mk (below_step (bwA) hb); clear BK316; clear BK317; clear BK318; clear BK322; clear BK323; clear HB; have BK316 := n0_; have BK317 := n1_; have BK318 := n2_; have BK322 := n3_; have BK323 := n4_; have HB := n5_; clear n0_ n1_ n2_ n3_ n4_ n5_; (try clear hb); (try clear hb2); (try clear hk); (try clear hi); have hcz56_0 : w55.cell? ⟨gb322, 0, none⟩ = some (.int .i64 a0_0) := (blk_cell BK322.out 0).trans rfl; have hcz56_1 : w55.cell? ⟨gb322, 1, none⟩ = some (.int .i64 a0_1) := (blk_cell BK322.out 1).trans rfl; have hcz56_2 : w55.cell? ⟨gb322, 2, none⟩ = some (.int .i64 a0_2) := (blk_cell BK322.out 2).trans rfl; have hcz56_3 : w55.cell? ⟨gb322, 3, none⟩ = some (.string (⟨#[116]⟩ : ByteArray)) := (blk_cell BK322.out 3).trans rfl; have hcz56_4 : w55.cell? ⟨gb322, 4, none⟩ = some (.slice none 0 0) := (blk_cell BK322.out 4).trans rfl; have hfz56_0 := blk_frozen BK322.out 0; have hfz56_1 := blk_frozen BK322.out 1; have hfz56_2 := blk_frozen BK322.out 2; have hfz56_3 := blk_frozen BK322.out 3; have hfz56_4 := blk_frozen BK322.out 4; have hcz57_0 : w55.cell? ⟨gb323, 0, none⟩ = some (.int .i64 a1_0) := (blk_cell BK323.out 0).trans rfl; have hcz57_1 : w55.cell? ⟨gb323, 1, none⟩ = some (.int .i64 a1_1) := (blk_cell BK323.out 1).trans rfl; have hcz57_2 : w55.cell? ⟨gb323, 2, none⟩ = some (.int .i64 a1_2) := (blk_cell BK323.out 2).trans rfl; have hcz57_3 : w55.cell? ⟨gb323, 3, none⟩ = some (.string (⟨#[84]⟩ : ByteArray)) := (blk_cell BK323.out 3).trans rfl; have hcz57_4 : w55.cell? ⟨gb323, 4, none⟩ = some (.slice none 0 0) := (blk_cell BK323.out 4).trans rfl; have hfz57_0 := blk_frozen BK323.out 0; have hfz57_1 := blk_frozen BK323.out 1; have hfz57_2 := blk_frozen BK323.out 2; have hfz57_3 := blk_frozen BK323.out 3; have hfz57_4 := blk_frozen BK323.out 4) | (go_at_call 8; (refine (event_Alike.calls a0_0 a0_1 a0_2 (⟨#[116]⟩ : ByteArray) _ _ ([] : List (S57)) a1_0 a1_1 a1_2 (⟨#[84]⟩ : ByteArray) _ _ ([] : List (S57)) true _ ?side1 ?side2 ?side3 ?side4 ?side5 A43.out).mono ?_); (case side1 => exact Kd.C_nil _ _); (case side2 => exact Nat.le_refl _); (case side3 => exact Kd.C_nil _ _); (case side4 => exact Nat.le_refl _); (case side5 => exact Tabs.below HT.out (bwA)); rintro e w58 ⟨rfl, hb⟩; have n0_ := Aside0.mk (blk_below (g := gb316) (o := .cells #[.int .i64 a0_0, .int .i64 a0_1, .int .i64 a0_2] 23 (0, 0)) blkA hb); have n1_ := Aside0.mk (blk_below (g := gb317) (o := .cells #[.int .i64 a1_0, .int .i64 a1_1, .int .i64 a1_2] 23 (0, 0)) blkA hb); have n2_ := Aside0.mk (blk_below (g := gb318) (o := .cells #[.int .i64 a2_0, .int .i64 a2_1, .int .i64 a2_2] 23 (0, 0)) blkA hb); have n3_ := Aside0.mk (blk_below (g := gb322) (o := .cells #[.int .i64 a0_0, .int .i64 a0_1, .int .i64 a0_2, .string (⟨#[116]⟩ : ByteArray), .slice none 0 0] 27 (0, 0)) blkA hb); have n4_ := Aside0.mk (blk_below (g := gb323) (o := .cells #[.int .i64 a1_0, .int .i64 a1_1, .int .i64 a1_2, .string (⟨#[84]⟩ : ByteArray), .slice none 0 0] 27 (0, 0)) blkA hb); have n5_ := Aside0.mk (below_step (bwA) hb); clear BK316; clear BK317; clear BK318; clear BK322; clear BK323; clear HB; have BK316 := n0_; have BK317 := n1_; have BK318 := n2_; have BK322 := n3_; have BK323 := n4_; have HB := n5_; clear n0_ n1_ n2_ n3_ n4_ n5_; (try clear hb); (try clear hb2); (try clear hk); (try clear hi); have hcz59_0 : w58.cell? ⟨gb322, 0, none⟩ = some (.int .i64 a0_0) := (blk_cell BK322.out 0).trans rfl; have hcz59_1 : w58.cell? ⟨gb322, 1, none⟩ = some (.int .i64 a0_1) := (blk_cell BK322.out 1).trans rfl; have hcz59_2 : w58.cell? ⟨gb322, 2, none⟩ = some (.int .i64 a0_2) := (blk_cell BK322.out 2).trans rfl; have hcz59_3 : w58.cell? ⟨gb322, 3, none⟩ = some (.string (⟨#[116]⟩ : ByteArray)) := (blk_cell BK322.out 3).trans rfl; have hcz59_4 : w58.cell? ⟨gb322, 4, none⟩ = some (.slice none 0 0) := (blk_cell BK322.out 4).trans rfl; have hfz59_0 := blk_frozen BK322.out 0; have hfz59_1 := blk_frozen BK322.out 1; have hfz59_2 := blk_frozen BK322.out 2; have hfz59_3 := blk_frozen BK322.out 3; have hfz59_4 := blk_frozen BK322.out 4) | (go_at_call 7; (refine (event_Same.calls k a0_0 a0_1 a0_2 (⟨#[116]⟩ : ByteArray) _ _ ([] : List (S57)) a0_0 a0_1 a0_2 (⟨#[116]⟩ : ByteArray) _ _ ([] : List (S57)) t326 _ ?side1 ?side2 ?side3 ?side4 A45.out).mono ?_); (case side1 => exact Kd.C_nil _ _); (case side2 => exact Nat.le_refl _); (case side3 => exact Kd.C_nil _ _); (case side4 => exact Nat.le_refl _); rintro e w60 ⟨rfl, hb⟩; have n0_ := Aside0.mk (blk_below (g := gb316) (o := .cells #[.int .i64 a0_0, .int .i64 a0_1, .int .i64 a0_2] 23 (0, 0)) blkA hb); have n1_ := Aside0.mk (blk_below (g := gb317) (o := .cells #[.int .i64 a1_0, .int .i64 a1_1, .int .i64 a1_2] 23 (0, 0)) blkA hb); have n2_ := Aside0.mk (blk_below (g := gb318) (o := .cells #[.int .i64 a2_0, .int .i64 a2_1, .int .i64 a2_2] 23 (0, 0)) blkA hb); have n3_ := Aside0.mk (blk_below (g := gb322) (o := .cells #[.int .i64 a0_0, .int .i64 a0_1, .int .i64 a0_2, .string (⟨#[116]⟩ : ByteArray), .slice none 0 0] 27 (0, 0)) blkA hb); have n4_ := Aside0.mk (blk_below (g := gb323) (o := .cells #[.int .i64 a1_0, .int .i64 a1_1, .int .i64 a1_2, .string (⟨#[84]⟩ : ByteArray), .slice none 0 0] 27 (0, 0)) blkA hb); have n5_ := Aside0.mk (below_step (bwA) hb); clear BK316; clear BK317; clear BK318; clear BK322; clear BK323; clear HB; have BK316 := n0_; have BK317 := n1_; have BK318 := n2_; have BK322 := n3_; have BK323 := n4_; have HB := n5_; clear n0_ n1_ n2_ n3_ n4_ n5_; (try clear hb); (try clear hb2); (try clear hk); (try clear hi)))
    go_meet
    case rel => exact ⟨_, (!t326), (endS), H', ⟨by first | omega | exact Nat.le_refl _⟩, ⟨by (with_reducible repeat (first | refine blk_drewN ?_ _ | refine blk_drew ?_ | refine blk_alloc ?_ _)); exact BK316.out⟩, ⟨by (with_reducible repeat (first | refine blk_drewN ?_ _ | refine blk_drew ?_ | refine blk_alloc ?_ _)); exact BK317.out⟩, ⟨by (with_reducible repeat (first | refine blk_drewN ?_ _ | refine blk_drew ?_ | refine blk_alloc ?_ _)); exact BK318.out⟩, ⟨by (with_reducible repeat (first | refine blk_drewN ?_ _ | refine blk_drew ?_ | refine blk_alloc ?_ _)); exact BK322.out⟩, ⟨by (with_reducible repeat (first | refine blk_drewN ?_ _ | refine blk_drew ?_ | refine blk_alloc ?_ _)); exact BK323.out⟩, ⟨bwA⟩⟩
   ·replace c44 := Bool.eq_false_iff.mpr c44
    subst c44
    have H1 : (caduceuslaw06_EventOrder.j0 k t319 t320 t321 true a0_0 a0_1 a0_2 a1_0 a1_1 a1_2) = some r := by rw [if_neg (show ¬ (false = true) by decide)] at H; exact H
    clear H
    have H := H1
    clear H1
    have H' := Aside0.mk H
    clear H
    have hnb61 := NB322_316.out
    have hnc61 := NB316_322.out
    have hnb62 := NB322_317.out
    have hnc62 := NB317_322.out
    have hnb63 := NB322_318.out
    have hnc63 := NB318_322.out
    have hnb64 := NB322_323.out
    have hnc64 := NB323_322.out
    have hcz65_0 : w25.cell? ⟨gb322, 0, none⟩ = some (.int .i64 a0_0) := (blk_cell BK322.out 0).trans rfl
    have hcz65_1 : w25.cell? ⟨gb322, 1, none⟩ = some (.int .i64 a0_1) := (blk_cell BK322.out 1).trans rfl
    have hcz65_2 : w25.cell? ⟨gb322, 2, none⟩ = some (.int .i64 a0_2) := (blk_cell BK322.out 2).trans rfl
    have hcz65_3 : w25.cell? ⟨gb322, 3, none⟩ = some (.string (⟨#[116]⟩ : ByteArray)) := (blk_cell BK322.out 3).trans rfl
    have hcz65_4 : w25.cell? ⟨gb322, 4, none⟩ = some (.slice none 0 0) := (blk_cell BK322.out 4).trans rfl
    have hfz65_0 := blk_frozen BK322.out 0
    have hfz65_1 := blk_frozen BK322.out 1
    have hfz65_2 := blk_frozen BK322.out 2
    have hfz65_3 := blk_frozen BK322.out 3
    have hfz65_4 := blk_frozen BK322.out 4
    have hnb66 := NB323_316.out
    have hnc66 := NB316_323.out
    have hnb67 := NB323_317.out
    have hnc67 := NB317_323.out
    have hnb68 := NB323_318.out
    have hnc68 := NB318_323.out
    have hcz69_0 : w25.cell? ⟨gb323, 0, none⟩ = some (.int .i64 0) := (blk_cell BK323.out 0).trans rfl
    have hcz69_1 : w25.cell? ⟨gb323, 1, none⟩ = some (.int .i64 0) := (blk_cell BK323.out 1).trans rfl
    have hcz69_2 : w25.cell? ⟨gb323, 2, none⟩ = some (.int .i64 0) := (blk_cell BK323.out 2).trans rfl
    have hcz69_3 : w25.cell? ⟨gb323, 3, none⟩ = some (.string (⟨#[]⟩ : ByteArray)) := (blk_cell BK323.out 3).trans rfl
    have hcz69_4 : w25.cell? ⟨gb323, 4, none⟩ = some (.slice none 0 0) := (blk_cell BK323.out 4).trans rfl
    have hfz69_0 := blk_frozen BK323.out 0
    have hfz69_1 := blk_frozen BK323.out 1
    have hfz69_2 := blk_frozen BK323.out 2
    have hfz69_3 := blk_frozen BK323.out 3
    have hfz69_4 := blk_frozen BK323.out 4
    go_wp2_with (first | ((with_reducible refine gate_callee (f := 7) rfl ?_); refine goesA (some 27) Tryz.func7 #[.agg #[.int .i64 a0_0, .int .i64 a0_1, .int .i64 a0_2, .string (⟨#[116]⟩ : ByteArray), .slice none 0 0], .agg #[.int .i64 a1_0, .int .i64 a1_1, .int .i64 a1_2, .string (⟨#[84]⟩ : ByteArray), .slice none 0 0]] ?_; (refine (event_Same.calls k a0_0 a0_1 a0_2 (⟨#[116]⟩ : ByteArray) _ _ ([] : List (S57)) a1_0 a1_1 a1_2 (⟨#[84]⟩ : ByteArray) _ _ ([] : List (S57)) false _ ?side1 ?side2 ?side3 ?side4 A31.out).mono ?_); (case side1 => exact Kd.C_nil _ _); (case side2 => exact Nat.le_refl _); (case side3 => exact Kd.C_nil _ _); (case side4 => exact Nat.le_refl _); rintro e w70 ⟨rfl, hb⟩; refine ⟨_, rfl, ?_⟩; have n0_ := Aside0.mk (blk_below (g := gb316) (o := .cells #[.int .i64 a0_0, .int .i64 a0_1, .int .i64 a0_2] 23 (0, 0)) (by (with_reducible repeat (first | refine blk_drewN ?_ _ | refine blk_drew ?_ | refine blk_alloc ?_ _)); refine blk_far ?_ NB316_323.out _; (with_reducible repeat (first | refine blk_drewN ?_ _ | refine blk_drew ?_ | refine blk_alloc ?_ _)); refine blk_far ?_ NB316_323.out _; (with_reducible repeat (first | refine blk_drewN ?_ _ | refine blk_drew ?_ | refine blk_alloc ?_ _)); refine blk_far ?_ NB316_323.out _; (with_reducible repeat (first | refine blk_drewN ?_ _ | refine blk_drew ?_ | refine blk_alloc ?_ _)); refine blk_far ?_ NB316_323.out _; (with_reducible repeat (first | refine blk_drewN ?_ _ | refine blk_drew ?_ | refine blk_alloc ?_ _)); refine blk_far ?_ NB316_323.out _; (with_reducible repeat (first | refine blk_drewN ?_ _ | refine blk_drew ?_ | refine blk_alloc ?_ _)); exact BK316.out) hb); have n1_ := Aside0.mk (blk_below (g := gb317) (o := .cells #[.int .i64 a1_0, .int .i64 a1_1, .int .i64 a1_2] 23 (0, 0)) (by (with_reducible repeat (first | refine blk_drewN ?_ _ | refine blk_drew ?_ | refine blk_alloc ?_ _)); refine blk_far ?_ NB317_323.out _; (with_reducible repeat (first | refine blk_drewN ?_ _ | refine blk_drew ?_ | refine blk_alloc ?_ _)); refine blk_far ?_ NB317_323.out _; (with_reducible repeat (first | refine blk_drewN ?_ _ | refine blk_drew ?_ | refine blk_alloc ?_ _)); refine blk_far ?_ NB317_323.out _; (with_reducible repeat (first | refine blk_drewN ?_ _ | refine blk_drew ?_ | refine blk_alloc ?_ _)); refine blk_far ?_ NB317_323.out _; (with_reducible repeat (first | refine blk_drewN ?_ _ | refine blk_drew ?_ | refine blk_alloc ?_ _)); refine blk_far ?_ NB317_323.out _; (with_reducible repeat (first | refine blk_drewN ?_ _ | refine blk_drew ?_ | refine blk_alloc ?_ _)); exact BK317.out) hb); have n2_ := Aside0.mk (blk_below (g := gb318) (o := .cells #[.int .i64 a2_0, .int .i64 a2_1, .int .i64 a2_2] 23 (0, 0)) (by (with_reducible repeat (first | refine blk_drewN ?_ _ | refine blk_drew ?_ | refine blk_alloc ?_ _)); refine blk_far ?_ NB318_323.out _; (with_reducible repeat (first | refine blk_drewN ?_ _ | refine blk_drew ?_ | refine blk_alloc ?_ _)); refine blk_far ?_ NB318_323.out _; (with_reducible repeat (first | refine blk_drewN ?_ _ | refine blk_drew ?_ | refine blk_alloc ?_ _)); refine blk_far ?_ NB318_323.out _; (with_reducible repeat (first | refine blk_drewN ?_ _ | refine blk_drew ?_ | refine blk_alloc ?_ _)); refine blk_far ?_ NB318_323.out _; (with_reducible repeat (first | refine blk_drewN ?_ _ | refine blk_drew ?_ | refine blk_alloc ?_ _)); refine blk_far ?_ NB318_323.out _; (with_reducible repeat (first | refine blk_drewN ?_ _ | refine blk_drew ?_ | refine blk_alloc ?_ _)); exact BK318.out) hb); have n3_ := Aside0.mk (blk_below (g := gb322) (o := .cells #[.int .i64 a0_0, .int .i64 a0_1, .int .i64 a0_2, .string (⟨#[116]⟩ : ByteArray), .slice none 0 0] 27 (0, 0)) (by (with_reducible repeat (first | refine blk_drewN ?_ _ | refine blk_drew ?_ | refine blk_alloc ?_ _)); refine blk_far ?_ NB322_323.out _; (with_reducible repeat (first | refine blk_drewN ?_ _ | refine blk_drew ?_ | refine blk_alloc ?_ _)); refine blk_far ?_ NB322_323.out _; (with_reducible repeat (first | refine blk_drewN ?_ _ | refine blk_drew ?_ | refine blk_alloc ?_ _)); refine blk_far ?_ NB322_323.out _; (with_reducible repeat (first | refine blk_drewN ?_ _ | refine blk_drew ?_ | refine blk_alloc ?_ _)); refine blk_far ?_ NB322_323.out _; (with_reducible repeat (first | refine blk_drewN ?_ _ | refine blk_drew ?_ | refine blk_alloc ?_ _)); refine blk_far ?_ NB322_323.out _; (with_reducible repeat (first | refine blk_drewN ?_ _ | refine blk_drew ?_ | refine blk_alloc ?_ _)); exact BK322.out) hb); have n4_ := Aside0.mk (blk_below (g := gb323) (o := .cells #[.int .i64 a1_0, .int .i64 a1_1, .int .i64 a1_2, .string (⟨#[84]⟩ : ByteArray), .slice none 0 0] 27 (0, 0)) (by (with_reducible repeat (first | refine blk_drewN ?_ _ | refine blk_drew ?_ | refine blk_alloc ?_ _)); refine blk_put (cs := #[.int .i64 a1_0, .int .i64 a1_1, .int .i64 a1_2, .string (⟨#[84]⟩ : ByteArray), .slice none 0 0]) ?_ 4 _ rfl; (with_reducible repeat (first | refine blk_drewN ?_ _ | refine blk_drew ?_ | refine blk_alloc ?_ _)); refine blk_put (cs := #[.int .i64 a1_0, .int .i64 a1_1, .int .i64 a1_2, .string (⟨#[]⟩ : ByteArray), .slice none 0 0]) ?_ 3 _ rfl; (with_reducible repeat (first | refine blk_drewN ?_ _ | refine blk_drew ?_ | refine blk_alloc ?_ _)); refine blk_put (cs := #[.int .i64 a1_0, .int .i64 a1_1, .int .i64 0, .string (⟨#[]⟩ : ByteArray), .slice none 0 0]) ?_ 2 _ rfl; (with_reducible repeat (first | refine blk_drewN ?_ _ | refine blk_drew ?_ | refine blk_alloc ?_ _)); refine blk_put (cs := #[.int .i64 a1_0, .int .i64 0, .int .i64 0, .string (⟨#[]⟩ : ByteArray), .slice none 0 0]) ?_ 1 _ rfl; (with_reducible repeat (first | refine blk_drewN ?_ _ | refine blk_drew ?_ | refine blk_alloc ?_ _)); refine blk_put (cs := #[.int .i64 0, .int .i64 0, .int .i64 0, .string (⟨#[]⟩ : ByteArray), .slice none 0 0]) ?_ 0 _ rfl; (with_reducible repeat (first | refine blk_drewN ?_ _ | refine blk_drew ?_ | refine blk_alloc ?_ _)); exact BK323.out) hb); have n5_ := Aside0.mk (below_step (bwA) hb); clear BK316; clear BK317; clear BK318; clear BK322; clear BK323; clear HB; have BK316 := n0_; have BK317 := n1_; have BK318 := n2_; have BK322 := n3_; have BK323 := n4_; have HB := n5_; clear n0_ n1_ n2_ n3_ n4_ n5_; (try clear hb); (try clear hb2); (try clear hk); (try clear hi); have hcz71_0 : w70.cell? ⟨gb322, 0, none⟩ = some (.int .i64 a0_0) := (blk_cell BK322.out 0).trans rfl; have hcz71_1 : w70.cell? ⟨gb322, 1, none⟩ = some (.int .i64 a0_1) := (blk_cell BK322.out 1).trans rfl; have hcz71_2 : w70.cell? ⟨gb322, 2, none⟩ = some (.int .i64 a0_2) := (blk_cell BK322.out 2).trans rfl; have hcz71_3 : w70.cell? ⟨gb322, 3, none⟩ = some (.string (⟨#[116]⟩ : ByteArray)) := (blk_cell BK322.out 3).trans rfl; have hcz71_4 : w70.cell? ⟨gb322, 4, none⟩ = some (.slice none 0 0) := (blk_cell BK322.out 4).trans rfl; have hfz71_0 := blk_frozen BK322.out 0; have hfz71_1 := blk_frozen BK322.out 1; have hfz71_2 := blk_frozen BK322.out 2; have hfz71_3 := blk_frozen BK322.out 3; have hfz71_4 := blk_frozen BK322.out 4; have hcz72_0 : w70.cell? ⟨gb323, 0, none⟩ = some (.int .i64 a1_0) := (blk_cell BK323.out 0).trans rfl; have hcz72_1 : w70.cell? ⟨gb323, 1, none⟩ = some (.int .i64 a1_1) := (blk_cell BK323.out 1).trans rfl; have hcz72_2 : w70.cell? ⟨gb323, 2, none⟩ = some (.int .i64 a1_2) := (blk_cell BK323.out 2).trans rfl; have hcz72_3 : w70.cell? ⟨gb323, 3, none⟩ = some (.string (⟨#[84]⟩ : ByteArray)) := (blk_cell BK323.out 3).trans rfl; have hcz72_4 : w70.cell? ⟨gb323, 4, none⟩ = some (.slice none 0 0) := (blk_cell BK323.out 4).trans rfl; have hfz72_0 := blk_frozen BK323.out 0; have hfz72_1 := blk_frozen BK323.out 1; have hfz72_2 := blk_frozen BK323.out 2; have hfz72_3 := blk_frozen BK323.out 3; have hfz72_4 := blk_frozen BK323.out 4) | (go_at_call 8; (refine (event_Alike.calls a0_0 a0_1 a0_2 (⟨#[116]⟩ : ByteArray) _ _ ([] : List (S57)) a1_0 a1_1 a1_2 (⟨#[84]⟩ : ByteArray) _ _ ([] : List (S57)) false _ ?side1 ?side2 ?side3 ?side4 ?side5 A43.out).mono ?_); (case side1 => exact Kd.C_nil _ _); (case side2 => exact Nat.le_refl _); (case side3 => exact Kd.C_nil _ _); (case side4 => exact Nat.le_refl _); (case side5 => exact Tabs.below HT.out (bwA)); rintro e w73 ⟨rfl, hb⟩; have n0_ := Aside0.mk (blk_below (g := gb316) (o := .cells #[.int .i64 a0_0, .int .i64 a0_1, .int .i64 a0_2] 23 (0, 0)) blkA hb); have n1_ := Aside0.mk (blk_below (g := gb317) (o := .cells #[.int .i64 a1_0, .int .i64 a1_1, .int .i64 a1_2] 23 (0, 0)) blkA hb); have n2_ := Aside0.mk (blk_below (g := gb318) (o := .cells #[.int .i64 a2_0, .int .i64 a2_1, .int .i64 a2_2] 23 (0, 0)) blkA hb); have n3_ := Aside0.mk (blk_below (g := gb322) (o := .cells #[.int .i64 a0_0, .int .i64 a0_1, .int .i64 a0_2, .string (⟨#[116]⟩ : ByteArray), .slice none 0 0] 27 (0, 0)) blkA hb); have n4_ := Aside0.mk (blk_below (g := gb323) (o := .cells #[.int .i64 a1_0, .int .i64 a1_1, .int .i64 a1_2, .string (⟨#[84]⟩ : ByteArray), .slice none 0 0] 27 (0, 0)) blkA hb); have n5_ := Aside0.mk (below_step (bwA) hb); clear BK316; clear BK317; clear BK318; clear BK322; clear BK323; clear HB; have BK316 := n0_; have BK317 := n1_; have BK318 := n2_; have BK322 := n3_; have BK323 := n4_; have HB := n5_; clear n0_ n1_ n2_ n3_ n4_ n5_; (try clear hb); (try clear hb2); (try clear hk); (try clear hi)))
    go_meet
    case rel => exact ⟨_, (true), (endS), H', ⟨by first | omega | exact Nat.le_refl _⟩, ⟨by (with_reducible repeat (first | refine blk_drewN ?_ _ | refine blk_drew ?_ | refine blk_alloc ?_ _)); exact BK316.out⟩, ⟨by (with_reducible repeat (first | refine blk_drewN ?_ _ | refine blk_drew ?_ | refine blk_alloc ?_ _)); exact BK317.out⟩, ⟨by (with_reducible repeat (first | refine blk_drewN ?_ _ | refine blk_drew ?_ | refine blk_alloc ?_ _)); exact BK318.out⟩, ⟨by (with_reducible repeat (first | refine blk_drewN ?_ _ | refine blk_drew ?_ | refine blk_alloc ?_ _)); exact BK322.out⟩, ⟨by (with_reducible repeat (first | refine blk_drewN ?_ _ | refine blk_drew ?_ | refine blk_alloc ?_ _)); exact BK323.out⟩, ⟨bwA⟩⟩
 case rest =>
  clear HC7
  try clear c1
  try clear c2
  try clear p2
  try clear c3
  try clear c4
  try clear c5
  try clear c6
  try clear c7
  try clear c15
  try clear c16
  try clear c19
  try clear c20
  try clear c21
  try clear c23
  try clear c26
  try clear c27
  try clear c28
  try clear c29
  try clear c32
  try clear c33
  try clear c34
  try clear c35
  try clear c36
  try clear c38
  try clear c39
  try clear c40
  try clear c44
  try clear c46
  try clear c47
  try clear c48
  try clear c49
  try clear c51
  try clear c52
  try clear c53
  try clear c61
  try clear c62
  try clear c63
  try clear c64
  try clear c66
  try clear c67
  try clear c68
  try clear hcz17_0
  try clear hcz17_1
  try clear hcz17_2
  try clear hcz22_0
  try clear hcz22_1
  try clear hcz22_2
  try clear hcz22_3
  try clear hcz22_4
  try clear hcz24_0
  try clear hcz24_1
  try clear hcz24_2
  try clear hcz30_0
  try clear hcz30_1
  try clear hcz30_2
  try clear hcz30_3
  try clear hcz30_4
  try clear hcz37_0
  try clear hcz37_1
  try clear hcz37_2
  try clear hcz37_3
  try clear hcz37_4
  try clear hcz41_0
  try clear hcz41_1
  try clear hcz41_2
  try clear hcz41_3
  try clear hcz41_4
  try clear hcz50_0
  try clear hcz50_1
  try clear hcz50_2
  try clear hcz50_3
  try clear hcz50_4
  try clear hcz54_0
  try clear hcz54_1
  try clear hcz54_2
  try clear hcz54_3
  try clear hcz54_4
  try clear hcz56_0
  try clear hcz56_1
  try clear hcz56_2
  try clear hcz56_3
  try clear hcz56_4
  try clear hcz57_0
  try clear hcz57_1
  try clear hcz57_2
  try clear hcz57_3
  try clear hcz57_4
  try clear hcz59_0
  try clear hcz59_1
  try clear hcz59_2
  try clear hcz59_3
  try clear hcz59_4
  try clear hcz65_0
  try clear hcz65_1
  try clear hcz65_2
  try clear hcz65_3
  try clear hcz65_4
  try clear hcz69_0
  try clear hcz69_1
  try clear hcz69_2
  try clear hcz69_3
  try clear hcz69_4
  try clear hcz71_0
  try clear hcz71_1
  try clear hcz71_2
  try clear hcz71_3
  try clear hcz71_4
  try clear hcz72_0
  try clear hcz72_1
  try clear hcz72_2
  try clear hcz72_3
  try clear hcz72_4
  try clear hfz17_0
  try clear hfz17_1
  try clear hfz17_2
  try clear hfz22_0
  try clear hfz22_1
  try clear hfz22_2
  try clear hfz22_3
  try clear hfz22_4
  try clear hfz24_0
  try clear hfz24_1
  try clear hfz24_2
  try clear hfz30_0
  try clear hfz30_1
  try clear hfz30_2
  try clear hfz30_3
  try clear hfz30_4
  try clear hfz37_0
  try clear hfz37_1
  try clear hfz37_2
  try clear hfz37_3
  try clear hfz37_4
  try clear hfz41_0
  try clear hfz41_1
  try clear hfz41_2
  try clear hfz41_3
  try clear hfz41_4
  try clear hfz50_0
  try clear hfz50_1
  try clear hfz50_2
  try clear hfz50_3
  try clear hfz50_4
  try clear hfz54_0
  try clear hfz54_1
  try clear hfz54_2
  try clear hfz54_3
  try clear hfz54_4
  try clear hfz56_0
  try clear hfz56_1
  try clear hfz56_2
  try clear hfz56_3
  try clear hfz56_4
  try clear hfz57_0
  try clear hfz57_1
  try clear hfz57_2
  try clear hfz57_3
  try clear hfz57_4
  try clear hfz59_0
  try clear hfz59_1
  try clear hfz59_2
  try clear hfz59_3
  try clear hfz59_4
  try clear hfz65_0
  try clear hfz65_1
  try clear hfz65_2
  try clear hfz65_3
  try clear hfz65_4
  try clear hfz69_0
  try clear hfz69_1
  try clear hfz69_2
  try clear hfz69_3
  try clear hfz69_4
  try clear hfz71_0
  try clear hfz71_1
  try clear hfz71_2
  try clear hfz71_3
  try clear hfz71_4
  try clear hfz72_0
  try clear hfz72_1
  try clear hfz72_2
  try clear hfz72_3
  try clear hfz72_4
  obtain ⟨kq, x39_6, rfl, HA, HJ6, BK316, BK317, BK318, BK322, BK323, HB⟩ := hcut
  cases kq with
  | zero => exact absurd HA.out (by simp [caduceuslaw06_EventOrder.j0])
  | succ kj6 =>
   have H := HA.out
   clear HA
   simp only [caduceuslaw06_EventOrder.j0] at H
   by_cases c74 : x39_6 = true
   ·subst c74
    have H1 : (none) = some r := by rw [if_pos rfl] at H; exact H
    clear H
    have H := H1
    clear H1
    exact absurd H (by simp)
   ·replace c74 := Bool.eq_false_iff.mpr c74
    subst c74
    have H1 : ((caduceuslaw06_awake.f kj6).bind fun t327 => (if t327 = true then ((forest_Order.f kj6 a1_0 a1_1 a1_2 a0_0 a0_1 a0_2).bind fun t328 => (if t319 = (wrap64 (-t328)) then (if ((t319 == 0) == (a0_0 == a1_0 && (a0_1 == a1_1 && (a0_2 == a1_2)))) = true then (if t319 ≥ 0 then (if t319 = 0 then (some (t320 == t321)) else (some true)) else (if t320 ≥ 0 then (if t319 = 0 then (some (t320 == t321)) else (some true)) else (if t321 < 0 then (if t319 = 0 then (some (t320 == t321)) else (some true)) else (none)))) else (none)) else (none))) else (none))) = some r := by rw [if_neg (show ¬ (false = true) by decide)] at H; exact H
    clear H
    have H := H1
    clear H1
    replace H := Option.bind_eq_some_iff.mp H
    obtain ⟨t327, A750, H⟩ := H
    replace H : (if t327 = true then ((forest_Order.f kj6 a1_0 a1_1 a1_2 a0_0 a0_1 a0_2).bind fun t328 => (if t319 = (wrap64 (-t328)) then (if ((t319 == 0) == (a0_0 == a1_0 && (a0_1 == a1_1 && (a0_2 == a1_2)))) = true then (if t319 ≥ 0 then (if t319 = 0 then (some (t320 == t321)) else (some true)) else (if t320 ≥ 0 then (if t319 = 0 then (some (t320 == t321)) else (some true)) else (if t321 < 0 then (if t319 = 0 then (some (t320 == t321)) else (some true)) else (none)))) else (none)) else (none))) else (none)) = some r := H
    have A75 := Aside0.mk A750
    clear A750
    by_cases c76 : t327 = true
    ·subst c76
     have H1 : ((forest_Order.f kj6 a1_0 a1_1 a1_2 a0_0 a0_1 a0_2).bind fun t328 => (if t319 = (wrap64 (-t328)) then (if ((t319 == 0) == (a0_0 == a1_0 && (a0_1 == a1_1 && (a0_2 == a1_2)))) = true then (if t319 ≥ 0 then (if t319 = 0 then (some (t320 == t321)) else (some true)) else (if t320 ≥ 0 then (if t319 = 0 then (some (t320 == t321)) else (some true)) else (if t321 < 0 then (if t319 = 0 then (some (t320 == t321)) else (some true)) else (none)))) else (none)) else (none))) = some r := by rw [if_pos rfl] at H; exact H
     clear H
     have H := H1
     clear H1
     replace H := Option.bind_eq_some_iff.mp H
     obtain ⟨t328, A770, H⟩ := H
     replace H : (if t319 = (wrap64 (-t328)) then (if ((t319 == 0) == (a0_0 == a1_0 && (a0_1 == a1_1 && (a0_2 == a1_2)))) = true then (if t319 ≥ 0 then (if t319 = 0 then (some (t320 == t321)) else (some true)) else (if t320 ≥ 0 then (if t319 = 0 then (some (t320 == t321)) else (some true)) else (if t321 < 0 then (if t319 = 0 then (some (t320 == t321)) else (some true)) else (none)))) else (none)) else (none)) = some r := H
     have A77 := Aside0.mk A770
     clear A770
     by_cases c78 : t319 = (wrap64 (-t328))
     ·rw [if_pos c78] at H
      have c78b0 : (t319 == (wrap64 (-t328))) = true := beq_iff_eq.mpr c78
      have c78b1 : (t319 != (wrap64 (-t328))) = false := bne_eq_false_iff_eq.mpr c78
      clear c78
      by_cases c79 : ((t319 == 0) == (a0_0 == a1_0 && (a0_1 == a1_1 && (a0_2 == a1_2)))) = true
      ·rw [if_pos c79] at H
       have c79b0 : ((t319 == 0) == (a0_0 == a1_0 && (a0_1 == a1_1 && (a0_2 == a1_2)))) = true := c79
       (try (have c79b1 : decide ((t319 == 0) = (a0_0 == a1_0 && (a0_1 == a1_1 && (a0_2 == a1_2)))) = true := by simpa using c79))
       (try (have c79b2 : ((t319 == 0) == (a0_0 == a1_0 && (a0_1 == a1_1 && (a0_2 == a1_2)))) = true := by simpa using c79))
       clear c79
       by_cases c80 : t319 ≥ 0
       ·rw [if_pos c80] at H
        have c80b0 : decide (0 ≤ t319) = true := decide_eq_true c80
        clear c80
        by_cases c81 : t319 = 0
        ·rw [if_pos c81] at H
         have c81b0 : (t319 == 0) = true := beq_iff_eq.mpr c81
         have zz_ := c79b0; rw [c81b0] at zz_; simp only [Bool.true_beq, Bool.false_beq, Bool.not_eq_true'] at zz_; have zy_ : (a0_0 = a1_0 ∧ a0_1 = a1_1 ∧ a0_2 = a1_2) = True := eq_true (by simpa using zz_)
         have c81b1 : (t319 != 0) = false := bne_eq_false_iff_eq.mpr c81
         clear c81
         obtain rfl := Option.some.inj H
         go_wp2_with (first | ((with_reducible refine gate_callee (f := 9) rfl ?_); refine goesA (some 40) Tryz.func9 #[] ?_; (with_reducible refine (caduceuslaw06_awake.calls kj6  true _ ?side1 A75.out).mono ?_); (case side1 => exact Tabs.below HT.out (bwA)); rintro e w82 ⟨rfl, hb⟩; refine ⟨_, rfl, ?_⟩; have n0_ := Aside0.mk (blk_below (g := gb316) (o := .cells #[.int .i64 a0_0, .int .i64 a0_1, .int .i64 a0_2] 23 (0, 0)) blkA hb); have n1_ := Aside0.mk (blk_below (g := gb317) (o := .cells #[.int .i64 a1_0, .int .i64 a1_1, .int .i64 a1_2] 23 (0, 0)) blkA hb); have n2_ := Aside0.mk (blk_below (g := gb318) (o := .cells #[.int .i64 a2_0, .int .i64 a2_1, .int .i64 a2_2] 23 (0, 0)) blkA hb); have n3_ := Aside0.mk (blk_below (g := gb322) (o := .cells #[.int .i64 a0_0, .int .i64 a0_1, .int .i64 a0_2, .string (⟨#[116]⟩ : ByteArray), .slice none 0 0] 27 (0, 0)) blkA hb); have n4_ := Aside0.mk (blk_below (g := gb323) (o := .cells #[.int .i64 a1_0, .int .i64 a1_1, .int .i64 a1_2, .string (⟨#[84]⟩ : ByteArray), .slice none 0 0] 27 (0, 0)) blkA hb); have n5_ := Aside0.mk (below_step (bwA) hb); clear BK316; clear BK317; clear BK318; clear BK322; clear BK323; clear HB; have BK316 := n0_; have BK317 := n1_; have BK318 := n2_; have BK322 := n3_; have BK323 := n4_; have HB := n5_; clear n0_ n1_ n2_ n3_ n4_ n5_; (try clear hb); (try clear hb2); (try clear hk); (try clear hi); have hnb83 := NB317_316.out; have hnc83 := NB316_317.out; have hnb84 := NB317_318.out; have hnc84 := NB318_317.out; have hnb85 := NB317_322.out; have hnc85 := NB322_317.out; have hnb86 := NB317_323.out; have hnc86 := NB323_317.out; have hcz87_0 : w82.cell? ⟨gb317, 0, none⟩ = some (.int .i64 a1_0) := (blk_cell BK317.out 0).trans rfl; have hcz87_1 : w82.cell? ⟨gb317, 1, none⟩ = some (.int .i64 a1_1) := (blk_cell BK317.out 1).trans rfl; have hcz87_2 : w82.cell? ⟨gb317, 2, none⟩ = some (.int .i64 a1_2) := (blk_cell BK317.out 2).trans rfl; have hfz87_0 := blk_frozen BK317.out 0; have hfz87_1 := blk_frozen BK317.out 1; have hfz87_2 := blk_frozen BK317.out 2; have hnb88 := NB316_318.out; have hnc88 := NB318_316.out; have hnb89 := NB316_322.out; have hnc89 := NB322_316.out; have hnb90 := NB316_323.out; have hnc90 := NB323_316.out; have hcz91_0 : w82.cell? ⟨gb316, 0, none⟩ = some (.int .i64 a0_0) := (blk_cell BK316.out 0).trans rfl; have hcz91_1 : w82.cell? ⟨gb316, 1, none⟩ = some (.int .i64 a0_1) := (blk_cell BK316.out 1).trans rfl; have hcz91_2 : w82.cell? ⟨gb316, 2, none⟩ = some (.int .i64 a0_2) := (blk_cell BK316.out 2).trans rfl; have hfz91_0 := blk_frozen BK316.out 0; have hfz91_1 := blk_frozen BK316.out 1; have hfz91_2 := blk_frozen BK316.out 2) | (go_at_call 6; (with_reducible refine (forest_Order.calls kj6 a1_0 a1_1 a1_2 a0_0 a0_1 a0_2 t328 _ A77.out).mono ?_); rintro e w92 ⟨rfl, hb⟩; have n0_ := Aside0.mk (blk_below (g := gb316) (o := .cells #[.int .i64 a0_0, .int .i64 a0_1, .int .i64 a0_2] 23 (0, 0)) blkA hb); have n1_ := Aside0.mk (blk_below (g := gb317) (o := .cells #[.int .i64 a1_0, .int .i64 a1_1, .int .i64 a1_2] 23 (0, 0)) blkA hb); have n2_ := Aside0.mk (blk_below (g := gb318) (o := .cells #[.int .i64 a2_0, .int .i64 a2_1, .int .i64 a2_2] 23 (0, 0)) blkA hb); have n3_ := Aside0.mk (blk_below (g := gb322) (o := .cells #[.int .i64 a0_0, .int .i64 a0_1, .int .i64 a0_2, .string (⟨#[116]⟩ : ByteArray), .slice none 0 0] 27 (0, 0)) blkA hb); have n4_ := Aside0.mk (blk_below (g := gb323) (o := .cells #[.int .i64 a1_0, .int .i64 a1_1, .int .i64 a1_2, .string (⟨#[84]⟩ : ByteArray), .slice none 0 0] 27 (0, 0)) blkA hb); have n5_ := Aside0.mk (below_step (bwA) hb); clear BK316; clear BK317; clear BK318; clear BK322; clear BK323; clear HB; have BK316 := n0_; have BK317 := n1_; have BK318 := n2_; have BK322 := n3_; have BK323 := n4_; have HB := n5_; clear n0_ n1_ n2_ n3_ n4_ n5_; (try clear hb); (try clear hb2); (try clear hk); (try clear hi); have hcz93_0 : w92.cell? ⟨gb316, 0, none⟩ = some (.int .i64 a0_0) := (blk_cell BK316.out 0).trans rfl; have hcz93_1 : w92.cell? ⟨gb316, 1, none⟩ = some (.int .i64 a0_1) := (blk_cell BK316.out 1).trans rfl; have hcz93_2 : w92.cell? ⟨gb316, 2, none⟩ = some (.int .i64 a0_2) := (blk_cell BK316.out 2).trans rfl; have hfz93_0 := blk_frozen BK316.out 0; have hfz93_1 := blk_frozen BK316.out 1; have hfz93_2 := blk_frozen BK316.out 2; have hcz94_0 : w92.cell? ⟨gb317, 0, none⟩ = some (.int .i64 a1_0) := (blk_cell BK317.out 0).trans rfl; have hcz94_1 : w92.cell? ⟨gb317, 1, none⟩ = some (.int .i64 a1_1) := (blk_cell BK317.out 1).trans rfl; have hcz94_2 : w92.cell? ⟨gb317, 2, none⟩ = some (.int .i64 a1_2) := (blk_cell BK317.out 2).trans rfl; have hfz94_0 := blk_frozen BK317.out 0; have hfz94_1 := blk_frozen BK317.out 1; have hfz94_2 := blk_frozen BK317.out 2))
         go_ret
         exact ⟨endA, bwA⟩
        ·rw [if_neg c81] at H
         have c81b0 : (t319 == 0) = false := beq_eq_false_iff_ne.mpr c81
         have zz_ := c79b0; rw [c81b0] at zz_; simp only [Bool.true_beq, Bool.false_beq, Bool.not_eq_true'] at zz_; have zy_ : (a0_0 = a1_0 ∧ a0_1 = a1_1 ∧ a0_2 = a1_2) = False := eq_false (by simpa using zz_)
         have c81b1 : (t319 != 0) = true := bne_iff_ne.mpr c81
         obtain rfl := Option.some.inj H
         go_wp2_with (first | ((with_reducible refine gate_callee (f := 9) rfl ?_); refine goesA (some 40) Tryz.func9 #[] ?_; (with_reducible refine (caduceuslaw06_awake.calls kj6  true _ ?side1 A75.out).mono ?_); (case side1 => exact Tabs.below HT.out (bwA)); rintro e w95 ⟨rfl, hb⟩; refine ⟨_, rfl, ?_⟩; have n0_ := Aside0.mk (blk_below (g := gb316) (o := .cells #[.int .i64 a0_0, .int .i64 a0_1, .int .i64 a0_2] 23 (0, 0)) blkA hb); have n1_ := Aside0.mk (blk_below (g := gb317) (o := .cells #[.int .i64 a1_0, .int .i64 a1_1, .int .i64 a1_2] 23 (0, 0)) blkA hb); have n2_ := Aside0.mk (blk_below (g := gb318) (o := .cells #[.int .i64 a2_0, .int .i64 a2_1, .int .i64 a2_2] 23 (0, 0)) blkA hb); have n3_ := Aside0.mk (blk_below (g := gb322) (o := .cells #[.int .i64 a0_0, .int .i64 a0_1, .int .i64 a0_2, .string (⟨#[116]⟩ : ByteArray), .slice none 0 0] 27 (0, 0)) blkA hb); have n4_ := Aside0.mk (blk_below (g := gb323) (o := .cells #[.int .i64 a1_0, .int .i64 a1_1, .int .i64 a1_2, .string (⟨#[84]⟩ : ByteArray), .slice none 0 0] 27 (0, 0)) blkA hb); have n5_ := Aside0.mk (below_step (bwA) hb); clear BK316; clear BK317; clear BK318; clear BK322; clear BK323; clear HB; have BK316 := n0_; have BK317 := n1_; have BK318 := n2_; have BK322 := n3_; have BK323 := n4_; have HB := n5_; clear n0_ n1_ n2_ n3_ n4_ n5_; (try clear hb); (try clear hb2); (try clear hk); (try clear hi); have hnb96 := NB317_316.out; have hnc96 := NB316_317.out; have hnb97 := NB317_318.out; have hnc97 := NB318_317.out; have hnb98 := NB317_322.out; have hnc98 := NB322_317.out; have hnb99 := NB317_323.out; have hnc99 := NB323_317.out; have hcz100_0 : w95.cell? ⟨gb317, 0, none⟩ = some (.int .i64 a1_0) := (blk_cell BK317.out 0).trans rfl; have hcz100_1 : w95.cell? ⟨gb317, 1, none⟩ = some (.int .i64 a1_1) := (blk_cell BK317.out 1).trans rfl; have hcz100_2 : w95.cell? ⟨gb317, 2, none⟩ = some (.int .i64 a1_2) := (blk_cell BK317.out 2).trans rfl; have hfz100_0 := blk_frozen BK317.out 0; have hfz100_1 := blk_frozen BK317.out 1; have hfz100_2 := blk_frozen BK317.out 2; have hnb101 := NB316_318.out; have hnc101 := NB318_316.out; have hnb102 := NB316_322.out; have hnc102 := NB322_316.out; have hnb103 := NB316_323.out; have hnc103 := NB323_316.out; have hcz104_0 : w95.cell? ⟨gb316, 0, none⟩ = some (.int .i64 a0_0) := (blk_cell BK316.out 0).trans rfl; have hcz104_1 : w95.cell? ⟨gb316, 1, none⟩ = some (.int .i64 a0_1) := (blk_cell BK316.out 1).trans rfl; have hcz104_2 : w95.cell? ⟨gb316, 2, none⟩ = some (.int .i64 a0_2) := (blk_cell BK316.out 2).trans rfl; have hfz104_0 := blk_frozen BK316.out 0; have hfz104_1 := blk_frozen BK316.out 1; have hfz104_2 := blk_frozen BK316.out 2) | (go_at_call 6; (with_reducible refine (forest_Order.calls kj6 a1_0 a1_1 a1_2 a0_0 a0_1 a0_2 t328 _ A77.out).mono ?_); rintro e w105 ⟨rfl, hb⟩; have n0_ := Aside0.mk (blk_below (g := gb316) (o := .cells #[.int .i64 a0_0, .int .i64 a0_1, .int .i64 a0_2] 23 (0, 0)) blkA hb); have n1_ := Aside0.mk (blk_below (g := gb317) (o := .cells #[.int .i64 a1_0, .int .i64 a1_1, .int .i64 a1_2] 23 (0, 0)) blkA hb); have n2_ := Aside0.mk (blk_below (g := gb318) (o := .cells #[.int .i64 a2_0, .int .i64 a2_1, .int .i64 a2_2] 23 (0, 0)) blkA hb); have n3_ := Aside0.mk (blk_below (g := gb322) (o := .cells #[.int .i64 a0_0, .int .i64 a0_1, .int .i64 a0_2, .string (⟨#[116]⟩ : ByteArray), .slice none 0 0] 27 (0, 0)) blkA hb); have n4_ := Aside0.mk (blk_below (g := gb323) (o := .cells #[.int .i64 a1_0, .int .i64 a1_1, .int .i64 a1_2, .string (⟨#[84]⟩ : ByteArray), .slice none 0 0] 27 (0, 0)) blkA hb); have n5_ := Aside0.mk (below_step (bwA) hb); clear BK316; clear BK317; clear BK318; clear BK322; clear BK323; clear HB; have BK316 := n0_; have BK317 := n1_; have BK318 := n2_; have BK322 := n3_; have BK323 := n4_; have HB := n5_; clear n0_ n1_ n2_ n3_ n4_ n5_; (try clear hb); (try clear hb2); (try clear hk); (try clear hi); have hcz106_0 : w105.cell? ⟨gb316, 0, none⟩ = some (.int .i64 a0_0) := (blk_cell BK316.out 0).trans rfl; have hcz106_1 : w105.cell? ⟨gb316, 1, none⟩ = some (.int .i64 a0_1) := (blk_cell BK316.out 1).trans rfl; have hcz106_2 : w105.cell? ⟨gb316, 2, none⟩ = some (.int .i64 a0_2) := (blk_cell BK316.out 2).trans rfl; have hfz106_0 := blk_frozen BK316.out 0; have hfz106_1 := blk_frozen BK316.out 1; have hfz106_2 := blk_frozen BK316.out 2; have hcz107_0 : w105.cell? ⟨gb317, 0, none⟩ = some (.int .i64 a1_0) := (blk_cell BK317.out 0).trans rfl; have hcz107_1 : w105.cell? ⟨gb317, 1, none⟩ = some (.int .i64 a1_1) := (blk_cell BK317.out 1).trans rfl; have hcz107_2 : w105.cell? ⟨gb317, 2, none⟩ = some (.int .i64 a1_2) := (blk_cell BK317.out 2).trans rfl; have hfz107_0 := blk_frozen BK317.out 0; have hfz107_1 := blk_frozen BK317.out 1; have hfz107_2 := blk_frozen BK317.out 2))
         go_ret
         exact ⟨endA, bwA⟩
       ·rw [if_neg c80] at H
        have c80b0 : decide (0 ≤ t319) = false := decide_eq_false c80
        clear c80
        by_cases c108 : t320 ≥ 0
        ·rw [if_pos c108] at H
         have c108b0 : decide (0 ≤ t320) = true := decide_eq_true c108
         clear c108
         by_cases c109 : t319 = 0
         ·rw [if_pos c109] at H
          have c109b0 : (t319 == 0) = true := beq_iff_eq.mpr c109
          have zz_ := c79b0; rw [c109b0] at zz_; simp only [Bool.true_beq, Bool.false_beq, Bool.not_eq_true'] at zz_; have zy_ : (a0_0 = a1_0 ∧ a0_1 = a1_1 ∧ a0_2 = a1_2) = True := eq_true (by simpa using zz_)
          have c109b1 : (t319 != 0) = false := bne_eq_false_iff_eq.mpr c109
          clear c109
          obtain rfl := Option.some.inj H
          go_wp2_with (first | ((with_reducible refine gate_callee (f := 9) rfl ?_); refine goesA (some 40) Tryz.func9 #[] ?_; (with_reducible refine (caduceuslaw06_awake.calls kj6  true _ ?side1 A75.out).mono ?_); (case side1 => exact Tabs.below HT.out (bwA)); rintro e w110 ⟨rfl, hb⟩; refine ⟨_, rfl, ?_⟩; have n0_ := Aside0.mk (blk_below (g := gb316) (o := .cells #[.int .i64 a0_0, .int .i64 a0_1, .int .i64 a0_2] 23 (0, 0)) blkA hb); have n1_ := Aside0.mk (blk_below (g := gb317) (o := .cells #[.int .i64 a1_0, .int .i64 a1_1, .int .i64 a1_2] 23 (0, 0)) blkA hb); have n2_ := Aside0.mk (blk_below (g := gb318) (o := .cells #[.int .i64 a2_0, .int .i64 a2_1, .int .i64 a2_2] 23 (0, 0)) blkA hb); have n3_ := Aside0.mk (blk_below (g := gb322) (o := .cells #[.int .i64 a0_0, .int .i64 a0_1, .int .i64 a0_2, .string (⟨#[116]⟩ : ByteArray), .slice none 0 0] 27 (0, 0)) blkA hb); have n4_ := Aside0.mk (blk_below (g := gb323) (o := .cells #[.int .i64 a1_0, .int .i64 a1_1, .int .i64 a1_2, .string (⟨#[84]⟩ : ByteArray), .slice none 0 0] 27 (0, 0)) blkA hb); have n5_ := Aside0.mk (below_step (bwA) hb); clear BK316; clear BK317; clear BK318; clear BK322; clear BK323; clear HB; have BK316 := n0_; have BK317 := n1_; have BK318 := n2_; have BK322 := n3_; have BK323 := n4_; have HB := n5_; clear n0_ n1_ n2_ n3_ n4_ n5_; (try clear hb); (try clear hb2); (try clear hk); (try clear hi); have hnb111 := NB317_316.out; have hnc111 := NB316_317.out; have hnb112 := NB317_318.out; have hnc112 := NB318_317.out; have hnb113 := NB317_322.out; have hnc113 := NB322_317.out; have hnb114 := NB317_323.out; have hnc114 := NB323_317.out; have hcz115_0 : w110.cell? ⟨gb317, 0, none⟩ = some (.int .i64 a1_0) := (blk_cell BK317.out 0).trans rfl; have hcz115_1 : w110.cell? ⟨gb317, 1, none⟩ = some (.int .i64 a1_1) := (blk_cell BK317.out 1).trans rfl; have hcz115_2 : w110.cell? ⟨gb317, 2, none⟩ = some (.int .i64 a1_2) := (blk_cell BK317.out 2).trans rfl; have hfz115_0 := blk_frozen BK317.out 0; have hfz115_1 := blk_frozen BK317.out 1; have hfz115_2 := blk_frozen BK317.out 2; have hnb116 := NB316_318.out; have hnc116 := NB318_316.out; have hnb117 := NB316_322.out; have hnc117 := NB322_316.out; have hnb118 := NB316_323.out; have hnc118 := NB323_316.out; have hcz119_0 : w110.cell? ⟨gb316, 0, none⟩ = some (.int .i64 a0_0) := (blk_cell BK316.out 0).trans rfl; have hcz119_1 : w110.cell? ⟨gb316, 1, none⟩ = some (.int .i64 a0_1) := (blk_cell BK316.out 1).trans rfl; have hcz119_2 : w110.cell? ⟨gb316, 2, none⟩ = some (.int .i64 a0_2) := (blk_cell BK316.out 2).trans rfl; have hfz119_0 := blk_frozen BK316.out 0; have hfz119_1 := blk_frozen BK316.out 1; have hfz119_2 := blk_frozen BK316.out 2) | (go_at_call 6; (with_reducible refine (forest_Order.calls kj6 a1_0 a1_1 a1_2 a0_0 a0_1 a0_2 t328 _ A77.out).mono ?_); rintro e w120 ⟨rfl, hb⟩; have n0_ := Aside0.mk (blk_below (g := gb316) (o := .cells #[.int .i64 a0_0, .int .i64 a0_1, .int .i64 a0_2] 23 (0, 0)) blkA hb); have n1_ := Aside0.mk (blk_below (g := gb317) (o := .cells #[.int .i64 a1_0, .int .i64 a1_1, .int .i64 a1_2] 23 (0, 0)) blkA hb); have n2_ := Aside0.mk (blk_below (g := gb318) (o := .cells #[.int .i64 a2_0, .int .i64 a2_1, .int .i64 a2_2] 23 (0, 0)) blkA hb); have n3_ := Aside0.mk (blk_below (g := gb322) (o := .cells #[.int .i64 a0_0, .int .i64 a0_1, .int .i64 a0_2, .string (⟨#[116]⟩ : ByteArray), .slice none 0 0] 27 (0, 0)) blkA hb); have n4_ := Aside0.mk (blk_below (g := gb323) (o := .cells #[.int .i64 a1_0, .int .i64 a1_1, .int .i64 a1_2, .string (⟨#[84]⟩ : ByteArray), .slice none 0 0] 27 (0, 0)) blkA hb); have n5_ := Aside0.mk (below_step (bwA) hb); clear BK316; clear BK317; clear BK318; clear BK322; clear BK323; clear HB; have BK316 := n0_; have BK317 := n1_; have BK318 := n2_; have BK322 := n3_; have BK323 := n4_; have HB := n5_; clear n0_ n1_ n2_ n3_ n4_ n5_; (try clear hb); (try clear hb2); (try clear hk); (try clear hi); have hcz121_0 : w120.cell? ⟨gb316, 0, none⟩ = some (.int .i64 a0_0) := (blk_cell BK316.out 0).trans rfl; have hcz121_1 : w120.cell? ⟨gb316, 1, none⟩ = some (.int .i64 a0_1) := (blk_cell BK316.out 1).trans rfl; have hcz121_2 : w120.cell? ⟨gb316, 2, none⟩ = some (.int .i64 a0_2) := (blk_cell BK316.out 2).trans rfl; have hfz121_0 := blk_frozen BK316.out 0; have hfz121_1 := blk_frozen BK316.out 1; have hfz121_2 := blk_frozen BK316.out 2; have hcz122_0 : w120.cell? ⟨gb317, 0, none⟩ = some (.int .i64 a1_0) := (blk_cell BK317.out 0).trans rfl; have hcz122_1 : w120.cell? ⟨gb317, 1, none⟩ = some (.int .i64 a1_1) := (blk_cell BK317.out 1).trans rfl; have hcz122_2 : w120.cell? ⟨gb317, 2, none⟩ = some (.int .i64 a1_2) := (blk_cell BK317.out 2).trans rfl; have hfz122_0 := blk_frozen BK317.out 0; have hfz122_1 := blk_frozen BK317.out 1; have hfz122_2 := blk_frozen BK317.out 2))
          go_ret
          exact ⟨endA, bwA⟩
         ·rw [if_neg c109] at H
          have c109b0 : (t319 == 0) = false := beq_eq_false_iff_ne.mpr c109
          have zz_ := c79b0; rw [c109b0] at zz_; simp only [Bool.true_beq, Bool.false_beq, Bool.not_eq_true'] at zz_; have zy_ : (a0_0 = a1_0 ∧ a0_1 = a1_1 ∧ a0_2 = a1_2) = False := eq_false (by simpa using zz_)
          have c109b1 : (t319 != 0) = true := bne_iff_ne.mpr c109
          obtain rfl := Option.some.inj H
          go_wp2_with (first | ((with_reducible refine gate_callee (f := 9) rfl ?_); refine goesA (some 40) Tryz.func9 #[] ?_; (with_reducible refine (caduceuslaw06_awake.calls kj6  true _ ?side1 A75.out).mono ?_); (case side1 => exact Tabs.below HT.out (bwA)); rintro e w123 ⟨rfl, hb⟩; refine ⟨_, rfl, ?_⟩; have n0_ := Aside0.mk (blk_below (g := gb316) (o := .cells #[.int .i64 a0_0, .int .i64 a0_1, .int .i64 a0_2] 23 (0, 0)) blkA hb); have n1_ := Aside0.mk (blk_below (g := gb317) (o := .cells #[.int .i64 a1_0, .int .i64 a1_1, .int .i64 a1_2] 23 (0, 0)) blkA hb); have n2_ := Aside0.mk (blk_below (g := gb318) (o := .cells #[.int .i64 a2_0, .int .i64 a2_1, .int .i64 a2_2] 23 (0, 0)) blkA hb); have n3_ := Aside0.mk (blk_below (g := gb322) (o := .cells #[.int .i64 a0_0, .int .i64 a0_1, .int .i64 a0_2, .string (⟨#[116]⟩ : ByteArray), .slice none 0 0] 27 (0, 0)) blkA hb); have n4_ := Aside0.mk (blk_below (g := gb323) (o := .cells #[.int .i64 a1_0, .int .i64 a1_1, .int .i64 a1_2, .string (⟨#[84]⟩ : ByteArray), .slice none 0 0] 27 (0, 0)) blkA hb); have n5_ := Aside0.mk (below_step (bwA) hb); clear BK316; clear BK317; clear BK318; clear BK322; clear BK323; clear HB; have BK316 := n0_; have BK317 := n1_; have BK318 := n2_; have BK322 := n3_; have BK323 := n4_; have HB := n5_; clear n0_ n1_ n2_ n3_ n4_ n5_; (try clear hb); (try clear hb2); (try clear hk); (try clear hi); have hnb124 := NB317_316.out; have hnc124 := NB316_317.out; have hnb125 := NB317_318.out; have hnc125 := NB318_317.out; have hnb126 := NB317_322.out; have hnc126 := NB322_317.out; have hnb127 := NB317_323.out; have hnc127 := NB323_317.out; have hcz128_0 : w123.cell? ⟨gb317, 0, none⟩ = some (.int .i64 a1_0) := (blk_cell BK317.out 0).trans rfl; have hcz128_1 : w123.cell? ⟨gb317, 1, none⟩ = some (.int .i64 a1_1) := (blk_cell BK317.out 1).trans rfl; have hcz128_2 : w123.cell? ⟨gb317, 2, none⟩ = some (.int .i64 a1_2) := (blk_cell BK317.out 2).trans rfl; have hfz128_0 := blk_frozen BK317.out 0; have hfz128_1 := blk_frozen BK317.out 1; have hfz128_2 := blk_frozen BK317.out 2; have hnb129 := NB316_318.out; have hnc129 := NB318_316.out; have hnb130 := NB316_322.out; have hnc130 := NB322_316.out; have hnb131 := NB316_323.out; have hnc131 := NB323_316.out; have hcz132_0 : w123.cell? ⟨gb316, 0, none⟩ = some (.int .i64 a0_0) := (blk_cell BK316.out 0).trans rfl; have hcz132_1 : w123.cell? ⟨gb316, 1, none⟩ = some (.int .i64 a0_1) := (blk_cell BK316.out 1).trans rfl; have hcz132_2 : w123.cell? ⟨gb316, 2, none⟩ = some (.int .i64 a0_2) := (blk_cell BK316.out 2).trans rfl; have hfz132_0 := blk_frozen BK316.out 0; have hfz132_1 := blk_frozen BK316.out 1; have hfz132_2 := blk_frozen BK316.out 2) | (go_at_call 6; (with_reducible refine (forest_Order.calls kj6 a1_0 a1_1 a1_2 a0_0 a0_1 a0_2 t328 _ A77.out).mono ?_); rintro e w133 ⟨rfl, hb⟩; have n0_ := Aside0.mk (blk_below (g := gb316) (o := .cells #[.int .i64 a0_0, .int .i64 a0_1, .int .i64 a0_2] 23 (0, 0)) blkA hb); have n1_ := Aside0.mk (blk_below (g := gb317) (o := .cells #[.int .i64 a1_0, .int .i64 a1_1, .int .i64 a1_2] 23 (0, 0)) blkA hb); have n2_ := Aside0.mk (blk_below (g := gb318) (o := .cells #[.int .i64 a2_0, .int .i64 a2_1, .int .i64 a2_2] 23 (0, 0)) blkA hb); have n3_ := Aside0.mk (blk_below (g := gb322) (o := .cells #[.int .i64 a0_0, .int .i64 a0_1, .int .i64 a0_2, .string (⟨#[116]⟩ : ByteArray), .slice none 0 0] 27 (0, 0)) blkA hb); have n4_ := Aside0.mk (blk_below (g := gb323) (o := .cells #[.int .i64 a1_0, .int .i64 a1_1, .int .i64 a1_2, .string (⟨#[84]⟩ : ByteArray), .slice none 0 0] 27 (0, 0)) blkA hb); have n5_ := Aside0.mk (below_step (bwA) hb); clear BK316; clear BK317; clear BK318; clear BK322; clear BK323; clear HB; have BK316 := n0_; have BK317 := n1_; have BK318 := n2_; have BK322 := n3_; have BK323 := n4_; have HB := n5_; clear n0_ n1_ n2_ n3_ n4_ n5_; (try clear hb); (try clear hb2); (try clear hk); (try clear hi); have hcz134_0 : w133.cell? ⟨gb316, 0, none⟩ = some (.int .i64 a0_0) := (blk_cell BK316.out 0).trans rfl; have hcz134_1 : w133.cell? ⟨gb316, 1, none⟩ = some (.int .i64 a0_1) := (blk_cell BK316.out 1).trans rfl; have hcz134_2 : w133.cell? ⟨gb316, 2, none⟩ = some (.int .i64 a0_2) := (blk_cell BK316.out 2).trans rfl; have hfz134_0 := blk_frozen BK316.out 0; have hfz134_1 := blk_frozen BK316.out 1; have hfz134_2 := blk_frozen BK316.out 2; have hcz135_0 : w133.cell? ⟨gb317, 0, none⟩ = some (.int .i64 a1_0) := (blk_cell BK317.out 0).trans rfl; have hcz135_1 : w133.cell? ⟨gb317, 1, none⟩ = some (.int .i64 a1_1) := (blk_cell BK317.out 1).trans rfl; have hcz135_2 : w133.cell? ⟨gb317, 2, none⟩ = some (.int .i64 a1_2) := (blk_cell BK317.out 2).trans rfl; have hfz135_0 := blk_frozen BK317.out 0; have hfz135_1 := blk_frozen BK317.out 1; have hfz135_2 := blk_frozen BK317.out 2))
          go_ret
          exact ⟨endA, bwA⟩
        ·rw [if_neg c108] at H
         have c108b0 : decide (0 ≤ t320) = false := decide_eq_false c108
         clear c108
         by_cases c136 : t321 < 0
         ·rw [if_pos c136] at H
          have c136b0 : decide (t321 < 0) = true := decide_eq_true c136
          clear c136
          by_cases c137 : t319 = 0
          ·rw [if_pos c137] at H
           have c137b0 : (t319 == 0) = true := beq_iff_eq.mpr c137
           have zz_ := c79b0; rw [c137b0] at zz_; simp only [Bool.true_beq, Bool.false_beq, Bool.not_eq_true'] at zz_; have zy_ : (a0_0 = a1_0 ∧ a0_1 = a1_1 ∧ a0_2 = a1_2) = True := eq_true (by simpa using zz_)
           have c137b1 : (t319 != 0) = false := bne_eq_false_iff_eq.mpr c137
           clear c137
           obtain rfl := Option.some.inj H
           go_wp2_with (first | ((with_reducible refine gate_callee (f := 9) rfl ?_); refine goesA (some 40) Tryz.func9 #[] ?_; (with_reducible refine (caduceuslaw06_awake.calls kj6  true _ ?side1 A75.out).mono ?_); (case side1 => exact Tabs.below HT.out (bwA)); rintro e w138 ⟨rfl, hb⟩; refine ⟨_, rfl, ?_⟩; have n0_ := Aside0.mk (blk_below (g := gb316) (o := .cells #[.int .i64 a0_0, .int .i64 a0_1, .int .i64 a0_2] 23 (0, 0)) blkA hb); have n1_ := Aside0.mk (blk_below (g := gb317) (o := .cells #[.int .i64 a1_0, .int .i64 a1_1, .int .i64 a1_2] 23 (0, 0)) blkA hb); have n2_ := Aside0.mk (blk_below (g := gb318) (o := .cells #[.int .i64 a2_0, .int .i64 a2_1, .int .i64 a2_2] 23 (0, 0)) blkA hb); have n3_ := Aside0.mk (blk_below (g := gb322) (o := .cells #[.int .i64 a0_0, .int .i64 a0_1, .int .i64 a0_2, .string (⟨#[116]⟩ : ByteArray), .slice none 0 0] 27 (0, 0)) blkA hb); have n4_ := Aside0.mk (blk_below (g := gb323) (o := .cells #[.int .i64 a1_0, .int .i64 a1_1, .int .i64 a1_2, .string (⟨#[84]⟩ : ByteArray), .slice none 0 0] 27 (0, 0)) blkA hb); have n5_ := Aside0.mk (below_step (bwA) hb); clear BK316; clear BK317; clear BK318; clear BK322; clear BK323; clear HB; have BK316 := n0_; have BK317 := n1_; have BK318 := n2_; have BK322 := n3_; have BK323 := n4_; have HB := n5_; clear n0_ n1_ n2_ n3_ n4_ n5_; (try clear hb); (try clear hb2); (try clear hk); (try clear hi); have hnb139 := NB317_316.out; have hnc139 := NB316_317.out; have hnb140 := NB317_318.out; have hnc140 := NB318_317.out; have hnb141 := NB317_322.out; have hnc141 := NB322_317.out; have hnb142 := NB317_323.out; have hnc142 := NB323_317.out; have hcz143_0 : w138.cell? ⟨gb317, 0, none⟩ = some (.int .i64 a1_0) := (blk_cell BK317.out 0).trans rfl; have hcz143_1 : w138.cell? ⟨gb317, 1, none⟩ = some (.int .i64 a1_1) := (blk_cell BK317.out 1).trans rfl; have hcz143_2 : w138.cell? ⟨gb317, 2, none⟩ = some (.int .i64 a1_2) := (blk_cell BK317.out 2).trans rfl; have hfz143_0 := blk_frozen BK317.out 0; have hfz143_1 := blk_frozen BK317.out 1; have hfz143_2 := blk_frozen BK317.out 2; have hnb144 := NB316_318.out; have hnc144 := NB318_316.out; have hnb145 := NB316_322.out; have hnc145 := NB322_316.out; have hnb146 := NB316_323.out; have hnc146 := NB323_316.out; have hcz147_0 : w138.cell? ⟨gb316, 0, none⟩ = some (.int .i64 a0_0) := (blk_cell BK316.out 0).trans rfl; have hcz147_1 : w138.cell? ⟨gb316, 1, none⟩ = some (.int .i64 a0_1) := (blk_cell BK316.out 1).trans rfl; have hcz147_2 : w138.cell? ⟨gb316, 2, none⟩ = some (.int .i64 a0_2) := (blk_cell BK316.out 2).trans rfl; have hfz147_0 := blk_frozen BK316.out 0; have hfz147_1 := blk_frozen BK316.out 1; have hfz147_2 := blk_frozen BK316.out 2) | (go_at_call 6; (with_reducible refine (forest_Order.calls kj6 a1_0 a1_1 a1_2 a0_0 a0_1 a0_2 t328 _ A77.out).mono ?_); rintro e w148 ⟨rfl, hb⟩; have n0_ := Aside0.mk (blk_below (g := gb316) (o := .cells #[.int .i64 a0_0, .int .i64 a0_1, .int .i64 a0_2] 23 (0, 0)) blkA hb); have n1_ := Aside0.mk (blk_below (g := gb317) (o := .cells #[.int .i64 a1_0, .int .i64 a1_1, .int .i64 a1_2] 23 (0, 0)) blkA hb); have n2_ := Aside0.mk (blk_below (g := gb318) (o := .cells #[.int .i64 a2_0, .int .i64 a2_1, .int .i64 a2_2] 23 (0, 0)) blkA hb); have n3_ := Aside0.mk (blk_below (g := gb322) (o := .cells #[.int .i64 a0_0, .int .i64 a0_1, .int .i64 a0_2, .string (⟨#[116]⟩ : ByteArray), .slice none 0 0] 27 (0, 0)) blkA hb); have n4_ := Aside0.mk (blk_below (g := gb323) (o := .cells #[.int .i64 a1_0, .int .i64 a1_1, .int .i64 a1_2, .string (⟨#[84]⟩ : ByteArray), .slice none 0 0] 27 (0, 0)) blkA hb); have n5_ := Aside0.mk (below_step (bwA) hb); clear BK316; clear BK317; clear BK318; clear BK322; clear BK323; clear HB; have BK316 := n0_; have BK317 := n1_; have BK318 := n2_; have BK322 := n3_; have BK323 := n4_; have HB := n5_; clear n0_ n1_ n2_ n3_ n4_ n5_; (try clear hb); (try clear hb2); (try clear hk); (try clear hi); have hcz149_0 : w148.cell? ⟨gb316, 0, none⟩ = some (.int .i64 a0_0) := (blk_cell BK316.out 0).trans rfl; have hcz149_1 : w148.cell? ⟨gb316, 1, none⟩ = some (.int .i64 a0_1) := (blk_cell BK316.out 1).trans rfl; have hcz149_2 : w148.cell? ⟨gb316, 2, none⟩ = some (.int .i64 a0_2) := (blk_cell BK316.out 2).trans rfl; have hfz149_0 := blk_frozen BK316.out 0; have hfz149_1 := blk_frozen BK316.out 1; have hfz149_2 := blk_frozen BK316.out 2; have hcz150_0 : w148.cell? ⟨gb317, 0, none⟩ = some (.int .i64 a1_0) := (blk_cell BK317.out 0).trans rfl; have hcz150_1 : w148.cell? ⟨gb317, 1, none⟩ = some (.int .i64 a1_1) := (blk_cell BK317.out 1).trans rfl; have hcz150_2 : w148.cell? ⟨gb317, 2, none⟩ = some (.int .i64 a1_2) := (blk_cell BK317.out 2).trans rfl; have hfz150_0 := blk_frozen BK317.out 0; have hfz150_1 := blk_frozen BK317.out 1; have hfz150_2 := blk_frozen BK317.out 2))
           go_ret
           exact ⟨endA, bwA⟩
          ·rw [if_neg c137] at H
           have c137b0 : (t319 == 0) = false := beq_eq_false_iff_ne.mpr c137
           have zz_ := c79b0; rw [c137b0] at zz_; simp only [Bool.true_beq, Bool.false_beq, Bool.not_eq_true'] at zz_; have zy_ : (a0_0 = a1_0 ∧ a0_1 = a1_1 ∧ a0_2 = a1_2) = False := eq_false (by simpa using zz_)
           have c137b1 : (t319 != 0) = true := bne_iff_ne.mpr c137
           obtain rfl := Option.some.inj H
           go_wp2_with (first | ((with_reducible refine gate_callee (f := 9) rfl ?_); refine goesA (some 40) Tryz.func9 #[] ?_; (with_reducible refine (caduceuslaw06_awake.calls kj6  true _ ?side1 A75.out).mono ?_); (case side1 => exact Tabs.below HT.out (bwA)); rintro e w151 ⟨rfl, hb⟩; refine ⟨_, rfl, ?_⟩; have n0_ := Aside0.mk (blk_below (g := gb316) (o := .cells #[.int .i64 a0_0, .int .i64 a0_1, .int .i64 a0_2] 23 (0, 0)) blkA hb); have n1_ := Aside0.mk (blk_below (g := gb317) (o := .cells #[.int .i64 a1_0, .int .i64 a1_1, .int .i64 a1_2] 23 (0, 0)) blkA hb); have n2_ := Aside0.mk (blk_below (g := gb318) (o := .cells #[.int .i64 a2_0, .int .i64 a2_1, .int .i64 a2_2] 23 (0, 0)) blkA hb); have n3_ := Aside0.mk (blk_below (g := gb322) (o := .cells #[.int .i64 a0_0, .int .i64 a0_1, .int .i64 a0_2, .string (⟨#[116]⟩ : ByteArray), .slice none 0 0] 27 (0, 0)) blkA hb); have n4_ := Aside0.mk (blk_below (g := gb323) (o := .cells #[.int .i64 a1_0, .int .i64 a1_1, .int .i64 a1_2, .string (⟨#[84]⟩ : ByteArray), .slice none 0 0] 27 (0, 0)) blkA hb); have n5_ := Aside0.mk (below_step (bwA) hb); clear BK316; clear BK317; clear BK318; clear BK322; clear BK323; clear HB; have BK316 := n0_; have BK317 := n1_; have BK318 := n2_; have BK322 := n3_; have BK323 := n4_; have HB := n5_; clear n0_ n1_ n2_ n3_ n4_ n5_; (try clear hb); (try clear hb2); (try clear hk); (try clear hi); have hnb152 := NB317_316.out; have hnc152 := NB316_317.out; have hnb153 := NB317_318.out; have hnc153 := NB318_317.out; have hnb154 := NB317_322.out; have hnc154 := NB322_317.out; have hnb155 := NB317_323.out; have hnc155 := NB323_317.out; have hcz156_0 : w151.cell? ⟨gb317, 0, none⟩ = some (.int .i64 a1_0) := (blk_cell BK317.out 0).trans rfl; have hcz156_1 : w151.cell? ⟨gb317, 1, none⟩ = some (.int .i64 a1_1) := (blk_cell BK317.out 1).trans rfl; have hcz156_2 : w151.cell? ⟨gb317, 2, none⟩ = some (.int .i64 a1_2) := (blk_cell BK317.out 2).trans rfl; have hfz156_0 := blk_frozen BK317.out 0; have hfz156_1 := blk_frozen BK317.out 1; have hfz156_2 := blk_frozen BK317.out 2; have hnb157 := NB316_318.out; have hnc157 := NB318_316.out; have hnb158 := NB316_322.out; have hnc158 := NB322_316.out; have hnb159 := NB316_323.out; have hnc159 := NB323_316.out; have hcz160_0 : w151.cell? ⟨gb316, 0, none⟩ = some (.int .i64 a0_0) := (blk_cell BK316.out 0).trans rfl; have hcz160_1 : w151.cell? ⟨gb316, 1, none⟩ = some (.int .i64 a0_1) := (blk_cell BK316.out 1).trans rfl; have hcz160_2 : w151.cell? ⟨gb316, 2, none⟩ = some (.int .i64 a0_2) := (blk_cell BK316.out 2).trans rfl; have hfz160_0 := blk_frozen BK316.out 0; have hfz160_1 := blk_frozen BK316.out 1; have hfz160_2 := blk_frozen BK316.out 2) | (go_at_call 6; (with_reducible refine (forest_Order.calls kj6 a1_0 a1_1 a1_2 a0_0 a0_1 a0_2 t328 _ A77.out).mono ?_); rintro e w161 ⟨rfl, hb⟩; have n0_ := Aside0.mk (blk_below (g := gb316) (o := .cells #[.int .i64 a0_0, .int .i64 a0_1, .int .i64 a0_2] 23 (0, 0)) blkA hb); have n1_ := Aside0.mk (blk_below (g := gb317) (o := .cells #[.int .i64 a1_0, .int .i64 a1_1, .int .i64 a1_2] 23 (0, 0)) blkA hb); have n2_ := Aside0.mk (blk_below (g := gb318) (o := .cells #[.int .i64 a2_0, .int .i64 a2_1, .int .i64 a2_2] 23 (0, 0)) blkA hb); have n3_ := Aside0.mk (blk_below (g := gb322) (o := .cells #[.int .i64 a0_0, .int .i64 a0_1, .int .i64 a0_2, .string (⟨#[116]⟩ : ByteArray), .slice none 0 0] 27 (0, 0)) blkA hb); have n4_ := Aside0.mk (blk_below (g := gb323) (o := .cells #[.int .i64 a1_0, .int .i64 a1_1, .int .i64 a1_2, .string (⟨#[84]⟩ : ByteArray), .slice none 0 0] 27 (0, 0)) blkA hb); have n5_ := Aside0.mk (below_step (bwA) hb); clear BK316; clear BK317; clear BK318; clear BK322; clear BK323; clear HB; have BK316 := n0_; have BK317 := n1_; have BK318 := n2_; have BK322 := n3_; have BK323 := n4_; have HB := n5_; clear n0_ n1_ n2_ n3_ n4_ n5_; (try clear hb); (try clear hb2); (try clear hk); (try clear hi); have hcz162_0 : w161.cell? ⟨gb316, 0, none⟩ = some (.int .i64 a0_0) := (blk_cell BK316.out 0).trans rfl; have hcz162_1 : w161.cell? ⟨gb316, 1, none⟩ = some (.int .i64 a0_1) := (blk_cell BK316.out 1).trans rfl; have hcz162_2 : w161.cell? ⟨gb316, 2, none⟩ = some (.int .i64 a0_2) := (blk_cell BK316.out 2).trans rfl; have hfz162_0 := blk_frozen BK316.out 0; have hfz162_1 := blk_frozen BK316.out 1; have hfz162_2 := blk_frozen BK316.out 2; have hcz163_0 : w161.cell? ⟨gb317, 0, none⟩ = some (.int .i64 a1_0) := (blk_cell BK317.out 0).trans rfl; have hcz163_1 : w161.cell? ⟨gb317, 1, none⟩ = some (.int .i64 a1_1) := (blk_cell BK317.out 1).trans rfl; have hcz163_2 : w161.cell? ⟨gb317, 2, none⟩ = some (.int .i64 a1_2) := (blk_cell BK317.out 2).trans rfl; have hfz163_0 := blk_frozen BK317.out 0; have hfz163_1 := blk_frozen BK317.out 1; have hfz163_2 := blk_frozen BK317.out 2))
           go_ret
           exact ⟨endA, bwA⟩
         ·rw [if_neg c136] at H
          exact absurd H (by simp)
      ·rw [if_neg c79] at H
       exact absurd H (by simp)
     ·rw [if_neg c78] at H
      exact absurd H (by simp)
    ·replace c76 := Bool.eq_false_iff.mpr c76
     subst c76
     have H1 : (none) = some r := by rw [if_neg (show ¬ (false = true) by decide)] at H; exact H
     clear H
     have H := H1
     clear H1
     exact absurd H (by simp)

end Go.Proofs.YtplemgmfnghoeaaGreatDoor.A
