-- By drv.py, the session's own driver round the kit's print: the machine's side of the laws, function by function. Not trusted: Lean checks it.
import Derived.Test.YtlejenoibblhnaaDoorAx0
import Derived.Test.YtlejenoibblhnaaDoorAx9
import Derived.Test.YtlejenoibblhnaaDoorAx10
namespace Go.Proofs.YtlejenoibblhnaaDoor.A
open Go.RowKit Go.Proofs.YtlejenoibblhnaaDoorW.PrintWords Go.Proofs.YtlejenoibblhnaaDoorW.PrintLast Go.Proofs.YtlejenoibblhnaaDoorW.PrintMore
attribute [local go_sem] max2_int min2_int max_two min_two max_three min_three max_four min_four   -- for this text's walks alone
set_option linter.unusedVariables false
set_option linter.unusedSimpArgs false

/-! ### caduceuslaw03_awake: function 6 -/
def caduceuslaw03_awake.f (k : Nat)  : Option (Bool) := (value_Parse.f k (⟨#[120, 39, 48, 48, 102, 102, 39]⟩ : ByteArray)).bind fun bt200 => ((value_Parse.f k (⟨#[45, 48]⟩ : ByteArray)).bind fun bt205 => ((value_Parse.f k (⟨#[48, 48, 55]⟩ : ByteArray)).bind fun bt210 => ((value_Parse.f k (⟨#[34, 97]⟩ : ByteArray)).bind fun bt215 => ((value_Show.f k 2 0 (⟨#[97, 34, 195, 169, 10, 1]⟩ : ByteArray)).bind fun t220 => (if t220.toList = ([34, 97, 92, 34, 195, 169, 92, 110, 92, 117, 123, 49, 125, 34] : List UInt8) then (if bt200.2.2.2 = 0 then (if bt200.2.2.1.toList = ([0, 255] : List UInt8) then (if bt205.2.2.2 = 3 then (if bt210.2.2.2 = 3 then (some (bt215.2.2.2 == 3)) else (none)) else (none)) else (none)) else (none)) else (none))))))
theorem caduceuslaw03_awake.mono : ∀ k, LeO (caduceuslaw03_awake.f k ) (caduceuslaw03_awake.f (k + 1) ) := by
 intro  k
 unfold caduceuslaw03_awake.f
 repeat' (with_reducible first | exact value_Parse.mono _ _ | exact value_Show.mono _ _ _ _ | exact LeO.refl _ | exact LeO.none _ | refine LeO.ite ?_ ?_ | refine LeO.bind ?_ (fun _ => ?_))
set_option maxHeartbeats 8000000 in
set_option maxRecDepth 100000 in
theorem caduceuslaw03_awake.calls (k : Nat)  (r : Bool) (w : World) (hT : Tabs w) (h : caduceuslaw03_awake.f k  = some r) :
  Calls Tryd.prog 6 #[] w fun e w' => e = .returned (.bool r) ∧ Below w.heap.size w w' := by
 have hu26 := Tryd.underlying26
 have HB := Aside0.mk (Below.refl w.heap.size w)
 unfold caduceuslaw03_awake.f at h
 have H := h
 clear h
 have HT := Aside0.mk hT
 clear hT
 replace H := bnA H
 obtain ⟨⟨t200, t201, t202, t203⟩, A1, H⟩ := H
 dsimp only at H
 replace H := bnA H
 obtain ⟨⟨t205, t206, t207, t208⟩, A2, H⟩ := H
 dsimp only at H
 replace H := bnA H
 obtain ⟨⟨t210, t211, t212, t213⟩, A3, H⟩ := H
 dsimp only at H
 replace H := bnA H
 obtain ⟨⟨t215, t216, t217, t218⟩, A4, H⟩ := H
 dsimp only at H
 replace H := bnA H
 obtain ⟨t220, A5, H⟩ := H
 replace H := itN H
 obtain ⟨c6, H⟩ := H
 obtain ⟨c6b0, c6b1⟩ := fcE c6
 clear c6
 replace H := itN H
 obtain ⟨c7, H⟩ := H
 obtain ⟨c7b0, c7b1⟩ := fcE c7
 clear c7
 replace H := itN H
 obtain ⟨c8, H⟩ := H
 obtain ⟨c8b0, c8b1⟩ := fcE c8
 clear c8
 replace H := itN H
 obtain ⟨c9, H⟩ := H
 obtain ⟨c9b0, c9b1⟩ := fcE c9
 clear c9
 replace H := itN H
 obtain ⟨c10, H⟩ := H
 obtain ⟨c10b0, c10b1⟩ := fcE c10
 clear c10
 obtain rfl := Option.some.inj H
 go_enter Tryd.func6, Tryd.ntmps6
 try go_wp2_with (first | ((with_reducible refine gate_callee (f := 11) rfl ?_); refine goesA (some 10) Tryd.func11 #[.string (⟨#[120, 39, 48, 48, 102, 102, 39]⟩ : ByteArray)] ?_; (with_reducible refine (value_Parse.calls _ _ _ _ _ _ _ ?side1 A1.out).mono ?_); (case side1 => exact Tabs.below HT.out (bwA)); rintro e w101 ⟨rfl, hb⟩; refine ⟨_, rfl, ?_⟩; replace HB := Aside0.mk (below_step (bwA) hb); (try clear hb)) | ((with_reducible refine gate_dst (N := 1) rfl ?_); refine boxB 1 #[.int .i64 0, .int .i64 0, .string (⟨#[]⟩ : ByteArray)] 26 HB ?_; clear HB; intro gb204 w102 BK204 GW204 GE204 HB; obtain ⟨hcz103_0, hcz103_1, hcz103_2⟩ := cel3 BK204.out; obtain ⟨hfz103_0, hfz103_1, hfz103_2⟩ := frz3 BK204.out) | ((with_reducible refine gate_callee (f := 11) rfl ?_); refine goesA (some 14) Tryd.func11 #[.string (⟨#[45, 48]⟩ : ByteArray)] ?_; (with_reducible refine (value_Parse.calls _ _ _ _ _ _ _ ?side1 A2.out).mono ?_); (case side1 => exact Tabs.below HT.out (bwA)); rintro e w104 ⟨rfl, hb⟩; refine ⟨_, rfl, ?_⟩; replace BK204 := Aside0.mk (blk_below (g := gb204) (o := .cells #[.int .i64 t200, .int .i64 t201, .string t202] 26 (0, 0)) blkZ hb); replace HB := Aside0.mk (below_step (bwA) hb); (try clear hb)) | ((with_reducible refine gate_dst (N := 3) rfl ?_); refine boxA 3 #[.int .i64 0, .int .i64 0, .string (⟨#[]⟩ : ByteArray)] 26 ?_; intro gb209 hg w105 hbox hb; have BK209 := Aside0.mk (hbox); have GW209 := Aside0.mk (hgW hg : w.heap.size ≤ gb209); have GE209 := Aside0.mk (hgW hg : w.heap.size ≤ gb209); have NB204_209 := Aside0.mk (hgL hg BK204 : gb204 ≠ gb209); have NB209_204 := Aside0.mk (hgG hg BK204 : gb209 ≠ gb204); replace BK204 := Aside0.mk (bkB BK204 hb); replace HB := Aside0.mk (below_step (bwA) hb); clear hb hbox hg; have hnb106 := NB209_204.out; have hnc106 := NB204_209.out; obtain ⟨hcz107_0, hcz107_1, hcz107_2⟩ := cel3 BK209.out; obtain ⟨hfz107_0, hfz107_1, hfz107_2⟩ := frz3 BK209.out) | ((with_reducible refine gate_callee (f := 11) rfl ?_); refine goesA (some 18) Tryd.func11 #[.string (⟨#[48, 48, 55]⟩ : ByteArray)] ?_; (with_reducible refine (value_Parse.calls _ _ _ _ _ _ _ ?side1 A3.out).mono ?_); (case side1 => exact Tabs.below HT.out (bwA)); rintro e w108 ⟨rfl, hb⟩; refine ⟨_, rfl, ?_⟩; replace BK204 := Aside0.mk (blk_below (g := gb204) (o := .cells #[.int .i64 t200, .int .i64 t201, .string t202] 26 (0, 0)) blkZ hb); replace BK209 := Aside0.mk (blk_below (g := gb209) (o := .cells #[.int .i64 t205, .int .i64 t206, .string t207] 26 (0, 0)) blkZ hb); replace HB := Aside0.mk (below_step (bwA) hb); (try clear hb)) | ((with_reducible refine gate_dst (N := 5) rfl ?_); refine boxA 5 #[.int .i64 0, .int .i64 0, .string (⟨#[]⟩ : ByteArray)] 26 ?_; intro gb214 hg w109 hbox hb; have BK214 := Aside0.mk (hbox); have GW214 := Aside0.mk (hgW hg : w.heap.size ≤ gb214); have GE214 := Aside0.mk (hgW hg : w.heap.size ≤ gb214); have NB204_214 := Aside0.mk (hgL hg BK204 : gb204 ≠ gb214); have NB214_204 := Aside0.mk (hgG hg BK204 : gb214 ≠ gb204); have NB209_214 := Aside0.mk (hgL hg BK209 : gb209 ≠ gb214); have NB214_209 := Aside0.mk (hgG hg BK209 : gb214 ≠ gb209); replace BK204 := Aside0.mk (bkB BK204 hb); replace BK209 := Aside0.mk (bkB BK209 hb); replace HB := Aside0.mk (below_step (bwA) hb); clear hb hbox hg; have hnb110 := NB214_204.out; have hnc110 := NB204_214.out; have hnb111 := NB214_209.out; have hnc111 := NB209_214.out; obtain ⟨hcz112_0, hcz112_1, hcz112_2⟩ := cel3 BK214.out; obtain ⟨hfz112_0, hfz112_1, hfz112_2⟩ := frz3 BK214.out) | ((with_reducible refine gate_callee (f := 11) rfl ?_); refine goesA (some 22) Tryd.func11 #[.string (⟨#[34, 97]⟩ : ByteArray)] ?_; (with_reducible refine (value_Parse.calls _ _ _ _ _ _ _ ?side1 A4.out).mono ?_); (case side1 => exact Tabs.below HT.out (bwA)); rintro e w113 ⟨rfl, hb⟩; refine ⟨_, rfl, ?_⟩; replace BK204 := Aside0.mk (blk_below (g := gb204) (o := .cells #[.int .i64 t200, .int .i64 t201, .string t202] 26 (0, 0)) blkZ hb); replace BK209 := Aside0.mk (blk_below (g := gb209) (o := .cells #[.int .i64 t205, .int .i64 t206, .string t207] 26 (0, 0)) blkZ hb); replace BK214 := Aside0.mk (blk_below (g := gb214) (o := .cells #[.int .i64 t210, .int .i64 t211, .string t212] 26 (0, 0)) blkZ hb); replace HB := Aside0.mk (below_step (bwA) hb); (try clear hb)) | ((with_reducible refine gate_dst (N := 7) rfl ?_); refine boxA 7 #[.int .i64 0, .int .i64 0, .string (⟨#[]⟩ : ByteArray)] 26 ?_; intro gb219 hg w114 hbox hb; have BK219 := Aside0.mk (hbox); have GW219 := Aside0.mk (hgW hg : w.heap.size ≤ gb219); have GE219 := Aside0.mk (hgW hg : w.heap.size ≤ gb219); have NB204_219 := Aside0.mk (hgL hg BK204 : gb204 ≠ gb219); have NB219_204 := Aside0.mk (hgG hg BK204 : gb219 ≠ gb204); have NB209_219 := Aside0.mk (hgL hg BK209 : gb209 ≠ gb219); have NB219_209 := Aside0.mk (hgG hg BK209 : gb219 ≠ gb209); have NB214_219 := Aside0.mk (hgL hg BK214 : gb214 ≠ gb219); have NB219_214 := Aside0.mk (hgG hg BK214 : gb219 ≠ gb214); replace BK204 := Aside0.mk (bkB BK204 hb); replace BK209 := Aside0.mk (bkB BK209 hb); replace BK214 := Aside0.mk (bkB BK214 hb); replace HB := Aside0.mk (below_step (bwA) hb); clear hb hbox hg; have hnb115 := NB219_204.out; have hnc115 := NB204_219.out; have hnb116 := NB219_209.out; have hnc116 := NB209_219.out; have hnb117 := NB219_214.out; have hnc117 := NB214_219.out; obtain ⟨hcz118_0, hcz118_1, hcz118_2⟩ := cel3 BK219.out; obtain ⟨hfz118_0, hfz118_1, hfz118_2⟩ := frz3 BK219.out) | ((with_reducible refine gate_callee (f := 12) rfl ?_); refine goesA (some 26) Tryd.func12 #[.agg #[.int .i64 2, .int .i64 0, .string (⟨#[97, 34, 195, 169, 10, 1]⟩ : ByteArray)]] ?_; (with_reducible refine (value_Show.calls _ _ _ _ _ _ ?side1 A5.out).mono ?_); (case side1 => exact Tabs.below HT.out (bwA)); rintro e w119 ⟨rfl, hb⟩; refine ⟨_, rfl, ?_⟩; replace BK204 := Aside0.mk (blk_below (g := gb204) (o := .cells #[.int .i64 t200, .int .i64 t201, .string t202] 26 (0, 0)) blkZ hb); replace BK209 := Aside0.mk (blk_below (g := gb209) (o := .cells #[.int .i64 t205, .int .i64 t206, .string t207] 26 (0, 0)) blkZ hb); replace BK214 := Aside0.mk (blk_below (g := gb214) (o := .cells #[.int .i64 t210, .int .i64 t211, .string t212] 26 (0, 0)) blkZ hb); replace BK219 := Aside0.mk (blk_below (g := gb219) (o := .cells #[.int .i64 t215, .int .i64 t216, .string t217] 26 (0, 0)) blkZ hb); replace HB := Aside0.mk (below_step (bwA) hb); (try clear hb); obtain ⟨hcz120_0, hcz120_1, hcz120_2⟩ := cel3 BK204.out; obtain ⟨hfz120_0, hfz120_1, hfz120_2⟩ := frz3 BK204.out))
 go_ret
 exact ⟨endA, bwA⟩
/-! ### value_FromI: function 116, by hand -/
theorem box2a {w : World} {cs ds : Array Value} {T U : TypeId} {j : Nat} {v : Value} (h : cs[j]? = some v) : ((w.alloc (.cells cs T)).alloc (.cells ds U)).cell? ⟨w.heap.size, j, none⟩ = some v := Lib.cell?_alloc_some _ ((Lib.cell_of_heap (heap_alloc_new w _) j).trans h)
theorem box2b {w : World} {cs ds : Array Value} {T U : TypeId} {j : Nat} {v : Value} (h : ds[j]? = some v) : ((w.alloc (.cells cs T)).alloc (.cells ds U)).cell? ⟨w.heap.size + 1, j, none⟩ = some v := by
 have h1 := (Lib.cell_of_heap (heap_alloc_new (w.alloc (.cells cs T)) (.cells ds U)) j).trans h
 have e : (w.alloc (.cells cs T)).heap.size = w.heap.size + 1 := by simp
 rwa [e] at h1
theorem box2s {w : World} {o p : Obj} : ((w.alloc o).alloc p).heap.size = w.heap.size + 2 := by simp
theorem box3b {w : World} {cs ds : Array Value} {T U : TypeId} {i j : Nat} {u v : Value} (h : (ds.setIfInBounds i u)[j]? = some v) : (((w.alloc (.cells cs T)).alloc (.cells ds U)).setCell ⟨w.heap.size + 1, i, none⟩ u).cell? ⟨w.heap.size + 1, j, none⟩ = some v := by
 have h1 := heap_alloc_new (w.alloc (.cells cs T)) (.cells ds U)
 have e : (w.alloc (.cells cs T)).heap.size = w.heap.size + 1 := by simp
 rw [e] at h1
 exact (blk_cell (blk_put h1 i u rfl) j).trans h
theorem box3s {w : World} {o p : Obj} {a : Addr} {u : Value} : (((w.alloc o).alloc p).setCell a u).heap.size = w.heap.size + 2 := by simp
set_option maxHeartbeats 4000000 in
set_option maxRecDepth 100000 in
theorem From0I.calls (n : Int) (b : Bool) (w : World) (hT : Tabs w) (h : value_Check.f 1 n ⟨#[]⟩ = some b) :
  Calls Tryd.prog 7 #[.iface 3 (.int .i64 n)] w fun e w' => e = .returned (.tuple #[.agg #[.int .i64 (if b = true then 1 else 0), .int .i64 (if b = true then n else 0), .string (if b = true then ⟨#[]⟩ else ⟨#[]⟩)], .int .i64 (if b = true then 0 else 1)]) ∧ Below w.heap.size w w' := by
 have hu := Tryd.underlying26
 have hu0 := Tryd.underlying20
 have huT0 := Tryd.underlying3
 have hb2 : Below w.heap.size w ((w.alloc (.cells #[.int .i64 0, .int .i64 0, .string ⟨#[]⟩] 26)).alloc (.cells #[.int .i64 1, .int .i64 n, .string ⟨#[]⟩] 26)) := ((Below.refl _ w).alloc (Nat.le_refl _) _).alloc (by simp) _
 have cC := fun W (hb : Below w.heap.size w W) => value_Check.calls 1 n ⟨#[]⟩ b W (hT.below hb) h
 have HB2 := Aside0.mk hb2
 have ta0 : ∀ W, (Instr.typeAssert (.iface 3 (.int .i64 n)) 20 3 true).run Tryd.prog W = .ok (.tuple #[.int .i64 n, .bool true]) W := fun W => by simp [Instr.typeAssert, run_underlying hu0, run_underlying huT0, go_sem, Result.andThen]
 clear hT h hb2 
 cases b with
 | true =>
  rw [if_pos rfl, if_pos rfl, if_pos rfl, if_pos rfl]
  go_enter Tryd.func7, Tryd.ntmps7
  go_wp2_with (go_at_call 10; refine (cC _ HB2.out).mono ?_; rintro e w' ⟨rfl, hb'⟩; have y0 := (hb'.cell (p := ⟨w.heap.size + 1, 0, none⟩) (by rw [box2s]; show w.heap.size + 1 < _; omega)).trans (box2b (j := 0) rfl); have y1 := (hb'.cell (p := ⟨w.heap.size + 1, 1, none⟩) (by rw [box2s]; show w.heap.size + 1 < _; omega)).trans (box2b (j := 1) rfl); have y2 := (hb'.cell (p := ⟨w.heap.size + 1, 2, none⟩) (by rw [box2s]; show w.heap.size + 1 < _; omega)).trans (box2b (j := 2) rfl); have bx := blk_below (g := w.heap.size) (blk_below (heap_alloc_new w (.cells #[.int .i64 0, .int .i64 0, .string ⟨#[]⟩] 26)) ((Below.refl _ _).alloc (Nat.le_refl _) (.cells #[.int .i64 1, .int .i64 n, .string ⟨#[]⟩] 26))) hb'; have x0 := (blk_cell bx 0).trans rfl; have f0 := blk_frozen bx 0; have x1 := (blk_cell bx 1).trans rfl; have f1 := blk_frozen bx 1; have x2 := (blk_cell bx 2).trans rfl; have f2 := blk_frozen bx 2)
  have bz := blk_put (blk_put (blk_put bx 0 (.int .i64 1) rfl) 1 (.int .i64 n) rfl) 2 (.string ⟨#[]⟩) rfl
  have hz := (((hb'.mono (show w.heap.size ≤ _ by rw [box2s]; omega)).setCell (p := ⟨w.heap.size, 0, none⟩) (Nat.le_refl _) (.int .i64 1)).setCell (p := ⟨w.heap.size, 1, none⟩) (Nat.le_refl _) (.int .i64 n)).setCell (p := ⟨w.heap.size, 2, none⟩) (Nat.le_refl _) (.string ⟨#[]⟩)
  refine bodyPost_ret (results_ct rfl _ _ w.heap.size 26 #[.int .i64 1, .int .i64 n, .string ⟨#[]⟩] (0, 0) _ rfl bz hu rfl (by kernel_rfl)) rfl ?_
  exact ⟨rfl, HB2.out.trans hz⟩
 | false =>
  rw [if_neg (by decide), if_neg (by decide), if_neg (by decide), if_neg (by decide)]
  go_enter Tryd.func7, Tryd.ntmps7
  go_wp2_with (go_at_call 10; refine (cC _ HB2.out).mono ?_; rintro e w' ⟨rfl, hb'⟩; have y0 := (hb'.cell (p := ⟨w.heap.size + 1, 0, none⟩) (by rw [box2s]; show w.heap.size + 1 < _; omega)).trans (box2b (j := 0) rfl); have y1 := (hb'.cell (p := ⟨w.heap.size + 1, 1, none⟩) (by rw [box2s]; show w.heap.size + 1 < _; omega)).trans (box2b (j := 1) rfl); have y2 := (hb'.cell (p := ⟨w.heap.size + 1, 2, none⟩) (by rw [box2s]; show w.heap.size + 1 < _; omega)).trans (box2b (j := 2) rfl); have bx := blk_below (g := w.heap.size) (blk_below (heap_alloc_new w (.cells #[.int .i64 0, .int .i64 0, .string ⟨#[]⟩] 26)) ((Below.refl _ _).alloc (Nat.le_refl _) (.cells #[.int .i64 1, .int .i64 n, .string ⟨#[]⟩] 26))) hb'; have x0 := (blk_cell bx 0).trans rfl; have f0 := blk_frozen bx 0; have x1 := (blk_cell bx 1).trans rfl; have f1 := blk_frozen bx 1; have x2 := (blk_cell bx 2).trans rfl; have f2 := blk_frozen bx 2)
  have bz := blk_put (blk_put (blk_put bx 0 (.int .i64 0) rfl) 1 (.int .i64 0) rfl) 2 (.string ⟨#[]⟩) rfl
  have hz := (((hb'.mono (show w.heap.size ≤ _ by rw [box2s]; omega)).setCell (p := ⟨w.heap.size, 0, none⟩) (Nat.le_refl _) (.int .i64 0)).setCell (p := ⟨w.heap.size, 1, none⟩) (Nat.le_refl _) (.int .i64 0)).setCell (p := ⟨w.heap.size, 2, none⟩) (Nat.le_refl _) (.string ⟨#[]⟩)
  refine bodyPost_ret (results_ct rfl _ _ w.heap.size 26 #[.int .i64 0, .int .i64 0, .string ⟨#[]⟩] (0, 0) _ rfl bz hu rfl (by kernel_rfl)) rfl ?_
  exact ⟨rfl, HB2.out.trans hz⟩
def value_FromI.f (a0 : Int) : Option (Int × Int × ByteArray × Int) := (value_Check.f 1 a0 ⟨#[]⟩).bind fun b => some (if b = true then 1 else 0, if b = true then a0 else 0, if b = true then ⟨#[]⟩ else ⟨#[]⟩, if b = true then 0 else 1)
theorem value_FromI.calls (a0 : Int) (r1 r2 : Int) (r3 : ByteArray) (r4 : Int) (w : World) (hT : Tabs w) (h : value_FromI.f a0 = some (r1, r2, r3, r4)) :
  Calls Tryd.prog 7 #[.iface 3 (.int .i64 a0)] w fun e w' => e = .returned (.tuple #[.agg #[.int .i64 r1, .int .i64 r2, .string r3], .int .i64 r4]) ∧ Below w.heap.size w w' := by
 unfold value_FromI.f at h
 obtain ⟨b, hb, h⟩ := Option.bind_eq_some_iff.1 h
 have h := Option.some.inj h
 simp only [Prod.mk.injEq] at h
 obtain ⟨rfl, rfl, rfl, rfl⟩ := h
 exact From0I.calls a0 b w hT hb

/-! ### value_FromS: function 117, by hand -/
set_option maxHeartbeats 4000000 in
set_option maxRecDepth 100000 in
theorem From0S.calls (s : ByteArray) (b : Bool) (w : World) (hT : Tabs w) (h : value_Check.f 2 0 s = some b) :
  Calls Tryd.prog 7 #[.iface 9 (.string s)] w fun e w' => e = .returned (.tuple #[.agg #[.int .i64 (if b = true then 2 else 0), .int .i64 (if b = true then 0 else 0), .string (if b = true then s else ⟨#[]⟩)], .int .i64 (if b = true then 0 else 1)]) ∧ Below w.heap.size w w' := by
 have hu := Tryd.underlying26
 have hu0 := Tryd.underlying20
 have huT0 := Tryd.underlying3
 have huT1 := Tryd.underlying9
 have hb2 : Below w.heap.size w ((w.alloc (.cells #[.int .i64 0, .int .i64 0, .string ⟨#[]⟩] 26)).alloc (.cells #[.int .i64 2, .int .i64 0, .string s] 26)) := ((Below.refl _ w).alloc (Nat.le_refl _) _).alloc (by simp) _
 have cC := fun W (hb : Below w.heap.size w W) => value_Check.calls 2 0 s b W (hT.below hb) h
 have HB2 := Aside0.mk hb2
 have ta0 : ∀ W, (Instr.typeAssert (.iface 9 (.string s)) 20 3 true).run Tryd.prog W = .ok (.tuple #[.int .i64 0, .bool false]) W := fun W => by simp [Instr.typeAssert, run_underlying hu0, run_underlying huT0, go_sem, Result.andThen]
 have ta1 : ∀ W, (Instr.typeAssert (.iface 9 (.string s)) 20 9 true).run Tryd.prog W = .ok (.tuple #[.string s, .bool true]) W := fun W => by simp [Instr.typeAssert, run_underlying hu0, run_underlying huT1, go_sem, Result.andThen]
 clear hT h hb2 
 cases b with
 | true =>
  rw [if_pos rfl, if_pos rfl, if_pos rfl, if_pos rfl]
  go_enter Tryd.func7, Tryd.ntmps7
  go_wp2_with (go_at_call 10; refine (cC _ HB2.out).mono ?_; rintro e w' ⟨rfl, hb'⟩; have y0 := (hb'.cell (p := ⟨w.heap.size + 1, 0, none⟩) (by rw [box2s]; show w.heap.size + 1 < _; omega)).trans (box2b (j := 0) rfl); have y1 := (hb'.cell (p := ⟨w.heap.size + 1, 1, none⟩) (by rw [box2s]; show w.heap.size + 1 < _; omega)).trans (box2b (j := 1) rfl); have y2 := (hb'.cell (p := ⟨w.heap.size + 1, 2, none⟩) (by rw [box2s]; show w.heap.size + 1 < _; omega)).trans (box2b (j := 2) rfl); have bx := blk_below (g := w.heap.size) (blk_below (heap_alloc_new w (.cells #[.int .i64 0, .int .i64 0, .string ⟨#[]⟩] 26)) ((Below.refl _ _).alloc (Nat.le_refl _) (.cells #[.int .i64 2, .int .i64 0, .string s] 26))) hb'; have x0 := (blk_cell bx 0).trans rfl; have f0 := blk_frozen bx 0; have x1 := (blk_cell bx 1).trans rfl; have f1 := blk_frozen bx 1; have x2 := (blk_cell bx 2).trans rfl; have f2 := blk_frozen bx 2)
  have bz := blk_put (blk_put (blk_put bx 0 (.int .i64 2) rfl) 1 (.int .i64 0) rfl) 2 (.string s) rfl
  have hz := (((hb'.mono (show w.heap.size ≤ _ by rw [box2s]; omega)).setCell (p := ⟨w.heap.size, 0, none⟩) (Nat.le_refl _) (.int .i64 2)).setCell (p := ⟨w.heap.size, 1, none⟩) (Nat.le_refl _) (.int .i64 0)).setCell (p := ⟨w.heap.size, 2, none⟩) (Nat.le_refl _) (.string s)
  refine bodyPost_ret (results_ct rfl _ _ w.heap.size 26 #[.int .i64 2, .int .i64 0, .string s] (0, 0) _ rfl bz hu rfl (by kernel_rfl)) rfl ?_
  exact ⟨rfl, HB2.out.trans hz⟩
 | false =>
  rw [if_neg (by decide), if_neg (by decide), if_neg (by decide), if_neg (by decide)]
  go_enter Tryd.func7, Tryd.ntmps7
  go_wp2_with (go_at_call 10; refine (cC _ HB2.out).mono ?_; rintro e w' ⟨rfl, hb'⟩; have y0 := (hb'.cell (p := ⟨w.heap.size + 1, 0, none⟩) (by rw [box2s]; show w.heap.size + 1 < _; omega)).trans (box2b (j := 0) rfl); have y1 := (hb'.cell (p := ⟨w.heap.size + 1, 1, none⟩) (by rw [box2s]; show w.heap.size + 1 < _; omega)).trans (box2b (j := 1) rfl); have y2 := (hb'.cell (p := ⟨w.heap.size + 1, 2, none⟩) (by rw [box2s]; show w.heap.size + 1 < _; omega)).trans (box2b (j := 2) rfl); have bx := blk_below (g := w.heap.size) (blk_below (heap_alloc_new w (.cells #[.int .i64 0, .int .i64 0, .string ⟨#[]⟩] 26)) ((Below.refl _ _).alloc (Nat.le_refl _) (.cells #[.int .i64 2, .int .i64 0, .string s] 26))) hb'; have x0 := (blk_cell bx 0).trans rfl; have f0 := blk_frozen bx 0; have x1 := (blk_cell bx 1).trans rfl; have f1 := blk_frozen bx 1; have x2 := (blk_cell bx 2).trans rfl; have f2 := blk_frozen bx 2)
  have bz := blk_put (blk_put (blk_put bx 0 (.int .i64 0) rfl) 1 (.int .i64 0) rfl) 2 (.string ⟨#[]⟩) rfl
  have hz := (((hb'.mono (show w.heap.size ≤ _ by rw [box2s]; omega)).setCell (p := ⟨w.heap.size, 0, none⟩) (Nat.le_refl _) (.int .i64 0)).setCell (p := ⟨w.heap.size, 1, none⟩) (Nat.le_refl _) (.int .i64 0)).setCell (p := ⟨w.heap.size, 2, none⟩) (Nat.le_refl _) (.string ⟨#[]⟩)
  refine bodyPost_ret (results_ct rfl _ _ w.heap.size 26 #[.int .i64 0, .int .i64 0, .string ⟨#[]⟩] (0, 0) _ rfl bz hu rfl (by kernel_rfl)) rfl ?_
  exact ⟨rfl, HB2.out.trans hz⟩
def value_FromS.f (a0 : ByteArray) : Option (Int × Int × ByteArray × Int) := (value_Check.f 2 0 a0).bind fun b => some (if b = true then 2 else 0, if b = true then 0 else 0, if b = true then a0 else ⟨#[]⟩, if b = true then 0 else 1)
theorem value_FromS.calls (a0 : ByteArray) (r1 r2 : Int) (r3 : ByteArray) (r4 : Int) (w : World) (hT : Tabs w) (h : value_FromS.f a0 = some (r1, r2, r3, r4)) :
  Calls Tryd.prog 7 #[.iface 9 (.string a0)] w fun e w' => e = .returned (.tuple #[.agg #[.int .i64 r1, .int .i64 r2, .string r3], .int .i64 r4]) ∧ Below w.heap.size w w' := by
 unfold value_FromS.f at h
 obtain ⟨b, hb, h⟩ := Option.bind_eq_some_iff.1 h
 have h := Option.some.inj h
 simp only [Prod.mk.injEq] at h
 obtain ⟨rfl, rfl, rfl, rfl⟩ := h
 exact From0S.calls a0 b w hT hb

/-! ### value_FromX: function 118, by hand -/
set_option maxHeartbeats 4000000 in
set_option maxRecDepth 100000 in
theorem From0F.calls  (b : Bool) (w : World) (hT : Tabs w) (h : value_Check.f 3 0 ⟨#[]⟩ = some b) :
  Calls Tryd.prog 7 #[.iface 4 (.bool false)] w fun e w' => e = .returned (.tuple #[.agg #[.int .i64 (if b = true then 3 else 0), .int .i64 (if b = true then 0 else 0), .string (if b = true then ⟨#[]⟩ else ⟨#[]⟩)], .int .i64 (if b = true then 0 else 1)]) ∧ Below w.heap.size w w' := by
 have hu := Tryd.underlying26
 have hu0 := Tryd.underlying20
 have huT0 := Tryd.underlying3
 have huT1 := Tryd.underlying9
 have huT2 := Tryd.underlying4
 have hb2 : Below w.heap.size w ((w.alloc (.cells #[.int .i64 0, .int .i64 0, .string ⟨#[]⟩] 26)).alloc (.cells #[.int .i64 3, .int .i64 0, .string ⟨#[]⟩] 26)) := ((Below.refl _ w).alloc (Nat.le_refl _) _).alloc (by simp) _
 have cC := fun W (hb : Below w.heap.size w W) => value_Check.calls 3 0 ⟨#[]⟩ b W (hT.below hb) h
 have HB2 := Aside0.mk hb2
 have ta0 : ∀ W, (Instr.typeAssert (.iface 4 (.bool false)) 20 3 true).run Tryd.prog W = .ok (.tuple #[.int .i64 0, .bool false]) W := fun W => by simp [Instr.typeAssert, run_underlying hu0, run_underlying huT0, go_sem, Result.andThen]
 have ta1 : ∀ W, (Instr.typeAssert (.iface 4 (.bool false)) 20 9 true).run Tryd.prog W = .ok (.tuple #[.string ⟨#[]⟩, .bool false]) W := fun W => by simp [Instr.typeAssert, run_underlying hu0, run_underlying huT1, go_sem, Result.andThen]
 have ta2 : ∀ W, (Instr.typeAssert (.iface 4 (.bool false)) 20 4 true).run Tryd.prog W = .ok (.tuple #[.bool false, .bool true]) W := fun W => by simp [Instr.typeAssert, run_underlying hu0, run_underlying huT2, go_sem, Result.andThen]
 clear hT h hb2 
 cases b with
 | true =>
  rw [if_pos rfl, if_pos rfl, if_pos rfl, if_pos rfl]
  go_enter Tryd.func7, Tryd.ntmps7
  go_wp2_with (go_at_call 10; refine (cC _ HB2.out).mono ?_; rintro e w' ⟨rfl, hb'⟩; have y0 := (hb'.cell (p := ⟨w.heap.size + 1, 0, none⟩) (by rw [box2s]; show w.heap.size + 1 < _; omega)).trans (box2b (j := 0) rfl); have y1 := (hb'.cell (p := ⟨w.heap.size + 1, 1, none⟩) (by rw [box2s]; show w.heap.size + 1 < _; omega)).trans (box2b (j := 1) rfl); have y2 := (hb'.cell (p := ⟨w.heap.size + 1, 2, none⟩) (by rw [box2s]; show w.heap.size + 1 < _; omega)).trans (box2b (j := 2) rfl); have bx := blk_below (g := w.heap.size) (blk_below (heap_alloc_new w (.cells #[.int .i64 0, .int .i64 0, .string ⟨#[]⟩] 26)) ((Below.refl _ _).alloc (Nat.le_refl _) (.cells #[.int .i64 3, .int .i64 0, .string ⟨#[]⟩] 26))) hb'; have x0 := (blk_cell bx 0).trans rfl; have f0 := blk_frozen bx 0; have x1 := (blk_cell bx 1).trans rfl; have f1 := blk_frozen bx 1; have x2 := (blk_cell bx 2).trans rfl; have f2 := blk_frozen bx 2)
  have bz := blk_put (blk_put (blk_put bx 0 (.int .i64 3) rfl) 1 (.int .i64 0) rfl) 2 (.string ⟨#[]⟩) rfl
  have hz := (((hb'.mono (show w.heap.size ≤ _ by rw [box2s]; omega)).setCell (p := ⟨w.heap.size, 0, none⟩) (Nat.le_refl _) (.int .i64 3)).setCell (p := ⟨w.heap.size, 1, none⟩) (Nat.le_refl _) (.int .i64 0)).setCell (p := ⟨w.heap.size, 2, none⟩) (Nat.le_refl _) (.string ⟨#[]⟩)
  refine bodyPost_ret (results_ct rfl _ _ w.heap.size 26 #[.int .i64 3, .int .i64 0, .string ⟨#[]⟩] (0, 0) _ rfl bz hu rfl (by kernel_rfl)) rfl ?_
  exact ⟨rfl, HB2.out.trans hz⟩
 | false =>
  rw [if_neg (by decide), if_neg (by decide), if_neg (by decide), if_neg (by decide)]
  go_enter Tryd.func7, Tryd.ntmps7
  go_wp2_with (go_at_call 10; refine (cC _ HB2.out).mono ?_; rintro e w' ⟨rfl, hb'⟩; have y0 := (hb'.cell (p := ⟨w.heap.size + 1, 0, none⟩) (by rw [box2s]; show w.heap.size + 1 < _; omega)).trans (box2b (j := 0) rfl); have y1 := (hb'.cell (p := ⟨w.heap.size + 1, 1, none⟩) (by rw [box2s]; show w.heap.size + 1 < _; omega)).trans (box2b (j := 1) rfl); have y2 := (hb'.cell (p := ⟨w.heap.size + 1, 2, none⟩) (by rw [box2s]; show w.heap.size + 1 < _; omega)).trans (box2b (j := 2) rfl); have bx := blk_below (g := w.heap.size) (blk_below (heap_alloc_new w (.cells #[.int .i64 0, .int .i64 0, .string ⟨#[]⟩] 26)) ((Below.refl _ _).alloc (Nat.le_refl _) (.cells #[.int .i64 3, .int .i64 0, .string ⟨#[]⟩] 26))) hb'; have x0 := (blk_cell bx 0).trans rfl; have f0 := blk_frozen bx 0; have x1 := (blk_cell bx 1).trans rfl; have f1 := blk_frozen bx 1; have x2 := (blk_cell bx 2).trans rfl; have f2 := blk_frozen bx 2)
  have bz := blk_put (blk_put (blk_put bx 0 (.int .i64 0) rfl) 1 (.int .i64 0) rfl) 2 (.string ⟨#[]⟩) rfl
  have hz := (((hb'.mono (show w.heap.size ≤ _ by rw [box2s]; omega)).setCell (p := ⟨w.heap.size, 0, none⟩) (Nat.le_refl _) (.int .i64 0)).setCell (p := ⟨w.heap.size, 1, none⟩) (Nat.le_refl _) (.int .i64 0)).setCell (p := ⟨w.heap.size, 2, none⟩) (Nat.le_refl _) (.string ⟨#[]⟩)
  refine bodyPost_ret (results_ct rfl _ _ w.heap.size 26 #[.int .i64 0, .int .i64 0, .string ⟨#[]⟩] (0, 0) _ rfl bz hu rfl (by kernel_rfl)) rfl ?_
  exact ⟨rfl, HB2.out.trans hz⟩
set_option maxHeartbeats 4000000 in
set_option maxRecDepth 100000 in
theorem From0T.calls  (b : Bool) (w : World) (hT : Tabs w) (h : value_Check.f 3 1 ⟨#[]⟩ = some b) :
  Calls Tryd.prog 7 #[.iface 4 (.bool true)] w fun e w' => e = .returned (.tuple #[.agg #[.int .i64 (if b = true then 3 else 0), .int .i64 (if b = true then 1 else 0), .string (if b = true then ⟨#[]⟩ else ⟨#[]⟩)], .int .i64 (if b = true then 0 else 1)]) ∧ Below w.heap.size w w' := by
 have hu := Tryd.underlying26
 have hu0 := Tryd.underlying20
 have huT0 := Tryd.underlying3
 have huT1 := Tryd.underlying9
 have huT2 := Tryd.underlying4
 have hb2 : Below w.heap.size w ((w.alloc (.cells #[.int .i64 0, .int .i64 0, .string ⟨#[]⟩] 26)).alloc (.cells #[.int .i64 3, .int .i64 1, .string ⟨#[]⟩] 26)) := ((Below.refl _ w).alloc (Nat.le_refl _) _).alloc (by simp) _
 have cC := fun W (hb : Below w.heap.size w W) => value_Check.calls 3 1 ⟨#[]⟩ b W (hT.below hb) h
 have HB2 := Aside0.mk hb2
 have ta0 : ∀ W, (Instr.typeAssert (.iface 4 (.bool true)) 20 3 true).run Tryd.prog W = .ok (.tuple #[.int .i64 0, .bool false]) W := fun W => by simp [Instr.typeAssert, run_underlying hu0, run_underlying huT0, go_sem, Result.andThen]
 have ta1 : ∀ W, (Instr.typeAssert (.iface 4 (.bool true)) 20 9 true).run Tryd.prog W = .ok (.tuple #[.string ⟨#[]⟩, .bool false]) W := fun W => by simp [Instr.typeAssert, run_underlying hu0, run_underlying huT1, go_sem, Result.andThen]
 have ta2 : ∀ W, (Instr.typeAssert (.iface 4 (.bool true)) 20 4 true).run Tryd.prog W = .ok (.tuple #[.bool true, .bool true]) W := fun W => by simp [Instr.typeAssert, run_underlying hu0, run_underlying huT2, go_sem, Result.andThen]
 clear hT h hb2 
 cases b with
 | true =>
  rw [if_pos rfl, if_pos rfl, if_pos rfl, if_pos rfl]
  go_enter Tryd.func7, Tryd.ntmps7
  go_wp2_with (go_at_call 10; refine (cC _ HB2.out).mono ?_; rintro e w' ⟨rfl, hb'⟩; have y0 := (hb'.cell (p := ⟨w.heap.size + 1, 0, none⟩) (by rw [box2s]; show w.heap.size + 1 < _; omega)).trans (box2b (j := 0) rfl); have y1 := (hb'.cell (p := ⟨w.heap.size + 1, 1, none⟩) (by rw [box2s]; show w.heap.size + 1 < _; omega)).trans (box2b (j := 1) rfl); have y2 := (hb'.cell (p := ⟨w.heap.size + 1, 2, none⟩) (by rw [box2s]; show w.heap.size + 1 < _; omega)).trans (box2b (j := 2) rfl); have bx := blk_below (g := w.heap.size) (blk_below (heap_alloc_new w (.cells #[.int .i64 0, .int .i64 0, .string ⟨#[]⟩] 26)) ((Below.refl _ _).alloc (Nat.le_refl _) (.cells #[.int .i64 3, .int .i64 1, .string ⟨#[]⟩] 26))) hb'; have x0 := (blk_cell bx 0).trans rfl; have f0 := blk_frozen bx 0; have x1 := (blk_cell bx 1).trans rfl; have f1 := blk_frozen bx 1; have x2 := (blk_cell bx 2).trans rfl; have f2 := blk_frozen bx 2)
  have bz := blk_put (blk_put (blk_put bx 0 (.int .i64 3) rfl) 1 (.int .i64 1) rfl) 2 (.string ⟨#[]⟩) rfl
  have hz := (((hb'.mono (show w.heap.size ≤ _ by rw [box2s]; omega)).setCell (p := ⟨w.heap.size, 0, none⟩) (Nat.le_refl _) (.int .i64 3)).setCell (p := ⟨w.heap.size, 1, none⟩) (Nat.le_refl _) (.int .i64 1)).setCell (p := ⟨w.heap.size, 2, none⟩) (Nat.le_refl _) (.string ⟨#[]⟩)
  refine bodyPost_ret (results_ct rfl _ _ w.heap.size 26 #[.int .i64 3, .int .i64 1, .string ⟨#[]⟩] (0, 0) _ rfl bz hu rfl (by kernel_rfl)) rfl ?_
  exact ⟨rfl, HB2.out.trans hz⟩
 | false =>
  rw [if_neg (by decide), if_neg (by decide), if_neg (by decide), if_neg (by decide)]
  go_enter Tryd.func7, Tryd.ntmps7
  go_wp2_with (go_at_call 10; refine (cC _ HB2.out).mono ?_; rintro e w' ⟨rfl, hb'⟩; have y0 := (hb'.cell (p := ⟨w.heap.size + 1, 0, none⟩) (by rw [box2s]; show w.heap.size + 1 < _; omega)).trans (box2b (j := 0) rfl); have y1 := (hb'.cell (p := ⟨w.heap.size + 1, 1, none⟩) (by rw [box2s]; show w.heap.size + 1 < _; omega)).trans (box2b (j := 1) rfl); have y2 := (hb'.cell (p := ⟨w.heap.size + 1, 2, none⟩) (by rw [box2s]; show w.heap.size + 1 < _; omega)).trans (box2b (j := 2) rfl); have bx := blk_below (g := w.heap.size) (blk_below (heap_alloc_new w (.cells #[.int .i64 0, .int .i64 0, .string ⟨#[]⟩] 26)) ((Below.refl _ _).alloc (Nat.le_refl _) (.cells #[.int .i64 3, .int .i64 1, .string ⟨#[]⟩] 26))) hb'; have x0 := (blk_cell bx 0).trans rfl; have f0 := blk_frozen bx 0; have x1 := (blk_cell bx 1).trans rfl; have f1 := blk_frozen bx 1; have x2 := (blk_cell bx 2).trans rfl; have f2 := blk_frozen bx 2)
  have bz := blk_put (blk_put (blk_put bx 0 (.int .i64 0) rfl) 1 (.int .i64 0) rfl) 2 (.string ⟨#[]⟩) rfl
  have hz := (((hb'.mono (show w.heap.size ≤ _ by rw [box2s]; omega)).setCell (p := ⟨w.heap.size, 0, none⟩) (Nat.le_refl _) (.int .i64 0)).setCell (p := ⟨w.heap.size, 1, none⟩) (Nat.le_refl _) (.int .i64 0)).setCell (p := ⟨w.heap.size, 2, none⟩) (Nat.le_refl _) (.string ⟨#[]⟩)
  refine bodyPost_ret (results_ct rfl _ _ w.heap.size 26 #[.int .i64 0, .int .i64 0, .string ⟨#[]⟩] (0, 0) _ rfl bz hu rfl (by kernel_rfl)) rfl ?_
  exact ⟨rfl, HB2.out.trans hz⟩
def value_FromX.f (a0 : Bool) : Option (Int × Int × ByteArray × Int) := (value_Check.f 3 (if a0 = true then 1 else 0) ⟨#[]⟩).bind fun b => some (if b = true then 3 else 0, if b = true then (if a0 = true then 1 else 0) else 0, if b = true then ⟨#[]⟩ else ⟨#[]⟩, if b = true then 0 else 1)
theorem value_FromX.calls (a0 : Bool) (r1 r2 : Int) (r3 : ByteArray) (r4 : Int) (w : World) (hT : Tabs w) (h : value_FromX.f a0 = some (r1, r2, r3, r4)) :
  Calls Tryd.prog 7 #[.iface 4 (.bool a0)] w fun e w' => e = .returned (.tuple #[.agg #[.int .i64 r1, .int .i64 r2, .string r3], .int .i64 r4]) ∧ Below w.heap.size w w' := by
 unfold value_FromX.f at h
 obtain ⟨b, hb, h⟩ := Option.bind_eq_some_iff.1 h
 have h := Option.some.inj h
 simp only [Prod.mk.injEq] at h
 obtain ⟨rfl, rfl, rfl, rfl⟩ := h
 cases a0 with
 | true => exact From0T.calls b w hT hb
 | false => exact From0F.calls b w hT hb

/-! ### value_FromB: function 119, by hand -/
set_option maxHeartbeats 4000000 in
set_option maxRecDepth 100000 in
theorem From0B.calls (A : Option Addr) (m c : Nat) (l : List Int) (b : Bool) (w : World) (hC : (Kd.int .u8).C w A m l) (hT : Tabs w) (h : value_Check.f 4 0 (strOfNums l) = some b) :
  Calls Tryd.prog 7 #[.iface 22 (.slice A m c)] w fun e w' => e = .returned (.tuple #[.agg #[.int .i64 (if b = true then 4 else 0), .int .i64 (if b = true then 0 else 0), .string (if b = true then (strOfNums l) else ⟨#[]⟩)], .int .i64 (if b = true then 0 else 1)]) ∧ Below w.heap.size w w' := by
 have hu := Tryd.underlying26
 have hu0 := Tryd.underlying20
 have huT0 := Tryd.underlying3
 have huT1 := Tryd.underlying9
 have huT2 := Tryd.underlying4
 have huT3 := Tryd.underlying22
 have hb2 : Below w.heap.size w ((w.alloc (.cells #[.int .i64 0, .int .i64 0, .string ⟨#[]⟩] 26)).alloc (.cells #[.int .i64 4, .int .i64 0, .string (strOfNums l)] 26)) := ((Below.refl _ w).alloc (Nat.le_refl _) _).alloc (by simp) _
 have cC := fun W (hb : Below w.heap.size w W) => value_Check.calls 4 0 (strOfNums l) b W (hT.below hb) h
 have HB2 := Aside0.mk hb2
 have ta0 : ∀ W, (Instr.typeAssert (.iface 22 (.slice A m c)) 20 3 true).run Tryd.prog W = .ok (.tuple #[.int .i64 0, .bool false]) W := fun W => by simp [Instr.typeAssert, run_underlying hu0, run_underlying huT0, go_sem, Result.andThen]
 have ta1 : ∀ W, (Instr.typeAssert (.iface 22 (.slice A m c)) 20 9 true).run Tryd.prog W = .ok (.tuple #[.string ⟨#[]⟩, .bool false]) W := fun W => by simp [Instr.typeAssert, run_underlying hu0, run_underlying huT1, go_sem, Result.andThen]
 have ta2 : ∀ W, (Instr.typeAssert (.iface 22 (.slice A m c)) 20 4 true).run Tryd.prog W = .ok (.tuple #[.bool false, .bool false]) W := fun W => by simp [Instr.typeAssert, run_underlying hu0, run_underlying huT2, go_sem, Result.andThen]
 have ta3 : ∀ W, (Instr.typeAssert (.iface 22 (.slice A m c)) 20 22 true).run Tryd.prog W = .ok (.tuple #[.slice A m c, .bool true]) W := fun W => by simp [Instr.typeAssert, run_underlying hu0, run_underlying huT3, go_sem, Result.andThen]
 have hcv : (convert 22 9 (.slice A m c)).run Tryd.prog ((w.alloc (.cells #[.int .i64 0, .int .i64 0, .string ⟨#[]⟩] 26)).alloc (.cells #[.int .i64 0, .int .i64 0, .string ⟨#[]⟩] 26)) = .ok (.string (strOfNums l)) _ := Kd.C_string Tryd.underlying22 Tryd.underlying5 Tryd.underlying9 (Kd.C_below hC (((Below.refl _ w).alloc (Nat.le_refl _) _).alloc (by simp) _))
 clear hT h hb2 hC
 cases b with
 | true =>
  rw [if_pos rfl, if_pos rfl, if_pos rfl, if_pos rfl]
  go_enter Tryd.func7, Tryd.ntmps7
  go_wp2_with (go_at_call 10; refine (cC _ HB2.out).mono ?_; rintro e w' ⟨rfl, hb'⟩; have y0 := (hb'.cell (p := ⟨w.heap.size + 1, 0, none⟩) (by rw [box2s]; show w.heap.size + 1 < _; omega)).trans (box2b (j := 0) rfl); have y1 := (hb'.cell (p := ⟨w.heap.size + 1, 1, none⟩) (by rw [box2s]; show w.heap.size + 1 < _; omega)).trans (box2b (j := 1) rfl); have y2 := (hb'.cell (p := ⟨w.heap.size + 1, 2, none⟩) (by rw [box2s]; show w.heap.size + 1 < _; omega)).trans (box2b (j := 2) rfl); have bx := blk_below (g := w.heap.size) (blk_below (heap_alloc_new w (.cells #[.int .i64 0, .int .i64 0, .string ⟨#[]⟩] 26)) ((Below.refl _ _).alloc (Nat.le_refl _) (.cells #[.int .i64 4, .int .i64 0, .string (strOfNums l)] 26))) hb'; have x0 := (blk_cell bx 0).trans rfl; have f0 := blk_frozen bx 0; have x1 := (blk_cell bx 1).trans rfl; have f1 := blk_frozen bx 1; have x2 := (blk_cell bx 2).trans rfl; have f2 := blk_frozen bx 2)
  have bz := blk_put (blk_put (blk_put bx 0 (.int .i64 4) rfl) 1 (.int .i64 0) rfl) 2 (.string (strOfNums l)) rfl
  have hz := (((hb'.mono (show w.heap.size ≤ _ by rw [box2s]; omega)).setCell (p := ⟨w.heap.size, 0, none⟩) (Nat.le_refl _) (.int .i64 4)).setCell (p := ⟨w.heap.size, 1, none⟩) (Nat.le_refl _) (.int .i64 0)).setCell (p := ⟨w.heap.size, 2, none⟩) (Nat.le_refl _) (.string (strOfNums l))
  refine bodyPost_ret (results_ct rfl _ _ w.heap.size 26 #[.int .i64 4, .int .i64 0, .string (strOfNums l)] (0, 0) _ rfl bz hu rfl (by kernel_rfl)) rfl ?_
  exact ⟨rfl, HB2.out.trans hz⟩
 | false =>
  rw [if_neg (by decide), if_neg (by decide), if_neg (by decide), if_neg (by decide)]
  go_enter Tryd.func7, Tryd.ntmps7
  go_wp2_with (go_at_call 10; refine (cC _ HB2.out).mono ?_; rintro e w' ⟨rfl, hb'⟩; have y0 := (hb'.cell (p := ⟨w.heap.size + 1, 0, none⟩) (by rw [box2s]; show w.heap.size + 1 < _; omega)).trans (box2b (j := 0) rfl); have y1 := (hb'.cell (p := ⟨w.heap.size + 1, 1, none⟩) (by rw [box2s]; show w.heap.size + 1 < _; omega)).trans (box2b (j := 1) rfl); have y2 := (hb'.cell (p := ⟨w.heap.size + 1, 2, none⟩) (by rw [box2s]; show w.heap.size + 1 < _; omega)).trans (box2b (j := 2) rfl); have bx := blk_below (g := w.heap.size) (blk_below (heap_alloc_new w (.cells #[.int .i64 0, .int .i64 0, .string ⟨#[]⟩] 26)) ((Below.refl _ _).alloc (Nat.le_refl _) (.cells #[.int .i64 4, .int .i64 0, .string (strOfNums l)] 26))) hb'; have x0 := (blk_cell bx 0).trans rfl; have f0 := blk_frozen bx 0; have x1 := (blk_cell bx 1).trans rfl; have f1 := blk_frozen bx 1; have x2 := (blk_cell bx 2).trans rfl; have f2 := blk_frozen bx 2)
  have bz := blk_put (blk_put (blk_put bx 0 (.int .i64 0) rfl) 1 (.int .i64 0) rfl) 2 (.string ⟨#[]⟩) rfl
  have hz := (((hb'.mono (show w.heap.size ≤ _ by rw [box2s]; omega)).setCell (p := ⟨w.heap.size, 0, none⟩) (Nat.le_refl _) (.int .i64 0)).setCell (p := ⟨w.heap.size, 1, none⟩) (Nat.le_refl _) (.int .i64 0)).setCell (p := ⟨w.heap.size, 2, none⟩) (Nat.le_refl _) (.string ⟨#[]⟩)
  refine bodyPost_ret (results_ct rfl _ _ w.heap.size 26 #[.int .i64 0, .int .i64 0, .string ⟨#[]⟩] (0, 0) _ rfl bz hu rfl (by kernel_rfl)) rfl ?_
  exact ⟨rfl, HB2.out.trans hz⟩
def value_FromB.f (l0 : List Int) : Option (Int × Int × ByteArray × Int) := (value_Check.f 4 0 (strOfNums l0)).bind fun b => some (if b = true then 4 else 0, if b = true then 0 else 0, if b = true then (strOfNums l0) else ⟨#[]⟩, if b = true then 0 else 1)
theorem value_FromB.calls (A0 : Option Addr) (c0 : Nat) (l0 : List Int) (r1 r2 : Int) (r3 : ByteArray) (r4 : Int) (w : World) (hr0 : Kd.C (Kd.int .u8) w A0 l0.length l0) (hc0 : l0.length ≤ c0) (hT : Tabs w) (h : value_FromB.f l0 = some (r1, r2, r3, r4)) :
  Calls Tryd.prog 7 #[.iface 22 (.slice A0 l0.length c0)] w fun e w' => e = .returned (.tuple #[.agg #[.int .i64 r1, .int .i64 r2, .string r3], .int .i64 r4]) ∧ Below w.heap.size w w' := by
 unfold value_FromB.f at h
 obtain ⟨b, hb, h⟩ := Option.bind_eq_some_iff.1 h
 have h := Option.some.inj h
 simp only [Prod.mk.injEq] at h
 obtain ⟨rfl, rfl, rfl, rfl⟩ := h
 exact From0B.calls A0 l0.length c0 l0 b w hr0 hT hb

end Go.Proofs.YtlejenoibblhnaaDoor.A
