-- By drv.py, the session's own driver round the kit's print: the machine's side of the laws, function by function. Not trusted: Lean checks it.
import Derived.Test.YtlejenoibblhnaaDoorAx0
import Derived.Test.YtlejenoibblhnaaDoorAx9
import Derived.Test.YtlejenoibblhnaaDoorAx10
namespace Go.Proofs.YtlejenoibblhnaaDoor.A
open Go.RowKit Go.Proofs.YtlejenoibblhnaaDoorW.PrintWords Go.Proofs.YtlejenoibblhnaaDoorW.PrintLast Go.Proofs.YtlejenoibblhnaaDoorW.PrintMore
attribute [local go_sem] max2_int min2_int max_two min_two max_three min_three max_four min_four   -- for this text's walks alone
set_option linter.unusedVariables false
set_option linter.unusedSimpArgs false

/-! ### caduceuslaw03_awake: function 6 -/
def caduceuslaw03_awake.f (k : Nat)  : Option (Bool) := (value_Parse.f k (⟨#[120, 39, 48, 48, 102, 102, 39]⟩ : ByteArray)).bind fun bt200 => ((value_Parse.f k (⟨#[45, 48]⟩ : ByteArray)).bind fun bt205 => ((value_Parse.f k (⟨#[48, 48, 55]⟩ : ByteArray)).bind fun bt210 => ((value_Parse.f k (⟨#[34, 97]⟩ : ByteArray)).bind fun bt215 => ((value_Show.f k 2 0 (⟨#[97, 34, 195, 169, 10, 1]⟩ : ByteArray)).bind fun t220 => (if t220.toList = ([34, 97, 92, 34, 195, 169, 92, 110, 92, 117, 123, 49, 125, 34] : List UInt8) then (if bt200.2.2.2 = 0 then (if bt200.2.2.1.toList = ([0, 255] : List UInt8) then (if bt205.2.2.2 = 3 then (if bt210.2.2.2 = 3 then (some (bt215.2.2.2 == 3)) else (none)) else (none)) else (none)) else (none)) else (none))))))
theorem caduceuslaw03_awake.mono : ∀ k, LeO (caduceuslaw03_awake.f k ) (caduceuslaw03_awake.f (k + 1) ) := by
 intro  k
 unfold caduceuslaw03_awake.f
 repeat' (with_reducible first | exact value_Parse.mono _ _ | exact value_Show.mono _ _ _ _ | exact LeO.refl _ | exact LeO.none _ | refine LeO.ite ?_ ?_ | refine LeO.bind ?_ (fun _ => ?_))
set_option maxHeartbeats 8000000 in
set_option maxRecDepth 100000 in
theorem caduceuslaw03_awake.calls (k : Nat)  (r : Bool) (w : World) (hT : Tabs w) (h : caduceuslaw03_awake.f k  = some r) :
  Calls Tryd.prog 6 #[] w fun e w' => e = .returned (.bool r) ∧ Below w.heap.size w w' := by
 have hu26 := Tryd.underlying26
 have HB := Aside0.mk (Below.refl w.heap.size w)
 unfold caduceuslaw03_awake.f at h
 have H := h
 clear h
 have HT := Aside0.mk hT
 clear hT
 replace H := bnA H
 obtain ⟨⟨t200, t201, t202, t203⟩, A1, H⟩ := H
 dsimp only at H
 replace H := bnA H
 obtain ⟨⟨t205, t206, t207, t208⟩, A2, H⟩ := H
 dsimp only at H
 replace H := bnA H
 obtain ⟨⟨t210, t211, t212, t213⟩, A3, H⟩ := H
 dsimp only at H
 replace H := bnA H
 obtain ⟨⟨t215, t216, t217, t218⟩, A4, H⟩ := H
 dsimp only at H
 replace H := bnA H
 obtain ⟨t220, A5, H⟩ := H
 replace H := itN H
 obtain ⟨c6, H⟩ := H
 obtain ⟨c6b0, c6b1⟩ := fcE c6
 clear c6
 replace H := itN H
 obtain ⟨c7, H⟩ := H
 obtain ⟨c7b0, c7b1⟩ := fcE c7
 clear c7
 replace H := itN H
 obtain ⟨c8, H⟩ := H
 obtain ⟨c8b0, c8b1⟩ := fcE c8
 clear c8
 replace H := itN H
 obtain ⟨c9, H⟩ := H
 obtain ⟨c9b0, c9b1⟩ := fcE c9
 clear c9
 replace H := itN H
 obtain ⟨c10, H⟩ := H
 obtain ⟨c10b0, c10b1⟩ := fcE c10
 clear c10
 obtain rfl := Option.some.inj H
 go_enter Tryd.func6, Tryd.ntmps6
 try go_wp2_with (first | ((with_reducible refine gate_callee (f := 11) rfl ?_); refine goesA (some 10) Tryd.func11 #[.string (⟨#[120, 39, 48, 48, 102, 102, 39]⟩ : ByteArray)] ?_; (with_reducible refine (value_Parse.calls _ _ _ _ _ _ _ ?side1 A1.out).mono ?_); (case side1 => exact Tabs.below HT.out (bwA)); rintro e w101 ⟨rfl, hb⟩; refine ⟨_, rfl, ?_⟩; replace HB := Aside0.mk (below_step (bwA) hb); (try clear hb)) | ((with_reducible refine gate_dst (N := 1) rfl ?_); refine boxB 1 #[.int .i64 0, .int .i64 0, .string (⟨#[]⟩ : ByteArray)] 26 HB ?_; clear HB; intro gb204 w102 BK204 GW204 GE204 HB; obtain ⟨hcz103_0, hcz103_1, hcz103_2⟩ := cel3 BK204.out; obtain ⟨hfz103_0, hfz103_1, hfz103_2⟩ := frz3 BK204.out) | ((with_reducible refine gate_callee (f := 11) rfl ?_); refine goesA (some 14) Tryd.func11 #[.string (⟨#[45, 48]⟩ : ByteArray)] ?_; (with_reducible refine (value_Parse.calls _ _ _ _ _ _ _ ?side1 A2.out).mono ?_); (case side1 => exact Tabs.below HT.out (bwA)); rintro e w104 ⟨rfl, hb⟩; refine ⟨_, rfl, ?_⟩; replace BK204 := Aside0.mk (blk_below (g := gb204) (o := .cells #[.int .i64 t200, .int .i64 t201, .string t202] 26 (0, 0)) blkZ hb); replace HB := Aside0.mk (below_step (bwA) hb); (try clear hb)) | ((with_reducible refine gate_dst (N := 3) rfl ?_); refine boxA 3 #[.int .i64 0, .int .i64 0, .string (⟨#[]⟩ : ByteArray)] 26 ?_; intro gb209 hg w105 hbox hb; have BK209 := Aside0.mk (hbox); have GW209 := Aside0.mk (hgW hg : w.heap.size ≤ gb209); have GE209 := Aside0.mk (hgW hg : w.heap.size ≤ gb209); have NB204_209 := Aside0.mk (hgL hg BK204 : gb204 ≠ gb209); have NB209_204 := Aside0.mk (hgG hg BK204 : gb209 ≠ gb204); replace BK204 := Aside0.mk (bkB BK204 hb); replace HB := Aside0.mk (below_step (bwA) hb); clear hb hbox hg; have hnb106 := NB209_204.out; have hnc106 := NB204_209.out; obtain ⟨hcz107_0, hcz107_1, hcz107_2⟩ := cel3 BK209.out; obtain ⟨hfz107_0, hfz107_1, hfz107_2⟩ := frz3 BK209.out) | ((with_reducible refine gate_callee (f := 11) rfl ?_); refine goesA (some 18) Tryd.func11 #[.string (⟨#[48, 48, 55]⟩ : ByteArray)] ?_; (with_reducible refine (value_Parse.calls _ _ _ _ _ _ _ ?side1 A3.out).mono ?_); (case side1 => exact Tabs.below HT.out (bwA)); rintro e w108 ⟨rfl, hb⟩; refine ⟨_, rfl, ?_⟩; replace BK204 := Aside0.mk (blk_below (g := gb204) (o := .cells #[.int .i64 t200, .int .i64 t201, .string t202] 26 (0, 0)) blkZ hb); replace BK209 := Aside0.mk (blk_below (g := gb209) (o := .cells #[.int .i64 t205, .int .i64 t206, .string t207] 26 (0, 0)) blkZ hb); replace HB := Aside0.mk (below_step (bwA) hb); (try clear hb)) | ((with_reducible refine gate_dst (N := 5) rfl ?_); refine boxA 5 #[.int .i64 0, .int .i64 0, .string (⟨#[]⟩ : ByteArray)] 26 ?_; intro gb214 hg w109 hbox hb; have BK214 := Aside0.mk (hbox); have GW214 := Aside0.mk (hgW hg : w.heap.size ≤ gb214); have GE214 := Aside0.mk (hgW hg : w.heap.size ≤ gb214); have NB204_214 := Aside0.mk (hgL hg BK204 : gb204 ≠ gb214); have NB214_204 := Aside0.mk (hgG hg BK204 : gb214 ≠ gb204); have NB209_214 := Aside0.mk (hgL hg BK209 : gb209 ≠ gb214); have NB214_209 := Aside0.mk (hgG hg BK209 : gb214 ≠ gb209); replace BK204 := Aside0.mk (bkB BK204 hb); replace BK209 := Aside0.mk (bkB BK209 hb); replace HB := Aside0.mk (below_step (bwA) hb); clear hb hbox hg; have hnb110 := NB214_204.out; have hnc110 := NB204_214.out; have hnb111 := NB214_209.out; have hnc111 := NB209_214.out; obtain ⟨hcz112_0, hcz112_1, hcz112_2⟩ := cel3 BK214.out; obtain ⟨hfz112_0, hfz112_1, hfz112_2⟩ := frz3 BK214.out) | ((with_reducible refine gate_callee (f := 11) rfl ?_); refine goesA (some 22) Tryd.func11 #[.string (⟨#[34, 97]⟩ : ByteArray)] ?_; (with_reducible refine (value_Parse.calls _ _ _ _ _ _ _ ?side1 A4.out).mono ?_); (case side1 => exact Tabs.below HT.out (bwA)); rintro e w113 ⟨rfl, hb⟩; refine ⟨_, rfl, ?_⟩; replace BK204 := Aside0.mk (blk_below (g := gb204) (o := .cells #[.int .i64 t200, .int .i64 t201, .string t202] 26 (0, 0)) blkZ hb); replace BK209 := Aside0.mk (blk_below (g := gb209) (o := .cells #[.int .i64 t205, .int .i64 t206, .string t207] 26 (0, 0)) blkZ hb); replace BK214 := Aside0.mk (blk_below (g := gb214) (o := .cells #[.int .i64 t210, .int .i64 t211, .string t212] 26 (0, 0)) blkZ hb); replace HB := Aside0.mk (below_step (bwA) hb); (try clear hb)) | ((with_reducible refine gate_dst (N := 7) rfl ?_); refine boxA 7 #[.int .i64 0, .int .i64 0, .string (⟨#[]⟩ : ByteArray)] 26 ?_; intro gb219 hg w114 hbox hb; have BK219 := Aside0.mk (hbox); have GW219 := Aside0.mk (hgW hg : w.heap.size ≤ gb219); have GE219 := Aside0.mk (hgW hg : w.heap.size ≤ gb219); have NB204_219 := Aside0.mk (hgL hg BK204 : gb204 ≠ gb219); have NB219_204 := Aside0.mk (hgG hg BK204 : gb219 ≠ gb204); have NB209_219 := Aside0.mk (hgL hg BK209 : gb209 ≠ gb219); have NB219_209 := Aside0.mk (hgG hg BK209 : gb219 ≠ gb209); have NB214_219 := Aside0.mk (hgL hg BK214 : gb214 ≠ gb219); have NB219_214 := Aside0.mk (hgG hg BK214 : gb219 ≠ gb214); replace BK204 := Aside0.mk (bkB BK204 hb); replace BK209 := Aside0.mk (bkB BK209 hb); replace BK214 := Aside0.mk (bkB BK214 hb); replace HB := Aside0.mk (below_step (bwA) hb); clear hb hbox hg; have hnb115 := NB219_204.out; have hnc115 := NB204_219.out; have hnb116 := NB219_209.out; have hnc116 := NB209_219.out; have hnb117 := NB219_214.out; have hnc117 := NB214_219.out; obtain ⟨hcz118_0, hcz118_1, hcz118_2⟩ := cel3 BK219.out; obtain ⟨hfz118_0, hfz118_1, hfz118_2⟩ := frz3 BK219.out) | ((with_reducible refine gate_callee (f := 12) rfl ?_); refine goesA (some 26) Tryd.func12 #[.agg #[.int .i64 2, .int .i64 0, .string (⟨#[97, 34, 195, 169, 10, 1]⟩ : ByteArray)]] ?_; (with_reducible refine (value_Show.calls _ _ _ _ _ _ ?side1 A5.out).mono ?_); (case side1 => exact Tabs.below HT.out (bwA)); rintro e w119 ⟨rfl, hb⟩; refine ⟨_, rfl, ?_⟩; replace BK204 := Aside0.mk (blk_below (g := gb204) (o := .cells #[.int .i64 t200, .int .i64 t201, .string t202] 26 (0, 0)) blkZ hb); replace BK209 := Aside0.mk (blk_below (g := gb209) (o := .cells #[.int .i64 t205, .int .i64 t206, .string t207] 26 (0, 0)) blkZ hb); replace BK214 := Aside0.mk (blk_below (g := gb214) (o := .cells #[.int .i64 t210, .int .i64 t211, .string t212] 26 (0, 0)) blkZ hb); replace BK219 := Aside0.mk (blk_below (g := gb219) (o := .cells #[.int .i64 t215, .int .i64 t216, .string t217] 26 (0, 0)) blkZ hb); replace HB := Aside0.mk (below_step (bwA) hb); (try clear hb); obtain ⟨hcz120_0, hcz120_1, hcz120_2⟩ := cel3 BK204.out; obtain ⟨hfz120_0, hfz120_1, hfz120_2⟩ := frz3 BK204.out))
 go_ret
 exact ⟨endA, bwA⟩
end Go.Proofs.YtlejenoibblhnaaDoor.A
