-- By drv.py, the session's own driver round the kit's print: the machine's side of the laws, function by function. Not trusted: Lean checks it.
import Derived.Test.YtlejenoibblhnaaDoorAx0
import Derived.Test.YtlejenoibblhnaaDoorAx2
import Derived.Test.YtlejenoibblhnaaDoorAx11
import Derived.Test.YtlejenoibblhnaaDoorAx14
import Derived.Test.YtlejenoibblhnaaDoorAx15
namespace Go.Proofs.YtlejenoibblhnaaDoor.A
open Go.RowKit Go.Proofs.YtlejenoibblhnaaDoorW.PrintWords Go.Proofs.YtlejenoibblhnaaDoorW.PrintLast Go.Proofs.YtlejenoibblhnaaDoorW.PrintMore
attribute [local go_sem] max2_int min2_int max_two min_two max_three min_three max_four min_four   -- for this text's walks alone
set_option linter.unusedVariables false
set_option linter.unusedSimpArgs false

/-! ### caduceuslaw03_ValueFrom: function 3 -/
mutual
def caduceuslaw03_ValueFrom.j0 : Nat → Int → ByteArray → List Int → Bool → Option (Bool)
 | 0, _, _, _, _ => none
 | k + 1, x0, x1, x2, x27 => if x27 = true then ((caduceuslaw03_awake.f k).bind fun t242 => (some t242)) else ((value_FromI.f x0).bind fun bt243 => ((value_FromS.f x1).bind fun bt248 => ((value_FromB.f x2).bind fun bt253 => ((value_FromX.f (decide (x0 > 0))).bind fun bt258 => ((value_FromU.f 1).bind fun bt263 => (if bt263.2.2.2 = 8 then (if bt258.2.2.2 = 0 then (if bt258.1 = 3 then (caduceuslaw03_ValueFrom.j1 k bt243.2.2.2 bt248.2.2.2 bt253.2.2.2 ((bt258.2.1 == 1) != (decide (x0 > 0))) bt243.1 bt243.2.1 bt243.2.2.1 bt248.1 bt248.2.1 bt248.2.2.1 bt253.1 bt253.2.1 bt253.2.2.1 1 x0 (⟨#[]⟩ : ByteArray) 2 0 x1 4 0 (strOfNums x2)) else (caduceuslaw03_ValueFrom.j1 k bt243.2.2.2 bt248.2.2.2 bt253.2.2.2 true bt243.1 bt243.2.1 bt243.2.2.1 bt248.1 bt248.2.1 bt248.2.2.1 bt253.1 bt253.2.1 bt253.2.2.1 1 x0 (⟨#[]⟩ : ByteArray) 2 0 x1 4 0 (strOfNums x2))) else (caduceuslaw03_ValueFrom.j1 k bt243.2.2.2 bt248.2.2.2 bt253.2.2.2 true bt243.1 bt243.2.1 bt243.2.2.1 bt248.1 bt248.2.1 bt248.2.2.1 bt253.1 bt253.2.1 bt253.2.2.1 1 x0 (⟨#[]⟩ : ByteArray) 2 0 x1 4 0 (strOfNums x2))) else (caduceuslaw03_ValueFrom.j1 k bt243.2.2.2 bt248.2.2.2 bt253.2.2.2 true bt243.1 bt243.2.1 bt243.2.2.1 bt248.1 bt248.2.1 bt248.2.2.1 bt253.1 bt253.2.1 bt253.2.2.1 1 x0 (⟨#[]⟩ : ByteArray) 2 0 x1 4 0 (strOfNums x2))))))))
def caduceuslaw03_ValueFrom.j1 : Nat → Int → Int → Int → Bool → Int → Int → ByteArray → Int → Int → ByteArray → Int → Int → ByteArray → Int → Int → ByteArray → Int → Int → ByteArray → Int → Int → ByteArray → Option (Bool)
 | 0, _, _, _, _, _, _, _, _, _, _, _, _, _, _, _, _, _, _, _, _, _, _ => none
 | k + 1, x8, x10, x12, x84, x248000, x248001, x248002, x253000, x253001, x253002, x258000, x258001, x258002, x269000, x269001, x269002, x270000, x270001, x270002, x271000, x271001, x271002 => if x84 = true then (none) else ((caduceuslaw03_awake.f k).bind fun t271 => (if t271 = true then ((caduceuslaw03_taken.f k x248000 x248001 x248002 x8 x269000 x269001 x269002).bind fun t272 => (if t272 = true then ((caduceuslaw03_taken.f k x253000 x253001 x253002 x10 x270000 x270001 x270002).bind fun t273 => (if t273 = true then ((caduceuslaw03_taken.f k x258000 x258001 x258002 x12 x271000 x271001 x271002).bind fun t274 => (some t274)) else (none))) else (none))) else (none)))
end
def caduceuslaw03_ValueFrom.f (k : Nat) (a0 : Int) (a1 : ByteArray) (l2 : List Int) : Option (Bool) := (caduceuslaw03_few.f a1).bind fun t241 => (if t241 = true then (caduceuslaw03_ValueFrom.j0 k a0 a1 l2 (decide ((l2.length : Int) > 2000))) else (caduceuslaw03_ValueFrom.j0 k a0 a1 l2 true))
theorem caduceuslaw03_ValueFrom.mono_l : ∀ k, (∀ y0 y1 y2 y3, LeO (caduceuslaw03_ValueFrom.j0 k y0 y1 y2 y3) (caduceuslaw03_ValueFrom.j0 (k + 1) y0 y1 y2 y3)) ∧ (∀ y0 y1 y2 y3 y4 y5 y6 y7 y8 y9 y10 y11 y12 y13 y14 y15 y16 y17 y18 y19 y20 y21, LeO (caduceuslaw03_ValueFrom.j1 k y0 y1 y2 y3 y4 y5 y6 y7 y8 y9 y10 y11 y12 y13 y14 y15 y16 y17 y18 y19 y20 y21) (caduceuslaw03_ValueFrom.j1 (k + 1) y0 y1 y2 y3 y4 y5 y6 y7 y8 y9 y10 y11 y12 y13 y14 y15 y16 y17 y18 y19 y20 y21))
 | 0 => ⟨fun _ _ _ _ r h => by simp [caduceuslaw03_ValueFrom.j0] at h, fun _ _ _ _ _ _ _ _ _ _ _ _ _ _ _ _ _ _ _ _ _ _ r h => by simp [caduceuslaw03_ValueFrom.j1] at h⟩
 | k + 1 => by
  obtain ⟨ih0, ih1⟩ := caduceuslaw03_ValueFrom.mono_l k
  refine ⟨?_, ?_⟩
  all_goals intros
  all_goals first | unfold caduceuslaw03_ValueFrom.j0 | unfold caduceuslaw03_ValueFrom.j1
  all_goals repeat' (with_reducible first | exact ih0 _ _ _ _ | exact ih1 _ _ _ _ _ _ _ _ _ _ _ _ _ _ _ _ _ _ _ _ _ _ | exact caduceuslaw03_awake.mono _ | exact caduceuslaw03_taken.mono _ _ _ _ _ _ _ _ | exact LeO.refl _ | exact LeO.none _ | refine LeO.ite ?_ ?_ | refine LeO.bind ?_ (fun _ => ?_))
theorem caduceuslaw03_ValueFrom.mono : ∀ a0 a1 a2 k, LeO (caduceuslaw03_ValueFrom.f k a0 a1 a2) (caduceuslaw03_ValueFrom.f (k + 1) a0 a1 a2) := by
 intro a0 a1 a2 k
 obtain ⟨ih0, ih1⟩ := caduceuslaw03_ValueFrom.mono_l k
 unfold caduceuslaw03_ValueFrom.f
 repeat' (with_reducible first | exact ih0 _ _ _ _ | exact ih1 _ _ _ _ _ _ _ _ _ _ _ _ _ _ _ _ _ _ _ _ _ _ | exact caduceuslaw03_awake.mono _ | exact caduceuslaw03_taken.mono _ _ _ _ _ _ _ _ | exact LeO.refl _ | exact LeO.none _ | refine LeO.ite ?_ ?_ | refine LeO.bind ?_ (fun _ => ?_))
def caduceuslaw03_ValueFrom.T8 : Bool × List (List Nat × List Nat) := (true, [([], []), ([0], [0]), ([], []), ([2], [2]), ([], []), ([4], [4]), ([5], [5]), ([], []), ([], []), ([], []), ([7, 1, 0, 1, 7, 8, 9], [1, 7]), ([8, 3, 10, 0, 1, 2, 3, 7, 8, 9, 10], [3, 8]), ([9, 6, 11, 0, 1, 2, 3, 4, 5, 6, 7, 8, 9, 10, 11], [6, 9])])
def caduceuslaw03_ValueFrom.B8 : List Nat := [0, 1, 0, 4, 0, 16, 48, 0, 0, 0, 899, 1935, 4095]
theorem caduceuslaw03_ValueFrom.tab8 : rtab .any (opsOf Tryd.f3 8) = caduceuslaw03_ValueFrom.T8 := by kernel_rfl
theorem caduceuslaw03_ValueFrom.bits8 : waitsOk caduceuslaw03_ValueFrom.T8.2 caduceuslaw03_ValueFrom.B8 = true := by kernel_rfl
set_option maxHeartbeats 40000000 in
set_option maxRecDepth 100000 in
theorem caduceuslaw03_ValueFrom.calls (k : Nat) (a0 : Int) (a1 : ByteArray) (A2 : Option Addr) (c2 : Nat) (l2 : List Int) (r : Bool) (w : World) (hr2 : Kd.C (Kd.int .u8) w A2 l2.length l2) (hc2 : l2.length ≤ c2) (hT : Tabs w) (h : caduceuslaw03_ValueFrom.f k a0 a1 l2 = some r) :
  Calls Tryd.prog 3 #[.int .i64 a0, .string a1, .slice A2 l2.length c2] w fun e w' => e = .returned (.bool r) ∧ Below w.heap.size w w' := by
 have hu26 := Tryd.underlying26
 have HR2 := Aside0.mk hr2
 have HC2 := Aside0.mk hc2
 clear hr2 hc2
 have HB := Aside0.mk (Below.refl w.heap.size w)
 unfold caduceuslaw03_ValueFrom.f at h
 have H := h
 clear h
 have HT := Aside0.mk hT
 clear hT
 have HC101 := Aside0.mk H
 clear H
 go_enter Tryd.func3, Tryd.ntmps3
 go_upto_region 1 with (fail)
 go_cut [27] (fun v27 wc => ∃ (kq : Nat) (x27_100 : Bool), v27 = .bool x27_100 ∧ Aside0 (caduceuslaw03_ValueFrom.j0 kq a0 a1 l2 x27_100 = some r) ∧ Aside0 (kq ≤ k) ∧ Aside0 (Below w.heap.size w wc))
 case first =>
  have H := HC101.out
  clear HC101
  replace H := bnA H
  obtain ⟨t241, A102, H⟩ := H
  revert H; refine itR ?L3p ?L3n
  case' L3p =>
   intro c103 H
   subst c103
   have H' := Aside0.mk H
   clear H
   have M1 := True.intro
  case' L3n =>
   intro c103 H
   replace c103 := Bool.eq_false_iff.mpr c103
   subst c103
   have H' := Aside0.mk H
   clear H
   have M2 := True.intro
  all_goals
   case _ =>
    try go_wp2_with (first | ((with_reducible refine gate_callee (f := 5) rfl ?_); refine goesA (some 21) Tryd.func5 #[.string a1] ?_; (with_reducible refine (caduceuslaw03_few.calls _ _ _ A102.out).mono ?_); rintro e w' ⟨rfl, ⟨nd, rfl⟩⟩; refine ⟨_, rfl, ?_⟩))
    go_meet
    first
     | clear M1
       case rel => exact ⟨_, (decide ((l2.length : Int) > 2000)), (endS), H', ⟨by first | omega | exact Nat.le_refl _⟩, ⟨bwA⟩⟩
     | clear M2
       case rel => exact ⟨_, (true), (endS), H', ⟨by first | omega | exact Nat.le_refl _⟩, ⟨bwA⟩⟩
 case rest =>
  clear HC101
  try clear c1
  try clear c2
  try clear p2
  try clear c3
  try clear c5
  try clear c10
  obtain ⟨kq, x27_100, rfl, HA, HJ100, HB⟩ := hcut
  cases kq with
  | zero => exact absurd HA.out (by simp [caduceuslaw03_ValueFrom.j0])
  | succ kj100 =>
   have H := HA.out
   clear HA
   simp only [caduceuslaw03_ValueFrom.j0] at H
   revert H; refine itR ?L11p ?L11n
   case' L11p =>
    intro c102 H
    subst c102
    replace H := bnA H
    obtain ⟨t242, A103, H⟩ := H
    obtain rfl := Option.some.inj H
    try go_wp2_with (first | ((with_reducible refine gate_callee (f := 6) rfl ?_); refine goesA (some 28) Tryd.func6 #[] ?_; (with_reducible refine (caduceuslaw03_awake.calls _ _ _ ?side1 A103.out).mono ?_); (case side1 => exact Tabs.below HT.out (bwA)); rintro e w201 ⟨rfl, hb⟩; refine ⟨_, rfl, ?_⟩; replace HB := Aside0.mk (below_step (bwA) hb); (try clear hb)))
    go_ret
    exact ⟨endA, bwA⟩
   case' L11n =>
    intro c102 H
    replace c102 := Bool.eq_false_iff.mpr c102
    subst c102
    replace H := bnA H
    obtain ⟨⟨t243, t244, t245, t246⟩, A103, H⟩ := H
    dsimp only at H
    replace H := bnA H
    obtain ⟨⟨t248, t249, t250, t251⟩, A104, H⟩ := H
    dsimp only at H
    replace H := bnA H
    obtain ⟨⟨t253, t254, t255, t256⟩, A105, H⟩ := H
    dsimp only at H
    replace H := bnA H
    obtain ⟨⟨t258, t259, t260, t261⟩, A106, H⟩ := H
    dsimp only at H
    replace H := bnA H
    obtain ⟨⟨t263, t264, t265, t266⟩, A107, H⟩ := H
    dsimp only at H
    have HC201 := Aside0.mk H
    clear H
    try go_wp2_with (first | ((with_reducible refine gate_callee (f := 7) rfl ?_); refine goesA (some 32) Tryd.func7 #[.iface 3 (.int .i64 a0)] ?_; (with_reducible refine (value_FromI.calls _ _ _ _ _ _ ?side1 A103.out).mono ?_); (case side1 => exact Tabs.below HT.out (bwA)); rintro e w202 ⟨rfl, hb⟩; refine ⟨_, rfl, ?_⟩; replace HB := Aside0.mk (below_step (bwA) hb); (try clear hb)) | ((with_reducible refine gate_dst (N := 7) rfl ?_); (try (refine gate_guard (by rfl) ?_; dsimp only)); refine boxB 7 #[.int .i64 0, .int .i64 0, .string (⟨#[]⟩ : ByteArray)] 26 HB ?_; clear HB; intro gb247 w203 BK247 GW247 GE247 HB; obtain ⟨hcz204_0, hcz204_1, hcz204_2⟩ := cel3 BK247.out; obtain ⟨hfz204_0, hfz204_1, hfz204_2⟩ := frz3 BK247.out) | ((with_reducible refine gate_callee (f := 7) rfl ?_); refine goesA (some 38) Tryd.func7 #[.iface 9 (.string a1)] ?_; (with_reducible refine (value_FromS.calls _ _ _ _ _ _ ?side1 A104.out).mono ?_); (case side1 => exact Tabs.below HT.out (bwA)); rintro e w205 ⟨rfl, hb⟩; refine ⟨_, rfl, ?_⟩; replace BK247 := Aside0.mk (blk_below (g := gb247) (o := .cells #[.int .i64 t243, .int .i64 t244, .string t245] 26 (0, 0)) blkZ hb); replace HB := Aside0.mk (below_step (bwA) hb); (try clear hb)) | ((with_reducible refine gate_dst (N := 9) rfl ?_); (try (refine gate_guard (by rfl) ?_; dsimp only)); refine boxA 9 #[.int .i64 0, .int .i64 0, .string (⟨#[]⟩ : ByteArray)] 26 ?_; intro gb252 hg w206 hbox hb; have BK252 := Aside0.mk (hbox); have GW252 := Aside0.mk (hgW hg : w.heap.size ≤ gb252); have GE252 := Aside0.mk (hgW hg : w.heap.size ≤ gb252); have NB247_252 := Aside0.mk (hgL hg BK247 : gb247 ≠ gb252); have NB252_247 := Aside0.mk (hgG hg BK247 : gb252 ≠ gb247); replace BK247 := Aside0.mk (bkB BK247 hb); replace HB := Aside0.mk (below_step (bwA) hb); clear hb hbox hg; have hnb207 := NB252_247.out; have hnc207 := NB247_252.out; obtain ⟨hcz208_0, hcz208_1, hcz208_2⟩ := cel3 BK252.out; obtain ⟨hfz208_0, hfz208_1, hfz208_2⟩ := frz3 BK252.out) | ((with_reducible refine gate_callee (f := 7) rfl ?_); refine goesA (some 44) Tryd.func7 #[.iface 22 (.slice A2 l2.length c2)] ?_; (with_reducible refine (value_FromB.calls _ _ _ _ _ _ _ _ ?side1 ?side2 ?side3 A105.out).mono ?_); (case side1 => exact Kd.C_below HR2.out (bwA)); (case side2 => exact HC2.out); (case side3 => exact Tabs.below HT.out (bwA)); rintro e w209 ⟨rfl, hb⟩; refine ⟨_, rfl, ?_⟩; replace BK247 := Aside0.mk (blk_below (g := gb247) (o := .cells #[.int .i64 t243, .int .i64 t244, .string t245] 26 (0, 0)) blkZ hb); replace BK252 := Aside0.mk (blk_below (g := gb252) (o := .cells #[.int .i64 t248, .int .i64 t249, .string t250] 26 (0, 0)) blkZ hb); replace HB := Aside0.mk (below_step (bwA) hb); (try clear hb)) | ((with_reducible refine gate_dst (N := 11) rfl ?_); (try (refine gate_guard (by rfl) ?_; dsimp only)); refine boxA 11 #[.int .i64 0, .int .i64 0, .string (⟨#[]⟩ : ByteArray)] 26 ?_; intro gb257 hg w210 hbox hb; have BK257 := Aside0.mk (hbox); have GW257 := Aside0.mk (hgW hg : w.heap.size ≤ gb257); have GE257 := Aside0.mk (hgW hg : w.heap.size ≤ gb257); have NB247_257 := Aside0.mk (hgL hg BK247 : gb247 ≠ gb257); have NB257_247 := Aside0.mk (hgG hg BK247 : gb257 ≠ gb247); have NB252_257 := Aside0.mk (hgL hg BK252 : gb252 ≠ gb257); have NB257_252 := Aside0.mk (hgG hg BK252 : gb257 ≠ gb252); replace BK247 := Aside0.mk (bkB BK247 hb); replace BK252 := Aside0.mk (bkB BK252 hb); replace HB := Aside0.mk (below_step (bwA) hb); clear hb hbox hg; have hnb211 := NB257_247.out; have hnc211 := NB247_257.out; have hnb212 := NB257_252.out; have hnc212 := NB252_257.out; obtain ⟨hcz213_0, hcz213_1, hcz213_2⟩ := cel3 BK257.out; obtain ⟨hfz213_0, hfz213_1, hfz213_2⟩ := frz3 BK257.out) | ((with_reducible refine gate_callee (f := 7) rfl ?_); refine goesA (some 51) Tryd.func7 #[.iface 4 (.bool (decide (a0 > 0)))] ?_; (with_reducible refine (value_FromX.calls _ _ _ _ _ _ ?side1 A106.out).mono ?_); (case side1 => exact Tabs.below HT.out (bwA)); rintro e w214 ⟨rfl, hb⟩; refine ⟨_, rfl, ?_⟩; replace BK247 := Aside0.mk (blk_below (g := gb247) (o := .cells #[.int .i64 t243, .int .i64 t244, .string t245] 26 (0, 0)) blkZ hb); replace BK252 := Aside0.mk (blk_below (g := gb252) (o := .cells #[.int .i64 t248, .int .i64 t249, .string t250] 26 (0, 0)) blkZ hb); replace BK257 := Aside0.mk (blk_below (g := gb257) (o := .cells #[.int .i64 t253, .int .i64 t254, .string t255] 26 (0, 0)) blkZ hb); replace HB := Aside0.mk (below_step (bwA) hb); (try clear hb)) | ((with_reducible refine gate_dst (N := 13) rfl ?_); (try (refine gate_guard (by rfl) ?_; dsimp only)); refine boxA 13 #[.int .i64 0, .int .i64 0, .string (⟨#[]⟩ : ByteArray)] 26 ?_; intro gb262 hg w215 hbox hb; have BK262 := Aside0.mk (hbox); have GW262 := Aside0.mk (hgW hg : w.heap.size ≤ gb262); have GE262 := Aside0.mk (hgW hg : w.heap.size ≤ gb262); have NB247_262 := Aside0.mk (hgL hg BK247 : gb247 ≠ gb262); have NB262_247 := Aside0.mk (hgG hg BK247 : gb262 ≠ gb247); have NB252_262 := Aside0.mk (hgL hg BK252 : gb252 ≠ gb262); have NB262_252 := Aside0.mk (hgG hg BK252 : gb262 ≠ gb252); have NB257_262 := Aside0.mk (hgL hg BK257 : gb257 ≠ gb262); have NB262_257 := Aside0.mk (hgG hg BK257 : gb262 ≠ gb257); replace BK247 := Aside0.mk (bkB BK247 hb); replace BK252 := Aside0.mk (bkB BK252 hb); replace BK257 := Aside0.mk (bkB BK257 hb); replace HB := Aside0.mk (below_step (bwA) hb); clear hb hbox hg; have hnb216 := NB262_247.out; have hnc216 := NB247_262.out; have hnb217 := NB262_252.out; have hnc217 := NB252_262.out; have hnb218 := NB262_257.out; have hnc218 := NB257_262.out; obtain ⟨hcz219_0, hcz219_1, hcz219_2⟩ := cel3 BK262.out; obtain ⟨hfz219_0, hfz219_1, hfz219_2⟩ := frz3 BK262.out) | ((with_reducible refine gate_callee (f := 7) rfl ?_); refine goesA (some 56) Tryd.func7 #[.iface 5 (.int .u8 1)] ?_; (with_reducible refine (value_FromU.calls _ _ _ _ _ _ A107.out).mono ?_); rintro e w220 ⟨rfl, hb⟩; refine ⟨_, rfl, ?_⟩; replace BK247 := Aside0.mk (blk_below (g := gb247) (o := .cells #[.int .i64 t243, .int .i64 t244, .string t245] 26 (0, 0)) blkZ hb); replace BK252 := Aside0.mk (blk_below (g := gb252) (o := .cells #[.int .i64 t248, .int .i64 t249, .string t250] 26 (0, 0)) blkZ hb); replace BK257 := Aside0.mk (blk_below (g := gb257) (o := .cells #[.int .i64 t253, .int .i64 t254, .string t255] 26 (0, 0)) blkZ hb); replace BK262 := Aside0.mk (blk_below (g := gb262) (o := .cells #[.int .i64 t258, .int .i64 t259, .string t260] 26 (0, 0)) blkZ hb); replace HB := Aside0.mk (below_step (bwA) hb); (try clear hb)) | ((with_reducible refine gate_dst (N := 15) rfl ?_); (try (refine gate_guard (by rfl) ?_; dsimp only)); refine boxA 15 #[.int .i64 0, .int .i64 0, .string (⟨#[]⟩ : ByteArray)] 26 ?_; intro gb267 hg w221 hbox hb; have BK267 := Aside0.mk (hbox); have GW267 := Aside0.mk (hgW hg : w.heap.size ≤ gb267); have GE267 := Aside0.mk (hgW hg : w.heap.size ≤ gb267); have NB247_267 := Aside0.mk (hgL hg BK247 : gb247 ≠ gb267); have NB267_247 := Aside0.mk (hgG hg BK247 : gb267 ≠ gb247); have NB252_267 := Aside0.mk (hgL hg BK252 : gb252 ≠ gb267); have NB267_252 := Aside0.mk (hgG hg BK252 : gb267 ≠ gb252); have NB257_267 := Aside0.mk (hgL hg BK257 : gb257 ≠ gb267); have NB267_257 := Aside0.mk (hgG hg BK257 : gb267 ≠ gb257); have NB262_267 := Aside0.mk (hgL hg BK262 : gb262 ≠ gb267); have NB267_262 := Aside0.mk (hgG hg BK262 : gb267 ≠ gb262); replace BK247 := Aside0.mk (bkB BK247 hb); replace BK252 := Aside0.mk (bkB BK252 hb); replace BK257 := Aside0.mk (bkB BK257 hb); replace BK262 := Aside0.mk (bkB BK262 hb); replace HB := Aside0.mk (below_step (bwA) hb); clear hb hbox hg; have hnb222 := NB267_247.out; have hnc222 := NB247_267.out; have hnb223 := NB267_252.out; have hnc223 := NB252_267.out; have hnb224 := NB267_257.out; have hnc224 := NB257_267.out; have hnb225 := NB267_262.out; have hnc225 := NB262_267.out; obtain ⟨hcz226_0, hcz226_1, hcz226_2⟩ := cel3 BK267.out; obtain ⟨hfz226_0, hfz226_1, hfz226_2⟩ := frz3 BK267.out))
    have n0_ : Aside0 ((((w221.setCell ⟨gb267, 0, none⟩ (.int .i64 t263)).setCell ⟨gb267, 1, none⟩ (.int .i64 t264)).setCell ⟨gb267, 2, none⟩ (.string t265)).heap[gb247]? = some (.cells #[.int .i64 t243, .int .i64 t244, .string t245] 26 (0, 0))) := ⟨blkZ⟩
    have n1_ : Aside0 ((((w221.setCell ⟨gb267, 0, none⟩ (.int .i64 t263)).setCell ⟨gb267, 1, none⟩ (.int .i64 t264)).setCell ⟨gb267, 2, none⟩ (.string t265)).heap[gb252]? = some (.cells #[.int .i64 t248, .int .i64 t249, .string t250] 26 (0, 0))) := ⟨blkZ⟩
    have n2_ : Aside0 ((((w221.setCell ⟨gb267, 0, none⟩ (.int .i64 t263)).setCell ⟨gb267, 1, none⟩ (.int .i64 t264)).setCell ⟨gb267, 2, none⟩ (.string t265)).heap[gb257]? = some (.cells #[.int .i64 t253, .int .i64 t254, .string t255] 26 (0, 0))) := ⟨blkZ⟩
    have n3_ : Aside0 ((((w221.setCell ⟨gb267, 0, none⟩ (.int .i64 t263)).setCell ⟨gb267, 1, none⟩ (.int .i64 t264)).setCell ⟨gb267, 2, none⟩ (.string t265)).heap[gb262]? = some (.cells #[.int .i64 t258, .int .i64 t259, .string t260] 26 (0, 0))) := ⟨blkZ⟩
    have n4_ : Aside0 ((((w221.setCell ⟨gb267, 0, none⟩ (.int .i64 t263)).setCell ⟨gb267, 1, none⟩ (.int .i64 t264)).setCell ⟨gb267, 2, none⟩ (.string t265)).heap[gb267]? = some (.cells #[.int .i64 t263, .int .i64 t264, .string t265] 26 (0, 0))) := ⟨blkZ⟩
    have n5_ : Aside0 (Below w.heap.size w (((w221.setCell ⟨gb267, 0, none⟩ (.int .i64 t263)).setCell ⟨gb267, 1, none⟩ (.int .i64 t264)).setCell ⟨gb267, 2, none⟩ (.string t265))) := ⟨bwA⟩
    (try clear BK247)
    (try clear BK252)
    (try clear BK257)
    (try clear BK262)
    (try clear BK267)
    (try clear HB)
    generalize (((w221.setCell ⟨gb267, 0, none⟩ (.int .i64 t263)).setCell ⟨gb267, 1, none⟩ (.int .i64 t264)).setCell ⟨gb267, 2, none⟩ (.string t265)) = w227 at n0_ n1_ n2_ n3_ n4_ n5_ ⊢
    have BK247 := n0_
    have BK252 := n1_
    have BK257 := n2_
    have BK262 := n3_
    have BK267 := n4_
    have HB := n5_
    clear n0_ n1_ n2_ n3_ n4_ n5_
    replace BK247 := Aside0.mk (blk_drew BK247.out)
    replace BK252 := Aside0.mk (blk_drew BK252.out)
    replace BK257 := Aside0.mk (blk_drew BK257.out)
    replace BK262 := Aside0.mk (blk_drew BK262.out)
    replace BK267 := Aside0.mk (blk_drew BK267.out)
    replace HB := Aside0.mk (below_drew1 HB.out)
    have hcv_ := fun (W : World) (s0 : Below w.heap.size w W) => Kd.C_string (P := Tryd.prog) (c := c2) Tryd.underlying22 Tryd.underlying5 Tryd.underlying9 (Kd.C_below HR2.out s0)
    refine start_ (n := 13) (S := fun w' => Below w.heap.size w w') (ds := []) (mkB 13 0) (by kernel_rfl) rfl rfl HB.out (fun hHeld => ?_); refine with_tabW caduceuslaw03_ValueFrom.tab8 caduceuslaw03_ValueFrom.bits8 (fun HT_ HW_ => ?_)
    generalize w227.drew = w228 at BK247 BK252 BK257 BK262 BK267 HB hHeld ⊢
    refine pureA 0 (some 59) (mkB 13 1) ?_
    refine pureA 1 (some 60) (mkB 13 3) ?_
    refine pureA 2 (some 61) (mkB 13 7) ?_
    refine pureA 3 (some 62) (mkB 13 15) ?_
    refine pureA 4 (some 63) (mkB 13 31) ?_
    refine take_ (i := 5) (N := some 64) (v := ?_) (a' := ?_) (mkB 13 63) rfl rfl (take_ofW HT_.out HW_.out (by kernel_rfl)) (fun _ _ _ h => h) (Or.inl ⟨by rfl, ?_⟩) hHeld ?_ ?_
    rotate_left
    ·intro w' s0
     have hcw_ := hcv_ w' s0
     go_simp
     (first | done | rfl)
    rotate_left
    ·simp only [Act.put, List.setIfInBounds_toArray, List.set_cons_zero, List.set_cons_succ, i64_w, i32_w]
     rfl
    refine pureA 6 (some 65) (mkB 13 127) ?_
    refine join_ (σ := Nat × Nat × Nat) 3 (mkB 13 1023) (fun s_ => [(17, .pointer (some ⟨s_.1, 0, none⟩)), (18, .pointer (some ⟨s_.2.1, 0, none⟩)), (19, .pointer (some ⟨s_.2.2, 0, none⟩))]) (fun s_ w' => (w'.heap[gb247]? = some (.cells #[.int .i64 t243, .int .i64 t244, .string t245] 26 (0, 0))) ∧ (w'.heap[gb252]? = some (.cells #[.int .i64 t248, .int .i64 t249, .string t250] 26 (0, 0))) ∧ (w'.heap[gb257]? = some (.cells #[.int .i64 t253, .int .i64 t254, .string t255] 26 (0, 0))) ∧ (w'.heap[gb262]? = some (.cells #[.int .i64 t258, .int .i64 t259, .string t260] 26 (0, 0))) ∧ (w'.heap[gb267]? = some (.cells #[.int .i64 t263, .int .i64 t264, .string t265] 26 (0, 0))) ∧ (w'.heap[s_.1]? = some (.cells #[.int .i64 0, .int .i64 0, .string (⟨#[]⟩ : ByteArray)] 26 (0, 0))) ∧ (w'.heap[s_.2.1]? = some (.cells #[.int .i64 0, .int .i64 0, .string (⟨#[]⟩ : ByteArray)] 26 (0, 0))) ∧ (w'.heap[s_.2.2]? = some (.cells #[.int .i64 0, .int .i64 0, .string (⟨#[]⟩ : ByteArray)] 26 (0, 0))) ∧ (w.heap.size ≤ s_.1) ∧ (w.heap.size ≤ s_.1) ∧ (gb247 ≠ s_.1) ∧ (s_.1 ≠ gb247) ∧ (gb252 ≠ s_.1) ∧ (s_.1 ≠ gb252) ∧ (gb257 ≠ s_.1) ∧ (s_.1 ≠ gb257) ∧ (gb262 ≠ s_.1) ∧ (s_.1 ≠ gb262) ∧ (gb267 ≠ s_.1) ∧ (s_.1 ≠ gb267) ∧ (s_.2.1 ≠ s_.1) ∧ (s_.1 ≠ s_.2.1) ∧ (s_.2.2 ≠ s_.1) ∧ (s_.1 ≠ s_.2.2) ∧ (w.heap.size ≤ s_.2.1) ∧ (w.heap.size ≤ s_.2.1) ∧ (gb247 ≠ s_.2.1) ∧ (s_.2.1 ≠ gb247) ∧ (gb252 ≠ s_.2.1) ∧ (s_.2.1 ≠ gb252) ∧ (gb257 ≠ s_.2.1) ∧ (s_.2.1 ≠ gb257) ∧ (gb262 ≠ s_.2.1) ∧ (s_.2.1 ≠ gb262) ∧ (gb267 ≠ s_.2.1) ∧ (s_.2.1 ≠ gb267) ∧ (s_.2.2 ≠ s_.2.1) ∧ (s_.2.1 ≠ s_.2.2) ∧ (w.heap.size ≤ s_.2.2) ∧ (w.heap.size ≤ s_.2.2) ∧ (gb247 ≠ s_.2.2) ∧ (s_.2.2 ≠ gb247) ∧ (gb252 ≠ s_.2.2) ∧ (s_.2.2 ≠ gb252) ∧ (gb257 ≠ s_.2.2) ∧ (s_.2.2 ≠ gb257) ∧ (gb262 ≠ s_.2.2) ∧ (s_.2.2 ≠ gb262) ∧ (gb267 ≠ s_.2.2) ∧ (s_.2.2 ≠ gb267) ∧ (Below w.heap.size w w')) ?_ ?_
    rotate_left
    ·intro hJ7_8_9
     refine join_ (σ := Nat × Nat) 4 (mkB 13 511) (fun s_ => [(17, .pointer (some ⟨s_.1, 0, none⟩)), (18, .pointer (some ⟨s_.2, 0, none⟩))]) (fun s_ w' => (w'.heap[gb247]? = some (.cells #[.int .i64 t243, .int .i64 t244, .string t245] 26 (0, 0))) ∧ (w'.heap[gb252]? = some (.cells #[.int .i64 t248, .int .i64 t249, .string t250] 26 (0, 0))) ∧ (w'.heap[gb257]? = some (.cells #[.int .i64 t253, .int .i64 t254, .string t255] 26 (0, 0))) ∧ (w'.heap[gb262]? = some (.cells #[.int .i64 t258, .int .i64 t259, .string t260] 26 (0, 0))) ∧ (w'.heap[gb267]? = some (.cells #[.int .i64 t263, .int .i64 t264, .string t265] 26 (0, 0))) ∧ (w'.heap[s_.1]? = some (.cells #[.int .i64 0, .int .i64 0, .string (⟨#[]⟩ : ByteArray)] 26 (0, 0))) ∧ (w'.heap[s_.2]? = some (.cells #[.int .i64 0, .int .i64 0, .string (⟨#[]⟩ : ByteArray)] 26 (0, 0))) ∧ (w.heap.size ≤ s_.1) ∧ (w.heap.size ≤ s_.1) ∧ (gb247 ≠ s_.1) ∧ (s_.1 ≠ gb247) ∧ (gb252 ≠ s_.1) ∧ (s_.1 ≠ gb252) ∧ (gb257 ≠ s_.1) ∧ (s_.1 ≠ gb257) ∧ (gb262 ≠ s_.1) ∧ (s_.1 ≠ gb262) ∧ (gb267 ≠ s_.1) ∧ (s_.1 ≠ gb267) ∧ (s_.2 ≠ s_.1) ∧ (s_.1 ≠ s_.2) ∧ (w.heap.size ≤ s_.2) ∧ (w.heap.size ≤ s_.2) ∧ (gb247 ≠ s_.2) ∧ (s_.2 ≠ gb247) ∧ (gb252 ≠ s_.2) ∧ (s_.2 ≠ gb252) ∧ (gb257 ≠ s_.2) ∧ (s_.2 ≠ gb257) ∧ (gb262 ≠ s_.2) ∧ (s_.2 ≠ gb262) ∧ (gb267 ≠ s_.2) ∧ (s_.2 ≠ gb267) ∧ (Below w.heap.size w w')) ?_ ?_
     rotate_left
     ·intro hJ7_8
      refine join_ (σ := Nat × Nat) 4 (mkB 13 767) (fun s_ => [(17, .pointer (some ⟨s_.1, 0, none⟩)), (19, .pointer (some ⟨s_.2, 0, none⟩))]) (fun s_ w' => (w'.heap[gb247]? = some (.cells #[.int .i64 t243, .int .i64 t244, .string t245] 26 (0, 0))) ∧ (w'.heap[gb252]? = some (.cells #[.int .i64 t248, .int .i64 t249, .string t250] 26 (0, 0))) ∧ (w'.heap[gb257]? = some (.cells #[.int .i64 t253, .int .i64 t254, .string t255] 26 (0, 0))) ∧ (w'.heap[gb262]? = some (.cells #[.int .i64 t258, .int .i64 t259, .string t260] 26 (0, 0))) ∧ (w'.heap[gb267]? = some (.cells #[.int .i64 t263, .int .i64 t264, .string t265] 26 (0, 0))) ∧ (w'.heap[s_.1]? = some (.cells #[.int .i64 0, .int .i64 0, .string (⟨#[]⟩ : ByteArray)] 26 (0, 0))) ∧ (w'.heap[s_.2]? = some (.cells #[.int .i64 0, .int .i64 0, .string (⟨#[]⟩ : ByteArray)] 26 (0, 0))) ∧ (w.heap.size ≤ s_.1) ∧ (w.heap.size ≤ s_.1) ∧ (gb247 ≠ s_.1) ∧ (s_.1 ≠ gb247) ∧ (gb252 ≠ s_.1) ∧ (s_.1 ≠ gb252) ∧ (gb257 ≠ s_.1) ∧ (s_.1 ≠ gb257) ∧ (gb262 ≠ s_.1) ∧ (s_.1 ≠ gb262) ∧ (gb267 ≠ s_.1) ∧ (s_.1 ≠ gb267) ∧ (s_.2 ≠ s_.1) ∧ (s_.1 ≠ s_.2) ∧ (w.heap.size ≤ s_.2) ∧ (w.heap.size ≤ s_.2) ∧ (gb247 ≠ s_.2) ∧ (s_.2 ≠ gb247) ∧ (gb252 ≠ s_.2) ∧ (s_.2 ≠ gb252) ∧ (gb257 ≠ s_.2) ∧ (s_.2 ≠ gb257) ∧ (gb262 ≠ s_.2) ∧ (s_.2 ≠ gb262) ∧ (gb267 ≠ s_.2) ∧ (s_.2 ≠ gb267) ∧ (Below w.heap.size w w')) ?_ ?_
      rotate_left
      ·intro hJ7_9
       refine join_ (σ := Nat × Nat) 4 (mkB 13 895) (fun s_ => [(18, .pointer (some ⟨s_.1, 0, none⟩)), (19, .pointer (some ⟨s_.2, 0, none⟩))]) (fun s_ w' => (w'.heap[gb247]? = some (.cells #[.int .i64 t243, .int .i64 t244, .string t245] 26 (0, 0))) ∧ (w'.heap[gb252]? = some (.cells #[.int .i64 t248, .int .i64 t249, .string t250] 26 (0, 0))) ∧ (w'.heap[gb257]? = some (.cells #[.int .i64 t253, .int .i64 t254, .string t255] 26 (0, 0))) ∧ (w'.heap[gb262]? = some (.cells #[.int .i64 t258, .int .i64 t259, .string t260] 26 (0, 0))) ∧ (w'.heap[gb267]? = some (.cells #[.int .i64 t263, .int .i64 t264, .string t265] 26 (0, 0))) ∧ (w'.heap[s_.1]? = some (.cells #[.int .i64 0, .int .i64 0, .string (⟨#[]⟩ : ByteArray)] 26 (0, 0))) ∧ (w'.heap[s_.2]? = some (.cells #[.int .i64 0, .int .i64 0, .string (⟨#[]⟩ : ByteArray)] 26 (0, 0))) ∧ (w.heap.size ≤ s_.1) ∧ (w.heap.size ≤ s_.1) ∧ (gb247 ≠ s_.1) ∧ (s_.1 ≠ gb247) ∧ (gb252 ≠ s_.1) ∧ (s_.1 ≠ gb252) ∧ (gb257 ≠ s_.1) ∧ (s_.1 ≠ gb257) ∧ (gb262 ≠ s_.1) ∧ (s_.1 ≠ gb262) ∧ (gb267 ≠ s_.1) ∧ (s_.1 ≠ gb267) ∧ (s_.2 ≠ s_.1) ∧ (s_.1 ≠ s_.2) ∧ (w.heap.size ≤ s_.2) ∧ (w.heap.size ≤ s_.2) ∧ (gb247 ≠ s_.2) ∧ (s_.2 ≠ gb247) ∧ (gb252 ≠ s_.2) ∧ (s_.2 ≠ gb252) ∧ (gb257 ≠ s_.2) ∧ (s_.2 ≠ gb257) ∧ (gb262 ≠ s_.2) ∧ (s_.2 ≠ gb262) ∧ (gb267 ≠ s_.2) ∧ (s_.2 ≠ gb267) ∧ (Below w.heap.size w w')) ?_ ?_
       rotate_left
       ·intro hJ8_9
        refine join_ (σ := Nat) 5 (mkB 13 255) (fun s_ => [(17, .pointer (some ⟨s_, 0, none⟩))]) (fun s_ w' => (w'.heap[gb247]? = some (.cells #[.int .i64 t243, .int .i64 t244, .string t245] 26 (0, 0))) ∧ (w'.heap[gb252]? = some (.cells #[.int .i64 t248, .int .i64 t249, .string t250] 26 (0, 0))) ∧ (w'.heap[gb257]? = some (.cells #[.int .i64 t253, .int .i64 t254, .string t255] 26 (0, 0))) ∧ (w'.heap[gb262]? = some (.cells #[.int .i64 t258, .int .i64 t259, .string t260] 26 (0, 0))) ∧ (w'.heap[gb267]? = some (.cells #[.int .i64 t263, .int .i64 t264, .string t265] 26 (0, 0))) ∧ (w'.heap[s_]? = some (.cells #[.int .i64 0, .int .i64 0, .string (⟨#[]⟩ : ByteArray)] 26 (0, 0))) ∧ (w.heap.size ≤ s_) ∧ (w.heap.size ≤ s_) ∧ (gb247 ≠ s_) ∧ (s_ ≠ gb247) ∧ (gb252 ≠ s_) ∧ (s_ ≠ gb252) ∧ (gb257 ≠ s_) ∧ (s_ ≠ gb257) ∧ (gb262 ≠ s_) ∧ (s_ ≠ gb262) ∧ (gb267 ≠ s_) ∧ (s_ ≠ gb267) ∧ (Below w.heap.size w w')) ?_ ?_
        rotate_left
        ·intro hJ7
         refine join_ (σ := Nat) 5 (mkB 13 383) (fun s_ => [(18, .pointer (some ⟨s_, 0, none⟩))]) (fun s_ w' => (w'.heap[gb247]? = some (.cells #[.int .i64 t243, .int .i64 t244, .string t245] 26 (0, 0))) ∧ (w'.heap[gb252]? = some (.cells #[.int .i64 t248, .int .i64 t249, .string t250] 26 (0, 0))) ∧ (w'.heap[gb257]? = some (.cells #[.int .i64 t253, .int .i64 t254, .string t255] 26 (0, 0))) ∧ (w'.heap[gb262]? = some (.cells #[.int .i64 t258, .int .i64 t259, .string t260] 26 (0, 0))) ∧ (w'.heap[gb267]? = some (.cells #[.int .i64 t263, .int .i64 t264, .string t265] 26 (0, 0))) ∧ (w'.heap[s_]? = some (.cells #[.int .i64 0, .int .i64 0, .string (⟨#[]⟩ : ByteArray)] 26 (0, 0))) ∧ (w.heap.size ≤ s_) ∧ (w.heap.size ≤ s_) ∧ (gb247 ≠ s_) ∧ (s_ ≠ gb247) ∧ (gb252 ≠ s_) ∧ (s_ ≠ gb252) ∧ (gb257 ≠ s_) ∧ (s_ ≠ gb257) ∧ (gb262 ≠ s_) ∧ (s_ ≠ gb262) ∧ (gb267 ≠ s_) ∧ (s_ ≠ gb267) ∧ (Below w.heap.size w w')) ?_ ?_
         rotate_left
         ·intro hJ8
          refine join_ (σ := Nat) 5 (mkB 13 639) (fun s_ => [(19, .pointer (some ⟨s_, 0, none⟩))]) (fun s_ w' => (w'.heap[gb247]? = some (.cells #[.int .i64 t243, .int .i64 t244, .string t245] 26 (0, 0))) ∧ (w'.heap[gb252]? = some (.cells #[.int .i64 t248, .int .i64 t249, .string t250] 26 (0, 0))) ∧ (w'.heap[gb257]? = some (.cells #[.int .i64 t253, .int .i64 t254, .string t255] 26 (0, 0))) ∧ (w'.heap[gb262]? = some (.cells #[.int .i64 t258, .int .i64 t259, .string t260] 26 (0, 0))) ∧ (w'.heap[gb267]? = some (.cells #[.int .i64 t263, .int .i64 t264, .string t265] 26 (0, 0))) ∧ (w'.heap[s_]? = some (.cells #[.int .i64 0, .int .i64 0, .string (⟨#[]⟩ : ByteArray)] 26 (0, 0))) ∧ (w.heap.size ≤ s_) ∧ (w.heap.size ≤ s_) ∧ (gb247 ≠ s_) ∧ (s_ ≠ gb247) ∧ (gb252 ≠ s_) ∧ (s_ ≠ gb252) ∧ (gb257 ≠ s_) ∧ (s_ ≠ gb257) ∧ (gb262 ≠ s_) ∧ (s_ ≠ gb262) ∧ (gb267 ≠ s_) ∧ (s_ ≠ gb267) ∧ (Below w.heap.size w w')) ?_ ?_
          rotate_left
          ·intro hJ9
           refine three_ (i := 7) (j := 8) (k := 9) (Ni := some 17) (Nj := some 18) (Nk := some 19) (mkB 13 255) (mkB 13 383) (mkB 13 639) rfl rfl rfl rfl rfl rfl (three_of HT_.out (by kernel_rfl)) (by decide) (by decide) (by decide) (fun K hK => ?_) (fun K hK => ?_) (fun K hK => ?_)
           ·skip
            refine boxS 17 #[.int .i64 0, .int .i64 0, .string (⟨#[]⟩ : ByteArray)] 26 ?_
            intro gb268 hg w229 hbox hb
            have BK268 := Aside0.mk (hbox)
            have GW268 := Aside0.mk (hgW hg : w.heap.size ≤ gb268)
            have GE268 := Aside0.mk (hgW hg : w.heap.size ≤ gb268)
            have NB247_268 := Aside0.mk (hgL hg BK247 : gb247 ≠ gb268)
            have NB268_247 := Aside0.mk (hgG hg BK247 : gb268 ≠ gb247)
            have NB252_268 := Aside0.mk (hgL hg BK252 : gb252 ≠ gb268)
            have NB268_252 := Aside0.mk (hgG hg BK252 : gb268 ≠ gb252)
            have NB257_268 := Aside0.mk (hgL hg BK257 : gb257 ≠ gb268)
            have NB268_257 := Aside0.mk (hgG hg BK257 : gb268 ≠ gb257)
            have NB262_268 := Aside0.mk (hgL hg BK262 : gb262 ≠ gb268)
            have NB268_262 := Aside0.mk (hgG hg BK262 : gb268 ≠ gb262)
            have NB267_268 := Aside0.mk (hgL hg BK267 : gb267 ≠ gb268)
            have NB268_267 := Aside0.mk (hgG hg BK267 : gb268 ≠ gb267)
            replace BK247 := Aside0.mk (bkB BK247 hb)
            replace BK252 := Aside0.mk (bkB BK252 hb)
            replace BK257 := Aside0.mk (bkB BK257 hb)
            replace BK262 := Aside0.mk (bkB BK262 hb)
            replace BK267 := Aside0.mk (bkB BK267 hb)
            replace HB := Aside0.mk (below_step (bwA) hb)
            clear hb hbox hg
            refine hK.out _ _ HB.out (fun hHeld => ?_)
            clear hK K
            refine normA ?_
            exact norm_ (by first | (simp only [putAll, Act.put, List.setIfInBounds_toArray, List.set_cons_zero, List.set_cons_succ]; done) | (simp only [putAll, Act.put, List.setIfInBounds_toArray, List.set_cons_zero, List.set_cons_succ]; rfl)) (hJ7 (gb268) _ ⟨blkA, blkA, blkA, blkA, blkA, blkA, GW268.out, GE268.out, NB247_268.out, NB268_247.out, NB252_268.out, NB268_252.out, NB257_268.out, NB268_257.out, NB262_268.out, NB268_262.out, NB267_268.out, NB268_267.out, (bwA)⟩)
           ·skip
            refine boxS 18 #[.int .i64 0, .int .i64 0, .string (⟨#[]⟩ : ByteArray)] 26 ?_
            intro gb269 hg w229 hbox hb
            have BK269 := Aside0.mk (hbox)
            have GW269 := Aside0.mk (hgW hg : w.heap.size ≤ gb269)
            have GE269 := Aside0.mk (hgW hg : w.heap.size ≤ gb269)
            have NB247_269 := Aside0.mk (hgL hg BK247 : gb247 ≠ gb269)
            have NB269_247 := Aside0.mk (hgG hg BK247 : gb269 ≠ gb247)
            have NB252_269 := Aside0.mk (hgL hg BK252 : gb252 ≠ gb269)
            have NB269_252 := Aside0.mk (hgG hg BK252 : gb269 ≠ gb252)
            have NB257_269 := Aside0.mk (hgL hg BK257 : gb257 ≠ gb269)
            have NB269_257 := Aside0.mk (hgG hg BK257 : gb269 ≠ gb257)
            have NB262_269 := Aside0.mk (hgL hg BK262 : gb262 ≠ gb269)
            have NB269_262 := Aside0.mk (hgG hg BK262 : gb269 ≠ gb262)
            have NB267_269 := Aside0.mk (hgL hg BK267 : gb267 ≠ gb269)
            have NB269_267 := Aside0.mk (hgG hg BK267 : gb269 ≠ gb267)
            replace BK247 := Aside0.mk (bkB BK247 hb)
            replace BK252 := Aside0.mk (bkB BK252 hb)
            replace BK257 := Aside0.mk (bkB BK257 hb)
            replace BK262 := Aside0.mk (bkB BK262 hb)
            replace BK267 := Aside0.mk (bkB BK267 hb)
            replace HB := Aside0.mk (below_step (bwA) hb)
            clear hb hbox hg
            refine hK.out _ _ HB.out (fun hHeld => ?_)
            clear hK K
            refine normA ?_
            exact norm_ (by first | (simp only [putAll, Act.put, List.setIfInBounds_toArray, List.set_cons_zero, List.set_cons_succ]; done) | (simp only [putAll, Act.put, List.setIfInBounds_toArray, List.set_cons_zero, List.set_cons_succ]; rfl)) (hJ8 (gb269) _ ⟨blkA, blkA, blkA, blkA, blkA, blkA, GW269.out, GE269.out, NB247_269.out, NB269_247.out, NB252_269.out, NB269_252.out, NB257_269.out, NB269_257.out, NB262_269.out, NB269_262.out, NB267_269.out, NB269_267.out, (bwA)⟩)
           ·skip
            refine boxS 19 #[.int .i64 0, .int .i64 0, .string (⟨#[]⟩ : ByteArray)] 26 ?_
            intro gb270 hg w229 hbox hb
            have BK270 := Aside0.mk (hbox)
            have GW270 := Aside0.mk (hgW hg : w.heap.size ≤ gb270)
            have GE270 := Aside0.mk (hgW hg : w.heap.size ≤ gb270)
            have NB247_270 := Aside0.mk (hgL hg BK247 : gb247 ≠ gb270)
            have NB270_247 := Aside0.mk (hgG hg BK247 : gb270 ≠ gb247)
            have NB252_270 := Aside0.mk (hgL hg BK252 : gb252 ≠ gb270)
            have NB270_252 := Aside0.mk (hgG hg BK252 : gb270 ≠ gb252)
            have NB257_270 := Aside0.mk (hgL hg BK257 : gb257 ≠ gb270)
            have NB270_257 := Aside0.mk (hgG hg BK257 : gb270 ≠ gb257)
            have NB262_270 := Aside0.mk (hgL hg BK262 : gb262 ≠ gb270)
            have NB270_262 := Aside0.mk (hgG hg BK262 : gb270 ≠ gb262)
            have NB267_270 := Aside0.mk (hgL hg BK267 : gb267 ≠ gb270)
            have NB270_267 := Aside0.mk (hgG hg BK267 : gb270 ≠ gb267)
            replace BK247 := Aside0.mk (bkB BK247 hb)
            replace BK252 := Aside0.mk (bkB BK252 hb)
            replace BK257 := Aside0.mk (bkB BK257 hb)
            replace BK262 := Aside0.mk (bkB BK262 hb)
            replace BK267 := Aside0.mk (bkB BK267 hb)
            replace HB := Aside0.mk (below_step (bwA) hb)
            clear hb hbox hg
            refine hK.out _ _ HB.out (fun hHeld => ?_)
            clear hK K
            refine normA ?_
            exact norm_ (by first | (simp only [putAll, Act.put, List.setIfInBounds_toArray, List.set_cons_zero, List.set_cons_succ]; done) | (simp only [putAll, Act.put, List.setIfInBounds_toArray, List.set_cons_zero, List.set_cons_succ]; rfl)) (hJ9 (gb270) _ ⟨blkA, blkA, blkA, blkA, blkA, blkA, GW270.out, GE270.out, NB247_270.out, NB270_247.out, NB252_270.out, NB270_252.out, NB257_270.out, NB270_257.out, NB262_270.out, NB270_262.out, NB267_270.out, NB270_267.out, (bwA)⟩)
          ·skip
           rintro gb270 w230 ⟨h0_, h1_, h2_, h3_, h4_, h5_, h6_, h7_, h8_, h9_, h10_, h11_, h12_, h13_, h14_, h15_, h16_, h17_, h18_⟩
           have n0_ : Aside0 (w230.heap[gb247]? = some (.cells #[.int .i64 t243, .int .i64 t244, .string t245] 26 (0, 0))) := ⟨h0_⟩
           have n1_ : Aside0 (w230.heap[gb252]? = some (.cells #[.int .i64 t248, .int .i64 t249, .string t250] 26 (0, 0))) := ⟨h1_⟩
           have n2_ : Aside0 (w230.heap[gb257]? = some (.cells #[.int .i64 t253, .int .i64 t254, .string t255] 26 (0, 0))) := ⟨h2_⟩
           have n3_ : Aside0 (w230.heap[gb262]? = some (.cells #[.int .i64 t258, .int .i64 t259, .string t260] 26 (0, 0))) := ⟨h3_⟩
           have n4_ : Aside0 (w230.heap[gb267]? = some (.cells #[.int .i64 t263, .int .i64 t264, .string t265] 26 (0, 0))) := ⟨h4_⟩
           have n5_ : Aside0 (w230.heap[gb270]? = some (.cells #[.int .i64 0, .int .i64 0, .string (⟨#[]⟩ : ByteArray)] 26 (0, 0))) := ⟨h5_⟩
           have n6_ : Aside0 (w.heap.size ≤ gb270) := ⟨h6_⟩
           have n7_ : Aside0 (w.heap.size ≤ gb270) := ⟨h7_⟩
           have n8_ : Aside0 (gb247 ≠ gb270) := ⟨h8_⟩
           have n9_ : Aside0 (gb270 ≠ gb247) := ⟨h9_⟩
           have n10_ : Aside0 (gb252 ≠ gb270) := ⟨h10_⟩
           have n11_ : Aside0 (gb270 ≠ gb252) := ⟨h11_⟩
           have n12_ : Aside0 (gb257 ≠ gb270) := ⟨h12_⟩
           have n13_ : Aside0 (gb270 ≠ gb257) := ⟨h13_⟩
           have n14_ : Aside0 (gb262 ≠ gb270) := ⟨h14_⟩
           have n15_ : Aside0 (gb270 ≠ gb262) := ⟨h15_⟩
           have n16_ : Aside0 (gb267 ≠ gb270) := ⟨h16_⟩
           have n17_ : Aside0 (gb270 ≠ gb267) := ⟨h17_⟩
           have n18_ : Aside0 (Below w.heap.size w w230) := ⟨h18_⟩
           clear BK247
           clear BK252
           clear BK257
           clear BK262
           clear BK267
           clear HB
           clear h0_ h1_ h2_ h3_ h4_ h5_ h6_ h7_ h8_ h9_ h10_ h11_ h12_ h13_ h14_ h15_ h16_ h17_ h18_
           have BK247 := n0_
           have BK252 := n1_
           have BK257 := n2_
           have BK262 := n3_
           have BK267 := n4_
           have BK270 := n5_
           have GW270 := n6_
           have GE270 := n7_
           have NB247_270 := n8_
           have NB270_247 := n9_
           have NB252_270 := n10_
           have NB270_252 := n11_
           have NB257_270 := n12_
           have NB270_257 := n13_
           have NB262_270 := n14_
           have NB270_262 := n15_
           have NB267_270 := n16_
           have NB270_267 := n17_
           have HB := n18_
           clear n0_ n1_ n2_ n3_ n4_ n5_ n6_ n7_ n8_ n9_ n10_ n11_ n12_ n13_ n14_ n15_ n16_ n17_ n18_
           have hHeld := HB.out
           refine norm_ (a' := ?_) ?_ ?_
           rotate_left
           ·simp only [putAll, Act.put, List.setIfInBounds_toArray, List.set_cons_zero, List.set_cons_succ]
            rfl
           refine two_ (i := 7) (j := 8) (Ni := some 17) (Nj := some 18) (mkB 13 767) (mkB 13 895) rfl rfl rfl rfl (two_of HT_.out (by kernel_rfl)) (by decide) (by decide) (fun K hK => ?_) (fun K hK => ?_)
           ·skip
            refine boxS 17 #[.int .i64 0, .int .i64 0, .string (⟨#[]⟩ : ByteArray)] 26 ?_
            intro gb268 hg w231 hbox hb
            have BK268 := Aside0.mk (hbox)
            have GW268 := Aside0.mk (hgW hg : w.heap.size ≤ gb268)
            have GE268 := Aside0.mk (hgW hg : w.heap.size ≤ gb268)
            have NB247_268 := Aside0.mk (hgL hg BK247 : gb247 ≠ gb268)
            have NB268_247 := Aside0.mk (hgG hg BK247 : gb268 ≠ gb247)
            have NB252_268 := Aside0.mk (hgL hg BK252 : gb252 ≠ gb268)
            have NB268_252 := Aside0.mk (hgG hg BK252 : gb268 ≠ gb252)
            have NB257_268 := Aside0.mk (hgL hg BK257 : gb257 ≠ gb268)
            have NB268_257 := Aside0.mk (hgG hg BK257 : gb268 ≠ gb257)
            have NB262_268 := Aside0.mk (hgL hg BK262 : gb262 ≠ gb268)
            have NB268_262 := Aside0.mk (hgG hg BK262 : gb268 ≠ gb262)
            have NB267_268 := Aside0.mk (hgL hg BK267 : gb267 ≠ gb268)
            have NB268_267 := Aside0.mk (hgG hg BK267 : gb268 ≠ gb267)
            have NB270_268 := Aside0.mk (hgL hg BK270 : gb270 ≠ gb268)
            have NB268_270 := Aside0.mk (hgG hg BK270 : gb268 ≠ gb270)
            replace BK247 := Aside0.mk (bkB BK247 hb)
            replace BK252 := Aside0.mk (bkB BK252 hb)
            replace BK257 := Aside0.mk (bkB BK257 hb)
            replace BK262 := Aside0.mk (bkB BK262 hb)
            replace BK267 := Aside0.mk (bkB BK267 hb)
            replace BK270 := Aside0.mk (bkB BK270 hb)
            replace HB := Aside0.mk (below_step (bwA) hb)
            clear hb hbox hg
            refine hK.out _ _ HB.out (fun hHeld => ?_)
            clear hK K
            refine normA ?_
            exact norm_ (by first | (simp only [putAll, Act.put, List.setIfInBounds_toArray, List.set_cons_zero, List.set_cons_succ]; done) | (simp only [putAll, Act.put, List.setIfInBounds_toArray, List.set_cons_zero, List.set_cons_succ]; rfl)) (hJ7_9 (gb268, gb270) _ ⟨blkA, blkA, blkA, blkA, blkA, blkA, blkA, GW268.out, GE268.out, NB247_268.out, NB268_247.out, NB252_268.out, NB268_252.out, NB257_268.out, NB268_257.out, NB262_268.out, NB268_262.out, NB267_268.out, NB268_267.out, NB270_268.out, NB268_270.out, GW270.out, GE270.out, NB247_270.out, NB270_247.out, NB252_270.out, NB270_252.out, NB257_270.out, NB270_257.out, NB262_270.out, NB270_262.out, NB267_270.out, NB270_267.out, (bwA)⟩)
           ·skip
            refine boxS 18 #[.int .i64 0, .int .i64 0, .string (⟨#[]⟩ : ByteArray)] 26 ?_
            intro gb269 hg w231 hbox hb
            have BK269 := Aside0.mk (hbox)
            have GW269 := Aside0.mk (hgW hg : w.heap.size ≤ gb269)
            have GE269 := Aside0.mk (hgW hg : w.heap.size ≤ gb269)
            have NB247_269 := Aside0.mk (hgL hg BK247 : gb247 ≠ gb269)
            have NB269_247 := Aside0.mk (hgG hg BK247 : gb269 ≠ gb247)
            have NB252_269 := Aside0.mk (hgL hg BK252 : gb252 ≠ gb269)
            have NB269_252 := Aside0.mk (hgG hg BK252 : gb269 ≠ gb252)
            have NB257_269 := Aside0.mk (hgL hg BK257 : gb257 ≠ gb269)
            have NB269_257 := Aside0.mk (hgG hg BK257 : gb269 ≠ gb257)
            have NB262_269 := Aside0.mk (hgL hg BK262 : gb262 ≠ gb269)
            have NB269_262 := Aside0.mk (hgG hg BK262 : gb269 ≠ gb262)
            have NB267_269 := Aside0.mk (hgL hg BK267 : gb267 ≠ gb269)
            have NB269_267 := Aside0.mk (hgG hg BK267 : gb269 ≠ gb267)
            have NB270_269 := Aside0.mk (hgL hg BK270 : gb270 ≠ gb269)
            have NB269_270 := Aside0.mk (hgG hg BK270 : gb269 ≠ gb270)
            replace BK247 := Aside0.mk (bkB BK247 hb)
            replace BK252 := Aside0.mk (bkB BK252 hb)
            replace BK257 := Aside0.mk (bkB BK257 hb)
            replace BK262 := Aside0.mk (bkB BK262 hb)
            replace BK267 := Aside0.mk (bkB BK267 hb)
            replace BK270 := Aside0.mk (bkB BK270 hb)
            replace HB := Aside0.mk (below_step (bwA) hb)
            clear hb hbox hg
            refine hK.out _ _ HB.out (fun hHeld => ?_)
            clear hK K
            refine normA ?_
            exact norm_ (by first | (simp only [putAll, Act.put, List.setIfInBounds_toArray, List.set_cons_zero, List.set_cons_succ]; done) | (simp only [putAll, Act.put, List.setIfInBounds_toArray, List.set_cons_zero, List.set_cons_succ]; rfl)) (hJ8_9 (gb269, gb270) _ ⟨blkA, blkA, blkA, blkA, blkA, blkA, blkA, GW269.out, GE269.out, NB247_269.out, NB269_247.out, NB252_269.out, NB269_252.out, NB257_269.out, NB269_257.out, NB262_269.out, NB269_262.out, NB267_269.out, NB269_267.out, NB270_269.out, NB269_270.out, GW270.out, GE270.out, NB247_270.out, NB270_247.out, NB252_270.out, NB270_252.out, NB257_270.out, NB270_257.out, NB262_270.out, NB270_262.out, NB267_270.out, NB270_267.out, (bwA)⟩)
         ·skip
          rintro gb269 w230 ⟨h0_, h1_, h2_, h3_, h4_, h5_, h6_, h7_, h8_, h9_, h10_, h11_, h12_, h13_, h14_, h15_, h16_, h17_, h18_⟩
          have n0_ : Aside0 (w230.heap[gb247]? = some (.cells #[.int .i64 t243, .int .i64 t244, .string t245] 26 (0, 0))) := ⟨h0_⟩
          have n1_ : Aside0 (w230.heap[gb252]? = some (.cells #[.int .i64 t248, .int .i64 t249, .string t250] 26 (0, 0))) := ⟨h1_⟩
          have n2_ : Aside0 (w230.heap[gb257]? = some (.cells #[.int .i64 t253, .int .i64 t254, .string t255] 26 (0, 0))) := ⟨h2_⟩
          have n3_ : Aside0 (w230.heap[gb262]? = some (.cells #[.int .i64 t258, .int .i64 t259, .string t260] 26 (0, 0))) := ⟨h3_⟩
          have n4_ : Aside0 (w230.heap[gb267]? = some (.cells #[.int .i64 t263, .int .i64 t264, .string t265] 26 (0, 0))) := ⟨h4_⟩
          have n5_ : Aside0 (w230.heap[gb269]? = some (.cells #[.int .i64 0, .int .i64 0, .string (⟨#[]⟩ : ByteArray)] 26 (0, 0))) := ⟨h5_⟩
          have n6_ : Aside0 (w.heap.size ≤ gb269) := ⟨h6_⟩
          have n7_ : Aside0 (w.heap.size ≤ gb269) := ⟨h7_⟩
          have n8_ : Aside0 (gb247 ≠ gb269) := ⟨h8_⟩
          have n9_ : Aside0 (gb269 ≠ gb247) := ⟨h9_⟩
          have n10_ : Aside0 (gb252 ≠ gb269) := ⟨h10_⟩
          have n11_ : Aside0 (gb269 ≠ gb252) := ⟨h11_⟩
          have n12_ : Aside0 (gb257 ≠ gb269) := ⟨h12_⟩
          have n13_ : Aside0 (gb269 ≠ gb257) := ⟨h13_⟩
          have n14_ : Aside0 (gb262 ≠ gb269) := ⟨h14_⟩
          have n15_ : Aside0 (gb269 ≠ gb262) := ⟨h15_⟩
          have n16_ : Aside0 (gb267 ≠ gb269) := ⟨h16_⟩
          have n17_ : Aside0 (gb269 ≠ gb267) := ⟨h17_⟩
          have n18_ : Aside0 (Below w.heap.size w w230) := ⟨h18_⟩
          clear BK247
          clear BK252
          clear BK257
          clear BK262
          clear BK267
          clear HB
          clear h0_ h1_ h2_ h3_ h4_ h5_ h6_ h7_ h8_ h9_ h10_ h11_ h12_ h13_ h14_ h15_ h16_ h17_ h18_
          have BK247 := n0_
          have BK252 := n1_
          have BK257 := n2_
          have BK262 := n3_
          have BK267 := n4_
          have BK269 := n5_
          have GW269 := n6_
          have GE269 := n7_
          have NB247_269 := n8_
          have NB269_247 := n9_
          have NB252_269 := n10_
          have NB269_252 := n11_
          have NB257_269 := n12_
          have NB269_257 := n13_
          have NB262_269 := n14_
          have NB269_262 := n15_
          have NB267_269 := n16_
          have NB269_267 := n17_
          have HB := n18_
          clear n0_ n1_ n2_ n3_ n4_ n5_ n6_ n7_ n8_ n9_ n10_ n11_ n12_ n13_ n14_ n15_ n16_ n17_ n18_
          have hHeld := HB.out
          refine norm_ (a' := ?_) ?_ ?_
          rotate_left
          ·simp only [putAll, Act.put, List.setIfInBounds_toArray, List.set_cons_zero, List.set_cons_succ]
           rfl
          refine two_ (i := 7) (j := 9) (Ni := some 17) (Nj := some 19) (mkB 13 511) (mkB 13 895) rfl rfl rfl rfl (two_of HT_.out (by kernel_rfl)) (by decide) (by decide) (fun K hK => ?_) (fun K hK => ?_)
          ·skip
           refine boxS 17 #[.int .i64 0, .int .i64 0, .string (⟨#[]⟩ : ByteArray)] 26 ?_
           intro gb268 hg w231 hbox hb
           have BK268 := Aside0.mk (hbox)
           have GW268 := Aside0.mk (hgW hg : w.heap.size ≤ gb268)
           have GE268 := Aside0.mk (hgW hg : w.heap.size ≤ gb268)
           have NB247_268 := Aside0.mk (hgL hg BK247 : gb247 ≠ gb268)
           have NB268_247 := Aside0.mk (hgG hg BK247 : gb268 ≠ gb247)
           have NB252_268 := Aside0.mk (hgL hg BK252 : gb252 ≠ gb268)
           have NB268_252 := Aside0.mk (hgG hg BK252 : gb268 ≠ gb252)
           have NB257_268 := Aside0.mk (hgL hg BK257 : gb257 ≠ gb268)
           have NB268_257 := Aside0.mk (hgG hg BK257 : gb268 ≠ gb257)
           have NB262_268 := Aside0.mk (hgL hg BK262 : gb262 ≠ gb268)
           have NB268_262 := Aside0.mk (hgG hg BK262 : gb268 ≠ gb262)
           have NB267_268 := Aside0.mk (hgL hg BK267 : gb267 ≠ gb268)
           have NB268_267 := Aside0.mk (hgG hg BK267 : gb268 ≠ gb267)
           have NB269_268 := Aside0.mk (hgL hg BK269 : gb269 ≠ gb268)
           have NB268_269 := Aside0.mk (hgG hg BK269 : gb268 ≠ gb269)
           replace BK247 := Aside0.mk (bkB BK247 hb)
           replace BK252 := Aside0.mk (bkB BK252 hb)
           replace BK257 := Aside0.mk (bkB BK257 hb)
           replace BK262 := Aside0.mk (bkB BK262 hb)
           replace BK267 := Aside0.mk (bkB BK267 hb)
           replace BK269 := Aside0.mk (bkB BK269 hb)
           replace HB := Aside0.mk (below_step (bwA) hb)
           clear hb hbox hg
           refine hK.out _ _ HB.out (fun hHeld => ?_)
           clear hK K
           refine normA ?_
           exact norm_ (by first | (simp only [putAll, Act.put, List.setIfInBounds_toArray, List.set_cons_zero, List.set_cons_succ]; done) | (simp only [putAll, Act.put, List.setIfInBounds_toArray, List.set_cons_zero, List.set_cons_succ]; rfl)) (hJ7_8 (gb268, gb269) _ ⟨blkA, blkA, blkA, blkA, blkA, blkA, blkA, GW268.out, GE268.out, NB247_268.out, NB268_247.out, NB252_268.out, NB268_252.out, NB257_268.out, NB268_257.out, NB262_268.out, NB268_262.out, NB267_268.out, NB268_267.out, NB269_268.out, NB268_269.out, GW269.out, GE269.out, NB247_269.out, NB269_247.out, NB252_269.out, NB269_252.out, NB257_269.out, NB269_257.out, NB262_269.out, NB269_262.out, NB267_269.out, NB269_267.out, (bwA)⟩)
          ·skip
           refine boxS 19 #[.int .i64 0, .int .i64 0, .string (⟨#[]⟩ : ByteArray)] 26 ?_
           intro gb270 hg w231 hbox hb
           have BK270 := Aside0.mk (hbox)
           have GW270 := Aside0.mk (hgW hg : w.heap.size ≤ gb270)
           have GE270 := Aside0.mk (hgW hg : w.heap.size ≤ gb270)
           have NB247_270 := Aside0.mk (hgL hg BK247 : gb247 ≠ gb270)
           have NB270_247 := Aside0.mk (hgG hg BK247 : gb270 ≠ gb247)
           have NB252_270 := Aside0.mk (hgL hg BK252 : gb252 ≠ gb270)
           have NB270_252 := Aside0.mk (hgG hg BK252 : gb270 ≠ gb252)
           have NB257_270 := Aside0.mk (hgL hg BK257 : gb257 ≠ gb270)
           have NB270_257 := Aside0.mk (hgG hg BK257 : gb270 ≠ gb257)
           have NB262_270 := Aside0.mk (hgL hg BK262 : gb262 ≠ gb270)
           have NB270_262 := Aside0.mk (hgG hg BK262 : gb270 ≠ gb262)
           have NB267_270 := Aside0.mk (hgL hg BK267 : gb267 ≠ gb270)
           have NB270_267 := Aside0.mk (hgG hg BK267 : gb270 ≠ gb267)
           have NB269_270 := Aside0.mk (hgL hg BK269 : gb269 ≠ gb270)
           have NB270_269 := Aside0.mk (hgG hg BK269 : gb270 ≠ gb269)
           replace BK247 := Aside0.mk (bkB BK247 hb)
           replace BK252 := Aside0.mk (bkB BK252 hb)
           replace BK257 := Aside0.mk (bkB BK257 hb)
           replace BK262 := Aside0.mk (bkB BK262 hb)
           replace BK267 := Aside0.mk (bkB BK267 hb)
           replace BK269 := Aside0.mk (bkB BK269 hb)
           replace HB := Aside0.mk (below_step (bwA) hb)
           clear hb hbox hg
           refine hK.out _ _ HB.out (fun hHeld => ?_)
           clear hK K
           refine normA ?_
           exact norm_ (by first | (simp only [putAll, Act.put, List.setIfInBounds_toArray, List.set_cons_zero, List.set_cons_succ]; done) | (simp only [putAll, Act.put, List.setIfInBounds_toArray, List.set_cons_zero, List.set_cons_succ]; rfl)) (hJ8_9 (gb269, gb270) _ ⟨blkA, blkA, blkA, blkA, blkA, blkA, blkA, GW269.out, GE269.out, NB247_269.out, NB269_247.out, NB252_269.out, NB269_252.out, NB257_269.out, NB269_257.out, NB262_269.out, NB269_262.out, NB267_269.out, NB269_267.out, NB270_269.out, NB269_270.out, GW270.out, GE270.out, NB247_270.out, NB270_247.out, NB252_270.out, NB270_252.out, NB257_270.out, NB270_257.out, NB262_270.out, NB270_262.out, NB267_270.out, NB270_267.out, (bwA)⟩)
        ·skip
         rintro gb268 w230 ⟨h0_, h1_, h2_, h3_, h4_, h5_, h6_, h7_, h8_, h9_, h10_, h11_, h12_, h13_, h14_, h15_, h16_, h17_, h18_⟩
         have n0_ : Aside0 (w230.heap[gb247]? = some (.cells #[.int .i64 t243, .int .i64 t244, .string t245] 26 (0, 0))) := ⟨h0_⟩
         have n1_ : Aside0 (w230.heap[gb252]? = some (.cells #[.int .i64 t248, .int .i64 t249, .string t250] 26 (0, 0))) := ⟨h1_⟩
         have n2_ : Aside0 (w230.heap[gb257]? = some (.cells #[.int .i64 t253, .int .i64 t254, .string t255] 26 (0, 0))) := ⟨h2_⟩
         have n3_ : Aside0 (w230.heap[gb262]? = some (.cells #[.int .i64 t258, .int .i64 t259, .string t260] 26 (0, 0))) := ⟨h3_⟩
         have n4_ : Aside0 (w230.heap[gb267]? = some (.cells #[.int .i64 t263, .int .i64 t264, .string t265] 26 (0, 0))) := ⟨h4_⟩
         have n5_ : Aside0 (w230.heap[gb268]? = some (.cells #[.int .i64 0, .int .i64 0, .string (⟨#[]⟩ : ByteArray)] 26 (0, 0))) := ⟨h5_⟩
         have n6_ : Aside0 (w.heap.size ≤ gb268) := ⟨h6_⟩
         have n7_ : Aside0 (w.heap.size ≤ gb268) := ⟨h7_⟩
         have n8_ : Aside0 (gb247 ≠ gb268) := ⟨h8_⟩
         have n9_ : Aside0 (gb268 ≠ gb247) := ⟨h9_⟩
         have n10_ : Aside0 (gb252 ≠ gb268) := ⟨h10_⟩
         have n11_ : Aside0 (gb268 ≠ gb252) := ⟨h11_⟩
         have n12_ : Aside0 (gb257 ≠ gb268) := ⟨h12_⟩
         have n13_ : Aside0 (gb268 ≠ gb257) := ⟨h13_⟩
         have n14_ : Aside0 (gb262 ≠ gb268) := ⟨h14_⟩
         have n15_ : Aside0 (gb268 ≠ gb262) := ⟨h15_⟩
         have n16_ : Aside0 (gb267 ≠ gb268) := ⟨h16_⟩
         have n17_ : Aside0 (gb268 ≠ gb267) := ⟨h17_⟩
         have n18_ : Aside0 (Below w.heap.size w w230) := ⟨h18_⟩
         clear BK247
         clear BK252
         clear BK257
         clear BK262
         clear BK267
         clear HB
         clear h0_ h1_ h2_ h3_ h4_ h5_ h6_ h7_ h8_ h9_ h10_ h11_ h12_ h13_ h14_ h15_ h16_ h17_ h18_
         have BK247 := n0_
         have BK252 := n1_
         have BK257 := n2_
         have BK262 := n3_
         have BK267 := n4_
         have BK268 := n5_
         have GW268 := n6_
         have GE268 := n7_
         have NB247_268 := n8_
         have NB268_247 := n9_
         have NB252_268 := n10_
         have NB268_252 := n11_
         have NB257_268 := n12_
         have NB268_257 := n13_
         have NB262_268 := n14_
         have NB268_262 := n15_
         have NB267_268 := n16_
         have NB268_267 := n17_
         have HB := n18_
         clear n0_ n1_ n2_ n3_ n4_ n5_ n6_ n7_ n8_ n9_ n10_ n11_ n12_ n13_ n14_ n15_ n16_ n17_ n18_
         have hHeld := HB.out
         refine norm_ (a' := ?_) ?_ ?_
         rotate_left
         ·simp only [putAll, Act.put, List.setIfInBounds_toArray, List.set_cons_zero, List.set_cons_succ]
          rfl
         refine two_ (i := 8) (j := 9) (Ni := some 18) (Nj := some 19) (mkB 13 511) (mkB 13 767) rfl rfl rfl rfl (two_of HT_.out (by kernel_rfl)) (by decide) (by decide) (fun K hK => ?_) (fun K hK => ?_)
         ·skip
          refine boxS 18 #[.int .i64 0, .int .i64 0, .string (⟨#[]⟩ : ByteArray)] 26 ?_
          intro gb269 hg w231 hbox hb
          have BK269 := Aside0.mk (hbox)
          have GW269 := Aside0.mk (hgW hg : w.heap.size ≤ gb269)
          have GE269 := Aside0.mk (hgW hg : w.heap.size ≤ gb269)
          have NB247_269 := Aside0.mk (hgL hg BK247 : gb247 ≠ gb269)
          have NB269_247 := Aside0.mk (hgG hg BK247 : gb269 ≠ gb247)
          have NB252_269 := Aside0.mk (hgL hg BK252 : gb252 ≠ gb269)
          have NB269_252 := Aside0.mk (hgG hg BK252 : gb269 ≠ gb252)
          have NB257_269 := Aside0.mk (hgL hg BK257 : gb257 ≠ gb269)
          have NB269_257 := Aside0.mk (hgG hg BK257 : gb269 ≠ gb257)
          have NB262_269 := Aside0.mk (hgL hg BK262 : gb262 ≠ gb269)
          have NB269_262 := Aside0.mk (hgG hg BK262 : gb269 ≠ gb262)
          have NB267_269 := Aside0.mk (hgL hg BK267 : gb267 ≠ gb269)
          have NB269_267 := Aside0.mk (hgG hg BK267 : gb269 ≠ gb267)
          have NB268_269 := Aside0.mk (hgL hg BK268 : gb268 ≠ gb269)
          have NB269_268 := Aside0.mk (hgG hg BK268 : gb269 ≠ gb268)
          replace BK247 := Aside0.mk (bkB BK247 hb)
          replace BK252 := Aside0.mk (bkB BK252 hb)
          replace BK257 := Aside0.mk (bkB BK257 hb)
          replace BK262 := Aside0.mk (bkB BK262 hb)
          replace BK267 := Aside0.mk (bkB BK267 hb)
          replace BK268 := Aside0.mk (bkB BK268 hb)
          replace HB := Aside0.mk (below_step (bwA) hb)
          clear hb hbox hg
          refine hK.out _ _ HB.out (fun hHeld => ?_)
          clear hK K
          refine normA ?_
          exact norm_ (by first | (simp only [putAll, Act.put, List.setIfInBounds_toArray, List.set_cons_zero, List.set_cons_succ]; done) | (simp only [putAll, Act.put, List.setIfInBounds_toArray, List.set_cons_zero, List.set_cons_succ]; rfl)) (hJ7_8 (gb268, gb269) _ ⟨blkA, blkA, blkA, blkA, blkA, blkA, blkA, GW268.out, GE268.out, NB247_268.out, NB268_247.out, NB252_268.out, NB268_252.out, NB257_268.out, NB268_257.out, NB262_268.out, NB268_262.out, NB267_268.out, NB268_267.out, NB269_268.out, NB268_269.out, GW269.out, GE269.out, NB247_269.out, NB269_247.out, NB252_269.out, NB269_252.out, NB257_269.out, NB269_257.out, NB262_269.out, NB269_262.out, NB267_269.out, NB269_267.out, (bwA)⟩)
         ·skip
          refine boxS 19 #[.int .i64 0, .int .i64 0, .string (⟨#[]⟩ : ByteArray)] 26 ?_
          intro gb270 hg w231 hbox hb
          have BK270 := Aside0.mk (hbox)
          have GW270 := Aside0.mk (hgW hg : w.heap.size ≤ gb270)
          have GE270 := Aside0.mk (hgW hg : w.heap.size ≤ gb270)
          have NB247_270 := Aside0.mk (hgL hg BK247 : gb247 ≠ gb270)
          have NB270_247 := Aside0.mk (hgG hg BK247 : gb270 ≠ gb247)
          have NB252_270 := Aside0.mk (hgL hg BK252 : gb252 ≠ gb270)
          have NB270_252 := Aside0.mk (hgG hg BK252 : gb270 ≠ gb252)
          have NB257_270 := Aside0.mk (hgL hg BK257 : gb257 ≠ gb270)
          have NB270_257 := Aside0.mk (hgG hg BK257 : gb270 ≠ gb257)
          have NB262_270 := Aside0.mk (hgL hg BK262 : gb262 ≠ gb270)
          have NB270_262 := Aside0.mk (hgG hg BK262 : gb270 ≠ gb262)
          have NB267_270 := Aside0.mk (hgL hg BK267 : gb267 ≠ gb270)
          have NB270_267 := Aside0.mk (hgG hg BK267 : gb270 ≠ gb267)
          have NB268_270 := Aside0.mk (hgL hg BK268 : gb268 ≠ gb270)
          have NB270_268 := Aside0.mk (hgG hg BK268 : gb270 ≠ gb268)
          replace BK247 := Aside0.mk (bkB BK247 hb)
          replace BK252 := Aside0.mk (bkB BK252 hb)
          replace BK257 := Aside0.mk (bkB BK257 hb)
          replace BK262 := Aside0.mk (bkB BK262 hb)
          replace BK267 := Aside0.mk (bkB BK267 hb)
          replace BK268 := Aside0.mk (bkB BK268 hb)
          replace HB := Aside0.mk (below_step (bwA) hb)
          clear hb hbox hg
          refine hK.out _ _ HB.out (fun hHeld => ?_)
          clear hK K
          refine normA ?_
          exact norm_ (by first | (simp only [putAll, Act.put, List.setIfInBounds_toArray, List.set_cons_zero, List.set_cons_succ]; done) | (simp only [putAll, Act.put, List.setIfInBounds_toArray, List.set_cons_zero, List.set_cons_succ]; rfl)) (hJ7_9 (gb268, gb270) _ ⟨blkA, blkA, blkA, blkA, blkA, blkA, blkA, GW268.out, GE268.out, NB247_268.out, NB268_247.out, NB252_268.out, NB268_252.out, NB257_268.out, NB268_257.out, NB262_268.out, NB268_262.out, NB267_268.out, NB268_267.out, NB270_268.out, NB268_270.out, GW270.out, GE270.out, NB247_270.out, NB270_247.out, NB252_270.out, NB270_252.out, NB257_270.out, NB270_257.out, NB262_270.out, NB270_262.out, NB267_270.out, NB270_267.out, (bwA)⟩)
       ·skip
        rintro ⟨gb269, gb270⟩ w231 ⟨h0_, h1_, h2_, h3_, h4_, h5_, h6_, h7_, h8_, h9_, h10_, h11_, h12_, h13_, h14_, h15_, h16_, h17_, h18_, h19_, h20_, h21_, h22_, h23_, h24_, h25_, h26_, h27_, h28_, h29_, h30_, h31_, h32_, h33_⟩
        have n0_ : Aside0 (w231.heap[gb247]? = some (.cells #[.int .i64 t243, .int .i64 t244, .string t245] 26 (0, 0))) := ⟨h0_⟩
        have n1_ : Aside0 (w231.heap[gb252]? = some (.cells #[.int .i64 t248, .int .i64 t249, .string t250] 26 (0, 0))) := ⟨h1_⟩
        have n2_ : Aside0 (w231.heap[gb257]? = some (.cells #[.int .i64 t253, .int .i64 t254, .string t255] 26 (0, 0))) := ⟨h2_⟩
        have n3_ : Aside0 (w231.heap[gb262]? = some (.cells #[.int .i64 t258, .int .i64 t259, .string t260] 26 (0, 0))) := ⟨h3_⟩
        have n4_ : Aside0 (w231.heap[gb267]? = some (.cells #[.int .i64 t263, .int .i64 t264, .string t265] 26 (0, 0))) := ⟨h4_⟩
        have n5_ : Aside0 (w231.heap[gb269]? = some (.cells #[.int .i64 0, .int .i64 0, .string (⟨#[]⟩ : ByteArray)] 26 (0, 0))) := ⟨h5_⟩
        have n6_ : Aside0 (w231.heap[gb270]? = some (.cells #[.int .i64 0, .int .i64 0, .string (⟨#[]⟩ : ByteArray)] 26 (0, 0))) := ⟨h6_⟩
        have n7_ : Aside0 (w.heap.size ≤ gb269) := ⟨h7_⟩
        have n8_ : Aside0 (w.heap.size ≤ gb269) := ⟨h8_⟩
        have n9_ : Aside0 (gb247 ≠ gb269) := ⟨h9_⟩
        have n10_ : Aside0 (gb269 ≠ gb247) := ⟨h10_⟩
        have n11_ : Aside0 (gb252 ≠ gb269) := ⟨h11_⟩
        have n12_ : Aside0 (gb269 ≠ gb252) := ⟨h12_⟩
        have n13_ : Aside0 (gb257 ≠ gb269) := ⟨h13_⟩
        have n14_ : Aside0 (gb269 ≠ gb257) := ⟨h14_⟩
        have n15_ : Aside0 (gb262 ≠ gb269) := ⟨h15_⟩
        have n16_ : Aside0 (gb269 ≠ gb262) := ⟨h16_⟩
        have n17_ : Aside0 (gb267 ≠ gb269) := ⟨h17_⟩
        have n18_ : Aside0 (gb269 ≠ gb267) := ⟨h18_⟩
        have n19_ : Aside0 (gb270 ≠ gb269) := ⟨h19_⟩
        have n20_ : Aside0 (gb269 ≠ gb270) := ⟨h20_⟩
        have n21_ : Aside0 (w.heap.size ≤ gb270) := ⟨h21_⟩
        have n22_ : Aside0 (w.heap.size ≤ gb270) := ⟨h22_⟩
        have n23_ : Aside0 (gb247 ≠ gb270) := ⟨h23_⟩
        have n24_ : Aside0 (gb270 ≠ gb247) := ⟨h24_⟩
        have n25_ : Aside0 (gb252 ≠ gb270) := ⟨h25_⟩
        have n26_ : Aside0 (gb270 ≠ gb252) := ⟨h26_⟩
        have n27_ : Aside0 (gb257 ≠ gb270) := ⟨h27_⟩
        have n28_ : Aside0 (gb270 ≠ gb257) := ⟨h28_⟩
        have n29_ : Aside0 (gb262 ≠ gb270) := ⟨h29_⟩
        have n30_ : Aside0 (gb270 ≠ gb262) := ⟨h30_⟩
        have n31_ : Aside0 (gb267 ≠ gb270) := ⟨h31_⟩
        have n32_ : Aside0 (gb270 ≠ gb267) := ⟨h32_⟩
        have n33_ : Aside0 (Below w.heap.size w w231) := ⟨h33_⟩
        clear BK247
        clear BK252
        clear BK257
        clear BK262
        clear BK267
        clear HB
        clear h0_ h1_ h2_ h3_ h4_ h5_ h6_ h7_ h8_ h9_ h10_ h11_ h12_ h13_ h14_ h15_ h16_ h17_ h18_ h19_ h20_ h21_ h22_ h23_ h24_ h25_ h26_ h27_ h28_ h29_ h30_ h31_ h32_ h33_
        have BK247 := n0_
        have BK252 := n1_
        have BK257 := n2_
        have BK262 := n3_
        have BK267 := n4_
        have BK269 := n5_
        have BK270 := n6_
        have GW269 := n7_
        have GE269 := n8_
        have NB247_269 := n9_
        have NB269_247 := n10_
        have NB252_269 := n11_
        have NB269_252 := n12_
        have NB257_269 := n13_
        have NB269_257 := n14_
        have NB262_269 := n15_
        have NB269_262 := n16_
        have NB267_269 := n17_
        have NB269_267 := n18_
        have NB270_269 := n19_
        have NB269_270 := n20_
        have GW270 := n21_
        have GE270 := n22_
        have NB247_270 := n23_
        have NB270_247 := n24_
        have NB252_270 := n25_
        have NB270_252 := n26_
        have NB257_270 := n27_
        have NB270_257 := n28_
        have NB262_270 := n29_
        have NB270_262 := n30_
        have NB267_270 := n31_
        have NB270_267 := n32_
        have HB := n33_
        clear n0_ n1_ n2_ n3_ n4_ n5_ n6_ n7_ n8_ n9_ n10_ n11_ n12_ n13_ n14_ n15_ n16_ n17_ n18_ n19_ n20_ n21_ n22_ n23_ n24_ n25_ n26_ n27_ n28_ n29_ n30_ n31_ n32_ n33_
        have hHeld := HB.out
        refine norm_ (a' := ?_) ?_ ?_
        rotate_left
        ·simp only [putAll, Act.put, List.setIfInBounds_toArray, List.set_cons_zero, List.set_cons_succ]
         rfl
        refine oneA 7 (some 17) (mkB 13 1023) (fun K hK => ?_)
        refine boxS 17 #[.int .i64 0, .int .i64 0, .string (⟨#[]⟩ : ByteArray)] 26 ?_
        intro gb268 hg w232 hbox hb
        have BK268 := Aside0.mk (hbox)
        have GW268 := Aside0.mk (hgW hg : w.heap.size ≤ gb268)
        have GE268 := Aside0.mk (hgW hg : w.heap.size ≤ gb268)
        have NB247_268 := Aside0.mk (hgL hg BK247 : gb247 ≠ gb268)
        have NB268_247 := Aside0.mk (hgG hg BK247 : gb268 ≠ gb247)
        have NB252_268 := Aside0.mk (hgL hg BK252 : gb252 ≠ gb268)
        have NB268_252 := Aside0.mk (hgG hg BK252 : gb268 ≠ gb252)
        have NB257_268 := Aside0.mk (hgL hg BK257 : gb257 ≠ gb268)
        have NB268_257 := Aside0.mk (hgG hg BK257 : gb268 ≠ gb257)
        have NB262_268 := Aside0.mk (hgL hg BK262 : gb262 ≠ gb268)
        have NB268_262 := Aside0.mk (hgG hg BK262 : gb268 ≠ gb262)
        have NB267_268 := Aside0.mk (hgL hg BK267 : gb267 ≠ gb268)
        have NB268_267 := Aside0.mk (hgG hg BK267 : gb268 ≠ gb267)
        have NB269_268 := Aside0.mk (hgL hg BK269 : gb269 ≠ gb268)
        have NB268_269 := Aside0.mk (hgG hg BK269 : gb268 ≠ gb269)
        have NB270_268 := Aside0.mk (hgL hg BK270 : gb270 ≠ gb268)
        have NB268_270 := Aside0.mk (hgG hg BK270 : gb268 ≠ gb270)
        replace BK247 := Aside0.mk (bkB BK247 hb)
        replace BK252 := Aside0.mk (bkB BK252 hb)
        replace BK257 := Aside0.mk (bkB BK257 hb)
        replace BK262 := Aside0.mk (bkB BK262 hb)
        replace BK267 := Aside0.mk (bkB BK267 hb)
        replace BK269 := Aside0.mk (bkB BK269 hb)
        replace BK270 := Aside0.mk (bkB BK270 hb)
        replace HB := Aside0.mk (below_step (bwA) hb)
        clear hb hbox hg
        refine hK.out _ _ HB.out (fun hHeld => ?_)
        clear hK K
        refine normA ?_
        exact norm_ (by first | (simp only [putAll, Act.put, List.setIfInBounds_toArray, List.set_cons_zero, List.set_cons_succ]; done) | (simp only [putAll, Act.put, List.setIfInBounds_toArray, List.set_cons_zero, List.set_cons_succ]; rfl)) (hJ7_8_9 (gb268, gb269, gb270) _ ⟨blkA, blkA, blkA, blkA, blkA, blkA, blkA, blkA, GW268.out, GE268.out, NB247_268.out, NB268_247.out, NB252_268.out, NB268_252.out, NB257_268.out, NB268_257.out, NB262_268.out, NB268_262.out, NB267_268.out, NB268_267.out, NB269_268.out, NB268_269.out, NB270_268.out, NB268_270.out, GW269.out, GE269.out, NB247_269.out, NB269_247.out, NB252_269.out, NB269_252.out, NB257_269.out, NB269_257.out, NB262_269.out, NB269_262.out, NB267_269.out, NB269_267.out, NB270_269.out, NB269_270.out, GW270.out, GE270.out, NB247_270.out, NB270_247.out, NB252_270.out, NB270_252.out, NB257_270.out, NB270_257.out, NB262_270.out, NB270_262.out, NB267_270.out, NB270_267.out, (bwA)⟩)
      ·skip
       rintro ⟨gb268, gb270⟩ w231 ⟨h0_, h1_, h2_, h3_, h4_, h5_, h6_, h7_, h8_, h9_, h10_, h11_, h12_, h13_, h14_, h15_, h16_, h17_, h18_, h19_, h20_, h21_, h22_, h23_, h24_, h25_, h26_, h27_, h28_, h29_, h30_, h31_, h32_, h33_⟩
       have n0_ : Aside0 (w231.heap[gb247]? = some (.cells #[.int .i64 t243, .int .i64 t244, .string t245] 26 (0, 0))) := ⟨h0_⟩
       have n1_ : Aside0 (w231.heap[gb252]? = some (.cells #[.int .i64 t248, .int .i64 t249, .string t250] 26 (0, 0))) := ⟨h1_⟩
       have n2_ : Aside0 (w231.heap[gb257]? = some (.cells #[.int .i64 t253, .int .i64 t254, .string t255] 26 (0, 0))) := ⟨h2_⟩
       have n3_ : Aside0 (w231.heap[gb262]? = some (.cells #[.int .i64 t258, .int .i64 t259, .string t260] 26 (0, 0))) := ⟨h3_⟩
       have n4_ : Aside0 (w231.heap[gb267]? = some (.cells #[.int .i64 t263, .int .i64 t264, .string t265] 26 (0, 0))) := ⟨h4_⟩
       have n5_ : Aside0 (w231.heap[gb268]? = some (.cells #[.int .i64 0, .int .i64 0, .string (⟨#[]⟩ : ByteArray)] 26 (0, 0))) := ⟨h5_⟩
       have n6_ : Aside0 (w231.heap[gb270]? = some (.cells #[.int .i64 0, .int .i64 0, .string (⟨#[]⟩ : ByteArray)] 26 (0, 0))) := ⟨h6_⟩
       have n7_ : Aside0 (w.heap.size ≤ gb268) := ⟨h7_⟩
       have n8_ : Aside0 (w.heap.size ≤ gb268) := ⟨h8_⟩
       have n9_ : Aside0 (gb247 ≠ gb268) := ⟨h9_⟩
       have n10_ : Aside0 (gb268 ≠ gb247) := ⟨h10_⟩
       have n11_ : Aside0 (gb252 ≠ gb268) := ⟨h11_⟩
       have n12_ : Aside0 (gb268 ≠ gb252) := ⟨h12_⟩
       have n13_ : Aside0 (gb257 ≠ gb268) := ⟨h13_⟩
       have n14_ : Aside0 (gb268 ≠ gb257) := ⟨h14_⟩
       have n15_ : Aside0 (gb262 ≠ gb268) := ⟨h15_⟩
       have n16_ : Aside0 (gb268 ≠ gb262) := ⟨h16_⟩
       have n17_ : Aside0 (gb267 ≠ gb268) := ⟨h17_⟩
       have n18_ : Aside0 (gb268 ≠ gb267) := ⟨h18_⟩
       have n19_ : Aside0 (gb270 ≠ gb268) := ⟨h19_⟩
       have n20_ : Aside0 (gb268 ≠ gb270) := ⟨h20_⟩
       have n21_ : Aside0 (w.heap.size ≤ gb270) := ⟨h21_⟩
       have n22_ : Aside0 (w.heap.size ≤ gb270) := ⟨h22_⟩
       have n23_ : Aside0 (gb247 ≠ gb270) := ⟨h23_⟩
       have n24_ : Aside0 (gb270 ≠ gb247) := ⟨h24_⟩
       have n25_ : Aside0 (gb252 ≠ gb270) := ⟨h25_⟩
       have n26_ : Aside0 (gb270 ≠ gb252) := ⟨h26_⟩
       have n27_ : Aside0 (gb257 ≠ gb270) := ⟨h27_⟩
       have n28_ : Aside0 (gb270 ≠ gb257) := ⟨h28_⟩
       have n29_ : Aside0 (gb262 ≠ gb270) := ⟨h29_⟩
       have n30_ : Aside0 (gb270 ≠ gb262) := ⟨h30_⟩
       have n31_ : Aside0 (gb267 ≠ gb270) := ⟨h31_⟩
       have n32_ : Aside0 (gb270 ≠ gb267) := ⟨h32_⟩
       have n33_ : Aside0 (Below w.heap.size w w231) := ⟨h33_⟩
       clear BK247
       clear BK252
       clear BK257
       clear BK262
       clear BK267
       clear HB
       clear h0_ h1_ h2_ h3_ h4_ h5_ h6_ h7_ h8_ h9_ h10_ h11_ h12_ h13_ h14_ h15_ h16_ h17_ h18_ h19_ h20_ h21_ h22_ h23_ h24_ h25_ h26_ h27_ h28_ h29_ h30_ h31_ h32_ h33_
       have BK247 := n0_
       have BK252 := n1_
       have BK257 := n2_
       have BK262 := n3_
       have BK267 := n4_
       have BK268 := n5_
       have BK270 := n6_
       have GW268 := n7_
       have GE268 := n8_
       have NB247_268 := n9_
       have NB268_247 := n10_
       have NB252_268 := n11_
       have NB268_252 := n12_
       have NB257_268 := n13_
       have NB268_257 := n14_
       have NB262_268 := n15_
       have NB268_262 := n16_
       have NB267_268 := n17_
       have NB268_267 := n18_
       have NB270_268 := n19_
       have NB268_270 := n20_
       have GW270 := n21_
       have GE270 := n22_
       have NB247_270 := n23_
       have NB270_247 := n24_
       have NB252_270 := n25_
       have NB270_252 := n26_
       have NB257_270 := n27_
       have NB270_257 := n28_
       have NB262_270 := n29_
       have NB270_262 := n30_
       have NB267_270 := n31_
       have NB270_267 := n32_
       have HB := n33_
       clear n0_ n1_ n2_ n3_ n4_ n5_ n6_ n7_ n8_ n9_ n10_ n11_ n12_ n13_ n14_ n15_ n16_ n17_ n18_ n19_ n20_ n21_ n22_ n23_ n24_ n25_ n26_ n27_ n28_ n29_ n30_ n31_ n32_ n33_
       have hHeld := HB.out
       refine norm_ (a' := ?_) ?_ ?_
       rotate_left
       ·simp only [putAll, Act.put, List.setIfInBounds_toArray, List.set_cons_zero, List.set_cons_succ]
        rfl
       refine oneA 8 (some 18) (mkB 13 1023) (fun K hK => ?_)
       refine boxS 18 #[.int .i64 0, .int .i64 0, .string (⟨#[]⟩ : ByteArray)] 26 ?_
       intro gb269 hg w232 hbox hb
       have BK269 := Aside0.mk (hbox)
       have GW269 := Aside0.mk (hgW hg : w.heap.size ≤ gb269)
       have GE269 := Aside0.mk (hgW hg : w.heap.size ≤ gb269)
       have NB247_269 := Aside0.mk (hgL hg BK247 : gb247 ≠ gb269)
       have NB269_247 := Aside0.mk (hgG hg BK247 : gb269 ≠ gb247)
       have NB252_269 := Aside0.mk (hgL hg BK252 : gb252 ≠ gb269)
       have NB269_252 := Aside0.mk (hgG hg BK252 : gb269 ≠ gb252)
       have NB257_269 := Aside0.mk (hgL hg BK257 : gb257 ≠ gb269)
       have NB269_257 := Aside0.mk (hgG hg BK257 : gb269 ≠ gb257)
       have NB262_269 := Aside0.mk (hgL hg BK262 : gb262 ≠ gb269)
       have NB269_262 := Aside0.mk (hgG hg BK262 : gb269 ≠ gb262)
       have NB267_269 := Aside0.mk (hgL hg BK267 : gb267 ≠ gb269)
       have NB269_267 := Aside0.mk (hgG hg BK267 : gb269 ≠ gb267)
       have NB268_269 := Aside0.mk (hgL hg BK268 : gb268 ≠ gb269)
       have NB269_268 := Aside0.mk (hgG hg BK268 : gb269 ≠ gb268)
       have NB270_269 := Aside0.mk (hgL hg BK270 : gb270 ≠ gb269)
       have NB269_270 := Aside0.mk (hgG hg BK270 : gb269 ≠ gb270)
       replace BK247 := Aside0.mk (bkB BK247 hb)
       replace BK252 := Aside0.mk (bkB BK252 hb)
       replace BK257 := Aside0.mk (bkB BK257 hb)
       replace BK262 := Aside0.mk (bkB BK262 hb)
       replace BK267 := Aside0.mk (bkB BK267 hb)
       replace BK268 := Aside0.mk (bkB BK268 hb)
       replace BK270 := Aside0.mk (bkB BK270 hb)
       replace HB := Aside0.mk (below_step (bwA) hb)
       clear hb hbox hg
       refine hK.out _ _ HB.out (fun hHeld => ?_)
       clear hK K
       refine normA ?_
       exact norm_ (by first | (simp only [putAll, Act.put, List.setIfInBounds_toArray, List.set_cons_zero, List.set_cons_succ]; done) | (simp only [putAll, Act.put, List.setIfInBounds_toArray, List.set_cons_zero, List.set_cons_succ]; rfl)) (hJ7_8_9 (gb268, gb269, gb270) _ ⟨blkA, blkA, blkA, blkA, blkA, blkA, blkA, blkA, GW268.out, GE268.out, NB247_268.out, NB268_247.out, NB252_268.out, NB268_252.out, NB257_268.out, NB268_257.out, NB262_268.out, NB268_262.out, NB267_268.out, NB268_267.out, NB269_268.out, NB268_269.out, NB270_268.out, NB268_270.out, GW269.out, GE269.out, NB247_269.out, NB269_247.out, NB252_269.out, NB269_252.out, NB257_269.out, NB269_257.out, NB262_269.out, NB269_262.out, NB267_269.out, NB269_267.out, NB270_269.out, NB269_270.out, GW270.out, GE270.out, NB247_270.out, NB270_247.out, NB252_270.out, NB270_252.out, NB257_270.out, NB270_257.out, NB262_270.out, NB270_262.out, NB267_270.out, NB270_267.out, (bwA)⟩)
     ·skip
      rintro ⟨gb268, gb269⟩ w231 ⟨h0_, h1_, h2_, h3_, h4_, h5_, h6_, h7_, h8_, h9_, h10_, h11_, h12_, h13_, h14_, h15_, h16_, h17_, h18_, h19_, h20_, h21_, h22_, h23_, h24_, h25_, h26_, h27_, h28_, h29_, h30_, h31_, h32_, h33_⟩
      have n0_ : Aside0 (w231.heap[gb247]? = some (.cells #[.int .i64 t243, .int .i64 t244, .string t245] 26 (0, 0))) := ⟨h0_⟩
      have n1_ : Aside0 (w231.heap[gb252]? = some (.cells #[.int .i64 t248, .int .i64 t249, .string t250] 26 (0, 0))) := ⟨h1_⟩
      have n2_ : Aside0 (w231.heap[gb257]? = some (.cells #[.int .i64 t253, .int .i64 t254, .string t255] 26 (0, 0))) := ⟨h2_⟩
      have n3_ : Aside0 (w231.heap[gb262]? = some (.cells #[.int .i64 t258, .int .i64 t259, .string t260] 26 (0, 0))) := ⟨h3_⟩
      have n4_ : Aside0 (w231.heap[gb267]? = some (.cells #[.int .i64 t263, .int .i64 t264, .string t265] 26 (0, 0))) := ⟨h4_⟩
      have n5_ : Aside0 (w231.heap[gb268]? = some (.cells #[.int .i64 0, .int .i64 0, .string (⟨#[]⟩ : ByteArray)] 26 (0, 0))) := ⟨h5_⟩
      have n6_ : Aside0 (w231.heap[gb269]? = some (.cells #[.int .i64 0, .int .i64 0, .string (⟨#[]⟩ : ByteArray)] 26 (0, 0))) := ⟨h6_⟩
      have n7_ : Aside0 (w.heap.size ≤ gb268) := ⟨h7_⟩
      have n8_ : Aside0 (w.heap.size ≤ gb268) := ⟨h8_⟩
      have n9_ : Aside0 (gb247 ≠ gb268) := ⟨h9_⟩
      have n10_ : Aside0 (gb268 ≠ gb247) := ⟨h10_⟩
      have n11_ : Aside0 (gb252 ≠ gb268) := ⟨h11_⟩
      have n12_ : Aside0 (gb268 ≠ gb252) := ⟨h12_⟩
      have n13_ : Aside0 (gb257 ≠ gb268) := ⟨h13_⟩
      have n14_ : Aside0 (gb268 ≠ gb257) := ⟨h14_⟩
      have n15_ : Aside0 (gb262 ≠ gb268) := ⟨h15_⟩
      have n16_ : Aside0 (gb268 ≠ gb262) := ⟨h16_⟩
      have n17_ : Aside0 (gb267 ≠ gb268) := ⟨h17_⟩
      have n18_ : Aside0 (gb268 ≠ gb267) := ⟨h18_⟩
      have n19_ : Aside0 (gb269 ≠ gb268) := ⟨h19_⟩
      have n20_ : Aside0 (gb268 ≠ gb269) := ⟨h20_⟩
      have n21_ : Aside0 (w.heap.size ≤ gb269) := ⟨h21_⟩
      have n22_ : Aside0 (w.heap.size ≤ gb269) := ⟨h22_⟩
      have n23_ : Aside0 (gb247 ≠ gb269) := ⟨h23_⟩
      have n24_ : Aside0 (gb269 ≠ gb247) := ⟨h24_⟩
      have n25_ : Aside0 (gb252 ≠ gb269) := ⟨h25_⟩
      have n26_ : Aside0 (gb269 ≠ gb252) := ⟨h26_⟩
      have n27_ : Aside0 (gb257 ≠ gb269) := ⟨h27_⟩
      have n28_ : Aside0 (gb269 ≠ gb257) := ⟨h28_⟩
      have n29_ : Aside0 (gb262 ≠ gb269) := ⟨h29_⟩
      have n30_ : Aside0 (gb269 ≠ gb262) := ⟨h30_⟩
      have n31_ : Aside0 (gb267 ≠ gb269) := ⟨h31_⟩
      have n32_ : Aside0 (gb269 ≠ gb267) := ⟨h32_⟩
      have n33_ : Aside0 (Below w.heap.size w w231) := ⟨h33_⟩
      clear BK247
      clear BK252
      clear BK257
      clear BK262
      clear BK267
      clear HB
      clear h0_ h1_ h2_ h3_ h4_ h5_ h6_ h7_ h8_ h9_ h10_ h11_ h12_ h13_ h14_ h15_ h16_ h17_ h18_ h19_ h20_ h21_ h22_ h23_ h24_ h25_ h26_ h27_ h28_ h29_ h30_ h31_ h32_ h33_
      have BK247 := n0_
      have BK252 := n1_
      have BK257 := n2_
      have BK262 := n3_
      have BK267 := n4_
      have BK268 := n5_
      have BK269 := n6_
      have GW268 := n7_
      have GE268 := n8_
      have NB247_268 := n9_
      have NB268_247 := n10_
      have NB252_268 := n11_
      have NB268_252 := n12_
      have NB257_268 := n13_
      have NB268_257 := n14_
      have NB262_268 := n15_
      have NB268_262 := n16_
      have NB267_268 := n17_
      have NB268_267 := n18_
      have NB269_268 := n19_
      have NB268_269 := n20_
      have GW269 := n21_
      have GE269 := n22_
      have NB247_269 := n23_
      have NB269_247 := n24_
      have NB252_269 := n25_
      have NB269_252 := n26_
      have NB257_269 := n27_
      have NB269_257 := n28_
      have NB262_269 := n29_
      have NB269_262 := n30_
      have NB267_269 := n31_
      have NB269_267 := n32_
      have HB := n33_
      clear n0_ n1_ n2_ n3_ n4_ n5_ n6_ n7_ n8_ n9_ n10_ n11_ n12_ n13_ n14_ n15_ n16_ n17_ n18_ n19_ n20_ n21_ n22_ n23_ n24_ n25_ n26_ n27_ n28_ n29_ n30_ n31_ n32_ n33_
      have hHeld := HB.out
      refine norm_ (a' := ?_) ?_ ?_
      rotate_left
      ·simp only [putAll, Act.put, List.setIfInBounds_toArray, List.set_cons_zero, List.set_cons_succ]
       rfl
      refine oneA 9 (some 19) (mkB 13 1023) (fun K hK => ?_)
      refine boxS 19 #[.int .i64 0, .int .i64 0, .string (⟨#[]⟩ : ByteArray)] 26 ?_
      intro gb270 hg w232 hbox hb
      have BK270 := Aside0.mk (hbox)
      have GW270 := Aside0.mk (hgW hg : w.heap.size ≤ gb270)
      have GE270 := Aside0.mk (hgW hg : w.heap.size ≤ gb270)
      have NB247_270 := Aside0.mk (hgL hg BK247 : gb247 ≠ gb270)
      have NB270_247 := Aside0.mk (hgG hg BK247 : gb270 ≠ gb247)
      have NB252_270 := Aside0.mk (hgL hg BK252 : gb252 ≠ gb270)
      have NB270_252 := Aside0.mk (hgG hg BK252 : gb270 ≠ gb252)
      have NB257_270 := Aside0.mk (hgL hg BK257 : gb257 ≠ gb270)
      have NB270_257 := Aside0.mk (hgG hg BK257 : gb270 ≠ gb257)
      have NB262_270 := Aside0.mk (hgL hg BK262 : gb262 ≠ gb270)
      have NB270_262 := Aside0.mk (hgG hg BK262 : gb270 ≠ gb262)
      have NB267_270 := Aside0.mk (hgL hg BK267 : gb267 ≠ gb270)
      have NB270_267 := Aside0.mk (hgG hg BK267 : gb270 ≠ gb267)
      have NB268_270 := Aside0.mk (hgL hg BK268 : gb268 ≠ gb270)
      have NB270_268 := Aside0.mk (hgG hg BK268 : gb270 ≠ gb268)
      have NB269_270 := Aside0.mk (hgL hg BK269 : gb269 ≠ gb270)
      have NB270_269 := Aside0.mk (hgG hg BK269 : gb270 ≠ gb269)
      replace BK247 := Aside0.mk (bkB BK247 hb)
      replace BK252 := Aside0.mk (bkB BK252 hb)
      replace BK257 := Aside0.mk (bkB BK257 hb)
      replace BK262 := Aside0.mk (bkB BK262 hb)
      replace BK267 := Aside0.mk (bkB BK267 hb)
      replace BK268 := Aside0.mk (bkB BK268 hb)
      replace BK269 := Aside0.mk (bkB BK269 hb)
      replace HB := Aside0.mk (below_step (bwA) hb)
      clear hb hbox hg
      refine hK.out _ _ HB.out (fun hHeld => ?_)
      clear hK K
      refine normA ?_
      exact norm_ (by first | (simp only [putAll, Act.put, List.setIfInBounds_toArray, List.set_cons_zero, List.set_cons_succ]; done) | (simp only [putAll, Act.put, List.setIfInBounds_toArray, List.set_cons_zero, List.set_cons_succ]; rfl)) (hJ7_8_9 (gb268, gb269, gb270) _ ⟨blkA, blkA, blkA, blkA, blkA, blkA, blkA, blkA, GW268.out, GE268.out, NB247_268.out, NB268_247.out, NB252_268.out, NB268_252.out, NB257_268.out, NB268_257.out, NB262_268.out, NB268_262.out, NB267_268.out, NB268_267.out, NB269_268.out, NB268_269.out, NB270_268.out, NB268_270.out, GW269.out, GE269.out, NB247_269.out, NB269_247.out, NB252_269.out, NB269_252.out, NB257_269.out, NB269_257.out, NB262_269.out, NB269_262.out, NB267_269.out, NB269_267.out, NB270_269.out, NB269_270.out, GW270.out, GE270.out, NB247_270.out, NB270_247.out, NB252_270.out, NB270_252.out, NB257_270.out, NB270_257.out, NB262_270.out, NB270_262.out, NB267_270.out, NB270_267.out, (bwA)⟩)
    rintro ⟨gb268, gb269, gb270⟩ w232 ⟨h0_, h1_, h2_, h3_, h4_, h5_, h6_, h7_, h8_, h9_, h10_, h11_, h12_, h13_, h14_, h15_, h16_, h17_, h18_, h19_, h20_, h21_, h22_, h23_, h24_, h25_, h26_, h27_, h28_, h29_, h30_, h31_, h32_, h33_, h34_, h35_, h36_, h37_, h38_, h39_, h40_, h41_, h42_, h43_, h44_, h45_, h46_, h47_, h48_, h49_, h50_⟩
    have n0_ : Aside0 (w232.heap[gb247]? = some (.cells #[.int .i64 t243, .int .i64 t244, .string t245] 26 (0, 0))) := ⟨h0_⟩
    have n1_ : Aside0 (w232.heap[gb252]? = some (.cells #[.int .i64 t248, .int .i64 t249, .string t250] 26 (0, 0))) := ⟨h1_⟩
    have n2_ : Aside0 (w232.heap[gb257]? = some (.cells #[.int .i64 t253, .int .i64 t254, .string t255] 26 (0, 0))) := ⟨h2_⟩
    have n3_ : Aside0 (w232.heap[gb262]? = some (.cells #[.int .i64 t258, .int .i64 t259, .string t260] 26 (0, 0))) := ⟨h3_⟩
    have n4_ : Aside0 (w232.heap[gb267]? = some (.cells #[.int .i64 t263, .int .i64 t264, .string t265] 26 (0, 0))) := ⟨h4_⟩
    have n5_ : Aside0 (w232.heap[gb268]? = some (.cells #[.int .i64 0, .int .i64 0, .string (⟨#[]⟩ : ByteArray)] 26 (0, 0))) := ⟨h5_⟩
    have n6_ : Aside0 (w232.heap[gb269]? = some (.cells #[.int .i64 0, .int .i64 0, .string (⟨#[]⟩ : ByteArray)] 26 (0, 0))) := ⟨h6_⟩
    have n7_ : Aside0 (w232.heap[gb270]? = some (.cells #[.int .i64 0, .int .i64 0, .string (⟨#[]⟩ : ByteArray)] 26 (0, 0))) := ⟨h7_⟩
    have n8_ : Aside0 (w.heap.size ≤ gb268) := ⟨h8_⟩
    have n9_ : Aside0 (w.heap.size ≤ gb268) := ⟨h9_⟩
    have n10_ : Aside0 (gb247 ≠ gb268) := ⟨h10_⟩
    have n11_ : Aside0 (gb268 ≠ gb247) := ⟨h11_⟩
    have n12_ : Aside0 (gb252 ≠ gb268) := ⟨h12_⟩
    have n13_ : Aside0 (gb268 ≠ gb252) := ⟨h13_⟩
    have n14_ : Aside0 (gb257 ≠ gb268) := ⟨h14_⟩
    have n15_ : Aside0 (gb268 ≠ gb257) := ⟨h15_⟩
    have n16_ : Aside0 (gb262 ≠ gb268) := ⟨h16_⟩
    have n17_ : Aside0 (gb268 ≠ gb262) := ⟨h17_⟩
    have n18_ : Aside0 (gb267 ≠ gb268) := ⟨h18_⟩
    have n19_ : Aside0 (gb268 ≠ gb267) := ⟨h19_⟩
    have n20_ : Aside0 (gb269 ≠ gb268) := ⟨h20_⟩
    have n21_ : Aside0 (gb268 ≠ gb269) := ⟨h21_⟩
    have n22_ : Aside0 (gb270 ≠ gb268) := ⟨h22_⟩
    have n23_ : Aside0 (gb268 ≠ gb270) := ⟨h23_⟩
    have n24_ : Aside0 (w.heap.size ≤ gb269) := ⟨h24_⟩
    have n25_ : Aside0 (w.heap.size ≤ gb269) := ⟨h25_⟩
    have n26_ : Aside0 (gb247 ≠ gb269) := ⟨h26_⟩
    have n27_ : Aside0 (gb269 ≠ gb247) := ⟨h27_⟩
    have n28_ : Aside0 (gb252 ≠ gb269) := ⟨h28_⟩
    have n29_ : Aside0 (gb269 ≠ gb252) := ⟨h29_⟩
    have n30_ : Aside0 (gb257 ≠ gb269) := ⟨h30_⟩
    have n31_ : Aside0 (gb269 ≠ gb257) := ⟨h31_⟩
    have n32_ : Aside0 (gb262 ≠ gb269) := ⟨h32_⟩
    have n33_ : Aside0 (gb269 ≠ gb262) := ⟨h33_⟩
    have n34_ : Aside0 (gb267 ≠ gb269) := ⟨h34_⟩
    have n35_ : Aside0 (gb269 ≠ gb267) := ⟨h35_⟩
    have n36_ : Aside0 (gb270 ≠ gb269) := ⟨h36_⟩
    have n37_ : Aside0 (gb269 ≠ gb270) := ⟨h37_⟩
    have n38_ : Aside0 (w.heap.size ≤ gb270) := ⟨h38_⟩
    have n39_ : Aside0 (w.heap.size ≤ gb270) := ⟨h39_⟩
    have n40_ : Aside0 (gb247 ≠ gb270) := ⟨h40_⟩
    have n41_ : Aside0 (gb270 ≠ gb247) := ⟨h41_⟩
    have n42_ : Aside0 (gb252 ≠ gb270) := ⟨h42_⟩
    have n43_ : Aside0 (gb270 ≠ gb252) := ⟨h43_⟩
    have n44_ : Aside0 (gb257 ≠ gb270) := ⟨h44_⟩
    have n45_ : Aside0 (gb270 ≠ gb257) := ⟨h45_⟩
    have n46_ : Aside0 (gb262 ≠ gb270) := ⟨h46_⟩
    have n47_ : Aside0 (gb270 ≠ gb262) := ⟨h47_⟩
    have n48_ : Aside0 (gb267 ≠ gb270) := ⟨h48_⟩
    have n49_ : Aside0 (gb270 ≠ gb267) := ⟨h49_⟩
    have n50_ : Aside0 (Below w.heap.size w w232) := ⟨h50_⟩
    clear BK247
    clear BK252
    clear BK257
    clear BK262
    clear BK267
    clear HB
    clear h0_ h1_ h2_ h3_ h4_ h5_ h6_ h7_ h8_ h9_ h10_ h11_ h12_ h13_ h14_ h15_ h16_ h17_ h18_ h19_ h20_ h21_ h22_ h23_ h24_ h25_ h26_ h27_ h28_ h29_ h30_ h31_ h32_ h33_ h34_ h35_ h36_ h37_ h38_ h39_ h40_ h41_ h42_ h43_ h44_ h45_ h46_ h47_ h48_ h49_ h50_
    have BK247 := n0_
    have BK252 := n1_
    have BK257 := n2_
    have BK262 := n3_
    have BK267 := n4_
    have BK268 := n5_
    have BK269 := n6_
    have BK270 := n7_
    have GW268 := n8_
    have GE268 := n9_
    have NB247_268 := n10_
    have NB268_247 := n11_
    have NB252_268 := n12_
    have NB268_252 := n13_
    have NB257_268 := n14_
    have NB268_257 := n15_
    have NB262_268 := n16_
    have NB268_262 := n17_
    have NB267_268 := n18_
    have NB268_267 := n19_
    have NB269_268 := n20_
    have NB268_269 := n21_
    have NB270_268 := n22_
    have NB268_270 := n23_
    have GW269 := n24_
    have GE269 := n25_
    have NB247_269 := n26_
    have NB269_247 := n27_
    have NB252_269 := n28_
    have NB269_252 := n29_
    have NB257_269 := n30_
    have NB269_257 := n31_
    have NB262_269 := n32_
    have NB269_262 := n33_
    have NB267_269 := n34_
    have NB269_267 := n35_
    have NB270_269 := n36_
    have NB269_270 := n37_
    have GW270 := n38_
    have GE270 := n39_
    have NB247_270 := n40_
    have NB270_247 := n41_
    have NB252_270 := n42_
    have NB270_252 := n43_
    have NB257_270 := n44_
    have NB270_257 := n45_
    have NB262_270 := n46_
    have NB270_262 := n47_
    have NB267_270 := n48_
    have NB270_267 := n49_
    have HB := n50_
    clear n0_ n1_ n2_ n3_ n4_ n5_ n6_ n7_ n8_ n9_ n10_ n11_ n12_ n13_ n14_ n15_ n16_ n17_ n18_ n19_ n20_ n21_ n22_ n23_ n24_ n25_ n26_ n27_ n28_ n29_ n30_ n31_ n32_ n33_ n34_ n35_ n36_ n37_ n38_ n39_ n40_ n41_ n42_ n43_ n44_ n45_ n46_ n47_ n48_ n49_ n50_
    have hHeld := HB.out
    refine norm_ (a' := ?_) ?_ ?_
    rotate_left
    ·simp only [putAll, Act.put, List.setIfInBounds_toArray, List.set_cons_zero, List.set_cons_succ]
     rfl
    refine oneA 10 (none) (mkB 13 2047) (fun K hK => ?_)
    have hs233 : w232.cell? ⟨gb268, 0, none⟩ = some (.int .i64 0) := (blk_cell BK268.out 0).trans rfl
    have hfs233 := blk_frozen BK268.out 0
    have hns233_0 := NB247_268.out
    have hns233_1 := NB252_268.out
    have hns233_2 := NB257_268.out
    have hns233_3 := NB262_268.out
    have hns233_4 := NB267_268.out
    have hns233_6 := NB269_268.out
    have hns233_7 := NB270_268.out
    have hms233_0 := NB268_247.out
    have hms233_1 := NB268_252.out
    have hms233_2 := NB268_257.out
    have hms233_3 := NB268_262.out
    have hms233_4 := NB268_267.out
    have hms233_6 := NB268_269.out
    have hms233_7 := NB268_270.out
    have hs234 : w232.cell? ⟨gb268, 1, none⟩ = some (.int .i64 0) := (blk_cell BK268.out 1).trans rfl
    have hfs234 := blk_frozen BK268.out 1
    have hns234_0 := NB247_268.out
    have hns234_1 := NB252_268.out
    have hns234_2 := NB257_268.out
    have hns234_3 := NB262_268.out
    have hns234_4 := NB267_268.out
    have hns234_6 := NB269_268.out
    have hns234_7 := NB270_268.out
    have hms234_0 := NB268_247.out
    have hms234_1 := NB268_252.out
    have hms234_2 := NB268_257.out
    have hms234_3 := NB268_262.out
    have hms234_4 := NB268_267.out
    have hms234_6 := NB268_269.out
    have hms234_7 := NB268_270.out
    have hs235 : w232.cell? ⟨gb268, 2, none⟩ = some (.string (⟨#[]⟩ : ByteArray)) := (blk_cell BK268.out 2).trans rfl
    have hfs235 := blk_frozen BK268.out 2
    have hns235_0 := NB247_268.out
    have hns235_1 := NB252_268.out
    have hns235_2 := NB257_268.out
    have hns235_3 := NB262_268.out
    have hns235_4 := NB267_268.out
    have hns235_6 := NB269_268.out
    have hns235_7 := NB270_268.out
    have hms235_0 := NB268_247.out
    have hms235_1 := NB268_252.out
    have hms235_2 := NB268_257.out
    have hms235_3 := NB268_262.out
    have hms235_4 := NB268_267.out
    have hms235_6 := NB268_269.out
    have hms235_7 := NB268_270.out
    refine skip_ (w1 := ?_) (by rfl) rfl ?_ ?_
    rotate_left
    ·go_simp
     rfl
    refine hK.out _ _ (bwA) (fun hHeld => ?_)
    clear hK K
    refine oneA 11 (none) (mkB 13 4095) (fun K hK => ?_)
    have hs236 : w232.cell? ⟨gb269, 0, none⟩ = some (.int .i64 0) := (blk_cell BK269.out 0).trans rfl
    have hfs236 := blk_frozen BK269.out 0
    have hns236_0 := NB247_269.out
    have hns236_1 := NB252_269.out
    have hns236_2 := NB257_269.out
    have hns236_3 := NB262_269.out
    have hns236_4 := NB267_269.out
    have hns236_5 := NB268_269.out
    have hns236_7 := NB270_269.out
    have hms236_0 := NB269_247.out
    have hms236_1 := NB269_252.out
    have hms236_2 := NB269_257.out
    have hms236_3 := NB269_262.out
    have hms236_4 := NB269_267.out
    have hms236_5 := NB269_268.out
    have hms236_7 := NB269_270.out
    have hs237 : w232.cell? ⟨gb269, 1, none⟩ = some (.int .i64 0) := (blk_cell BK269.out 1).trans rfl
    have hfs237 := blk_frozen BK269.out 1
    have hns237_0 := NB247_269.out
    have hns237_1 := NB252_269.out
    have hns237_2 := NB257_269.out
    have hns237_3 := NB262_269.out
    have hns237_4 := NB267_269.out
    have hns237_5 := NB268_269.out
    have hns237_7 := NB270_269.out
    have hms237_0 := NB269_247.out
    have hms237_1 := NB269_252.out
    have hms237_2 := NB269_257.out
    have hms237_3 := NB269_262.out
    have hms237_4 := NB269_267.out
    have hms237_5 := NB269_268.out
    have hms237_7 := NB269_270.out
    have hs238 : w232.cell? ⟨gb269, 2, none⟩ = some (.string (⟨#[]⟩ : ByteArray)) := (blk_cell BK269.out 2).trans rfl
    have hfs238 := blk_frozen BK269.out 2
    have hns238_0 := NB247_269.out
    have hns238_1 := NB252_269.out
    have hns238_2 := NB257_269.out
    have hns238_3 := NB262_269.out
    have hns238_4 := NB267_269.out
    have hns238_5 := NB268_269.out
    have hns238_7 := NB270_269.out
    have hms238_0 := NB269_247.out
    have hms238_1 := NB269_252.out
    have hms238_2 := NB269_257.out
    have hms238_3 := NB269_262.out
    have hms238_4 := NB269_267.out
    have hms238_5 := NB269_268.out
    have hms238_7 := NB269_270.out
    refine skip_ (w1 := ?_) (by rfl) rfl ?_ ?_
    rotate_left
    ·go_simp
     rfl
    refine hK.out _ _ (bwA) (fun hHeld => ?_)
    clear hK K
    refine oneA 12 (none) (mkB 13 8191) (fun K hK => ?_)
    have hs239 : w232.cell? ⟨gb270, 0, none⟩ = some (.int .i64 0) := (blk_cell BK270.out 0).trans rfl
    have hfs239 := blk_frozen BK270.out 0
    have hns239_0 := NB247_270.out
    have hns239_1 := NB252_270.out
    have hns239_2 := NB257_270.out
    have hns239_3 := NB262_270.out
    have hns239_4 := NB267_270.out
    have hns239_5 := NB268_270.out
    have hns239_6 := NB269_270.out
    have hms239_0 := NB270_247.out
    have hms239_1 := NB270_252.out
    have hms239_2 := NB270_257.out
    have hms239_3 := NB270_262.out
    have hms239_4 := NB270_267.out
    have hms239_5 := NB270_268.out
    have hms239_6 := NB270_269.out
    have hs240 : w232.cell? ⟨gb270, 1, none⟩ = some (.int .i64 0) := (blk_cell BK270.out 1).trans rfl
    have hfs240 := blk_frozen BK270.out 1
    have hns240_0 := NB247_270.out
    have hns240_1 := NB252_270.out
    have hns240_2 := NB257_270.out
    have hns240_3 := NB262_270.out
    have hns240_4 := NB267_270.out
    have hns240_5 := NB268_270.out
    have hns240_6 := NB269_270.out
    have hms240_0 := NB270_247.out
    have hms240_1 := NB270_252.out
    have hms240_2 := NB270_257.out
    have hms240_3 := NB270_262.out
    have hms240_4 := NB270_267.out
    have hms240_5 := NB270_268.out
    have hms240_6 := NB270_269.out
    have hs241 : w232.cell? ⟨gb270, 2, none⟩ = some (.string (⟨#[]⟩ : ByteArray)) := (blk_cell BK270.out 2).trans rfl
    have hfs241 := blk_frozen BK270.out 2
    have hns241_0 := NB247_270.out
    have hns241_1 := NB252_270.out
    have hns241_2 := NB257_270.out
    have hns241_3 := NB262_270.out
    have hns241_4 := NB267_270.out
    have hns241_5 := NB268_270.out
    have hns241_6 := NB269_270.out
    have hms241_0 := NB270_247.out
    have hms241_1 := NB270_252.out
    have hms241_2 := NB270_257.out
    have hms241_3 := NB270_262.out
    have hms241_4 := NB270_267.out
    have hms241_5 := NB270_268.out
    have hms241_6 := NB270_269.out
    refine skip_ (w1 := ?_) (by rfl) rfl ?_ ?_
    rotate_left
    ·go_simp
     rfl
    refine hK.out _ _ (bwA) (fun hHeld => ?_)
    clear hK K
    refine done_ (done_of HT_.out (by kernel_rfl)) ?_
    go_upto_region 9 with (fail)
    go_cut [84] (fun v84 wc => ∃ (kq : Nat) (x84_200 : Bool), v84 = .bool x84_200 ∧ Aside0 (caduceuslaw03_ValueFrom.j1 kq t246 t251 t256 x84_200 t243 t244 t245 t248 t249 t250 t253 t254 t255 1 a0 (⟨#[]⟩ : ByteArray) 2 0 a1 4 0 (strOfNums l2) = some r) ∧ Aside0 (kq ≤ kj100) ∧ Aside0 (wc.heap[gb247]? = some (.cells #[.int .i64 t243, .int .i64 t244, .string t245] 26 (0, 0))) ∧ Aside0 (wc.heap[gb252]? = some (.cells #[.int .i64 t248, .int .i64 t249, .string t250] 26 (0, 0))) ∧ Aside0 (wc.heap[gb257]? = some (.cells #[.int .i64 t253, .int .i64 t254, .string t255] 26 (0, 0))) ∧ Aside0 (wc.heap[gb262]? = some (.cells #[.int .i64 t258, .int .i64 t259, .string t260] 26 (0, 0))) ∧ Aside0 (wc.heap[gb267]? = some (.cells #[.int .i64 t263, .int .i64 t264, .string t265] 26 (0, 0))) ∧ Aside0 (wc.heap[gb268]? = some (.cells #[.int .i64 1, .int .i64 a0, .string (⟨#[]⟩ : ByteArray)] 26 (0, 0))) ∧ Aside0 (wc.heap[gb269]? = some (.cells #[.int .i64 2, .int .i64 0, .string a1] 26 (0, 0))) ∧ Aside0 (wc.heap[gb270]? = some (.cells #[.int .i64 4, .int .i64 0, .string (strOfNums l2)] 26 (0, 0))) ∧ Aside0 (Below w.heap.size w wc))
    case first =>
     have H := HC201.out
     clear HC201
     revert H; refine itQ ?L16p ?L16n
     case' L16p =>
      rintro ⟨c242b0, c242b1⟩ H
      (first | rw [c242b0] | (simp only [i64_w, i32_w]; rw [c242b0]) | skip)
      revert H; refine itQ ?L17p ?L17n
      case' L17p =>
       rintro ⟨c243b0, c243b1⟩ H
       revert H; refine itQ ?L18p ?L18n
       case' L18p =>
        rintro ⟨c244b0, c244b1⟩ H
        have H' := Aside0.mk H
        clear H
        have M12 := True.intro
        have M13 := True.intro
       case' L18n =>
        rintro ⟨c244b0, c244b1⟩ c244 H
        have H' := Aside0.mk H
        clear H
        have M12 := True.intro
        have M14 := True.intro
      case' L17n =>
       rintro ⟨c243b0, c243b1⟩ c243 H
       have H' := Aside0.mk H
       clear H
       have M15 := True.intro
     case' L16n =>
      rintro ⟨c242b0, c242b1⟩ c242 H
      (first | rw [c242b0] | (simp only [i64_w, i32_w]; rw [c242b0]) | skip)
      have H' := Aside0.mk H
      clear H
      have M15 := True.intro
     all_goals
      case _ =>
       first
        | clear M12
          have hnb301 := NB262_247.out
          have hnc301 := NB247_262.out
          have hnb302 := NB262_252.out
          have hnc302 := NB252_262.out
          have hnb303 := NB262_257.out
          have hnc303 := NB257_262.out
          have hnb304 := NB262_267.out
          have hnc304 := NB267_262.out
          have hnb305 := NB262_268.out
          have hnc305 := NB268_262.out
          have hnb306 := NB262_269.out
          have hnc306 := NB269_262.out
          have hnb307 := NB262_270.out
          have hnc307 := NB270_262.out
          obtain ⟨hcz308_0, hcz308_1, hcz308_2⟩ := cel3 BK262.out
          obtain ⟨hfz308_0, hfz308_1, hfz308_2⟩ := frz3 BK262.out
          go_wp2
          go_meet
          first
           | clear M13
             case rel => exact ⟨_, (((t259 == 1) != (decide (a0 > 0)))), (endS), H', ⟨by have := HJ100.out; first | omega | exact Nat.le_refl _⟩, ⟨blkZ⟩, ⟨blkZ⟩, ⟨blkZ⟩, ⟨blkZ⟩, ⟨blkZ⟩, ⟨blkZ⟩, ⟨blkZ⟩, ⟨blkZ⟩, ⟨bwA⟩⟩
           | clear M14
             case rel => exact ⟨_, (true), (endS), H', ⟨by have := HJ100.out; first | omega | exact Nat.le_refl _⟩, ⟨blkZ⟩, ⟨blkZ⟩, ⟨blkZ⟩, ⟨blkZ⟩, ⟨blkZ⟩, ⟨blkZ⟩, ⟨blkZ⟩, ⟨blkZ⟩, ⟨bwA⟩⟩
        | clear M15
          go_wp2
          go_meet
          case rel => exact ⟨_, (true), (endS), H', ⟨by have := HJ100.out; first | omega | exact Nat.le_refl _⟩, ⟨blkZ⟩, ⟨blkZ⟩, ⟨blkZ⟩, ⟨blkZ⟩, ⟨blkZ⟩, ⟨blkZ⟩, ⟨blkZ⟩, ⟨blkZ⟩, ⟨bwA⟩⟩
    case rest =>
     clear HC201
     try clear c2
     try clear p2
     try clear c3
     try clear c24
     try clear c30
     try clear hcz308_0
     try clear hcz308_1
     try clear hcz308_2
     try clear hfz308_0
     try clear hfz308_1
     try clear hfz308_2
     obtain ⟨kq, x84_200, rfl, HA, HJ200, BK247, BK252, BK257, BK262, BK267, BK268, BK269, BK270, HB⟩ := hcut
     cases kq with
     | zero => exact absurd HA.out (by simp [caduceuslaw03_ValueFrom.j1])
     | succ kj200 =>
      have H := HA.out
      clear HA
      simp only [caduceuslaw03_ValueFrom.j1] at H
      replace H := itM H
      obtain ⟨c242, H⟩ := H
      replace c242 := Bool.eq_false_iff.mpr c242
      subst c242
      replace H := bnA H
      obtain ⟨t271, A243, H⟩ := H
      replace H := itN H
      obtain ⟨c244, H⟩ := H
      subst c244
      replace H := bnA H
      obtain ⟨t272, A245, H⟩ := H
      replace H := itN H
      obtain ⟨c246, H⟩ := H
      subst c246
      replace H := bnA H
      obtain ⟨t273, A247, H⟩ := H
      replace H := itN H
      obtain ⟨c248, H⟩ := H
      subst c248
      replace H := bnA H
      obtain ⟨t274, A249, H⟩ := H
      obtain rfl := Option.some.inj H
      try go_wp2_with (first | ((with_reducible refine gate_callee (f := 6) rfl ?_); refine goesA (some 85) Tryd.func6 #[] ?_; (with_reducible refine (caduceuslaw03_awake.calls _ _ _ ?side1 A243.out).mono ?_); (case side1 => exact Tabs.below HT.out (bwA)); rintro e w301 ⟨rfl, hb⟩; refine ⟨_, rfl, ?_⟩; replace BK247 := Aside0.mk (bkB BK247 hb); replace BK252 := Aside0.mk (bkB BK252 hb); replace BK257 := Aside0.mk (bkB BK257 hb); replace BK262 := Aside0.mk (bkB BK262 hb); replace BK267 := Aside0.mk (bkB BK267 hb); replace BK268 := Aside0.mk (bkB BK268 hb); replace BK269 := Aside0.mk (bkB BK269 hb); replace BK270 := Aside0.mk (bkB BK270 hb); replace HB := Aside0.mk (below_step (bwA) hb); (try clear hb); have hnb302 := NB247_252.out; have hnc302 := NB252_247.out; have hnb303 := NB247_257.out; have hnc303 := NB257_247.out; have hnb304 := NB247_262.out; have hnc304 := NB262_247.out; have hnb305 := NB247_267.out; have hnc305 := NB267_247.out; have hnb306 := NB247_268.out; have hnc306 := NB268_247.out; have hnb307 := NB247_269.out; have hnc307 := NB269_247.out; have hnb308 := NB247_270.out; have hnc308 := NB270_247.out; obtain ⟨hcz309_0, hcz309_1, hcz309_2⟩ := cel3 BK247.out; obtain ⟨hfz309_0, hfz309_1, hfz309_2⟩ := frz3 BK247.out; have hnb310 := NB268_252.out; have hnc310 := NB252_268.out; have hnb311 := NB268_257.out; have hnc311 := NB257_268.out; have hnb312 := NB268_262.out; have hnc312 := NB262_268.out; have hnb313 := NB268_267.out; have hnc313 := NB267_268.out; have hnb314 := NB268_269.out; have hnc314 := NB269_268.out; have hnb315 := NB268_270.out; have hnc315 := NB270_268.out; obtain ⟨hcz316_0, hcz316_1, hcz316_2⟩ := cel3 BK268.out; obtain ⟨hfz316_0, hfz316_1, hfz316_2⟩ := frz3 BK268.out) | (go_at_call 8; (with_reducible refine (caduceuslaw03_taken.calls _ _ _ _ _ _ _ _ _ _ A245.out).mono ?_); rintro e w317 ⟨rfl, hb⟩; replace BK247 := Aside0.mk (bkB BK247 hb); replace BK252 := Aside0.mk (bkB BK252 hb); replace BK257 := Aside0.mk (bkB BK257 hb); replace BK262 := Aside0.mk (bkB BK262 hb); replace BK267 := Aside0.mk (bkB BK267 hb); replace BK268 := Aside0.mk (bkB BK268 hb); replace BK269 := Aside0.mk (bkB BK269 hb); replace BK270 := Aside0.mk (bkB BK270 hb); replace HB := Aside0.mk (below_step (bwA) hb); (try clear hb); have hnb318 := NB252_257.out; have hnc318 := NB257_252.out; have hnb319 := NB252_262.out; have hnc319 := NB262_252.out; have hnb320 := NB252_267.out; have hnc320 := NB267_252.out; have hnb321 := NB252_269.out; have hnc321 := NB269_252.out; have hnb322 := NB252_270.out; have hnc322 := NB270_252.out; obtain ⟨hcz323_0, hcz323_1, hcz323_2⟩ := cel3 BK252.out; obtain ⟨hfz323_0, hfz323_1, hfz323_2⟩ := frz3 BK252.out; have hnb324 := NB269_257.out; have hnc324 := NB257_269.out; have hnb325 := NB269_262.out; have hnc325 := NB262_269.out; have hnb326 := NB269_267.out; have hnc326 := NB267_269.out; have hnb327 := NB269_270.out; have hnc327 := NB270_269.out; obtain ⟨hcz328_0, hcz328_1, hcz328_2⟩ := cel3 BK269.out; obtain ⟨hfz328_0, hfz328_1, hfz328_2⟩ := frz3 BK269.out) | (go_at_call 8; (with_reducible refine (caduceuslaw03_taken.calls _ _ _ _ _ _ _ _ _ _ A247.out).mono ?_); rintro e w329 ⟨rfl, hb⟩; replace BK247 := Aside0.mk (bkB BK247 hb); replace BK252 := Aside0.mk (bkB BK252 hb); replace BK257 := Aside0.mk (bkB BK257 hb); replace BK262 := Aside0.mk (bkB BK262 hb); replace BK267 := Aside0.mk (bkB BK267 hb); replace BK268 := Aside0.mk (bkB BK268 hb); replace BK269 := Aside0.mk (bkB BK269 hb); replace BK270 := Aside0.mk (bkB BK270 hb); replace HB := Aside0.mk (below_step (bwA) hb); (try clear hb); have hnb330 := NB257_262.out; have hnc330 := NB262_257.out; have hnb331 := NB257_267.out; have hnc331 := NB267_257.out; have hnb332 := NB257_270.out; have hnc332 := NB270_257.out; obtain ⟨hcz333_0, hcz333_1, hcz333_2⟩ := cel3 BK257.out; obtain ⟨hfz333_0, hfz333_1, hfz333_2⟩ := frz3 BK257.out; have hnb334 := NB270_262.out; have hnc334 := NB262_270.out; have hnb335 := NB270_267.out; have hnc335 := NB267_270.out; obtain ⟨hcz336_0, hcz336_1, hcz336_2⟩ := cel3 BK270.out; obtain ⟨hfz336_0, hfz336_1, hfz336_2⟩ := frz3 BK270.out) | (go_at_call 8; (with_reducible refine (caduceuslaw03_taken.calls _ _ _ _ _ _ _ _ _ _ A249.out).mono ?_); rintro e w337 ⟨rfl, hb⟩; replace BK247 := Aside0.mk (bkB BK247 hb); replace BK252 := Aside0.mk (bkB BK252 hb); replace BK257 := Aside0.mk (bkB BK257 hb); replace BK262 := Aside0.mk (bkB BK262 hb); replace BK267 := Aside0.mk (bkB BK267 hb); replace BK268 := Aside0.mk (bkB BK268 hb); replace BK269 := Aside0.mk (bkB BK269 hb); replace BK270 := Aside0.mk (bkB BK270 hb); replace HB := Aside0.mk (below_step (bwA) hb); (try clear hb)))
      go_ret
      exact ⟨endA, bwA⟩
end Go.Proofs.YtlejenoibblhnaaDoor.A
