-- By drv.py, the session's own driver round the kit's print: the machine's side of the laws, function by function. Not trusted: Lean checks it.
import Derived.Test.YtbbfggfiknbdmaaDoorAx0
import Derived.Test.YtbbfggfiknbdmaaDoorAx6
import Derived.Test.YtbbfggfiknbdmaaDoorAx7
import Derived.Test.YtbbfggfiknbdmaaDoorAx12
namespace Go.Proofs.YtbbfggfiknbdmaaDoor.A
open Go.RowKit Go.Proofs.YtbbfggfiknbdmaaDoorW.PrintWords Go.Proofs.YtbbfggfiknbdmaaDoorW.PrintLast Go.Proofs.YtbbfggfiknbdmaaDoorW.PrintMore
attribute [local go_sem] max2_int min2_int max_two min_two max_three min_three max_four min_four   -- for this text's walks alone
set_option linter.unusedVariables false
set_option linter.unusedSimpArgs false

/-! ### schema_Get: function 22, by hand -/
def schema_Get.f (l0 : List S41) (a1 : ByteArray) : Option (Int × Int × ByteArray × Bool) := (idxK (fun x : S41 => name_Same.f x.f0 a1) l0 0).bind fun i => if i < 0 then some (0, 0, ⟨#[]⟩, false) else some ((rd_T41 l0 i).f1.f0, (rd_T41 l0 i).f1.f1, (rd_T41 l0 i).f1.f2, true)
theorem schema_Get1.calls (B : Nat) (s : ByteArray) (x : S41) (cs : List Value) (b : Bool) (w : World) (hT : Tabs w) (hB : B < w.heap.size) (hcell : w.cell? ⟨B, 0, none⟩ = some (.string s)) (hx : name_Same.f x.f0 s = some b) (hK : k41.K w x cs) :
  Calls Tryd.prog 41 #[.agg cs.toArray, .pointer (some ⟨B, 0, none⟩)] w fun e w' => e = .returned (.bool b) ∧ Below w.heap.size w w' := by
 obtain rfl := k41_open hK
 have cS := fun W (hb : Below w.heap.size w W) => name_Same.calls x.f0 s b W (hT.below hb) hx
 have hne : B ≠ w.heap.size := by omega
 clear hT hx hK
 go_enter Tryd.func41, Tryd.ntmps41
 go_wp2_with (go_at_call 32; refine (cS _ ((Below.refl _ w).alloc (Nat.le_refl _) _)).mono ?_; rintro e w' ⟨rfl, hb'⟩)
 go_ret
 exact ⟨rfl, ((Below.refl _ w).alloc (Nat.le_refl _) _).trans (hb'.mono (by simp))⟩
set_option maxHeartbeats 4000000 in
theorem schema_Get.calls (A0 : Option Addr) (c0 : Nat) (l0 : List S41) (a1 : ByteArray) (r1 : Int) (r2 : Int) (r3 : ByteArray) (r4 : Bool) (w : World) (hr0 : Kd.C k41 w A0 l0.length l0) (hc0 : l0.length ≤ c0) (hT : Tabs w) (h : schema_Get.f l0 a1 = some (r1, r2, r3, r4)) :
  Calls Tryd.prog 22 #[.slice A0 l0.length c0, .string a1] w fun e w' => e = .returned (.tuple #[.agg #[.int .i64 r1, .int .i64 r2, .string r3], .bool r4]) ∧ Below w.heap.size w w' := by
 have inst : Inhabited S41 := ⟨z41⟩
 unfold schema_Get.f at h
 obtain ⟨i, hi, h⟩ := Option.bind_eq_some_iff.1 h
 have hin := idxK_in _ _ _ _ hi
 have eg : ∀ args w, (callFunc 41 args).run Tryd.prog w = .ok (.enter 41 args) w := enters_of Tryd.func41 (by kernel_rfl) rfl
 have hcon := fun W (hb : Below w.heap.size w W) (hB : w.heap.size < W.heap.size) (hcell : W.cell? ⟨w.heap.size, 0, none⟩ = some (.string a1)) =>
  idxAttr (α := S41) k41 (by decide) Tryd.sizeOf41 (fun x : S41 => name_Same.f x.f0 a1) 41 #[.pointer (some ⟨w.heap.size, 0, none⟩)] eg A0 l0.length c0 l0 i W
   (fun W2 x cs b hx hb2 hK => (schema_Get1.calls w.heap.size a1 x cs b W2 (hT.below (hb.trans (hb2.mono hb.size))) (Nat.lt_of_lt_of_le hB hb2.size) ((hb2.cell (p := ⟨w.heap.size, 0, none⟩) hB).trans hcell) hx hK).mono fun e w' ⟨he, hw⟩ => ⟨he, hb2.trans (hw.mono hb2.size)⟩)
   (Kd.C_below hr0 hb) hi
 have hA := fun (h0 : ¬ i < 0) W (hW : Below w.heap.size w W) => at_T41 (Kd.C_below hr0 hW) i (by omega) (by omega)
 have hle : w.heap.size ≤ w.heap.size + 1 := Nat.le_succ _
 clear hi hT eg hr0
 by_cases h0 : i < 0
 ·rw [if_pos h0] at h
  have h := Option.some.inj h
  simp only [Prod.mk.injEq] at h
  obtain ⟨rfl, rfl, rfl, rfl⟩ := h
  clear hin hA
  go_enter Tryd.func22, Tryd.ntmps22
  go_wp2_with (go_at_call 40; refine (hcon _ (((Below.refl _ w).alloc (Nat.le_refl _) _).alloc (by simp) _) (by simp <;> omega) (by simp)).mono ?_; rintro e w' ⟨rfl, hb'⟩; have hB := (((Below.refl _ w).alloc (Nat.le_refl _) _).alloc (by simp) _ : Below w.heap.size w ((w.alloc (.cells #[.string a1] 9)).alloc (.cells #[.int .i64 0, .int .i64 0, .string ⟨#[]⟩] 39))).trans (hb'.mono (by simp <;> omega)); have hg : w'.heap[w.heap.size + 1]? = some (.cells #[.int .i64 0, .int .i64 0, .string ⟨#[]⟩] 39 (0, 0)) := (hb'.block _ (by simp)).trans (by have q := heap_alloc_new (w.alloc (.cells #[.string a1] 9)) (.cells #[.int .i64 0, .int .i64 0, .string ⟨#[]⟩] 39 (0, 0)); rw [show (w.alloc (.cells #[.string a1] 9)).heap.size = w.heap.size + 1 from by show (w.heap.push _).size = _; rw [Array.size_push]] at q; exact q); have z0 := (blk_cell hg 0).trans rfl; have f0 := blk_frozen hg 0; have z1 := (blk_cell hg 1).trans rfl; have f1 := blk_frozen hg 1; have z2 := (blk_cell hg 2).trans rfl; have f2 := blk_frozen hg 2; clear hcon hb')
  refine bodyPost_ret (results_ct rfl _ _ (w.heap.size + 1) 39 #[.int .i64 0, .int .i64 0, .string ⟨#[]⟩] (0, 0) _ rfl (by refine blk_put (cs := #[.int .i64 0, .int .i64 0, .string ⟨#[]⟩]) ?_ 2 _ rfl; refine blk_put (cs := #[.int .i64 0, .int .i64 0, .string ⟨#[]⟩]) ?_ 1 _ rfl; refine blk_put (cs := #[.int .i64 0, .int .i64 0, .string ⟨#[]⟩]) ?_ 0 _ rfl;  exact hg) Tryd.underlying39 rfl (by kernel_rfl)) rfl ?_
  exact ⟨rfl, by repeat (first | exact hB | refine below_set ?_ hle)⟩
 ·rw [if_neg h0] at h
  have h := Option.some.inj h
  simp only [Prod.mk.injEq] at h
  have hA := hA h0
  have hi0 : 0 ≤ i := by omega
  have hi1 : i < (l0.length : Int) := by omega
  clear hin h0
  generalize rd_T41 l0 i = y at h hA
  obtain ⟨rfl, rfl, rfl, rfl⟩ := h
  go_enter Tryd.func22, Tryd.ntmps22
  go_wp2_with (go_at_call 40; refine (hcon _ (((Below.refl _ w).alloc (Nat.le_refl _) _).alloc (by simp) _) (by simp <;> omega) (by simp)).mono ?_; rintro e w' ⟨rfl, hb'⟩; have hB := (((Below.refl _ w).alloc (Nat.le_refl _) _).alloc (by simp) _ : Below w.heap.size w ((w.alloc (.cells #[.string a1] 9)).alloc (.cells #[.int .i64 0, .int .i64 0, .string ⟨#[]⟩] 39))).trans (hb'.mono (by simp <;> omega)); have hg : w'.heap[w.heap.size + 1]? = some (.cells #[.int .i64 0, .int .i64 0, .string ⟨#[]⟩] 39 (0, 0)) := (hb'.block _ (by simp)).trans (by have q := heap_alloc_new (w.alloc (.cells #[.string a1] 9)) (.cells #[.int .i64 0, .int .i64 0, .string ⟨#[]⟩] 39 (0, 0)); rw [show (w.alloc (.cells #[.string a1] 9)).heap.size = w.heap.size + 1 from by show (w.heap.push _).size = _; rw [Array.size_push]] at q; exact q); have z0 := (blk_cell hg 0).trans rfl; have f0 := blk_frozen hg 0; have z1 := (blk_cell hg 1).trans rfl; have f1 := blk_frozen hg 1; have z2 := (blk_cell hg 2).trans rfl; have f2 := blk_frozen hg 2; obtain ⟨ad, rfl, q0, q1, q2, q3⟩ := hA _ hB; clear hcon hb' hA)
  refine bodyPost_ret (results_ct rfl _ _ (w.heap.size + 1) 39 #[.int .i64 (y.f1.f0), .int .i64 (y.f1.f1), .string (y.f1.f2)] (0, 0) _ rfl (by refine blk_put (cs := #[.int .i64 (y.f1.f0), .int .i64 (y.f1.f1), .string ⟨#[]⟩]) ?_ 2 _ rfl; refine blk_put (cs := #[.int .i64 (y.f1.f0), .int .i64 0, .string ⟨#[]⟩]) ?_ 1 _ rfl; refine blk_put (cs := #[.int .i64 0, .int .i64 0, .string ⟨#[]⟩]) ?_ 0 _ rfl;  exact hg) Tryd.underlying39 rfl (by kernel_rfl)) rfl ?_
  exact ⟨rfl, by repeat (first | exact hB | refine below_set ?_ hle)⟩

/-! ### schema_Fits: function 11 -/
mutual
def schema_Fits.j0 : Nat → List (S35) → List (S41) → Bool → Option (Int)
 | 0, _, _, _ => none
 | k + 1, x0, x1, x20 => if x20 = true then (some 1) else (schema_Fits.l0 k x0 x1 x1 (x1.length : Int) 0)
def schema_Fits.l0 : Nat → List (S35) → List (S41) → List (S41) → Int → Int → Option (Int)
 | 0, _, _, _, _, _ => none
 | k + 1, x0, x1, x21, x22, x23 => if x23 < x22 then (if 0 ≤ x23 then (if x23 < (x21.length : Int) then ((schema_Find.f x0 ((rd_T41 x21 x23).f0)).bind fun bt158 => (if bt158.2.2.2 = true then (if bt158.2.1 = ((rd_T41 x21 x23).f1.f0) then (schema_Fits.l0 k x0 x1 x21 x22 (wrap64 (x23 + 1))) else (some 8)) else (some 4))) else (none)) else (none)) else (schema_Fits.l1 k x1 x0 (x0.length : Int) 0)
def schema_Fits.l1 : Nat → List (S41) → List (S35) → Int → Int → Option (Int)
 | 0, _, _, _, _ => none
 | k + 1, x1, x45, x46, x47 => if x47 < x46 then (if 0 ≤ x47 then (if x47 < (x45.length : Int) then ((schema_Get.f x1 ((rd_T35 x45 x47).f0)).bind fun bt165 => (if (rd_T35 x45 x47).f2 = true then (if bt165.2.2.2 = true then (schema_Fits.l1 k x1 x45 x46 (wrap64 (x47 + 1))) else (some 7)) else (schema_Fits.l1 k x1 x45 x46 (wrap64 (x47 + 1))))) else (none)) else (none)) else (some 0)
end
def schema_Fits.f (k : Nat) (l0 : List (S35)) (l1 : List (S41)) : Option (Int) := (schema_Check.f k l0).bind fun t154 => (if t154 = true then ((schema_Attrs.f k l1).bind fun t155 => (schema_Fits.j0 k l0 l1 (!t155))) else (schema_Fits.j0 k l0 l1 true))
theorem schema_Fits.mono_l : ∀ k, (∀ y0 y1 y2, LeO (schema_Fits.j0 k y0 y1 y2) (schema_Fits.j0 (k + 1) y0 y1 y2)) ∧ (∀ y0 y1 y2 y3 y4, LeO (schema_Fits.l0 k y0 y1 y2 y3 y4) (schema_Fits.l0 (k + 1) y0 y1 y2 y3 y4)) ∧ (∀ y0 y1 y2 y3, LeO (schema_Fits.l1 k y0 y1 y2 y3) (schema_Fits.l1 (k + 1) y0 y1 y2 y3))
 | 0 => ⟨fun _ _ _ r h => by simp [schema_Fits.j0] at h, fun _ _ _ _ _ r h => by simp [schema_Fits.l0] at h, fun _ _ _ _ r h => by simp [schema_Fits.l1] at h⟩
 | k + 1 => by
  obtain ⟨ih0, ih1, ih2⟩ := schema_Fits.mono_l k
  refine ⟨?_, ?_, ?_⟩
  all_goals intros
  all_goals first | unfold schema_Fits.j0 | unfold schema_Fits.l0 | unfold schema_Fits.l1
  all_goals repeat' first
   | (with_reducible exact ih0 _ _ _)
   | (with_reducible exact ih1 _ _ _ _ _)
   | (with_reducible exact ih2 _ _ _ _)
   | (with_reducible exact schema_Attrs.mono _ _)
   | (with_reducible exact schema_Check.mono _ _)
   | (with_reducible exact LeO.refl _)
   | (with_reducible exact LeO.none _)
   | (with_reducible refine LeO.ite ?_ ?_)
   | (with_reducible refine LeO.bind ?_ (fun _ => ?_))
   | exact ih0 _ _ _
   | exact ih1 _ _ _ _ _
   | exact ih2 _ _ _ _
   | exact schema_Attrs.mono _ _
   | exact schema_Check.mono _ _
   | exact LeO.none _
   | refine LeO.ite ?_ ?_
   | refine LeO.bind ?_ (fun _ => ?_)
theorem schema_Fits.mono : ∀ a0 a1 k, LeO (schema_Fits.f k a0 a1) (schema_Fits.f (k + 1) a0 a1) := by
 intro a0 a1 k
 obtain ⟨ih0, ih1, ih2⟩ := schema_Fits.mono_l k
 unfold schema_Fits.f
 repeat' first
   | (with_reducible exact ih0 _ _ _)
   | (with_reducible exact ih1 _ _ _ _ _)
   | (with_reducible exact ih2 _ _ _ _)
   | (with_reducible exact schema_Attrs.mono _ _)
   | (with_reducible exact schema_Check.mono _ _)
   | (with_reducible exact LeO.refl _)
   | (with_reducible exact LeO.none _)
   | (with_reducible refine LeO.ite ?_ ?_)
   | (with_reducible refine LeO.bind ?_ (fun _ => ?_))
   | exact ih0 _ _ _
   | exact ih1 _ _ _ _ _
   | exact ih2 _ _ _ _
   | exact schema_Attrs.mono _ _
   | exact schema_Check.mono _ _
   | exact LeO.none _
   | refine LeO.ite ?_ ?_
   | refine LeO.bind ?_ (fun _ => ?_)
set_option maxHeartbeats 8000000 in
set_option maxRecDepth 100000 in
theorem schema_Fits.calls (k : Nat) (A0 : Option Addr) (c0 : Nat) (l0 : List (S35)) (A1 : Option Addr) (c1 : Nat) (l1 : List (S41)) (r : Int) (w : World) (hr0 : Kd.C k35 w A0 l0.length l0) (hc0 : l0.length ≤ c0) (hr1 : Kd.C k41 w A1 l1.length l1) (hc1 : l1.length ≤ c1) (hT : Tabs w) (h : schema_Fits.f k l0 l1 = some r) :
  Calls Tryd.prog 11 #[.slice A0 l0.length c0, .slice A1 l1.length c1] w fun e w' => e = .returned (.int .i64 r) ∧ Below w.heap.size w w' := by
 have hu41 := Tryd.underlying41
 have hu35 := Tryd.underlying35
 have hu39 := Tryd.underlying39
 have HR0 := Aside0.mk hr0
 have HC0 := Aside0.mk hc0
 clear hr0 hc0
 have HR1 := Aside0.mk hr1
 have HC1 := Aside0.mk hc1
 clear hr1 hc1
 have HB := Aside0.mk (Below.refl w.heap.size w)
 have H : ((schema_Check.f k l0).bind fun t154 => (if t154 = true then ((schema_Attrs.f k l1).bind fun t155 => (schema_Fits.j0 k l0 l1 (!t155))) else (schema_Fits.j0 k l0 l1 true))) = some r := h
 clear h
 have HT := Aside0.mk hT
 clear hT
 have HC3 := Aside0.mk H
 clear H
 go_enter Tryd.func11, Tryd.ntmps11
 go_upto_region 1 with (fail)
 go_cut [20] (fun v20 wc => ∃ (kq : Nat) (x20_2 : Bool), v20 = .bool x20_2 ∧ Aside0 (schema_Fits.j0 kq l0 l1 x20_2 = some r) ∧ Aside0 (kq ≤ k) ∧ Aside0 (Below w.heap.size w wc))
 case first =>
  have H := HC3.out
  clear HC3
  replace H := Option.bind_eq_some_iff.mp H
  obtain ⟨t154, A40, H⟩ := H
  replace H : (if t154 = true then ((schema_Attrs.f k l1).bind fun t155 => (schema_Fits.j0 k l0 l1 (!t155))) else (schema_Fits.j0 k l0 l1 true)) = some r := H
  have A4 := Aside0.mk A40
  clear A40
  by_cases c5 : t154 = true
  ·subst c5
   have H1 : ((schema_Attrs.f k l1).bind fun t155 => (schema_Fits.j0 k l0 l1 (!t155))) = some r := by rw [if_pos rfl] at H; exact H
   clear H
   have H := H1
   clear H1
   replace H := Option.bind_eq_some_iff.mp H
   obtain ⟨t155, A60, H⟩ := H
   replace H : (schema_Fits.j0 k l0 l1 (!t155)) = some r := H
   have A6 := Aside0.mk A60
   clear A60
   have H' := Aside0.mk H
   clear H
   go_wp2_with (first | ((with_reducible refine gate_callee (f := 15) rfl ?_); refine goesA (some 14) Tryd.func15 #[.slice A0 l0.length c0] ?_; (with_reducible refine (schema_Check.calls k _ _ l0 true _ ?side1 ?side2 ?side3 A4.out).mono ?_); (case side1 => repeat (first | exact (Kd.C_below HR0.out HB.out) | (with_reducible refine Kd.C_alloc ?_ _) | (with_reducible refine Kd.C_drewN ?_ _) | (with_reducible refine Kd.C_drew ?_))); (case side2 => exact HC0.out); (case side3 => exact Tabs.below HT.out (bwA)); rintro e w7 ⟨rfl, hb⟩; refine ⟨_, rfl, ?_⟩; have n0_ := Aside0.mk (below_step (bwA) hb); clear HB; have HB := n0_; clear n0_; (try clear hb); (try clear hb2); (try clear hk); (try clear hi)) | (go_at_call 21; (with_reducible refine (schema_Attrs.calls k _ _ l1 t155 _ ?side1 ?side2 ?side3 A6.out).mono ?_); (case side1 => repeat (first | exact (Kd.C_below HR1.out HB.out) | (with_reducible refine Kd.C_alloc ?_ _) | (with_reducible refine Kd.C_drewN ?_ _) | (with_reducible refine Kd.C_drew ?_))); (case side2 => exact HC1.out); (case side3 => exact Tabs.below HT.out (bwA)); rintro e w8 ⟨rfl, hb⟩; have n0_ := Aside0.mk (below_step (bwA) hb); clear HB; have HB := n0_; clear n0_; (try clear hb); (try clear hb2); (try clear hk); (try clear hi)))
   go_meet
   case rel => exact ⟨_, (!t155), (endS), H', ⟨by first | omega | exact Nat.le_refl _⟩, ⟨bwA⟩⟩
  ·replace c5 := Bool.eq_false_iff.mpr c5
   subst c5
   have H1 : (schema_Fits.j0 k l0 l1 true) = some r := by rw [if_neg (show ¬ (false = true) by decide)] at H; exact H
   clear H
   have H := H1
   clear H1
   have H' := Aside0.mk H
   clear H
   go_wp2_with (first | ((with_reducible refine gate_callee (f := 15) rfl ?_); refine goesA (some 14) Tryd.func15 #[.slice A0 l0.length c0] ?_; (with_reducible refine (schema_Check.calls k _ _ l0 false _ ?side1 ?side2 ?side3 A4.out).mono ?_); (case side1 => repeat (first | exact (Kd.C_below HR0.out HB.out) | (with_reducible refine Kd.C_alloc ?_ _) | (with_reducible refine Kd.C_drewN ?_ _) | (with_reducible refine Kd.C_drew ?_))); (case side2 => exact HC0.out); (case side3 => exact Tabs.below HT.out (bwA)); rintro e w9 ⟨rfl, hb⟩; refine ⟨_, rfl, ?_⟩; have n0_ := Aside0.mk (below_step (bwA) hb); clear HB; have HB := n0_; clear n0_; (try clear hb); (try clear hb2); (try clear hk); (try clear hi)))
   go_meet
   case rel => exact ⟨_, (true), (endS), H', ⟨by first | omega | exact Nat.le_refl _⟩, ⟨bwA⟩⟩
 case rest =>
  clear HC3
  try clear c1
  try clear p2
  try clear c5
  obtain ⟨kq, x20_2, rfl, HA, HJ2, HB⟩ := hcut
  cases kq with
  | zero => exact absurd HA.out (by simp [schema_Fits.j0])
  | succ kj2 =>
   have H := HA.out
   clear HA
   simp only [schema_Fits.j0] at H
   by_cases c10 : x20_2 = true
   ·subst c10
    have H1 : (some 1) = some r := by rw [if_pos rfl] at H; exact H
    clear H
    have H := H1
    clear H1
    obtain rfl := Option.some.inj H
    go_wp2
    go_ret
    exact ⟨endA, bwA⟩
   ·replace c10 := Bool.eq_false_iff.mpr c10
    subst c10
    have H1 : (schema_Fits.l0 kj2 l0 l1 l1 (l1.length : Int) 0) = some r := by rw [if_neg (show ¬ (false = true) by decide)] at H; exact H
    clear H
    have H := H1
    clear H1
    have H' := Aside0.mk H
    clear H
    go_wp2
    go_loopg [23] kj2 (fun kq v23 w' => ∃ (x23_2 : Int), v23 = .int .i64 x23_2 ∧ Aside0 (schema_Fits.l0 kq l0 l1 l1 (l1.length : Int) x23_2 = some r) ∧ Aside0 (kq ≤ kj2) ∧ Aside0 (Below w.heap.size w w'))
    case atStart => exact ⟨(0), (endS), H', ⟨Nat.le_refl _⟩, ⟨bwA⟩⟩
    case round =>
     clear H'
     try clear c1
     try clear p2
     try clear c5
     try clear c10
     try clear p2
     obtain ⟨x23_2, rfl, HA, HK2, HB⟩ := hrel
     cases gk with
     | zero => exact absurd HA.out (by simp [schema_Fits.l0])
     | succ k2 =>
      have H := HA.out
      clear HA
      simp only [schema_Fits.l0] at H
      by_cases c11 : x23_2 < (l1.length : Int)
      ·rw [if_pos c11] at H
       have c11b0 : decide (x23_2 < (l1.length : Int)) = true := decide_eq_true c11
       clear c11
       by_cases c12 : 0 ≤ x23_2
       ·rw [if_pos c12] at H
        have c12b0 : decide (0 ≤ x23_2) = true := decide_eq_true c12
        clear c12
        by_cases c13 : x23_2 < (l1.length : Int)
        ·rw [if_pos c13] at H
         have c13b0 : decide (x23_2 < (l1.length : Int)) = true := decide_eq_true c13
         clear c13
         replace H := Option.bind_eq_some_iff.mp H
         obtain ⟨⟨t158, t159, t160, t161⟩, A140, H⟩ := H
         replace H : (if t161 = true then (if t159 = ((rd_T41 l1 x23_2).f1.f0) then (schema_Fits.l0 k2 l0 l1 l1 (l1.length : Int) (wrap64 (x23_2 + 1))) else (some 8)) else (some 4)) = some r := H
         have A14 := Aside0.mk A140
         clear A140
         by_cases c15 : t161 = true
         ·subst c15
          have H1 : (if t159 = ((rd_T41 l1 x23_2).f1.f0) then (schema_Fits.l0 k2 l0 l1 l1 (l1.length : Int) (wrap64 (x23_2 + 1))) else (some 8)) = some r := by rw [if_pos rfl] at H; exact H
          clear H
          have H := H1
          clear H1
          by_cases c16 : t159 = ((rd_T41 l1 x23_2).f1.f0)
          ·rw [if_pos c16] at H
           have c16b0 : (t159 == ((rd_T41 l1 x23_2).f1.f0)) = true := beq_iff_eq.mpr c16
           have c16b1 : (t159 != ((rd_T41 l1 x23_2).f1.f0)) = false := bne_eq_false_iff_eq.mpr c16
           clear c16
           have H' := Aside0.mk H
           clear H
           have p156 : 0 ≤ (x23_2 : Int) := odA
           have q156 : x23_2 < (l1.length : Int) := odA
           obtain ⟨ad156, e156, hx156_0, hx156_1, hx156_2, hx156_3⟩ := at_T41 HR1.out x23_2 p156 q156
           cases e156
           replace hx156_0 := crA hx156_0
           replace hx156_1 := crA hx156_1
           replace hx156_2 := crA hx156_2
           replace hx156_3 := crA hx156_3
           replace p156 := eq_true p156
           replace q156 := eq_true q156
           go_wp2_with (first | ((with_reducible refine gate_dst (N := 6) rfl ?_); refine box_event ?hg (N := 6) ?hd (cs := #[.string (⟨#[]⟩ : ByteArray), .int .i64 0, .int .i64 0, .string (⟨#[]⟩ : ByteArray)]) (t := 41) ?hr ?_; (case hd => rfl); (case hg => rfl); (case hr => first | (go_simp; done) | (go_simp; rfl)); intro gb157 hg w17 hbox hb; have n0_ := Aside0.mk (below_step (bwA) hb); have n1_ := Aside0.mk (hbox); have n2_ := Aside0.mk ((by rw [hg]; exact (below_size (bwA)) : w.heap.size ≤ gb157)); have n3_ := Aside0.mk ((by rw [hg]; exact (below_size (bwA)) : w.heap.size ≤ gb157)); clear HB; have HB := n0_; have BK157 := n1_; have GW157 := n2_; have GE157 := n3_; clear n0_ n1_ n2_ n3_; clear hb hbox hg; have hcz18_0 : w17.cell? ⟨gb157, 0, none⟩ = some (.string (⟨#[]⟩ : ByteArray)) := (blk_cell BK157.out 0).trans rfl; have hcz18_1 : w17.cell? ⟨gb157, 1, none⟩ = some (.int .i64 0) := (blk_cell BK157.out 1).trans rfl; have hcz18_2 : w17.cell? ⟨gb157, 2, none⟩ = some (.int .i64 0) := (blk_cell BK157.out 2).trans rfl; have hcz18_3 : w17.cell? ⟨gb157, 3, none⟩ = some (.string (⟨#[]⟩ : ByteArray)) := (blk_cell BK157.out 3).trans rfl; have hfz18_0 := blk_frozen BK157.out 0; have hfz18_1 := blk_frozen BK157.out 1; have hfz18_2 := blk_frozen BK157.out 2; have hfz18_3 := blk_frozen BK157.out 3) | ((with_reducible refine gate_callee (f := 16) rfl ?_); refine goesA (some 31) Tryd.func16 #[.slice A0 l0.length c0, .string ((rd_T41 l1 x23_2).f0)] ?_; (with_reducible refine (schema_Find.calls _ _ l0 ((rd_T41 l1 x23_2).f0) t158 t159 t160 true _ ?side1 ?side2 ?side3 A14.out).mono ?_); (case side1 => exact Kd.C_below HR0.out (bwA)); (case side2 => exact HC0.out); (case side3 => exact Tabs.below HT.out (bwA)); rintro e w19 ⟨rfl, hb⟩; refine ⟨_, rfl, ?_⟩; have n0_ := Aside0.mk (blk_below (g := gb157) (o := .cells #[.string ((rd_T41 l1 x23_2).f0), .int .i64 ((rd_T41 l1 x23_2).f1.f0), .int .i64 ((rd_T41 l1 x23_2).f1.f1), .string ((rd_T41 l1 x23_2).f1.f2)] 41 (0, 0)) (by (with_reducible repeat (first | refine blk_drewN ?_ _ | refine blk_drew ?_ | refine blk_alloc ?_ _)); refine blk_put (cs := #[.string ((rd_T41 l1 x23_2).f0), .int .i64 ((rd_T41 l1 x23_2).f1.f0), .int .i64 ((rd_T41 l1 x23_2).f1.f1), .string (⟨#[]⟩ : ByteArray)]) ?_ 3 _ rfl; (with_reducible repeat (first | refine blk_drewN ?_ _ | refine blk_drew ?_ | refine blk_alloc ?_ _)); refine blk_put (cs := #[.string ((rd_T41 l1 x23_2).f0), .int .i64 ((rd_T41 l1 x23_2).f1.f0), .int .i64 0, .string (⟨#[]⟩ : ByteArray)]) ?_ 2 _ rfl; (with_reducible repeat (first | refine blk_drewN ?_ _ | refine blk_drew ?_ | refine blk_alloc ?_ _)); refine blk_put (cs := #[.string ((rd_T41 l1 x23_2).f0), .int .i64 0, .int .i64 0, .string (⟨#[]⟩ : ByteArray)]) ?_ 1 _ rfl; (with_reducible repeat (first | refine blk_drewN ?_ _ | refine blk_drew ?_ | refine blk_alloc ?_ _)); refine blk_put (cs := #[.string (⟨#[]⟩ : ByteArray), .int .i64 0, .int .i64 0, .string (⟨#[]⟩ : ByteArray)]) ?_ 0 _ rfl; (with_reducible repeat (first | refine blk_drewN ?_ _ | refine blk_drew ?_ | refine blk_alloc ?_ _)); exact BK157.out) hb); have n1_ := Aside0.mk (below_step (bwA) hb); clear BK157; clear HB; have BK157 := n0_; have HB := n1_; clear n0_ n1_; (try clear hb); (try clear hb2); (try clear hk); (try clear hi)) | ((with_reducible refine gate_dst (N := 7) rfl ?_); refine box_event ?hg (N := 7) ?hd (cs := #[.string (⟨#[]⟩ : ByteArray), .int .i64 0, .bool false]) (t := 35) ?hr ?_; (case hd => rfl); (case hg => rfl); (case hr => first | (go_simp; done) | (go_simp; rfl)); intro gb162 hg w20 hbox hb; have n0_ := Aside0.mk (blk_below (g := gb157) (o := .cells #[.string ((rd_T41 l1 x23_2).f0), .int .i64 ((rd_T41 l1 x23_2).f1.f0), .int .i64 ((rd_T41 l1 x23_2).f1.f1), .string ((rd_T41 l1 x23_2).f1.f2)] 41 (0, 0)) blkA hb); have n1_ := Aside0.mk (below_step (bwA) hb); have n2_ := Aside0.mk (hbox); have n3_ := Aside0.mk ((by rw [hg]; exact (below_size (bwA)) : w.heap.size ≤ gb162)); have n4_ := Aside0.mk ((by rw [hg]; exact (below_size (bwA)) : w.heap.size ≤ gb162)); have n5_ := Aside0.mk ((by rw [hg]; exact Nat.ne_of_lt (blk_lt (g := gb157) (o := .cells #[.string ((rd_T41 l1 x23_2).f0), .int .i64 ((rd_T41 l1 x23_2).f1.f0), .int .i64 ((rd_T41 l1 x23_2).f1.f1), .string ((rd_T41 l1 x23_2).f1.f2)] 41 (0, 0)) blkA) : gb157 ≠ gb162)); have n6_ := Aside0.mk ((by rw [hg]; exact Nat.ne_of_gt (blk_lt (g := gb157) (o := .cells #[.string ((rd_T41 l1 x23_2).f0), .int .i64 ((rd_T41 l1 x23_2).f1.f0), .int .i64 ((rd_T41 l1 x23_2).f1.f1), .string ((rd_T41 l1 x23_2).f1.f2)] 41 (0, 0)) blkA) : gb162 ≠ gb157)); clear BK157; clear HB; have BK157 := n0_; have HB := n1_; have BK162 := n2_; have GW162 := n3_; have GE162 := n4_; have NB157_162 := n5_; have NB162_157 := n6_; clear n0_ n1_ n2_ n3_ n4_ n5_ n6_; clear hb hbox hg; have hnb21 := NB162_157.out; have hnc21 := NB157_162.out; have hcz22_0 : w20.cell? ⟨gb162, 0, none⟩ = some (.string (⟨#[]⟩ : ByteArray)) := (blk_cell BK162.out 0).trans rfl; have hcz22_1 : w20.cell? ⟨gb162, 1, none⟩ = some (.int .i64 0) := (blk_cell BK162.out 1).trans rfl; have hcz22_2 : w20.cell? ⟨gb162, 2, none⟩ = some (.bool false) := (blk_cell BK162.out 2).trans rfl; have hfz22_0 := blk_frozen BK162.out 0; have hfz22_1 := blk_frozen BK162.out 1; have hfz22_2 := blk_frozen BK162.out 2; have hcz23_0 : w20.cell? ⟨gb157, 0, none⟩ = some (.string ((rd_T41 l1 x23_2).f0)) := (blk_cell BK157.out 0).trans rfl; have hcz23_1 : w20.cell? ⟨gb157, 1, none⟩ = some (.int .i64 ((rd_T41 l1 x23_2).f1.f0)) := (blk_cell BK157.out 1).trans rfl; have hcz23_2 : w20.cell? ⟨gb157, 2, none⟩ = some (.int .i64 ((rd_T41 l1 x23_2).f1.f1)) := (blk_cell BK157.out 2).trans rfl; have hcz23_3 : w20.cell? ⟨gb157, 3, none⟩ = some (.string ((rd_T41 l1 x23_2).f1.f2)) := (blk_cell BK157.out 3).trans rfl; have hfz23_0 := blk_frozen BK157.out 0; have hfz23_1 := blk_frozen BK157.out 1; have hfz23_2 := blk_frozen BK157.out 2; have hfz23_3 := blk_frozen BK157.out 3))
           go_roundg k2
           case measure => have := HJ2.out; have := HK2.out; omega
           case rel => exact ⟨(wrap64 (x23_2 + 1)), (endS), H', ⟨by have := HJ2.out; have := HK2.out; omega⟩, ⟨bwA⟩⟩
          ·rw [if_neg c16] at H
           have c16b0 : (t159 == ((rd_T41 l1 x23_2).f1.f0)) = false := beq_eq_false_iff_ne.mpr c16
           have c16b1 : (t159 != ((rd_T41 l1 x23_2).f1.f0)) = true := bne_iff_ne.mpr c16
           obtain rfl := Option.some.inj H
           have p156 : 0 ≤ (x23_2 : Int) := odA
           have q156 : x23_2 < (l1.length : Int) := odA
           obtain ⟨ad156, e156, hx156_0, hx156_1, hx156_2, hx156_3⟩ := at_T41 HR1.out x23_2 p156 q156
           cases e156
           replace hx156_0 := crA hx156_0
           replace hx156_1 := crA hx156_1
           replace hx156_2 := crA hx156_2
           replace hx156_3 := crA hx156_3
           replace p156 := eq_true p156
           replace q156 := eq_true q156
           go_wp2_with (first | ((with_reducible refine gate_dst (N := 6) rfl ?_); refine box_event ?hg (N := 6) ?hd (cs := #[.string (⟨#[]⟩ : ByteArray), .int .i64 0, .int .i64 0, .string (⟨#[]⟩ : ByteArray)]) (t := 41) ?hr ?_; (case hd => rfl); (case hg => rfl); (case hr => first | (go_simp; done) | (go_simp; rfl)); intro gb157 hg w24 hbox hb; have n0_ := Aside0.mk (below_step (bwA) hb); have n1_ := Aside0.mk (hbox); have n2_ := Aside0.mk ((by rw [hg]; exact (below_size (bwA)) : w.heap.size ≤ gb157)); have n3_ := Aside0.mk ((by rw [hg]; exact (below_size (bwA)) : w.heap.size ≤ gb157)); clear HB; have HB := n0_; have BK157 := n1_; have GW157 := n2_; have GE157 := n3_; clear n0_ n1_ n2_ n3_; clear hb hbox hg; have hcz25_0 : w24.cell? ⟨gb157, 0, none⟩ = some (.string (⟨#[]⟩ : ByteArray)) := (blk_cell BK157.out 0).trans rfl; have hcz25_1 : w24.cell? ⟨gb157, 1, none⟩ = some (.int .i64 0) := (blk_cell BK157.out 1).trans rfl; have hcz25_2 : w24.cell? ⟨gb157, 2, none⟩ = some (.int .i64 0) := (blk_cell BK157.out 2).trans rfl; have hcz25_3 : w24.cell? ⟨gb157, 3, none⟩ = some (.string (⟨#[]⟩ : ByteArray)) := (blk_cell BK157.out 3).trans rfl; have hfz25_0 := blk_frozen BK157.out 0; have hfz25_1 := blk_frozen BK157.out 1; have hfz25_2 := blk_frozen BK157.out 2; have hfz25_3 := blk_frozen BK157.out 3) | ((with_reducible refine gate_callee (f := 16) rfl ?_); refine goesA (some 31) Tryd.func16 #[.slice A0 l0.length c0, .string ((rd_T41 l1 x23_2).f0)] ?_; (with_reducible refine (schema_Find.calls _ _ l0 ((rd_T41 l1 x23_2).f0) t158 t159 t160 true _ ?side1 ?side2 ?side3 A14.out).mono ?_); (case side1 => exact Kd.C_below HR0.out (bwA)); (case side2 => exact HC0.out); (case side3 => exact Tabs.below HT.out (bwA)); rintro e w26 ⟨rfl, hb⟩; refine ⟨_, rfl, ?_⟩; have n0_ := Aside0.mk (blk_below (g := gb157) (o := .cells #[.string ((rd_T41 l1 x23_2).f0), .int .i64 ((rd_T41 l1 x23_2).f1.f0), .int .i64 ((rd_T41 l1 x23_2).f1.f1), .string ((rd_T41 l1 x23_2).f1.f2)] 41 (0, 0)) (by (with_reducible repeat (first | refine blk_drewN ?_ _ | refine blk_drew ?_ | refine blk_alloc ?_ _)); refine blk_put (cs := #[.string ((rd_T41 l1 x23_2).f0), .int .i64 ((rd_T41 l1 x23_2).f1.f0), .int .i64 ((rd_T41 l1 x23_2).f1.f1), .string (⟨#[]⟩ : ByteArray)]) ?_ 3 _ rfl; (with_reducible repeat (first | refine blk_drewN ?_ _ | refine blk_drew ?_ | refine blk_alloc ?_ _)); refine blk_put (cs := #[.string ((rd_T41 l1 x23_2).f0), .int .i64 ((rd_T41 l1 x23_2).f1.f0), .int .i64 0, .string (⟨#[]⟩ : ByteArray)]) ?_ 2 _ rfl; (with_reducible repeat (first | refine blk_drewN ?_ _ | refine blk_drew ?_ | refine blk_alloc ?_ _)); refine blk_put (cs := #[.string ((rd_T41 l1 x23_2).f0), .int .i64 0, .int .i64 0, .string (⟨#[]⟩ : ByteArray)]) ?_ 1 _ rfl; (with_reducible repeat (first | refine blk_drewN ?_ _ | refine blk_drew ?_ | refine blk_alloc ?_ _)); refine blk_put (cs := #[.string (⟨#[]⟩ : ByteArray), .int .i64 0, .int .i64 0, .string (⟨#[]⟩ : ByteArray)]) ?_ 0 _ rfl; (with_reducible repeat (first | refine blk_drewN ?_ _ | refine blk_drew ?_ | refine blk_alloc ?_ _)); exact BK157.out) hb); have n1_ := Aside0.mk (below_step (bwA) hb); clear BK157; clear HB; have BK157 := n0_; have HB := n1_; clear n0_ n1_; (try clear hb); (try clear hb2); (try clear hk); (try clear hi)) | ((with_reducible refine gate_dst (N := 7) rfl ?_); refine box_event ?hg (N := 7) ?hd (cs := #[.string (⟨#[]⟩ : ByteArray), .int .i64 0, .bool false]) (t := 35) ?hr ?_; (case hd => rfl); (case hg => rfl); (case hr => first | (go_simp; done) | (go_simp; rfl)); intro gb162 hg w27 hbox hb; have n0_ := Aside0.mk (blk_below (g := gb157) (o := .cells #[.string ((rd_T41 l1 x23_2).f0), .int .i64 ((rd_T41 l1 x23_2).f1.f0), .int .i64 ((rd_T41 l1 x23_2).f1.f1), .string ((rd_T41 l1 x23_2).f1.f2)] 41 (0, 0)) blkA hb); have n1_ := Aside0.mk (below_step (bwA) hb); have n2_ := Aside0.mk (hbox); have n3_ := Aside0.mk ((by rw [hg]; exact (below_size (bwA)) : w.heap.size ≤ gb162)); have n4_ := Aside0.mk ((by rw [hg]; exact (below_size (bwA)) : w.heap.size ≤ gb162)); have n5_ := Aside0.mk ((by rw [hg]; exact Nat.ne_of_lt (blk_lt (g := gb157) (o := .cells #[.string ((rd_T41 l1 x23_2).f0), .int .i64 ((rd_T41 l1 x23_2).f1.f0), .int .i64 ((rd_T41 l1 x23_2).f1.f1), .string ((rd_T41 l1 x23_2).f1.f2)] 41 (0, 0)) blkA) : gb157 ≠ gb162)); have n6_ := Aside0.mk ((by rw [hg]; exact Nat.ne_of_gt (blk_lt (g := gb157) (o := .cells #[.string ((rd_T41 l1 x23_2).f0), .int .i64 ((rd_T41 l1 x23_2).f1.f0), .int .i64 ((rd_T41 l1 x23_2).f1.f1), .string ((rd_T41 l1 x23_2).f1.f2)] 41 (0, 0)) blkA) : gb162 ≠ gb157)); clear BK157; clear HB; have BK157 := n0_; have HB := n1_; have BK162 := n2_; have GW162 := n3_; have GE162 := n4_; have NB157_162 := n5_; have NB162_157 := n6_; clear n0_ n1_ n2_ n3_ n4_ n5_ n6_; clear hb hbox hg; have hnb28 := NB162_157.out; have hnc28 := NB157_162.out; have hcz29_0 : w27.cell? ⟨gb162, 0, none⟩ = some (.string (⟨#[]⟩ : ByteArray)) := (blk_cell BK162.out 0).trans rfl; have hcz29_1 : w27.cell? ⟨gb162, 1, none⟩ = some (.int .i64 0) := (blk_cell BK162.out 1).trans rfl; have hcz29_2 : w27.cell? ⟨gb162, 2, none⟩ = some (.bool false) := (blk_cell BK162.out 2).trans rfl; have hfz29_0 := blk_frozen BK162.out 0; have hfz29_1 := blk_frozen BK162.out 1; have hfz29_2 := blk_frozen BK162.out 2; have hcz30_0 : w27.cell? ⟨gb157, 0, none⟩ = some (.string ((rd_T41 l1 x23_2).f0)) := (blk_cell BK157.out 0).trans rfl; have hcz30_1 : w27.cell? ⟨gb157, 1, none⟩ = some (.int .i64 ((rd_T41 l1 x23_2).f1.f0)) := (blk_cell BK157.out 1).trans rfl; have hcz30_2 : w27.cell? ⟨gb157, 2, none⟩ = some (.int .i64 ((rd_T41 l1 x23_2).f1.f1)) := (blk_cell BK157.out 2).trans rfl; have hcz30_3 : w27.cell? ⟨gb157, 3, none⟩ = some (.string ((rd_T41 l1 x23_2).f1.f2)) := (blk_cell BK157.out 3).trans rfl; have hfz30_0 := blk_frozen BK157.out 0; have hfz30_1 := blk_frozen BK157.out 1; have hfz30_2 := blk_frozen BK157.out 2; have hfz30_3 := blk_frozen BK157.out 3))
           go_ret
           exact ⟨endA, bwA⟩
         ·replace c15 := Bool.eq_false_iff.mpr c15
          subst c15
          have H1 : (some 4) = some r := by rw [if_neg (show ¬ (false = true) by decide)] at H; exact H
          clear H
          have H := H1
          clear H1
          obtain rfl := Option.some.inj H
          have p156 : 0 ≤ (x23_2 : Int) := odA
          have q156 : x23_2 < (l1.length : Int) := odA
          obtain ⟨ad156, e156, hx156_0, hx156_1, hx156_2, hx156_3⟩ := at_T41 HR1.out x23_2 p156 q156
          cases e156
          replace hx156_0 := crA hx156_0
          replace hx156_1 := crA hx156_1
          replace hx156_2 := crA hx156_2
          replace hx156_3 := crA hx156_3
          replace p156 := eq_true p156
          replace q156 := eq_true q156
          go_wp2_with (first | ((with_reducible refine gate_dst (N := 6) rfl ?_); refine box_event ?hg (N := 6) ?hd (cs := #[.string (⟨#[]⟩ : ByteArray), .int .i64 0, .int .i64 0, .string (⟨#[]⟩ : ByteArray)]) (t := 41) ?hr ?_; (case hd => rfl); (case hg => rfl); (case hr => first | (go_simp; done) | (go_simp; rfl)); intro gb157 hg w31 hbox hb; have n0_ := Aside0.mk (below_step (bwA) hb); have n1_ := Aside0.mk (hbox); have n2_ := Aside0.mk ((by rw [hg]; exact (below_size (bwA)) : w.heap.size ≤ gb157)); have n3_ := Aside0.mk ((by rw [hg]; exact (below_size (bwA)) : w.heap.size ≤ gb157)); clear HB; have HB := n0_; have BK157 := n1_; have GW157 := n2_; have GE157 := n3_; clear n0_ n1_ n2_ n3_; clear hb hbox hg; have hcz32_0 : w31.cell? ⟨gb157, 0, none⟩ = some (.string (⟨#[]⟩ : ByteArray)) := (blk_cell BK157.out 0).trans rfl; have hcz32_1 : w31.cell? ⟨gb157, 1, none⟩ = some (.int .i64 0) := (blk_cell BK157.out 1).trans rfl; have hcz32_2 : w31.cell? ⟨gb157, 2, none⟩ = some (.int .i64 0) := (blk_cell BK157.out 2).trans rfl; have hcz32_3 : w31.cell? ⟨gb157, 3, none⟩ = some (.string (⟨#[]⟩ : ByteArray)) := (blk_cell BK157.out 3).trans rfl; have hfz32_0 := blk_frozen BK157.out 0; have hfz32_1 := blk_frozen BK157.out 1; have hfz32_2 := blk_frozen BK157.out 2; have hfz32_3 := blk_frozen BK157.out 3) | ((with_reducible refine gate_callee (f := 16) rfl ?_); refine goesA (some 31) Tryd.func16 #[.slice A0 l0.length c0, .string ((rd_T41 l1 x23_2).f0)] ?_; (with_reducible refine (schema_Find.calls _ _ l0 ((rd_T41 l1 x23_2).f0) t158 t159 t160 false _ ?side1 ?side2 ?side3 A14.out).mono ?_); (case side1 => exact Kd.C_below HR0.out (bwA)); (case side2 => exact HC0.out); (case side3 => exact Tabs.below HT.out (bwA)); rintro e w33 ⟨rfl, hb⟩; refine ⟨_, rfl, ?_⟩; have n0_ := Aside0.mk (blk_below (g := gb157) (o := .cells #[.string ((rd_T41 l1 x23_2).f0), .int .i64 ((rd_T41 l1 x23_2).f1.f0), .int .i64 ((rd_T41 l1 x23_2).f1.f1), .string ((rd_T41 l1 x23_2).f1.f2)] 41 (0, 0)) (by (with_reducible repeat (first | refine blk_drewN ?_ _ | refine blk_drew ?_ | refine blk_alloc ?_ _)); refine blk_put (cs := #[.string ((rd_T41 l1 x23_2).f0), .int .i64 ((rd_T41 l1 x23_2).f1.f0), .int .i64 ((rd_T41 l1 x23_2).f1.f1), .string (⟨#[]⟩ : ByteArray)]) ?_ 3 _ rfl; (with_reducible repeat (first | refine blk_drewN ?_ _ | refine blk_drew ?_ | refine blk_alloc ?_ _)); refine blk_put (cs := #[.string ((rd_T41 l1 x23_2).f0), .int .i64 ((rd_T41 l1 x23_2).f1.f0), .int .i64 0, .string (⟨#[]⟩ : ByteArray)]) ?_ 2 _ rfl; (with_reducible repeat (first | refine blk_drewN ?_ _ | refine blk_drew ?_ | refine blk_alloc ?_ _)); refine blk_put (cs := #[.string ((rd_T41 l1 x23_2).f0), .int .i64 0, .int .i64 0, .string (⟨#[]⟩ : ByteArray)]) ?_ 1 _ rfl; (with_reducible repeat (first | refine blk_drewN ?_ _ | refine blk_drew ?_ | refine blk_alloc ?_ _)); refine blk_put (cs := #[.string (⟨#[]⟩ : ByteArray), .int .i64 0, .int .i64 0, .string (⟨#[]⟩ : ByteArray)]) ?_ 0 _ rfl; (with_reducible repeat (first | refine blk_drewN ?_ _ | refine blk_drew ?_ | refine blk_alloc ?_ _)); exact BK157.out) hb); have n1_ := Aside0.mk (below_step (bwA) hb); clear BK157; clear HB; have BK157 := n0_; have HB := n1_; clear n0_ n1_; (try clear hb); (try clear hb2); (try clear hk); (try clear hi)) | ((with_reducible refine gate_dst (N := 7) rfl ?_); refine box_event ?hg (N := 7) ?hd (cs := #[.string (⟨#[]⟩ : ByteArray), .int .i64 0, .bool false]) (t := 35) ?hr ?_; (case hd => rfl); (case hg => rfl); (case hr => first | (go_simp; done) | (go_simp; rfl)); intro gb162 hg w34 hbox hb; have n0_ := Aside0.mk (blk_below (g := gb157) (o := .cells #[.string ((rd_T41 l1 x23_2).f0), .int .i64 ((rd_T41 l1 x23_2).f1.f0), .int .i64 ((rd_T41 l1 x23_2).f1.f1), .string ((rd_T41 l1 x23_2).f1.f2)] 41 (0, 0)) blkA hb); have n1_ := Aside0.mk (below_step (bwA) hb); have n2_ := Aside0.mk (hbox); have n3_ := Aside0.mk ((by rw [hg]; exact (below_size (bwA)) : w.heap.size ≤ gb162)); have n4_ := Aside0.mk ((by rw [hg]; exact (below_size (bwA)) : w.heap.size ≤ gb162)); have n5_ := Aside0.mk ((by rw [hg]; exact Nat.ne_of_lt (blk_lt (g := gb157) (o := .cells #[.string ((rd_T41 l1 x23_2).f0), .int .i64 ((rd_T41 l1 x23_2).f1.f0), .int .i64 ((rd_T41 l1 x23_2).f1.f1), .string ((rd_T41 l1 x23_2).f1.f2)] 41 (0, 0)) blkA) : gb157 ≠ gb162)); have n6_ := Aside0.mk ((by rw [hg]; exact Nat.ne_of_gt (blk_lt (g := gb157) (o := .cells #[.string ((rd_T41 l1 x23_2).f0), .int .i64 ((rd_T41 l1 x23_2).f1.f0), .int .i64 ((rd_T41 l1 x23_2).f1.f1), .string ((rd_T41 l1 x23_2).f1.f2)] 41 (0, 0)) blkA) : gb162 ≠ gb157)); clear BK157; clear HB; have BK157 := n0_; have HB := n1_; have BK162 := n2_; have GW162 := n3_; have GE162 := n4_; have NB157_162 := n5_; have NB162_157 := n6_; clear n0_ n1_ n2_ n3_ n4_ n5_ n6_; clear hb hbox hg; have hnb35 := NB162_157.out; have hnc35 := NB157_162.out; have hcz36_0 : w34.cell? ⟨gb162, 0, none⟩ = some (.string (⟨#[]⟩ : ByteArray)) := (blk_cell BK162.out 0).trans rfl; have hcz36_1 : w34.cell? ⟨gb162, 1, none⟩ = some (.int .i64 0) := (blk_cell BK162.out 1).trans rfl; have hcz36_2 : w34.cell? ⟨gb162, 2, none⟩ = some (.bool false) := (blk_cell BK162.out 2).trans rfl; have hfz36_0 := blk_frozen BK162.out 0; have hfz36_1 := blk_frozen BK162.out 1; have hfz36_2 := blk_frozen BK162.out 2))
          go_ret
          exact ⟨endA, bwA⟩
        ·rw [if_neg c13] at H
         exact absurd H (by simp)
       ·rw [if_neg c12] at H
        exact absurd H (by simp)
      ·rw [if_neg c11] at H
       have c11b0 : decide (x23_2 < (l1.length : Int)) = false := decide_eq_false c11
       clear c11
       have H' := Aside0.mk H
       clear H
       go_wp2
       go_loopg [47] k2 (fun kq v47 w' => ∃ (x47_3 : Int), v47 = .int .i64 x47_3 ∧ Aside0 (schema_Fits.l1 kq l1 l0 (l0.length : Int) x47_3 = some r) ∧ Aside0 (kq ≤ k2) ∧ Aside0 (Below w.heap.size w w'))
       case atStart => exact ⟨(0), (endS), H', ⟨Nat.le_refl _⟩, ⟨bwA⟩⟩
       case round =>
        clear H'
        try clear c1
        try clear p1
        try clear q1
        try clear hx1
        try clear c2
        try clear p2
        try clear c3
        try clear c5
        try clear p6
        try clear c10
        try clear c11
        try clear c11b0
        try clear c12
        try clear c12b0
        try clear c13
        try clear c13b0
        try clear c15
        try clear p15
        try clear q15
        try clear hx15
        try clear c16
        try clear c16b0
        try clear c16b1
        try clear c21
        try clear c28
        try clear c35
        try clear hcz18_0
        try clear hcz18_1
        try clear hcz18_2
        try clear hcz18_3
        try clear hcz22_0
        try clear hcz22_1
        try clear hcz22_2
        try clear hcz23_0
        try clear hcz23_1
        try clear hcz23_2
        try clear hcz23_3
        try clear hcz25_0
        try clear hcz25_1
        try clear hcz25_2
        try clear hcz25_3
        try clear hcz29_0
        try clear hcz29_1
        try clear hcz29_2
        try clear hcz30_0
        try clear hcz30_1
        try clear hcz30_2
        try clear hcz30_3
        try clear hcz32_0
        try clear hcz32_1
        try clear hcz32_2
        try clear hcz32_3
        try clear hcz36_0
        try clear hcz36_1
        try clear hcz36_2
        try clear hfz18_0
        try clear hfz18_1
        try clear hfz18_2
        try clear hfz18_3
        try clear hfz22_0
        try clear hfz22_1
        try clear hfz22_2
        try clear hfz23_0
        try clear hfz23_1
        try clear hfz23_2
        try clear hfz23_3
        try clear hfz25_0
        try clear hfz25_1
        try clear hfz25_2
        try clear hfz25_3
        try clear hfz29_0
        try clear hfz29_1
        try clear hfz29_2
        try clear hfz30_0
        try clear hfz30_1
        try clear hfz30_2
        try clear hfz30_3
        try clear hfz32_0
        try clear hfz32_1
        try clear hfz32_2
        try clear hfz32_3
        try clear hfz36_0
        try clear hfz36_1
        try clear hfz36_2
        try clear hx156_0
        try clear hx156_1
        try clear hx156_2
        try clear hx156_3
        try clear p156
        try clear p2
        try clear q156
        obtain ⟨x47_3, rfl, HA, HK3, HB⟩ := hrel
        cases gk with
        | zero => exact absurd HA.out (by simp [schema_Fits.l1])
        | succ k3 =>
         have H := HA.out
         clear HA
         simp only [schema_Fits.l1] at H
         by_cases c37 : x47_3 < (l0.length : Int)
         ·rw [if_pos c37] at H
          have c37b0 : decide (x47_3 < (l0.length : Int)) = true := decide_eq_true c37
          clear c37
          by_cases c38 : 0 ≤ x47_3
          ·rw [if_pos c38] at H
           have c38b0 : decide (0 ≤ x47_3) = true := decide_eq_true c38
           clear c38
           by_cases c39 : x47_3 < (l0.length : Int)
           ·rw [if_pos c39] at H
            have c39b0 : decide (x47_3 < (l0.length : Int)) = true := decide_eq_true c39
            clear c39
            replace H := Option.bind_eq_some_iff.mp H
            obtain ⟨⟨t165, t166, t167, t168⟩, A400, H⟩ := H
            replace H : (if (rd_T35 l0 x47_3).f2 = true then (if t168 = true then (schema_Fits.l1 k3 l1 l0 (l0.length : Int) (wrap64 (x47_3 + 1))) else (some 7)) else (schema_Fits.l1 k3 l1 l0 (l0.length : Int) (wrap64 (x47_3 + 1)))) = some r := H
            have A40 := Aside0.mk A400
            clear A400
            obtain ⟨bq41, hbq41⟩ : ∃ b_ : Bool, b_ = ((rd_T35 l0 x47_3).f2) := ⟨_, rfl⟩
            replace H : (if bq41 = true then (if t168 = true then (schema_Fits.l1 k3 l1 l0 (l0.length : Int) (wrap64 (x47_3 + 1))) else (some 7)) else (schema_Fits.l1 k3 l1 l0 (l0.length : Int) (wrap64 (x47_3 + 1)))) = some r := by rw [← hbq41] at H; exact H
            have Nbq41 := Aside0.mk hbq41
            clear hbq41
            by_cases c42 : bq41 = true
            ·subst c42
             have H1 : (if t168 = true then (schema_Fits.l1 k3 l1 l0 (l0.length : Int) (wrap64 (x47_3 + 1))) else (some 7)) = some r := by rw [if_pos rfl] at H; exact H
             clear H
             have H := H1
             clear H1
             by_cases c43 : t168 = true
             ·subst c43
              have H1 : (schema_Fits.l1 k3 l1 l0 (l0.length : Int) (wrap64 (x47_3 + 1))) = some r := by rw [if_pos rfl] at H; exact H
              clear H
              have H := H1
              clear H1
              have H' := Aside0.mk H
              clear H
              have p163 : 0 ≤ (x47_3 : Int) := odA
              have q163 : x47_3 < (l0.length : Int) := odA
              obtain ⟨ad163, e163, hx163_0, hx163_1, hx163_2⟩ := at_T35 HR0.out x47_3 p163 q163
              (try rw [← Nbq41.out] at hx163_2)
              cases e163
              replace hx163_0 := crA hx163_0
              replace hx163_1 := crA hx163_1
              replace hx163_2 := crA hx163_2
              replace p163 := eq_true p163
              replace q163 := eq_true q163
              go_wp2_with (first | ((with_reducible refine gate_dst (N := 10) rfl ?_); refine box_event ?hg (N := 10) ?hd (cs := #[.string (⟨#[]⟩ : ByteArray), .int .i64 0, .bool false]) (t := 35) ?hr ?_; (case hd => rfl); (case hg => rfl); (case hr => first | (go_simp; done) | (go_simp; rfl)); intro gb164 hg w44 hbox hb; have n0_ := Aside0.mk (below_step (bwA) hb); have n1_ := Aside0.mk (hbox); have n2_ := Aside0.mk ((by rw [hg]; exact (below_size (bwA)) : w.heap.size ≤ gb164)); have n3_ := Aside0.mk ((by rw [hg]; exact (below_size (bwA)) : w.heap.size ≤ gb164)); clear HB; have HB := n0_; have BK164 := n1_; have GW164 := n2_; have GE164 := n3_; clear n0_ n1_ n2_ n3_; clear hb hbox hg; have hcz45_0 : w44.cell? ⟨gb164, 0, none⟩ = some (.string (⟨#[]⟩ : ByteArray)) := (blk_cell BK164.out 0).trans rfl; have hcz45_1 : w44.cell? ⟨gb164, 1, none⟩ = some (.int .i64 0) := (blk_cell BK164.out 1).trans rfl; have hcz45_2 : w44.cell? ⟨gb164, 2, none⟩ = some (.bool false) := (blk_cell BK164.out 2).trans rfl; have hfz45_0 := blk_frozen BK164.out 0; have hfz45_1 := blk_frozen BK164.out 1; have hfz45_2 := blk_frozen BK164.out 2) | ((with_reducible refine gate_callee (f := 22) rfl ?_); refine goesA (some 55) Tryd.func22 #[.slice A1 l1.length c1, .string ((rd_T35 l0 x47_3).f0)] ?_; (with_reducible refine (schema_Get.calls _ _ l1 ((rd_T35 l0 x47_3).f0) t165 t166 t167 true _ ?side1 ?side2 ?side3 A40.out).mono ?_); (case side1 => exact Kd.C_below HR1.out (bwA)); (case side2 => exact HC1.out); (case side3 => exact Tabs.below HT.out (bwA)); rintro e w46 ⟨rfl, hb⟩; refine ⟨_, rfl, ?_⟩; have n0_ := Aside0.mk (blk_below (g := gb164) (o := .cells #[.string ((rd_T35 l0 x47_3).f0), .int .i64 ((rd_T35 l0 x47_3).f1), .bool true] 35 (0, 0)) (by (with_reducible repeat (first | refine blk_drewN ?_ _ | refine blk_drew ?_ | refine blk_alloc ?_ _)); refine blk_put (cs := #[.string ((rd_T35 l0 x47_3).f0), .int .i64 ((rd_T35 l0 x47_3).f1), .bool false]) ?_ 2 _ rfl; (with_reducible repeat (first | refine blk_drewN ?_ _ | refine blk_drew ?_ | refine blk_alloc ?_ _)); refine blk_put (cs := #[.string ((rd_T35 l0 x47_3).f0), .int .i64 0, .bool false]) ?_ 1 _ rfl; (with_reducible repeat (first | refine blk_drewN ?_ _ | refine blk_drew ?_ | refine blk_alloc ?_ _)); refine blk_put (cs := #[.string (⟨#[]⟩ : ByteArray), .int .i64 0, .bool false]) ?_ 0 _ rfl; (with_reducible repeat (first | refine blk_drewN ?_ _ | refine blk_drew ?_ | refine blk_alloc ?_ _)); exact BK164.out) hb); have n1_ := Aside0.mk (below_step (bwA) hb); clear BK164; clear HB; have BK164 := n0_; have HB := n1_; clear n0_ n1_; (try clear hb); (try clear hb2); (try clear hk); (try clear hi)) | ((with_reducible refine gate_dst (N := 11) rfl ?_); refine box_event ?hg (N := 11) ?hd (cs := #[.int .i64 0, .int .i64 0, .string (⟨#[]⟩ : ByteArray)]) (t := 39) ?hr ?_; (case hd => rfl); (case hg => rfl); (case hr => first | (go_simp; done) | (go_simp; rfl)); intro gb169 hg w47 hbox hb; have n0_ := Aside0.mk (blk_below (g := gb164) (o := .cells #[.string ((rd_T35 l0 x47_3).f0), .int .i64 ((rd_T35 l0 x47_3).f1), .bool true] 35 (0, 0)) blkA hb); have n1_ := Aside0.mk (below_step (bwA) hb); have n2_ := Aside0.mk (hbox); have n3_ := Aside0.mk ((by rw [hg]; exact (below_size (bwA)) : w.heap.size ≤ gb169)); have n4_ := Aside0.mk ((by rw [hg]; exact (below_size (bwA)) : w.heap.size ≤ gb169)); have n5_ := Aside0.mk ((by rw [hg]; exact Nat.ne_of_lt (blk_lt (g := gb164) (o := .cells #[.string ((rd_T35 l0 x47_3).f0), .int .i64 ((rd_T35 l0 x47_3).f1), .bool true] 35 (0, 0)) blkA) : gb164 ≠ gb169)); have n6_ := Aside0.mk ((by rw [hg]; exact Nat.ne_of_gt (blk_lt (g := gb164) (o := .cells #[.string ((rd_T35 l0 x47_3).f0), .int .i64 ((rd_T35 l0 x47_3).f1), .bool true] 35 (0, 0)) blkA) : gb169 ≠ gb164)); clear BK164; clear HB; have BK164 := n0_; have HB := n1_; have BK169 := n2_; have GW169 := n3_; have GE169 := n4_; have NB164_169 := n5_; have NB169_164 := n6_; clear n0_ n1_ n2_ n3_ n4_ n5_ n6_; clear hb hbox hg; have hnb48 := NB169_164.out; have hnc48 := NB164_169.out; have hcz49_0 : w47.cell? ⟨gb169, 0, none⟩ = some (.int .i64 0) := (blk_cell BK169.out 0).trans rfl; have hcz49_1 : w47.cell? ⟨gb169, 1, none⟩ = some (.int .i64 0) := (blk_cell BK169.out 1).trans rfl; have hcz49_2 : w47.cell? ⟨gb169, 2, none⟩ = some (.string (⟨#[]⟩ : ByteArray)) := (blk_cell BK169.out 2).trans rfl; have hfz49_0 := blk_frozen BK169.out 0; have hfz49_1 := blk_frozen BK169.out 1; have hfz49_2 := blk_frozen BK169.out 2; have hcz50_0 : w47.cell? ⟨gb164, 0, none⟩ = some (.string ((rd_T35 l0 x47_3).f0)) := (blk_cell BK164.out 0).trans rfl; have hcz50_1 : w47.cell? ⟨gb164, 1, none⟩ = some (.int .i64 ((rd_T35 l0 x47_3).f1)) := (blk_cell BK164.out 1).trans rfl; have hcz50_2 : w47.cell? ⟨gb164, 2, none⟩ = some (.bool true) := (blk_cell BK164.out 2).trans rfl; have hfz50_0 := blk_frozen BK164.out 0; have hfz50_1 := blk_frozen BK164.out 1; have hfz50_2 := blk_frozen BK164.out 2))
              go_roundg k3
              case measure => have := HJ2.out; have := HK2.out; have := HK3.out; omega
              case rel => exact ⟨(wrap64 (x47_3 + 1)), (endS), H', ⟨by have := HJ2.out; have := HK2.out; have := HK3.out; omega⟩, ⟨bwA⟩⟩
             ·replace c43 := Bool.eq_false_iff.mpr c43
              subst c43
              have H1 : (some 7) = some r := by rw [if_neg (show ¬ (false = true) by decide)] at H; exact H
              clear H
              have H := H1
              clear H1
              obtain rfl := Option.some.inj H
              have p163 : 0 ≤ (x47_3 : Int) := odA
              have q163 : x47_3 < (l0.length : Int) := odA
              obtain ⟨ad163, e163, hx163_0, hx163_1, hx163_2⟩ := at_T35 HR0.out x47_3 p163 q163
              (try rw [← Nbq41.out] at hx163_2)
              cases e163
              replace hx163_0 := crA hx163_0
              replace hx163_1 := crA hx163_1
              replace hx163_2 := crA hx163_2
              replace p163 := eq_true p163
              replace q163 := eq_true q163
              go_wp2_with (first | ((with_reducible refine gate_dst (N := 10) rfl ?_); refine box_event ?hg (N := 10) ?hd (cs := #[.string (⟨#[]⟩ : ByteArray), .int .i64 0, .bool false]) (t := 35) ?hr ?_; (case hd => rfl); (case hg => rfl); (case hr => first | (go_simp; done) | (go_simp; rfl)); intro gb164 hg w51 hbox hb; have n0_ := Aside0.mk (below_step (bwA) hb); have n1_ := Aside0.mk (hbox); have n2_ := Aside0.mk ((by rw [hg]; exact (below_size (bwA)) : w.heap.size ≤ gb164)); have n3_ := Aside0.mk ((by rw [hg]; exact (below_size (bwA)) : w.heap.size ≤ gb164)); clear HB; have HB := n0_; have BK164 := n1_; have GW164 := n2_; have GE164 := n3_; clear n0_ n1_ n2_ n3_; clear hb hbox hg; have hcz52_0 : w51.cell? ⟨gb164, 0, none⟩ = some (.string (⟨#[]⟩ : ByteArray)) := (blk_cell BK164.out 0).trans rfl; have hcz52_1 : w51.cell? ⟨gb164, 1, none⟩ = some (.int .i64 0) := (blk_cell BK164.out 1).trans rfl; have hcz52_2 : w51.cell? ⟨gb164, 2, none⟩ = some (.bool false) := (blk_cell BK164.out 2).trans rfl; have hfz52_0 := blk_frozen BK164.out 0; have hfz52_1 := blk_frozen BK164.out 1; have hfz52_2 := blk_frozen BK164.out 2) | ((with_reducible refine gate_callee (f := 22) rfl ?_); refine goesA (some 55) Tryd.func22 #[.slice A1 l1.length c1, .string ((rd_T35 l0 x47_3).f0)] ?_; (with_reducible refine (schema_Get.calls _ _ l1 ((rd_T35 l0 x47_3).f0) t165 t166 t167 false _ ?side1 ?side2 ?side3 A40.out).mono ?_); (case side1 => exact Kd.C_below HR1.out (bwA)); (case side2 => exact HC1.out); (case side3 => exact Tabs.below HT.out (bwA)); rintro e w53 ⟨rfl, hb⟩; refine ⟨_, rfl, ?_⟩; have n0_ := Aside0.mk (blk_below (g := gb164) (o := .cells #[.string ((rd_T35 l0 x47_3).f0), .int .i64 ((rd_T35 l0 x47_3).f1), .bool true] 35 (0, 0)) (by (with_reducible repeat (first | refine blk_drewN ?_ _ | refine blk_drew ?_ | refine blk_alloc ?_ _)); refine blk_put (cs := #[.string ((rd_T35 l0 x47_3).f0), .int .i64 ((rd_T35 l0 x47_3).f1), .bool false]) ?_ 2 _ rfl; (with_reducible repeat (first | refine blk_drewN ?_ _ | refine blk_drew ?_ | refine blk_alloc ?_ _)); refine blk_put (cs := #[.string ((rd_T35 l0 x47_3).f0), .int .i64 0, .bool false]) ?_ 1 _ rfl; (with_reducible repeat (first | refine blk_drewN ?_ _ | refine blk_drew ?_ | refine blk_alloc ?_ _)); refine blk_put (cs := #[.string (⟨#[]⟩ : ByteArray), .int .i64 0, .bool false]) ?_ 0 _ rfl; (with_reducible repeat (first | refine blk_drewN ?_ _ | refine blk_drew ?_ | refine blk_alloc ?_ _)); exact BK164.out) hb); have n1_ := Aside0.mk (below_step (bwA) hb); clear BK164; clear HB; have BK164 := n0_; have HB := n1_; clear n0_ n1_; (try clear hb); (try clear hb2); (try clear hk); (try clear hi)) | ((with_reducible refine gate_dst (N := 11) rfl ?_); refine box_event ?hg (N := 11) ?hd (cs := #[.int .i64 0, .int .i64 0, .string (⟨#[]⟩ : ByteArray)]) (t := 39) ?hr ?_; (case hd => rfl); (case hg => rfl); (case hr => first | (go_simp; done) | (go_simp; rfl)); intro gb169 hg w54 hbox hb; have n0_ := Aside0.mk (blk_below (g := gb164) (o := .cells #[.string ((rd_T35 l0 x47_3).f0), .int .i64 ((rd_T35 l0 x47_3).f1), .bool true] 35 (0, 0)) blkA hb); have n1_ := Aside0.mk (below_step (bwA) hb); have n2_ := Aside0.mk (hbox); have n3_ := Aside0.mk ((by rw [hg]; exact (below_size (bwA)) : w.heap.size ≤ gb169)); have n4_ := Aside0.mk ((by rw [hg]; exact (below_size (bwA)) : w.heap.size ≤ gb169)); have n5_ := Aside0.mk ((by rw [hg]; exact Nat.ne_of_lt (blk_lt (g := gb164) (o := .cells #[.string ((rd_T35 l0 x47_3).f0), .int .i64 ((rd_T35 l0 x47_3).f1), .bool true] 35 (0, 0)) blkA) : gb164 ≠ gb169)); have n6_ := Aside0.mk ((by rw [hg]; exact Nat.ne_of_gt (blk_lt (g := gb164) (o := .cells #[.string ((rd_T35 l0 x47_3).f0), .int .i64 ((rd_T35 l0 x47_3).f1), .bool true] 35 (0, 0)) blkA) : gb169 ≠ gb164)); clear BK164; clear HB; have BK164 := n0_; have HB := n1_; have BK169 := n2_; have GW169 := n3_; have GE169 := n4_; have NB164_169 := n5_; have NB169_164 := n6_; clear n0_ n1_ n2_ n3_ n4_ n5_ n6_; clear hb hbox hg; have hnb55 := NB169_164.out; have hnc55 := NB164_169.out; have hcz56_0 : w54.cell? ⟨gb169, 0, none⟩ = some (.int .i64 0) := (blk_cell BK169.out 0).trans rfl; have hcz56_1 : w54.cell? ⟨gb169, 1, none⟩ = some (.int .i64 0) := (blk_cell BK169.out 1).trans rfl; have hcz56_2 : w54.cell? ⟨gb169, 2, none⟩ = some (.string (⟨#[]⟩ : ByteArray)) := (blk_cell BK169.out 2).trans rfl; have hfz56_0 := blk_frozen BK169.out 0; have hfz56_1 := blk_frozen BK169.out 1; have hfz56_2 := blk_frozen BK169.out 2; have hcz57_0 : w54.cell? ⟨gb164, 0, none⟩ = some (.string ((rd_T35 l0 x47_3).f0)) := (blk_cell BK164.out 0).trans rfl; have hcz57_1 : w54.cell? ⟨gb164, 1, none⟩ = some (.int .i64 ((rd_T35 l0 x47_3).f1)) := (blk_cell BK164.out 1).trans rfl; have hcz57_2 : w54.cell? ⟨gb164, 2, none⟩ = some (.bool true) := (blk_cell BK164.out 2).trans rfl; have hfz57_0 := blk_frozen BK164.out 0; have hfz57_1 := blk_frozen BK164.out 1; have hfz57_2 := blk_frozen BK164.out 2))
              go_ret
              exact ⟨endA, bwA⟩
            ·replace c42 := Bool.eq_false_iff.mpr c42
             subst c42
             have H1 : (schema_Fits.l1 k3 l1 l0 (l0.length : Int) (wrap64 (x47_3 + 1))) = some r := by rw [if_neg (show ¬ (false = true) by decide)] at H; exact H
             clear H
             have H := H1
             clear H1
             have H' := Aside0.mk H
             clear H
             have p163 : 0 ≤ (x47_3 : Int) := odA
             have q163 : x47_3 < (l0.length : Int) := odA
             obtain ⟨ad163, e163, hx163_0, hx163_1, hx163_2⟩ := at_T35 HR0.out x47_3 p163 q163
             (try rw [← Nbq41.out] at hx163_2)
             cases e163
             replace hx163_0 := crA hx163_0
             replace hx163_1 := crA hx163_1
             replace hx163_2 := crA hx163_2
             replace p163 := eq_true p163
             replace q163 := eq_true q163
             go_wp2_with (first | ((with_reducible refine gate_dst (N := 10) rfl ?_); refine box_event ?hg (N := 10) ?hd (cs := #[.string (⟨#[]⟩ : ByteArray), .int .i64 0, .bool false]) (t := 35) ?hr ?_; (case hd => rfl); (case hg => rfl); (case hr => first | (go_simp; done) | (go_simp; rfl)); intro gb164 hg w58 hbox hb; have n0_ := Aside0.mk (below_step (bwA) hb); have n1_ := Aside0.mk (hbox); have n2_ := Aside0.mk ((by rw [hg]; exact (below_size (bwA)) : w.heap.size ≤ gb164)); have n3_ := Aside0.mk ((by rw [hg]; exact (below_size (bwA)) : w.heap.size ≤ gb164)); clear HB; have HB := n0_; have BK164 := n1_; have GW164 := n2_; have GE164 := n3_; clear n0_ n1_ n2_ n3_; clear hb hbox hg; have hcz59_0 : w58.cell? ⟨gb164, 0, none⟩ = some (.string (⟨#[]⟩ : ByteArray)) := (blk_cell BK164.out 0).trans rfl; have hcz59_1 : w58.cell? ⟨gb164, 1, none⟩ = some (.int .i64 0) := (blk_cell BK164.out 1).trans rfl; have hcz59_2 : w58.cell? ⟨gb164, 2, none⟩ = some (.bool false) := (blk_cell BK164.out 2).trans rfl; have hfz59_0 := blk_frozen BK164.out 0; have hfz59_1 := blk_frozen BK164.out 1; have hfz59_2 := blk_frozen BK164.out 2) | ((with_reducible refine gate_callee (f := 22) rfl ?_); refine goesA (some 55) Tryd.func22 #[.slice A1 l1.length c1, .string ((rd_T35 l0 x47_3).f0)] ?_; (with_reducible refine (schema_Get.calls _ _ l1 ((rd_T35 l0 x47_3).f0) t165 t166 t167 t168 _ ?side1 ?side2 ?side3 A40.out).mono ?_); (case side1 => exact Kd.C_below HR1.out (bwA)); (case side2 => exact HC1.out); (case side3 => exact Tabs.below HT.out (bwA)); rintro e w60 ⟨rfl, hb⟩; refine ⟨_, rfl, ?_⟩; have n0_ := Aside0.mk (blk_below (g := gb164) (o := .cells #[.string ((rd_T35 l0 x47_3).f0), .int .i64 ((rd_T35 l0 x47_3).f1), .bool false] 35 (0, 0)) (by (with_reducible repeat (first | refine blk_drewN ?_ _ | refine blk_drew ?_ | refine blk_alloc ?_ _)); refine blk_put (cs := #[.string ((rd_T35 l0 x47_3).f0), .int .i64 ((rd_T35 l0 x47_3).f1), .bool false]) ?_ 2 _ rfl; (with_reducible repeat (first | refine blk_drewN ?_ _ | refine blk_drew ?_ | refine blk_alloc ?_ _)); refine blk_put (cs := #[.string ((rd_T35 l0 x47_3).f0), .int .i64 0, .bool false]) ?_ 1 _ rfl; (with_reducible repeat (first | refine blk_drewN ?_ _ | refine blk_drew ?_ | refine blk_alloc ?_ _)); refine blk_put (cs := #[.string (⟨#[]⟩ : ByteArray), .int .i64 0, .bool false]) ?_ 0 _ rfl; (with_reducible repeat (first | refine blk_drewN ?_ _ | refine blk_drew ?_ | refine blk_alloc ?_ _)); exact BK164.out) hb); have n1_ := Aside0.mk (below_step (bwA) hb); clear BK164; clear HB; have BK164 := n0_; have HB := n1_; clear n0_ n1_; (try clear hb); (try clear hb2); (try clear hk); (try clear hi)) | ((with_reducible refine gate_dst (N := 11) rfl ?_); refine box_event ?hg (N := 11) ?hd (cs := #[.int .i64 0, .int .i64 0, .string (⟨#[]⟩ : ByteArray)]) (t := 39) ?hr ?_; (case hd => rfl); (case hg => rfl); (case hr => first | (go_simp; done) | (go_simp; rfl)); intro gb169 hg w61 hbox hb; have n0_ := Aside0.mk (blk_below (g := gb164) (o := .cells #[.string ((rd_T35 l0 x47_3).f0), .int .i64 ((rd_T35 l0 x47_3).f1), .bool false] 35 (0, 0)) blkA hb); have n1_ := Aside0.mk (below_step (bwA) hb); have n2_ := Aside0.mk (hbox); have n3_ := Aside0.mk ((by rw [hg]; exact (below_size (bwA)) : w.heap.size ≤ gb169)); have n4_ := Aside0.mk ((by rw [hg]; exact (below_size (bwA)) : w.heap.size ≤ gb169)); have n5_ := Aside0.mk ((by rw [hg]; exact Nat.ne_of_lt (blk_lt (g := gb164) (o := .cells #[.string ((rd_T35 l0 x47_3).f0), .int .i64 ((rd_T35 l0 x47_3).f1), .bool false] 35 (0, 0)) blkA) : gb164 ≠ gb169)); have n6_ := Aside0.mk ((by rw [hg]; exact Nat.ne_of_gt (blk_lt (g := gb164) (o := .cells #[.string ((rd_T35 l0 x47_3).f0), .int .i64 ((rd_T35 l0 x47_3).f1), .bool false] 35 (0, 0)) blkA) : gb169 ≠ gb164)); clear BK164; clear HB; have BK164 := n0_; have HB := n1_; have BK169 := n2_; have GW169 := n3_; have GE169 := n4_; have NB164_169 := n5_; have NB169_164 := n6_; clear n0_ n1_ n2_ n3_ n4_ n5_ n6_; clear hb hbox hg; have hnb62 := NB169_164.out; have hnc62 := NB164_169.out; have hcz63_0 : w61.cell? ⟨gb169, 0, none⟩ = some (.int .i64 0) := (blk_cell BK169.out 0).trans rfl; have hcz63_1 : w61.cell? ⟨gb169, 1, none⟩ = some (.int .i64 0) := (blk_cell BK169.out 1).trans rfl; have hcz63_2 : w61.cell? ⟨gb169, 2, none⟩ = some (.string (⟨#[]⟩ : ByteArray)) := (blk_cell BK169.out 2).trans rfl; have hfz63_0 := blk_frozen BK169.out 0; have hfz63_1 := blk_frozen BK169.out 1; have hfz63_2 := blk_frozen BK169.out 2; have hcz64_0 : w61.cell? ⟨gb164, 0, none⟩ = some (.string ((rd_T35 l0 x47_3).f0)) := (blk_cell BK164.out 0).trans rfl; have hcz64_1 : w61.cell? ⟨gb164, 1, none⟩ = some (.int .i64 ((rd_T35 l0 x47_3).f1)) := (blk_cell BK164.out 1).trans rfl; have hcz64_2 : w61.cell? ⟨gb164, 2, none⟩ = some (.bool false) := (blk_cell BK164.out 2).trans rfl; have hfz64_0 := blk_frozen BK164.out 0; have hfz64_1 := blk_frozen BK164.out 1; have hfz64_2 := blk_frozen BK164.out 2))
             go_roundg k3
             case measure => have := HJ2.out; have := HK2.out; have := HK3.out; omega
             case rel => exact ⟨(wrap64 (x47_3 + 1)), (endS), H', ⟨by have := HJ2.out; have := HK2.out; have := HK3.out; omega⟩, ⟨bwA⟩⟩
           ·rw [if_neg c39] at H
            exact absurd H (by simp)
          ·rw [if_neg c38] at H
           exact absurd H (by simp)
         ·rw [if_neg c37] at H
          have c37b0 : decide (x47_3 < (l0.length : Int)) = false := decide_eq_false c37
          clear c37
          obtain rfl := Option.some.inj H
          go_wp2
          go_ret
          exact ⟨endA, bwA⟩

/-! ### strings_Cut: function 24, by hand -/
def strings_Cut.f (a0 : ByteArray) (a1 : ByteArray) : Option (ByteArray × ByteArray × Bool) := if a0.size < 4294967281 then some (⟨(Lib.cut a0.data.toList a1.data.toList).1.toArray⟩, ⟨(Lib.cut a0.data.toList a1.data.toList).2.1.toArray⟩, (Lib.cut a0.data.toList a1.data.toList).2.2) else none
theorem strings_Cut.calls (a0 : ByteArray) (a1 : ByteArray) (r1 : ByteArray) (r2 : ByteArray) (r3 : Bool) (w : World) (hT : Tabs w) (h : strings_Cut.f a0 a1 = some (r1, r2, r3)) :
  Calls Tryd.prog 24 #[.string a0, .string a1] w fun e w' => e = .returned (.tuple #[.string r1, .string r2, .bool r3]) ∧ Drawn0 w w' := by
 unfold strings_Cut.f at h
 split at h
 ·rename_i hs
  have h := Option.some.inj h
  simp only [Prod.mk.injEq] at h
  obtain ⟨rfl, rfl, rfl⟩ := h
  obtain ⟨m, hm⟩ := hT.ml
  exact (Tryd.strings_Cut a0 a1 m w hs hm).mono fun e w' ⟨he, n, hw⟩ => ⟨he, ⟨n, hw⟩⟩
 ·cases h

end Go.Proofs.YtbbfggfiknbdmaaDoor.A
