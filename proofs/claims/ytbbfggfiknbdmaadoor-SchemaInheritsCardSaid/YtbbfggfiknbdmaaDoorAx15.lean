-- By drv.py, the session's own driver round the kit's print: the machine's side of the laws, function by function. Not trusted: Lean checks it.
import Derived.Test.YtbbfggfiknbdmaaDoorAx0
import Derived.Test.YtbbfggfiknbdmaaDoorAx3
import Derived.Test.YtbbfggfiknbdmaaDoorAx6
import Derived.Test.YtbbfggfiknbdmaaDoorAx11
import Derived.Test.YtbbfggfiknbdmaaDoorAx13
import Derived.Test.YtbbfggfiknbdmaaDoorAx14
namespace Go.Proofs.YtbbfggfiknbdmaaDoor.A
open Go.RowKit Go.Proofs.YtbbfggfiknbdmaaDoorW.PrintWords Go.Proofs.YtbbfggfiknbdmaaDoorW.PrintLast Go.Proofs.YtbbfggfiknbdmaaDoorW.PrintMore
attribute [local go_sem] max2_int min2_int max_two min_two max_three min_three max_four min_four   -- for this text's walks alone
set_option linter.unusedVariables false
set_option linter.unusedSimpArgs false

/-! ### schema_Show: function 27 -/
def schema_Show.l0 : Nat → List ByteArray → List (S35) → Int → Int → Option (ByteArray)
 | 0, _, _, _, _ => none
 | k + 1, x3, x12, x13, x14 => if x14 < x13 then (if 0 ≤ x14 then (if x14 < (x12.length : Int) then ((schema_line.f ((rd_T35 x12 x14).f0) ((rd_T35 x12 x14).f1) ((rd_T35 x12 x14).f2)).bind fun t179 => (if x3.length < 8796093022208 then (schema_Show.l0 k (x3 ++ [t179]) x12 x13 (wrap64 (x14 + 1))) else (none))) else (none)) else (none)) else ((strings_Join.f x3 (⟨#[44, 32]⟩ : ByteArray)).bind fun t183 => (some t183))
def schema_Show.f (k : Nat) (l0 : List (S35)) : Option (ByteArray) := (schema_Check.f k l0).bind fun t176 => (if t176 = true then (if (l0.length : Int) = 0 then (some (⟨#[45]⟩ : ByteArray)) else (schema_Show.l0 k ([] : List ByteArray) l0 (l0.length : Int) 0)) else (some (⟨#[]⟩ : ByteArray)))
theorem schema_Show.mono_l : ∀ k, (∀ y0 y1 y2 y3, LeO (schema_Show.l0 k y0 y1 y2 y3) (schema_Show.l0 (k + 1) y0 y1 y2 y3))
 | 0 => fun _ _ _ _ r h => by simp [schema_Show.l0] at h
 | k + 1 => by
  have ih0 := schema_Show.mono_l k
  ·intro y0 y1 y2 y3
   unfold schema_Show.l0
   repeat' first
   | (with_reducible exact ih0 _ _ _ _)
   | (with_reducible exact schema_Check.mono _ _)
   | (with_reducible exact LeO.refl _)
   | (with_reducible exact LeO.none _)
   | (with_reducible refine LeO.ite ?_ ?_)
   | (with_reducible refine LeO.bind ?_ (fun _ => ?_))
   | exact ih0 _ _ _ _
   | exact schema_Check.mono _ _
   | exact LeO.none _
   | refine LeO.ite ?_ ?_
   | refine LeO.bind ?_ (fun _ => ?_)
theorem schema_Show.mono : ∀ a0 k, LeO (schema_Show.f k a0) (schema_Show.f (k + 1) a0) := by
 intro a0 k
 have ih0 := schema_Show.mono_l k
 unfold schema_Show.f
 repeat' first
   | (with_reducible exact ih0 _ _ _ _)
   | (with_reducible exact schema_Check.mono _ _)
   | (with_reducible exact LeO.refl _)
   | (with_reducible exact LeO.none _)
   | (with_reducible refine LeO.ite ?_ ?_)
   | (with_reducible refine LeO.bind ?_ (fun _ => ?_))
   | exact ih0 _ _ _ _
   | exact schema_Check.mono _ _
   | exact LeO.none _
   | refine LeO.ite ?_ ?_
   | refine LeO.bind ?_ (fun _ => ?_)
set_option maxHeartbeats 8000000 in
set_option maxRecDepth 100000 in
theorem schema_Show.calls (k : Nat) (A0 : Option Addr) (c0 : Nat) (l0 : List (S35)) (r : ByteArray) (w : World) (hr0 : Kd.C k35 w A0 l0.length l0) (hc0 : l0.length ≤ c0) (hT : Tabs w) (h : schema_Show.f k l0 = some r) :
  Calls Tryd.prog 27 #[.slice A0 l0.length c0] w fun e w' => e = .returned (.string r) ∧ Below w.heap.size w w' := by
 have hu35 := Tryd.underlying35
 have HR0 := Aside0.mk hr0
 have HC0 := Aside0.mk hc0
 clear hr0 hc0
 have HB := Aside0.mk (Below.refl w.heap.size w)
 have H : ((schema_Check.f k l0).bind fun t176 => (if t176 = true then (if (l0.length : Int) = 0 then (some (⟨#[45]⟩ : ByteArray)) else (schema_Show.l0 k ([] : List ByteArray) l0 (l0.length : Int) 0)) else (some (⟨#[]⟩ : ByteArray)))) = some r := h
 clear h
 have HT := Aside0.mk hT
 clear hT
 replace H := Option.bind_eq_some_iff.mp H
 obtain ⟨t176, A20, H⟩ := H
 replace H : (if t176 = true then (if (l0.length : Int) = 0 then (some (⟨#[45]⟩ : ByteArray)) else (schema_Show.l0 k ([] : List ByteArray) l0 (l0.length : Int) 0)) else (some (⟨#[]⟩ : ByteArray))) = some r := H
 have A2 := Aside0.mk A20
 clear A20
 by_cases c3 : t176 = true
 ·subst c3
  have H1 : (if (l0.length : Int) = 0 then (some (⟨#[45]⟩ : ByteArray)) else (schema_Show.l0 k ([] : List ByteArray) l0 (l0.length : Int) 0)) = some r := by rw [if_pos rfl] at H; exact H
  clear H
  have H := H1
  clear H1
  by_cases c4 : (l0.length : Int) = 0
  ·rw [if_pos c4] at H
   have c4b0 : ((l0.length : Int) == 0) = true := beq_iff_eq.mpr c4
   have c4b1 : ((l0.length : Int) != 0) = false := bne_eq_false_iff_eq.mpr c4
   clear c4
   obtain rfl := Option.some.inj H
   go_enter Tryd.func27, Tryd.ntmps27
   go_wp2_with (first | ((with_reducible refine gate_callee (f := 15) rfl ?_); refine goesA (some 7) Tryd.func15 #[.slice A0 l0.length c0] ?_; (with_reducible refine (schema_Check.calls k _ _ l0 true _ ?side1 ?side2 ?side3 A2.out).mono ?_); (case side1 => repeat (first | exact HR0.out | (with_reducible refine Kd.C_alloc ?_ _) | (with_reducible refine Kd.C_drewN ?_ _) | (with_reducible refine Kd.C_drew ?_))); (case side2 => exact HC0.out); (case side3 => exact Tabs.below HT.out (bwA)); rintro e w5 ⟨rfl, hb⟩; refine ⟨_, rfl, ?_⟩; have n0_ := Aside0.mk (below_step (bwA) hb); clear HB; have HB := n0_; clear n0_; (try clear hb); (try clear hb2); (try clear hk); (try clear hi)))
   go_ret
   exact ⟨endA, bwA⟩
  ·rw [if_neg c4] at H
   have c4b0 : ((l0.length : Int) == 0) = false := beq_eq_false_iff_ne.mpr c4
   have c4b1 : ((l0.length : Int) != 0) = true := bne_iff_ne.mpr c4
   have c4b2 : ¬ (l0 = []) := fun h_ => c4 (by rw [h_]; rfl)
   have H' := Aside0.mk H
   clear H
   go_enter Tryd.func27, Tryd.ntmps27
   go_wp2_with (first | ((with_reducible refine gate_callee (f := 15) rfl ?_); refine goesA (some 7) Tryd.func15 #[.slice A0 l0.length c0] ?_; (with_reducible refine (schema_Check.calls k _ _ l0 true _ ?side1 ?side2 ?side3 A2.out).mono ?_); (case side1 => repeat (first | exact HR0.out | (with_reducible refine Kd.C_alloc ?_ _) | (with_reducible refine Kd.C_drewN ?_ _) | (with_reducible refine Kd.C_drew ?_))); (case side2 => exact HC0.out); (case side3 => exact Tabs.below HT.out (bwA)); rintro e w6 ⟨rfl, hb⟩; refine ⟨_, rfl, ?_⟩; have n0_ := Aside0.mk (below_step (bwA) hb); clear HB; have HB := n0_; clear n0_; (try clear hb); (try clear hb2); (try clear hk); (try clear hi)))
   go_loopg [3, 14] k (fun kq v3 v14 w' => ∃ (x3_1 : List ByteArray) (x14_1 : Int), v14 = .int .i64 x14_1 ∧ Aside0 (schema_Show.l0 kq x3_1 l0 (l0.length : Int) x14_1 = some r) ∧ Aside0 (kq ≤ k) ∧ Aside0 (Kd.R Kd.string 9 w' w.heap.size (fun _ => True) v3 x3_1) ∧ Aside0 (Below w.heap.size w w'))
   case atStart => exact ⟨(([] : List ByteArray)), (0), (endS), H', ⟨Nat.le_refl _⟩, ⟨by first | exact Kd.R_nil _ _ _ _ _ | exact Kd.N_nil _ _ _ _ _ | exact Kd.V_nil _ _ _ _ _ | exact Kd.Q_nil _ _ _ _ _ | exact Kd.S_nil _ _ _ _ _⟩, ⟨bwA⟩⟩
   case round =>
    clear H'
    try clear c1
    try clear c2
    try clear p2
    try clear c3
    try clear c4
    try clear c4b0
    try clear c4b1
    try clear c4b2
    obtain ⟨x3_1, x14_1, rfl, HA, HK1, HO_3, HB⟩ := hrel
    cases gk with
    | zero => exact absurd HA.out (by simp [schema_Show.l0])
    | succ k1 =>
     have H := HA.out
     clear HA
     simp only [schema_Show.l0] at H
     by_cases c7 : x14_1 < (l0.length : Int)
     ·rw [if_pos c7] at H
      have c7b0 : decide (x14_1 < (l0.length : Int)) = true := decide_eq_true c7
      clear c7
      by_cases c8 : 0 ≤ x14_1
      ·rw [if_pos c8] at H
       have c8b0 : decide (0 ≤ x14_1) = true := decide_eq_true c8
       clear c8
       by_cases c9 : x14_1 < (l0.length : Int)
       ·rw [if_pos c9] at H
        have c9b0 : decide (x14_1 < (l0.length : Int)) = true := decide_eq_true c9
        clear c9
        replace H := Option.bind_eq_some_iff.mp H
        obtain ⟨t179, A100, H⟩ := H
        replace H : (if x3_1.length < 8796093022208 then (schema_Show.l0 k1 (x3_1 ++ [t179]) l0 (l0.length : Int) (wrap64 (x14_1 + 1))) else (none)) = some r := H
        have A10 := Aside0.mk A100
        clear A100
        by_cases c11 : x3_1.length < 8796093022208
        ·rw [if_pos c11] at H
         have LMc11 := Aside0.mk c11
         clear c11
         obtain ⟨y180, hy180⟩ : ∃ y_ : List ByteArray, y_ = (x3_1 ++ [t179]) := ⟨_, rfl⟩
         replace H : (schema_Show.l0 k1 y180 l0 (l0.length : Int) (wrap64 (x14_1 + 1))) = some r := by first | (rw [hy180]; with_reducible exact H) | (have H2_ := (Option.bind_some _ _).symm.trans H; rw [hy180]; with_reducible exact H2_) | (have H2_ := (Option.bind_some _ _).symm.trans H; with_reducible exact H2_) | with_reducible exact H | (rw [hy180]; exact H) | exact H
         have Ny180 := Aside0.mk hy180
         clear hy180
         have H' := Aside0.mk H
         clear H
         have p177 : 0 ≤ (x14_1 : Int) := odA
         have q177 : x14_1 < (l0.length : Int) := odA
         obtain ⟨ad177, e177, hx177_0, hx177_1, hx177_2⟩ := at_T35 HR0.out x14_1 p177 q177
         cases e177
         replace hx177_0 := crA hx177_0
         replace hx177_1 := crA hx177_1
         replace hx177_2 := crA hx177_2
         replace p177 := eq_true p177
         replace q177 := eq_true q177
         go_wp2_with (first | ((with_reducible refine gate_dst (N := 5) rfl ?_); refine box_event ?hg (N := 5) ?hd (cs := #[.string (⟨#[]⟩ : ByteArray), .int .i64 0, .bool false]) (t := 35) ?hr ?_; (case hd => rfl); (case hg => rfl); (case hr => first | (go_simp; done) | (go_simp; rfl)); intro gb178 hg w12 hbox hb; have n0_ := Aside0.mk (Kd.R_below (by (with_reducible repeat (first | apply Kd.R_alloc | apply Kd.R_drewN | apply Kd.R_drew)); exact HO_3.out) hb); have n1_ := Aside0.mk (below_step (bwA) hb); have n2_ := Aside0.mk (hbox); have n3_ := Aside0.mk ((by rw [hg]; exact (below_size (bwA)) : w.heap.size ≤ gb178)); have n4_ := Aside0.mk ((by rw [hg]; exact (below_size (bwA)) : w.heap.size ≤ gb178)); clear HO_3; clear HB; have HO_3 := n0_; have HB := n1_; have BK178 := n2_; have GW178 := n3_; have GE178 := n4_; clear n0_ n1_ n2_ n3_ n4_; clear hb hbox hg; have hcz13_0 : w12.cell? ⟨gb178, 0, none⟩ = some (.string (⟨#[]⟩ : ByteArray)) := (blk_cell BK178.out 0).trans rfl; have hcz13_1 : w12.cell? ⟨gb178, 1, none⟩ = some (.int .i64 0) := (blk_cell BK178.out 1).trans rfl; have hcz13_2 : w12.cell? ⟨gb178, 2, none⟩ = some (.bool false) := (blk_cell BK178.out 2).trans rfl; have hfz13_0 := blk_frozen BK178.out 0; have hfz13_1 := blk_frozen BK178.out 1; have hfz13_2 := blk_frozen BK178.out 2) | ((with_reducible refine gate_callee (f := 46) rfl ?_); refine goesA (some 20) Tryd.func46 #[.agg #[.string ((rd_T35 l0 x14_1).f0), .int .i64 ((rd_T35 l0 x14_1).f1), .bool ((rd_T35 l0 x14_1).f2)]] ?_; (with_reducible refine (schema_line.calls ((rd_T35 l0 x14_1).f0) ((rd_T35 l0 x14_1).f1) ((rd_T35 l0 x14_1).f2) t179 _ A10.out).mono ?_); rintro e w14 ⟨rfl, hb⟩; refine ⟨_, rfl, ?_⟩; have n0_ := Aside0.mk (Kd.R_below (by (with_reducible repeat (first | apply Kd.R_alloc | apply Kd.R_drewN | apply Kd.R_drew)); exact (Kd.R_mono (Kd.R_far (p := ⟨gb178, 2, none⟩) (Kd.R_far (p := ⟨gb178, 1, none⟩) (Kd.R_far (p := ⟨gb178, 0, none⟩) (Kd.R_types HO_3.out BK178.out (by decide)) (fun _ hk => hk.2) (.string ((rd_T35 l0 x14_1).f0))) (fun _ hk => hk.2) (.int .i64 ((rd_T35 l0 x14_1).f1))) (fun _ hk => hk.2) (.bool ((rd_T35 l0 x14_1).f2))) (fun _ h_ => h_.1))) hb); have n1_ := Aside0.mk (blk_below (g := gb178) (o := .cells #[.string ((rd_T35 l0 x14_1).f0), .int .i64 ((rd_T35 l0 x14_1).f1), .bool ((rd_T35 l0 x14_1).f2)] 35 (0, 0)) (by (with_reducible repeat (first | refine blk_drewN ?_ _ | refine blk_drew ?_ | refine blk_alloc ?_ _)); refine blk_put (cs := #[.string ((rd_T35 l0 x14_1).f0), .int .i64 ((rd_T35 l0 x14_1).f1), .bool false]) ?_ 2 _ rfl; (with_reducible repeat (first | refine blk_drewN ?_ _ | refine blk_drew ?_ | refine blk_alloc ?_ _)); refine blk_put (cs := #[.string ((rd_T35 l0 x14_1).f0), .int .i64 0, .bool false]) ?_ 1 _ rfl; (with_reducible repeat (first | refine blk_drewN ?_ _ | refine blk_drew ?_ | refine blk_alloc ?_ _)); refine blk_put (cs := #[.string (⟨#[]⟩ : ByteArray), .int .i64 0, .bool false]) ?_ 0 _ rfl; (with_reducible repeat (first | refine blk_drewN ?_ _ | refine blk_drew ?_ | refine blk_alloc ?_ _)); exact BK178.out) hb); have n2_ := Aside0.mk (below_step (bwA) hb); clear HO_3; clear BK178; clear HB; have HO_3 := n0_; have BK178 := n1_; have HB := n2_; clear n0_ n1_ n2_; (try clear hb); (try clear hb2); (try clear hk); (try clear hi)) | ((with_reducible refine gate_builtin (b := .append) (xs := #[.tmp 18, .tmp 21]) rfl ?_); at_builtin; refine Kd.R_append Kd.string (w0 := w) w.heap.size rfl (.tmp 18) (.tmp 21) 54 9 (.string ⟨#[]⟩) 16 rfl Tryd.underlying54 info9 rfl (by decide) (by omega) u3 x3_1 t179 [.string t179] (fun _ => True) (fun _ => False) rfl rfl ?aP (fun _ hk => hk.elim) ?aF ?aO ?aB ?aS ?aL ?_; (case aP => exact rfl); (case aB => exact (bwA)); (case aF => exact (fun _ _ => trivial)); (case aO => exact (by (with_reducible repeat (first | apply Kd.R_alloc | apply Kd.R_drewN | apply Kd.R_drew)); exact HO_3.out)); (case aS => exact (below_size (bwA))); (case aL => have := LMc11.out; omega); intro v181 w15 ho hb hg hat; rw [← Ny180.out] at ho; have n0_ := Aside0.mk (blk_grown (g := gb178) (o := .cells #[.string ((rd_T35 l0 x14_1).f0), .int .i64 ((rd_T35 l0 x14_1).f1), .bool ((rd_T35 l0 x14_1).f2)] 35 (0, 0)) blkA hg (Kd.R_ne HO_3.out BK178.out (by decide))); have n1_ := Aside0.mk (hb); have n2_ := Aside0.mk (ho); clear BK178; clear HB; clear HO_3; have BK178 := n0_; have HB := n1_; have HO182 := n2_; clear n0_ n1_ n2_; clear ho hb hg hat))
         go_roundg k1
         case measure => have := HK1.out; omega
         case rel => exact ⟨(y180), (wrap64 (x14_1 + 1)), (endS), H', ⟨by have := HK1.out; omega⟩, ⟨by (with_reducible repeat (first | apply Kd.R_alloc | apply Kd.R_drewN | apply Kd.R_drew)); exact HO182.out⟩, ⟨bwA⟩⟩
        ·rw [if_neg c11] at H
         exact absurd H (by simp)
       ·rw [if_neg c9] at H
        exact absurd H (by simp)
      ·rw [if_neg c8] at H
       exact absurd H (by simp)
     ·rw [if_neg c7] at H
      have c7b0 : decide (x14_1 < (l0.length : Int)) = false := decide_eq_false c7
      clear c7
      replace H := Option.bind_eq_some_iff.mp H
      obtain ⟨t183, A160, H⟩ := H
      replace H : (some t183) = some r := H
      have A16 := Aside0.mk A160
      clear A160
      obtain rfl := Option.some.inj H
      obtain ⟨Ao17, co17, eo17⟩ := Kd.R_slice HO_3.out
      subst eo17
      go_wp2_with (first | ((with_reducible refine gate_callee (f := 47) rfl ?_); refine goesA (some 25) Tryd.func47 #[.slice Ao17 x3_1.length co17, .string (⟨#[44, 32]⟩ : ByteArray)] ?_; (with_reducible refine (strings_Join.calls _ _ x3_1 (⟨#[44, 32]⟩ : ByteArray) t183 _ ?side1 ?side2 A16.out).mono ?_); (case side1 => repeat (first | exact (Kd.R_reads' HO_3.out).2.2 | (with_reducible refine Kd.C_alloc ?_ _) | (with_reducible refine Kd.C_drewN ?_ _) | (with_reducible refine Kd.C_drew ?_))); (case side2 => exact (Kd.R_reads' HO_3.out).2.1); rintro e w18 ⟨rfl, hb⟩; refine ⟨_, rfl, ?_⟩; have n0_ := Aside0.mk (Kd.R_below (by (with_reducible repeat (first | apply Kd.R_alloc | apply Kd.R_drewN | apply Kd.R_drew)); exact HO_3.out) hb); have n1_ := Aside0.mk (below_step (bwA) hb); clear HO_3; clear HB; have HO_3 := n0_; have HB := n1_; clear n0_ n1_; (try clear hb); (try clear hb2); (try clear hk); (try clear hi)))
      go_ret
      exact ⟨endA, bwA⟩
 ·replace c3 := Bool.eq_false_iff.mpr c3
  subst c3
  have H1 : (some (⟨#[]⟩ : ByteArray)) = some r := by rw [if_neg (show ¬ (false = true) by decide)] at H; exact H
  clear H
  have H := H1
  clear H1
  obtain rfl := Option.some.inj H
  go_enter Tryd.func27, Tryd.ntmps27
  go_wp2_with (first | ((with_reducible refine gate_callee (f := 15) rfl ?_); refine goesA (some 7) Tryd.func15 #[.slice A0 l0.length c0] ?_; (with_reducible refine (schema_Check.calls k _ _ l0 false _ ?side1 ?side2 ?side3 A2.out).mono ?_); (case side1 => repeat (first | exact HR0.out | (with_reducible refine Kd.C_alloc ?_ _) | (with_reducible refine Kd.C_drewN ?_ _) | (with_reducible refine Kd.C_drew ?_))); (case side2 => exact HC0.out); (case side3 => exact Tabs.below HT.out (bwA)); rintro e w19 ⟨rfl, hb⟩; refine ⟨_, rfl, ?_⟩; have n0_ := Aside0.mk (below_step (bwA) hb); clear HB; have HB := n0_; clear n0_; (try clear hb); (try clear hb2); (try clear hk); (try clear hi)))
  go_ret
  exact ⟨endA, bwA⟩

/-! ### schema_Parse: function 12 -/
def schema_Parse.l0 : Nat → ByteArray → List (S35) → List ByteArray → Int → Int → Option ((List (S35)) × Int)
 | 0, _, _, _, _, _ => none
 | k + 1, x0, x4, x15, x16, x17 => if x17 < x16 then (if 0 ≤ x17 then (if x17 < (x15.length : Int) then ((strings_Cut.f (rdOf ByteArray.empty x15 x17) (⟨#[32]⟩ : ByteArray)).bind fun bt188 => ((strings_CutSuffix.f bt188.2.1 (⟨#[33]⟩ : ByteArray)).bind fun bt191 => ((schema_kind.f k bt191.1).bind fun t193 => (if x4.length < 4398046511104 then (schema_Parse.l0 k x0 (x4 ++ [(⟨bt188.1, t193, bt191.2⟩ : S35)]) x15 x16 (wrap64 (x17 + 1))) else (none))))) else (none)) else (none)) else ((schema_Show.f k x4).bind fun t197 => (if t197.toList = x0.toList then (if x0.toList = ([] : List UInt8) then (some (([] : List (S35)), 3)) else (some (x4, 0))) else (some (([] : List (S35)), 3))))
def schema_Parse.f (k : Nat) (a0 : ByteArray) : Option ((List (S35)) × Int) := if a0.toList = ([45] : List UInt8) then (some (([] : List (S35)), 0)) else ((strings_Split.f a0 (⟨#[44, 32]⟩ : ByteArray)).bind fun t184 => (schema_Parse.l0 k a0 ([] : List (S35)) t184 (t184.length : Int) 0))
theorem schema_Parse.mono_l : ∀ k, (∀ y0 y1 y2 y3 y4, LeO (schema_Parse.l0 k y0 y1 y2 y3 y4) (schema_Parse.l0 (k + 1) y0 y1 y2 y3 y4))
 | 0 => fun _ _ _ _ _ r h => by simp [schema_Parse.l0] at h
 | k + 1 => by
  have ih0 := schema_Parse.mono_l k
  ·intro y0 y1 y2 y3 y4
   unfold schema_Parse.l0
   repeat' first
   | (with_reducible exact ih0 _ _ _ _ _)
   | (with_reducible exact schema_Show.mono _ _)
   | (with_reducible exact schema_kind.mono _ _)
   | (with_reducible exact LeO.refl _)
   | (with_reducible exact LeO.none _)
   | (with_reducible refine LeO.ite ?_ ?_)
   | (with_reducible refine LeO.bind ?_ (fun _ => ?_))
   | exact ih0 _ _ _ _ _
   | exact schema_Show.mono _ _
   | exact schema_kind.mono _ _
   | exact LeO.none _
   | refine LeO.ite ?_ ?_
   | refine LeO.bind ?_ (fun _ => ?_)
theorem schema_Parse.mono : ∀ a0 k, LeO (schema_Parse.f k a0) (schema_Parse.f (k + 1) a0) := by
 intro a0 k
 have ih0 := schema_Parse.mono_l k
 unfold schema_Parse.f
 repeat' first
   | (with_reducible exact ih0 _ _ _ _ _)
   | (with_reducible exact schema_Show.mono _ _)
   | (with_reducible exact schema_kind.mono _ _)
   | (with_reducible exact LeO.refl _)
   | (with_reducible exact LeO.none _)
   | (with_reducible refine LeO.ite ?_ ?_)
   | (with_reducible refine LeO.bind ?_ (fun _ => ?_))
   | exact ih0 _ _ _ _ _
   | exact schema_Show.mono _ _
   | exact schema_kind.mono _ _
   | exact LeO.none _
   | refine LeO.ite ?_ ?_
   | refine LeO.bind ?_ (fun _ => ?_)
set_option maxHeartbeats 8000000 in
set_option maxRecDepth 100000 in
theorem schema_Parse.calls (k : Nat) (a0 : ByteArray) (r1 : List (S35)) (r2 : Int) (w : World) (hT : Tabs w) (h : schema_Parse.f k a0 = some (r1, r2)) :
  Calls Tryd.prog 12 #[.string a0] w fun e w' => ∃ v0_ : Value, e = .returned (.tuple #[v0_, .int .i64 r2]) ∧ Kd.R k35 35 w' w.heap.size (fun _ => True) v0_ r1 ∧ Below w.heap.size w w' := by
 have hu35 := Tryd.underlying35
 have HB := Aside0.mk (Below.refl w.heap.size w)
 have H : (if a0.toList = ([45] : List UInt8) then (some (([] : List (S35)), 0)) else ((strings_Split.f a0 (⟨#[44, 32]⟩ : ByteArray)).bind fun t184 => (schema_Parse.l0 k a0 ([] : List (S35)) t184 (t184.length : Int) 0))) = some (r1, r2) := h
 clear h
 have HT := Aside0.mk hT
 clear hT
 by_cases c2 : a0.toList = ([45] : List UInt8)
 ·rw [if_pos c2] at H
  have c2b0 : (a0.toList == ([45] : List UInt8)) = true := beq_iff_eq.mpr c2
  have c2b1 : (a0.toList != ([45] : List UInt8)) = false := bne_eq_false_iff_eq.mpr c2
  clear c2
  simp only [Option.some.injEq, Prod.mk.injEq] at H
  obtain ⟨rfl, rfl⟩ := H
  go_enter Tryd.func12, Tryd.ntmps12
  go_wp2
  go_ret2
  exact ⟨_, endA, by first | exact Kd.R_nil _ _ _ _ _ | exact Kd.N_nil _ _ _ _ _ | exact Kd.V_nil _ _ _ _ _ | exact Kd.Q_nil _ _ _ _ _ | exact Kd.S_nil _ _ _ _ _, bwA⟩
 ·rw [if_neg c2] at H
  have c2b0 : (a0.toList == ([45] : List UInt8)) = false := beq_eq_false_iff_ne.mpr c2
  have c2b1 : (a0.toList != ([45] : List UInt8)) = true := bne_iff_ne.mpr c2
  replace H := Option.bind_eq_some_iff.mp H
  obtain ⟨t184, A30, H⟩ := H
  replace H : (schema_Parse.l0 k a0 ([] : List (S35)) t184 (t184.length : Int) 0) = some (r1, r2) := H
  have A3 := Aside0.mk A30
  clear A30
  have H' := Aside0.mk H
  clear H
  go_enter Tryd.func12, Tryd.ntmps12
  go_wp2_with (first | ((with_reducible refine gate_callee (f := 23) rfl ?_); refine goesA (some 15) Tryd.func23 #[.string a0, .string (⟨#[44, 32]⟩ : ByteArray)] ?_; (with_reducible refine (strings_Split.calls a0 (⟨#[44, 32]⟩ : ByteArray) t184 _ ?side1 A3.out).mono ?_); (case side1 => exact Tabs.below HT.out (bwA)); rintro e w4 ⟨v185, rfl, ho0, hb⟩; refine ⟨_, rfl, ?_⟩; have n0_ := Aside0.mk (Kd.R_lower ho0 (below_size (bwA))); have n1_ := Aside0.mk (below_step (bwA) hb); clear HB; have HO186 := n0_; have HB := n1_; clear n0_ n1_; (try clear hb); (try clear hb2); (try clear hk); (try clear hi); (try clear ho0); obtain ⟨Ao5, co5, eo5⟩ := Kd.R_slice HO186.out; subst eo5))
  go_loopg [4, 17] k (fun kq v4 v17 w' => ∃ (x4_1 : List (S35)) (x17_1 : Int), v17 = .int .i64 x17_1 ∧ Aside0 (schema_Parse.l0 kq a0 x4_1 t184 (t184.length : Int) x17_1 = some (r1, r2)) ∧ Aside0 (kq ≤ k) ∧ Aside0 (Kd.R k35 35 w' w.heap.size (fun _ => True) v4 x4_1) ∧ Aside0 (Kd.R Kd.string 9 w' w.heap.size (fun _ => True) (.slice Ao5 t184.length co5) t184) ∧ Aside0 (Below w.heap.size w w'))
  case atStart => exact ⟨(([] : List (S35))), (0), (endS), H', ⟨Nat.le_refl _⟩, ⟨by first | exact Kd.R_nil _ _ _ _ _ | exact Kd.N_nil _ _ _ _ _ | exact Kd.V_nil _ _ _ _ _ | exact Kd.Q_nil _ _ _ _ _ | exact Kd.S_nil _ _ _ _ _⟩, ⟨by (with_reducible repeat (first | apply Kd.R_alloc | apply Kd.R_drewN | apply Kd.R_drew)); exact HO186.out⟩, ⟨bwA⟩⟩
  case round =>
   clear H'
   try clear c1
   try clear c2
   try clear c2b0
   try clear c2b1
   try clear p2
   obtain ⟨x4_1, x17_1, rfl, HA, HK1, HO_4, HO_15, HB⟩ := hrel
   cases gk with
   | zero => exact absurd HA.out (by simp [schema_Parse.l0])
   | succ k1 =>
    have H := HA.out
    clear HA
    simp only [schema_Parse.l0] at H
    by_cases c6 : x17_1 < (t184.length : Int)
    ·rw [if_pos c6] at H
     have c6b0 : decide (x17_1 < (t184.length : Int)) = true := decide_eq_true c6
     clear c6
     by_cases c7 : 0 ≤ x17_1
     ·rw [if_pos c7] at H
      have c7b0 : decide (0 ≤ x17_1) = true := decide_eq_true c7
      clear c7
      by_cases c8 : x17_1 < (t184.length : Int)
      ·rw [if_pos c8] at H
       have c8b0 : decide (x17_1 < (t184.length : Int)) = true := decide_eq_true c8
       clear c8
       replace H := Option.bind_eq_some_iff.mp H
       obtain ⟨⟨t188, t189, t190⟩, A90, H⟩ := H
       replace H : ((strings_CutSuffix.f t189 (⟨#[33]⟩ : ByteArray)).bind fun bt191 => ((schema_kind.f k1 bt191.1).bind fun t193 => (if x4_1.length < 4398046511104 then (schema_Parse.l0 k1 a0 (x4_1 ++ [(⟨t188, t193, bt191.2⟩ : S35)]) t184 (t184.length : Int) (wrap64 (x17_1 + 1))) else (none)))) = some (r1, r2) := H
       have A9 := Aside0.mk A90
       clear A90
       replace H := Option.bind_eq_some_iff.mp H
       obtain ⟨⟨t191, t192⟩, A100, H⟩ := H
       replace H : ((schema_kind.f k1 t191).bind fun t193 => (if x4_1.length < 4398046511104 then (schema_Parse.l0 k1 a0 (x4_1 ++ [(⟨t188, t193, t192⟩ : S35)]) t184 (t184.length : Int) (wrap64 (x17_1 + 1))) else (none))) = some (r1, r2) := H
       have A10 := Aside0.mk A100
       clear A100
       replace H := Option.bind_eq_some_iff.mp H
       obtain ⟨t193, A110, H⟩ := H
       replace H : (if x4_1.length < 4398046511104 then (schema_Parse.l0 k1 a0 (x4_1 ++ [(⟨t188, t193, t192⟩ : S35)]) t184 (t184.length : Int) (wrap64 (x17_1 + 1))) else (none)) = some (r1, r2) := H
       have A11 := Aside0.mk A110
       clear A110
       by_cases c12 : x4_1.length < 4398046511104
       ·rw [if_pos c12] at H
        have LMc12 := Aside0.mk c12
        clear c12
        obtain ⟨y194, hy194⟩ : ∃ y_ : List (S35), y_ = (x4_1 ++ [(⟨t188, t193, t192⟩ : S35)]) := ⟨_, rfl⟩
        replace H : (schema_Parse.l0 k1 a0 y194 t184 (t184.length : Int) (wrap64 (x17_1 + 1))) = some (r1, r2) := by first | (rw [hy194]; with_reducible exact H) | (have H2_ := (Option.bind_some _ _).symm.trans H; rw [hy194]; with_reducible exact H2_) | (have H2_ := (Option.bind_some _ _).symm.trans H; with_reducible exact H2_) | with_reducible exact H | (rw [hy194]; exact H) | exact H
        have Ny194 := Aside0.mk hy194
        clear hy194
        have H' := Aside0.mk H
        clear H
        have p187 : 0 ≤ (x17_1 : Int) := odA
        have q187 : x17_1 < (t184.length : Int) := odA
        obtain ⟨ad187, e187, hx187_0⟩ := Kd.at_string (Kd.R_reads' HO_15.out).2.2 x17_1 p187 q187
        cases e187
        replace p187 := eq_true p187
        replace q187 := eq_true q187
        go_wp2_with (first | ((with_reducible refine gate_callee (f := 24) rfl ?_); refine goesA (some 23) Tryd.func24 #[.string (rdOf ByteArray.empty t184 x17_1), .string (⟨#[32]⟩ : ByteArray)] ?_; (with_reducible refine (strings_Cut.calls (rdOf ByteArray.empty t184 x17_1) (⟨#[32]⟩ : ByteArray) t188 t189 t190 _ ?side1 A9.out).mono ?_); (case side1 => exact Tabs.below HT.out (bwA)); rintro e w' ⟨rfl, ⟨nd, rfl⟩⟩; refine ⟨_, rfl, ?_⟩) | ((with_reducible refine gate_callee (f := 25) rfl ?_); refine goesA (some 29) Tryd.func25 #[.string t189, .string (⟨#[33]⟩ : ByteArray)] ?_; (with_reducible refine (strings_CutSuffix.calls t189 (⟨#[33]⟩ : ByteArray) t191 t192 _ A10.out).mono ?_); rintro e w' ⟨rfl, ⟨nd, rfl⟩⟩; refine ⟨_, rfl, ?_⟩) | ((with_reducible refine gate_callee (f := 26) rfl ?_); refine goesA (some 35) Tryd.func26 #[.string t191] ?_; (with_reducible refine (schema_kind.calls k1 t191 t193 _ A11.out).mono ?_); rintro e w13 ⟨rfl, hb⟩; refine ⟨_, rfl, ?_⟩; have n0_ := Aside0.mk (Kd.R_below (by (with_reducible repeat (first | apply Kd.R_alloc | apply Kd.R_drewN | apply Kd.R_drew)); exact HO_4.out) hb); have n1_ := Aside0.mk (Kd.R_below (by (with_reducible repeat (first | apply Kd.R_alloc | apply Kd.R_drewN | apply Kd.R_drew)); exact HO_15.out) hb); have n2_ := Aside0.mk (below_step (bwA) hb); clear HO_4; clear HO_15; clear HB; have HO_4 := n0_; have HO_15 := n1_; have HB := n2_; clear n0_ n1_ n2_; (try clear hb); (try clear hb2); (try clear hk); (try clear hi)) | ((with_reducible refine gate_builtin (b := .append) (xs := #[.tmp 32, .tmp 38]) rfl ?_); at_builtin; refine Kd.R_append k35 (w0 := w) w.heap.size rfl (.tmp 32) (.tmp 38) 22 35 (.agg #[(.string ⟨#[]⟩), (.int .i64 0), (.bool false)]) 32 rfl Tryd.underlying22 info35 rfl (by decide) (by omega) u4 x4_1 (⟨t188, t193, t192⟩ : S35) [.string t188, .int .i64 t193, .bool t192] (fun _ => True) (fun _ => False) rfl rfl ?aP (fun _ hk => hk.elim) ?aF ?aO ?aB ?aS ?aL ?_; (case aP => exact k35_mkM _ _ _ (⟨t188, t193, t192⟩ : S35)); (case aB => exact (bwA)); (case aF => exact (fun _ _ => trivial)); (case aO => exact (by (with_reducible repeat (first | apply Kd.R_alloc | apply Kd.R_drewN | apply Kd.R_drew)); exact HO_4.out)); (case aS => exact (below_size (bwA))); (case aL => have := LMc12.out; omega); intro v195 w14 ho hb hg hat; rw [← Ny194.out] at ho; have n0_ := Aside0.mk (Kd.R_over' (by (with_reducible repeat (first | apply Kd.R_alloc | apply Kd.R_drewN | apply Kd.R_drew)); exact HO_15.out) (Kd.R_typed (by (with_reducible repeat (first | apply Kd.R_alloc | apply Kd.R_drewN | apply Kd.R_drew)); exact HO_4.out)) (by decide) hg); have n1_ := Aside0.mk (hb); have n2_ := Aside0.mk (ho); clear HO_15; clear HB; clear HO_4; have HO_15 := n0_; have HB := n1_; have HO196 := n2_; clear n0_ n1_ n2_; clear ho hb hg hat))
        go_roundg k1
        case measure => have := HK1.out; omega
        case rel => exact ⟨(y194), (wrap64 (x17_1 + 1)), (endS), H', ⟨by have := HK1.out; omega⟩, ⟨by (with_reducible repeat (first | apply Kd.R_alloc | apply Kd.R_drewN | apply Kd.R_drew)); exact HO196.out⟩, ⟨by (with_reducible repeat (first | apply Kd.R_alloc | apply Kd.R_drewN | apply Kd.R_drew)); exact HO_15.out⟩, ⟨bwA⟩⟩
       ·rw [if_neg c12] at H
        exact absurd H (by simp)
      ·rw [if_neg c8] at H
       exact absurd H (by simp)
     ·rw [if_neg c7] at H
      exact absurd H (by simp)
    ·rw [if_neg c6] at H
     have c6b0 : decide (x17_1 < (t184.length : Int)) = false := decide_eq_false c6
     clear c6
     replace H := Option.bind_eq_some_iff.mp H
     obtain ⟨t197, A150, H⟩ := H
     replace H : (if t197.toList = a0.toList then (if a0.toList = ([] : List UInt8) then (some (([] : List (S35)), 3)) else (some (x4_1, 0))) else (some (([] : List (S35)), 3))) = some (r1, r2) := H
     have A15 := Aside0.mk A150
     clear A150
     by_cases c16 : t197.toList = a0.toList
     ·rw [if_pos c16] at H
      have c16b0 : (t197.toList == a0.toList) = true := beq_iff_eq.mpr c16
      have c16b1 : (t197.toList != a0.toList) = false := bne_eq_false_iff_eq.mpr c16
      clear c16
      by_cases c17 : a0.toList = ([] : List UInt8)
      ·rw [if_pos c17] at H
       have c17b0 : (a0.toList == ([] : List UInt8)) = true := beq_iff_eq.mpr c17
       have c17b1 : (a0.toList != ([] : List UInt8)) = false := bne_eq_false_iff_eq.mpr c17
       clear c17
       simp only [Option.some.injEq, Prod.mk.injEq] at H
       obtain ⟨rfl, rfl⟩ := H
       obtain ⟨Ao18, co18, eo18⟩ := Kd.R_slice HO_4.out
       subst eo18
       go_wp2_with (first | ((with_reducible refine gate_callee (f := 27) rfl ?_); refine goesA (some 42) Tryd.func27 #[.slice Ao18 x4_1.length co18] ?_; (with_reducible refine (schema_Show.calls k1 _ _ x4_1 t197 _ ?side1 ?side2 ?side3 A15.out).mono ?_); (case side1 => repeat (first | exact (Kd.R_reads' HO_4.out).2.2 | (with_reducible refine Kd.C_alloc ?_ _) | (with_reducible refine Kd.C_drewN ?_ _) | (with_reducible refine Kd.C_drew ?_))); (case side2 => exact (Kd.R_reads' HO_4.out).2.1); (case side3 => exact Tabs.below HT.out (bwA)); rintro e w19 ⟨rfl, hb⟩; refine ⟨_, rfl, ?_⟩; have n0_ := Aside0.mk (Kd.R_below (by (with_reducible repeat (first | apply Kd.R_alloc | apply Kd.R_drewN | apply Kd.R_drew)); exact HO_4.out) hb); have n1_ := Aside0.mk (Kd.R_below (by (with_reducible repeat (first | apply Kd.R_alloc | apply Kd.R_drewN | apply Kd.R_drew)); exact HO_15.out) hb); have n2_ := Aside0.mk (below_step (bwA) hb); clear HO_4; clear HO_15; clear HB; have HO_4 := n0_; have HO_15 := n1_; have HB := n2_; clear n0_ n1_ n2_; (try clear hb); (try clear hb2); (try clear hk); (try clear hi)))
       go_ret2
       exact ⟨_, endA, by first | exact Kd.R_nil _ _ _ _ _ | exact Kd.N_nil _ _ _ _ _ | exact Kd.V_nil _ _ _ _ _ | exact Kd.Q_nil _ _ _ _ _ | exact Kd.S_nil _ _ _ _ _, bwA⟩
      ·rw [if_neg c17] at H
       have c17b0 : (a0.toList == ([] : List UInt8)) = false := beq_eq_false_iff_ne.mpr c17
       have c17b1 : (a0.toList != ([] : List UInt8)) = true := bne_iff_ne.mpr c17
       simp only [Option.some.injEq, Prod.mk.injEq] at H
       obtain ⟨rfl, rfl⟩ := H
       obtain ⟨Ao20, co20, eo20⟩ := Kd.R_slice HO_4.out
       subst eo20
       go_wp2_with (first | ((with_reducible refine gate_callee (f := 27) rfl ?_); refine goesA (some 42) Tryd.func27 #[.slice Ao20 x4_1.length co20] ?_; (with_reducible refine (schema_Show.calls k1 _ _ x4_1 t197 _ ?side1 ?side2 ?side3 A15.out).mono ?_); (case side1 => repeat (first | exact (Kd.R_reads' HO_4.out).2.2 | (with_reducible refine Kd.C_alloc ?_ _) | (with_reducible refine Kd.C_drewN ?_ _) | (with_reducible refine Kd.C_drew ?_))); (case side2 => exact (Kd.R_reads' HO_4.out).2.1); (case side3 => exact Tabs.below HT.out (bwA)); rintro e w21 ⟨rfl, hb⟩; refine ⟨_, rfl, ?_⟩; have n0_ := Aside0.mk (Kd.R_below (by (with_reducible repeat (first | apply Kd.R_alloc | apply Kd.R_drewN | apply Kd.R_drew)); exact HO_4.out) hb); have n1_ := Aside0.mk (Kd.R_below (by (with_reducible repeat (first | apply Kd.R_alloc | apply Kd.R_drewN | apply Kd.R_drew)); exact HO_15.out) hb); have n2_ := Aside0.mk (below_step (bwA) hb); clear HO_4; clear HO_15; clear HB; have HO_4 := n0_; have HO_15 := n1_; have HB := n2_; clear n0_ n1_ n2_; (try clear hb); (try clear hb2); (try clear hk); (try clear hi)))
       go_ret2
       exact ⟨_, endA, by (with_reducible repeat (first | apply Kd.R_alloc | apply Kd.R_drewN | apply Kd.R_drew)); exact HO_4.out, bwA⟩
     ·rw [if_neg c16] at H
      have c16b0 : (t197.toList == a0.toList) = false := beq_eq_false_iff_ne.mpr c16
      have c16b1 : (t197.toList != a0.toList) = true := bne_iff_ne.mpr c16
      simp only [Option.some.injEq, Prod.mk.injEq] at H
      obtain ⟨rfl, rfl⟩ := H
      obtain ⟨Ao22, co22, eo22⟩ := Kd.R_slice HO_4.out
      subst eo22
      go_wp2_with (first | ((with_reducible refine gate_callee (f := 27) rfl ?_); refine goesA (some 42) Tryd.func27 #[.slice Ao22 x4_1.length co22] ?_; (with_reducible refine (schema_Show.calls k1 _ _ x4_1 t197 _ ?side1 ?side2 ?side3 A15.out).mono ?_); (case side1 => repeat (first | exact (Kd.R_reads' HO_4.out).2.2 | (with_reducible refine Kd.C_alloc ?_ _) | (with_reducible refine Kd.C_drewN ?_ _) | (with_reducible refine Kd.C_drew ?_))); (case side2 => exact (Kd.R_reads' HO_4.out).2.1); (case side3 => exact Tabs.below HT.out (bwA)); rintro e w23 ⟨rfl, hb⟩; refine ⟨_, rfl, ?_⟩; have n0_ := Aside0.mk (Kd.R_below (by (with_reducible repeat (first | apply Kd.R_alloc | apply Kd.R_drewN | apply Kd.R_drew)); exact HO_4.out) hb); have n1_ := Aside0.mk (Kd.R_below (by (with_reducible repeat (first | apply Kd.R_alloc | apply Kd.R_drewN | apply Kd.R_drew)); exact HO_15.out) hb); have n2_ := Aside0.mk (below_step (bwA) hb); clear HO_4; clear HO_15; clear HB; have HO_4 := n0_; have HO_15 := n1_; have HB := n2_; clear n0_ n1_ n2_; (try clear hb); (try clear hb2); (try clear hk); (try clear hi)))
      go_ret2
      exact ⟨_, endA, by first | exact Kd.R_nil _ _ _ _ _ | exact Kd.N_nil _ _ _ _ _ | exact Kd.V_nil _ _ _ _ _ | exact Kd.Q_nil _ _ _ _ _ | exact Kd.S_nil _ _ _ _ _, bwA⟩

/-! ### caduceuslaw04_num: function 13 -/
def caduceuslaw04_num.f (a0 : Int) : Option (Int × Int × ByteArray) := some (1, a0, (⟨#[]⟩ : ByteArray))
set_option maxHeartbeats 8000000 in
set_option maxRecDepth 100000 in
theorem caduceuslaw04_num.calls (a0 : Int) (r1 : Int) (r2 : Int) (r3 : ByteArray) (w : World) (h : caduceuslaw04_num.f a0 = some (r1, r2, r3)) :
  Calls Tryd.prog 13 #[.int .i64 a0] w fun e w' => e = .returned (.agg #[.int .i64 r1, .int .i64 r2, .string r3]) ∧ Below w.heap.size w w' := by
 have hu39 := Tryd.underlying39
 have HB := Aside0.mk (Below.refl w.heap.size w)
 have H : (some (1, a0, (⟨#[]⟩ : ByteArray))) = some (r1, r2, r3) := h
 clear h
 simp only [Option.some.injEq, Prod.mk.injEq] at H
 obtain ⟨rfl, rfl, rfl⟩ := H
 go_enter Tryd.func13, Tryd.ntmps13
 go_wp2_with (first | ((with_reducible refine gate_dst (N := 2) rfl ?_); refine box_event ?hg (N := 2) ?hd (cs := #[.int .i64 0, .int .i64 0, .string (⟨#[]⟩ : ByteArray)]) (t := 39) ?hr ?_; (case hd => rfl); (case hg => rfl); (case hr => first | (go_simp; done) | (go_simp; rfl)); intro gb198 hg w2 hbox hb; have n0_ := Aside0.mk (below_step (bwA) hb); have n1_ := Aside0.mk (hbox); have n2_ := Aside0.mk ((by rw [hg]; exact (below_size (bwA)) : w.heap.size ≤ gb198)); have n3_ := Aside0.mk ((by rw [hg]; exact (below_size (bwA)) : w.heap.size ≤ gb198)); clear HB; have HB := n0_; have BK198 := n1_; have GW198 := n2_; have GE198 := n3_; clear n0_ n1_ n2_ n3_; clear hb hbox hg; have hcz3_0 : w2.cell? ⟨gb198, 0, none⟩ = some (.int .i64 0) := (blk_cell BK198.out 0).trans rfl; have hcz3_1 : w2.cell? ⟨gb198, 1, none⟩ = some (.int .i64 0) := (blk_cell BK198.out 1).trans rfl; have hcz3_2 : w2.cell? ⟨gb198, 2, none⟩ = some (.string (⟨#[]⟩ : ByteArray)) := (blk_cell BK198.out 2).trans rfl; have hfz3_0 := blk_frozen BK198.out 0; have hfz3_1 := blk_frozen BK198.out 1; have hfz3_2 := blk_frozen BK198.out 2))
 refine bodyPost_ret (results_cell_row rfl _ _ gb198 39 #[.int .i64 1, .int .i64 a0, .string (⟨#[]⟩ : ByteArray)] (0, 0) _ rfl (by (with_reducible repeat (first | refine blk_drewN ?_ _ | refine blk_drew ?_ | refine blk_alloc ?_ _)); refine blk_put (cs := #[.int .i64 1, .int .i64 a0, .string (⟨#[]⟩ : ByteArray)]) ?_ 2 _ rfl; (with_reducible repeat (first | refine blk_drewN ?_ _ | refine blk_drew ?_ | refine blk_alloc ?_ _)); refine blk_put (cs := #[.int .i64 1, .int .i64 0, .string (⟨#[]⟩ : ByteArray)]) ?_ 1 _ rfl; (with_reducible repeat (first | refine blk_drewN ?_ _ | refine blk_drew ?_ | refine blk_alloc ?_ _)); refine blk_put (cs := #[.int .i64 0, .int .i64 0, .string (⟨#[]⟩ : ByteArray)]) ?_ 0 _ rfl; (with_reducible repeat (first | refine blk_drewN ?_ _ | refine blk_drew ?_ | refine blk_alloc ?_ _)); exact BK198.out) Tryd.underlying39 rfl (by kernel_rfl)) rfl ?_
 exact ⟨endA, bwA⟩

/-! ### caduceuslaw04_text: function 14 -/
def caduceuslaw04_text.f (a0 : ByteArray) : Option (Int × Int × ByteArray) := some (2, 0, a0)
set_option maxHeartbeats 8000000 in
set_option maxRecDepth 100000 in
theorem caduceuslaw04_text.calls (a0 : ByteArray) (r1 : Int) (r2 : Int) (r3 : ByteArray) (w : World) (h : caduceuslaw04_text.f a0 = some (r1, r2, r3)) :
  Calls Tryd.prog 14 #[.string a0] w fun e w' => e = .returned (.agg #[.int .i64 r1, .int .i64 r2, .string r3]) ∧ Below w.heap.size w w' := by
 have hu39 := Tryd.underlying39
 have HB := Aside0.mk (Below.refl w.heap.size w)
 have H : (some (2, 0, a0)) = some (r1, r2, r3) := h
 clear h
 simp only [Option.some.injEq, Prod.mk.injEq] at H
 obtain ⟨rfl, rfl, rfl⟩ := H
 go_enter Tryd.func14, Tryd.ntmps14
 go_wp2_with (first | ((with_reducible refine gate_dst (N := 2) rfl ?_); refine box_event ?hg (N := 2) ?hd (cs := #[.int .i64 0, .int .i64 0, .string (⟨#[]⟩ : ByteArray)]) (t := 39) ?hr ?_; (case hd => rfl); (case hg => rfl); (case hr => first | (go_simp; done) | (go_simp; rfl)); intro gb199 hg w2 hbox hb; have n0_ := Aside0.mk (below_step (bwA) hb); have n1_ := Aside0.mk (hbox); have n2_ := Aside0.mk ((by rw [hg]; exact (below_size (bwA)) : w.heap.size ≤ gb199)); have n3_ := Aside0.mk ((by rw [hg]; exact (below_size (bwA)) : w.heap.size ≤ gb199)); clear HB; have HB := n0_; have BK199 := n1_; have GW199 := n2_; have GE199 := n3_; clear n0_ n1_ n2_ n3_; clear hb hbox hg; have hcz3_0 : w2.cell? ⟨gb199, 0, none⟩ = some (.int .i64 0) := (blk_cell BK199.out 0).trans rfl; have hcz3_1 : w2.cell? ⟨gb199, 1, none⟩ = some (.int .i64 0) := (blk_cell BK199.out 1).trans rfl; have hcz3_2 : w2.cell? ⟨gb199, 2, none⟩ = some (.string (⟨#[]⟩ : ByteArray)) := (blk_cell BK199.out 2).trans rfl; have hfz3_0 := blk_frozen BK199.out 0; have hfz3_1 := blk_frozen BK199.out 1; have hfz3_2 := blk_frozen BK199.out 2))
 refine bodyPost_ret (results_cell_row rfl _ _ gb199 39 #[.int .i64 2, .int .i64 0, .string a0] (0, 0) _ rfl (by (with_reducible repeat (first | refine blk_drewN ?_ _ | refine blk_drew ?_ | refine blk_alloc ?_ _)); refine blk_put (cs := #[.int .i64 2, .int .i64 0, .string (⟨#[]⟩ : ByteArray)]) ?_ 2 _ rfl; (with_reducible repeat (first | refine blk_drewN ?_ _ | refine blk_drew ?_ | refine blk_alloc ?_ _)); refine blk_put (cs := #[.int .i64 2, .int .i64 0, .string (⟨#[]⟩ : ByteArray)]) ?_ 1 _ rfl; (with_reducible repeat (first | refine blk_drewN ?_ _ | refine blk_drew ?_ | refine blk_alloc ?_ _)); refine blk_put (cs := #[.int .i64 0, .int .i64 0, .string (⟨#[]⟩ : ByteArray)]) ?_ 0 _ rfl; (with_reducible repeat (first | refine blk_drewN ?_ _ | refine blk_drew ?_ | refine blk_alloc ?_ _)); exact BK199.out) Tryd.underlying39 rfl (by kernel_rfl)) rfl ?_
 exact ⟨endA, bwA⟩

/-! ### caduceuslaw04_awake: function 6 -/
def caduceuslaw04_awake.f (k : Nat)  : Option (Bool) := (schema_Parse.f k (⟨#[97, 32, 105, 110, 116, 33, 44, 32, 98, 32, 116, 101, 120, 116]⟩ : ByteArray)).bind fun bt200 => ((schema_Parse.f k (⟨#[97, 32, 98, 111, 111, 108]⟩ : ByteArray)).bind fun bt204 => ((schema_Merge.f k bt200.1 bt204.1).bind fun bt208 => ((caduceuslaw04_num.f 1).bind fun bt212 => ((schema_Fits.f k bt200.1 (([(⟨(⟨#[97]⟩ : ByteArray), (⟨bt212.1, bt212.2.1, bt212.2.2⟩ : S39)⟩ : S41)] : List (S41)))).bind fun t218 => ((caduceuslaw04_text.f (⟨#[120]⟩ : ByteArray)).bind fun bt219 => ((schema_Fits.f k bt200.1 (([(⟨(⟨#[98]⟩ : ByteArray), (⟨bt219.1, bt219.2.1, bt219.2.2⟩ : S39)⟩ : S41)] : List (S41)))).bind fun t225 => ((caduceuslaw04_text.f (⟨#[120]⟩ : ByteArray)).bind fun bt226 => ((schema_Fits.f k bt200.1 (([(⟨(⟨#[97]⟩ : ByteArray), (⟨bt226.1, bt226.2.1, bt226.2.2⟩ : S39)⟩ : S41)] : List (S41)))).bind fun t232 => ((caduceuslaw04_num.f 1).bind fun bt233 => ((caduceuslaw04_num.f 2).bind fun bt236 => ((schema_Fits.f k bt200.1 (([(⟨(⟨#[97]⟩ : ByteArray), (⟨bt233.1, bt233.2.1, bt233.2.2⟩ : S39)⟩ : S41), (⟨(⟨#[99]⟩ : ByteArray), (⟨bt236.1, bt236.2.1, bt236.2.2⟩ : S39)⟩ : S41)] : List (S41)))).bind fun t242 => (if bt200.2 = 0 then (if (bt200.1.length : Int) = 2 then (if bt204.2 = 0 then (if bt208.2 = 9 then (if t218 = 0 then (if t225 = 7 then (if t232 = 8 then (some (t242 == 4)) else (none)) else (none)) else (none)) else (none)) else (none)) else (none)) else (none)))))))))))))
theorem caduceuslaw04_awake.mono : ∀ k, LeO (caduceuslaw04_awake.f k ) (caduceuslaw04_awake.f (k + 1) ) := by
 intro  k
 unfold caduceuslaw04_awake.f
 repeat' first
   | (with_reducible exact schema_Fits.mono _ _ _)
   | (with_reducible exact schema_Merge.mono _ _ _)
   | (with_reducible exact schema_Parse.mono _ _)
   | (with_reducible exact LeO.refl _)
   | (with_reducible exact LeO.none _)
   | (with_reducible refine LeO.ite ?_ ?_)
   | (with_reducible refine LeO.bind ?_ (fun _ => ?_))
   | exact schema_Fits.mono _ _ _
   | exact schema_Merge.mono _ _ _
   | exact schema_Parse.mono _ _
   | exact LeO.none _
   | refine LeO.ite ?_ ?_
   | refine LeO.bind ?_ (fun _ => ?_)
set_option maxHeartbeats 8000000 in
set_option maxRecDepth 100000 in
theorem caduceuslaw04_awake.calls (k : Nat)  (r : Bool) (w : World) (hT : Tabs w) (h : caduceuslaw04_awake.f k  = some r) :
  Calls Tryd.prog 6 #[] w fun e w' => e = .returned (.bool r) ∧ Below w.heap.size w w' := by
 have hu41 := Tryd.underlying41
 have HB := Aside0.mk (Below.refl w.heap.size w)
 have H : ((schema_Parse.f k (⟨#[97, 32, 105, 110, 116, 33, 44, 32, 98, 32, 116, 101, 120, 116]⟩ : ByteArray)).bind fun bt200 => ((schema_Parse.f k (⟨#[97, 32, 98, 111, 111, 108]⟩ : ByteArray)).bind fun bt204 => ((schema_Merge.f k bt200.1 bt204.1).bind fun bt208 => ((caduceuslaw04_num.f 1).bind fun bt212 => ((schema_Fits.f k bt200.1 (([(⟨(⟨#[97]⟩ : ByteArray), (⟨bt212.1, bt212.2.1, bt212.2.2⟩ : S39)⟩ : S41)] : List (S41)))).bind fun t218 => ((caduceuslaw04_text.f (⟨#[120]⟩ : ByteArray)).bind fun bt219 => ((schema_Fits.f k bt200.1 (([(⟨(⟨#[98]⟩ : ByteArray), (⟨bt219.1, bt219.2.1, bt219.2.2⟩ : S39)⟩ : S41)] : List (S41)))).bind fun t225 => ((caduceuslaw04_text.f (⟨#[120]⟩ : ByteArray)).bind fun bt226 => ((schema_Fits.f k bt200.1 (([(⟨(⟨#[97]⟩ : ByteArray), (⟨bt226.1, bt226.2.1, bt226.2.2⟩ : S39)⟩ : S41)] : List (S41)))).bind fun t232 => ((caduceuslaw04_num.f 1).bind fun bt233 => ((caduceuslaw04_num.f 2).bind fun bt236 => ((schema_Fits.f k bt200.1 (([(⟨(⟨#[97]⟩ : ByteArray), (⟨bt233.1, bt233.2.1, bt233.2.2⟩ : S39)⟩ : S41), (⟨(⟨#[99]⟩ : ByteArray), (⟨bt236.1, bt236.2.1, bt236.2.2⟩ : S39)⟩ : S41)] : List (S41)))).bind fun t242 => (if bt200.2 = 0 then (if (bt200.1.length : Int) = 2 then (if bt204.2 = 0 then (if bt208.2 = 9 then (if t218 = 0 then (if t225 = 7 then (if t232 = 8 then (some (t242 == 4)) else (none)) else (none)) else (none)) else (none)) else (none)) else (none)) else (none)))))))))))))) = some r := h
 clear h
 have HT := Aside0.mk hT
 clear hT
 replace H := Option.bind_eq_some_iff.mp H
 obtain ⟨⟨t200, t201⟩, A10, H⟩ := H
 replace H : ((schema_Parse.f k (⟨#[97, 32, 98, 111, 111, 108]⟩ : ByteArray)).bind fun bt204 => ((schema_Merge.f k t200 bt204.1).bind fun bt208 => ((caduceuslaw04_num.f 1).bind fun bt212 => ((schema_Fits.f k t200 (([(⟨(⟨#[97]⟩ : ByteArray), (⟨bt212.1, bt212.2.1, bt212.2.2⟩ : S39)⟩ : S41)] : List (S41)))).bind fun t218 => ((caduceuslaw04_text.f (⟨#[120]⟩ : ByteArray)).bind fun bt219 => ((schema_Fits.f k t200 (([(⟨(⟨#[98]⟩ : ByteArray), (⟨bt219.1, bt219.2.1, bt219.2.2⟩ : S39)⟩ : S41)] : List (S41)))).bind fun t225 => ((caduceuslaw04_text.f (⟨#[120]⟩ : ByteArray)).bind fun bt226 => ((schema_Fits.f k t200 (([(⟨(⟨#[97]⟩ : ByteArray), (⟨bt226.1, bt226.2.1, bt226.2.2⟩ : S39)⟩ : S41)] : List (S41)))).bind fun t232 => ((caduceuslaw04_num.f 1).bind fun bt233 => ((caduceuslaw04_num.f 2).bind fun bt236 => ((schema_Fits.f k t200 (([(⟨(⟨#[97]⟩ : ByteArray), (⟨bt233.1, bt233.2.1, bt233.2.2⟩ : S39)⟩ : S41), (⟨(⟨#[99]⟩ : ByteArray), (⟨bt236.1, bt236.2.1, bt236.2.2⟩ : S39)⟩ : S41)] : List (S41)))).bind fun t242 => (if t201 = 0 then (if (t200.length : Int) = 2 then (if bt204.2 = 0 then (if bt208.2 = 9 then (if t218 = 0 then (if t225 = 7 then (if t232 = 8 then (some (t242 == 4)) else (none)) else (none)) else (none)) else (none)) else (none)) else (none)) else (none))))))))))))) = some r := H
 have A1 := Aside0.mk A10
 clear A10
 replace H := Option.bind_eq_some_iff.mp H
 obtain ⟨⟨t204, t205⟩, A20, H⟩ := H
 replace H : ((schema_Merge.f k t200 t204).bind fun bt208 => ((caduceuslaw04_num.f 1).bind fun bt212 => ((schema_Fits.f k t200 (([(⟨(⟨#[97]⟩ : ByteArray), (⟨bt212.1, bt212.2.1, bt212.2.2⟩ : S39)⟩ : S41)] : List (S41)))).bind fun t218 => ((caduceuslaw04_text.f (⟨#[120]⟩ : ByteArray)).bind fun bt219 => ((schema_Fits.f k t200 (([(⟨(⟨#[98]⟩ : ByteArray), (⟨bt219.1, bt219.2.1, bt219.2.2⟩ : S39)⟩ : S41)] : List (S41)))).bind fun t225 => ((caduceuslaw04_text.f (⟨#[120]⟩ : ByteArray)).bind fun bt226 => ((schema_Fits.f k t200 (([(⟨(⟨#[97]⟩ : ByteArray), (⟨bt226.1, bt226.2.1, bt226.2.2⟩ : S39)⟩ : S41)] : List (S41)))).bind fun t232 => ((caduceuslaw04_num.f 1).bind fun bt233 => ((caduceuslaw04_num.f 2).bind fun bt236 => ((schema_Fits.f k t200 (([(⟨(⟨#[97]⟩ : ByteArray), (⟨bt233.1, bt233.2.1, bt233.2.2⟩ : S39)⟩ : S41), (⟨(⟨#[99]⟩ : ByteArray), (⟨bt236.1, bt236.2.1, bt236.2.2⟩ : S39)⟩ : S41)] : List (S41)))).bind fun t242 => (if t201 = 0 then (if (t200.length : Int) = 2 then (if t205 = 0 then (if bt208.2 = 9 then (if t218 = 0 then (if t225 = 7 then (if t232 = 8 then (some (t242 == 4)) else (none)) else (none)) else (none)) else (none)) else (none)) else (none)) else (none)))))))))))) = some r := H
 have A2 := Aside0.mk A20
 clear A20
 replace H := Option.bind_eq_some_iff.mp H
 obtain ⟨⟨t208, t209⟩, A30, H⟩ := H
 replace H : ((caduceuslaw04_num.f 1).bind fun bt212 => ((schema_Fits.f k t200 (([(⟨(⟨#[97]⟩ : ByteArray), (⟨bt212.1, bt212.2.1, bt212.2.2⟩ : S39)⟩ : S41)] : List (S41)))).bind fun t218 => ((caduceuslaw04_text.f (⟨#[120]⟩ : ByteArray)).bind fun bt219 => ((schema_Fits.f k t200 (([(⟨(⟨#[98]⟩ : ByteArray), (⟨bt219.1, bt219.2.1, bt219.2.2⟩ : S39)⟩ : S41)] : List (S41)))).bind fun t225 => ((caduceuslaw04_text.f (⟨#[120]⟩ : ByteArray)).bind fun bt226 => ((schema_Fits.f k t200 (([(⟨(⟨#[97]⟩ : ByteArray), (⟨bt226.1, bt226.2.1, bt226.2.2⟩ : S39)⟩ : S41)] : List (S41)))).bind fun t232 => ((caduceuslaw04_num.f 1).bind fun bt233 => ((caduceuslaw04_num.f 2).bind fun bt236 => ((schema_Fits.f k t200 (([(⟨(⟨#[97]⟩ : ByteArray), (⟨bt233.1, bt233.2.1, bt233.2.2⟩ : S39)⟩ : S41), (⟨(⟨#[99]⟩ : ByteArray), (⟨bt236.1, bt236.2.1, bt236.2.2⟩ : S39)⟩ : S41)] : List (S41)))).bind fun t242 => (if t201 = 0 then (if (t200.length : Int) = 2 then (if t205 = 0 then (if t209 = 9 then (if t218 = 0 then (if t225 = 7 then (if t232 = 8 then (some (t242 == 4)) else (none)) else (none)) else (none)) else (none)) else (none)) else (none)) else (none))))))))))) = some r := H
 have A3 := Aside0.mk A30
 clear A30
 replace H := Option.bind_eq_some_iff.mp H
 obtain ⟨⟨t212, t213, t214⟩, A40, H⟩ := H
 replace H : ((schema_Fits.f k t200 (([(⟨(⟨#[97]⟩ : ByteArray), (⟨t212, t213, t214⟩ : S39)⟩ : S41)] : List (S41)))).bind fun t218 => ((caduceuslaw04_text.f (⟨#[120]⟩ : ByteArray)).bind fun bt219 => ((schema_Fits.f k t200 (([(⟨(⟨#[98]⟩ : ByteArray), (⟨bt219.1, bt219.2.1, bt219.2.2⟩ : S39)⟩ : S41)] : List (S41)))).bind fun t225 => ((caduceuslaw04_text.f (⟨#[120]⟩ : ByteArray)).bind fun bt226 => ((schema_Fits.f k t200 (([(⟨(⟨#[97]⟩ : ByteArray), (⟨bt226.1, bt226.2.1, bt226.2.2⟩ : S39)⟩ : S41)] : List (S41)))).bind fun t232 => ((caduceuslaw04_num.f 1).bind fun bt233 => ((caduceuslaw04_num.f 2).bind fun bt236 => ((schema_Fits.f k t200 (([(⟨(⟨#[97]⟩ : ByteArray), (⟨bt233.1, bt233.2.1, bt233.2.2⟩ : S39)⟩ : S41), (⟨(⟨#[99]⟩ : ByteArray), (⟨bt236.1, bt236.2.1, bt236.2.2⟩ : S39)⟩ : S41)] : List (S41)))).bind fun t242 => (if t201 = 0 then (if (t200.length : Int) = 2 then (if t205 = 0 then (if t209 = 9 then (if t218 = 0 then (if t225 = 7 then (if t232 = 8 then (some (t242 == 4)) else (none)) else (none)) else (none)) else (none)) else (none)) else (none)) else (none)))))))))) = some r := H
 have A4 := Aside0.mk A40
 clear A40
 obtain ⟨y215, hy215⟩ : ∃ y_ : List (S41), y_ = (([(⟨(⟨#[97]⟩ : ByteArray), (⟨t212, t213, t214⟩ : S39)⟩ : S41)] : List (S41))) := ⟨_, rfl⟩
 replace H : ((schema_Fits.f k t200 y215).bind fun t218 => ((caduceuslaw04_text.f (⟨#[120]⟩ : ByteArray)).bind fun bt219 => ((schema_Fits.f k t200 (([(⟨(⟨#[98]⟩ : ByteArray), (⟨bt219.1, bt219.2.1, bt219.2.2⟩ : S39)⟩ : S41)] : List (S41)))).bind fun t225 => ((caduceuslaw04_text.f (⟨#[120]⟩ : ByteArray)).bind fun bt226 => ((schema_Fits.f k t200 (([(⟨(⟨#[97]⟩ : ByteArray), (⟨bt226.1, bt226.2.1, bt226.2.2⟩ : S39)⟩ : S41)] : List (S41)))).bind fun t232 => ((caduceuslaw04_num.f 1).bind fun bt233 => ((caduceuslaw04_num.f 2).bind fun bt236 => ((schema_Fits.f k t200 (([(⟨(⟨#[97]⟩ : ByteArray), (⟨bt233.1, bt233.2.1, bt233.2.2⟩ : S39)⟩ : S41), (⟨(⟨#[99]⟩ : ByteArray), (⟨bt236.1, bt236.2.1, bt236.2.2⟩ : S39)⟩ : S41)] : List (S41)))).bind fun t242 => (if t201 = 0 then (if (t200.length : Int) = 2 then (if t205 = 0 then (if t209 = 9 then (if t218 = 0 then (if t225 = 7 then (if t232 = 8 then (some (t242 == 4)) else (none)) else (none)) else (none)) else (none)) else (none)) else (none)) else (none)))))))))) = some r := by first | (rw [hy215]; with_reducible exact H) | (have H2_ := (Option.bind_some _ _).symm.trans H; rw [hy215]; with_reducible exact H2_) | (have H2_ := (Option.bind_some _ _).symm.trans H; with_reducible exact H2_) | with_reducible exact H | (rw [hy215]; exact H) | exact H
 have Ny215 := Aside0.mk hy215
 clear hy215
 replace H := Option.bind_eq_some_iff.mp H
 obtain ⟨t218, A50, H⟩ := H
 replace H : ((caduceuslaw04_text.f (⟨#[120]⟩ : ByteArray)).bind fun bt219 => ((schema_Fits.f k t200 (([(⟨(⟨#[98]⟩ : ByteArray), (⟨bt219.1, bt219.2.1, bt219.2.2⟩ : S39)⟩ : S41)] : List (S41)))).bind fun t225 => ((caduceuslaw04_text.f (⟨#[120]⟩ : ByteArray)).bind fun bt226 => ((schema_Fits.f k t200 (([(⟨(⟨#[97]⟩ : ByteArray), (⟨bt226.1, bt226.2.1, bt226.2.2⟩ : S39)⟩ : S41)] : List (S41)))).bind fun t232 => ((caduceuslaw04_num.f 1).bind fun bt233 => ((caduceuslaw04_num.f 2).bind fun bt236 => ((schema_Fits.f k t200 (([(⟨(⟨#[97]⟩ : ByteArray), (⟨bt233.1, bt233.2.1, bt233.2.2⟩ : S39)⟩ : S41), (⟨(⟨#[99]⟩ : ByteArray), (⟨bt236.1, bt236.2.1, bt236.2.2⟩ : S39)⟩ : S41)] : List (S41)))).bind fun t242 => (if t201 = 0 then (if (t200.length : Int) = 2 then (if t205 = 0 then (if t209 = 9 then (if t218 = 0 then (if t225 = 7 then (if t232 = 8 then (some (t242 == 4)) else (none)) else (none)) else (none)) else (none)) else (none)) else (none)) else (none))))))))) = some r := H
 have A5 := Aside0.mk A50
 clear A50
 replace H := Option.bind_eq_some_iff.mp H
 obtain ⟨⟨t219, t220, t221⟩, A60, H⟩ := H
 replace H : ((schema_Fits.f k t200 (([(⟨(⟨#[98]⟩ : ByteArray), (⟨t219, t220, t221⟩ : S39)⟩ : S41)] : List (S41)))).bind fun t225 => ((caduceuslaw04_text.f (⟨#[120]⟩ : ByteArray)).bind fun bt226 => ((schema_Fits.f k t200 (([(⟨(⟨#[97]⟩ : ByteArray), (⟨bt226.1, bt226.2.1, bt226.2.2⟩ : S39)⟩ : S41)] : List (S41)))).bind fun t232 => ((caduceuslaw04_num.f 1).bind fun bt233 => ((caduceuslaw04_num.f 2).bind fun bt236 => ((schema_Fits.f k t200 (([(⟨(⟨#[97]⟩ : ByteArray), (⟨bt233.1, bt233.2.1, bt233.2.2⟩ : S39)⟩ : S41), (⟨(⟨#[99]⟩ : ByteArray), (⟨bt236.1, bt236.2.1, bt236.2.2⟩ : S39)⟩ : S41)] : List (S41)))).bind fun t242 => (if t201 = 0 then (if (t200.length : Int) = 2 then (if t205 = 0 then (if t209 = 9 then (if t218 = 0 then (if t225 = 7 then (if t232 = 8 then (some (t242 == 4)) else (none)) else (none)) else (none)) else (none)) else (none)) else (none)) else (none)))))))) = some r := H
 have A6 := Aside0.mk A60
 clear A60
 obtain ⟨y222, hy222⟩ : ∃ y_ : List (S41), y_ = (([(⟨(⟨#[98]⟩ : ByteArray), (⟨t219, t220, t221⟩ : S39)⟩ : S41)] : List (S41))) := ⟨_, rfl⟩
 replace H : ((schema_Fits.f k t200 y222).bind fun t225 => ((caduceuslaw04_text.f (⟨#[120]⟩ : ByteArray)).bind fun bt226 => ((schema_Fits.f k t200 (([(⟨(⟨#[97]⟩ : ByteArray), (⟨bt226.1, bt226.2.1, bt226.2.2⟩ : S39)⟩ : S41)] : List (S41)))).bind fun t232 => ((caduceuslaw04_num.f 1).bind fun bt233 => ((caduceuslaw04_num.f 2).bind fun bt236 => ((schema_Fits.f k t200 (([(⟨(⟨#[97]⟩ : ByteArray), (⟨bt233.1, bt233.2.1, bt233.2.2⟩ : S39)⟩ : S41), (⟨(⟨#[99]⟩ : ByteArray), (⟨bt236.1, bt236.2.1, bt236.2.2⟩ : S39)⟩ : S41)] : List (S41)))).bind fun t242 => (if t201 = 0 then (if (t200.length : Int) = 2 then (if t205 = 0 then (if t209 = 9 then (if t218 = 0 then (if t225 = 7 then (if t232 = 8 then (some (t242 == 4)) else (none)) else (none)) else (none)) else (none)) else (none)) else (none)) else (none)))))))) = some r := by first | (rw [hy222]; with_reducible exact H) | (have H2_ := (Option.bind_some _ _).symm.trans H; rw [hy222]; with_reducible exact H2_) | (have H2_ := (Option.bind_some _ _).symm.trans H; with_reducible exact H2_) | with_reducible exact H | (rw [hy222]; exact H) | exact H
 have Ny222 := Aside0.mk hy222
 clear hy222
 replace H := Option.bind_eq_some_iff.mp H
 obtain ⟨t225, A70, H⟩ := H
 replace H : ((caduceuslaw04_text.f (⟨#[120]⟩ : ByteArray)).bind fun bt226 => ((schema_Fits.f k t200 (([(⟨(⟨#[97]⟩ : ByteArray), (⟨bt226.1, bt226.2.1, bt226.2.2⟩ : S39)⟩ : S41)] : List (S41)))).bind fun t232 => ((caduceuslaw04_num.f 1).bind fun bt233 => ((caduceuslaw04_num.f 2).bind fun bt236 => ((schema_Fits.f k t200 (([(⟨(⟨#[97]⟩ : ByteArray), (⟨bt233.1, bt233.2.1, bt233.2.2⟩ : S39)⟩ : S41), (⟨(⟨#[99]⟩ : ByteArray), (⟨bt236.1, bt236.2.1, bt236.2.2⟩ : S39)⟩ : S41)] : List (S41)))).bind fun t242 => (if t201 = 0 then (if (t200.length : Int) = 2 then (if t205 = 0 then (if t209 = 9 then (if t218 = 0 then (if t225 = 7 then (if t232 = 8 then (some (t242 == 4)) else (none)) else (none)) else (none)) else (none)) else (none)) else (none)) else (none))))))) = some r := H
 have A7 := Aside0.mk A70
 clear A70
 replace H := Option.bind_eq_some_iff.mp H
 obtain ⟨⟨t226, t227, t228⟩, A80, H⟩ := H
 replace H : ((schema_Fits.f k t200 (([(⟨(⟨#[97]⟩ : ByteArray), (⟨t226, t227, t228⟩ : S39)⟩ : S41)] : List (S41)))).bind fun t232 => ((caduceuslaw04_num.f 1).bind fun bt233 => ((caduceuslaw04_num.f 2).bind fun bt236 => ((schema_Fits.f k t200 (([(⟨(⟨#[97]⟩ : ByteArray), (⟨bt233.1, bt233.2.1, bt233.2.2⟩ : S39)⟩ : S41), (⟨(⟨#[99]⟩ : ByteArray), (⟨bt236.1, bt236.2.1, bt236.2.2⟩ : S39)⟩ : S41)] : List (S41)))).bind fun t242 => (if t201 = 0 then (if (t200.length : Int) = 2 then (if t205 = 0 then (if t209 = 9 then (if t218 = 0 then (if t225 = 7 then (if t232 = 8 then (some (t242 == 4)) else (none)) else (none)) else (none)) else (none)) else (none)) else (none)) else (none)))))) = some r := H
 have A8 := Aside0.mk A80
 clear A80
 obtain ⟨y229, hy229⟩ : ∃ y_ : List (S41), y_ = (([(⟨(⟨#[97]⟩ : ByteArray), (⟨t226, t227, t228⟩ : S39)⟩ : S41)] : List (S41))) := ⟨_, rfl⟩
 replace H : ((schema_Fits.f k t200 y229).bind fun t232 => ((caduceuslaw04_num.f 1).bind fun bt233 => ((caduceuslaw04_num.f 2).bind fun bt236 => ((schema_Fits.f k t200 (([(⟨(⟨#[97]⟩ : ByteArray), (⟨bt233.1, bt233.2.1, bt233.2.2⟩ : S39)⟩ : S41), (⟨(⟨#[99]⟩ : ByteArray), (⟨bt236.1, bt236.2.1, bt236.2.2⟩ : S39)⟩ : S41)] : List (S41)))).bind fun t242 => (if t201 = 0 then (if (t200.length : Int) = 2 then (if t205 = 0 then (if t209 = 9 then (if t218 = 0 then (if t225 = 7 then (if t232 = 8 then (some (t242 == 4)) else (none)) else (none)) else (none)) else (none)) else (none)) else (none)) else (none)))))) = some r := by first | (rw [hy229]; with_reducible exact H) | (have H2_ := (Option.bind_some _ _).symm.trans H; rw [hy229]; with_reducible exact H2_) | (have H2_ := (Option.bind_some _ _).symm.trans H; with_reducible exact H2_) | with_reducible exact H | (rw [hy229]; exact H) | exact H
 have Ny229 := Aside0.mk hy229
 clear hy229
 replace H := Option.bind_eq_some_iff.mp H
 obtain ⟨t232, A90, H⟩ := H
 replace H : ((caduceuslaw04_num.f 1).bind fun bt233 => ((caduceuslaw04_num.f 2).bind fun bt236 => ((schema_Fits.f k t200 (([(⟨(⟨#[97]⟩ : ByteArray), (⟨bt233.1, bt233.2.1, bt233.2.2⟩ : S39)⟩ : S41), (⟨(⟨#[99]⟩ : ByteArray), (⟨bt236.1, bt236.2.1, bt236.2.2⟩ : S39)⟩ : S41)] : List (S41)))).bind fun t242 => (if t201 = 0 then (if (t200.length : Int) = 2 then (if t205 = 0 then (if t209 = 9 then (if t218 = 0 then (if t225 = 7 then (if t232 = 8 then (some (t242 == 4)) else (none)) else (none)) else (none)) else (none)) else (none)) else (none)) else (none))))) = some r := H
 have A9 := Aside0.mk A90
 clear A90
 replace H := Option.bind_eq_some_iff.mp H
 obtain ⟨⟨t233, t234, t235⟩, A100, H⟩ := H
 replace H : ((caduceuslaw04_num.f 2).bind fun bt236 => ((schema_Fits.f k t200 (([(⟨(⟨#[97]⟩ : ByteArray), (⟨t233, t234, t235⟩ : S39)⟩ : S41), (⟨(⟨#[99]⟩ : ByteArray), (⟨bt236.1, bt236.2.1, bt236.2.2⟩ : S39)⟩ : S41)] : List (S41)))).bind fun t242 => (if t201 = 0 then (if (t200.length : Int) = 2 then (if t205 = 0 then (if t209 = 9 then (if t218 = 0 then (if t225 = 7 then (if t232 = 8 then (some (t242 == 4)) else (none)) else (none)) else (none)) else (none)) else (none)) else (none)) else (none)))) = some r := H
 have A10 := Aside0.mk A100
 clear A100
 replace H := Option.bind_eq_some_iff.mp H
 obtain ⟨⟨t236, t237, t238⟩, A110, H⟩ := H
 replace H : ((schema_Fits.f k t200 (([(⟨(⟨#[97]⟩ : ByteArray), (⟨t233, t234, t235⟩ : S39)⟩ : S41), (⟨(⟨#[99]⟩ : ByteArray), (⟨t236, t237, t238⟩ : S39)⟩ : S41)] : List (S41)))).bind fun t242 => (if t201 = 0 then (if (t200.length : Int) = 2 then (if t205 = 0 then (if t209 = 9 then (if t218 = 0 then (if t225 = 7 then (if t232 = 8 then (some (t242 == 4)) else (none)) else (none)) else (none)) else (none)) else (none)) else (none)) else (none))) = some r := H
 have A11 := Aside0.mk A110
 clear A110
 obtain ⟨y239, hy239⟩ : ∃ y_ : List (S41), y_ = (([(⟨(⟨#[97]⟩ : ByteArray), (⟨t233, t234, t235⟩ : S39)⟩ : S41), (⟨(⟨#[99]⟩ : ByteArray), (⟨t236, t237, t238⟩ : S39)⟩ : S41)] : List (S41))) := ⟨_, rfl⟩
 replace H : ((schema_Fits.f k t200 y239).bind fun t242 => (if t201 = 0 then (if (t200.length : Int) = 2 then (if t205 = 0 then (if t209 = 9 then (if t218 = 0 then (if t225 = 7 then (if t232 = 8 then (some (t242 == 4)) else (none)) else (none)) else (none)) else (none)) else (none)) else (none)) else (none))) = some r := by first | (rw [hy239]; with_reducible exact H) | (have H2_ := (Option.bind_some _ _).symm.trans H; rw [hy239]; with_reducible exact H2_) | (have H2_ := (Option.bind_some _ _).symm.trans H; with_reducible exact H2_) | with_reducible exact H | (rw [hy239]; exact H) | exact H
 have Ny239 := Aside0.mk hy239
 clear hy239
 replace H := Option.bind_eq_some_iff.mp H
 obtain ⟨t242, A120, H⟩ := H
 replace H : (if t201 = 0 then (if (t200.length : Int) = 2 then (if t205 = 0 then (if t209 = 9 then (if t218 = 0 then (if t225 = 7 then (if t232 = 8 then (some (t242 == 4)) else (none)) else (none)) else (none)) else (none)) else (none)) else (none)) else (none)) = some r := H
 have A12 := Aside0.mk A120
 clear A120
 by_cases c13 : t201 = 0
 ·rw [if_pos c13] at H
  have c13b0 : (t201 == 0) = true := beq_iff_eq.mpr c13
  have c13b1 : (t201 != 0) = false := bne_eq_false_iff_eq.mpr c13
  clear c13
  by_cases c14 : (t200.length : Int) = 2
  ·rw [if_pos c14] at H
   have c14b0 : ((t200.length : Int) == 2) = true := beq_iff_eq.mpr c14
   have c14b1 : ((t200.length : Int) != 2) = false := bne_eq_false_iff_eq.mpr c14
   clear c14
   by_cases c15 : t205 = 0
   ·rw [if_pos c15] at H
    have c15b0 : (t205 == 0) = true := beq_iff_eq.mpr c15
    have c15b1 : (t205 != 0) = false := bne_eq_false_iff_eq.mpr c15
    clear c15
    by_cases c16 : t209 = 9
    ·rw [if_pos c16] at H
     have c16b0 : (t209 == 9) = true := beq_iff_eq.mpr c16
     have c16b1 : (t209 != 9) = false := bne_eq_false_iff_eq.mpr c16
     clear c16
     by_cases c17 : t218 = 0
     ·rw [if_pos c17] at H
      have c17b0 : (t218 == 0) = true := beq_iff_eq.mpr c17
      have c17b1 : (t218 != 0) = false := bne_eq_false_iff_eq.mpr c17
      clear c17
      by_cases c18 : t225 = 7
      ·rw [if_pos c18] at H
       have c18b0 : (t225 == 7) = true := beq_iff_eq.mpr c18
       have c18b1 : (t225 != 7) = false := bne_eq_false_iff_eq.mpr c18
       clear c18
       by_cases c19 : t232 = 8
       ·rw [if_pos c19] at H
        have c19b0 : (t232 == 8) = true := beq_iff_eq.mpr c19
        have c19b1 : (t232 != 8) = false := bne_eq_false_iff_eq.mpr c19
        clear c19
        obtain rfl := Option.some.inj H
        go_enter Tryd.func6, Tryd.ntmps6
        go_wp2_with (first | ((with_reducible refine gate_callee (f := 12) rfl ?_); refine goesA (some 12) Tryd.func12 #[.string (⟨#[97, 32, 105, 110, 116, 33, 44, 32, 98, 32, 116, 101, 120, 116]⟩ : ByteArray)] ?_; (with_reducible refine (schema_Parse.calls k (⟨#[97, 32, 105, 110, 116, 33, 44, 32, 98, 32, 116, 101, 120, 116]⟩ : ByteArray) t200 t201 _ ?side1 A1.out).mono ?_); (case side1 => exact Tabs.below HT.out (bwA)); rintro e w20 ⟨v202, rfl, ho0, hb⟩; refine ⟨_, rfl, ?_⟩; have n0_ := Aside0.mk (Kd.R_lower ho0 (below_size (bwA))); have n1_ := Aside0.mk (below_step (bwA) hb); clear HB; have HO203 := n0_; have HB := n1_; clear n0_ n1_; (try clear hb); (try clear hb2); (try clear hk); (try clear hi); (try clear ho0)) | ((with_reducible refine gate_callee (f := 12) rfl ?_); refine goesA (some 16) Tryd.func12 #[.string (⟨#[97, 32, 98, 111, 111, 108]⟩ : ByteArray)] ?_; (with_reducible refine (schema_Parse.calls k (⟨#[97, 32, 98, 111, 111, 108]⟩ : ByteArray) t204 t205 _ ?side1 A2.out).mono ?_); (case side1 => exact Tabs.below HT.out (bwA)); rintro e w21 ⟨v206, rfl, ho0, hb⟩; refine ⟨_, rfl, ?_⟩; have n0_ := Aside0.mk (Kd.R_elder' (by (with_reducible repeat (first | apply Kd.R_alloc | apply Kd.R_drewN | apply Kd.R_drew)); exact HO203.out) (Kd.R_base ho0) hb); have n1_ := Aside0.mk (Kd.R_lower (Kd.R_new' ho0 (Kd.R_lt (by (with_reducible repeat (first | apply Kd.R_alloc | apply Kd.R_drewN | apply Kd.R_drew)); exact HO203.out))) (below_size (bwA))); have n2_ := Aside0.mk (below_step (bwA) hb); clear HO203; clear HB; have HO203 := n0_; have HO207 := n1_; have HB := n2_; clear n0_ n1_ n2_; (try clear hb); (try clear hb2); (try clear hk); (try clear hi); (try clear ho0); obtain ⟨Ao22, co22, eo22⟩ := Kd.R_slice HO203.out; subst eo22; obtain ⟨Ao23, co23, eo23⟩ := Kd.R_slice HO207.out; subst eo23) | ((with_reducible refine gate_callee (f := 7) rfl ?_); refine goesA (some 22) Tryd.func7 #[.slice Ao22 t200.length co22, .slice Ao23 t204.length co23] ?_; (with_reducible refine (schema_Merge.calls k _ _ t200 _ _ t204 t208 t209 _ ?side1 ?side2 ?side3 ?side4 ?side5 A3.out).mono ?_); (case side1 => repeat (first | exact (Kd.R_reads' HO203.out).2.2 | (with_reducible refine Kd.C_alloc ?_ _) | (with_reducible refine Kd.C_drewN ?_ _) | (with_reducible refine Kd.C_drew ?_))); (case side2 => exact (Kd.R_reads' HO203.out).2.1); (case side3 => repeat (first | exact (Kd.R_reads' HO207.out).2.2 | (with_reducible refine Kd.C_alloc ?_ _) | (with_reducible refine Kd.C_drewN ?_ _) | (with_reducible refine Kd.C_drew ?_))); (case side4 => exact (Kd.R_reads' HO207.out).2.1); (case side5 => exact Tabs.below HT.out (bwA)); rintro e w24 ⟨v210, rfl, ho0, hb⟩; refine ⟨_, rfl, ?_⟩; have n0_ := Aside0.mk (Kd.R_elder' (by (with_reducible repeat (first | apply Kd.R_alloc | apply Kd.R_drewN | apply Kd.R_drew)); exact HO203.out) (Kd.R_base ho0) hb); have n1_ := Aside0.mk (Kd.R_elder' (by (with_reducible repeat (first | apply Kd.R_alloc | apply Kd.R_drewN | apply Kd.R_drew)); exact HO207.out) (Kd.R_base ho0) hb); have n2_ := Aside0.mk (Kd.R_lower (Kd.R_new' (Kd.R_new' ho0 (Kd.R_lt (by (with_reducible repeat (first | apply Kd.R_alloc | apply Kd.R_drewN | apply Kd.R_drew)); exact HO203.out))) (Kd.R_lt (by (with_reducible repeat (first | apply Kd.R_alloc | apply Kd.R_drewN | apply Kd.R_drew)); exact HO207.out))) (below_size (bwA))); have n3_ := Aside0.mk (below_step (bwA) hb); clear HO203; clear HO207; clear HB; have HO203 := n0_; have HO207 := n1_; have HO211 := n2_; have HB := n3_; clear n0_ n1_ n2_ n3_; (try clear hb); (try clear hb2); (try clear hk); (try clear hi); (try clear ho0)) | ((with_reducible refine gate_callee (f := 13) rfl ?_); refine goesA (some 26) Tryd.func13 #[.int .i64 1] ?_; (with_reducible refine (caduceuslaw04_num.calls 1 t212 t213 t214 _ A4.out).mono ?_); rintro e w25 ⟨rfl, hb⟩; refine ⟨_, rfl, ?_⟩; have n0_ := Aside0.mk (Kd.R_below (by (with_reducible repeat (first | apply Kd.R_alloc | apply Kd.R_drewN | apply Kd.R_drew)); exact HO203.out) hb); have n1_ := Aside0.mk (Kd.R_below (by (with_reducible repeat (first | apply Kd.R_alloc | apply Kd.R_drewN | apply Kd.R_drew)); exact HO207.out) hb); have n2_ := Aside0.mk (Kd.R_below (by (with_reducible repeat (first | apply Kd.R_alloc | apply Kd.R_drewN | apply Kd.R_drew)); exact HO211.out) hb); have n3_ := Aside0.mk (below_step (bwA) hb); clear HO203; clear HO207; clear HO211; clear HB; have HO203 := n0_; have HO207 := n1_; have HO211 := n2_; have HB := n3_; clear n0_ n1_ n2_ n3_; (try clear hb); (try clear hb2); (try clear hk); (try clear hi)) | ((with_reducible refine gate_dst (N := 28) rfl ?_); (try (refine gate_guard (by rfl) ?_; dsimp only)); refine Kd.R_lit k41 _ 41 ?hg (N := 28) ?hd (xs := ([(⟨(⟨#[97]⟩ : ByteArray), (⟨t212, t213, t214⟩ : S39)⟩ : S41)] : List (S41))) (inner := [.string (⟨#[97]⟩ : ByteArray), .int .i64 t212, .int .i64 t213, .string t214]) (ok := fun _ => True) (okp := fun _ => True) ?hr ?hp (fun _ hk => hk) trivial (Below.refl _ _) (Nat.le_refl _) (by simp) ?_; (case hd => rfl); (case hg => rfl); (case hr => first | (go_simp; done) | (go_simp; rfl)); (case hp => exact (Reps.c4 (show Kd.M k41 _ _ _ (⟨(⟨#[97]⟩ : ByteArray), (⟨t212, t213, t214⟩ : S39)⟩ : S41) [.string (⟨#[97]⟩ : ByteArray), .int .i64 t212, .int .i64 t213, .string t214] from (k41_mkM _ _ _ (⟨(⟨#[97]⟩ : ByteArray), (⟨t212, t213, t214⟩ : S39)⟩ : S41) )) (Reps.none _ _))); intro v216 w26 ho27 hb hg_ hnew_; clear hg_ hnew_; (first | rw [← Ny215.out] at ho27 | (simp only [Int.reduceToNat] at ho27; rw [← Ny215.out] at ho27)); have n0_ := Aside0.mk (Kd.R_below (by (with_reducible repeat (first | apply Kd.R_alloc | apply Kd.R_drewN | apply Kd.R_drew)); exact HO203.out) hb); have n1_ := Aside0.mk (Kd.R_below (by (with_reducible repeat (first | apply Kd.R_alloc | apply Kd.R_drewN | apply Kd.R_drew)); exact HO207.out) hb); have n2_ := Aside0.mk (Kd.R_below (by (with_reducible repeat (first | apply Kd.R_alloc | apply Kd.R_drewN | apply Kd.R_drew)); exact HO211.out) hb); have n3_ := Aside0.mk (Kd.R_lower ho27 (below_size (bwA))); have n4_ := Aside0.mk (below_step (bwA) hb); clear HO203; clear HO207; clear HO211; clear HB; have HO203 := n0_; have HO207 := n1_; have HO211 := n2_; have HO217 := n3_; have HB := n4_; clear n0_ n1_ n2_ n3_ n4_; clear hb ho27; obtain ⟨Ao28, co28, eo28⟩ := Kd.R_slice HO217.out; subst eo28) | ((with_reducible refine gate_callee (f := 11) rfl ?_); refine goesA (some 29) Tryd.func11 #[.slice Ao22 t200.length co22, .slice Ao28 y215.length co28] ?_; (with_reducible refine (schema_Fits.calls k _ _ t200 _ _ y215 t218 _ ?side1 ?side2 ?side3 ?side4 ?side5 A5.out).mono ?_); (case side1 => repeat (first | exact (Kd.R_reads' HO203.out).2.2 | (with_reducible refine Kd.C_alloc ?_ _) | (with_reducible refine Kd.C_drewN ?_ _) | (with_reducible refine Kd.C_drew ?_))); (case side2 => exact (Kd.R_reads' HO203.out).2.1); (case side3 => repeat (first | exact (Kd.R_reads' HO217.out).2.2 | (with_reducible refine Kd.C_alloc ?_ _) | (with_reducible refine Kd.C_drewN ?_ _) | (with_reducible refine Kd.C_drew ?_))); (case side4 => exact (Kd.R_reads' HO217.out).2.1); (case side5 => exact Tabs.below HT.out (bwA)); rintro e w29 ⟨rfl, hb⟩; refine ⟨_, rfl, ?_⟩; have n0_ := Aside0.mk (Kd.R_below (by (with_reducible repeat (first | apply Kd.R_alloc | apply Kd.R_drewN | apply Kd.R_drew)); exact HO203.out) hb); have n1_ := Aside0.mk (Kd.R_below (by (with_reducible repeat (first | apply Kd.R_alloc | apply Kd.R_drewN | apply Kd.R_drew)); exact HO207.out) hb); have n2_ := Aside0.mk (Kd.R_below (by (with_reducible repeat (first | apply Kd.R_alloc | apply Kd.R_drewN | apply Kd.R_drew)); exact HO211.out) hb); have n3_ := Aside0.mk (Kd.R_below (by (with_reducible repeat (first | apply Kd.R_alloc | apply Kd.R_drewN | apply Kd.R_drew)); exact HO217.out) hb); have n4_ := Aside0.mk (below_step (bwA) hb); clear HO203; clear HO207; clear HO211; clear HO217; clear HB; have HO203 := n0_; have HO207 := n1_; have HO211 := n2_; have HO217 := n3_; have HB := n4_; clear n0_ n1_ n2_ n3_ n4_; (try clear hb); (try clear hb2); (try clear hk); (try clear hi)) | ((with_reducible refine gate_callee (f := 14) rfl ?_); refine goesA (some 31) Tryd.func14 #[.string (⟨#[120]⟩ : ByteArray)] ?_; (with_reducible refine (caduceuslaw04_text.calls (⟨#[120]⟩ : ByteArray) t219 t220 t221 _ A6.out).mono ?_); rintro e w30 ⟨rfl, hb⟩; refine ⟨_, rfl, ?_⟩; have n0_ := Aside0.mk (Kd.R_below (by (with_reducible repeat (first | apply Kd.R_alloc | apply Kd.R_drewN | apply Kd.R_drew)); exact HO203.out) hb); have n1_ := Aside0.mk (Kd.R_below (by (with_reducible repeat (first | apply Kd.R_alloc | apply Kd.R_drewN | apply Kd.R_drew)); exact HO207.out) hb); have n2_ := Aside0.mk (Kd.R_below (by (with_reducible repeat (first | apply Kd.R_alloc | apply Kd.R_drewN | apply Kd.R_drew)); exact HO211.out) hb); have n3_ := Aside0.mk (Kd.R_below (by (with_reducible repeat (first | apply Kd.R_alloc | apply Kd.R_drewN | apply Kd.R_drew)); exact HO217.out) hb); have n4_ := Aside0.mk (below_step (bwA) hb); clear HO203; clear HO207; clear HO211; clear HO217; clear HB; have HO203 := n0_; have HO207 := n1_; have HO211 := n2_; have HO217 := n3_; have HB := n4_; clear n0_ n1_ n2_ n3_ n4_; (try clear hb); (try clear hb2); (try clear hk); (try clear hi)) | ((with_reducible refine gate_dst (N := 33) rfl ?_); (try (refine gate_guard (by rfl) ?_; dsimp only)); refine Kd.R_lit k41 _ 41 ?hg (N := 33) ?hd (xs := ([(⟨(⟨#[98]⟩ : ByteArray), (⟨t219, t220, t221⟩ : S39)⟩ : S41)] : List (S41))) (inner := [.string (⟨#[98]⟩ : ByteArray), .int .i64 t219, .int .i64 t220, .string t221]) (ok := fun _ => True) (okp := fun _ => True) ?hr ?hp (fun _ hk => hk) trivial (Below.refl _ _) (Nat.le_refl _) (by simp) ?_; (case hd => rfl); (case hg => rfl); (case hr => first | (go_simp; done) | (go_simp; rfl)); (case hp => exact (Reps.c4 (show Kd.M k41 _ _ _ (⟨(⟨#[98]⟩ : ByteArray), (⟨t219, t220, t221⟩ : S39)⟩ : S41) [.string (⟨#[98]⟩ : ByteArray), .int .i64 t219, .int .i64 t220, .string t221] from (k41_mkM _ _ _ (⟨(⟨#[98]⟩ : ByteArray), (⟨t219, t220, t221⟩ : S39)⟩ : S41) )) (Reps.none _ _))); intro v223 w31 ho32 hb hg_ hnew_; clear hg_ hnew_; (first | rw [← Ny222.out] at ho32 | (simp only [Int.reduceToNat] at ho32; rw [← Ny222.out] at ho32)); have n0_ := Aside0.mk (Kd.R_below (by (with_reducible repeat (first | apply Kd.R_alloc | apply Kd.R_drewN | apply Kd.R_drew)); exact HO203.out) hb); have n1_ := Aside0.mk (Kd.R_below (by (with_reducible repeat (first | apply Kd.R_alloc | apply Kd.R_drewN | apply Kd.R_drew)); exact HO207.out) hb); have n2_ := Aside0.mk (Kd.R_below (by (with_reducible repeat (first | apply Kd.R_alloc | apply Kd.R_drewN | apply Kd.R_drew)); exact HO211.out) hb); have n3_ := Aside0.mk (Kd.R_elder' (by (with_reducible repeat (first | apply Kd.R_alloc | apply Kd.R_drewN | apply Kd.R_drew)); exact HO217.out) (Kd.R_base ho32) hb); have n4_ := Aside0.mk (Kd.R_lower (Kd.R_new' ho32 (Kd.R_lt (by (with_reducible repeat (first | apply Kd.R_alloc | apply Kd.R_drewN | apply Kd.R_drew)); exact HO217.out))) (below_size (bwA))); have n5_ := Aside0.mk (below_step (bwA) hb); clear HO203; clear HO207; clear HO211; clear HO217; clear HB; have HO203 := n0_; have HO207 := n1_; have HO211 := n2_; have HO217 := n3_; have HO224 := n4_; have HB := n5_; clear n0_ n1_ n2_ n3_ n4_ n5_; clear hb ho32; obtain ⟨Ao33, co33, eo33⟩ := Kd.R_slice HO224.out; subst eo33) | ((with_reducible refine gate_callee (f := 11) rfl ?_); refine goesA (some 34) Tryd.func11 #[.slice Ao22 t200.length co22, .slice Ao33 y222.length co33] ?_; (with_reducible refine (schema_Fits.calls k _ _ t200 _ _ y222 t225 _ ?side1 ?side2 ?side3 ?side4 ?side5 A7.out).mono ?_); (case side1 => repeat (first | exact (Kd.R_reads' HO203.out).2.2 | (with_reducible refine Kd.C_alloc ?_ _) | (with_reducible refine Kd.C_drewN ?_ _) | (with_reducible refine Kd.C_drew ?_))); (case side2 => exact (Kd.R_reads' HO203.out).2.1); (case side3 => repeat (first | exact (Kd.R_reads' HO224.out).2.2 | (with_reducible refine Kd.C_alloc ?_ _) | (with_reducible refine Kd.C_drewN ?_ _) | (with_reducible refine Kd.C_drew ?_))); (case side4 => exact (Kd.R_reads' HO224.out).2.1); (case side5 => exact Tabs.below HT.out (bwA)); rintro e w34 ⟨rfl, hb⟩; refine ⟨_, rfl, ?_⟩; have n0_ := Aside0.mk (Kd.R_below (by (with_reducible repeat (first | apply Kd.R_alloc | apply Kd.R_drewN | apply Kd.R_drew)); exact HO203.out) hb); have n1_ := Aside0.mk (Kd.R_below (by (with_reducible repeat (first | apply Kd.R_alloc | apply Kd.R_drewN | apply Kd.R_drew)); exact HO207.out) hb); have n2_ := Aside0.mk (Kd.R_below (by (with_reducible repeat (first | apply Kd.R_alloc | apply Kd.R_drewN | apply Kd.R_drew)); exact HO211.out) hb); have n3_ := Aside0.mk (Kd.R_below (by (with_reducible repeat (first | apply Kd.R_alloc | apply Kd.R_drewN | apply Kd.R_drew)); exact HO217.out) hb); have n4_ := Aside0.mk (Kd.R_below (by (with_reducible repeat (first | apply Kd.R_alloc | apply Kd.R_drewN | apply Kd.R_drew)); exact HO224.out) hb); have n5_ := Aside0.mk (below_step (bwA) hb); clear HO203; clear HO207; clear HO211; clear HO217; clear HO224; clear HB; have HO203 := n0_; have HO207 := n1_; have HO211 := n2_; have HO217 := n3_; have HO224 := n4_; have HB := n5_; clear n0_ n1_ n2_ n3_ n4_ n5_; (try clear hb); (try clear hb2); (try clear hk); (try clear hi)) | ((with_reducible refine gate_callee (f := 14) rfl ?_); refine goesA (some 36) Tryd.func14 #[.string (⟨#[120]⟩ : ByteArray)] ?_; (with_reducible refine (caduceuslaw04_text.calls (⟨#[120]⟩ : ByteArray) t226 t227 t228 _ A8.out).mono ?_); rintro e w35 ⟨rfl, hb⟩; refine ⟨_, rfl, ?_⟩; have n0_ := Aside0.mk (Kd.R_below (by (with_reducible repeat (first | apply Kd.R_alloc | apply Kd.R_drewN | apply Kd.R_drew)); exact HO203.out) hb); have n1_ := Aside0.mk (Kd.R_below (by (with_reducible repeat (first | apply Kd.R_alloc | apply Kd.R_drewN | apply Kd.R_drew)); exact HO207.out) hb); have n2_ := Aside0.mk (Kd.R_below (by (with_reducible repeat (first | apply Kd.R_alloc | apply Kd.R_drewN | apply Kd.R_drew)); exact HO211.out) hb); have n3_ := Aside0.mk (Kd.R_below (by (with_reducible repeat (first | apply Kd.R_alloc | apply Kd.R_drewN | apply Kd.R_drew)); exact HO217.out) hb); have n4_ := Aside0.mk (Kd.R_below (by (with_reducible repeat (first | apply Kd.R_alloc | apply Kd.R_drewN | apply Kd.R_drew)); exact HO224.out) hb); have n5_ := Aside0.mk (below_step (bwA) hb); clear HO203; clear HO207; clear HO211; clear HO217; clear HO224; clear HB; have HO203 := n0_; have HO207 := n1_; have HO211 := n2_; have HO217 := n3_; have HO224 := n4_; have HB := n5_; clear n0_ n1_ n2_ n3_ n4_ n5_; (try clear hb); (try clear hb2); (try clear hk); (try clear hi)) | ((with_reducible refine gate_dst (N := 38) rfl ?_); (try (refine gate_guard (by rfl) ?_; dsimp only)); refine Kd.R_lit k41 _ 41 ?hg (N := 38) ?hd (xs := ([(⟨(⟨#[97]⟩ : ByteArray), (⟨t226, t227, t228⟩ : S39)⟩ : S41)] : List (S41))) (inner := [.string (⟨#[97]⟩ : ByteArray), .int .i64 t226, .int .i64 t227, .string t228]) (ok := fun _ => True) (okp := fun _ => True) ?hr ?hp (fun _ hk => hk) trivial (Below.refl _ _) (Nat.le_refl _) (by simp) ?_; (case hd => rfl); (case hg => rfl); (case hr => first | (go_simp; done) | (go_simp; rfl)); (case hp => exact (Reps.c4 (show Kd.M k41 _ _ _ (⟨(⟨#[97]⟩ : ByteArray), (⟨t226, t227, t228⟩ : S39)⟩ : S41) [.string (⟨#[97]⟩ : ByteArray), .int .i64 t226, .int .i64 t227, .string t228] from (k41_mkM _ _ _ (⟨(⟨#[97]⟩ : ByteArray), (⟨t226, t227, t228⟩ : S39)⟩ : S41) )) (Reps.none _ _))); intro v230 w36 ho37 hb hg_ hnew_; clear hg_ hnew_; (first | rw [← Ny229.out] at ho37 | (simp only [Int.reduceToNat] at ho37; rw [← Ny229.out] at ho37)); have n0_ := Aside0.mk (Kd.R_below (by (with_reducible repeat (first | apply Kd.R_alloc | apply Kd.R_drewN | apply Kd.R_drew)); exact HO203.out) hb); have n1_ := Aside0.mk (Kd.R_below (by (with_reducible repeat (first | apply Kd.R_alloc | apply Kd.R_drewN | apply Kd.R_drew)); exact HO207.out) hb); have n2_ := Aside0.mk (Kd.R_below (by (with_reducible repeat (first | apply Kd.R_alloc | apply Kd.R_drewN | apply Kd.R_drew)); exact HO211.out) hb); have n3_ := Aside0.mk (Kd.R_elder' (by (with_reducible repeat (first | apply Kd.R_alloc | apply Kd.R_drewN | apply Kd.R_drew)); exact HO217.out) (Kd.R_base ho37) hb); have n4_ := Aside0.mk (Kd.R_elder' (by (with_reducible repeat (first | apply Kd.R_alloc | apply Kd.R_drewN | apply Kd.R_drew)); exact HO224.out) (Kd.R_base ho37) hb); have n5_ := Aside0.mk (Kd.R_lower (Kd.R_new' (Kd.R_new' ho37 (Kd.R_lt (by (with_reducible repeat (first | apply Kd.R_alloc | apply Kd.R_drewN | apply Kd.R_drew)); exact HO217.out))) (Kd.R_lt (by (with_reducible repeat (first | apply Kd.R_alloc | apply Kd.R_drewN | apply Kd.R_drew)); exact HO224.out))) (below_size (bwA))); have n6_ := Aside0.mk (below_step (bwA) hb); clear HO203; clear HO207; clear HO211; clear HO217; clear HO224; clear HB; have HO203 := n0_; have HO207 := n1_; have HO211 := n2_; have HO217 := n3_; have HO224 := n4_; have HO231 := n5_; have HB := n6_; clear n0_ n1_ n2_ n3_ n4_ n5_ n6_; clear hb ho37; obtain ⟨Ao38, co38, eo38⟩ := Kd.R_slice HO231.out; subst eo38) | ((with_reducible refine gate_callee (f := 11) rfl ?_); refine goesA (some 39) Tryd.func11 #[.slice Ao22 t200.length co22, .slice Ao38 y229.length co38] ?_; (with_reducible refine (schema_Fits.calls k _ _ t200 _ _ y229 t232 _ ?side1 ?side2 ?side3 ?side4 ?side5 A9.out).mono ?_); (case side1 => repeat (first | exact (Kd.R_reads' HO203.out).2.2 | (with_reducible refine Kd.C_alloc ?_ _) | (with_reducible refine Kd.C_drewN ?_ _) | (with_reducible refine Kd.C_drew ?_))); (case side2 => exact (Kd.R_reads' HO203.out).2.1); (case side3 => repeat (first | exact (Kd.R_reads' HO231.out).2.2 | (with_reducible refine Kd.C_alloc ?_ _) | (with_reducible refine Kd.C_drewN ?_ _) | (with_reducible refine Kd.C_drew ?_))); (case side4 => exact (Kd.R_reads' HO231.out).2.1); (case side5 => exact Tabs.below HT.out (bwA)); rintro e w39 ⟨rfl, hb⟩; refine ⟨_, rfl, ?_⟩; have n0_ := Aside0.mk (Kd.R_below (by (with_reducible repeat (first | apply Kd.R_alloc | apply Kd.R_drewN | apply Kd.R_drew)); exact HO203.out) hb); have n1_ := Aside0.mk (Kd.R_below (by (with_reducible repeat (first | apply Kd.R_alloc | apply Kd.R_drewN | apply Kd.R_drew)); exact HO207.out) hb); have n2_ := Aside0.mk (Kd.R_below (by (with_reducible repeat (first | apply Kd.R_alloc | apply Kd.R_drewN | apply Kd.R_drew)); exact HO211.out) hb); have n3_ := Aside0.mk (Kd.R_below (by (with_reducible repeat (first | apply Kd.R_alloc | apply Kd.R_drewN | apply Kd.R_drew)); exact HO217.out) hb); have n4_ := Aside0.mk (Kd.R_below (by (with_reducible repeat (first | apply Kd.R_alloc | apply Kd.R_drewN | apply Kd.R_drew)); exact HO224.out) hb); have n5_ := Aside0.mk (Kd.R_below (by (with_reducible repeat (first | apply Kd.R_alloc | apply Kd.R_drewN | apply Kd.R_drew)); exact HO231.out) hb); have n6_ := Aside0.mk (below_step (bwA) hb); clear HO203; clear HO207; clear HO211; clear HO217; clear HO224; clear HO231; clear HB; have HO203 := n0_; have HO207 := n1_; have HO211 := n2_; have HO217 := n3_; have HO224 := n4_; have HO231 := n5_; have HB := n6_; clear n0_ n1_ n2_ n3_ n4_ n5_ n6_; (try clear hb); (try clear hb2); (try clear hk); (try clear hi)) | ((with_reducible refine gate_callee (f := 13) rfl ?_); refine goesA (some 41) Tryd.func13 #[.int .i64 1] ?_; (with_reducible refine (caduceuslaw04_num.calls 1 t233 t234 t235 _ A10.out).mono ?_); rintro e w40 ⟨rfl, hb⟩; refine ⟨_, rfl, ?_⟩; have n0_ := Aside0.mk (Kd.R_below (by (with_reducible repeat (first | apply Kd.R_alloc | apply Kd.R_drewN | apply Kd.R_drew)); exact HO203.out) hb); have n1_ := Aside0.mk (Kd.R_below (by (with_reducible repeat (first | apply Kd.R_alloc | apply Kd.R_drewN | apply Kd.R_drew)); exact HO207.out) hb); have n2_ := Aside0.mk (Kd.R_below (by (with_reducible repeat (first | apply Kd.R_alloc | apply Kd.R_drewN | apply Kd.R_drew)); exact HO211.out) hb); have n3_ := Aside0.mk (Kd.R_below (by (with_reducible repeat (first | apply Kd.R_alloc | apply Kd.R_drewN | apply Kd.R_drew)); exact HO217.out) hb); have n4_ := Aside0.mk (Kd.R_below (by (with_reducible repeat (first | apply Kd.R_alloc | apply Kd.R_drewN | apply Kd.R_drew)); exact HO224.out) hb); have n5_ := Aside0.mk (Kd.R_below (by (with_reducible repeat (first | apply Kd.R_alloc | apply Kd.R_drewN | apply Kd.R_drew)); exact HO231.out) hb); have n6_ := Aside0.mk (below_step (bwA) hb); clear HO203; clear HO207; clear HO211; clear HO217; clear HO224; clear HO231; clear HB; have HO203 := n0_; have HO207 := n1_; have HO211 := n2_; have HO217 := n3_; have HO224 := n4_; have HO231 := n5_; have HB := n6_; clear n0_ n1_ n2_ n3_ n4_ n5_ n6_; (try clear hb); (try clear hb2); (try clear hk); (try clear hi)) | ((with_reducible refine gate_callee (f := 13) rfl ?_); refine goesA (some 43) Tryd.func13 #[.int .i64 2] ?_; (with_reducible refine (caduceuslaw04_num.calls 2 t236 t237 t238 _ A11.out).mono ?_); rintro e w41 ⟨rfl, hb⟩; refine ⟨_, rfl, ?_⟩; have n0_ := Aside0.mk (Kd.R_below (by (with_reducible repeat (first | apply Kd.R_alloc | apply Kd.R_drewN | apply Kd.R_drew)); exact HO203.out) hb); have n1_ := Aside0.mk (Kd.R_below (by (with_reducible repeat (first | apply Kd.R_alloc | apply Kd.R_drewN | apply Kd.R_drew)); exact HO207.out) hb); have n2_ := Aside0.mk (Kd.R_below (by (with_reducible repeat (first | apply Kd.R_alloc | apply Kd.R_drewN | apply Kd.R_drew)); exact HO211.out) hb); have n3_ := Aside0.mk (Kd.R_below (by (with_reducible repeat (first | apply Kd.R_alloc | apply Kd.R_drewN | apply Kd.R_drew)); exact HO217.out) hb); have n4_ := Aside0.mk (Kd.R_below (by (with_reducible repeat (first | apply Kd.R_alloc | apply Kd.R_drewN | apply Kd.R_drew)); exact HO224.out) hb); have n5_ := Aside0.mk (Kd.R_below (by (with_reducible repeat (first | apply Kd.R_alloc | apply Kd.R_drewN | apply Kd.R_drew)); exact HO231.out) hb); have n6_ := Aside0.mk (below_step (bwA) hb); clear HO203; clear HO207; clear HO211; clear HO217; clear HO224; clear HO231; clear HB; have HO203 := n0_; have HO207 := n1_; have HO211 := n2_; have HO217 := n3_; have HO224 := n4_; have HO231 := n5_; have HB := n6_; clear n0_ n1_ n2_ n3_ n4_ n5_ n6_; (try clear hb); (try clear hb2); (try clear hk); (try clear hi)) | ((with_reducible refine gate_dst (N := 45) rfl ?_); (try (refine gate_guard (by rfl) ?_; dsimp only)); refine Kd.R_lit k41 _ 41 ?hg (N := 45) ?hd (xs := ([(⟨(⟨#[97]⟩ : ByteArray), (⟨t233, t234, t235⟩ : S39)⟩ : S41), (⟨(⟨#[99]⟩ : ByteArray), (⟨t236, t237, t238⟩ : S39)⟩ : S41)] : List (S41))) (inner := [.string (⟨#[97]⟩ : ByteArray), .int .i64 t233, .int .i64 t234, .string t235, .string (⟨#[99]⟩ : ByteArray), .int .i64 t236, .int .i64 t237, .string t238]) (ok := fun _ => True) (okp := fun _ => True) ?hr ?hp (fun _ hk => hk) trivial (Below.refl _ _) (Nat.le_refl _) (by simp) ?_; (case hd => rfl); (case hg => rfl); (case hr => first | (go_simp; done) | (go_simp; rfl)); (case hp => exact (Reps.c4 (show Kd.M k41 _ _ _ (⟨(⟨#[97]⟩ : ByteArray), (⟨t233, t234, t235⟩ : S39)⟩ : S41) [.string (⟨#[97]⟩ : ByteArray), .int .i64 t233, .int .i64 t234, .string t235] from (k41_mkM _ _ _ (⟨(⟨#[97]⟩ : ByteArray), (⟨t233, t234, t235⟩ : S39)⟩ : S41) )) (Reps.c4 (show Kd.M k41 _ _ _ (⟨(⟨#[99]⟩ : ByteArray), (⟨t236, t237, t238⟩ : S39)⟩ : S41) [.string (⟨#[99]⟩ : ByteArray), .int .i64 t236, .int .i64 t237, .string t238] from (k41_mkM _ _ _ (⟨(⟨#[99]⟩ : ByteArray), (⟨t236, t237, t238⟩ : S39)⟩ : S41) )) (Reps.none _ _)))); intro v240 w42 ho43 hb hg_ hnew_; clear hg_ hnew_; (first | rw [← Ny239.out] at ho43 | (simp only [Int.reduceToNat] at ho43; rw [← Ny239.out] at ho43)); have n0_ := Aside0.mk (Kd.R_below (by (with_reducible repeat (first | apply Kd.R_alloc | apply Kd.R_drewN | apply Kd.R_drew)); exact HO203.out) hb); have n1_ := Aside0.mk (Kd.R_below (by (with_reducible repeat (first | apply Kd.R_alloc | apply Kd.R_drewN | apply Kd.R_drew)); exact HO207.out) hb); have n2_ := Aside0.mk (Kd.R_below (by (with_reducible repeat (first | apply Kd.R_alloc | apply Kd.R_drewN | apply Kd.R_drew)); exact HO211.out) hb); have n3_ := Aside0.mk (Kd.R_elder' (by (with_reducible repeat (first | apply Kd.R_alloc | apply Kd.R_drewN | apply Kd.R_drew)); exact HO217.out) (Kd.R_base ho43) hb); have n4_ := Aside0.mk (Kd.R_elder' (by (with_reducible repeat (first | apply Kd.R_alloc | apply Kd.R_drewN | apply Kd.R_drew)); exact HO224.out) (Kd.R_base ho43) hb); have n5_ := Aside0.mk (Kd.R_elder' (by (with_reducible repeat (first | apply Kd.R_alloc | apply Kd.R_drewN | apply Kd.R_drew)); exact HO231.out) (Kd.R_base ho43) hb); have n6_ := Aside0.mk (Kd.R_lower (Kd.R_new' (Kd.R_new' (Kd.R_new' ho43 (Kd.R_lt (by (with_reducible repeat (first | apply Kd.R_alloc | apply Kd.R_drewN | apply Kd.R_drew)); exact HO217.out))) (Kd.R_lt (by (with_reducible repeat (first | apply Kd.R_alloc | apply Kd.R_drewN | apply Kd.R_drew)); exact HO224.out))) (Kd.R_lt (by (with_reducible repeat (first | apply Kd.R_alloc | apply Kd.R_drewN | apply Kd.R_drew)); exact HO231.out))) (below_size (bwA))); have n7_ := Aside0.mk (below_step (bwA) hb); clear HO203; clear HO207; clear HO211; clear HO217; clear HO224; clear HO231; clear HB; have HO203 := n0_; have HO207 := n1_; have HO211 := n2_; have HO217 := n3_; have HO224 := n4_; have HO231 := n5_; have HO241 := n6_; have HB := n7_; clear n0_ n1_ n2_ n3_ n4_ n5_ n6_ n7_; clear hb ho43; obtain ⟨Ao44, co44, eo44⟩ := Kd.R_slice HO241.out; subst eo44) | ((with_reducible refine gate_callee (f := 11) rfl ?_); refine goesA (some 46) Tryd.func11 #[.slice Ao22 t200.length co22, .slice Ao44 y239.length co44] ?_; (with_reducible refine (schema_Fits.calls k _ _ t200 _ _ y239 t242 _ ?side1 ?side2 ?side3 ?side4 ?side5 A12.out).mono ?_); (case side1 => repeat (first | exact (Kd.R_reads' HO203.out).2.2 | (with_reducible refine Kd.C_alloc ?_ _) | (with_reducible refine Kd.C_drewN ?_ _) | (with_reducible refine Kd.C_drew ?_))); (case side2 => exact (Kd.R_reads' HO203.out).2.1); (case side3 => repeat (first | exact (Kd.R_reads' HO241.out).2.2 | (with_reducible refine Kd.C_alloc ?_ _) | (with_reducible refine Kd.C_drewN ?_ _) | (with_reducible refine Kd.C_drew ?_))); (case side4 => exact (Kd.R_reads' HO241.out).2.1); (case side5 => exact Tabs.below HT.out (bwA)); rintro e w45 ⟨rfl, hb⟩; refine ⟨_, rfl, ?_⟩; have n0_ := Aside0.mk (Kd.R_below (by (with_reducible repeat (first | apply Kd.R_alloc | apply Kd.R_drewN | apply Kd.R_drew)); exact HO203.out) hb); have n1_ := Aside0.mk (Kd.R_below (by (with_reducible repeat (first | apply Kd.R_alloc | apply Kd.R_drewN | apply Kd.R_drew)); exact HO207.out) hb); have n2_ := Aside0.mk (Kd.R_below (by (with_reducible repeat (first | apply Kd.R_alloc | apply Kd.R_drewN | apply Kd.R_drew)); exact HO211.out) hb); have n3_ := Aside0.mk (Kd.R_below (by (with_reducible repeat (first | apply Kd.R_alloc | apply Kd.R_drewN | apply Kd.R_drew)); exact HO217.out) hb); have n4_ := Aside0.mk (Kd.R_below (by (with_reducible repeat (first | apply Kd.R_alloc | apply Kd.R_drewN | apply Kd.R_drew)); exact HO224.out) hb); have n5_ := Aside0.mk (Kd.R_below (by (with_reducible repeat (first | apply Kd.R_alloc | apply Kd.R_drewN | apply Kd.R_drew)); exact HO231.out) hb); have n6_ := Aside0.mk (Kd.R_below (by (with_reducible repeat (first | apply Kd.R_alloc | apply Kd.R_drewN | apply Kd.R_drew)); exact HO241.out) hb); have n7_ := Aside0.mk (below_step (bwA) hb); clear HO203; clear HO207; clear HO211; clear HO217; clear HO224; clear HO231; clear HO241; clear HB; have HO203 := n0_; have HO207 := n1_; have HO211 := n2_; have HO217 := n3_; have HO224 := n4_; have HO231 := n5_; have HO241 := n6_; have HB := n7_; clear n0_ n1_ n2_ n3_ n4_ n5_ n6_ n7_; (try clear hb); (try clear hb2); (try clear hk); (try clear hi)))
        go_ret
        exact ⟨endA, bwA⟩
       ·rw [if_neg c19] at H
        exact absurd H (by simp)
      ·rw [if_neg c18] at H
       exact absurd H (by simp)
     ·rw [if_neg c17] at H
      exact absurd H (by simp)
    ·rw [if_neg c16] at H
     exact absurd H (by simp)
   ·rw [if_neg c15] at H
    exact absurd H (by simp)
  ·rw [if_neg c14] at H
   exact absurd H (by simp)
 ·rw [if_neg c13] at H
  exact absurd H (by simp)

end Go.Proofs.YtbbfggfiknbdmaaDoor.A
