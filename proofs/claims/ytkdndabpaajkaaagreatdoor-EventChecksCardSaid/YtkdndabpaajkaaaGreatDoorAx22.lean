import Derived.Test.YtkdndabpaajkaaaGreatDoorAx0
import Derived.Test.YtkdndabpaajkaaaGreatDoorAx7
import Derived.Test.YtkdndabpaajkaaaGreatDoorAx8
import Derived.Test.YtkdndabpaajkaaaGreatDoorAx14
import Derived.Test.YtkdndabpaajkaaaGreatDoorAx20
import Derived.Test.YtkdndabpaajkaaaGreatDoorAx21
namespace Go.Proofs.YtkdndabpaajkaaaGreatDoor.A
open Go.RowKit Go.Proofs.YtkdndabpaajkaaaGreatDoorW.PrintWords Go.Proofs.YtkdndabpaajkaaaGreatDoorW.PrintLast Go.Proofs.YtkdndabpaajkaaaGreatDoorW.PrintMore
attribute [local go_sem] max2_int min2_int max_two min_two max_three min_three max_four min_four   -- for this text's walks alone
set_option linter.unusedVariables false
set_option linter.unusedSimpArgs false
set_option maxHeartbeats 8000000
set_option maxRecDepth 100000
def quic_Put.go (k : Nat) : List S147 → List UInt8 → Option (ByteArray × Int)
 | [], acc => some (⟨acc.toArray⟩, 0)
 | x :: l, acc => (quic_one.f k x.f0 x.f1 x.f2).bind fun t => if t.2 = true then (if acc.length + t.1.size ≤ 140737488355328 then quic_Put.go k l (acc ++ t.1.data.toList) else none) else some (⟨#[]⟩, 1)
def quic_Put.f (k : Nat) (l0 : List S147) : Option (ByteArray × Int) := if l0.length ≤ 4096 then quic_Put.go k l0 [] else some (⟨#[]⟩, 2)
theorem quic_Put.mono_go (k : Nat) : ∀ l acc, LeO (quic_Put.go k l acc) (quic_Put.go (k + 1) l acc)
 | [], acc => LeO.refl _
 | x :: l, acc => by
  unfold quic_Put.go
  repeat' first
   | (with_reducible exact LeO.refl _)
   | (with_reducible exact LeO.none _)
   | (with_reducible exact quic_one.mono _ _ _ _)
   | exact quic_Put.mono_go k l _
   | (with_reducible refine LeO.ite ?_ ?_)
   | (with_reducible refine LeO.bind ?_ (fun _ => ?_))
theorem quic_Put.mono : ∀ a0 k, LeO (quic_Put.f k a0) (quic_Put.f (k + 1) a0) := by
 intro a0 k; unfold quic_Put.f
 repeat' (with_reducible first | exact quic_Put.mono_go k a0 _ | exact LeO.refl _ | exact LeO.none _ | refine LeO.ite ?_ ?_ | refine LeO.bind ?_ (fun _ => ?_))
theorem quic_Put.calls (k : Nat) (A0 : Option Addr) (c0 : Nat) (l0 : List S147) (r1 : ByteArray) (r2 : Int) (w : World) (hr0 : Kd.C k147 w A0 l0.length l0) (hc0 : l0.length ≤ c0) (h : quic_Put.f k l0 = some (r1, r2)) :
  Calls Tryz.prog 103 #[.slice A0 l0.length c0] w fun e w' => e = .returned (.tuple #[.string r1, .int .i64 r2]) ∧ Below w.heap.size w w' := by
 have hu := Tryz.underlying147; have HR := aM hr0; have HC := aM hc0; clear hr0 hc0; unfold quic_Put.f at h
 by_cases hl : l0.length ≤ 4096
 ·rw [if_pos hl] at h
  have b0 : decide ((l0.length : Int) > 4096) = false := dF (by omega); have H := Lib.hid h; have HL := Lib.hid hl; clear h hl; go_enter Tryz.func103, Tryz.ntmps103; go_wp2; have I0 := Lib.IsBuilderF.of (Lib.fresh_isBuilder 162 5 w)
  go_loopw [14] (fun v14 wr => ∃ (x : Int) (acc : List UInt8), v14 = .int .i64 x ∧ Hid (0 ≤ x ∧ x ≤ (l0.length : Int)) ∧ Lib.IsBuilderF 162 5 w.heap.size w.heap.size (Lib.byteCells acc) wr ∧ Below w.heap.size w wr ∧ Hid (quic_Put.go k (l0.drop x.toNat) acc = some (r1, r2))) (fun v14 _ => l0.length - (intOf v14).toNat)
  case atStart => exact ⟨0, [], rfl, ⟨by omega, by omega⟩, I0, (Below.refl _ w).alloc (Nat.le_refl _) _, H⟩
  case round =>
   obtain ⟨x, acc, rfl, HX, hI, hbw, HG⟩ := hrel; clear H; have hx := HX.out
   by_cases hlt : x < (l0.length : Int)
   ·have b1 : decide (x < (l0.length : Int)) = true := dT hlt
    have p0 : 0 ≤ x := hx.1
    have hd : l0.drop x.toNat = rd_T147 l0 x :: l0.drop (x + 1).toNat := by
     have e : (x + 1).toNat = x.toNat + 1 := by omega
     have hn : x.toNat < l0.length := by omega
     rw [e, List.drop_eq_getElem_cons hn]; unfold rd_T147; rw [List.getD_eq_getElem?_getD, List.getElem?_eq_getElem hn]; rfl
    have hgo := HG.out; rw [hd, quic_Put.go] at hgo; obtain ⟨⟨t1, t2⟩, ho, hgo⟩ := Option.bind_eq_some_iff.1 hgo; dsimp only at hgo; obtain ⟨ad, ead, hx0, hx1, hx2⟩ := at_T147 (Kd.C_below HR.out hbw) x p0 hlt
    cases ead
    have cO := fun W => quic_one.calls k (rd_T147 l0 x).f0 (rd_T147 l0 x).f1 (rd_T147 l0 x).f2 t1 t2 W ho
    have HGo := Lib.hid hgo; have hsz := Lib.hid hbw.size; have w1 := Lib.hid (show wrap64 (x + 1) = x + 1 by unfold wrap64; have := HL.out; omega); clear hd hgo ho HG HX hx; have HX0 := Lib.hid (show 0 ≤ x by omega); have HB2 := Lib.hid (show 0 ≤ x + 1 ∧ x + 1 ≤ (l0.length : Int) by omega); replace p0 := eq_true p0; replace hlt := eq_true hlt
    cases t2 with
    | true =>
     have hgo := HGo.out; clear HGo; rw [if_pos rfl] at hgo
     by_cases hz : acc.length + t1.size ≤ 140737488355328
     ·rw [if_pos hz] at hgo
      have HG2 := Lib.hid hgo; have HZ := Lib.hid hz; clear hgo hz; go_wp2_with (first | ((with_reducible refine gate_dst (N := 6) rfl ?_); refine boxA 6 #[.int .i64 0, .int .i64 0, .string (⟨#[]⟩ : ByteArray)] 147 ?_; intro gb hg w2 hbox hb; have Hg := Lib.hid hg; clear hg; have hcz := fun j => Lib.cell_of_heap hbox j; have hfz := fun j => blk_frozen hbox j; have hv3 := vput3 hbox (.int .i64 (rd_T147 l0 x).f0) (.int .i64 (rd_T147 l0 x).f1) (.string (rd_T147 l0 x).f2); have c3 := fun j => Lib.cell_of_heap hv3 j; have f3 := fun j => Lib.frozen_of_heap hv3 j) | (go_at_call 169; refine (cO _).mono ?_; rintro e w4 ⟨rfl, hb4⟩)); have hb3 := bput3 hb (show _ ≤ gb by rw [Hg.out]; exact Nat.le_refl _) (.int .i64 (rd_T147 l0 x).f0) (.int .i64 (rd_T147 l0 x).f1) (.string (rd_T147 l0 x).f2); have hI4 := builderF_below (builderF_below hI hb3) hb4; have hbw4 := below_step (below_step hbw hb3) hb4; refine (Tryz.Bld_WriteString w.heap.size w.heap.size _ t1 _ hI4 (by rw [Lib.byteCells_length]; exact HZ.out) hbw4.size).mono ?_; rintro e W5 ⟨rfl, h1, b1, k1⟩; go_wp2
      go_roundw
      case rel => exact ⟨x + 1, acc ++ t1.data.toList, (by rw [w1.out]), HB2, (by rw [Lib.byteCells_append, ← strCells_mk]; exact Or.inr h1), hbw4.trans b1, HG2⟩
      case measure =>
       have e1 := w1.out; have e2 := HB2.out; have e3 := HX0.out
       show l0.length - (intOf (.int .i64 (wrap64 (x + 1)))).toNat < l0.length - (intOf (.int .i64 x)).toNat
       rw [e1]; simp only [intOf]
       omega
     ·rw [if_neg hz] at hgo
      cases hgo
    | false =>
     have hgo := HGo.out; clear HGo; rw [if_neg (by decide)] at hgo; have hgo := sI hgo; simp only [Prod.mk.injEq] at hgo; obtain ⟨rfl, rfl⟩ := hgo; go_wp2_with (first | ((with_reducible refine gate_dst (N := 6) rfl ?_); refine boxA 6 #[.int .i64 0, .int .i64 0, .string (⟨#[]⟩ : ByteArray)] 147 ?_; intro gb hg w2 hbox hb; have Hg := Lib.hid hg; clear hg; have hcz := fun j => Lib.cell_of_heap hbox j; have hfz := fun j => blk_frozen hbox j; have hv3 := vput3 hbox (.int .i64 (rd_T147 l0 x).f0) (.int .i64 (rd_T147 l0 x).f1) (.string (rd_T147 l0 x).f2); have c3 := fun j => Lib.cell_of_heap hv3 j; have f3 := fun j => Lib.frozen_of_heap hv3 j) | (go_at_call 169; refine (cO _).mono ?_; rintro e w4 ⟨rfl, hb4⟩)); have hb3 := bput3 hb (show _ ≤ gb by rw [Hg.out]; exact Nat.le_refl _) (.int .i64 (rd_T147 l0 x).f0) (.int .i64 (rd_T147 l0 x).f1) (.string (rd_T147 l0 x).f2); have hbw4 := below_step (below_step hbw hb3) hb4
     go_ret2
     exact ⟨rfl, hbw4⟩
   ·have b1 : decide (x < (l0.length : Int)) = false := dF hlt
    have hgo := HG.out; rw [List.drop_of_length_le (by omega), quic_Put.go] at hgo; have hgo := sI hgo; simp only [Prod.mk.injEq] at hgo; obtain ⟨rfl, rfl⟩ := hgo; clear HG HX hx hlt; go_wp2_with fail; refine (Tryz.Builder_String_any_k w.heap.size w.heap.size acc _ hI hbw.size).mono ?_; rintro e W4 ⟨rfl, _, b4, _⟩; go_wp2
    go_ret2
    exact ⟨rfl, hbw.trans b4⟩
 ·rw [if_neg hl] at h
  have h := sI h; simp only [Prod.mk.injEq] at h; obtain ⟨rfl, rfl⟩ := h; have b0 : decide ((l0.length : Int) > 4096) = true := dT (by omega); clear hl; go_enter Tryz.func103, Tryz.ntmps103; go_wp2
  go_ret2
  exact ⟨rfl, Below.refl _ _⟩
def value_Text.f (k : Nat) (a0_0 : Int) (a0_1 : Int) (a0_2 : ByteArray) : Option (ByteArray) := (value_Check.f a0_0 a0_1 a0_2).bind fun t479 => (if t479 = true then ((some (([(⟨1, a0_0, (⟨#[]⟩ : ByteArray)⟩ : S147)] : List (S147)) : List (S147))).bind fun y480 => (if a0_0 = 1 then (if y480.length < 4398046511104 then ((quic_Put.f k (y480 ++ [(⟨2, a0_1, (⟨#[]⟩ : ByteArray)⟩ : S147)])).bind fun bt486 => (some bt486.1)) else (none)) else (if a0_0 = 3 then (if y480.length < 4398046511104 then ((quic_Put.f k (y480 ++ [(⟨3, a0_1, (⟨#[]⟩ : ByteArray)⟩ : S147)])).bind fun bt491 => (some bt491.1)) else (none)) else (if y480.length < 4398046511104 then ((quic_Put.f k (y480 ++ [(⟨4, 0, a0_2⟩ : S147)])).bind fun bt496 => (some bt496.1)) else (none))))) else (some (⟨#[]⟩ : ByteArray)))
theorem value_Text.mono : ∀ a0 a1 a2 k, LeO (value_Text.f k a0 a1 a2) (value_Text.f (k + 1) a0 a1 a2) := by
 intro a0 a1 a2 k; unfold value_Text.f
 repeat' (with_reducible first | exact quic_Put.mono _ _ | exact LeO.refl _ | exact LeO.none _ | refine LeO.ite ?_ ?_ | refine LeO.bind ?_ (fun _ => ?_))
theorem value_Text.calls (k : Nat) (a0_0 : Int) (a0_1 : Int) (a0_2 : ByteArray) (r : ByteArray) (w : World) (hT : Tabs w) (h : value_Text.f k a0_0 a0_1 a0_2 = some r) :
  Calls Tryz.prog 183 #[.agg #[.int .i64 a0_0, .int .i64 a0_1, .string a0_2]] w fun e w' => e = .returned (.string r) ∧ Below w.heap.size w w' := by
 have hu74 := Tryz.underlying74; have hu147 := Tryz.underlying147; have HB := aM (Below.refl w.heap.size w); unfold value_Text.f at h; have H := h; clear h; have HT := aM hT; clear hT; replace H := bnA H; obtain ⟨t479, A2, H⟩ := H; revert H; refine itR ?L6p ?L6n
 case' L6p =>
  intro c3 H; subst c3
  first | ((with_reducible replace H := bsG H); obtain ⟨y480, Ny480, H⟩ := H) | (obtain ⟨y480, hy480⟩ : ∃ y_ : List (S147), y_ = (([(⟨1, a0_0, (⟨#[]⟩ : ByteArray)⟩ : S147)] : List (S147))) := ⟨_, rfl⟩; rw [← hy480] at H; have Ny480 := aM hy480; clear hy480)
  revert H; refine itQ ?L7p ?L7n
  case' L7p =>
   rintro ⟨c4b0, c4b1⟩ H; replace H := itN H; obtain ⟨c5, H⟩ := H; have LMc5 := aM c5; clear c5
   first | ((with_reducible replace H := bsG H); obtain ⟨y483, Ny483, H⟩ := H) | (obtain ⟨y483, hy483⟩ : ∃ y_ : List (S147), y_ = (y480 ++ [(⟨2, a0_1, (⟨#[]⟩ : ByteArray)⟩ : S147)]) := ⟨_, rfl⟩; rw [← hy483] at H; have Ny483 := aM hy483; clear hy483)
   replace H := bnA H; obtain ⟨⟨t486, t487⟩, A6, H⟩ := H; dsimp only at H; obtain rfl := sI H; have M1 := trivial; have M2 := trivial
  case' L7n =>
   rintro ⟨c4b0, c4b1⟩ c4 H; revert H; refine itQ ?L8p ?L8n
   case' L8p =>
    rintro ⟨c5b0, c5b1⟩ H; replace H := itN H; obtain ⟨c6, H⟩ := H; have LMc6 := aM c6; clear c6
    first | ((with_reducible replace H := bsG H); obtain ⟨y488, Ny488, H⟩ := H) | (obtain ⟨y488, hy488⟩ : ∃ y_ : List (S147), y_ = (y480 ++ [(⟨3, a0_1, (⟨#[]⟩ : ByteArray)⟩ : S147)]) := ⟨_, rfl⟩; rw [← hy488] at H; have Ny488 := aM hy488; clear hy488)
    replace H := bnA H; obtain ⟨⟨t491, t492⟩, A7, H⟩ := H; dsimp only at H; obtain rfl := sI H; have M1 := trivial; have M3 := trivial
   case' L8n =>
    rintro ⟨c5b0, c5b1⟩ c5 H; replace H := itN H; obtain ⟨c6, H⟩ := H; have LMc6 := aM c6; clear c6
    first | ((with_reducible replace H := bsG H); obtain ⟨y493, Ny493, H⟩ := H) | (obtain ⟨y493, hy493⟩ : ∃ y_ : List (S147), y_ = (y480 ++ [(⟨4, 0, a0_2⟩ : S147)]) := ⟨_, rfl⟩; rw [← hy493] at H; have Ny493 := aM hy493; clear hy493)
    replace H := bnA H; obtain ⟨⟨t496, t497⟩, A7, H⟩ := H; dsimp only at H; obtain rfl := sI H; have M1 := trivial; have M4 := trivial
 case' L6n =>
  intro c3 H; replace c3 := Bool.eq_false_iff.mpr c3; subst c3; obtain rfl := sI H; have M5 := trivial
 all_goals
  case _ =>
   go_enter Tryz.func183, Tryz.ntmps183; go_wp2_with (first | ((with_reducible refine gate_dst (N := 1) rfl ?_); refine boxB 1 #[.int .i64 a0_0, .int .i64 a0_1, .string a0_2] 74 HB ?_; clear HB; intro gb478 w101 BK478 GW478 GE478 HB; obtain ⟨hcz102_0, hcz102_1, hcz102_2⟩ := cel3 BK478.out; obtain ⟨hfz102_0, hfz102_1, hfz102_2⟩ := frz3 BK478.out) | ((with_reducible refine gate_callee (f := 177) rfl ?_); refine goesA (some 7) Tryz.func177 #[.agg #[.int .i64 a0_0, .int .i64 a0_1, .string a0_2]] ?_; (with_reducible refine (value_Check.calls _ _ _ _ _ ?side1 A2.out).mono ?_); (case side1 => exact Tabs.below HT.out (bwA)); rintro e w103 ⟨rfl, hb⟩; refine ⟨_, rfl, ?_⟩; replace BK478 := aM (bkB BK478 hb); replace HB := aM (below_step (bwA) hb); (try clear hb); apply stopA; (case other => exact trivial)))
   case _ =>
    first
     | clear M1
       obtain ⟨hcz104_0, hcz104_1, hcz104_2⟩ := cel3 BK478.out; obtain ⟨hfz104_0, hfz104_1, hfz104_2⟩ := frz3 BK478.out; go_wp2_with (first | ((with_reducible refine gate_dst (N := 12) rfl ?_); refine Kd.R_lit k147 _ 147 ?hg (N := 12) ?hd (xs := ([(⟨1, a0_0, (⟨#[]⟩ : ByteArray)⟩ : S147)] : List (S147))) (inner := [.int .i64 1, .int .i64 a0_0, .string (⟨#[]⟩ : ByteArray)]) (ok := fun _ => True) (okp := fun _ => True) ?hr ?hp (fun _ hk => hk) trivial (Below.refl _ _) (Nat.le_refl _) (by simp) ?_; (case hd => rfl); (case hg => rfl); (case hr => first | (go_simp; done) | (go_simp; rfl)); (case hp => exact (Reps.c3 (show Kd.M k147 _ _ _ (⟨1, a0_0, (⟨#[]⟩ : ByteArray)⟩ : S147) [.int .i64 1, .int .i64 a0_0, .string (⟨#[]⟩ : ByteArray)] from (k147_mkM _ _ _ (⟨1, a0_0, (⟨#[]⟩ : ByteArray)⟩ : S147) )) (Reps.none _ _))); intro v481 w105 ho106 hb hg_ hnew_; clear hg_ hnew_; (first | rw [← Ny480.out] at ho106 | (simp only [Int.reduceToNat] at ho106; rw [← Ny480.out] at ho106)); have HO482 := aM (Kd.R_lower ho106 (below_size (bwA))); replace BK478 := aM (bkB BK478 hb); replace HB := aM (below_step (bwA) hb); clear hb ho106; obtain ⟨hcz107_0, hcz107_1, hcz107_2⟩ := cel3 BK478.out; obtain ⟨hfz107_0, hfz107_1, hfz107_2⟩ := frz3 BK478.out; apply stopA; (case other => exact trivial)))
       case _ =>
        first
         | clear M2
           (try go_wp2_with (first | ((with_reducible refine gate_builtin (b := .append) (xs := #[.tmp 23, .tmp 27]) rfl ?_); at_builtin; refine Kd.R_append k147 (w0 := w) w.heap.size rfl (.tmp 23) (.tmp 27) 143 147 (.agg #[(.int .i64 0), (.int .i64 0), (.string ⟨#[]⟩)]) 32 rfl Tryz.underlying143 info147 rfl (by decide) (by omega) v481 y480 (⟨2, a0_1, (⟨#[]⟩ : ByteArray)⟩ : S147) [.int .i64 2, .int .i64 a0_1, .string (⟨#[]⟩ : ByteArray)] (fun _ => True) (fun _ => False) rfl rfl ?aP (fun _ hk => hk.elim) ?aF ?aO ?aB ?aS ?aL ?_; (case aP => exact k147_mkM _ _ _ (⟨2, a0_1, (⟨#[]⟩ : ByteArray)⟩ : S147)); (case aB => exact (bwA)); (case aF => exact (fun _ _ => trivial)); (case aO => exact (raA HO482.out)); (case aS => exact (below_size (bwA))); (case aL => have := LMc5.out; omega); intro v484 w108 ho hb hg hat; rw [← Ny483.out] at ho; have n0_ := aM (blk_grown (g := gb478) (o := .cells #[.int .i64 a0_0, .int .i64 a0_1, .string a0_2] 74 (0, 0)) blkA hg (Kd.R_ne HO482.out BK478.out (by decide))); have n1_ := aM (hb); have n2_ := aM (ho); clear BK478; clear HB; clear HO482; have BK478 := n0_; have HB := n1_; have HO485 := n2_; clear n0_ n1_ n2_; clear ho hb hg hat; obtain ⟨Ao109, co109, eo109⟩ := Kd.R_slice HO485.out; subst eo109) | ((with_reducible refine gate_callee (f := 103) rfl ?_); refine goesA (some 39) Tryz.func103 #[.slice Ao109 y483.length co109] ?_; (with_reducible refine (quic_Put.calls _ _ _ _ _ _ _ ?side1 ?side2 A6.out).mono ?_); (case side1 => repeat (first | exact (Kd.R_reads' HO485.out).2.2 | (with_reducible refine Kd.C_alloc ?_ _) | (with_reducible refine Kd.C_drewN ?_ _) | (with_reducible refine Kd.C_drew ?_))); (case side2 => exact (Kd.R_reads' HO485.out).2.1); rintro e w110 ⟨rfl, hb⟩; refine ⟨_, rfl, ?_⟩; replace HO485 := aM (Kd.R_below (raA HO485.out) hb); replace BK478 := aM (bkB BK478 hb); replace HB := aM (below_step (bwA) hb); (try clear hb)))); go_ret; exact ⟨endA, bwA⟩
         | clear M3
           (try go_wp2_with (first | ((with_reducible refine gate_builtin (b := .append) (xs := #[.tmp 31, .tmp 35]) rfl ?_); at_builtin; refine Kd.R_append k147 (w0 := w) w.heap.size rfl (.tmp 31) (.tmp 35) 143 147 (.agg #[(.int .i64 0), (.int .i64 0), (.string ⟨#[]⟩)]) 32 rfl Tryz.underlying143 info147 rfl (by decide) (by omega) v481 y480 (⟨3, a0_1, (⟨#[]⟩ : ByteArray)⟩ : S147) [.int .i64 3, .int .i64 a0_1, .string (⟨#[]⟩ : ByteArray)] (fun _ => True) (fun _ => False) rfl rfl ?aP (fun _ hk => hk.elim) ?aF ?aO ?aB ?aS ?aL ?_; (case aP => exact k147_mkM _ _ _ (⟨3, a0_1, (⟨#[]⟩ : ByteArray)⟩ : S147)); (case aB => exact (bwA)); (case aF => exact (fun _ _ => trivial)); (case aO => exact (raA HO482.out)); (case aS => exact (below_size (bwA))); (case aL => have := LMc6.out; omega); intro v489 w108 ho hb hg hat; rw [← Ny488.out] at ho; have n0_ := aM (blk_grown (g := gb478) (o := .cells #[.int .i64 a0_0, .int .i64 a0_1, .string a0_2] 74 (0, 0)) blkA hg (Kd.R_ne HO482.out BK478.out (by decide))); have n1_ := aM (hb); have n2_ := aM (ho); clear BK478; clear HB; clear HO482; have BK478 := n0_; have HB := n1_; have HO490 := n2_; clear n0_ n1_ n2_; clear ho hb hg hat; obtain ⟨Ao109, co109, eo109⟩ := Kd.R_slice HO490.out; subst eo109) | ((with_reducible refine gate_callee (f := 103) rfl ?_); refine goesA (some 39) Tryz.func103 #[.slice Ao109 y488.length co109] ?_; (with_reducible refine (quic_Put.calls _ _ _ _ _ _ _ ?side1 ?side2 A7.out).mono ?_); (case side1 => repeat (first | exact (Kd.R_reads' HO490.out).2.2 | (with_reducible refine Kd.C_alloc ?_ _) | (with_reducible refine Kd.C_drewN ?_ _) | (with_reducible refine Kd.C_drew ?_))); (case side2 => exact (Kd.R_reads' HO490.out).2.1); rintro e w110 ⟨rfl, hb⟩; refine ⟨_, rfl, ?_⟩; replace HO490 := aM (Kd.R_below (raA HO490.out) hb); replace BK478 := aM (bkB BK478 hb); replace HB := aM (below_step (bwA) hb); (try clear hb)))); go_ret; exact ⟨endA, bwA⟩
         | clear M4
           (try go_wp2_with (first | ((with_reducible refine gate_builtin (b := .append) (xs := #[.tmp 15, .tmp 19]) rfl ?_); at_builtin; refine Kd.R_append k147 (w0 := w) w.heap.size rfl (.tmp 15) (.tmp 19) 143 147 (.agg #[(.int .i64 0), (.int .i64 0), (.string ⟨#[]⟩)]) 32 rfl Tryz.underlying143 info147 rfl (by decide) (by omega) v481 y480 (⟨4, 0, a0_2⟩ : S147) [.int .i64 4, .int .i64 0, .string a0_2] (fun _ => True) (fun _ => False) rfl rfl ?aP (fun _ hk => hk.elim) ?aF ?aO ?aB ?aS ?aL ?_; (case aP => exact k147_mkM _ _ _ (⟨4, 0, a0_2⟩ : S147)); (case aB => exact (bwA)); (case aF => exact (fun _ _ => trivial)); (case aO => exact (raA HO482.out)); (case aS => exact (below_size (bwA))); (case aL => have := LMc6.out; omega); intro v494 w108 ho hb hg hat; rw [← Ny493.out] at ho; have n0_ := aM (blk_grown (g := gb478) (o := .cells #[.int .i64 a0_0, .int .i64 a0_1, .string a0_2] 74 (0, 0)) blkA hg (Kd.R_ne HO482.out BK478.out (by decide))); have n1_ := aM (hb); have n2_ := aM (ho); clear BK478; clear HB; clear HO482; have BK478 := n0_; have HB := n1_; have HO495 := n2_; clear n0_ n1_ n2_; clear ho hb hg hat; obtain ⟨Ao109, co109, eo109⟩ := Kd.R_slice HO495.out; subst eo109) | ((with_reducible refine gate_callee (f := 103) rfl ?_); refine goesA (some 39) Tryz.func103 #[.slice Ao109 y493.length co109] ?_; (with_reducible refine (quic_Put.calls _ _ _ _ _ _ _ ?side1 ?side2 A7.out).mono ?_); (case side1 => repeat (first | exact (Kd.R_reads' HO495.out).2.2 | (with_reducible refine Kd.C_alloc ?_ _) | (with_reducible refine Kd.C_drewN ?_ _) | (with_reducible refine Kd.C_drew ?_))); (case side2 => exact (Kd.R_reads' HO495.out).2.1); rintro e w110 ⟨rfl, hb⟩; refine ⟨_, rfl, ?_⟩; replace HO495 := aM (Kd.R_below (raA HO495.out) hb); replace BK478 := aM (bkB BK478 hb); replace HB := aM (below_step (bwA) hb); (try clear hb)))); go_ret; exact ⟨endA, bwA⟩
     | clear M5
       (try go_wp2_with (fail))
       go_ret; exact ⟨endA, bwA⟩
theorem vput4 {w : World} {g : Nat} {T : TypeId} {x y z u : Value} (h : w.heap[g]? = some (.cells #[x, y, z, u] T (0, 0))) (a b c d : Value) :
  ((((w.setCell ⟨g, 0, none⟩ a).setCell ⟨g, 1, none⟩ b).setCell ⟨g, 2, none⟩ c).setCell ⟨g, 3, none⟩ d).heap[g]? = some (.cells #[a, b, c, d] T (0, 0)) :=
 blk_put (blk_put (blk_put (blk_put h 0 a rfl) 1 b rfl) 2 c rfl) 3 d rfl
theorem bput4 {w W : World} {g B : Nat} (h : Below B w W) (hg : B ≤ g) (a b c d : Value) : Below B w ((((W.setCell ⟨g, 0, none⟩ a).setCell ⟨g, 1, none⟩ b).setCell ⟨g, 2, none⟩ c).setCell ⟨g, 3, none⟩ d) :=
 (((h.setCell (p := ⟨g, 0, none⟩) hg a).setCell (p := ⟨g, 1, none⟩) hg b).setCell (p := ⟨g, 2, none⟩) hg c).setCell (p := ⟨g, 3, none⟩) hg d
def schema_AttrText.go (k : Nat) : List S76 → List UInt8 → Option ByteArray
 | [], acc => some ⟨acc.toArray⟩
 | x :: l, acc => (quic_Num.f k (x.f0.size : Int)).bind fun t => (value_Text.f k x.f1.f0 x.f1.f1 x.f1.f2).bind fun u => if acc.length + (t.size + x.f0.size + u.size) ≤ 140737488355328 then schema_AttrText.go k l (acc ++ ((t ++ x.f0) ++ u).data.toList) else none
def schema_AttrText.f (k : Nat) (l0 : List S76) : Option ByteArray := (schema_Attrs.f k l0).bind fun t => if t = true then ((quic_Num.f k (l0.length : Int)).bind fun u => if u.size ≤ 140737488355328 then schema_AttrText.go k l0 u.data.toList else none) else some ⟨#[]⟩
theorem schema_AttrText.mono_go (k : Nat) : ∀ l acc, LeO (schema_AttrText.go k l acc) (schema_AttrText.go (k + 1) l acc)
 | [], acc => LeO.refl _
 | x :: l, acc => by
  unfold schema_AttrText.go
  repeat' first
   | (with_reducible exact LeO.refl _)
   | (with_reducible exact LeO.none _)
   | (with_reducible exact quic_Num.mono _ _)
   | (with_reducible exact value_Text.mono _ _ _ _)
   | exact schema_AttrText.mono_go k l _
   | (with_reducible refine LeO.ite ?_ ?_)
   | (with_reducible refine LeO.bind ?_ (fun _ => ?_))
theorem schema_AttrText.mono : ∀ a0 k, LeO (schema_AttrText.f k a0) (schema_AttrText.f (k + 1) a0) := by
 intro a0 k; unfold schema_AttrText.f
 repeat' (with_reducible first | exact schema_Attrs.mono _ _ | exact quic_Num.mono _ _ | exact schema_AttrText.mono_go k a0 _ | exact LeO.refl _ | exact LeO.none _ | refine LeO.ite ?_ ?_ | refine LeO.bind ?_ (fun _ => ?_))
def schema_AttrText.T8 : Bool × List (List Nat × List Nat) := (true, [([], []), ([0], [0]), ([1], [1]), ([2], [2]), ([], []), ([4], [4]), ([3, 5], [3, 5]), ([], []), ([7], [7]), ([8, 3], [8]), ([6, 9], [6, 9]), ([10, 9], [10])])
def schema_AttrText.B8 : List Nat := [0, 1, 3, 7, 0, 16, 63, 0, 128, 399, 1023, 2047]
theorem schema_AttrText.tab8 : rtab .any (opsOf Tryz.f118 8) = schema_AttrText.T8 := by kernel_rfl
theorem schema_AttrText.bits8 : waitsOk schema_AttrText.T8.2 schema_AttrText.B8 = true := by kernel_rfl
theorem schema_AttrText.calls (k : Nat) (A0 : Option Addr) (c0 : Nat) (l0 : List S76) (r : ByteArray) (w : World) (hr0 : Kd.C k76 w A0 l0.length l0) (hc0 : l0.length ≤ c0) (hT : Tabs w) (h : schema_AttrText.f k l0 = some r) :
  Calls Tryz.prog 118 #[.slice A0 l0.length c0] w fun e w' => e = .returned (.string r) ∧ Below w.heap.size w w' := by
 have huA := Tryz.underlying76; have huV := Tryz.underlying74; unfold schema_AttrText.f at h; obtain ⟨t, ha, h⟩ := Option.bind_eq_some_iff.1 h; have cA := fun W (hb : Below w.heap.size w W) => schema_Attrs.calls k A0 c0 l0 t W (Kd.C_below hr0 hb) hc0 (hT.below hb) ha
 have HR := aM hr0; have HC := aM hc0; have HT := aM hT; clear hr0 hc0 hT ha
 cases t with
 | false =>
  rw [if_neg (by decide)] at h; obtain rfl := sI h; go_enter Tryz.func118, Tryz.ntmps118; go_wp2_with (go_at_call 111; refine (cA _ (Below.refl _ w)).mono ?_; rintro e w1 ⟨rfl, hb1⟩); go_ret; exact ⟨rfl, hb1⟩
 | true =>
  rw [if_pos rfl] at h; obtain ⟨u, hu, h⟩ := Option.bind_eq_some_iff.1 h
  by_cases hz : u.size ≤ 140737488355328
  case neg => rw [if_neg hz] at h; cases h
  rw [if_pos hz] at h; have cN := fun W => quic_Num.calls k (l0.length : Int) u W hu
  have H := aM h; have HZ := aM hz; clear h hu hz; go_enter Tryz.func118, Tryz.ntmps118; (try go_wp2_with (first | (go_at_call 111; refine (cA _ (Below.refl _ w)).mono ?_; rintro e w1 ⟨rfl, hb1⟩) | (go_at_call 105; refine (cN _).mono ?_; rintro e w2 ⟨rfl, hb2⟩))); have I2 := builderF_below (Lib.IsBuilderF.of (Lib.fresh_isBuilder 162 5 w1)) hb2; have hs1 : w1.heap.size ≤ w2.heap.size := by have := hb2.size; simp at this; omega
  refine (Tryz.Bld_WriteString w1.heap.size w1.heap.size [] u _ I2 (by have := HZ.out; simp; omega) hs1).mono ?_; rintro e W3 ⟨rfl, h1, b1, k1⟩; have I3 : Lib.IsBuilderF 162 5 w1.heap.size w1.heap.size (Lib.byteCells u.data.toList) W3 := by rw [← strCells_mk]; exact Or.inr h1
  have hbw3 : Below w.heap.size w W3 := by
   have h2 : Below w1.heap.size w1 w2 := ((Below.refl _ w1).alloc (Nat.le_refl _) _).trans (hb2.mono (by simp)); exact hb1.trans ((h2.trans b1).mono hb1.size)
  have hsz3 := aM (show w1.heap.size ≤ W3.heap.size from Nat.le_trans hs1 b1.size); have HS1 := aM (show w.heap.size ≤ w1.heap.size from hb1.size); clear I2 hs1 h1 b1 k1 hb2 hb1 cA cN
  generalize w1.heap.size = B at I3 hsz3 HS1 ⊢
  go_wp2
  go_loopw [15] (fun v15 wr => ∃ (x : Int) (acc : List UInt8), v15 = .int .i64 x ∧ Hid (0 ≤ x ∧ x ≤ (l0.length : Int)) ∧ Lib.IsBuilderF 162 5 B B (Lib.byteCells acc) wr ∧ Below w.heap.size w wr ∧ Hid (B ≤ wr.heap.size) ∧ Hid (schema_AttrText.go k (l0.drop x.toNat) acc = some r)) (fun v15 _ => l0.length - (intOf v15).toNat)
  case atStart => exact ⟨0, u.data.toList, rfl, ⟨by omega, by omega⟩, I3, hbw3, Lib.hid hsz3.out, Lib.hid H.out⟩
  case round =>
   obtain ⟨x, acc, rfl, HX, hI, hbw, HS, HG⟩ := hrel; clear H I3 hbw3 hsz3; have hx := HX.out
   by_cases hlt : x < (l0.length : Int)
   ·have bb1 : decide (x < (l0.length : Int)) = true := dT hlt
    have p0 : 0 ≤ x := hx.1
    have hd : l0.drop x.toNat = rd_T76 l0 x :: l0.drop (x + 1).toNat := by
     have e : (x + 1).toNat = x.toNat + 1 := by omega
     have hn : x.toNat < l0.length := by omega
     rw [e, List.drop_eq_getElem_cons hn]; unfold rd_T76; rw [List.getD_eq_getElem?_getD, List.getElem?_eq_getElem hn]; rfl
    have hgo := HG.out; rw [hd, schema_AttrText.go] at hgo; obtain ⟨t1, ho1, hgo⟩ := Option.bind_eq_some_iff.1 hgo; obtain ⟨t2, ho2, hgo⟩ := Option.bind_eq_some_iff.1 hgo
    by_cases hz : acc.length + (t1.size + (rd_T76 l0 x).f0.size + t2.size) ≤ 140737488355328
    case neg => rw [if_neg hz] at hgo; cases hgo
    rw [if_pos hz] at hgo; obtain ⟨ad, ead, hx0, hx1, hx2, hx3⟩ := at_T76 (Kd.C_below HR.out hbw) x p0 hlt
    cases ead
    have cN := fun W => quic_Num.calls k ((rd_T76 l0 x).f0.size : Int) t1 W ho1
    have cV := fun W (hb : Below w.heap.size w W) => value_Text.calls k (rd_T76 l0 x).f1.f0 (rd_T76 l0 x).f1.f1 (rd_T76 l0 x).f1.f2 t2 W (HT.out.below hb) ho2
    have HG2 := Lib.hid hgo; have HZ2 := Lib.hid hz; have w1 := Lib.hid (show wrap64 (x + 1) = x + 1 by unfold wrap64; have := HR.out.2.1; omega); have z1 : (9223372036854775807 < t1.size + (rd_T76 l0 x).f0.size) = False := eq_false (by omega); have z2 : (9223372036854775807 < t1.size + (rd_T76 l0 x).f0.size + t2.size) = False := eq_false (by omega); have z3 : (9223372036854775807 < (t1 ++ (rd_T76 l0 x).f0).size + t2.size) = False := eq_false (by rw [ByteArray.size_append]; omega); clear hd hgo ho1 ho2 HG HX hx hz; have HX0 := Lib.hid (show 0 ≤ x by omega); have HB2 := Lib.hid (show 0 ≤ x + 1 ∧ x + 1 ≤ (l0.length : Int) by omega); replace p0 := eq_true p0; replace hlt := eq_true hlt; (try go_wp2_with (first | ((with_reducible refine gate_dst (N := 5) rfl ?_); refine boxA 5 #[.string (⟨#[]⟩ : ByteArray), .int .i64 0, .int .i64 0, .string (⟨#[]⟩ : ByteArray)] 76 ?_; intro gb hg w2 hbox hb; have Hg := Lib.hid hg; clear hg; have hcz := fun j => Lib.cell_of_heap hbox j; have hfz := fun j => blk_frozen hbox j; have hv4 := vput4 hbox (.string (rd_T76 l0 x).f0) (.int .i64 (rd_T76 l0 x).f1.f0) (.int .i64 (rd_T76 l0 x).f1.f1) (.string (rd_T76 l0 x).f1.f2)))); have hb4 := bput4 hb (show _ ≤ gb by rw [Hg.out]; exact Nat.le_refl _) (.string (rd_T76 l0 x).f0) (.int .i64 (rd_T76 l0 x).f1.f0) (.int .i64 (rd_T76 l0 x).f1.f1) (.string (rd_T76 l0 x).f1.f2); have BK0 := aM hv4; have HB0 := aM (below_step hbw hb4); have HI0 := aM (builderF_below hI hb4); have HQ0 := aM (Nat.le_trans HS.out hb4.size); clear hI hb hbw hb4 hcz hfz hv4 Hg hbox
    generalize ((((w2.setCell ⟨gb, 0, none⟩ (.string (rd_T76 l0 x).f0)).setCell ⟨gb, 1, none⟩ (.int .i64 (rd_T76 l0 x).f1.f0)).setCell ⟨gb, 2, none⟩ (.int .i64 (rd_T76 l0 x).f1.f1)).setCell ⟨gb, 3, none⟩ (.string (rd_T76 l0 x).f1.f2)) = w5 at BK0 HB0 HI0 HQ0 ⊢
    have HQ := aM (show B ≤ w5.drew.heap.size from HQ0.out); have BK := aM (blk_drew BK0.out); have HB := aM (below_drew1 HB0.out); have HI := aM (builderF_below HI0.out (below_drew1 (Below.refl _ w5))); clear BK0 HB0 HI0 HQ0; refine start_ (n := 12) (S := fun w' => w'.cell? ⟨gb, 0, none⟩ = some (.string (rd_T76 l0 x).f0) ∧ w'.cell? ⟨gb, 1, none⟩ = some (.int .i64 (rd_T76 l0 x).f1.f0) ∧ w'.cell? ⟨gb, 2, none⟩ = some (.int .i64 (rd_T76 l0 x).f1.f1) ∧ w'.cell? ⟨gb, 3, none⟩ = some (.string (rd_T76 l0 x).f1.f2)) (ds := [11]) (mkB 12 0) (by kernel_rfl) rfl rfl ⟨(blk_cell BK.out 0).trans rfl, (blk_cell BK.out 1).trans rfl, (blk_cell BK.out 2).trans rfl, (blk_cell BK.out 3).trans rfl⟩ (fun hHeld => ?_); refine with_tabW schema_AttrText.tab8 schema_AttrText.bits8 (fun HT_ HW_ => ?_)
    generalize w5.drew = w6 at BK HB HI HQ hHeld ⊢
    refine pureA 0 (some 19) (mkB 12 1) ?_; refine takeA 1 (some 20) (mkB 12 3) ?_ rfl (Or.inl ⟨by rfl, by rintro w' ⟨s0, s1, s2, s3⟩; go_simp; with_reducible rfl⟩); refine pureA 2 (some 21) (mkB 12 7) ?_; refine pureA 4 (some 23) (mkB 12 23) ?_; refine takeA 5 (some 24) (mkB 12 55) ?_ rfl (Or.inl ⟨by rfl, by rintro w' ⟨s0, s1, s2, s3⟩; go_simp; with_reducible rfl⟩); refine pureA 7 (some 26) (mkB 12 183) ?_; refine takeA 8 (some 27) (mkB 12 439) ?_ rfl (Or.inl ⟨by rfl, by rintro w' ⟨s0, s1, s2, s3⟩; go_simp; with_reducible rfl⟩); refine oneA 3 (some 22) (mkB 12 447) (fun K hK => ?_); refine goesS Tryz.func105 #[.int .i64 ((rd_T76 l0 x).f0.size : Int)] ?_; refine (cN _).mono ?_; rintro e w7 ⟨rfl, hb⟩; refine ⟨_, rfl, ?_⟩; have n0_ := aM (blk_below (g := gb) (o := .cells #[.string (rd_T76 l0 x).f0, .int .i64 (rd_T76 l0 x).f1.f0, .int .i64 (rd_T76 l0 x).f1.f1, .string (rd_T76 l0 x).f1.f2] 76 (0, 0)) BK.out hb); have n1_ := aM (below_step HB.out hb); have n2_ := aM (builderF_below HI.out hb); have n3_ := aM (Nat.le_trans HQ.out hb.size); clear BK HB HI HQ; have BK := n0_; have HB := n1_; have HI := n2_; have HQ := n3_; clear n0_ n1_ n2_ n3_ hb; refine hK.out _ _ ⟨(blk_cell BK.out 0).trans rfl, (blk_cell BK.out 1).trans rfl, (blk_cell BK.out 2).trans rfl, (blk_cell BK.out 3).trans rfl⟩ (fun hHeld => ?_); clear hK K; refine normA ?_; refine pureA 6 (some 25) (mkB 12 511) ?_; refine oneA 9 (some 28) (mkB 12 1023) (fun K hK => ?_); refine goesS Tryz.func183 #[.agg #[.int .i64 (rd_T76 l0 x).f1.f0, .int .i64 (rd_T76 l0 x).f1.f1, .string (rd_T76 l0 x).f1.f2]] ?_; refine (cV _ HB.out).mono ?_; rintro e w8 ⟨rfl, hb⟩; refine ⟨_, rfl, ?_⟩; have n0_ := aM (blk_below (g := gb) (o := .cells #[.string (rd_T76 l0 x).f0, .int .i64 (rd_T76 l0 x).f1.f0, .int .i64 (rd_T76 l0 x).f1.f1, .string (rd_T76 l0 x).f1.f2] 76 (0, 0)) BK.out hb); have n1_ := aM (below_step HB.out hb); have n2_ := aM (builderF_below HI.out hb); have n3_ := aM (Nat.le_trans HQ.out hb.size); clear BK HB HI HQ; have BK := n0_; have HB := n1_; have HI := n2_; have HQ := n3_; clear n0_ n1_ n2_ n3_ hb; refine hK.out _ _ ⟨(blk_cell BK.out 0).trans rfl, (blk_cell BK.out 1).trans rfl, (blk_cell BK.out 2).trans rfl, (blk_cell BK.out 3).trans rfl⟩ (fun hHeld => ?_); clear hK K; refine normA ?_; refine pureA 10 (some 29) (mkB 12 2047) ?_; refine last_ (i := 11) (N := some 30) (mkB 12 4095) rfl rfl (one_of HT_.out (by kernel_rfl)) (by decide) (fun K hK => ?_); refine goesS Tryz.func109 #[.pointer (some ⟨B, 0, none⟩), .string ((t1 ++ (rd_T76 l0 x).f0) ++ t2)] ?_; refine (Tryz.Bld_WriteString B B _ ((t1 ++ (rd_T76 l0 x).f0) ++ t2) _ HI.out (by rw [Lib.byteCells_length, ByteArray.size_append, ByteArray.size_append]; exact HZ2.out) HQ.out).mono ?_; rintro e W9 ⟨rfl, h1, b1, k1⟩; refine ⟨_, rfl, ?_⟩; refine hK.out _ _ ?_; clear hK K; refine normA ?_; refine done_ (done_of HT_.out (by kernel_rfl)) ?_; go_wp2
    go_roundw
    case rel => exact ⟨x + 1, acc ++ ((t1 ++ (rd_T76 l0 x).f0) ++ t2).data.toList, (by rw [w1.out]), HB2, (by rw [Lib.byteCells_append, ← strCells_mk]; exact Or.inr h1), HB.out.trans (b1.mono HS1.out), Lib.hid (Nat.le_trans HQ.out b1.size), HG2⟩
    case measure =>
     have e1 := w1.out; have e2 := HB2.out; have e3 := HX0.out
     show l0.length - (intOf (.int .i64 (wrap64 (x + 1)))).toNat < l0.length - (intOf (.int .i64 x)).toNat
     rw [e1]; simp only [intOf]
     omega
   ·have bb1 : decide (x < (l0.length : Int)) = false := dF hlt
    have hgo := HG.out; rw [List.drop_of_length_le (by omega), schema_AttrText.go] at hgo; obtain rfl := sI hgo; clear HG HX hx hlt hgo; go_wp2_with fail; refine (Tryz.Builder_String_any_k B B acc _ hI HS.out).mono ?_; rintro e W4 ⟨rfl, _, b4, _⟩; go_wp2; go_ret; exact ⟨rfl, hbw.trans (b4.mono HS1.out)⟩
def event_Text.f (k : Nat) (a0_0 : Int) (a0_1 : Int) (a0_2 : Int) (a0_3 : ByteArray) (l0_4 : List (S76)) : Option (ByteArray) := (event_Check.f k a0_0 a0_1 a0_2 a0_3 l0_4).bind fun t499 => (if t499 = true then ((quic_Put.f k (([(⟨1, a0_0, (⟨#[]⟩ : ByteArray)⟩ : S147), (⟨1, a0_1, (⟨#[]⟩ : ByteArray)⟩ : S147), (⟨1, a0_2, (⟨#[]⟩ : ByteArray)⟩ : S147), (⟨4, 0, a0_3⟩ : S147)] : List (S147)))).bind fun bt503 => ((schema_AttrText.f k l0_4).bind fun t505 => (if bt503.1.size + t505.size ≤ 9223372036854775807 then (some (bt503.1 ++ t505)) else (none)))) else (some (⟨#[]⟩ : ByteArray)))
theorem event_Text.mono : ∀ a0 a1 a2 a3 a4 k, LeO (event_Text.f k a0 a1 a2 a3 a4) (event_Text.f (k + 1) a0 a1 a2 a3 a4) := by
 intro a0 a1 a2 a3 a4 k; unfold event_Text.f
 repeat' (with_reducible first | exact event_Check.mono _ _ _ _ _ _ | exact quic_Put.mono _ _ | exact schema_AttrText.mono _ _ | exact LeO.refl _ | exact LeO.none _ | refine LeO.ite ?_ ?_ | refine LeO.bind ?_ (fun _ => ?_))
theorem event_Text.calls (k : Nat) (a0_0 : Int) (a0_1 : Int) (a0_2 : Int) (a0_3 : ByteArray) (A0_4 : Option Addr) (c0_4 : Nat) (l0_4 : List (S76)) (r : ByteArray) (w : World) (hr0_4 : Kd.C k76 w A0_4 l0_4.length l0_4) (hc0_4 : l0_4.length ≤ c0_4) (hT : Tabs w) (h : event_Text.f k a0_0 a0_1 a0_2 a0_3 l0_4 = some r) :
  Calls Tryz.prog 54 #[.agg #[.int .i64 a0_0, .int .i64 a0_1, .int .i64 a0_2, .string a0_3, .slice A0_4 l0_4.length c0_4]] w fun e w' => e = .returned (.string r) ∧ Below w.heap.size w w' := by
 have hu66 := Tryz.underlying66; have hu147 := Tryz.underlying147; have HR0_4 := aM hr0_4; have HC0_4 := aM hc0_4; clear hr0_4 hc0_4; have HB := aM (Below.refl w.heap.size w); unfold event_Text.f at h; have H := h; clear h; have HT := aM hT; clear hT; replace H := bnA H; obtain ⟨t499, A2, H⟩ := H; revert H; refine itR ?L3p ?L3n
 case' L3p =>
  intro c3 H; subst c3
  first | ((with_reducible replace H := bsG H); obtain ⟨y500, Ny500, H⟩ := H) | (obtain ⟨y500, hy500⟩ : ∃ y_ : List (S147), y_ = (([(⟨1, a0_0, (⟨#[]⟩ : ByteArray)⟩ : S147), (⟨1, a0_1, (⟨#[]⟩ : ByteArray)⟩ : S147), (⟨1, a0_2, (⟨#[]⟩ : ByteArray)⟩ : S147), (⟨4, 0, a0_3⟩ : S147)] : List (S147))) := ⟨_, rfl⟩; rw [← hy500] at H; have Ny500 := aM hy500; clear hy500)
  replace H := bnA H; obtain ⟨⟨t503, t504⟩, A4, H⟩ := H; dsimp only at H; replace H := bnA H; obtain ⟨t505, A5, H⟩ := H; replace H := itN H; obtain ⟨c6, H⟩ := H; have c6b0 := eq_true c6; have c6b1 := dT c6; (try have c6b2 : (9223372036854775807 < t503.size + t505.size) = False := eq_false (Nat.not_lt.2 c6)); obtain rfl := sI H; have M1 := trivial
 case' L3n =>
  intro c3 H; replace c3 := Bool.eq_false_iff.mpr c3; subst c3; obtain rfl := sI H; have M2 := trivial
 all_goals
  case _ =>
   go_enter Tryz.func54, Tryz.ntmps54; go_wp2_with (first | ((with_reducible refine gate_dst (N := 1) rfl ?_); refine boxB 1 #[.int .i64 a0_0, .int .i64 a0_1, .int .i64 a0_2, .string a0_3, .slice A0_4 l0_4.length c0_4] 66 HB ?_; clear HB; intro gb498 w101 BK498 GW498 GE498 HB; obtain ⟨hcz102_0, hcz102_1, hcz102_2, hcz102_3, hcz102_4⟩ := cel5 BK498.out; obtain ⟨hfz102_0, hfz102_1, hfz102_2, hfz102_3, hfz102_4⟩ := frz5 BK498.out) | ((with_reducible refine gate_callee (f := 46) rfl ?_); refine goesA (some 6) Tryz.func46 #[.agg #[.int .i64 a0_0, .int .i64 a0_1, .int .i64 a0_2, .string a0_3, .slice A0_4 l0_4.length c0_4]] ?_; (with_reducible refine (event_Check.calls _ _ _ _ _ _ _ _ _ _ ?side1 ?side2 ?side3 A2.out).mono ?_); (case side1 => repeat (first | exact (Kd.C_below HR0_4.out HB.out) | (with_reducible refine Kd.C_alloc ?_ _) | (with_reducible refine Kd.C_drewN ?_ _) | (with_reducible refine Kd.C_drew ?_))); (case side2 => exact HC0_4.out); (case side3 => exact Tabs.below HT.out (bwA)); rintro e w103 ⟨rfl, hb⟩; refine ⟨_, rfl, ?_⟩; replace BK498 := aM (bkB BK498 hb); replace HB := aM (below_step (bwA) hb); (try clear hb); apply stopA; (case other => exact trivial)))
   case _ =>
    first
     | clear M1
       obtain ⟨hcz104_0, hcz104_1, hcz104_2, hcz104_3, hcz104_4⟩ := cel5 BK498.out; obtain ⟨hfz104_0, hfz104_1, hfz104_2, hfz104_3, hfz104_4⟩ := frz5 BK498.out; (try go_wp2_with (first | ((with_reducible refine gate_dst (N := 24) rfl ?_); refine Kd.R_lit k147 _ 147 ?hg (N := 24) ?hd (xs := ([(⟨1, a0_0, (⟨#[]⟩ : ByteArray)⟩ : S147), (⟨1, a0_1, (⟨#[]⟩ : ByteArray)⟩ : S147), (⟨1, a0_2, (⟨#[]⟩ : ByteArray)⟩ : S147), (⟨4, 0, a0_3⟩ : S147)] : List (S147))) (inner := [.int .i64 1, .int .i64 a0_0, .string (⟨#[]⟩ : ByteArray), .int .i64 1, .int .i64 a0_1, .string (⟨#[]⟩ : ByteArray), .int .i64 1, .int .i64 a0_2, .string (⟨#[]⟩ : ByteArray), .int .i64 4, .int .i64 0, .string a0_3]) (ok := fun _ => True) (okp := fun _ => True) ?hr ?hp (fun _ hk => hk) trivial (Below.refl _ _) (Nat.le_refl _) (by simp) ?_; (case hd => rfl); (case hg => rfl); (case hr => first | (go_simp; done) | (go_simp; rfl)); (case hp => exact (Reps.c3 (show Kd.M k147 _ _ _ (⟨1, a0_0, (⟨#[]⟩ : ByteArray)⟩ : S147) [.int .i64 1, .int .i64 a0_0, .string (⟨#[]⟩ : ByteArray)] from (k147_mkM _ _ _ (⟨1, a0_0, (⟨#[]⟩ : ByteArray)⟩ : S147) )) (Reps.c3 (show Kd.M k147 _ _ _ (⟨1, a0_1, (⟨#[]⟩ : ByteArray)⟩ : S147) [.int .i64 1, .int .i64 a0_1, .string (⟨#[]⟩ : ByteArray)] from (k147_mkM _ _ _ (⟨1, a0_1, (⟨#[]⟩ : ByteArray)⟩ : S147) )) (Reps.c3 (show Kd.M k147 _ _ _ (⟨1, a0_2, (⟨#[]⟩ : ByteArray)⟩ : S147) [.int .i64 1, .int .i64 a0_2, .string (⟨#[]⟩ : ByteArray)] from (k147_mkM _ _ _ (⟨1, a0_2, (⟨#[]⟩ : ByteArray)⟩ : S147) )) (Reps.c3 (show Kd.M k147 _ _ _ (⟨4, 0, a0_3⟩ : S147) [.int .i64 4, .int .i64 0, .string a0_3] from (k147_mkM _ _ _ (⟨4, 0, a0_3⟩ : S147) )) (Reps.none _ _)))))); intro v501 w105 ho106 hb hg_ hnew_; clear hg_ hnew_; (first | rw [← Ny500.out] at ho106 | (simp only [Int.reduceToNat] at ho106; rw [← Ny500.out] at ho106)); have HO502 := aM (Kd.R_lower ho106 (below_size (bwA))); replace BK498 := aM (bkB BK498 hb); replace HB := aM (below_step (bwA) hb); clear hb ho106; obtain ⟨Ao107, co107, eo107⟩ := Kd.R_slice HO502.out; subst eo107) | ((with_reducible refine gate_callee (f := 103) rfl ?_); refine goesA (some 25) Tryz.func103 #[.slice Ao107 y500.length co107] ?_; (with_reducible refine (quic_Put.calls _ _ _ _ _ _ _ ?side1 ?side2 A4.out).mono ?_); (case side1 => repeat (first | exact (Kd.R_reads' HO502.out).2.2 | (with_reducible refine Kd.C_alloc ?_ _) | (with_reducible refine Kd.C_drewN ?_ _) | (with_reducible refine Kd.C_drew ?_))); (case side2 => exact (Kd.R_reads' HO502.out).2.1); rintro e w108 ⟨rfl, hb⟩; refine ⟨_, rfl, ?_⟩; replace HO502 := aM (Kd.R_below (raA HO502.out) hb); replace BK498 := aM (bkB BK498 hb); replace HB := aM (below_step (bwA) hb); (try clear hb); obtain ⟨hcz109_0, hcz109_1, hcz109_2, hcz109_3, hcz109_4⟩ := cel5 BK498.out; obtain ⟨hfz109_0, hfz109_1, hfz109_2, hfz109_3, hfz109_4⟩ := frz5 BK498.out) | ((with_reducible refine gate_callee (f := 118) rfl ?_); refine goesA (some 31) Tryz.func118 #[.slice A0_4 l0_4.length c0_4] ?_; (with_reducible refine (schema_AttrText.calls _ _ _ _ _ _ ?side1 ?side2 ?side3 A5.out).mono ?_); (case side1 => repeat (first | exact (Kd.C_below HR0_4.out HB.out) | (with_reducible refine Kd.C_alloc ?_ _) | (with_reducible refine Kd.C_drewN ?_ _) | (with_reducible refine Kd.C_drew ?_))); (case side2 => exact HC0_4.out); (case side3 => exact Tabs.below HT.out (bwA)); rintro e w110 ⟨rfl, hb⟩; refine ⟨_, rfl, ?_⟩; replace HO502 := aM (Kd.R_below (raA HO502.out) hb); replace BK498 := aM (bkB BK498 hb); replace HB := aM (below_step (bwA) hb); (try clear hb)))); go_ret; exact ⟨endA, bwA⟩
     | clear M2
       (try go_wp2_with (fail))
       go_ret; exact ⟨endA, bwA⟩
def R01_Size.j0 : Nat → Int → Bool → Option (Int)
 | 0, _, _ => none
 | k + 1, x0, x8 => if x8 = true then (some 0) else (if x0 < 64 then (some 1) else (if x0 < 16384 then (some 2) else (if x0 < 1073741824 then (some 4) else (some 8))))
def R01_Size.f (k : Nat) (a0 : Int) : Option (Int) := if a0 < 0 then (R01_Size.j0 k a0 true) else (R01_Size.j0 k a0 (decide (a0 > 4611686018427387903)))
theorem R01_Size.mono_l : ∀ k, (∀ y0 y1, LeO (R01_Size.j0 k y0 y1) (R01_Size.j0 (k + 1) y0 y1))
 | 0 => fun _ _ r h => by simp [R01_Size.j0] at h
 | k + 1 => by
  have ih0 := R01_Size.mono_l k
  ·intro y0 y1
   unfold R01_Size.j0
   repeat' (with_reducible first | exact ih0 _ _ | exact LeO.refl _ | exact LeO.none _ | refine LeO.ite ?_ ?_ | refine LeO.bind ?_ (fun _ => ?_))
theorem R01_Size.mono : ∀ a0 k, LeO (R01_Size.f k a0) (R01_Size.f (k + 1) a0) := by
 intro a0 k; have ih0 := R01_Size.mono_l k; unfold R01_Size.f
 repeat' (with_reducible first | exact ih0 _ _ | exact LeO.refl _ | exact LeO.none _ | refine LeO.ite ?_ ?_ | refine LeO.bind ?_ (fun _ => ?_))
theorem R01_Size.calls (k : Nat) (a0 : Int) (r : Int) (w : World) (h : R01_Size.f k a0 = some r) :
  Calls Tryz.prog 184 #[.int .i64 a0] w fun e w' => e = .returned (.int .i64 r) ∧ Drawn0 w w' := by
 unfold R01_Size.f at h; have H := h; clear h; have HC101 := aM H; clear H; go_enter Tryz.func184, Tryz.ntmps184; go_upto_region 1 with (fail); go_cut [8] (fun v8 wc => ∃ (kq : Nat) (x8_100 : Bool), v8 = .bool x8_100 ∧ Aside0 (R01_Size.j0 kq a0 x8_100 = some r) ∧ Aside0 (kq ≤ k) ∧ Drawn0 w wc)
 case first =>
  have H := HC101.out; clear HC101; revert H; refine itR ?L3p ?L3n
  case' L3p =>
   intro c102 H; have c102b0 := dT c102; clear c102
   (first | rw [c102b0] | (simp only [i64_w, i32_w]; rw [c102b0]) | skip)
   have H' := aM H; clear H; have M1 := trivial
  case' L3n =>
   intro c102 H; have c102b0 := dF c102; clear c102
   (first | rw [c102b0] | (simp only [i64_w, i32_w]; rw [c102b0]) | skip)
   have H' := aM H; clear H; have M2 := trivial
  all_goals
   case _ =>
    go_wp2
    go_meet
    first
     | clear M1
       case rel => exact ⟨_, (true), (endS), H', ⟨by first | omega | exact Nat.le_refl _⟩, drA⟩
     | clear M2
       case rel => exact ⟨_, (decide (a0 > 4611686018427387903)), (endS), H', ⟨by first | omega | exact Nat.le_refl _⟩, drA⟩
 case rest =>
  clear HC101; (try clear c1); (try clear p2); (try clear c10); (try clear c18); obtain ⟨kq, x8_100, rfl, HA, HJ100, ⟨mc100, rfl⟩⟩ := hcut
  cases kq with
  | zero => exact absurd HA.out (by simp [R01_Size.j0])
  | succ kj100 =>
   have H := HA.out; clear HA; simp only [R01_Size.j0] at H; revert H; refine itR ?L4p ?L4n
   case' L4p =>
    intro c102 H; subst c102; obtain rfl := sI H
   case' L4n =>
    intro c102 H; replace c102 := Bool.eq_false_iff.mpr c102; subst c102; revert H; refine itR ?L5p ?L5n
    case' L5p =>
     intro c103 H; have c103b0 := dT c103; clear c103; obtain rfl := sI H
    case' L5n =>
     intro c103 H; have c103b0 := dF c103; clear c103; revert H; refine itR ?L6p ?L6n
     case' L6p =>
      intro c104 H; have c104b0 := dT c104; clear c104; obtain rfl := sI H
     case' L6n =>
      intro c104 H; have c104b0 := dF c104; clear c104; revert H; refine itR ?L7p ?L7n
      case' L7p =>
       intro c105 H; have c105b0 := dT c105; clear c105; obtain rfl := sI H
      case' L7n =>
       intro c105 H; have c105b0 := dF c105; clear c105; obtain rfl := sI H
   all_goals
    case _ =>
     go_wp2; go_ret; exact ⟨endS, drA⟩
mutual
def R01_Num.l0 : Nat → Int → Int → List Int → Int → Option (ByteArray)
 | 0, _, _, _, _ => none
 | k + 1, x0, x3, x4, x5 => if x5 ≥ 0 then (if 0 ≤ (IntKind.u64.wrap (wrap64 (8 * x5))) then (if x4.length < 140737488355328 then (R01_Num.l0 k x0 x3 (x4 ++ [(shr .u64 (IntKind.u64.wrap (x0)) (IntKind.u64.wrap (wrap64 (8 * x5)))) % 256]) (wrap64 (x5 - 1))) else (none)) else (none)) else (if x3 = 2 then (if 0 < (x4.length : Int) then (R01_Num.j1 k x3 (x4.set (0 : Int).toNat (((rd x4 0) + 64) % 256))) else (none)) else (R01_Num.j1 k x3 x4))
def R01_Num.j1 : Nat → Int → List Int → Option (ByteArray)
 | 0, _, _ => none
 | k + 1, x3, x4 => if x3 = 4 then (if 0 < (x4.length : Int) then ((some (x4.set (0 : Int).toNat (((rd x4 0) + 128) % 256) : List Int)).bind fun y513 => (if x3 = 8 then (some (strOfNums (y513.set (0 : Int).toNat (((rd y513 0) + 192) % 256)))) else (some (strOfNums y513)))) else (none)) else (if x3 = 8 then (if 0 < (x4.length : Int) then (some (strOfNums (x4.set (0 : Int).toNat (((rd x4 0) + 192) % 256)))) else (none)) else (some (strOfNums x4)))
end
def R01_Num.f (k : Nat) (a0 : Int) : Option (ByteArray) := (R01_Size.f k a0).bind fun t506 => (R01_Num.l0 k a0 t506 ([] : List Int) (wrap64 (t506 - 1)))
theorem R01_Num.mono_l : ∀ k, (∀ y0 y1 y2 y3, LeO (R01_Num.l0 k y0 y1 y2 y3) (R01_Num.l0 (k + 1) y0 y1 y2 y3)) ∧ (∀ y0 y1, LeO (R01_Num.j1 k y0 y1) (R01_Num.j1 (k + 1) y0 y1))
 | 0 => ⟨fun _ _ _ _ r h => by simp [R01_Num.l0] at h, fun _ _ r h => by simp [R01_Num.j1] at h⟩
 | k + 1 => by
  obtain ⟨ih0, ih1⟩ := R01_Num.mono_l k; refine ⟨?_, ?_⟩
  all_goals intros
  all_goals first | unfold R01_Num.l0 | unfold R01_Num.j1
  all_goals repeat' (with_reducible first | exact ih0 _ _ _ _ | exact ih1 _ _ | exact R01_Size.mono _ _ | exact LeO.refl _ | exact LeO.none _ | refine LeO.ite ?_ ?_ | refine LeO.bind ?_ (fun _ => ?_))
theorem R01_Num.mono : ∀ a0 k, LeO (R01_Num.f k a0) (R01_Num.f (k + 1) a0) := by
 intro a0 k; obtain ⟨ih0, ih1⟩ := R01_Num.mono_l k; unfold R01_Num.f
 repeat' (with_reducible first | exact ih0 _ _ _ _ | exact ih1 _ _ | exact R01_Size.mono _ _ | exact LeO.refl _ | exact LeO.none _ | refine LeO.ite ?_ ?_ | refine LeO.bind ?_ (fun _ => ?_))
theorem R01_Num.calls (k : Nat) (a0 : Int) (r : ByteArray) (w : World) (h : R01_Num.f k a0 = some r) :
  Calls Tryz.prog 119 #[.int .i64 a0] w fun e w' => e = .returned (.string r) ∧ Below w.heap.size w w' := by
 have HB := aM (Below.refl w.heap.size w); unfold R01_Num.f at h; have H := h; clear h; replace H := bnA H; obtain ⟨t506, A2, H⟩ := H; have H' := aM H; clear H; go_enter Tryz.func119, Tryz.ntmps119; try go_wp2_with (first | ((with_reducible refine gate_callee (f := 184) rfl ?_); refine goesA (some 7) Tryz.func184 #[.int .i64 a0] ?_; (with_reducible refine (R01_Size.calls _ _ _ _ A2.out).mono ?_); rintro e w' ⟨rfl, ⟨nd, rfl⟩⟩; refine ⟨_, rfl, ?_⟩))
 go_loopg [4, 5] k (fun kq v4 v5 w' => ∃ (x4_1 : List Int) (x5_1 : Int), v5 = .int .i64 x5_1 ∧ Aside0 (R01_Num.l0 kq a0 t506 x4_1 x5_1 = some r) ∧ Aside0 (kq ≤ k) ∧ Aside0 (Kd.R (Kd.int .u8) 5 w' w.heap.size (fun _ => True) v4 x4_1) ∧ Aside0 (Below w.heap.size w w'))
 case atStart => exact ⟨(([] : List Int)), (wrap64 (t506 - 1)), (endS), H', ⟨Nat.le_refl _⟩, ⟨by first | exact Kd.R_nil _ _ _ _ _ | exact Kd.N_nil _ _ _ _ _ | exact Kd.V_nil _ _ _ _ _ | exact Kd.Q_nil _ _ _ _ _ | exact Kd.S_nil _ _ _ _ _⟩, ⟨bwA⟩⟩
 case round =>
  clear H'; (try clear c1); (try clear p2); (try clear p6); (try clear c11); (try clear c18); (try clear p64); obtain ⟨x4_1, x5_1, rfl, HA, HK1, HO_4, HB⟩ := hrel
  cases gk with
  | zero => exact absurd HA.out (by simp [R01_Num.l0])
  | succ k1 =>
   have H := HA.out; clear HA; simp only [R01_Num.l0] at H; revert H; refine itR ?L9p ?L9n
   case' L9p =>
    intro c101 H; have c101b0 := geT c101; clear c101; obtain ⟨ji102, hji102⟩ : ∃ j_ : Int, (IntKind.u64.wrap (wrap64 (8 * x5_1))) = j_ := ⟨_, rfl⟩; replace H : (if 0 ≤ (ji102) then (if x4_1.length < 140737488355328 then (R01_Num.l0 k1 a0 t506 (x4_1 ++ [(shr .u64 (IntKind.u64.wrap (a0)) (ji102)) % 256]) (wrap64 (x5_1 - 1))) else (none)) else (none)) = some r := by first | (rw [hji102] at H; exact H) | (simp only [hji102] at H ⊢; exact H)
    replace H := itN H; obtain ⟨c103, H⟩ := H; have c103b0 := eq_true c103; have c103b1 := dT c103; clear c103; obtain ⟨ji104, hji104⟩ : ∃ j_ : Int, (shr .u64 (IntKind.u64.wrap (a0)) (ji102)) = j_ := ⟨_, rfl⟩; replace H : (if x4_1.length < 140737488355328 then (R01_Num.l0 k1 a0 t506 (x4_1 ++ [(ji104) % 256]) (wrap64 (x5_1 - 1))) else (none)) = some r := by first | (rw [hji104] at H; exact H) | (simp only [hji104] at H ⊢; exact H)
    have hji104_ : ((IntKind.u64.wrap (a0)) / 2 ^ min (ji102).toNat 64) = ji104 := hji104; have hji104z : (ji102) ≤ 64 → ((IntKind.u64.wrap (a0)) / 2 ^ (ji102).toNat) = ji104 := shr_small hji104; replace H := itN H; obtain ⟨c105, H⟩ := H; have LMc105 := aM c105; clear c105
    first | ((with_reducible replace H := bsG H); obtain ⟨y507, Ny507, H⟩ := H) | (obtain ⟨y507, hy507⟩ : ∃ y_ : List Int, y_ = (x4_1 ++ [(ji104) % 256]) := ⟨_, rfl⟩; rw [← hy507] at H; have Ny507 := aM hy507; clear hy507)
    have H' := aM H; clear H; try go_wp2_with (first | ((with_reducible refine gate_builtin (b := .append) (xs := #[.tmp 14, .tmp 22]) rfl ?_); at_builtin; refine Kd.R_append (Kd.int .u8) (w0 := w) w.heap.size rfl (.tmp 14) (.tmp 22) 160 5 (.int .u8 0) 1 rfl Tryz.underlying160 info5 rfl (by decide) (by omega) u4 x4_1 ((ji104) % 256) [.int .u8 ((ji104) % 256)] (fun _ => True) (fun _ => False) rfl rfl ?aP (fun _ hk => hk.elim) ?aF ?aO ?aB ?aS ?aL ?_; (case aP => exact rfl); (case aB => exact (bwA)); (case aF => exact (fun _ _ => trivial)); (case aO => exact (raA HO_4.out)); (case aS => exact (below_size (bwA))); (case aL => have := LMc105.out; omega); intro v508 w201 ho hb hg hat; rw [← Ny507.out] at ho; have n0_ := aM (hb); have n1_ := aM (ho); clear HB; clear HO_4; have HB := n0_; have HO509 := n1_; clear n0_ n1_; clear ho hb hg hat))
    go_roundg k1
    case measure => have := HK1.out; omega
    case rel => exact ⟨(y507), (wrap64 (x5_1 - 1)), (endS), H', ⟨by have := HK1.out; omega⟩, ⟨by (with_reducible repeat (first | apply Kd.R_alloc | apply Kd.R_drewN | apply Kd.R_drew)); exact HO509.out⟩, ⟨bwA⟩⟩
   case' L9n =>
    intro c101 H; have c101b0 := geF c101; clear c101; have HC201 := aM H; clear H
    go_upto_if 25 with (fail)
    go_cut [] (fun wc => ∃ (kq : Nat) (x4_200 : List Int), Aside0 (R01_Num.j1 kq t506 x4_200 = some r) ∧ Aside0 (kq ≤ k1) ∧ Aside0 (Kd.R (Kd.int .u8) 5 wc w.heap.size (fun _ => True) u4 x4_200) ∧ Aside0 (Below w.heap.size w wc))
    case first =>
     have H := HC201.out; clear HC201; revert H; refine itQ ?L10p ?L10n
     case' L10p =>
      rintro ⟨c202b0, c202b1⟩ H
      (first | rw [c202b0] | (simp only [i64_w, i32_w]; rw [c202b0]) | skip)
      replace H := itN H; obtain ⟨c203, H⟩ := H; have c203b0 := dT c203; have c203b1 : decide (0 < x4_1.length) = true := dT (by omega); clear c203
      first | ((with_reducible replace H := bsG H); obtain ⟨y511, Ny511, H⟩ := H) | (obtain ⟨y511, hy511⟩ : ∃ y_ : List Int, y_ = (x4_1.set (0 : Int).toNat (((rd x4_1 0) + 64) % 256)) := ⟨_, rfl⟩; rw [← hy511] at H; have Ny511 := aM hy511; clear hy511)
      have H' := aM H; clear H; obtain ⟨Ao301, co301, eo301⟩ := Kd.R_slice HO_4.out; subst eo301; have p510 : 0 ≤ (0 : Int) := (by omega); have q510 : 0 < (x4_1.length : Int) := odA; obtain ⟨ad510, e510, hx510_0⟩ := Kd.at_int (Kd.R_reads' HO_4.out).2.2 0 p510 q510
      cases e510
      have qi510 : (0 < x4_1.length) = True := eq_true (by omega)
      (try rw [show ((0 : Int)).toNat = 0 from rfl] at hx510_0)
      (try rw [Addr.add_zero'] at hx510_0)
      replace p510 := eq_true p510; replace q510 := eq_true q510; have p204 : 0 ≤ (0 : Int) := (by omega); have q204 : (0 : Int) < ((x4_1.length : Int) : Int) := odA; have qi204 : (0 < x4_1.length) = True := eq_true (by omega); obtain ⟨go204, co204, eo204, gb204, gl204, cl204, HG204⟩ := Kd.R_form HO_4.out (by omega)
      (first | cases eo204 | (injection eo204 with ea_ en_ ec_; (first | subst ea_ | (injection ea_ with ea_; subst ea_)); subst ec_; clear en_))
      have GB204 := aM gb204; have GG204 := aM HG204; clear gb204 gl204 HG204
      (first | simp only [add_plain] at hx510_0 | skip)
      obtain ⟨hx204_0, hf204_0⟩ := Kd.R_celln 0 HO_4.out (0 : Int) p204 q204
      (try rw [show ((0 : Int)).toNat = 0 from rfl] at hx204_0)
      (try simp only [Nat.reduceMul, Nat.zero_mul, Nat.zero_add, Nat.reduceAdd] at hx204_0)
      (try rw [show ((0 : Int)).toNat = 0 from rfl] at hf204_0)
      (try simp only [Nat.reduceMul, Nat.zero_mul, Nat.zero_add, Nat.reduceAdd] at hf204_0)
      replace p204 := eq_true p204; replace q204 := eq_true q204; have HP302 := Kd.R_putg HO_4.out (0 : Int) (((rd x4_1 0) + 64) % 256); try go_wp2_with (first | ((with_reducible refine gate_store (t := 5) (p := 31) rfl ?_); refine store_event (t := 5) (p := 31) (v := ?vo1_) (w1 := (wr.setCell ⟨go204, (0 : Int).toNat, none⟩ (.int .u8 (((rd x4_1 0) + 64) % 256)))) ?hg ?ho ?hn ?hr ?_; (case ho => rfl); (case hg => rfl); (case hn => rfl); (case hr => first | (go_simp; done) | (go_simp; rfl)); intro w303 hw; have hg : wr.grownBy w303 (some go204) := (by rw [hw]; exact HP302.2); have hp_ : Kd.R (Kd.int .u8) 5 w303 w.heap.size (fun _ => True) (.slice (some ⟨go204, 0, none⟩) x4_1.length co301) y511 := (by rw [hw, Ny511.out]; exact HP302.1); clear HP302; replace HO_4 := aM (hp_); replace HB := aM ((by rw [hw]; exact below_set (HB.out) GB204.out : Below w.heap.size w w303)); clear hg hw hp_))
      go_meet
      case rel => exact ⟨_, (y511), H', ⟨by have := HK1.out; first | omega | exact Nat.le_refl _⟩, ⟨by (with_reducible repeat (first | apply Kd.R_alloc | apply Kd.R_drewN | apply Kd.R_drew)); exact HO_4.out⟩, ⟨bwA⟩⟩
     case' L10n =>
      rintro ⟨c202b0, c202b1⟩ c202 H
      (first | rw [c202b0] | (simp only [i64_w, i32_w]; rw [c202b0]) | skip)
      have H' := aM H; clear H; go_wp2
      go_meet
      case rel => exact ⟨_, (x4_1), H', ⟨by have := HK1.out; first | omega | exact Nat.le_refl _⟩, ⟨by (with_reducible repeat (first | apply Kd.R_alloc | apply Kd.R_drewN | apply Kd.R_drew)); exact HO_4.out⟩, ⟨bwA⟩⟩
    case rest =>
     clear HC201; (try clear c1); (try clear c2); (try clear p2); (try clear q2); (try clear hx2); (try clear qi2); (try clear hf2); (try clear p5); (try clear q5); (try clear hx5); (try clear qi5); (try clear p6); (try clear c10); (try clear c11); (try clear c18); (try clear c20); (try clear p20); (try clear q20); (try clear hx20); (try clear qi20); (try clear hf20); (try clear p51); (try clear q51); (try clear hx51); (try clear qi51); (try clear p64); (try clear c101); (try clear c101b0); (try clear c103); (try clear c103b0); (try clear c103b1); (try clear c105); (try clear c119); (try clear c184); (try clear hx204_0); (try clear hx510_0); (try clear p2); (try clear p204); (try clear p510); (try clear p6); (try clear p64); (try clear q204); (try clear q510); obtain ⟨kq, x4_200, HA, HJ200, HO_4, HB⟩ := hcut
     cases kq with
     | zero => exact absurd HA.out (by simp [R01_Num.j1])
     | succ kj200 =>
      have H := HA.out; clear HA; simp only [R01_Num.j1] at H; revert H; refine itQ ?L15p ?L15n
      case' L15p =>
       rintro ⟨c202b0, c202b1⟩ H; replace H := itN H; obtain ⟨c203, H⟩ := H; have c203b0 := dT c203; have c203b1 : decide (0 < x4_200.length) = true := dT (by omega); clear c203
       first | ((with_reducible replace H := bsG H); obtain ⟨y513, Ny513, H⟩ := H) | (obtain ⟨y513, hy513⟩ : ∃ y_ : List Int, y_ = (x4_200.set (0 : Int).toNat (((rd x4_200 0) + 128) % 256)) := ⟨_, rfl⟩; rw [← hy513] at H; have Ny513 := aM hy513; clear hy513)
       revert H; refine itQ ?L16p ?L16n
       case' L16p =>
        rintro ⟨c205b0, c205b1⟩ H
        first | ((with_reducible replace H := bsG H); obtain ⟨y515, Ny515, H⟩ := H) | (obtain ⟨y515, hy515⟩ : ∃ y_ : List Int, y_ = (y513.set (0 : Int).toNat (((rd y513 0) + 192) % 256)) := ⟨_, rfl⟩; rw [← hy515] at H; have Ny515 := aM hy515; clear hy515)
        obtain rfl := sI H; have M11 := trivial; have M12 := trivial
       case' L16n =>
        rintro ⟨c205b0, c205b1⟩ c205 H; obtain rfl := sI H; have M11 := trivial; have M13 := trivial
      case' L15n =>
       rintro ⟨c202b0, c202b1⟩ c202 H; revert H; refine itQ ?L17p ?L17n
       case' L17p =>
        rintro ⟨c203b0, c203b1⟩ H; replace H := itN H; obtain ⟨c204, H⟩ := H; have c204b0 := dT c204; have c204b1 : decide (0 < x4_200.length) = true := dT (by omega); clear c204
        first | ((with_reducible replace H := bsG H); obtain ⟨y517, Ny517, H⟩ := H) | (obtain ⟨y517, hy517⟩ : ∃ y_ : List Int, y_ = (x4_200.set (0 : Int).toNat (((rd x4_200 0) + 192) % 256)) := ⟨_, rfl⟩; rw [← hy517] at H; have Ny517 := aM hy517; clear hy517)
        obtain rfl := sI H; have M14 := trivial
       case' L17n =>
        rintro ⟨c203b0, c203b1⟩ c203 H; obtain rfl := sI H; have hcv301 := own_string (P := Tryz.prog) Tryz.underlying160 Tryz.underlying5 Tryz.underlying9 (Kd.own_of_R HO_4.out); go_wp2; go_ret; exact ⟨endA, bwA⟩
      all_goals
       case _ =>
        obtain ⟨Ao301, co301, eo301⟩ := Kd.R_slice HO_4.out; subst eo301
        first
         | clear M11
           have p512 : 0 ≤ (0 : Int) := (by omega); have q512 : 0 < (x4_200.length : Int) := odA; obtain ⟨ad512, e512, hx512_0⟩ := Kd.at_int (Kd.R_reads' HO_4.out).2.2 0 p512 q512
           cases e512
           have qi512 : (0 < x4_200.length) = True := eq_true (by omega)
           (try rw [show ((0 : Int)).toNat = 0 from rfl] at hx512_0)
           (try rw [Addr.add_zero'] at hx512_0)
           replace p512 := eq_true p512; replace q512 := eq_true q512; have p204 : 0 ≤ (0 : Int) := (by omega); have q204 : (0 : Int) < ((x4_200.length : Int) : Int) := odA; have qi204 : (0 < x4_200.length) = True := eq_true (by omega); obtain ⟨go204, co204, eo204, gb204, gl204, cl204, HG204⟩ := Kd.R_form HO_4.out (by omega)
           (first | cases eo204 | (injection eo204 with ea_ en_ ec_; (first | subst ea_ | (injection ea_ with ea_; subst ea_)); subst ec_; clear en_))
           have GB204 := aM gb204; have GG204 := aM HG204; clear gb204 gl204 HG204
           (first | simp only [add_plain] at hx512_0 | skip)
           obtain ⟨hx204_0, hf204_0⟩ := Kd.R_celln 0 HO_4.out (0 : Int) p204 q204
           (try rw [show ((0 : Int)).toNat = 0 from rfl] at hx204_0)
           (try simp only [Nat.reduceMul, Nat.zero_mul, Nat.zero_add, Nat.reduceAdd] at hx204_0)
           (try rw [show ((0 : Int)).toNat = 0 from rfl] at hf204_0)
           (try simp only [Nat.reduceMul, Nat.zero_mul, Nat.zero_add, Nat.reduceAdd] at hf204_0)
           replace p204 := eq_true p204; replace q204 := eq_true q204; have HP302 := Kd.R_putg HO_4.out (0 : Int) (((rd x4_200 0) + 128) % 256); go_wp2_with (first | ((with_reducible refine gate_store (t := 5) (p := 39) rfl ?_); refine store_event (t := 5) (p := 39) (v := ?vo2_) (w1 := (wc.setCell ⟨go204, (0 : Int).toNat, none⟩ (.int .u8 (((rd x4_200 0) + 128) % 256)))) ?hg ?ho ?hn ?hr ?_; (case ho => rfl); (case hg => rfl); (case hn => rfl); (case hr => first | (go_simp; done) | (go_simp; rfl)); intro w303 hw; have hg : wc.grownBy w303 (some go204) := (by rw [hw]; exact HP302.2); have hp_ : Kd.R (Kd.int .u8) 5 w303 w.heap.size (fun _ => True) (.slice (some ⟨go204, 0, none⟩) x4_200.length co301) y513 := (by rw [hw, Ny513.out]; exact HP302.1); clear HP302; replace HO_4 := aM (hp_); replace HB := aM ((by rw [hw]; exact below_set (HB.out) GB204.out : Below w.heap.size w w303)); clear hg hw hp_; apply stopA; (case other => exact trivial)))
           case _ =>
            first
             | clear M12
               have p514 : 0 ≤ (0 : Int) := (by omega); have q514 : 0 < (y513.length : Int) := (by have h_ : (0 : Int) < ((x4_200.length : Int) : Int) := odA; first | (have e_ := (Kd.R_reads' HO_4.out).1; omega) | simpa only [Ny513.out, List.length_set] using h_); have ql514 : ((0 : Int) < ((x4_200.length : Int) : Int)) = True := eq_true (odA)
               (try have qn514 : (0 < x4_200.length) = True := eq_true (by have h_ : (0 : Int) < ((x4_200.length : Int) : Int) := odA; omega))
               obtain ⟨ad514, e514, hx514_0⟩ := Kd.at_int (Kd.R_reads' HO_4.out).2.2 0 p514 q514; obtain rfl : (⟨go204, 0, none⟩ : Addr) = ad514 := (by injection e514)
               (first | simp only [add_plain] at hx514_0 | simp only [add_at] at hx514_0 | simp only [Addr.add, Nat.zero_add] at hx514_0 | skip)
               have qi514 : (0 < y513.length) = True := eq_true (by omega)
               (try rw [show ((0 : Int)).toNat = 0 from rfl] at hx514_0)
               (try rw [Addr.add_zero'] at hx514_0)
               replace p514 := eq_true p514; replace q514 := eq_true q514; have p206 : 0 ≤ (0 : Int) := (by omega); have q206 : (0 : Int) < ((x4_200.length : Int) : Int) := odA; have qi206 : (0 < x4_200.length) = True := eq_true (by omega); obtain ⟨hx206_0, hf206_0⟩ := Kd.R_celln 0 HO_4.out (0 : Int) p206 q206
               (try rw [show ((0 : Int)).toNat = 0 from rfl] at hx206_0)
               (try simp only [Nat.reduceMul, Nat.zero_mul, Nat.zero_add, Nat.reduceAdd] at hx206_0)
               (try rw [show ((0 : Int)).toNat = 0 from rfl] at hf206_0)
               (try simp only [Nat.reduceMul, Nat.zero_mul, Nat.zero_add, Nat.reduceAdd] at hf206_0)
               replace p206 := eq_true p206; replace q206 := eq_true q206; obtain ⟨hy304_, hz304_⟩ := Kd.R_celln 0 HO_4.out (0 : Int) (by omega) (odA)
               (try simp only [Int.reduceToNat, Int.toNat_zero, Int.toNat_ofNat, Nat.reduceMul, Nat.zero_mul, Nat.zero_add] at hy304_ hz304_)
               (try rw [show ((0 : Int)).toNat = 0 from rfl] at hy304_)
               (try rw [show ((0 : Int)).toNat = 0 from rfl] at hz304_)
               have HP304 := Kd.R_putg HO_4.out (0 : Int) (((rd y513 0) + 192) % 256); (try go_wp2_with (first | ((with_reducible refine gate_store (t := 5) (p := 47) rfl ?_); refine store_event (t := 5) (p := 47) (v := ?vo3_) (w1 := (w303.setCell ⟨go204, (0 : Int).toNat, none⟩ (.int .u8 (((rd y513 0) + 192) % 256)))) ?hg ?ho ?hn ?hr ?_; (case ho => rfl); (case hg => rfl); (case hn => rfl); (case hr => first | (go_simp; done) | (go_simp; rfl)); intro w305 hw; have hg : w303.grownBy w305 (some go204) := (by rw [hw]; exact HP304.2); have hp_ : Kd.R (Kd.int .u8) 5 w305 w.heap.size (fun _ => True) (.slice (some ⟨go204, 0, none⟩) x4_200.length co301) y515 := (by rw [hw, Ny515.out]; exact HP304.1); clear HP304; replace HO_4 := aM (hp_); replace HB := aM ((by rw [hw]; exact below_set (HB.out) GB204.out : Below w.heap.size w w305)); clear hg hw hp_; have hcv306 := own_string (P := Tryz.prog) Tryz.underlying160 Tryz.underlying5 Tryz.underlying9 (Kd.own_of_R HO_4.out)))); go_ret; exact ⟨endA, bwA⟩
             | clear M13
               have hcv304 := own_string (P := Tryz.prog) Tryz.underlying160 Tryz.underlying5 Tryz.underlying9 (Kd.own_of_R HO_4.out)
               (try go_wp2_with (fail))
               go_ret; exact ⟨endA, bwA⟩
         | clear M14
           have p516 : 0 ≤ (0 : Int) := (by omega); have q516 : 0 < (x4_200.length : Int) := odA; obtain ⟨ad516, e516, hx516_0⟩ := Kd.at_int (Kd.R_reads' HO_4.out).2.2 0 p516 q516
           cases e516
           have qi516 : (0 < x4_200.length) = True := eq_true (by omega)
           (try rw [show ((0 : Int)).toNat = 0 from rfl] at hx516_0)
           (try rw [Addr.add_zero'] at hx516_0)
           replace p516 := eq_true p516; replace q516 := eq_true q516; have p205 : 0 ≤ (0 : Int) := (by omega); have q205 : (0 : Int) < ((x4_200.length : Int) : Int) := odA; have qi205 : (0 < x4_200.length) = True := eq_true (by omega); obtain ⟨go205, co205, eo205, gb205, gl205, cl205, HG205⟩ := Kd.R_form HO_4.out (by omega)
           (first | cases eo205 | (injection eo205 with ea_ en_ ec_; (first | subst ea_ | (injection ea_ with ea_; subst ea_)); subst ec_; clear en_))
           have GB205 := aM gb205; have GG205 := aM HG205; clear gb205 gl205 HG205
           (first | simp only [add_plain] at hx516_0 | skip)
           obtain ⟨hx205_0, hf205_0⟩ := Kd.R_celln 0 HO_4.out (0 : Int) p205 q205
           (try rw [show ((0 : Int)).toNat = 0 from rfl] at hx205_0)
           (try simp only [Nat.reduceMul, Nat.zero_mul, Nat.zero_add, Nat.reduceAdd] at hx205_0)
           (try rw [show ((0 : Int)).toNat = 0 from rfl] at hf205_0)
           (try simp only [Nat.reduceMul, Nat.zero_mul, Nat.zero_add, Nat.reduceAdd] at hf205_0)
           replace p205 := eq_true p205; replace q205 := eq_true q205; have HP302 := Kd.R_putg HO_4.out (0 : Int) (((rd x4_200 0) + 192) % 256); (try go_wp2_with (first | ((with_reducible refine gate_store (t := 5) (p := 47) rfl ?_); refine store_event (t := 5) (p := 47) (v := ?vo4_) (w1 := (wc.setCell ⟨go205, (0 : Int).toNat, none⟩ (.int .u8 (((rd x4_200 0) + 192) % 256)))) ?hg ?ho ?hn ?hr ?_; (case ho => rfl); (case hg => rfl); (case hn => rfl); (case hr => first | (go_simp; done) | (go_simp; rfl)); intro w303 hw; have hg : wc.grownBy w303 (some go205) := (by rw [hw]; exact HP302.2); have hp_ : Kd.R (Kd.int .u8) 5 w303 w.heap.size (fun _ => True) (.slice (some ⟨go205, 0, none⟩) x4_200.length co301) y517 := (by rw [hw, Ny517.out]; exact HP302.1); clear HP302; replace HO_4 := aM (hp_); replace HB := aM ((by rw [hw]; exact below_set (HB.out) GB205.out : Below w.heap.size w w303)); clear hg hw hp_; have hcv304 := own_string (P := Tryz.prog) Tryz.underlying160 Tryz.underlying5 Tryz.underlying9 (Kd.own_of_R HO_4.out)))); go_ret; exact ⟨endA, bwA⟩
def R01_MayWhole.f (a0 : Int) : Option (Bool) := if a0 ≥ (-2305843009213693952) then (some (decide (a0 ≤ 2305843009213693951))) else (some false)
theorem R01_MayWhole.calls (a0 : Int) (r : Bool) (w : World) (h : R01_MayWhole.f a0 = some r) :
  Calls Tryz.prog 246 #[.int .i64 a0] w fun e w' => e = .returned (.bool r) ∧ Drawn0 w w' := by
 unfold R01_MayWhole.f at h; have H := h; clear h; revert H; refine itR ?L1p ?L1n
 case' L1p =>
  intro c2 H; have c2b0 := geT c2; clear c2; obtain rfl := sI H
 case' L1n =>
  intro c2 H; have c2b0 := geF c2; clear c2; obtain rfl := sI H
 all_goals
  case _ =>
   go_enter Tryz.func246, Tryz.ntmps246; go_wp2; go_ret; exact ⟨endS, drA⟩
def R01_Whole.f (k : Nat) (a0 : Int) : Option (ByteArray) := (R01_MayWhole.f a0).bind fun t518 => (if t518 = true then (if a0 ≥ 0 then ((R01_Num.f k (wrap64 (a0 + a0))).bind fun t519 => (some t519)) else ((R01_Num.f k (wrap64 ((wrap64 ((wrap64 (-a0)) - a0)) - 1))).bind fun t520 => (some t520))) else (some (⟨#[]⟩ : ByteArray)))
theorem R01_Whole.mono : ∀ a0 k, LeO (R01_Whole.f k a0) (R01_Whole.f (k + 1) a0) := by
 intro a0 k; unfold R01_Whole.f
 repeat' (with_reducible first | exact R01_Num.mono _ _ | exact LeO.refl _ | exact LeO.none _ | refine LeO.ite ?_ ?_ | refine LeO.bind ?_ (fun _ => ?_))
theorem R01_Whole.calls (k : Nat) (a0 : Int) (r : ByteArray) (w : World) (h : R01_Whole.f k a0 = some r) :
  Calls Tryz.prog 227 #[.int .i64 a0] w fun e w' => e = .returned (.string r) ∧ Below w.heap.size w w' := by
 have HB := aM (Below.refl w.heap.size w); unfold R01_Whole.f at h; have H := h; clear h; replace H := bnA H; obtain ⟨t518, A2, H⟩ := H; revert H; refine itR ?L5p ?L5n
 case' L5p =>
  intro c3 H; subst c3; revert H; refine itR ?L6p ?L6n
  case' L6p =>
   intro c4 H; have c4b0 := geT c4; clear c4; replace H := bnA H; obtain ⟨t519, A5, H⟩ := H; obtain rfl := sI H; have M1 := trivial; have M2 := trivial
  case' L6n =>
   intro c4 H; have c4b0 := geF c4; clear c4; replace H := bnA H; obtain ⟨t520, A5, H⟩ := H; obtain rfl := sI H; have M1 := trivial; have M3 := trivial
 case' L5n =>
  intro c3 H; replace c3 := Bool.eq_false_iff.mpr c3; subst c3; obtain rfl := sI H; have M4 := trivial
 all_goals
  case _ =>
   go_enter Tryz.func227, Tryz.ntmps227; go_wp2_with (first | ((with_reducible refine gate_callee (f := 246) rfl ?_); refine goesA (some 4) Tryz.func246 #[.int .i64 a0] ?_; (with_reducible refine (R01_MayWhole.calls _ _ _ A2.out).mono ?_); rintro e w' ⟨rfl, ⟨nd, rfl⟩⟩; refine ⟨_, rfl, ?_⟩; apply stopA; (case other => exact trivial)))
   case _ =>
    first
     | clear M1
       go_wp2_with (first | ((with_reducible refine gate_callee (f := 119) rfl ?_); apply stopA; (case other => exact trivial)))
       case _ =>
        first
         | clear M2
           refine goesA (some 11) Tryz.func119 #[.int .i64 (wrap64 (a0 + a0))] ?_
           (with_reducible refine (R01_Num.calls _ _ _ _ A5.out).mono ?_)
           rintro e w101 ⟨rfl, hb⟩; refine ⟨_, rfl, ?_⟩; replace HB := aM (below_step (bwA) hb)
           (try clear hb)
           (try go_wp2_with (fail))
           go_ret; exact ⟨endA, bwA⟩
         | clear M3
           refine goesA (some 17) Tryz.func119 #[.int .i64 (wrap64 ((wrap64 ((wrap64 (-a0)) - a0)) - 1))] ?_
           (with_reducible refine (R01_Num.calls _ _ _ _ A5.out).mono ?_)
           rintro e w101 ⟨rfl, hb⟩; refine ⟨_, rfl, ?_⟩; replace HB := aM (below_step (bwA) hb)
           (try clear hb)
           (try go_wp2_with (fail))
           go_ret; exact ⟨endA, bwA⟩
     | clear M4
       (try go_wp2_with (fail))
       go_ret; exact ⟨endA, bwA⟩
def R03_Text.f (k : Nat) (a0_0 : Int) (a0_1 : Int) (a0_2 : ByteArray) : Option (ByteArray) := (R03_Check.f k a0_0 a0_1 a0_2).bind fun t522 => (if t522 = true then ((R01_Num.f k a0_0).bind fun t523 => (if a0_0 = 1 then ((R01_Whole.f k a0_1).bind fun t524 => (if t523.size + t524.size ≤ 9223372036854775807 then (some (t523 ++ t524)) else (none))) else (if a0_0 = 3 then ((some (([(a0_1) % 256] : List Int) : List Int)).bind fun y525 => (if t523.size + (strOfNums y525).size ≤ 9223372036854775807 then (some (t523 ++ (strOfNums y525))) else (none))) else ((R01_Num.f k (a0_2.size : Int)).bind fun t528 => (if t523.size + t528.size ≤ 9223372036854775807 then (if (t523 ++ t528).size + a0_2.size ≤ 9223372036854775807 then (some ((t523 ++ t528) ++ a0_2)) else (none)) else (none)))))) else (some (⟨#[]⟩ : ByteArray)))
theorem R03_Text.mono : ∀ a0 a1 a2 k, LeO (R03_Text.f k a0 a1 a2) (R03_Text.f (k + 1) a0 a1 a2) := by
 intro a0 a1 a2 k; unfold R03_Text.f
 repeat' (with_reducible first | exact R01_Num.mono _ _ | exact R01_Whole.mono _ _ | exact R03_Check.mono _ _ _ _ | exact LeO.refl _ | exact LeO.none _ | refine LeO.ite ?_ ?_ | refine LeO.bind ?_ (fun _ => ?_))
def R03_Text.T8 : Bool × List (List Nat × List Nat) := (true, [([], []), ([], []), ([1], [1]), ([2], [2]), ([3], [3]), ([0, 4], [0, 4]), ([], []), ([6], [6]), ([5, 7], [5, 7]), ([8, 4, 0, 1, 2, 3, 4, 5, 6, 7, 8], [8])])
def R03_Text.B8 : List Nat := [0, 0, 2, 6, 14, 31, 0, 64, 255, 511]
theorem R03_Text.tab8 : rtab .any (opsOf Tryz.f185 8) = R03_Text.T8 := by kernel_rfl
theorem R03_Text.bits8 : waitsOk R03_Text.T8.2 R03_Text.B8 = true := by kernel_rfl
theorem R03_Text.calls (k : Nat) (a0_0 : Int) (a0_1 : Int) (a0_2 : ByteArray) (r : ByteArray) (w : World) (h : R03_Text.f k a0_0 a0_1 a0_2 = some r) :
  Calls Tryz.prog 185 #[.agg #[.int .i64 a0_0, .int .i64 a0_1, .string a0_2]] w fun e w' => e = .returned (.string r) ∧ Below w.heap.size w w' := by
 have hu138 := Tryz.underlying138; have HB := aM (Below.refl w.heap.size w); unfold R03_Text.f at h; have H := h; clear h; replace H := bnA H; obtain ⟨t522, A2, H⟩ := H; revert H; refine itR ?L6p ?L6n
 case' L6p =>
  intro c3 H; subst c3; replace H := bnA H; obtain ⟨t523, A4, H⟩ := H; revert H; refine itQ ?L7p ?L7n
  case' L7p =>
   rintro ⟨c5b0, c5b1⟩ H; replace H := bnA H; obtain ⟨t524, A6, H⟩ := H; replace H := itN H; obtain ⟨c7, H⟩ := H; have c7b0 := eq_true c7; have c7b1 := dT c7; (try have c7b2 : (9223372036854775807 < t523.size + t524.size) = False := eq_false (Nat.not_lt.2 c7)); obtain rfl := sI H; have M1 := trivial; have M2 := trivial
  case' L7n =>
   rintro ⟨c5b0, c5b1⟩ c5 H; revert H; refine itQ ?L8p ?L8n
   case' L8p =>
    rintro ⟨c6b0, c6b1⟩ H
    first | ((with_reducible replace H := bsG H); obtain ⟨y525, Ny525, H⟩ := H) | (obtain ⟨y525, hy525⟩ : ∃ y_ : List Int, y_ = (([(a0_1) % 256] : List Int)) := ⟨_, rfl⟩; rw [← hy525] at H; have Ny525 := aM hy525; clear hy525)
    replace H := itN H; obtain ⟨c7, H⟩ := H; have c7b0 := eq_true c7; have c7b1 := dT c7; (try have c7b2 : (9223372036854775807 < t523.size + (strOfNums y525).size) = False := eq_false (Nat.not_lt.2 c7)); obtain rfl := sI H; have M1 := trivial; have M3 := trivial
   case' L8n =>
    rintro ⟨c6b0, c6b1⟩ c6 H; replace H := bnA H; obtain ⟨t528, A7, H⟩ := H; replace H := itN H; obtain ⟨c8, H⟩ := H; have c8b0 := eq_true c8; have c8b1 := dT c8; (try have c8b2 : (9223372036854775807 < t523.size + t528.size) = False := eq_false (Nat.not_lt.2 c8)); replace H := itN H; obtain ⟨c9, H⟩ := H; have c9b0 := eq_true c9; have c9b1 := dT c9; (try have c9b2 : (9223372036854775807 < (t523 ++ t528).size + a0_2.size) = False := eq_false (Nat.not_lt.2 c9)); (try have c9b3 : (9223372036854775807 < t523.size + t528.size + a0_2.size) = False := eq_false (by have zz_ := c9; simp only [ByteArray.size_append] at zz_; skip; omega)); obtain rfl := sI H; have M1 := trivial; have M4 := trivial
 case' L6n =>
  intro c3 H; replace c3 := Bool.eq_false_iff.mpr c3; subst c3; obtain rfl := sI H; have M5 := trivial
 all_goals
  case _ =>
   go_enter Tryz.func185, Tryz.ntmps185; go_wp2_with (first | ((with_reducible refine gate_dst (N := 1) rfl ?_); refine boxB 1 #[.int .i64 a0_0, .int .i64 a0_1, .string a0_2] 138 HB ?_; clear HB; intro gb521 w101 BK521 GW521 GE521 HB; obtain ⟨hcz102_0, hcz102_1, hcz102_2⟩ := cel3 BK521.out; obtain ⟨hfz102_0, hfz102_1, hfz102_2⟩ := frz3 BK521.out) | ((with_reducible refine gate_callee (f := 129) rfl ?_); refine goesA (some 5) Tryz.func129 #[.agg #[.int .i64 a0_0, .int .i64 a0_1, .string a0_2]] ?_; (with_reducible refine (R03_Check.calls _ _ _ _ _ _ A2.out).mono ?_); rintro e w103 ⟨rfl, hb⟩; refine ⟨_, rfl, ?_⟩; replace BK521 := aM (bkB BK521 hb); replace HB := aM (below_step (bwA) hb); (try clear hb); apply stopA; (case other => exact trivial)))
   case _ =>
    first
     | clear M1
       obtain ⟨hcz104_0, hcz104_1, hcz104_2⟩ := cel3 BK521.out; obtain ⟨hfz104_0, hfz104_1, hfz104_2⟩ := frz3 BK521.out; go_wp2_with (first | ((with_reducible refine gate_callee (f := 119) rfl ?_); refine goesA (some 9) Tryz.func119 #[.int .i64 a0_0] ?_; (with_reducible refine (R01_Num.calls _ _ _ _ A4.out).mono ?_); rintro e w105 ⟨rfl, hb⟩; refine ⟨_, rfl, ?_⟩; replace BK521 := aM (bkB BK521 hb); replace HB := aM (below_step (bwA) hb); (try clear hb); obtain ⟨hcz106_0, hcz106_1, hcz106_2⟩ := cel3 BK521.out; obtain ⟨hfz106_0, hfz106_1, hfz106_2⟩ := frz3 BK521.out; apply stopA; (case other => exact trivial)))
       case _ =>
        first
         | clear M2
           (try go_wp2_with (first | ((with_reducible refine gate_callee (f := 227) rfl ?_); refine goesA (some 16) Tryz.func227 #[.int .i64 a0_1] ?_; (with_reducible refine (R01_Whole.calls _ _ _ _ A6.out).mono ?_); rintro e w107 ⟨rfl, hb⟩; refine ⟨_, rfl, ?_⟩; replace BK521 := aM (bkB BK521 hb); replace HB := aM (below_step (bwA) hb); (try clear hb)))); go_ret; exact ⟨endA, bwA⟩
         | clear M3
           (try go_wp2_with (first | ((with_reducible refine gate_dst (N := 25) rfl ?_); refine Kd.R_lit (Kd.int .u8) _ 5 ?hg (N := 25) ?hd (xs := ([(a0_1) % 256] : List Int)) (inner := [.int .u8 ((a0_1) % 256)]) (ok := fun _ => True) (okp := fun _ => True) ?hr ?hp (fun _ hk => hk) trivial (Below.refl _ _) (Nat.le_refl _) (by simp) ?_; (case hd => rfl); (case hg => rfl); (case hr => first | (go_simp; done) | (go_simp; rfl)); (case hp => exact (Reps.one (show Kd.M (Kd.int .u8) _ _ _ ((a0_1) % 256) [.int .u8 ((a0_1) % 256)] from rfl) (Reps.none _ _))); intro v526 w107 ho108 hb hg_ hnew_; clear hg_ hnew_; (first | rw [← Ny525.out] at ho108 | (simp only [Int.reduceToNat] at ho108; rw [← Ny525.out] at ho108)); have HO527 := aM (Kd.R_lower ho108 (below_size (bwA))); replace BK521 := aM (bkB BK521 hb); replace HB := aM (below_step (bwA) hb); clear hb ho108; have hcv109 := own_string (P := Tryz.prog) Tryz.underlying160 Tryz.underlying5 Tryz.underlying9 (Kd.own_of_R HO527.out)))); go_ret; exact ⟨endA, bwA⟩
         | clear M4
           (try go_wp2_with (fail))
           replace BK521 := aM (blk_drew BK521.out); replace HB := aM (below_drew1 HB.out); refine start_ (n := 10) (S := fun w' => w'.cell? ⟨gb521, 0, none⟩ = some (.int .i64 a0_0) ∧ w'.cell? ⟨gb521, 1, none⟩ = some (.int .i64 a0_1) ∧ w'.cell? ⟨gb521, 2, none⟩ = some (.string a0_2)) (ds := []) (mkB 10 0) (by kernel_rfl) rfl rfl (ce3 BK521.out) (fun hHeld => ?_); refine with_tabW R03_Text.tab8 R03_Text.bits8 (fun HT_ HW_ => ?_)
           generalize w105.drew = w107 at BK521 HB hHeld ⊢
           refine pureA 0 (some 28) (mkB 10 1) ?_; refine pureA 1 (some 29) (mkB 10 3) ?_; refine pureA 6 (some 34) (mkB 10 67) ?_; refine takeA 2 (some 30) (mkB 10 71) ?_ rfl (Or.inl ⟨by rfl, by rintro w' ⟨s0, s1, s2⟩; go_simp; with_reducible rfl⟩); refine pureA 3 (some 31) (mkB 10 79) ?_; refine takeA 7 (some 35) (mkB 10 207) ?_ rfl (Or.inl ⟨by rfl, by rintro w' ⟨s0, s1, s2⟩; go_simp; with_reducible rfl⟩); refine oneA 4 (some 32) (mkB 10 223) (fun K hK => ?_); refine goesS Tryz.func119 #[.int .i64 (a0_2.size : Int)] ?_
           with_reducible refine (R01_Num.calls _ _ _ _ A7.out).mono ?_
           rintro e w108 ⟨rfl, hb⟩; refine ⟨_, rfl, ?_⟩; replace BK521 := aM (bkB BK521 hb); replace HB := aM (below_step (bwA) hb)
           (try clear hb)
           refine hK.out _ _ (ce3 BK521.out) (fun hHeld => ?_); clear hK K; refine normA ?_; refine pureA 5 (some 33) (mkB 10 255) ?_; refine pureA 8 (some 36) (mkB 10 511) ?_; refine pureA 9 (some 2) (mkB 10 1023) ?_; refine done_ (done_of HT_.out (by kernel_rfl)) ?_; (try go_wp2); go_ret; exact ⟨endA, bwA⟩
     | clear M5
       (try go_wp2_with (fail))
       go_ret; exact ⟨endA, bwA⟩
end Go.Proofs.YtkdndabpaajkaaaGreatDoor.A
