-- By drv.py, the session's own driver round the kit's print: the machine's side of the laws, function by function. Not trusted: Lean checks it.
import Derived.Test.YtkdndabpaajkaaaGreatDoorAx0
import Derived.Test.YtkdndabpaajkaaaGreatDoorAx9
import Derived.Test.YtkdndabpaajkaaaGreatDoorAx10
import Derived.Test.YtkdndabpaajkaaaGreatDoorAx11
import Derived.Test.YtkdndabpaajkaaaGreatDoorAx25
import Derived.Test.YtkdndabpaajkaaaGreatDoorAx26
namespace Go.Proofs.YtkdndabpaajkaaaGreatDoor.A
open Go.RowKit Go.Proofs.YtkdndabpaajkaaaGreatDoorW.PrintWords Go.Proofs.YtkdndabpaajkaaaGreatDoorW.PrintLast Go.Proofs.YtkdndabpaajkaaaGreatDoorW.PrintMore
attribute [local go_sem] max2_int min2_int max_two min_two max_three min_three max_four min_four   -- for this text's walks alone
set_option linter.unusedVariables false
set_option linter.unusedSimpArgs false

/-! ### quic_Put: function 103, by hand -/
def quic_Put.go (k : Nat) : List S147 → List UInt8 → Option (ByteArray × Int)
 | [], acc => some (⟨acc.toArray⟩, 0)
 | x :: l, acc => (quic_one.f k x.f0 x.f1 x.f2).bind fun t => if t.2 = true then (if acc.length + t.1.size ≤ 140737488355328 then quic_Put.go k l (acc ++ t.1.data.toList) else none) else some (⟨#[]⟩, 1)
def quic_Put.f (k : Nat) (l0 : List S147) : Option (ByteArray × Int) := if l0.length ≤ 4096 then quic_Put.go k l0 [] else some (⟨#[]⟩, 2)
theorem quic_Put.mono_go (k : Nat) : ∀ l acc, LeO (quic_Put.go k l acc) (quic_Put.go (k + 1) l acc)
 | [], acc => LeO.refl _
 | x :: l, acc => by
  unfold quic_Put.go
  repeat' first
   | (with_reducible exact LeO.refl _)
   | (with_reducible exact LeO.none _)
   | (with_reducible exact quic_one.mono _ _ _ _)
   | exact quic_Put.mono_go k l _
   | (with_reducible refine LeO.ite ?_ ?_)
   | (with_reducible refine LeO.bind ?_ (fun _ => ?_))
theorem quic_Put.mono : ∀ a0 k, LeO (quic_Put.f k a0) (quic_Put.f (k + 1) a0) := by
 intro a0 k
 unfold quic_Put.f
 repeat' (with_reducible first | exact quic_Put.mono_go k a0 _ | exact LeO.refl _ | exact LeO.none _ | refine LeO.ite ?_ ?_ | refine LeO.bind ?_ (fun _ => ?_))
set_option maxHeartbeats 4000000 in
set_option maxRecDepth 100000 in
theorem quic_Put.calls (k : Nat) (A0 : Option Addr) (c0 : Nat) (l0 : List S147) (r1 : ByteArray) (r2 : Int) (w : World) (hr0 : Kd.C k147 w A0 l0.length l0) (hc0 : l0.length ≤ c0) (h : quic_Put.f k l0 = some (r1, r2)) :
  Calls Tryz.prog 103 #[.slice A0 l0.length c0] w fun e w' => e = .returned (.tuple #[.string r1, .int .i64 r2]) ∧ Below w.heap.size w w' := by
 have hu := Tryz.underlying147
 have HR := Aside0.mk hr0
 have HC := Aside0.mk hc0
 clear hr0 hc0
 unfold quic_Put.f at h
 by_cases hl : l0.length ≤ 4096
 ·rw [if_pos hl] at h
  have b0 : decide ((l0.length : Int) > 4096) = false := decide_eq_false (by omega)
  have H := Lib.hid h
  have HL := Lib.hid hl
  clear h hl
  go_enter Tryz.func103, Tryz.ntmps103
  go_wp2
  have I0 := Lib.IsBuilderF.of (Lib.fresh_isBuilder 162 5 w)
  go_loopw [14] (fun v14 wr => ∃ (x : Int) (acc : List UInt8), v14 = .int .i64 x ∧ Hid (0 ≤ x ∧ x ≤ (l0.length : Int)) ∧ Lib.IsBuilderF 162 5 w.heap.size w.heap.size (Lib.byteCells acc) wr ∧ Below w.heap.size w wr ∧ Hid (quic_Put.go k (l0.drop x.toNat) acc = some (r1, r2))) (fun v14 _ => l0.length - (intOf v14).toNat)
  case atStart => exact ⟨0, [], rfl, ⟨by omega, by omega⟩, I0, (Below.refl _ w).alloc (Nat.le_refl _) _, H⟩
  case round =>
   obtain ⟨x, acc, rfl, HX, hI, hbw, HG⟩ := hrel
   clear H
   have hx := HX.out
   by_cases hlt : x < (l0.length : Int)
   ·have b1 : decide (x < (l0.length : Int)) = true := decide_eq_true hlt
    have p0 : 0 ≤ x := hx.1
    have hd : l0.drop x.toNat = rd_T147 l0 x :: l0.drop (x + 1).toNat := by
     have e : (x + 1).toNat = x.toNat + 1 := by omega
     have hn : x.toNat < l0.length := by omega
     rw [e, List.drop_eq_getElem_cons hn]
     unfold rd_T147
     rw [List.getD_eq_getElem?_getD, List.getElem?_eq_getElem hn]
     rfl
    have hgo := HG.out
    rw [hd, quic_Put.go] at hgo
    obtain ⟨⟨t1, t2⟩, ho, hgo⟩ := Option.bind_eq_some_iff.1 hgo
    dsimp only at hgo
    obtain ⟨ad, ead, hx0, hx1, hx2⟩ := at_T147 (Kd.C_below HR.out hbw) x p0 hlt
    cases ead
    have cO := fun W => quic_one.calls k (rd_T147 l0 x).f0 (rd_T147 l0 x).f1 (rd_T147 l0 x).f2 t1 t2 W ho
    have HGo := Lib.hid hgo
    have hsz := Lib.hid hbw.size
    have w1 := Lib.hid (show wrap64 (x + 1) = x + 1 by unfold wrap64; have := HL.out; omega)
    clear hd hgo ho HG HX hx
    have HX0 := Lib.hid (show 0 ≤ x by omega)
    have HB2 := Lib.hid (show 0 ≤ x + 1 ∧ x + 1 ≤ (l0.length : Int) by omega)
    replace p0 := eq_true p0
    replace hlt := eq_true hlt
    cases t2 with
    | true =>
     have hgo := HGo.out
     clear HGo
     rw [if_pos rfl] at hgo
     by_cases hz : acc.length + t1.size ≤ 140737488355328
     ·rw [if_pos hz] at hgo
      have HG2 := Lib.hid hgo
      have HZ := Lib.hid hz
      clear hgo hz
      go_wp2_with (first | ((with_reducible refine gate_dst (N := 6) rfl ?_); refine boxA 6 #[.int .i64 0, .int .i64 0, .string (⟨#[]⟩ : ByteArray)] 147 ?_; intro gb hg w2 hbox hb; have Hg := Lib.hid hg; clear hg; have hcz := fun j => Lib.cell_of_heap hbox j; have hfz := fun j => blk_frozen hbox j; have hv3 := vput3 hbox (.int .i64 (rd_T147 l0 x).f0) (.int .i64 (rd_T147 l0 x).f1) (.string (rd_T147 l0 x).f2); have c3 := fun j => Lib.cell_of_heap hv3 j; have f3 := fun j => Lib.frozen_of_heap hv3 j) | (go_at_call 169; refine (cO _).mono ?_; rintro e w4 ⟨rfl, hb4⟩))
      have hb3 := bput3 hb (show _ ≤ gb by rw [Hg.out]; exact Nat.le_refl _) (.int .i64 (rd_T147 l0 x).f0) (.int .i64 (rd_T147 l0 x).f1) (.string (rd_T147 l0 x).f2)
      have hI4 := builderF_below (builderF_below hI hb3) hb4
      have hbw4 := below_step (below_step hbw hb3) hb4
      refine (Tryz.Bld_WriteString w.heap.size w.heap.size _ t1 _ hI4 (by rw [Lib.byteCells_length]; exact HZ.out) hbw4.size).mono ?_
      rintro e W5 ⟨rfl, h1, b1, k1⟩
      go_wp2
      go_roundw
      case rel => exact ⟨x + 1, acc ++ t1.data.toList, (by rw [w1.out]), HB2, (by rw [Lib.byteCells_append, ← strCells_mk]; exact Or.inr h1), hbw4.trans b1, HG2⟩
      case measure =>
       have e1 := w1.out
       have e2 := HB2.out
       have e3 := HX0.out
       show l0.length - (intOf (.int .i64 (wrap64 (x + 1)))).toNat < l0.length - (intOf (.int .i64 x)).toNat
       rw [e1]
       simp only [intOf]
       omega
     ·rw [if_neg hz] at hgo
      cases hgo
    | false =>
     have hgo := HGo.out
     clear HGo
     rw [if_neg (by decide)] at hgo
     have hgo := Option.some.inj hgo
     simp only [Prod.mk.injEq] at hgo
     obtain ⟨rfl, rfl⟩ := hgo
     go_wp2_with (first | ((with_reducible refine gate_dst (N := 6) rfl ?_); refine boxA 6 #[.int .i64 0, .int .i64 0, .string (⟨#[]⟩ : ByteArray)] 147 ?_; intro gb hg w2 hbox hb; have Hg := Lib.hid hg; clear hg; have hcz := fun j => Lib.cell_of_heap hbox j; have hfz := fun j => blk_frozen hbox j; have hv3 := vput3 hbox (.int .i64 (rd_T147 l0 x).f0) (.int .i64 (rd_T147 l0 x).f1) (.string (rd_T147 l0 x).f2); have c3 := fun j => Lib.cell_of_heap hv3 j; have f3 := fun j => Lib.frozen_of_heap hv3 j) | (go_at_call 169; refine (cO _).mono ?_; rintro e w4 ⟨rfl, hb4⟩))
     have hb3 := bput3 hb (show _ ≤ gb by rw [Hg.out]; exact Nat.le_refl _) (.int .i64 (rd_T147 l0 x).f0) (.int .i64 (rd_T147 l0 x).f1) (.string (rd_T147 l0 x).f2)
     have hbw4 := below_step (below_step hbw hb3) hb4
     go_ret2
     exact ⟨rfl, hbw4⟩
   ·have b1 : decide (x < (l0.length : Int)) = false := decide_eq_false hlt
    have hgo := HG.out
    rw [List.drop_of_length_le (by omega), quic_Put.go] at hgo
    have hgo := Option.some.inj hgo
    simp only [Prod.mk.injEq] at hgo
    obtain ⟨rfl, rfl⟩ := hgo
    clear HG HX hx hlt
    go_wp2_with fail
    refine (Tryz.Builder_String_any_k w.heap.size w.heap.size acc _ hI hbw.size).mono ?_
    rintro e W4 ⟨rfl, _, b4, _⟩
    go_wp2
    go_ret2
    exact ⟨rfl, hbw.trans b4⟩
 ·rw [if_neg hl] at h
  have h := Option.some.inj h
  simp only [Prod.mk.injEq] at h
  obtain ⟨rfl, rfl⟩ := h
  have b0 : decide ((l0.length : Int) > 4096) = true := decide_eq_true (by omega)
  clear hl
  go_enter Tryz.func103, Tryz.ntmps103
  go_wp2
  go_ret2
  exact ⟨rfl, Below.refl _ _⟩

/-! ### value_Text: function 183 -/
def value_Text.f (k : Nat) (a0_0 : Int) (a0_1 : Int) (a0_2 : ByteArray) : Option (ByteArray) := (value_Check.f a0_0 a0_1 a0_2).bind fun t327 => (if t327 = true then ((some (([(⟨1, a0_0, (⟨#[]⟩ : ByteArray)⟩ : S147)] : List (S147)) : List (S147))).bind fun y328 => (if a0_0 = 1 then (if y328.length < 4398046511104 then ((quic_Put.f k (y328 ++ [(⟨2, a0_1, (⟨#[]⟩ : ByteArray)⟩ : S147)])).bind fun bt334 => (some bt334.1)) else (none)) else (if a0_0 = 3 then (if y328.length < 4398046511104 then ((quic_Put.f k (y328 ++ [(⟨3, a0_1, (⟨#[]⟩ : ByteArray)⟩ : S147)])).bind fun bt339 => (some bt339.1)) else (none)) else (if y328.length < 4398046511104 then ((quic_Put.f k (y328 ++ [(⟨4, 0, a0_2⟩ : S147)])).bind fun bt344 => (some bt344.1)) else (none))))) else (some (⟨#[]⟩ : ByteArray)))
theorem value_Text.mono : ∀ a0 a1 a2 k, LeO (value_Text.f k a0 a1 a2) (value_Text.f (k + 1) a0 a1 a2) := by
 intro a0 a1 a2 k
 unfold value_Text.f
 repeat' (with_reducible first | exact quic_Put.mono _ _ | exact LeO.refl _ | exact LeO.none _ | refine LeO.ite ?_ ?_ | refine LeO.bind ?_ (fun _ => ?_))
set_option maxHeartbeats 8000000 in
set_option maxRecDepth 100000 in
theorem value_Text.calls (k : Nat) (a0_0 : Int) (a0_1 : Int) (a0_2 : ByteArray) (r : ByteArray) (w : World) (hT : Tabs w) (h : value_Text.f k a0_0 a0_1 a0_2 = some r) :
  Calls Tryz.prog 183 #[.agg #[.int .i64 a0_0, .int .i64 a0_1, .string a0_2]] w fun e w' => e = .returned (.string r) ∧ Below w.heap.size w w' := by
 have hu74 := Tryz.underlying74
 have hu147 := Tryz.underlying147
 have HB := Aside0.mk (Below.refl w.heap.size w)
 unfold value_Text.f at h
 have H := h
 clear h
 have HT := Aside0.mk hT
 clear hT
 replace H := Option.bind_eq_some_iff.mp H
 obtain ⟨t327, A20, H⟩ := H
 replace H : (if t327 = true then ((some (([(⟨1, a0_0, (⟨#[]⟩ : ByteArray)⟩ : S147)] : List (S147)) : List (S147))).bind fun y328 => (if a0_0 = 1 then (if y328.length < 4398046511104 then ((quic_Put.f k (y328 ++ [(⟨2, a0_1, (⟨#[]⟩ : ByteArray)⟩ : S147)])).bind fun bt334 => (some bt334.1)) else (none)) else (if a0_0 = 3 then (if y328.length < 4398046511104 then ((quic_Put.f k (y328 ++ [(⟨3, a0_1, (⟨#[]⟩ : ByteArray)⟩ : S147)])).bind fun bt339 => (some bt339.1)) else (none)) else (if y328.length < 4398046511104 then ((quic_Put.f k (y328 ++ [(⟨4, 0, a0_2⟩ : S147)])).bind fun bt344 => (some bt344.1)) else (none))))) else (some (⟨#[]⟩ : ByteArray))) = some r := H
 have A2 := Aside0.mk A20
 clear A20
 revert H; refine itR ?L6p ?L6n
 case' L6p =>
  intro c3 H
  subst c3
  obtain ⟨y328, hy328⟩ : ∃ y_ : List (S147), y_ = (([(⟨1, a0_0, (⟨#[]⟩ : ByteArray)⟩ : S147)] : List (S147))) := ⟨_, rfl⟩
  replace H : (if a0_0 = 1 then (if y328.length < 4398046511104 then ((quic_Put.f k (y328 ++ [(⟨2, a0_1, (⟨#[]⟩ : ByteArray)⟩ : S147)])).bind fun bt334 => (some bt334.1)) else (none)) else (if a0_0 = 3 then (if y328.length < 4398046511104 then ((quic_Put.f k (y328 ++ [(⟨3, a0_1, (⟨#[]⟩ : ByteArray)⟩ : S147)])).bind fun bt339 => (some bt339.1)) else (none)) else (if y328.length < 4398046511104 then ((quic_Put.f k (y328 ++ [(⟨4, 0, a0_2⟩ : S147)])).bind fun bt344 => (some bt344.1)) else (none)))) = some r := by first | (rw [hy328]; with_reducible exact H) | (have H2_ := (Option.bind_some _ _).symm.trans H; rw [hy328]; with_reducible exact H2_) | (have H2_ := (Option.bind_some _ _).symm.trans H; with_reducible exact H2_) | with_reducible exact H | (rw [hy328]; exact H) | exact H
  have Ny328 := Aside0.mk hy328
  clear hy328
  revert H; refine itR ?L7p ?L7n
  case' L7p =>
   intro c4 H
   obtain ⟨c4b0, c4b1⟩ := fcE c4
   clear c4
   replace H := itN H
   obtain ⟨c5, H⟩ := H
   have LMc5 := Aside0.mk c5
   clear c5
   obtain ⟨y331, hy331⟩ : ∃ y_ : List (S147), y_ = (y328 ++ [(⟨2, a0_1, (⟨#[]⟩ : ByteArray)⟩ : S147)]) := ⟨_, rfl⟩
   replace H : ((quic_Put.f k y331).bind fun bt334 => (some bt334.1)) = some r := by first | (rw [hy331]; with_reducible exact H) | (have H2_ := (Option.bind_some _ _).symm.trans H; rw [hy331]; with_reducible exact H2_) | (have H2_ := (Option.bind_some _ _).symm.trans H; with_reducible exact H2_) | with_reducible exact H | (rw [hy331]; exact H) | exact H
   have Ny331 := Aside0.mk hy331
   clear hy331
   replace H := bnA H
   obtain ⟨⟨t334, t335⟩, A6, H⟩ := H
   dsimp only at H
   obtain rfl := Option.some.inj H
   have M1 := True.intro
   have M2 := True.intro
  case' L7n =>
   intro c4 H
   obtain ⟨c4b0, c4b1⟩ := fcN c4
   revert H; refine itR ?L8p ?L8n
   case' L8p =>
    intro c5 H
    obtain ⟨c5b0, c5b1⟩ := fcE c5
    clear c5
    replace H := itN H
    obtain ⟨c6, H⟩ := H
    have LMc6 := Aside0.mk c6
    clear c6
    obtain ⟨y336, hy336⟩ : ∃ y_ : List (S147), y_ = (y328 ++ [(⟨3, a0_1, (⟨#[]⟩ : ByteArray)⟩ : S147)]) := ⟨_, rfl⟩
    replace H : ((quic_Put.f k y336).bind fun bt339 => (some bt339.1)) = some r := by first | (rw [hy336]; with_reducible exact H) | (have H2_ := (Option.bind_some _ _).symm.trans H; rw [hy336]; with_reducible exact H2_) | (have H2_ := (Option.bind_some _ _).symm.trans H; with_reducible exact H2_) | with_reducible exact H | (rw [hy336]; exact H) | exact H
    have Ny336 := Aside0.mk hy336
    clear hy336
    replace H := bnA H
    obtain ⟨⟨t339, t340⟩, A7, H⟩ := H
    dsimp only at H
    obtain rfl := Option.some.inj H
    have M1 := True.intro
    have M3 := True.intro
   case' L8n =>
    intro c5 H
    obtain ⟨c5b0, c5b1⟩ := fcN c5
    replace H := itN H
    obtain ⟨c6, H⟩ := H
    have LMc6 := Aside0.mk c6
    clear c6
    obtain ⟨y341, hy341⟩ : ∃ y_ : List (S147), y_ = (y328 ++ [(⟨4, 0, a0_2⟩ : S147)]) := ⟨_, rfl⟩
    replace H : ((quic_Put.f k y341).bind fun bt344 => (some bt344.1)) = some r := by first | (rw [hy341]; with_reducible exact H) | (have H2_ := (Option.bind_some _ _).symm.trans H; rw [hy341]; with_reducible exact H2_) | (have H2_ := (Option.bind_some _ _).symm.trans H; with_reducible exact H2_) | with_reducible exact H | (rw [hy341]; exact H) | exact H
    have Ny341 := Aside0.mk hy341
    clear hy341
    replace H := bnA H
    obtain ⟨⟨t344, t345⟩, A7, H⟩ := H
    dsimp only at H
    obtain rfl := Option.some.inj H
    have M1 := True.intro
    have M4 := True.intro
 case' L6n =>
  intro c3 H
  replace c3 := Bool.eq_false_iff.mpr c3
  subst c3
  obtain rfl := Option.some.inj H
  have M5 := True.intro
 all_goals
  case _ =>
   go_enter Tryz.func183, Tryz.ntmps183
   go_wp2_with (first | ((with_reducible refine gate_dst (N := 1) rfl ?_); refine boxA 1 #[.int .i64 a0_0, .int .i64 a0_1, .string a0_2] 74 ?_; intro gb326 hg w101 hbox hb; have BK326 := Aside0.mk (hbox); have GW326 := Aside0.mk (hgW hg : w.heap.size ≤ gb326); have GE326 := Aside0.mk (hgW hg : w.heap.size ≤ gb326); replace HB := Aside0.mk (below_step (bwA) hb); clear hb hbox hg; have hcz102_0 := celA BK326.out 0 (.int .i64 a0_0); have hcz102_1 := celA BK326.out 1 (.int .i64 a0_1); have hcz102_2 := celA BK326.out 2 (.string a0_2); have hfz102_0 := blk_frozen BK326.out 0; have hfz102_1 := blk_frozen BK326.out 1; have hfz102_2 := blk_frozen BK326.out 2) | ((with_reducible refine gate_callee (f := 177) rfl ?_); refine goesA (some 7) Tryz.func177 #[.agg #[.int .i64 a0_0, .int .i64 a0_1, .string a0_2]] ?_; (with_reducible refine (value_Check.calls _ _ _ _ _ ?side1 A2.out).mono ?_); (case side1 => exact Tabs.below HT.out (bwA)); rintro e w103 ⟨rfl, hb⟩; refine ⟨_, rfl, ?_⟩; replace BK326 := Aside0.mk (bkB BK326 hb); replace HB := Aside0.mk (below_step (bwA) hb); (try clear hb); apply stopA; (case other => exact True.intro)))
   case _ =>
    first
     | clear M1
       have hcz104_0 := celA BK326.out 0 (.int .i64 a0_0)
       have hcz104_1 := celA BK326.out 1 (.int .i64 a0_1)
       have hcz104_2 := celA BK326.out 2 (.string a0_2)
       have hfz104_0 := blk_frozen BK326.out 0
       have hfz104_1 := blk_frozen BK326.out 1
       have hfz104_2 := blk_frozen BK326.out 2
       go_wp2_with (first | ((with_reducible refine gate_dst (N := 12) rfl ?_); refine Kd.R_lit k147 _ 147 ?hg (N := 12) ?hd (xs := ([(⟨1, a0_0, (⟨#[]⟩ : ByteArray)⟩ : S147)] : List (S147))) (inner := [.int .i64 1, .int .i64 a0_0, .string (⟨#[]⟩ : ByteArray)]) (ok := fun _ => True) (okp := fun _ => True) ?hr ?hp (fun _ hk => hk) trivial (Below.refl _ _) (Nat.le_refl _) (by simp) ?_; (case hd => rfl); (case hg => rfl); (case hr => first | (go_simp; done) | (go_simp; rfl)); (case hp => exact (Reps.c3 (show Kd.M k147 _ _ _ (⟨1, a0_0, (⟨#[]⟩ : ByteArray)⟩ : S147) [.int .i64 1, .int .i64 a0_0, .string (⟨#[]⟩ : ByteArray)] from (k147_mkM _ _ _ (⟨1, a0_0, (⟨#[]⟩ : ByteArray)⟩ : S147) )) (Reps.none _ _))); intro v329 w105 ho106 hb hg_ hnew_; clear hg_ hnew_; (first | rw [← Ny328.out] at ho106 | (simp only [Int.reduceToNat] at ho106; rw [← Ny328.out] at ho106)); have HO330 := Aside0.mk (Kd.R_lower ho106 (below_size (bwA))); replace BK326 := Aside0.mk (bkB BK326 hb); replace HB := Aside0.mk (below_step (bwA) hb); clear hb ho106; have hcz107_0 := celA BK326.out 0 (.int .i64 a0_0); have hcz107_1 := celA BK326.out 1 (.int .i64 a0_1); have hcz107_2 := celA BK326.out 2 (.string a0_2); have hfz107_0 := blk_frozen BK326.out 0; have hfz107_1 := blk_frozen BK326.out 1; have hfz107_2 := blk_frozen BK326.out 2; apply stopA; (case other => exact True.intro)))
       case _ =>
        first
         | clear M2
           try go_wp2_with (first | ((with_reducible refine gate_builtin (b := .append) (xs := #[.tmp 23, .tmp 27]) rfl ?_); at_builtin; refine Kd.R_append k147 (w0 := w) w.heap.size rfl (.tmp 23) (.tmp 27) 143 147 (.agg #[(.int .i64 0), (.int .i64 0), (.string ⟨#[]⟩)]) 32 rfl Tryz.underlying143 info147 rfl (by decide) (by omega) v329 y328 (⟨2, a0_1, (⟨#[]⟩ : ByteArray)⟩ : S147) [.int .i64 2, .int .i64 a0_1, .string (⟨#[]⟩ : ByteArray)] (fun _ => True) (fun _ => False) rfl rfl ?aP (fun _ hk => hk.elim) ?aF ?aO ?aB ?aS ?aL ?_; (case aP => exact k147_mkM _ _ _ (⟨2, a0_1, (⟨#[]⟩ : ByteArray)⟩ : S147)); (case aB => exact (bwA)); (case aF => exact (fun _ _ => trivial)); (case aO => exact (raA HO330.out)); (case aS => exact (below_size (bwA))); (case aL => have := LMc5.out; omega); intro v332 w108 ho hb hg hat; rw [← Ny331.out] at ho; have n0_ := Aside0.mk (blk_grown (g := gb326) (o := .cells #[.int .i64 a0_0, .int .i64 a0_1, .string a0_2] 74 (0, 0)) blkA hg (Kd.R_ne HO330.out BK326.out (by decide))); have n1_ := Aside0.mk (hb); have n2_ := Aside0.mk (ho); clear BK326; clear HB; clear HO330; have BK326 := n0_; have HB := n1_; have HO333 := n2_; clear n0_ n1_ n2_; clear ho hb hg hat; obtain ⟨Ao109, co109, eo109⟩ := Kd.R_slice HO333.out; subst eo109) | ((with_reducible refine gate_callee (f := 103) rfl ?_); refine goesA (some 39) Tryz.func103 #[.slice Ao109 y331.length co109] ?_; (with_reducible refine (quic_Put.calls _ _ _ _ _ _ _ ?side1 ?side2 A6.out).mono ?_); (case side1 => repeat (first | exact (Kd.R_reads' HO333.out).2.2 | (with_reducible refine Kd.C_alloc ?_ _) | (with_reducible refine Kd.C_drewN ?_ _) | (with_reducible refine Kd.C_drew ?_))); (case side2 => exact (Kd.R_reads' HO333.out).2.1); rintro e w110 ⟨rfl, hb⟩; refine ⟨_, rfl, ?_⟩; replace HO333 := Aside0.mk (Kd.R_below (raA HO333.out) hb); replace BK326 := Aside0.mk (bkB BK326 hb); replace HB := Aside0.mk (below_step (bwA) hb); (try clear hb)))
           go_ret
           exact ⟨endA, bwA⟩
         | clear M3
           try go_wp2_with (first | ((with_reducible refine gate_builtin (b := .append) (xs := #[.tmp 31, .tmp 35]) rfl ?_); at_builtin; refine Kd.R_append k147 (w0 := w) w.heap.size rfl (.tmp 31) (.tmp 35) 143 147 (.agg #[(.int .i64 0), (.int .i64 0), (.string ⟨#[]⟩)]) 32 rfl Tryz.underlying143 info147 rfl (by decide) (by omega) v329 y328 (⟨3, a0_1, (⟨#[]⟩ : ByteArray)⟩ : S147) [.int .i64 3, .int .i64 a0_1, .string (⟨#[]⟩ : ByteArray)] (fun _ => True) (fun _ => False) rfl rfl ?aP (fun _ hk => hk.elim) ?aF ?aO ?aB ?aS ?aL ?_; (case aP => exact k147_mkM _ _ _ (⟨3, a0_1, (⟨#[]⟩ : ByteArray)⟩ : S147)); (case aB => exact (bwA)); (case aF => exact (fun _ _ => trivial)); (case aO => exact (raA HO330.out)); (case aS => exact (below_size (bwA))); (case aL => have := LMc6.out; omega); intro v337 w108 ho hb hg hat; rw [← Ny336.out] at ho; have n0_ := Aside0.mk (blk_grown (g := gb326) (o := .cells #[.int .i64 a0_0, .int .i64 a0_1, .string a0_2] 74 (0, 0)) blkA hg (Kd.R_ne HO330.out BK326.out (by decide))); have n1_ := Aside0.mk (hb); have n2_ := Aside0.mk (ho); clear BK326; clear HB; clear HO330; have BK326 := n0_; have HB := n1_; have HO338 := n2_; clear n0_ n1_ n2_; clear ho hb hg hat; obtain ⟨Ao109, co109, eo109⟩ := Kd.R_slice HO338.out; subst eo109) | ((with_reducible refine gate_callee (f := 103) rfl ?_); refine goesA (some 39) Tryz.func103 #[.slice Ao109 y336.length co109] ?_; (with_reducible refine (quic_Put.calls _ _ _ _ _ _ _ ?side1 ?side2 A7.out).mono ?_); (case side1 => repeat (first | exact (Kd.R_reads' HO338.out).2.2 | (with_reducible refine Kd.C_alloc ?_ _) | (with_reducible refine Kd.C_drewN ?_ _) | (with_reducible refine Kd.C_drew ?_))); (case side2 => exact (Kd.R_reads' HO338.out).2.1); rintro e w110 ⟨rfl, hb⟩; refine ⟨_, rfl, ?_⟩; replace HO338 := Aside0.mk (Kd.R_below (raA HO338.out) hb); replace BK326 := Aside0.mk (bkB BK326 hb); replace HB := Aside0.mk (below_step (bwA) hb); (try clear hb)))
           go_ret
           exact ⟨endA, bwA⟩
         | clear M4
           try go_wp2_with (first | ((with_reducible refine gate_builtin (b := .append) (xs := #[.tmp 15, .tmp 19]) rfl ?_); at_builtin; refine Kd.R_append k147 (w0 := w) w.heap.size rfl (.tmp 15) (.tmp 19) 143 147 (.agg #[(.int .i64 0), (.int .i64 0), (.string ⟨#[]⟩)]) 32 rfl Tryz.underlying143 info147 rfl (by decide) (by omega) v329 y328 (⟨4, 0, a0_2⟩ : S147) [.int .i64 4, .int .i64 0, .string a0_2] (fun _ => True) (fun _ => False) rfl rfl ?aP (fun _ hk => hk.elim) ?aF ?aO ?aB ?aS ?aL ?_; (case aP => exact k147_mkM _ _ _ (⟨4, 0, a0_2⟩ : S147)); (case aB => exact (bwA)); (case aF => exact (fun _ _ => trivial)); (case aO => exact (raA HO330.out)); (case aS => exact (below_size (bwA))); (case aL => have := LMc6.out; omega); intro v342 w108 ho hb hg hat; rw [← Ny341.out] at ho; have n0_ := Aside0.mk (blk_grown (g := gb326) (o := .cells #[.int .i64 a0_0, .int .i64 a0_1, .string a0_2] 74 (0, 0)) blkA hg (Kd.R_ne HO330.out BK326.out (by decide))); have n1_ := Aside0.mk (hb); have n2_ := Aside0.mk (ho); clear BK326; clear HB; clear HO330; have BK326 := n0_; have HB := n1_; have HO343 := n2_; clear n0_ n1_ n2_; clear ho hb hg hat; obtain ⟨Ao109, co109, eo109⟩ := Kd.R_slice HO343.out; subst eo109) | ((with_reducible refine gate_callee (f := 103) rfl ?_); refine goesA (some 39) Tryz.func103 #[.slice Ao109 y341.length co109] ?_; (with_reducible refine (quic_Put.calls _ _ _ _ _ _ _ ?side1 ?side2 A7.out).mono ?_); (case side1 => repeat (first | exact (Kd.R_reads' HO343.out).2.2 | (with_reducible refine Kd.C_alloc ?_ _) | (with_reducible refine Kd.C_drewN ?_ _) | (with_reducible refine Kd.C_drew ?_))); (case side2 => exact (Kd.R_reads' HO343.out).2.1); rintro e w110 ⟨rfl, hb⟩; refine ⟨_, rfl, ?_⟩; replace HO343 := Aside0.mk (Kd.R_below (raA HO343.out) hb); replace BK326 := Aside0.mk (bkB BK326 hb); replace HB := Aside0.mk (below_step (bwA) hb); (try clear hb)))
           go_ret
           exact ⟨endA, bwA⟩
     | clear M5
       (try go_wp2_with (fail))
       go_ret
       exact ⟨endA, bwA⟩
/-! ### schema_AttrText: function 118, by hand -/
theorem vput4 {w : World} {g : Nat} {T : TypeId} {x y z u : Value} (h : w.heap[g]? = some (.cells #[x, y, z, u] T (0, 0))) (a b c d : Value) :
  ((((w.setCell ⟨g, 0, none⟩ a).setCell ⟨g, 1, none⟩ b).setCell ⟨g, 2, none⟩ c).setCell ⟨g, 3, none⟩ d).heap[g]? = some (.cells #[a, b, c, d] T (0, 0)) :=
 blk_put (blk_put (blk_put (blk_put h 0 a rfl) 1 b rfl) 2 c rfl) 3 d rfl
theorem bput4 {w W : World} {g B : Nat} (h : Below B w W) (hg : B ≤ g) (a b c d : Value) : Below B w ((((W.setCell ⟨g, 0, none⟩ a).setCell ⟨g, 1, none⟩ b).setCell ⟨g, 2, none⟩ c).setCell ⟨g, 3, none⟩ d) :=
 (((h.setCell (p := ⟨g, 0, none⟩) hg a).setCell (p := ⟨g, 1, none⟩) hg b).setCell (p := ⟨g, 2, none⟩) hg c).setCell (p := ⟨g, 3, none⟩) hg d
def schema_AttrText.go (k : Nat) : List S76 → List UInt8 → Option ByteArray
 | [], acc => some ⟨acc.toArray⟩
 | x :: l, acc => (quic_Num.f k (x.f0.size : Int)).bind fun t => (value_Text.f k x.f1.f0 x.f1.f1 x.f1.f2).bind fun u => if acc.length + (t.size + x.f0.size + u.size) ≤ 140737488355328 then schema_AttrText.go k l (acc ++ ((t ++ x.f0) ++ u).data.toList) else none
def schema_AttrText.f (k : Nat) (l0 : List S76) : Option ByteArray := (schema_Attrs.f k l0).bind fun t => if t = true then ((quic_Num.f k (l0.length : Int)).bind fun u => if u.size ≤ 140737488355328 then schema_AttrText.go k l0 u.data.toList else none) else some ⟨#[]⟩
theorem schema_AttrText.mono_go (k : Nat) : ∀ l acc, LeO (schema_AttrText.go k l acc) (schema_AttrText.go (k + 1) l acc)
 | [], acc => LeO.refl _
 | x :: l, acc => by
  unfold schema_AttrText.go
  repeat' first
   | (with_reducible exact LeO.refl _)
   | (with_reducible exact LeO.none _)
   | (with_reducible exact quic_Num.mono _ _)
   | (with_reducible exact value_Text.mono _ _ _ _)
   | exact schema_AttrText.mono_go k l _
   | (with_reducible refine LeO.ite ?_ ?_)
   | (with_reducible refine LeO.bind ?_ (fun _ => ?_))
theorem schema_AttrText.mono : ∀ a0 k, LeO (schema_AttrText.f k a0) (schema_AttrText.f (k + 1) a0) := by
 intro a0 k
 unfold schema_AttrText.f
 repeat' (with_reducible first | exact schema_Attrs.mono _ _ | exact quic_Num.mono _ _ | exact schema_AttrText.mono_go k a0 _ | exact LeO.refl _ | exact LeO.none _ | refine LeO.ite ?_ ?_ | refine LeO.bind ?_ (fun _ => ?_))
def schema_AttrText.T8 : Bool × List (List Nat × List Nat) := (true, [([], []), ([0], [0]), ([1], [1]), ([2], [2]), ([], []), ([4], [4]), ([3, 5], [3, 5]), ([], []), ([7], [7]), ([8, 3], [8]), ([6, 9], [6, 9]), ([10, 9], [10])])
def schema_AttrText.B8 : List Nat := [0, 1, 3, 7, 0, 16, 63, 0, 128, 399, 1023, 2047]
theorem schema_AttrText.tab8 : rtab .any (opsOf Tryz.f118 8) = schema_AttrText.T8 := by kernel_rfl
theorem schema_AttrText.bits8 : waitsOk schema_AttrText.T8.2 schema_AttrText.B8 = true := by kernel_rfl
set_option maxHeartbeats 8000000 in
set_option maxRecDepth 100000 in
theorem schema_AttrText.calls (k : Nat) (A0 : Option Addr) (c0 : Nat) (l0 : List S76) (r : ByteArray) (w : World) (hr0 : Kd.C k76 w A0 l0.length l0) (hc0 : l0.length ≤ c0) (hT : Tabs w) (h : schema_AttrText.f k l0 = some r) :
  Calls Tryz.prog 118 #[.slice A0 l0.length c0] w fun e w' => e = .returned (.string r) ∧ Below w.heap.size w w' := by
 have huA := Tryz.underlying76
 have huV := Tryz.underlying74
 unfold schema_AttrText.f at h
 obtain ⟨t, ha, h⟩ := Option.bind_eq_some_iff.1 h
 have cA := fun W (hb : Below w.heap.size w W) => schema_Attrs.calls k A0 c0 l0 t W (Kd.C_below hr0 hb) hc0 (hT.below hb) ha
 have HR := Aside0.mk hr0
 have HC := Aside0.mk hc0
 have HT := Aside0.mk hT
 clear hr0 hc0 hT ha
 cases t with
 | false =>
  rw [if_neg (by decide)] at h
  obtain rfl := Option.some.inj h
  go_enter Tryz.func118, Tryz.ntmps118
  go_wp2_with (go_at_call 111; refine (cA _ (Below.refl _ w)).mono ?_; rintro e w1 ⟨rfl, hb1⟩)
  go_ret
  exact ⟨rfl, hb1⟩
 | true =>
  rw [if_pos rfl] at h
  obtain ⟨u, hu, h⟩ := Option.bind_eq_some_iff.1 h
  by_cases hz : u.size ≤ 140737488355328
  case neg => rw [if_neg hz] at h; cases h
  rw [if_pos hz] at h
  have cN := fun W => quic_Num.calls k (l0.length : Int) u W hu
  have H := Aside0.mk h
  have HZ := Aside0.mk hz
  clear h hu hz
  go_enter Tryz.func118, Tryz.ntmps118
  try go_wp2_with (first | (go_at_call 111; refine (cA _ (Below.refl _ w)).mono ?_; rintro e w1 ⟨rfl, hb1⟩) | (go_at_call 105; refine (cN _).mono ?_; rintro e w2 ⟨rfl, hb2⟩))
  have I2 := builderF_below (Lib.IsBuilderF.of (Lib.fresh_isBuilder 162 5 w1)) hb2
  have hs1 : w1.heap.size ≤ w2.heap.size := by have := hb2.size; simp at this; omega
  refine (Tryz.Bld_WriteString w1.heap.size w1.heap.size [] u _ I2 (by have := HZ.out; simp; omega) hs1).mono ?_
  rintro e W3 ⟨rfl, h1, b1, k1⟩
  have I3 : Lib.IsBuilderF 162 5 w1.heap.size w1.heap.size (Lib.byteCells u.data.toList) W3 := by rw [← strCells_mk]; exact Or.inr h1
  have hbw3 : Below w.heap.size w W3 := by
   have h2 : Below w1.heap.size w1 w2 := ((Below.refl _ w1).alloc (Nat.le_refl _) _).trans (hb2.mono (by simp))
   exact hb1.trans ((h2.trans b1).mono hb1.size)
  have hsz3 := Aside0.mk (show w1.heap.size ≤ W3.heap.size from Nat.le_trans hs1 b1.size)
  have HS1 := Aside0.mk (show w.heap.size ≤ w1.heap.size from hb1.size)
  clear I2 hs1 h1 b1 k1 hb2 hb1 cA cN
  generalize w1.heap.size = B at I3 hsz3 HS1 ⊢
  go_wp2
  go_loopw [15] (fun v15 wr => ∃ (x : Int) (acc : List UInt8), v15 = .int .i64 x ∧ Hid (0 ≤ x ∧ x ≤ (l0.length : Int)) ∧ Lib.IsBuilderF 162 5 B B (Lib.byteCells acc) wr ∧ Below w.heap.size w wr ∧ Hid (B ≤ wr.heap.size) ∧ Hid (schema_AttrText.go k (l0.drop x.toNat) acc = some r)) (fun v15 _ => l0.length - (intOf v15).toNat)
  case atStart => exact ⟨0, u.data.toList, rfl, ⟨by omega, by omega⟩, I3, hbw3, Lib.hid hsz3.out, Lib.hid H.out⟩
  case round =>
   obtain ⟨x, acc, rfl, HX, hI, hbw, HS, HG⟩ := hrel
   clear H I3 hbw3 hsz3
   have hx := HX.out
   by_cases hlt : x < (l0.length : Int)
   ·have bb1 : decide (x < (l0.length : Int)) = true := decide_eq_true hlt
    have p0 : 0 ≤ x := hx.1
    have hd : l0.drop x.toNat = rd_T76 l0 x :: l0.drop (x + 1).toNat := by
     have e : (x + 1).toNat = x.toNat + 1 := by omega
     have hn : x.toNat < l0.length := by omega
     rw [e, List.drop_eq_getElem_cons hn]
     unfold rd_T76
     rw [List.getD_eq_getElem?_getD, List.getElem?_eq_getElem hn]
     rfl
    have hgo := HG.out
    rw [hd, schema_AttrText.go] at hgo
    obtain ⟨t1, ho1, hgo⟩ := Option.bind_eq_some_iff.1 hgo
    obtain ⟨t2, ho2, hgo⟩ := Option.bind_eq_some_iff.1 hgo
    by_cases hz : acc.length + (t1.size + (rd_T76 l0 x).f0.size + t2.size) ≤ 140737488355328
    case neg => rw [if_neg hz] at hgo; cases hgo
    rw [if_pos hz] at hgo
    obtain ⟨ad, ead, hx0, hx1, hx2, hx3⟩ := at_T76 (Kd.C_below HR.out hbw) x p0 hlt
    cases ead
    have cN := fun W => quic_Num.calls k ((rd_T76 l0 x).f0.size : Int) t1 W ho1
    have cV := fun W (hb : Below w.heap.size w W) => value_Text.calls k (rd_T76 l0 x).f1.f0 (rd_T76 l0 x).f1.f1 (rd_T76 l0 x).f1.f2 t2 W (HT.out.below hb) ho2
    have HG2 := Lib.hid hgo
    have HZ2 := Lib.hid hz
    have w1 := Lib.hid (show wrap64 (x + 1) = x + 1 by unfold wrap64; have := HR.out.2.1; omega)
    have z1 : (9223372036854775807 < t1.size + (rd_T76 l0 x).f0.size) = False := eq_false (by omega)
    have z2 : (9223372036854775807 < t1.size + (rd_T76 l0 x).f0.size + t2.size) = False := eq_false (by omega)
    have z3 : (9223372036854775807 < (t1 ++ (rd_T76 l0 x).f0).size + t2.size) = False := eq_false (by rw [ByteArray.size_append]; omega)
    clear hd hgo ho1 ho2 HG HX hx hz
    have HX0 := Lib.hid (show 0 ≤ x by omega)
    have HB2 := Lib.hid (show 0 ≤ x + 1 ∧ x + 1 ≤ (l0.length : Int) by omega)
    replace p0 := eq_true p0
    replace hlt := eq_true hlt
    try go_wp2_with (first | ((with_reducible refine gate_dst (N := 5) rfl ?_); refine boxA 5 #[.string (⟨#[]⟩ : ByteArray), .int .i64 0, .int .i64 0, .string (⟨#[]⟩ : ByteArray)] 76 ?_; intro gb hg w2 hbox hb; have Hg := Lib.hid hg; clear hg; have hcz := fun j => Lib.cell_of_heap hbox j; have hfz := fun j => blk_frozen hbox j; have hv4 := vput4 hbox (.string (rd_T76 l0 x).f0) (.int .i64 (rd_T76 l0 x).f1.f0) (.int .i64 (rd_T76 l0 x).f1.f1) (.string (rd_T76 l0 x).f1.f2)))
    have hb4 := bput4 hb (show _ ≤ gb by rw [Hg.out]; exact Nat.le_refl _) (.string (rd_T76 l0 x).f0) (.int .i64 (rd_T76 l0 x).f1.f0) (.int .i64 (rd_T76 l0 x).f1.f1) (.string (rd_T76 l0 x).f1.f2)
    have BK0 := Aside0.mk hv4
    have HB0 := Aside0.mk (below_step hbw hb4)
    have HI0 := Aside0.mk (builderF_below hI hb4)
    have HQ0 := Aside0.mk (Nat.le_trans HS.out hb4.size)
    clear hI hb hbw hb4 hcz hfz hv4 Hg hbox
    generalize ((((w2.setCell ⟨gb, 0, none⟩ (.string (rd_T76 l0 x).f0)).setCell ⟨gb, 1, none⟩ (.int .i64 (rd_T76 l0 x).f1.f0)).setCell ⟨gb, 2, none⟩ (.int .i64 (rd_T76 l0 x).f1.f1)).setCell ⟨gb, 3, none⟩ (.string (rd_T76 l0 x).f1.f2)) = w5 at BK0 HB0 HI0 HQ0 ⊢
    have HQ := Aside0.mk (show B ≤ w5.drew.heap.size from HQ0.out)
    have BK := Aside0.mk (blk_drew BK0.out)
    have HB := Aside0.mk (below_drew1 HB0.out)
    have HI := Aside0.mk (builderF_below HI0.out (below_drew1 (Below.refl _ w5)))
    clear BK0 HB0 HI0 HQ0
    refine start_ (n := 12) (S := fun w' => w'.cell? ⟨gb, 0, none⟩ = some (.string (rd_T76 l0 x).f0) ∧ w'.cell? ⟨gb, 1, none⟩ = some (.int .i64 (rd_T76 l0 x).f1.f0) ∧ w'.cell? ⟨gb, 2, none⟩ = some (.int .i64 (rd_T76 l0 x).f1.f1) ∧ w'.cell? ⟨gb, 3, none⟩ = some (.string (rd_T76 l0 x).f1.f2)) (ds := [11]) (mkB 12 0) (by kernel_rfl) rfl rfl ⟨(blk_cell BK.out 0).trans rfl, (blk_cell BK.out 1).trans rfl, (blk_cell BK.out 2).trans rfl, (blk_cell BK.out 3).trans rfl⟩ (fun hHeld => ?_); refine with_tabW schema_AttrText.tab8 schema_AttrText.bits8 (fun HT_ HW_ => ?_)
    generalize w5.drew = w6 at BK HB HI HQ hHeld ⊢
    refine pureA 0 (some 19) (mkB 12 1) ?_
    refine takeA 1 (some 20) (mkB 12 3) ?_ rfl (Or.inl ⟨by rfl, by rintro w' ⟨s0, s1, s2, s3⟩; go_simp; with_reducible rfl⟩)
    refine pureA 2 (some 21) (mkB 12 7) ?_
    refine pureA 4 (some 23) (mkB 12 23) ?_
    refine takeA 5 (some 24) (mkB 12 55) ?_ rfl (Or.inl ⟨by rfl, by rintro w' ⟨s0, s1, s2, s3⟩; go_simp; with_reducible rfl⟩)
    refine pureA 7 (some 26) (mkB 12 183) ?_
    refine takeA 8 (some 27) (mkB 12 439) ?_ rfl (Or.inl ⟨by rfl, by rintro w' ⟨s0, s1, s2, s3⟩; go_simp; with_reducible rfl⟩)
    refine oneA 3 (some 22) (mkB 12 447) (fun K hK => ?_)
    refine goesS Tryz.func105 #[.int .i64 ((rd_T76 l0 x).f0.size : Int)] ?_
    refine (cN _).mono ?_
    rintro e w7 ⟨rfl, hb⟩
    refine ⟨_, rfl, ?_⟩
    have n0_ := Aside0.mk (blk_below (g := gb) (o := .cells #[.string (rd_T76 l0 x).f0, .int .i64 (rd_T76 l0 x).f1.f0, .int .i64 (rd_T76 l0 x).f1.f1, .string (rd_T76 l0 x).f1.f2] 76 (0, 0)) BK.out hb)
    have n1_ := Aside0.mk (below_step HB.out hb)
    have n2_ := Aside0.mk (builderF_below HI.out hb)
    have n3_ := Aside0.mk (Nat.le_trans HQ.out hb.size)
    clear BK HB HI HQ
    have BK := n0_
    have HB := n1_
    have HI := n2_
    have HQ := n3_
    clear n0_ n1_ n2_ n3_ hb
    refine hK.out _ _ ⟨(blk_cell BK.out 0).trans rfl, (blk_cell BK.out 1).trans rfl, (blk_cell BK.out 2).trans rfl, (blk_cell BK.out 3).trans rfl⟩ (fun hHeld => ?_)
    clear hK K
    refine normA ?_
    refine pureA 6 (some 25) (mkB 12 511) ?_
    refine oneA 9 (some 28) (mkB 12 1023) (fun K hK => ?_)
    refine goesS Tryz.func183 #[.agg #[.int .i64 (rd_T76 l0 x).f1.f0, .int .i64 (rd_T76 l0 x).f1.f1, .string (rd_T76 l0 x).f1.f2]] ?_
    refine (cV _ HB.out).mono ?_
    rintro e w8 ⟨rfl, hb⟩
    refine ⟨_, rfl, ?_⟩
    have n0_ := Aside0.mk (blk_below (g := gb) (o := .cells #[.string (rd_T76 l0 x).f0, .int .i64 (rd_T76 l0 x).f1.f0, .int .i64 (rd_T76 l0 x).f1.f1, .string (rd_T76 l0 x).f1.f2] 76 (0, 0)) BK.out hb)
    have n1_ := Aside0.mk (below_step HB.out hb)
    have n2_ := Aside0.mk (builderF_below HI.out hb)
    have n3_ := Aside0.mk (Nat.le_trans HQ.out hb.size)
    clear BK HB HI HQ
    have BK := n0_
    have HB := n1_
    have HI := n2_
    have HQ := n3_
    clear n0_ n1_ n2_ n3_ hb
    refine hK.out _ _ ⟨(blk_cell BK.out 0).trans rfl, (blk_cell BK.out 1).trans rfl, (blk_cell BK.out 2).trans rfl, (blk_cell BK.out 3).trans rfl⟩ (fun hHeld => ?_)
    clear hK K
    refine normA ?_
    refine pureA 10 (some 29) (mkB 12 2047) ?_
    refine last_ (i := 11) (N := some 30) (mkB 12 4095) rfl rfl (one_of HT_.out (by kernel_rfl)) (by decide) (fun K hK => ?_)
    refine goesS Tryz.func109 #[.pointer (some ⟨B, 0, none⟩), .string ((t1 ++ (rd_T76 l0 x).f0) ++ t2)] ?_
    refine (Tryz.Bld_WriteString B B _ ((t1 ++ (rd_T76 l0 x).f0) ++ t2) _ HI.out (by rw [Lib.byteCells_length, ByteArray.size_append, ByteArray.size_append]; exact HZ2.out) HQ.out).mono ?_
    rintro e W9 ⟨rfl, h1, b1, k1⟩
    refine ⟨_, rfl, ?_⟩
    refine hK.out _ _ ?_
    clear hK K
    refine normA ?_
    refine done_ (done_of HT_.out (by kernel_rfl)) ?_
    go_wp2
    go_roundw
    case rel => exact ⟨x + 1, acc ++ ((t1 ++ (rd_T76 l0 x).f0) ++ t2).data.toList, (by rw [w1.out]), HB2, (by rw [Lib.byteCells_append, ← strCells_mk]; exact Or.inr h1), HB.out.trans (b1.mono HS1.out), Lib.hid (Nat.le_trans HQ.out b1.size), HG2⟩
    case measure =>
     have e1 := w1.out
     have e2 := HB2.out
     have e3 := HX0.out
     show l0.length - (intOf (.int .i64 (wrap64 (x + 1)))).toNat < l0.length - (intOf (.int .i64 x)).toNat
     rw [e1]
     simp only [intOf]
     omega
   ·have bb1 : decide (x < (l0.length : Int)) = false := decide_eq_false hlt
    have hgo := HG.out
    rw [List.drop_of_length_le (by omega), schema_AttrText.go] at hgo
    obtain rfl := Option.some.inj hgo
    clear HG HX hx hlt hgo
    go_wp2_with fail
    refine (Tryz.Builder_String_any_k B B acc _ hI HS.out).mono ?_
    rintro e W4 ⟨rfl, _, b4, _⟩
    go_wp2
    go_ret
    exact ⟨rfl, hbw.trans (b4.mono HS1.out)⟩
/-! ### event_Text: function 54 -/
def event_Text.f (k : Nat) (a0_0 : Int) (a0_1 : Int) (a0_2 : Int) (a0_3 : ByteArray) (l0_4 : List (S76)) : Option (ByteArray) := (event_Check.f k a0_0 a0_1 a0_2 a0_3 l0_4).bind fun t347 => (if t347 = true then ((quic_Put.f k (([(⟨1, a0_0, (⟨#[]⟩ : ByteArray)⟩ : S147), (⟨1, a0_1, (⟨#[]⟩ : ByteArray)⟩ : S147), (⟨1, a0_2, (⟨#[]⟩ : ByteArray)⟩ : S147), (⟨4, 0, a0_3⟩ : S147)] : List (S147)))).bind fun bt351 => ((schema_AttrText.f k l0_4).bind fun t353 => (if bt351.1.size + t353.size ≤ 9223372036854775807 then (some (bt351.1 ++ t353)) else (none)))) else (some (⟨#[]⟩ : ByteArray)))
theorem event_Text.mono : ∀ a0 a1 a2 a3 a4 k, LeO (event_Text.f k a0 a1 a2 a3 a4) (event_Text.f (k + 1) a0 a1 a2 a3 a4) := by
 intro a0 a1 a2 a3 a4 k
 unfold event_Text.f
 repeat' (with_reducible first | exact event_Check.mono _ _ _ _ _ _ | exact quic_Put.mono _ _ | exact schema_AttrText.mono _ _ | exact LeO.refl _ | exact LeO.none _ | refine LeO.ite ?_ ?_ | refine LeO.bind ?_ (fun _ => ?_))
set_option maxHeartbeats 8000000 in
set_option maxRecDepth 100000 in
theorem event_Text.calls (k : Nat) (a0_0 : Int) (a0_1 : Int) (a0_2 : Int) (a0_3 : ByteArray) (A0_4 : Option Addr) (c0_4 : Nat) (l0_4 : List (S76)) (r : ByteArray) (w : World) (hr0_4 : Kd.C k76 w A0_4 l0_4.length l0_4) (hc0_4 : l0_4.length ≤ c0_4) (hT : Tabs w) (h : event_Text.f k a0_0 a0_1 a0_2 a0_3 l0_4 = some r) :
  Calls Tryz.prog 54 #[.agg #[.int .i64 a0_0, .int .i64 a0_1, .int .i64 a0_2, .string a0_3, .slice A0_4 l0_4.length c0_4]] w fun e w' => e = .returned (.string r) ∧ Below w.heap.size w w' := by
 have hu66 := Tryz.underlying66
 have hu147 := Tryz.underlying147
 have HR0_4 := Aside0.mk hr0_4
 have HC0_4 := Aside0.mk hc0_4
 clear hr0_4 hc0_4
 have HB := Aside0.mk (Below.refl w.heap.size w)
 unfold event_Text.f at h
 have H := h
 clear h
 have HT := Aside0.mk hT
 clear hT
 replace H := Option.bind_eq_some_iff.mp H
 obtain ⟨t347, A20, H⟩ := H
 replace H : (if t347 = true then ((quic_Put.f k (([(⟨1, a0_0, (⟨#[]⟩ : ByteArray)⟩ : S147), (⟨1, a0_1, (⟨#[]⟩ : ByteArray)⟩ : S147), (⟨1, a0_2, (⟨#[]⟩ : ByteArray)⟩ : S147), (⟨4, 0, a0_3⟩ : S147)] : List (S147)))).bind fun bt351 => ((schema_AttrText.f k l0_4).bind fun t353 => (if bt351.1.size + t353.size ≤ 9223372036854775807 then (some (bt351.1 ++ t353)) else (none)))) else (some (⟨#[]⟩ : ByteArray))) = some r := H
 have A2 := Aside0.mk A20
 clear A20
 revert H; refine itR ?L3p ?L3n
 case' L3p =>
  intro c3 H
  subst c3
  obtain ⟨y348, hy348⟩ : ∃ y_ : List (S147), y_ = (([(⟨1, a0_0, (⟨#[]⟩ : ByteArray)⟩ : S147), (⟨1, a0_1, (⟨#[]⟩ : ByteArray)⟩ : S147), (⟨1, a0_2, (⟨#[]⟩ : ByteArray)⟩ : S147), (⟨4, 0, a0_3⟩ : S147)] : List (S147))) := ⟨_, rfl⟩
  replace H : ((quic_Put.f k y348).bind fun bt351 => ((schema_AttrText.f k l0_4).bind fun t353 => (if bt351.1.size + t353.size ≤ 9223372036854775807 then (some (bt351.1 ++ t353)) else (none)))) = some r := by first | (rw [hy348]; with_reducible exact H) | (have H2_ := (Option.bind_some _ _).symm.trans H; rw [hy348]; with_reducible exact H2_) | (have H2_ := (Option.bind_some _ _).symm.trans H; with_reducible exact H2_) | with_reducible exact H | (rw [hy348]; exact H) | exact H
  have Ny348 := Aside0.mk hy348
  clear hy348
  replace H := bnA H
  obtain ⟨⟨t351, t352⟩, A4, H⟩ := H
  dsimp only at H
  replace H := bnA H
  obtain ⟨t353, A5, H⟩ := H
  replace H := itN H
  obtain ⟨c6, H⟩ := H
  have c6b0 := eq_true c6
  have c6b1 := decide_eq_true c6
  try have c6b2 : (9223372036854775807 < t351.size + t353.size) = False := eq_false (Nat.not_lt.2 c6)
  obtain rfl := Option.some.inj H
  have M1 := True.intro
 case' L3n =>
  intro c3 H
  replace c3 := Bool.eq_false_iff.mpr c3
  subst c3
  obtain rfl := Option.some.inj H
  have M2 := True.intro
 all_goals
  case _ =>
   go_enter Tryz.func54, Tryz.ntmps54
   go_wp2_with (first | ((with_reducible refine gate_dst (N := 1) rfl ?_); refine boxA 1 #[.int .i64 a0_0, .int .i64 a0_1, .int .i64 a0_2, .string a0_3, .slice A0_4 l0_4.length c0_4] 66 ?_; intro gb346 hg w101 hbox hb; have BK346 := Aside0.mk (hbox); have GW346 := Aside0.mk (hgW hg : w.heap.size ≤ gb346); have GE346 := Aside0.mk (hgW hg : w.heap.size ≤ gb346); replace HB := Aside0.mk (below_step (bwA) hb); clear hb hbox hg; have hcz102_0 := celA BK346.out 0 (.int .i64 a0_0); have hcz102_1 := celA BK346.out 1 (.int .i64 a0_1); have hcz102_2 := celA BK346.out 2 (.int .i64 a0_2); have hcz102_3 := celA BK346.out 3 (.string a0_3); have hcz102_4 := celA BK346.out 4 (.slice A0_4 l0_4.length c0_4); have hfz102_0 := blk_frozen BK346.out 0; have hfz102_1 := blk_frozen BK346.out 1; have hfz102_2 := blk_frozen BK346.out 2; have hfz102_3 := blk_frozen BK346.out 3; have hfz102_4 := blk_frozen BK346.out 4) | ((with_reducible refine gate_callee (f := 46) rfl ?_); refine goesA (some 6) Tryz.func46 #[.agg #[.int .i64 a0_0, .int .i64 a0_1, .int .i64 a0_2, .string a0_3, .slice A0_4 l0_4.length c0_4]] ?_; (with_reducible refine (event_Check.calls _ _ _ _ _ _ _ _ _ _ ?side1 ?side2 ?side3 A2.out).mono ?_); (case side1 => repeat (first | exact (Kd.C_below HR0_4.out HB.out) | (with_reducible refine Kd.C_alloc ?_ _) | (with_reducible refine Kd.C_drewN ?_ _) | (with_reducible refine Kd.C_drew ?_))); (case side2 => exact HC0_4.out); (case side3 => exact Tabs.below HT.out (bwA)); rintro e w103 ⟨rfl, hb⟩; refine ⟨_, rfl, ?_⟩; replace BK346 := Aside0.mk (bkB BK346 hb); replace HB := Aside0.mk (below_step (bwA) hb); (try clear hb); apply stopA; (case other => exact True.intro)))
   case _ =>
    first
     | clear M1
       have hcz104_0 := celA BK346.out 0 (.int .i64 a0_0)
       have hcz104_1 := celA BK346.out 1 (.int .i64 a0_1)
       have hcz104_2 := celA BK346.out 2 (.int .i64 a0_2)
       have hcz104_3 := celA BK346.out 3 (.string a0_3)
       have hcz104_4 := celA BK346.out 4 (.slice A0_4 l0_4.length c0_4)
       have hfz104_0 := blk_frozen BK346.out 0
       have hfz104_1 := blk_frozen BK346.out 1
       have hfz104_2 := blk_frozen BK346.out 2
       have hfz104_3 := blk_frozen BK346.out 3
       have hfz104_4 := blk_frozen BK346.out 4
       try go_wp2_with (first | ((with_reducible refine gate_dst (N := 24) rfl ?_); refine Kd.R_lit k147 _ 147 ?hg (N := 24) ?hd (xs := ([(⟨1, a0_0, (⟨#[]⟩ : ByteArray)⟩ : S147), (⟨1, a0_1, (⟨#[]⟩ : ByteArray)⟩ : S147), (⟨1, a0_2, (⟨#[]⟩ : ByteArray)⟩ : S147), (⟨4, 0, a0_3⟩ : S147)] : List (S147))) (inner := [.int .i64 1, .int .i64 a0_0, .string (⟨#[]⟩ : ByteArray), .int .i64 1, .int .i64 a0_1, .string (⟨#[]⟩ : ByteArray), .int .i64 1, .int .i64 a0_2, .string (⟨#[]⟩ : ByteArray), .int .i64 4, .int .i64 0, .string a0_3]) (ok := fun _ => True) (okp := fun _ => True) ?hr ?hp (fun _ hk => hk) trivial (Below.refl _ _) (Nat.le_refl _) (by simp) ?_; (case hd => rfl); (case hg => rfl); (case hr => first | (go_simp; done) | (go_simp; rfl)); (case hp => exact (Reps.c3 (show Kd.M k147 _ _ _ (⟨1, a0_0, (⟨#[]⟩ : ByteArray)⟩ : S147) [.int .i64 1, .int .i64 a0_0, .string (⟨#[]⟩ : ByteArray)] from (k147_mkM _ _ _ (⟨1, a0_0, (⟨#[]⟩ : ByteArray)⟩ : S147) )) (Reps.c3 (show Kd.M k147 _ _ _ (⟨1, a0_1, (⟨#[]⟩ : ByteArray)⟩ : S147) [.int .i64 1, .int .i64 a0_1, .string (⟨#[]⟩ : ByteArray)] from (k147_mkM _ _ _ (⟨1, a0_1, (⟨#[]⟩ : ByteArray)⟩ : S147) )) (Reps.c3 (show Kd.M k147 _ _ _ (⟨1, a0_2, (⟨#[]⟩ : ByteArray)⟩ : S147) [.int .i64 1, .int .i64 a0_2, .string (⟨#[]⟩ : ByteArray)] from (k147_mkM _ _ _ (⟨1, a0_2, (⟨#[]⟩ : ByteArray)⟩ : S147) )) (Reps.c3 (show Kd.M k147 _ _ _ (⟨4, 0, a0_3⟩ : S147) [.int .i64 4, .int .i64 0, .string a0_3] from (k147_mkM _ _ _ (⟨4, 0, a0_3⟩ : S147) )) (Reps.none _ _)))))); intro v349 w105 ho106 hb hg_ hnew_; clear hg_ hnew_; (first | rw [← Ny348.out] at ho106 | (simp only [Int.reduceToNat] at ho106; rw [← Ny348.out] at ho106)); have HO350 := Aside0.mk (Kd.R_lower ho106 (below_size (bwA))); replace BK346 := Aside0.mk (bkB BK346 hb); replace HB := Aside0.mk (below_step (bwA) hb); clear hb ho106; obtain ⟨Ao107, co107, eo107⟩ := Kd.R_slice HO350.out; subst eo107) | ((with_reducible refine gate_callee (f := 103) rfl ?_); refine goesA (some 25) Tryz.func103 #[.slice Ao107 y348.length co107] ?_; (with_reducible refine (quic_Put.calls _ _ _ _ _ _ _ ?side1 ?side2 A4.out).mono ?_); (case side1 => repeat (first | exact (Kd.R_reads' HO350.out).2.2 | (with_reducible refine Kd.C_alloc ?_ _) | (with_reducible refine Kd.C_drewN ?_ _) | (with_reducible refine Kd.C_drew ?_))); (case side2 => exact (Kd.R_reads' HO350.out).2.1); rintro e w108 ⟨rfl, hb⟩; refine ⟨_, rfl, ?_⟩; replace HO350 := Aside0.mk (Kd.R_below (raA HO350.out) hb); replace BK346 := Aside0.mk (bkB BK346 hb); replace HB := Aside0.mk (below_step (bwA) hb); (try clear hb); have hcz109_0 := celA BK346.out 0 (.int .i64 a0_0); have hcz109_1 := celA BK346.out 1 (.int .i64 a0_1); have hcz109_2 := celA BK346.out 2 (.int .i64 a0_2); have hcz109_3 := celA BK346.out 3 (.string a0_3); have hcz109_4 := celA BK346.out 4 (.slice A0_4 l0_4.length c0_4); have hfz109_0 := blk_frozen BK346.out 0; have hfz109_1 := blk_frozen BK346.out 1; have hfz109_2 := blk_frozen BK346.out 2; have hfz109_3 := blk_frozen BK346.out 3; have hfz109_4 := blk_frozen BK346.out 4) | ((with_reducible refine gate_callee (f := 118) rfl ?_); refine goesA (some 31) Tryz.func118 #[.slice A0_4 l0_4.length c0_4] ?_; (with_reducible refine (schema_AttrText.calls _ _ _ _ _ _ ?side1 ?side2 ?side3 A5.out).mono ?_); (case side1 => repeat (first | exact (Kd.C_below HR0_4.out HB.out) | (with_reducible refine Kd.C_alloc ?_ _) | (with_reducible refine Kd.C_drewN ?_ _) | (with_reducible refine Kd.C_drew ?_))); (case side2 => exact HC0_4.out); (case side3 => exact Tabs.below HT.out (bwA)); rintro e w110 ⟨rfl, hb⟩; refine ⟨_, rfl, ?_⟩; replace HO350 := Aside0.mk (Kd.R_below (raA HO350.out) hb); replace BK346 := Aside0.mk (bkB BK346 hb); replace HB := Aside0.mk (below_step (bwA) hb); (try clear hb)))
       go_ret
       exact ⟨endA, bwA⟩
     | clear M2
       (try go_wp2_with (fail))
       go_ret
       exact ⟨endA, bwA⟩
end Go.Proofs.YtkdndabpaajkaaaGreatDoor.A
