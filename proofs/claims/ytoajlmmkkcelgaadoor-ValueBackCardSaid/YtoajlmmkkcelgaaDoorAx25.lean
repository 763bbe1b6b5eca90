-- By drv.py, the session's own driver round the kit's print: the machine's side of the laws, function by function. Not trusted: Lean checks it.
import Derived.Test.YtoajlmmkkcelgaaDoorAx0
import Derived.Test.YtoajlmmkkcelgaaDoorAx12
import Derived.Test.YtoajlmmkkcelgaaDoorAx24
namespace Go.Proofs.YtoajlmmkkcelgaaDoor.A
open Go.RowKit Go.Proofs.YtoajlmmkkcelgaaDoorW.PrintWords Go.Proofs.YtoajlmmkkcelgaaDoorW.PrintLast Go.Proofs.YtoajlmmkkcelgaaDoorW.PrintMore
attribute [local go_sem] max2_int min2_int max_two min_two max_three min_three max_four min_four   -- for this text's walks alone
set_option linter.unusedVariables false
set_option linter.unusedSimpArgs false

/-! ### quic_Put: function 72, by hand -/
def quic_Put.go (k : Nat) : List S91 → List UInt8 → Option (ByteArray × Int)
 | [], acc => some (⟨acc.toArray⟩, 0)
 | x :: l, acc => (quic_one.f k x.f0 x.f1 x.f2).bind fun t => if t.2 = true then (if acc.length + t.1.size ≤ 140737488355328 then quic_Put.go k l (acc ++ t.1.data.toList) else none) else some (⟨#[]⟩, 1)
def quic_Put.f (k : Nat) (l0 : List S91) : Option (ByteArray × Int) := if l0.length ≤ 4096 then quic_Put.go k l0 [] else some (⟨#[]⟩, 2)
theorem quic_Put.mono_go (k : Nat) : ∀ l acc, LeO (quic_Put.go k l acc) (quic_Put.go (k + 1) l acc)
 | [], acc => LeO.refl _
 | x :: l, acc => by
  unfold quic_Put.go
  repeat' first
   | (with_reducible exact LeO.refl _)
   | (with_reducible exact LeO.none _)
   | (with_reducible exact quic_one.mono _ _ _ _)
   | exact quic_Put.mono_go k l _
   | (with_reducible refine LeO.ite ?_ ?_)
   | (with_reducible refine LeO.bind ?_ (fun _ => ?_))
theorem quic_Put.mono : ∀ a0 k, LeO (quic_Put.f k a0) (quic_Put.f (k + 1) a0) := by
 intro a0 k
 unfold quic_Put.f
 repeat' first
  | exact quic_Put.mono_go k a0 _
  | exact LeO.refl _
  | refine LeO.ite ?_ ?_
set_option maxHeartbeats 4000000 in
set_option maxRecDepth 100000 in
theorem quic_Put.calls (k : Nat) (A0 : Option Addr) (c0 : Nat) (l0 : List S91) (r1 : ByteArray) (r2 : Int) (w : World) (hr0 : Kd.C k91 w A0 l0.length l0) (hc0 : l0.length ≤ c0) (h : quic_Put.f k l0 = some (r1, r2)) :
  Calls Tryd.prog 72 #[.slice A0 l0.length c0] w fun e w' => e = .returned (.tuple #[.string r1, .int .i64 r2]) ∧ Below w.heap.size w w' := by
 have hu := Tryd.underlying91
 have HR := Aside0.mk hr0
 have HC := Aside0.mk hc0
 clear hr0 hc0
 unfold quic_Put.f at h
 by_cases hl : l0.length ≤ 4096
 ·rw [if_pos hl] at h
  have b0 : decide ((l0.length : Int) > 4096) = false := decide_eq_false (by omega)
  have H := Lib.hid h
  have HL := Lib.hid hl
  clear h hl
  go_enter Tryd.func72, Tryd.ntmps72
  go_wp2
  have I0 := Lib.IsBuilderF.of (Lib.fresh_isBuilder 112 5 w)
  go_loopw [14] (fun v14 wr => ∃ (x : Int) (acc : List UInt8), v14 = .int .i64 x ∧ Hid (0 ≤ x ∧ x ≤ (l0.length : Int)) ∧ Lib.IsBuilderF 112 5 w.heap.size w.heap.size (Lib.byteCells acc) wr ∧ Below w.heap.size w wr ∧ Hid (quic_Put.go k (l0.drop x.toNat) acc = some (r1, r2))) (fun v14 _ => l0.length - (intOf v14).toNat)
  case atStart => exact ⟨0, [], rfl, ⟨by omega, by omega⟩, I0, (Below.refl _ w).alloc (Nat.le_refl _) _, H⟩
  case round =>
   obtain ⟨x, acc, rfl, HX, hI, hbw, HG⟩ := hrel
   clear H
   have hx := HX.out
   by_cases hlt : x < (l0.length : Int)
   ·have b1 : decide (x < (l0.length : Int)) = true := decide_eq_true hlt
    have p0 : 0 ≤ x := hx.1
    have hd : l0.drop x.toNat = rd_T91 l0 x :: l0.drop (x + 1).toNat := by
     have e : (x + 1).toNat = x.toNat + 1 := by omega
     have hn : x.toNat < l0.length := by omega
     rw [e, List.drop_eq_getElem_cons hn]
     unfold rd_T91
     rw [List.getD_eq_getElem?_getD, List.getElem?_eq_getElem hn]
     rfl
    have hgo := HG.out
    rw [hd, quic_Put.go] at hgo
    obtain ⟨⟨t1, t2⟩, ho, hgo⟩ := Option.bind_eq_some_iff.1 hgo
    dsimp only at hgo
    obtain ⟨ad, ead, hx0, hx1, hx2⟩ := at_T91 (Kd.C_below HR.out hbw) x p0 hlt
    cases ead
    have cO := fun W => quic_one.calls k (rd_T91 l0 x).f0 (rd_T91 l0 x).f1 (rd_T91 l0 x).f2 t1 t2 W ho
    have HGo := Lib.hid hgo
    have hsz := Lib.hid hbw.size
    have w1 := Lib.hid (show wrap64 (x + 1) = x + 1 by unfold wrap64; have := HL.out; omega)
    clear hd hgo ho HG HX hx
    have HX0 := Lib.hid (show 0 ≤ x by omega)
    have HB2 := Lib.hid (show 0 ≤ x + 1 ∧ x + 1 ≤ (l0.length : Int) by omega)
    replace p0 := eq_true p0
    replace hlt := eq_true hlt
    cases t2 with
    | true =>
     have hgo := HGo.out
     clear HGo
     rw [if_pos rfl] at hgo
     by_cases hz : acc.length + t1.size ≤ 140737488355328
     ·rw [if_pos hz] at hgo
      have HG2 := Lib.hid hgo
      have HZ := Lib.hid hz
      clear hgo hz
      go_wp2_with (first | ((with_reducible refine gate_dst (N := 6) rfl ?_); refine box_event ?hg (N := 6) ?hd (cs := #[.int .i64 0, .int .i64 0, .string (⟨#[]⟩ : ByteArray)]) (t := 91) ?hr ?_; (case hd => rfl); (case hg => rfl); (case hr => first | (go_simp; done) | (go_simp; rfl)); intro gb hg w2 hbox hb; have Hg := Lib.hid hg; clear hg; have hcz := fun j => Lib.cell_of_heap hbox j; have hfz := fun j => blk_frozen hbox j; have hv3 := vput3 hbox (.int .i64 (rd_T91 l0 x).f0) (.int .i64 (rd_T91 l0 x).f1) (.string (rd_T91 l0 x).f2); have c3 := fun j => Lib.cell_of_heap hv3 j; have f3 := fun j => Lib.frozen_of_heap hv3 j) | (go_at_call 107; refine (cO _).mono ?_; rintro e w4 ⟨rfl, hb4⟩))
      have hb3 := bput3 hb (show _ ≤ gb by rw [Hg.out]; exact Nat.le_refl _) (.int .i64 (rd_T91 l0 x).f0) (.int .i64 (rd_T91 l0 x).f1) (.string (rd_T91 l0 x).f2)
      have hI4 := builderF_below (builderF_below hI hb3) hb4
      have hbw4 := below_step (below_step hbw hb3) hb4
      refine (Tryd.Bld_WriteString w.heap.size w.heap.size _ t1 _ hI4 (by rw [Lib.byteCells_length]; exact HZ.out) hbw4.size).mono ?_
      rintro e W5 ⟨rfl, h1, b1, k1⟩
      go_wp2
      go_roundw
      case rel => exact ⟨x + 1, acc ++ t1.data.toList, (by rw [w1.out]), HB2, (by rw [Lib.byteCells_append, ← strCells_mk]; exact Or.inr h1), hbw4.trans b1, HG2⟩
      case measure =>
       have e1 := w1.out
       have e2 := HB2.out
       have e3 := HX0.out
       show l0.length - (intOf (.int .i64 (wrap64 (x + 1)))).toNat < l0.length - (intOf (.int .i64 x)).toNat
       rw [e1]
       simp only [intOf]
       omega
     ·rw [if_neg hz] at hgo
      cases hgo
    | false =>
     have hgo := HGo.out
     clear HGo
     rw [if_neg (by decide)] at hgo
     have hgo := Option.some.inj hgo
     simp only [Prod.mk.injEq] at hgo
     obtain ⟨rfl, rfl⟩ := hgo
     go_wp2_with (first | ((with_reducible refine gate_dst (N := 6) rfl ?_); refine box_event ?hg (N := 6) ?hd (cs := #[.int .i64 0, .int .i64 0, .string (⟨#[]⟩ : ByteArray)]) (t := 91) ?hr ?_; (case hd => rfl); (case hg => rfl); (case hr => first | (go_simp; done) | (go_simp; rfl)); intro gb hg w2 hbox hb; have Hg := Lib.hid hg; clear hg; have hcz := fun j => Lib.cell_of_heap hbox j; have hfz := fun j => blk_frozen hbox j; have hv3 := vput3 hbox (.int .i64 (rd_T91 l0 x).f0) (.int .i64 (rd_T91 l0 x).f1) (.string (rd_T91 l0 x).f2); have c3 := fun j => Lib.cell_of_heap hv3 j; have f3 := fun j => Lib.frozen_of_heap hv3 j) | (go_at_call 107; refine (cO _).mono ?_; rintro e w4 ⟨rfl, hb4⟩))
     have hb3 := bput3 hb (show _ ≤ gb by rw [Hg.out]; exact Nat.le_refl _) (.int .i64 (rd_T91 l0 x).f0) (.int .i64 (rd_T91 l0 x).f1) (.string (rd_T91 l0 x).f2)
     have hbw4 := below_step (below_step hbw hb3) hb4
     go_ret2
     exact ⟨rfl, hbw4⟩
   ·have b1 : decide (x < (l0.length : Int)) = false := decide_eq_false hlt
    have hgo := HG.out
    rw [List.drop_of_length_le (by omega), quic_Put.go] at hgo
    have hgo := Option.some.inj hgo
    simp only [Prod.mk.injEq] at hgo
    obtain ⟨rfl, rfl⟩ := hgo
    clear HG HX hx hlt
    go_wp2_with fail
    refine (Tryd.Builder_String_any_k w.heap.size w.heap.size acc _ hI hbw.size).mono ?_
    rintro e W4 ⟨rfl, _, b4, _⟩
    go_wp2
    go_ret2
    exact ⟨rfl, hbw.trans b4⟩
 ·rw [if_neg hl] at h
  have h := Option.some.inj h
  simp only [Prod.mk.injEq] at h
  obtain ⟨rfl, rfl⟩ := h
  have b0 : decide ((l0.length : Int) > 4096) = true := decide_eq_true (by omega)
  clear hl
  go_enter Tryd.func72, Tryd.ntmps72
  go_wp2
  go_ret2
  exact ⟨rfl, Below.refl _ _⟩

/-! ### value_Text: function 40 -/
def value_Text.f (k : Nat) (a0_0 : Int) (a0_1 : Int) (a0_2 : ByteArray) : Option (ByteArray) := (value_Check.f a0_0 a0_1 a0_2).bind fun t486 => (if t486 = true then ((some (([(⟨1, a0_0, (⟨#[]⟩ : ByteArray)⟩ : S91)] : List (S91)) : List (S91))).bind fun y487 => (if a0_0 = 1 then (if y487.length < 4398046511104 then ((quic_Put.f k (y487 ++ [(⟨2, a0_1, (⟨#[]⟩ : ByteArray)⟩ : S91)])).bind fun bt493 => (some bt493.1)) else (none)) else (if a0_0 = 3 then (if y487.length < 4398046511104 then ((quic_Put.f k (y487 ++ [(⟨3, a0_1, (⟨#[]⟩ : ByteArray)⟩ : S91)])).bind fun bt498 => (some bt498.1)) else (none)) else (if y487.length < 4398046511104 then ((quic_Put.f k (y487 ++ [(⟨4, 0, a0_2⟩ : S91)])).bind fun bt503 => (some bt503.1)) else (none))))) else (some (⟨#[]⟩ : ByteArray)))
theorem value_Text.mono : ∀ a0 a1 a2 k, LeO (value_Text.f k a0 a1 a2) (value_Text.f (k + 1) a0 a1 a2) := by
 intro a0 a1 a2 k
 unfold value_Text.f
 repeat' first
   | (with_reducible exact quic_Put.mono _ _)
   | (with_reducible exact LeO.refl _)
   | (with_reducible exact LeO.none _)
   | (with_reducible refine LeO.ite ?_ ?_)
   | (with_reducible refine LeO.bind ?_ (fun _ => ?_))
   | exact quic_Put.mono _ _
   | exact LeO.none _
   | refine LeO.ite ?_ ?_
   | refine LeO.bind ?_ (fun _ => ?_)
set_option maxHeartbeats 8000000 in
set_option maxRecDepth 100000 in
theorem value_Text.calls (k : Nat) (a0_0 : Int) (a0_1 : Int) (a0_2 : ByteArray) (r : ByteArray) (w : World) (hT : Tabs w) (h : value_Text.f k a0_0 a0_1 a0_2 = some r) :
  Calls Tryd.prog 40 #[.agg #[.int .i64 a0_0, .int .i64 a0_1, .string a0_2]] w fun e w' => e = .returned (.string r) ∧ Below w.heap.size w w' := by
 have hu25 := Tryd.underlying25
 have hu91 := Tryd.underlying91
 have HB := Aside0.mk (Below.refl w.heap.size w)
 have H : ((value_Check.f a0_0 a0_1 a0_2).bind fun t486 => (if t486 = true then ((some (([(⟨1, a0_0, (⟨#[]⟩ : ByteArray)⟩ : S91)] : List (S91)) : List (S91))).bind fun y487 => (if a0_0 = 1 then (if y487.length < 4398046511104 then ((quic_Put.f k (y487 ++ [(⟨2, a0_1, (⟨#[]⟩ : ByteArray)⟩ : S91)])).bind fun bt493 => (some bt493.1)) else (none)) else (if a0_0 = 3 then (if y487.length < 4398046511104 then ((quic_Put.f k (y487 ++ [(⟨3, a0_1, (⟨#[]⟩ : ByteArray)⟩ : S91)])).bind fun bt498 => (some bt498.1)) else (none)) else (if y487.length < 4398046511104 then ((quic_Put.f k (y487 ++ [(⟨4, 0, a0_2⟩ : S91)])).bind fun bt503 => (some bt503.1)) else (none))))) else (some (⟨#[]⟩ : ByteArray)))) = some r := h
 clear h
 have HT := Aside0.mk hT
 clear hT
 replace H := Option.bind_eq_some_iff.mp H
 obtain ⟨t486, A20, H⟩ := H
 replace H : (if t486 = true then ((some (([(⟨1, a0_0, (⟨#[]⟩ : ByteArray)⟩ : S91)] : List (S91)) : List (S91))).bind fun y487 => (if a0_0 = 1 then (if y487.length < 4398046511104 then ((quic_Put.f k (y487 ++ [(⟨2, a0_1, (⟨#[]⟩ : ByteArray)⟩ : S91)])).bind fun bt493 => (some bt493.1)) else (none)) else (if a0_0 = 3 then (if y487.length < 4398046511104 then ((quic_Put.f k (y487 ++ [(⟨3, a0_1, (⟨#[]⟩ : ByteArray)⟩ : S91)])).bind fun bt498 => (some bt498.1)) else (none)) else (if y487.length < 4398046511104 then ((quic_Put.f k (y487 ++ [(⟨4, 0, a0_2⟩ : S91)])).bind fun bt503 => (some bt503.1)) else (none))))) else (some (⟨#[]⟩ : ByteArray))) = some r := H
 have A2 := Aside0.mk A20
 clear A20
 by_cases c3 : t486 = true
 ·subst c3
  have H1 : ((some (([(⟨1, a0_0, (⟨#[]⟩ : ByteArray)⟩ : S91)] : List (S91)) : List (S91))).bind fun y487 => (if a0_0 = 1 then (if y487.length < 4398046511104 then ((quic_Put.f k (y487 ++ [(⟨2, a0_1, (⟨#[]⟩ : ByteArray)⟩ : S91)])).bind fun bt493 => (some bt493.1)) else (none)) else (if a0_0 = 3 then (if y487.length < 4398046511104 then ((quic_Put.f k (y487 ++ [(⟨3, a0_1, (⟨#[]⟩ : ByteArray)⟩ : S91)])).bind fun bt498 => (some bt498.1)) else (none)) else (if y487.length < 4398046511104 then ((quic_Put.f k (y487 ++ [(⟨4, 0, a0_2⟩ : S91)])).bind fun bt503 => (some bt503.1)) else (none))))) = some r := by rw [if_pos rfl] at H; exact H
  clear H
  have H := H1
  clear H1
  obtain ⟨y487, hy487⟩ : ∃ y_ : List (S91), y_ = (([(⟨1, a0_0, (⟨#[]⟩ : ByteArray)⟩ : S91)] : List (S91))) := ⟨_, rfl⟩
  replace H : (if a0_0 = 1 then (if y487.length < 4398046511104 then ((quic_Put.f k (y487 ++ [(⟨2, a0_1, (⟨#[]⟩ : ByteArray)⟩ : S91)])).bind fun bt493 => (some bt493.1)) else (none)) else (if a0_0 = 3 then (if y487.length < 4398046511104 then ((quic_Put.f k (y487 ++ [(⟨3, a0_1, (⟨#[]⟩ : ByteArray)⟩ : S91)])).bind fun bt498 => (some bt498.1)) else (none)) else (if y487.length < 4398046511104 then ((quic_Put.f k (y487 ++ [(⟨4, 0, a0_2⟩ : S91)])).bind fun bt503 => (some bt503.1)) else (none)))) = some r := by first | (rw [hy487]; with_reducible exact H) | (have H2_ := (Option.bind_some _ _).symm.trans H; rw [hy487]; with_reducible exact H2_) | (have H2_ := (Option.bind_some _ _).symm.trans H; with_reducible exact H2_) | with_reducible exact H | (rw [hy487]; exact H) | exact H
  have Ny487 := Aside0.mk hy487
  clear hy487
  by_cases c4 : a0_0 = 1
  ·rw [if_pos c4] at H
   have c4b0 : (a0_0 == 1) = true := beq_iff_eq.mpr c4
   have c4b1 : (a0_0 != 1) = false := bne_eq_false_iff_eq.mpr c4
   clear c4
   by_cases c5 : y487.length < 4398046511104
   ·rw [if_pos c5] at H
    have LMc5 := Aside0.mk c5
    clear c5
    obtain ⟨y490, hy490⟩ : ∃ y_ : List (S91), y_ = (y487 ++ [(⟨2, a0_1, (⟨#[]⟩ : ByteArray)⟩ : S91)]) := ⟨_, rfl⟩
    replace H : ((quic_Put.f k y490).bind fun bt493 => (some bt493.1)) = some r := by first | (rw [hy490]; with_reducible exact H) | (have H2_ := (Option.bind_some _ _).symm.trans H; rw [hy490]; with_reducible exact H2_) | (have H2_ := (Option.bind_some _ _).symm.trans H; with_reducible exact H2_) | with_reducible exact H | (rw [hy490]; exact H) | exact H
    have Ny490 := Aside0.mk hy490
    clear hy490
    replace H := Option.bind_eq_some_iff.mp H
    obtain ⟨⟨t493, t494⟩, A60, H⟩ := H
    replace H : (some t493) = some r := H
    have A6 := Aside0.mk A60
    clear A60
    obtain rfl := Option.some.inj H
    go_enter Tryd.func40, Tryd.ntmps40
    go_wp2_with (first | ((with_reducible refine gate_dst (N := 1) rfl ?_); refine box_event ?hg (N := 1) ?hd (cs := #[.int .i64 a0_0, .int .i64 a0_1, .string a0_2]) (t := 25) ?hr ?_; (case hd => rfl); (case hg => rfl); (case hr => first | (go_simp; done) | (go_simp; rfl)); intro gb485 hg w7 hbox hb; have n0_ := Aside0.mk (below_step bwA hb); have n1_ := Aside0.mk (hbox); have n2_ := Aside0.mk ((by rw [hg]; exact (below_size bwA) : w.heap.size ≤ gb485)); have n3_ := Aside0.mk ((by rw [hg]; exact (below_size bwA) : w.heap.size ≤ gb485)); clear HB; have HB := n0_; have BK485 := n1_; have GW485 := n2_; have GE485 := n3_; clear n0_ n1_ n2_ n3_; clear hb hbox hg; have hcz8_0 : w7.cell? ⟨gb485, 0, none⟩ = some (.int .i64 a0_0) := (blk_cell BK485.out 0).trans rfl; have hcz8_1 : w7.cell? ⟨gb485, 1, none⟩ = some (.int .i64 a0_1) := (blk_cell BK485.out 1).trans rfl; have hcz8_2 : w7.cell? ⟨gb485, 2, none⟩ = some (.string a0_2) := (blk_cell BK485.out 2).trans rfl; have hfz8_0 := blk_frozen BK485.out 0; have hfz8_1 := blk_frozen BK485.out 1; have hfz8_2 := blk_frozen BK485.out 2) | ((with_reducible refine gate_callee (f := 28) rfl ?_); refine goesA (some 7) Tryd.func28 #[.agg #[.int .i64 a0_0, .int .i64 a0_1, .string a0_2]] ?_; (with_reducible refine (value_Check.calls a0_0 a0_1 a0_2 true _ ?side1 A2.out).mono ?_); (case side1 => exact Tabs.below HT.out bwA); rintro e w9 ⟨rfl, hb⟩; refine ⟨_, rfl, ?_⟩; have n0_ := Aside0.mk (blk_below (g := gb485) (o := .cells #[.int .i64 a0_0, .int .i64 a0_1, .string a0_2] 25 (0, 0)) blkA hb); have n1_ := Aside0.mk (below_step bwA hb); clear BK485; clear HB; have BK485 := n0_; have HB := n1_; clear n0_ n1_; (try clear hb); (try clear hb2); (try clear hk); (try clear hi); have hcz10_0 : w9.cell? ⟨gb485, 0, none⟩ = some (.int .i64 a0_0) := (blk_cell BK485.out 0).trans rfl; have hcz10_1 : w9.cell? ⟨gb485, 1, none⟩ = some (.int .i64 a0_1) := (blk_cell BK485.out 1).trans rfl; have hcz10_2 : w9.cell? ⟨gb485, 2, none⟩ = some (.string a0_2) := (blk_cell BK485.out 2).trans rfl; have hfz10_0 := blk_frozen BK485.out 0; have hfz10_1 := blk_frozen BK485.out 1; have hfz10_2 := blk_frozen BK485.out 2) | ((with_reducible refine gate_dst (N := 12) rfl ?_); refine Kd.R_lit k91 _ 91 ?hg (N := 12) ?hd (xs := ([(⟨1, a0_0, (⟨#[]⟩ : ByteArray)⟩ : S91)] : List (S91))) (inner := [.int .i64 1, .int .i64 a0_0, .string (⟨#[]⟩ : ByteArray)]) (ok := fun _ => True) (okp := fun _ => True) ?hr ?hp (fun _ hk => hk) trivial (Below.refl _ _) (Nat.le_refl _) (by simp) ?_; (case hd => rfl); (case hg => rfl); (case hr => first | (go_simp; done) | (go_simp; rfl)); (case hp => exact (Reps.c3 (show Kd.M k91 _ _ _ (⟨1, a0_0, (⟨#[]⟩ : ByteArray)⟩ : S91) [.int .i64 1, .int .i64 a0_0, .string (⟨#[]⟩ : ByteArray)] from (k91_mkM _ _ _ (⟨1, a0_0, (⟨#[]⟩ : ByteArray)⟩ : S91) )) (Reps.none _ _))); intro v488 w11 ho12 hb hg_ hnew_; clear hg_ hnew_; (first | rw [← Ny487.out] at ho12 | (simp only [Int.reduceToNat] at ho12; rw [← Ny487.out] at ho12)); have n0_ := Aside0.mk (Kd.R_lower ho12 (below_size bwA)); have n1_ := Aside0.mk (blk_below (g := gb485) (o := .cells #[.int .i64 a0_0, .int .i64 a0_1, .string a0_2] 25 (0, 0)) blkA hb); have n2_ := Aside0.mk (below_step bwA hb); clear BK485; clear HB; have HO489 := n0_; have BK485 := n1_; have HB := n2_; clear n0_ n1_ n2_; clear hb ho12; have hcz13_0 : w11.cell? ⟨gb485, 0, none⟩ = some (.int .i64 a0_0) := (blk_cell BK485.out 0).trans rfl; have hcz13_1 : w11.cell? ⟨gb485, 1, none⟩ = some (.int .i64 a0_1) := (blk_cell BK485.out 1).trans rfl; have hcz13_2 : w11.cell? ⟨gb485, 2, none⟩ = some (.string a0_2) := (blk_cell BK485.out 2).trans rfl; have hfz13_0 := blk_frozen BK485.out 0; have hfz13_1 := blk_frozen BK485.out 1; have hfz13_2 := blk_frozen BK485.out 2) | ((with_reducible refine gate_builtin (b := .append) (xs := #[.tmp 23, .tmp 27]) rfl ?_); at_builtin; refine Kd.R_append k91 (w0 := w) w.heap.size rfl (.tmp 23) (.tmp 27) 88 91 (.agg #[(.int .i64 0), (.int .i64 0), (.string ⟨#[]⟩)]) 32 rfl Tryd.underlying88 info91 rfl (by decide) (by omega) v488 y487 (⟨2, a0_1, (⟨#[]⟩ : ByteArray)⟩ : S91) [.int .i64 2, .int .i64 a0_1, .string (⟨#[]⟩ : ByteArray)] (fun _ => True) (fun _ => False) rfl rfl ?aP (fun _ hk => hk.elim) ?aF ?aO ?aB ?aS ?aL ?_; (case aP => exact k91_mkM _ _ _ (⟨2, a0_1, (⟨#[]⟩ : ByteArray)⟩ : S91)); (case aB => exact bwA); (case aF => exact (fun _ _ => trivial)); (case aO => exact (by (with_reducible repeat (first | apply Kd.R_alloc | apply Kd.R_drewN | apply Kd.R_drew)); exact HO489.out)); (case aS => exact (below_size bwA)); (case aL => have := LMc5.out; omega); intro v491 w14 ho hb hg hat; rw [← Ny490.out] at ho; have n0_ := Aside0.mk (blk_grown (g := gb485) (o := .cells #[.int .i64 a0_0, .int .i64 a0_1, .string a0_2] 25 (0, 0)) blkA hg (Kd.R_ne HO489.out BK485.out (by decide))); have n1_ := Aside0.mk (hb); have n2_ := Aside0.mk (ho); clear BK485; clear HB; clear HO489; have BK485 := n0_; have HB := n1_; have HO492 := n2_; clear n0_ n1_ n2_; clear ho hb hg hat; obtain ⟨Ao15, co15, eo15⟩ := Kd.R_slice HO492.out; subst eo15) | ((with_reducible refine gate_callee (f := 72) rfl ?_); refine goesA (some 39) Tryd.func72 #[.slice Ao15 y490.length co15] ?_; (with_reducible refine (quic_Put.calls k _ _ y490 t493 t494 _ ?side1 ?side2 A6.out).mono ?_); (case side1 => repeat (first | exact (Kd.R_reads' HO492.out).2.2 | (with_reducible refine Kd.C_alloc ?_ _) | (with_reducible refine Kd.C_drewN ?_ _) | (with_reducible refine Kd.C_drew ?_))); (case side2 => exact (Kd.R_reads' HO492.out).2.1); rintro e w16 ⟨rfl, hb⟩; refine ⟨_, rfl, ?_⟩; have n0_ := Aside0.mk (Kd.R_below (by (with_reducible repeat (first | apply Kd.R_alloc | apply Kd.R_drewN | apply Kd.R_drew)); exact HO492.out) hb); have n1_ := Aside0.mk (blk_below (g := gb485) (o := .cells #[.int .i64 a0_0, .int .i64 a0_1, .string a0_2] 25 (0, 0)) blkA hb); have n2_ := Aside0.mk (below_step bwA hb); clear HO492; clear BK485; clear HB; have HO492 := n0_; have BK485 := n1_; have HB := n2_; clear n0_ n1_ n2_; (try clear hb); (try clear hb2); (try clear hk); (try clear hi)))
    go_ret
    exact ⟨by first | rfl | (simp [errW_none, errW_some] <;> rfl) | (simp [*, errW_none, errW_some] <;> rfl), by repeat (first | (with_reducible first | exact HB.out | apply below_alloc | apply pw_below_drewN | apply below_drew1 | refine below_set ?_ GE485.out) | exact HB.out)⟩
   ·rw [if_neg c5] at H
    exact absurd H (by simp)
  ·rw [if_neg c4] at H
   have c4b0 : (a0_0 == 1) = false := beq_eq_false_iff_ne.mpr c4
   have c4b1 : (a0_0 != 1) = true := bne_iff_ne.mpr c4
   by_cases c17 : a0_0 = 3
   ·rw [if_pos c17] at H
    have c17b0 : (a0_0 == 3) = true := beq_iff_eq.mpr c17
    have c17b1 : (a0_0 != 3) = false := bne_eq_false_iff_eq.mpr c17
    clear c17
    by_cases c18 : y487.length < 4398046511104
    ·rw [if_pos c18] at H
     have LMc18 := Aside0.mk c18
     clear c18
     obtain ⟨y495, hy495⟩ : ∃ y_ : List (S91), y_ = (y487 ++ [(⟨3, a0_1, (⟨#[]⟩ : ByteArray)⟩ : S91)]) := ⟨_, rfl⟩
     replace H : ((quic_Put.f k y495).bind fun bt498 => (some bt498.1)) = some r := by first | (rw [hy495]; with_reducible exact H) | (have H2_ := (Option.bind_some _ _).symm.trans H; rw [hy495]; with_reducible exact H2_) | (have H2_ := (Option.bind_some _ _).symm.trans H; with_reducible exact H2_) | with_reducible exact H | (rw [hy495]; exact H) | exact H
     have Ny495 := Aside0.mk hy495
     clear hy495
     replace H := Option.bind_eq_some_iff.mp H
     obtain ⟨⟨t498, t499⟩, A190, H⟩ := H
     replace H : (some t498) = some r := H
     have A19 := Aside0.mk A190
     clear A190
     obtain rfl := Option.some.inj H
     go_enter Tryd.func40, Tryd.ntmps40
     go_wp2_with (first | ((with_reducible refine gate_dst (N := 1) rfl ?_); refine box_event ?hg (N := 1) ?hd (cs := #[.int .i64 a0_0, .int .i64 a0_1, .string a0_2]) (t := 25) ?hr ?_; (case hd => rfl); (case hg => rfl); (case hr => first | (go_simp; done) | (go_simp; rfl)); intro gb485 hg w20 hbox hb; have n0_ := Aside0.mk (below_step bwA hb); have n1_ := Aside0.mk (hbox); have n2_ := Aside0.mk ((by rw [hg]; exact (below_size bwA) : w.heap.size ≤ gb485)); have n3_ := Aside0.mk ((by rw [hg]; exact (below_size bwA) : w.heap.size ≤ gb485)); clear HB; have HB := n0_; have BK485 := n1_; have GW485 := n2_; have GE485 := n3_; clear n0_ n1_ n2_ n3_; clear hb hbox hg; have hcz21_0 : w20.cell? ⟨gb485, 0, none⟩ = some (.int .i64 a0_0) := (blk_cell BK485.out 0).trans rfl; have hcz21_1 : w20.cell? ⟨gb485, 1, none⟩ = some (.int .i64 a0_1) := (blk_cell BK485.out 1).trans rfl; have hcz21_2 : w20.cell? ⟨gb485, 2, none⟩ = some (.string a0_2) := (blk_cell BK485.out 2).trans rfl; have hfz21_0 := blk_frozen BK485.out 0; have hfz21_1 := blk_frozen BK485.out 1; have hfz21_2 := blk_frozen BK485.out 2) | ((with_reducible refine gate_callee (f := 28) rfl ?_); refine goesA (some 7) Tryd.func28 #[.agg #[.int .i64 a0_0, .int .i64 a0_1, .string a0_2]] ?_; (with_reducible refine (value_Check.calls a0_0 a0_1 a0_2 true _ ?side1 A2.out).mono ?_); (case side1 => exact Tabs.below HT.out bwA); rintro e w22 ⟨rfl, hb⟩; refine ⟨_, rfl, ?_⟩; have n0_ := Aside0.mk (blk_below (g := gb485) (o := .cells #[.int .i64 a0_0, .int .i64 a0_1, .string a0_2] 25 (0, 0)) blkA hb); have n1_ := Aside0.mk (below_step bwA hb); clear BK485; clear HB; have BK485 := n0_; have HB := n1_; clear n0_ n1_; (try clear hb); (try clear hb2); (try clear hk); (try clear hi); have hcz23_0 : w22.cell? ⟨gb485, 0, none⟩ = some (.int .i64 a0_0) := (blk_cell BK485.out 0).trans rfl; have hcz23_1 : w22.cell? ⟨gb485, 1, none⟩ = some (.int .i64 a0_1) := (blk_cell BK485.out 1).trans rfl; have hcz23_2 : w22.cell? ⟨gb485, 2, none⟩ = some (.string a0_2) := (blk_cell BK485.out 2).trans rfl; have hfz23_0 := blk_frozen BK485.out 0; have hfz23_1 := blk_frozen BK485.out 1; have hfz23_2 := blk_frozen BK485.out 2) | ((with_reducible refine gate_dst (N := 12) rfl ?_); refine Kd.R_lit k91 _ 91 ?hg (N := 12) ?hd (xs := ([(⟨1, a0_0, (⟨#[]⟩ : ByteArray)⟩ : S91)] : List (S91))) (inner := [.int .i64 1, .int .i64 a0_0, .string (⟨#[]⟩ : ByteArray)]) (ok := fun _ => True) (okp := fun _ => True) ?hr ?hp (fun _ hk => hk) trivial (Below.refl _ _) (Nat.le_refl _) (by simp) ?_; (case hd => rfl); (case hg => rfl); (case hr => first | (go_simp; done) | (go_simp; rfl)); (case hp => exact (Reps.c3 (show Kd.M k91 _ _ _ (⟨1, a0_0, (⟨#[]⟩ : ByteArray)⟩ : S91) [.int .i64 1, .int .i64 a0_0, .string (⟨#[]⟩ : ByteArray)] from (k91_mkM _ _ _ (⟨1, a0_0, (⟨#[]⟩ : ByteArray)⟩ : S91) )) (Reps.none _ _))); intro v488 w24 ho25 hb hg_ hnew_; clear hg_ hnew_; (first | rw [← Ny487.out] at ho25 | (simp only [Int.reduceToNat] at ho25; rw [← Ny487.out] at ho25)); have n0_ := Aside0.mk (Kd.R_lower ho25 (below_size bwA)); have n1_ := Aside0.mk (blk_below (g := gb485) (o := .cells #[.int .i64 a0_0, .int .i64 a0_1, .string a0_2] 25 (0, 0)) blkA hb); have n2_ := Aside0.mk (below_step bwA hb); clear BK485; clear HB; have HO489 := n0_; have BK485 := n1_; have HB := n2_; clear n0_ n1_ n2_; clear hb ho25; have hcz26_0 : w24.cell? ⟨gb485, 0, none⟩ = some (.int .i64 a0_0) := (blk_cell BK485.out 0).trans rfl; have hcz26_1 : w24.cell? ⟨gb485, 1, none⟩ = some (.int .i64 a0_1) := (blk_cell BK485.out 1).trans rfl; have hcz26_2 : w24.cell? ⟨gb485, 2, none⟩ = some (.string a0_2) := (blk_cell BK485.out 2).trans rfl; have hfz26_0 := blk_frozen BK485.out 0; have hfz26_1 := blk_frozen BK485.out 1; have hfz26_2 := blk_frozen BK485.out 2) | ((with_reducible refine gate_builtin (b := .append) (xs := #[.tmp 31, .tmp 35]) rfl ?_); at_builtin; refine Kd.R_append k91 (w0 := w) w.heap.size rfl (.tmp 31) (.tmp 35) 88 91 (.agg #[(.int .i64 0), (.int .i64 0), (.string ⟨#[]⟩)]) 32 rfl Tryd.underlying88 info91 rfl (by decide) (by omega) v488 y487 (⟨3, a0_1, (⟨#[]⟩ : ByteArray)⟩ : S91) [.int .i64 3, .int .i64 a0_1, .string (⟨#[]⟩ : ByteArray)] (fun _ => True) (fun _ => False) rfl rfl ?aP (fun _ hk => hk.elim) ?aF ?aO ?aB ?aS ?aL ?_; (case aP => exact k91_mkM _ _ _ (⟨3, a0_1, (⟨#[]⟩ : ByteArray)⟩ : S91)); (case aB => exact bwA); (case aF => exact (fun _ _ => trivial)); (case aO => exact (by (with_reducible repeat (first | apply Kd.R_alloc | apply Kd.R_drewN | apply Kd.R_drew)); exact HO489.out)); (case aS => exact (below_size bwA)); (case aL => have := LMc18.out; omega); intro v496 w27 ho hb hg hat; rw [← Ny495.out] at ho; have n0_ := Aside0.mk (blk_grown (g := gb485) (o := .cells #[.int .i64 a0_0, .int .i64 a0_1, .string a0_2] 25 (0, 0)) blkA hg (Kd.R_ne HO489.out BK485.out (by decide))); have n1_ := Aside0.mk (hb); have n2_ := Aside0.mk (ho); clear BK485; clear HB; clear HO489; have BK485 := n0_; have HB := n1_; have HO497 := n2_; clear n0_ n1_ n2_; clear ho hb hg hat; obtain ⟨Ao28, co28, eo28⟩ := Kd.R_slice HO497.out; subst eo28) | ((with_reducible refine gate_callee (f := 72) rfl ?_); refine goesA (some 39) Tryd.func72 #[.slice Ao28 y495.length co28] ?_; (with_reducible refine (quic_Put.calls k _ _ y495 t498 t499 _ ?side1 ?side2 A19.out).mono ?_); (case side1 => repeat (first | exact (Kd.R_reads' HO497.out).2.2 | (with_reducible refine Kd.C_alloc ?_ _) | (with_reducible refine Kd.C_drewN ?_ _) | (with_reducible refine Kd.C_drew ?_))); (case side2 => exact (Kd.R_reads' HO497.out).2.1); rintro e w29 ⟨rfl, hb⟩; refine ⟨_, rfl, ?_⟩; have n0_ := Aside0.mk (Kd.R_below (by (with_reducible repeat (first | apply Kd.R_alloc | apply Kd.R_drewN | apply Kd.R_drew)); exact HO497.out) hb); have n1_ := Aside0.mk (blk_below (g := gb485) (o := .cells #[.int .i64 a0_0, .int .i64 a0_1, .string a0_2] 25 (0, 0)) blkA hb); have n2_ := Aside0.mk (below_step bwA hb); clear HO497; clear BK485; clear HB; have HO497 := n0_; have BK485 := n1_; have HB := n2_; clear n0_ n1_ n2_; (try clear hb); (try clear hb2); (try clear hk); (try clear hi)))
     go_ret
     exact ⟨by first | rfl | (simp [errW_none, errW_some] <;> rfl) | (simp [*, errW_none, errW_some] <;> rfl), by repeat (first | (with_reducible first | exact HB.out | apply below_alloc | apply pw_below_drewN | apply below_drew1 | refine below_set ?_ GE485.out) | exact HB.out)⟩
    ·rw [if_neg c18] at H
     exact absurd H (by simp)
   ·rw [if_neg c17] at H
    have c17b0 : (a0_0 == 3) = false := beq_eq_false_iff_ne.mpr c17
    have c17b1 : (a0_0 != 3) = true := bne_iff_ne.mpr c17
    by_cases c30 : y487.length < 4398046511104
    ·rw [if_pos c30] at H
     have LMc30 := Aside0.mk c30
     clear c30
     obtain ⟨y500, hy500⟩ : ∃ y_ : List (S91), y_ = (y487 ++ [(⟨4, 0, a0_2⟩ : S91)]) := ⟨_, rfl⟩
     replace H : ((quic_Put.f k y500).bind fun bt503 => (some bt503.1)) = some r := by first | (rw [hy500]; with_reducible exact H) | (have H2_ := (Option.bind_some _ _).symm.trans H; rw [hy500]; with_reducible exact H2_) | (have H2_ := (Option.bind_some _ _).symm.trans H; with_reducible exact H2_) | with_reducible exact H | (rw [hy500]; exact H) | exact H
     have Ny500 := Aside0.mk hy500
     clear hy500
     replace H := Option.bind_eq_some_iff.mp H
     obtain ⟨⟨t503, t504⟩, A310, H⟩ := H
     replace H : (some t503) = some r := H
     have A31 := Aside0.mk A310
     clear A310
     obtain rfl := Option.some.inj H
     go_enter Tryd.func40, Tryd.ntmps40
     go_wp2_with (first | ((with_reducible refine gate_dst (N := 1) rfl ?_); refine box_event ?hg (N := 1) ?hd (cs := #[.int .i64 a0_0, .int .i64 a0_1, .string a0_2]) (t := 25) ?hr ?_; (case hd => rfl); (case hg => rfl); (case hr => first | (go_simp; done) | (go_simp; rfl)); intro gb485 hg w32 hbox hb; have n0_ := Aside0.mk (below_step bwA hb); have n1_ := Aside0.mk (hbox); have n2_ := Aside0.mk ((by rw [hg]; exact (below_size bwA) : w.heap.size ≤ gb485)); have n3_ := Aside0.mk ((by rw [hg]; exact (below_size bwA) : w.heap.size ≤ gb485)); clear HB; have HB := n0_; have BK485 := n1_; have GW485 := n2_; have GE485 := n3_; clear n0_ n1_ n2_ n3_; clear hb hbox hg; have hcz33_0 : w32.cell? ⟨gb485, 0, none⟩ = some (.int .i64 a0_0) := (blk_cell BK485.out 0).trans rfl; have hcz33_1 : w32.cell? ⟨gb485, 1, none⟩ = some (.int .i64 a0_1) := (blk_cell BK485.out 1).trans rfl; have hcz33_2 : w32.cell? ⟨gb485, 2, none⟩ = some (.string a0_2) := (blk_cell BK485.out 2).trans rfl; have hfz33_0 := blk_frozen BK485.out 0; have hfz33_1 := blk_frozen BK485.out 1; have hfz33_2 := blk_frozen BK485.out 2) | ((with_reducible refine gate_callee (f := 28) rfl ?_); refine goesA (some 7) Tryd.func28 #[.agg #[.int .i64 a0_0, .int .i64 a0_1, .string a0_2]] ?_; (with_reducible refine (value_Check.calls a0_0 a0_1 a0_2 true _ ?side1 A2.out).mono ?_); (case side1 => exact Tabs.below HT.out bwA); rintro e w34 ⟨rfl, hb⟩; refine ⟨_, rfl, ?_⟩; have n0_ := Aside0.mk (blk_below (g := gb485) (o := .cells #[.int .i64 a0_0, .int .i64 a0_1, .string a0_2] 25 (0, 0)) blkA hb); have n1_ := Aside0.mk (below_step bwA hb); clear BK485; clear HB; have BK485 := n0_; have HB := n1_; clear n0_ n1_; (try clear hb); (try clear hb2); (try clear hk); (try clear hi); have hcz35_0 : w34.cell? ⟨gb485, 0, none⟩ = some (.int .i64 a0_0) := (blk_cell BK485.out 0).trans rfl; have hcz35_1 : w34.cell? ⟨gb485, 1, none⟩ = some (.int .i64 a0_1) := (blk_cell BK485.out 1).trans rfl; have hcz35_2 : w34.cell? ⟨gb485, 2, none⟩ = some (.string a0_2) := (blk_cell BK485.out 2).trans rfl; have hfz35_0 := blk_frozen BK485.out 0; have hfz35_1 := blk_frozen BK485.out 1; have hfz35_2 := blk_frozen BK485.out 2) | ((with_reducible refine gate_dst (N := 12) rfl ?_); refine Kd.R_lit k91 _ 91 ?hg (N := 12) ?hd (xs := ([(⟨1, a0_0, (⟨#[]⟩ : ByteArray)⟩ : S91)] : List (S91))) (inner := [.int .i64 1, .int .i64 a0_0, .string (⟨#[]⟩ : ByteArray)]) (ok := fun _ => True) (okp := fun _ => True) ?hr ?hp (fun _ hk => hk) trivial (Below.refl _ _) (Nat.le_refl _) (by simp) ?_; (case hd => rfl); (case hg => rfl); (case hr => first | (go_simp; done) | (go_simp; rfl)); (case hp => exact (Reps.c3 (show Kd.M k91 _ _ _ (⟨1, a0_0, (⟨#[]⟩ : ByteArray)⟩ : S91) [.int .i64 1, .int .i64 a0_0, .string (⟨#[]⟩ : ByteArray)] from (k91_mkM _ _ _ (⟨1, a0_0, (⟨#[]⟩ : ByteArray)⟩ : S91) )) (Reps.none _ _))); intro v488 w36 ho37 hb hg_ hnew_; clear hg_ hnew_; (first | rw [← Ny487.out] at ho37 | (simp only [Int.reduceToNat] at ho37; rw [← Ny487.out] at ho37)); have n0_ := Aside0.mk (Kd.R_lower ho37 (below_size bwA)); have n1_ := Aside0.mk (blk_below (g := gb485) (o := .cells #[.int .i64 a0_0, .int .i64 a0_1, .string a0_2] 25 (0, 0)) blkA hb); have n2_ := Aside0.mk (below_step bwA hb); clear BK485; clear HB; have HO489 := n0_; have BK485 := n1_; have HB := n2_; clear n0_ n1_ n2_; clear hb ho37; have hcz38_0 : w36.cell? ⟨gb485, 0, none⟩ = some (.int .i64 a0_0) := (blk_cell BK485.out 0).trans rfl; have hcz38_1 : w36.cell? ⟨gb485, 1, none⟩ = some (.int .i64 a0_1) := (blk_cell BK485.out 1).trans rfl; have hcz38_2 : w36.cell? ⟨gb485, 2, none⟩ = some (.string a0_2) := (blk_cell BK485.out 2).trans rfl; have hfz38_0 := blk_frozen BK485.out 0; have hfz38_1 := blk_frozen BK485.out 1; have hfz38_2 := blk_frozen BK485.out 2) | ((with_reducible refine gate_builtin (b := .append) (xs := #[.tmp 15, .tmp 19]) rfl ?_); at_builtin; refine Kd.R_append k91 (w0 := w) w.heap.size rfl (.tmp 15) (.tmp 19) 88 91 (.agg #[(.int .i64 0), (.int .i64 0), (.string ⟨#[]⟩)]) 32 rfl Tryd.underlying88 info91 rfl (by decide) (by omega) v488 y487 (⟨4, 0, a0_2⟩ : S91) [.int .i64 4, .int .i64 0, .string a0_2] (fun _ => True) (fun _ => False) rfl rfl ?aP (fun _ hk => hk.elim) ?aF ?aO ?aB ?aS ?aL ?_; (case aP => exact k91_mkM _ _ _ (⟨4, 0, a0_2⟩ : S91)); (case aB => exact bwA); (case aF => exact (fun _ _ => trivial)); (case aO => exact (by (with_reducible repeat (first | apply Kd.R_alloc | apply Kd.R_drewN | apply Kd.R_drew)); exact HO489.out)); (case aS => exact (below_size bwA)); (case aL => have := LMc30.out; omega); intro v501 w39 ho hb hg hat; rw [← Ny500.out] at ho; have n0_ := Aside0.mk (blk_grown (g := gb485) (o := .cells #[.int .i64 a0_0, .int .i64 a0_1, .string a0_2] 25 (0, 0)) blkA hg (Kd.R_ne HO489.out BK485.out (by decide))); have n1_ := Aside0.mk (hb); have n2_ := Aside0.mk (ho); clear BK485; clear HB; clear HO489; have BK485 := n0_; have HB := n1_; have HO502 := n2_; clear n0_ n1_ n2_; clear ho hb hg hat; obtain ⟨Ao40, co40, eo40⟩ := Kd.R_slice HO502.out; subst eo40) | ((with_reducible refine gate_callee (f := 72) rfl ?_); refine goesA (some 39) Tryd.func72 #[.slice Ao40 y500.length co40] ?_; (with_reducible refine (quic_Put.calls k _ _ y500 t503 t504 _ ?side1 ?side2 A31.out).mono ?_); (case side1 => repeat (first | exact (Kd.R_reads' HO502.out).2.2 | (with_reducible refine Kd.C_alloc ?_ _) | (with_reducible refine Kd.C_drewN ?_ _) | (with_reducible refine Kd.C_drew ?_))); (case side2 => exact (Kd.R_reads' HO502.out).2.1); rintro e w41 ⟨rfl, hb⟩; refine ⟨_, rfl, ?_⟩; have n0_ := Aside0.mk (Kd.R_below (by (with_reducible repeat (first | apply Kd.R_alloc | apply Kd.R_drewN | apply Kd.R_drew)); exact HO502.out) hb); have n1_ := Aside0.mk (blk_below (g := gb485) (o := .cells #[.int .i64 a0_0, .int .i64 a0_1, .string a0_2] 25 (0, 0)) blkA hb); have n2_ := Aside0.mk (below_step bwA hb); clear HO502; clear BK485; clear HB; have HO502 := n0_; have BK485 := n1_; have HB := n2_; clear n0_ n1_ n2_; (try clear hb); (try clear hb2); (try clear hk); (try clear hi)))
     go_ret
     exact ⟨by first | rfl | (simp [errW_none, errW_some] <;> rfl) | (simp [*, errW_none, errW_some] <;> rfl), by repeat (first | (with_reducible first | exact HB.out | apply below_alloc | apply pw_below_drewN | apply below_drew1 | refine below_set ?_ GE485.out) | exact HB.out)⟩
    ·rw [if_neg c30] at H
     exact absurd H (by simp)
 ·replace c3 := Bool.eq_false_iff.mpr c3
  subst c3
  have H1 : (some (⟨#[]⟩ : ByteArray)) = some r := by rw [if_neg (show ¬ (false = true) by decide)] at H; exact H
  clear H
  have H := H1
  clear H1
  obtain rfl := Option.some.inj H
  go_enter Tryd.func40, Tryd.ntmps40
  go_wp2_with (first | ((with_reducible refine gate_dst (N := 1) rfl ?_); refine box_event ?hg (N := 1) ?hd (cs := #[.int .i64 a0_0, .int .i64 a0_1, .string a0_2]) (t := 25) ?hr ?_; (case hd => rfl); (case hg => rfl); (case hr => first | (go_simp; done) | (go_simp; rfl)); intro gb485 hg w42 hbox hb; have n0_ := Aside0.mk (below_step bwA hb); have n1_ := Aside0.mk (hbox); have n2_ := Aside0.mk ((by rw [hg]; exact (below_size bwA) : w.heap.size ≤ gb485)); have n3_ := Aside0.mk ((by rw [hg]; exact (below_size bwA) : w.heap.size ≤ gb485)); clear HB; have HB := n0_; have BK485 := n1_; have GW485 := n2_; have GE485 := n3_; clear n0_ n1_ n2_ n3_; clear hb hbox hg; have hcz43_0 : w42.cell? ⟨gb485, 0, none⟩ = some (.int .i64 a0_0) := (blk_cell BK485.out 0).trans rfl; have hcz43_1 : w42.cell? ⟨gb485, 1, none⟩ = some (.int .i64 a0_1) := (blk_cell BK485.out 1).trans rfl; have hcz43_2 : w42.cell? ⟨gb485, 2, none⟩ = some (.string a0_2) := (blk_cell BK485.out 2).trans rfl; have hfz43_0 := blk_frozen BK485.out 0; have hfz43_1 := blk_frozen BK485.out 1; have hfz43_2 := blk_frozen BK485.out 2) | ((with_reducible refine gate_callee (f := 28) rfl ?_); refine goesA (some 7) Tryd.func28 #[.agg #[.int .i64 a0_0, .int .i64 a0_1, .string a0_2]] ?_; (with_reducible refine (value_Check.calls a0_0 a0_1 a0_2 false _ ?side1 A2.out).mono ?_); (case side1 => exact Tabs.below HT.out bwA); rintro e w44 ⟨rfl, hb⟩; refine ⟨_, rfl, ?_⟩; have n0_ := Aside0.mk (blk_below (g := gb485) (o := .cells #[.int .i64 a0_0, .int .i64 a0_1, .string a0_2] 25 (0, 0)) blkA hb); have n1_ := Aside0.mk (below_step bwA hb); clear BK485; clear HB; have BK485 := n0_; have HB := n1_; clear n0_ n1_; (try clear hb); (try clear hb2); (try clear hk); (try clear hi)))
  go_ret
  exact ⟨by first | rfl | (simp [errW_none, errW_some] <;> rfl) | (simp [*, errW_none, errW_some] <;> rfl), by repeat (first | (with_reducible first | exact HB.out | apply below_alloc | apply pw_below_drewN | apply below_drew1 | refine below_set ?_ GE485.out) | exact HB.out)⟩

end Go.Proofs.YtoajlmmkkcelgaaDoor.A
