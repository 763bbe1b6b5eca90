-- By drv.py, the session's own driver round the kit's print: the machine's side of the laws, function by function. Not trusted: Lean checks it.
import Derived.Test.YtplemgmfnghoeaaGreatDoorAx0
import Derived.Test.YtplemgmfnghoeaaGreatDoorAx6
namespace Go.Proofs.YtplemgmfnghoeaaGreatDoor.A
open Go.RowKit Go.Proofs.YtplemgmfnghoeaaGreatDoorW.PrintWords Go.Proofs.YtplemgmfnghoeaaGreatDoorW.PrintLast Go.Proofs.YtplemgmfnghoeaaGreatDoorW.PrintMore
attribute [local go_sem] max2_int min2_int max_two min_two max_three min_three max_four min_four   -- for this text's walks alone
set_option linter.unusedVariables false
set_option linter.unusedSimpArgs false

/-! ### name_Same: function 28 -/
def name_Same.f (a0 : ByteArray) (a1 : ByteArray) : Option (Bool) := (name_Fold.f a0).bind fun t126 => ((name_Fold.f a1).bind fun t127 => (some (t126.toList == t127.toList)))
set_option maxHeartbeats 8000000 in
set_option maxRecDepth 100000 in
theorem name_Same.calls (a0 : ByteArray) (a1 : ByteArray) (r : Bool) (w : World) (hT : Tabs w) (h : name_Same.f a0 a1 = some r) :
  Calls Tryz.prog 28 #[.string a0, .string a1] w fun e w' => e = .returned (.bool r) ∧ Below w.heap.size w w' := by
 have HB := Aside0.mk (Below.refl w.heap.size w)
 have H : ((name_Fold.f a0).bind fun t126 => ((name_Fold.f a1).bind fun t127 => (some (t126.toList == t127.toList)))) = some r := h
 clear h
 have HT := Aside0.mk hT
 clear hT
 replace H := Option.bind_eq_some_iff.mp H
 obtain ⟨t126, A30, H⟩ := H
 replace H : ((name_Fold.f a1).bind fun t127 => (some (t126.toList == t127.toList))) = some r := H
 have A3 := Aside0.mk A30
 clear A30
 replace H := Option.bind_eq_some_iff.mp H
 obtain ⟨t127, A40, H⟩ := H
 replace H : (some (t126.toList == t127.toList)) = some r := H
 have A4 := Aside0.mk A40
 clear A40
 obtain rfl := Option.some.inj H
 go_enter Tryz.func28, Tryz.ntmps28
 go_wp2_with (first | ((with_reducible refine gate_callee (f := 58) rfl ?_); refine goesA (some 6) Tryz.func58 #[.string a0] ?_; (with_reducible refine (name_Fold.calls a0 t126 _ ?side1 A3.out).mono ?_); (case side1 => exact Tabs.below HT.out (bwA)); rintro e w5 ⟨rfl, hb⟩; refine ⟨_, rfl, ?_⟩; have n0_ := Aside0.mk (below_step (bwA) hb); clear HB; have HB := n0_; clear n0_; (try clear hb); (try clear hb2); (try clear hk); (try clear hi)) | ((with_reducible refine gate_callee (f := 58) rfl ?_); refine goesA (some 8) Tryz.func58 #[.string a1] ?_; (with_reducible refine (name_Fold.calls a1 t127 _ ?side1 A4.out).mono ?_); (case side1 => exact Tabs.below HT.out (bwA)); rintro e w6 ⟨rfl, hb⟩; refine ⟨_, rfl, ?_⟩; have n0_ := Aside0.mk (below_step (bwA) hb); clear HB; have HB := n0_; clear n0_; (try clear hb); (try clear hb2); (try clear hk); (try clear hi)))
 go_ret
 exact ⟨endA, bwA⟩

/-! ### api_Attr_29: function 29, by hand -/
/-- Each of these as each of those, as p says. -/
def allK {α β : Type} (p : α → β → Option Bool) : List α → List β → Option Bool
 | x :: xs, y :: ys => (p x y).bind fun b => if b = true then allK p xs ys else some false
 | _, _ => some true
def aggA (x : S57) : Value := .agg #[.string x.f0, .int .i64 x.f1.f0, .int .i64 x.f1.f1, .string x.f1.f2]
set_option maxHeartbeats 8000000 in
set_option maxRecDepth 100000 in
theorem eqfAttr (p : S57 → S57 → Option Bool) (g : Nat) (eg : ∀ args w, (callFunc g args).run Tryz.prog w = .ok (.enter g args) w) (A0 : Option Addr) (c0 : Nat) (l0 : List S57) (A1 : Option Addr) (c1 : Nat) (l1 : List S57) (r : Bool) (w : World)
  (hp : ∀ (W : World) (x y : S57) (b : Bool), p x y = some b → Below w.heap.size w W → Calls Tryz.prog g #[aggA x, aggA y] W fun e w' => e = .returned (.bool b) ∧ Below w.heap.size w w')
  (hC0 : Kd.C k57 w A0 l0.length l0) (hC1 : Kd.C k57 w A1 l1.length l1) (hr : (if l0.length = l1.length then allK p l0 l1 else some false) = some r) :
  Calls Tryz.prog 29 #[.slice A0 l0.length c0, .slice A1 l1.length c1, .func (.func g) #[] #[]] w fun e w' => e = .returned (.bool r) ∧ Below w.heap.size w w' := by
 have huA := Tryz.underlying57
 have huV := Tryz.underlying55
 by_cases hl : l0.length = l1.length
 case neg =>
  rw [if_neg hl] at hr
  obtain rfl := Option.some.inj hr
  have b1 : ((l0.length : Int) == (l1.length : Int)) = false := by rw [beq_eq_false_iff_ne]; omega
  have b2 : ((l0.length : Int) != (l1.length : Int)) = true := by rw [bne, b1]; rfl
  have b3 : decide ((l0.length : Int) = (l1.length : Int)) = false := decide_eq_false (by omega)
  have b4 : decide (l0.length = l1.length) = false := decide_eq_false hl
  clear hp hC0 hC1 hr
  go_enter Tryz.func29, Tryz.ntmps29
  go_wp2
  go_ret
  exact ⟨rfl, Below.refl _ _⟩
 rw [if_pos hl] at hr
 have HX0 := Aside0.mk (fun (i : Int) (h0 : 0 ≤ i) (h1 : i < (l0.length : Int)) (W : World) (hW : Below w.heap.size w W) => at_T57 (Kd.C_below hC0 hW) i h0 h1)
 have HX1 := Aside0.mk (fun (i : Int) (h0 : 0 ≤ i) (h1 : i < (l1.length : Int)) (W : World) (hW : Below w.heap.size w W) => at_T57 (Kd.C_below hC1 hW) i h0 h1)
 have HP := Aside0.mk hp
 have HR := Aside0.mk hr
 have hll : l0.length ≤ 9223372036854775807 := hC0.2.1
 clear hp hC0 hC1 hr
 obtain ⟨n, hn⟩ : ∃ n, n = l0.length := ⟨_, rfl⟩
 rw [← hl, ← hn]
 rw [← hn] at hll
 have HN := Aside0.mk (And.intro hn hl)
 clear hn hl
 go_enter Tryz.func29, Tryz.ntmps29
 go_wp2
 go_loopg [17] n (fun gg v17 wr => ∃ kk : Nat, kk ≤ n ∧ n - kk ≤ gg ∧ v17 = .int .i64 kk ∧ Aside (Below w.heap.size w wr) ∧ Aside (allK p (l0.drop kk) (l1.drop kk) = some r))
 case atStart => exact ⟨0, Nat.zero_le _, by omega, rfl, Below.refl _ w, HR.out⟩
 case round =>
  obtain ⟨kk, hkk, hg, rfl, BW, AK⟩ := hrel
  have hN := HN.out
  by_cases hlt : kk < n
  ·have hltz : (kk : Int) < (n : Int) := by omega
   have hpos : (0 : Int) ≤ (kk : Int) := by omega
   have h0 : kk < l0.length := by omega
   have h1 : kk < l1.length := by omega
   have hA := AK.out
   rw [List.drop_eq_getElem_cons h0, List.drop_eq_getElem_cons h1, allK] at hA
   obtain ⟨b, hb, hA2⟩ := Option.bind_eq_some_iff.1 hA
   clear hA
   have hx := HX0.out kk hpos (by omega) wr BW.out
   have hy := fun W hW => HX1.out kk hpos (by omega) W hW
   have hrd : rd_T57 l0 (kk : Int) = l0[kk] := by
    unfold rd_T57
    rw [Int.toNat_natCast, List.getD_eq_getElem?_getD, List.getElem?_eq_getElem h0]; rfl
   have hrd2 : rd_T57 l1 (kk : Int) = l1[kk] := by
    unfold rd_T57
    rw [Int.toNat_natCast, List.getD_eq_getElem?_getD, List.getElem?_eq_getElem h1]; rfl
   rw [hrd] at hx
   rw [hrd2] at hy
   generalize l0[kk] = x at hx hb hrd
   generalize l1[kk] = y at hy hb hrd2
   obtain ⟨ad, rfl, x0, x1, x2, x3⟩ := hx
   rw [Int.toNat_natCast] at x0 x1 x2 x3 hy
   have hW1 : Below w.heap.size w (wr.alloc (.cells #[.string x.f0, .int .i64 x.f1.f0, .int .i64 x.f1.f1, .string x.f1.f2] 57)) := BW.out.alloc BW.out.size _
   have hW2 : Below w.heap.size w ((wr.alloc (.cells #[.string x.f0, .int .i64 x.f1.f0, .int .i64 x.f1.f1, .string x.f1.f2] 57)).alloc (.cells #[.string y.f0, .int .i64 y.f1.f0, .int .i64 y.f1.f1, .string y.f1.f2] 57)) := hW1.alloc hW1.size _
   obtain ⟨ad1, rfl, y0, y1, y2, y3⟩ := hy _ hW1
   have hcall := HP.out _ x y b hb hW2
   unfold aggA at hcall
   have HAA := Aside0.mk hA2
   have HW2 := Aside0.mk hW2
   clear hrd hrd2 hA2 hb AK BW hy hN h0 h1 hW1 hW2
   cases b with
   | true =>
    have HAA2 := Aside0.mk (HAA.out.symm.trans (if_pos rfl)).symm
    go_wp2_with (go_at_fn g; refine hcall.mono ?_; rintro e w' ⟨rfl, hb'⟩)
    go_roundg (n - (kk + 1))
    case measure => omega
    case rel => exact ⟨kk + 1, by omega, by omega, by go_num, hb', HAA2.out⟩
   | false =>
    obtain rfl := Option.some.inj (HAA.out.symm.trans (if_neg (by decide)))
    go_wp2_with (go_at_fn g; refine hcall.mono ?_; rintro e w' ⟨rfl, hb'⟩)
    go_ret
    exact ⟨rfl, hb'⟩
  ·have hltz : ¬ (kk : Int) < (n : Int) := by omega
   have hA := AK.out
   rw [List.drop_of_length_le (by omega), allK.eq_2 _ _ _ (by intro x xs y ys h; cases h)] at hA
   obtain rfl := Option.some.inj hA
   have hBW := BW.out
   clear hA AK BW hN
   go_wp2
   go_ret
   exact ⟨rfl, hBW⟩

/-! ### event_Alike: function 8, by hand -/
theorem box2a {w : World} {cs ds : Array Value} {T U : TypeId} {j : Nat} {v : Value} (h : cs[j]? = some v) : ((w.alloc (.cells cs T)).alloc (.cells ds U)).cell? ⟨w.heap.size, j, none⟩ = some v := Lib.cell?_alloc_some _ ((Lib.cell_of_heap (heap_alloc_new w _) j).trans h)
theorem box2b {w : World} {cs ds : Array Value} {T U : TypeId} {j : Nat} {v : Value} (h : ds[j]? = some v) : ((w.alloc (.cells cs T)).alloc (.cells ds U)).cell? ⟨w.heap.size + 1, j, none⟩ = some v := by
 have h1 := (Lib.cell_of_heap (heap_alloc_new (w.alloc (.cells cs T)) (.cells ds U)) j).trans h
 have e : (w.alloc (.cells cs T)).heap.size = w.heap.size + 1 := by simp
 rwa [e] at h1
theorem box2s {w : World} {o p : Obj} : ((w.alloc o).alloc p).heap.size = w.heap.size + 2 := by simp
theorem eqValA (d : Nat) (w : World) (x0 y0 : Int) (x1 y1 : Int) (x2 y2 : ByteArray) :
  (Op.equalIn (d + 2) 55 (.agg #[.int .i64 x0, .int .i64 x1, .string x2]) (.agg #[.int .i64 y0, .int .i64 y1, .string y2])).run Tryz.prog w = .ok (x0 == y0 && (x1 == y1 && (x2.toList == y2.toList))) w := by
 refine eqA_of Tryz.underlying55 (by kernel_rfl) ?_
 refine eqf_cons (by rfl) (by go_simp; rfl) (by go_simp; rfl) (by go_simp) ?_
 refine eqf_cons (by rfl) (by go_simp; rfl) (by go_simp; rfl) (by go_simp) ?_
 exact eqf_last (by rfl) (by go_simp; rfl) (by go_simp; rfl) (by go_simp)
attribute [local go_sem high] eqValA
/-- Are two attributes alike? -/
def event_Alike.one (x y : S57) : Option Bool := (name_Same.f x.f0 y.f0).bind fun u => some (if u = true then (x.f1.f0 == y.f1.f0 && (x.f1.f1 == y.f1.f1 && (x.f1.f2.toList == y.f1.f2.toList))) else false)
set_option maxHeartbeats 4000000 in
theorem event_Alike1.calls (x y : S57) (b : Bool) (w : World) (hT : Tabs w) (h : event_Alike.one x y = some b) :
  Calls Tryz.prog 30 #[aggA x, aggA y] w fun e w' => e = .returned (.bool b) ∧ Below w.heap.size w w' := by
 unfold event_Alike.one at h
 obtain ⟨u, hu, h⟩ := Option.bind_eq_some_iff.1 h
 have h := Option.some.inj h
 have huA := Tryz.underlying57
 have huV := Tryz.underlying55
 have hb2 : Below w.heap.size w ((w.alloc (.cells #[.string x.f0, .int .i64 x.f1.f0, .int .i64 x.f1.f1, .string x.f1.f2] 57)).alloc (.cells #[.string y.f0, .int .i64 y.f1.f0, .int .i64 y.f1.f1, .string y.f1.f2] 57)) := ((Below.refl _ w).alloc (Nat.le_refl _) _).alloc (by simp) _
 have cS := name_Same.calls x.f0 y.f0 u _ (hT.below hb2) hu
 have HB2 := Aside0.mk hb2
 unfold aggA
 clear hT hu hb2
 cases u with
 | false =>
  rw [if_neg (by decide)] at h
  subst h
  go_enter Tryz.func30, Tryz.ntmps30
  go_wp2_with (go_at_call 28; refine cS.mono ?_; rintro e w' ⟨rfl, hb'⟩)
  go_ret
  exact ⟨rfl, HB2.out.trans (hb'.mono HB2.out.size)⟩
 | true =>
  rw [if_pos rfl] at h
  subst h
  go_enter Tryz.func30, Tryz.ntmps30
  go_wp2_with (go_at_call 28; refine cS.mono ?_; rintro e w' ⟨rfl, hb'⟩; have x1 := (hb'.cell (p := ⟨w.heap.size, 1, none⟩) (by rw [box2s]; show w.heap.size < _; omega)).trans (box2a (j := 1) rfl); have x2 := (hb'.cell (p := ⟨w.heap.size, 2, none⟩) (by rw [box2s]; show w.heap.size < _; omega)).trans (box2a (j := 2) rfl); have x3 := (hb'.cell (p := ⟨w.heap.size, 3, none⟩) (by rw [box2s]; show w.heap.size < _; omega)).trans (box2a (j := 3) rfl); have y1 := (hb'.cell (p := ⟨w.heap.size + 1, 1, none⟩) (by rw [box2s]; show w.heap.size + 1 < _; omega)).trans (box2b (j := 1) rfl); have y2 := (hb'.cell (p := ⟨w.heap.size + 1, 2, none⟩) (by rw [box2s]; show w.heap.size + 1 < _; omega)).trans (box2b (j := 2) rfl); have y3 := (hb'.cell (p := ⟨w.heap.size + 1, 3, none⟩) (by rw [box2s]; show w.heap.size + 1 < _; omega)).trans (box2b (j := 3) rfl))
  go_ret
  exact ⟨rfl, HB2.out.trans (hb'.mono HB2.out.size)⟩
def event_Alike.f (a0_0 : Int) (a0_1 : Int) (a0_2 : Int) (a0_3 : ByteArray) (l0_4 : List (S57)) (a1_0 : Int) (a1_1 : Int) (a1_2 : Int) (a1_3 : ByteArray) (l1_4 : List (S57)) : Option (Bool) := (name_Same.f a0_3 a1_3).bind fun t => if t = true then (if l0_4.length = l1_4.length then allK event_Alike.one l0_4 l1_4 else some false) else some false
set_option maxHeartbeats 4000000 in
theorem event_Alike.calls (a0_0 : Int) (a0_1 : Int) (a0_2 : Int) (a0_3 : ByteArray) (A0_4 : Option Addr) (c0_4 : Nat) (l0_4 : List (S57)) (a1_0 : Int) (a1_1 : Int) (a1_2 : Int) (a1_3 : ByteArray) (A1_4 : Option Addr) (c1_4 : Nat) (l1_4 : List (S57)) (r : Bool) (w : World) (hr0_4 : Kd.C k57 w A0_4 l0_4.length l0_4) (hc0_4 : l0_4.length ≤ c0_4) (hr1_4 : Kd.C k57 w A1_4 l1_4.length l1_4) (hc1_4 : l1_4.length ≤ c1_4) (hT : Tabs w) (h : event_Alike.f a0_0 a0_1 a0_2 a0_3 l0_4 a1_0 a1_1 a1_2 a1_3 l1_4 = some r) :
  Calls Tryz.prog 8 #[.agg #[.int .i64 a0_0, .int .i64 a0_1, .int .i64 a0_2, .string a0_3, .slice A0_4 l0_4.length c0_4], .agg #[.int .i64 a1_0, .int .i64 a1_1, .int .i64 a1_2, .string a1_3, .slice A1_4 l1_4.length c1_4]] w fun e w' => e = .returned (.bool r) ∧ Below w.heap.size w w' := by
 unfold event_Alike.f at h
 obtain ⟨t, ht, h⟩ := Option.bind_eq_some_iff.1 h
 have huE := Tryz.underlying27
 have hb2 : Below w.heap.size w ((w.alloc (.cells #[.int .i64 a0_0, .int .i64 a0_1, .int .i64 a0_2, .string a0_3, .slice A0_4 l0_4.length c0_4] 27)).alloc (.cells #[.int .i64 a1_0, .int .i64 a1_1, .int .i64 a1_2, .string a1_3, .slice A1_4 l1_4.length c1_4] 27)) := ((Below.refl _ w).alloc (Nat.le_refl _) _).alloc (by simp) _
 have cS := name_Same.calls a0_3 a1_3 t _ (hT.below hb2) ht
 have eg : ∀ args w, (callFunc 30 args).run Tryz.prog w = .ok (.enter 30 args) w := enters_of Tryz.func30 (by kernel_rfl) rfl
 have cE := fun (hr : (if l0_4.length = l1_4.length then allK event_Alike.one l0_4 l1_4 else some false) = some r) (W : World) (hW : Below w.heap.size w W) => eqfAttr event_Alike.one 30 eg A0_4 c0_4 l0_4 A1_4 c1_4 l1_4 r W (fun W2 x y b hb hb2 => (event_Alike1.calls x y b W2 (hT.below (hW.trans (hb2.mono hW.size))) hb).mono fun e w' ⟨he, hw⟩ => ⟨he, hb2.trans (hw.mono hb2.size)⟩) (Kd.C_below hr0_4 hW) (Kd.C_below hr1_4 hW) hr
 have CE := Aside0.mk cE
 have HB2 := Aside0.mk hb2
 clear hT ht hb2 hr0_4 hr1_4 eg cE
 cases t with
 | false =>
  rw [if_neg (by decide)] at h
  obtain rfl := Option.some.inj h
  go_enter Tryz.func8, Tryz.ntmps8
  go_wp2_with (go_at_call 28; refine cS.mono ?_; rintro e w' ⟨rfl, hb'⟩)
  go_ret
  exact ⟨rfl, HB2.out.trans (hb'.mono HB2.out.size)⟩
 | true =>
  rw [if_pos rfl] at h
  have cF := fun W hW => CE.out h W hW
  clear CE
  go_enter Tryz.func8, Tryz.ntmps8
  go_wp2_with (first | (go_at_call 28; refine cS.mono ?_; rintro e w' ⟨rfl, hb'⟩; have x4 := (hb'.cell (p := ⟨w.heap.size, 4, none⟩) (by rw [box2s]; show w.heap.size < _; omega)).trans (box2a (j := 4) rfl); have y4 := (hb'.cell (p := ⟨w.heap.size + 1, 4, none⟩) (by rw [box2s]; show w.heap.size + 1 < _; omega)).trans (box2b (j := 4) rfl); have hB' := HB2.out.trans (hb'.mono HB2.out.size)) | (go_at_call 29; refine (cF _ hB').mono ?_; rintro e w5 ⟨rfl, hb5⟩))
  go_ret
  exact ⟨rfl, hB'.trans (hb5.mono hB'.size)⟩

end Go.Proofs.YtplemgmfnghoeaaGreatDoor.A
