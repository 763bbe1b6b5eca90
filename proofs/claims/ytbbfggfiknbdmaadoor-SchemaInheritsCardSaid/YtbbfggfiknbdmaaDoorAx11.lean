-- By drv.py, the session's own driver round the kit's print: the machine's side of the laws, function by function. Not trusted: Lean checks it.
import Derived.Test.YtbbfggfiknbdmaaDoorAx0
import Derived.Test.YtbbfggfiknbdmaaDoorAx6
import Derived.Test.YtbbfggfiknbdmaaDoorAx7
import Derived.Test.YtbbfggfiknbdmaaDoorAx10
namespace Go.Proofs.YtbbfggfiknbdmaaDoor.A
open Go.RowKit Go.Proofs.YtbbfggfiknbdmaaDoorW.PrintWords Go.Proofs.YtbbfggfiknbdmaaDoorW.PrintLast Go.Proofs.YtbbfggfiknbdmaaDoorW.PrintMore
attribute [local go_sem] max2_int min2_int max_two min_two max_three min_three max_four min_four   -- for this text's walks alone
set_option linter.unusedVariables false
set_option linter.unusedSimpArgs false

/-! ### api_Field_18: function 18, by hand -/
theorem w64s (n : Nat) (h : n < 4000000000) : wrap64 (n : Int) = (n : Int) := by unfold wrap64; omega
theorem w64z (n : Nat) (h : n < 4000000000) : wrap64 (0 + (n : Int)) = (n : Int) := by unfold wrap64; omega
theorem w64p (a b c : Nat) (hc : c = a + b) (h : c < 4000000000) : wrap64 ((a : Int) + (b : Int)) = (c : Int) := by unfold wrap64; omega
set_option maxHeartbeats 8000000 in
set_option maxRecDepth 100000 in
/-- slices.Concat of two rows. -/
theorem concat2.calls (b : Nat) (A0 : Option Addr) (c0 : Nat) (l0 : List S35) (A1 : Option Addr) (c1 : Nat) (l1 : List S35) (w : World) (hb : b < w.heap.size) (hx0 : w.cell? ⟨b, 0, none⟩ = some (.slice A0 l0.length c0)) (hx1 : w.cell? ⟨b, 1, none⟩ = some (.slice A1 l1.length c1))
  (hC0 : Kd.C k35 w A0 l0.length l0) (hC1 : Kd.C k35 w A1 l1.length l1) (hl0 : l0.length < 400000) (hl1 : l1.length < 400000) :
  Calls Tryd.prog 18 #[.slice (some ⟨b, 0, none⟩) 2 2] w fun e w' => ∃ v, e = .returned v ∧ Kd.R k35 35 w' w.heap.size (fun _ => True) v (l0 ++ l1) ∧ Below w.heap.size w w' := by
 have hu := Tryd.underlying22
 have hu2 := Tryd.underlying68
 obtain ⟨n0, hn0⟩ : ∃ n0, n0 = l0.length := ⟨_, rfl⟩
 obtain ⟨n1, hn1⟩ : ∃ n1, n1 = l1.length := ⟨_, rfl⟩
 obtain ⟨n2, hn2⟩ : ∃ n2, n2 = n0 + n1 := ⟨_, rfl⟩
 have hcat : (l0 ++ l1).length = n2 := by rw [List.length_append]; omega
 rw [← hn0] at hx0 hC0
 rw [← hn1] at hx1 hC1
 have HG := Aside0.mk (fun (W : World) => grow.calls n2 (by omega) W)
 have X0 := Aside0.mk (fun (W : World) (hW : Below w.heap.size w W) => (hW.cell (p := ⟨b, 0, none⟩) hb).trans hx0)
 have X1 := Aside0.mk (fun (W : World) (hW : Below w.heap.size w W) => (hW.cell (p := ⟨b, 1, none⟩) hb).trans hx1)
 have HC0 := Aside0.mk (fun (W : World) (hW : Below w.heap.size w W) => Kd.C_below hC0 hW)
 have HC1 := Aside0.mk (fun (W : World) (hW : Below w.heap.size w W) => Kd.C_below hC1 hW)
 have hap : ∀ (W : World) (A : Option Addr) (n : Nat) (xs : List S35), Kd.C k35 W A n xs → ReadsRow (k35.K W) k35.sz W A n xs := fun W A n xs h => h
 have hKM : ∀ (W : World) (base : Nat) (x : S35) (cs : List Value), k35.K W x cs → k35.M W base (fun _ => False) x cs := fun W base x cs h => by obtain rfl := k35_open h; exact k35_mkM _ _ _ x
 have F0 : decide ((n0 : Int) < 0) = false := decide_eq_false (by omega)
 have F0' : ((n0 : Int) < 0) = False := eq_false (by omega)
 have F2 : decide ((n2 : Int) < 0) = false := decide_eq_false (by omega)
 have F2' : ((n2 : Int) < 0) = False := eq_false (by omega)
 have hb0 : n0 < 4000000000 := by omega
 have hb2 : n2 < 4000000000 := by omega
 have E0 := w64z n0 hb0
 have E0' := (i64_w _).trans E0
 have E0z := w64s n0 hb0
 have E0y := (i64_w _).trans E0z
 have E1 := w64p n0 n1 n2 hn2 hb2
 have E1' := (i64_w _).trans E1
 clear hb0 hb2
 have HL := Aside0.mk (And.intro hl0 (And.intro hl1 (And.intro hn0 (And.intro hn1 hcat))))
 have HBB := Aside0.mk hb
 clear hx0 hx1 hC0 hC1 hl0 hl1 hn0 hn1 hn2 hcat hb
 go_enter Tryd.func18, Tryd.ntmps18
 go_wp2
 go_loopw [11, 3] (fun v11 v3 wr => (v11 = .int .i64 0 ∧ v3 = .int .i64 0 ∧ wr = w) ∨ (v11 = .int .i64 1 ∧ v3 = .int .i64 n0 ∧ wr = w) ∨ (v11 = .int .i64 2 ∧ v3 = .int .i64 n2 ∧ wr = w)) (fun v11 _ _ => (2 - intOf v11).toNat)
 case atStart => exact .inl ⟨rfl, rfl, rfl⟩
 case' round =>
  have x0 := X0.out _ (Below.refl _ _)
  have x1 := X1.out _ (Below.refl _ _)
  obtain (⟨rfl, rfl, rfl⟩ | ⟨rfl, rfl, rfl⟩ | ⟨rfl, rfl, rfl⟩) := hrel
  ·go_wp2
   go_roundw
   case rel => exact .inr (.inl ⟨rfl, rfl, by first | rfl | trivial⟩)
   case measure => simp only [intOf]; omega
  ·go_wp2
   go_roundw
   case rel => exact .inr (.inr ⟨rfl, rfl, by first | rfl | trivial⟩)
   case measure => simp only [intOf]; omega
 clear E0 E0' E0z E0y E1 E1' F0 F0' F2 F2'
 go_wp2_with (go_at_call 37; refine (HG.out _).mono ?_; rintro e w1 ⟨v, rfl, h1, hb1⟩)
 go_loopw [27, 6] (fun v27 v6 wq => (v27 = .int .i64 0 ∧ Aside (Kd.R k35 35 wq wr.heap.size (fun _ => True) v6 []) ∧ Aside (Below wr.heap.size wr wq)) ∨ (v27 = .int .i64 1 ∧ Aside (Kd.R k35 35 wq wr.heap.size (fun _ => True) v6 l0) ∧ Aside (Below wr.heap.size wr wq)) ∨ (v27 = .int .i64 2 ∧ Aside (Kd.R k35 35 wq wr.heap.size (fun _ => True) v6 (l0 ++ l1)) ∧ Aside (Below wr.heap.size wr wq))) (fun v27 _ _ => (2 - intOf v27).toNat)
 case atStart => exact .inl ⟨rfl, h1, hb1⟩
 case round =>
  obtain (⟨rfl, HR, HB⟩ | ⟨rfl, HR, HB⟩ | ⟨rfl, HR, HB⟩) := hrel
  ·have y0 := X0.out _ HB.out
   go_wp2_with (at_builtin; refine Kd.R_append_rows k35 _ rfl (.tmp 31) (.tmp 32) 22 35 _ 32 rfl hu info35 rfl (by decide) (by decide) _ [] l0 A0 n0 c0 (fun _ => True) (fun _ => False) rfl rfl HR.out (HC0.out _ HB.out) (hKM _ _) (fun _ h => h.elim) (fun _ _ => trivial) HB.out HB.out.size (by have := HL.out; (try simp only [List.length_nil]); omega) ?_)
   intro v1 w1 h1 hb1 hg hat
   clear hg hat
   go_wp2
   go_roundw
   case rel => exact .inr (.inl ⟨rfl, h1, hb1⟩)
   case measure => simp only [intOf]; omega
  ·have y1 := X1.out _ HB.out
   go_wp2_with (at_builtin; refine Kd.R_append_rows k35 _ rfl (.tmp 31) (.tmp 32) 22 35 _ 32 rfl hu info35 rfl (by decide) (by decide) _ l0 l1 A1 n1 c1 (fun _ => True) (fun _ => False) rfl rfl HR.out (HC1.out _ HB.out) (hKM _ _) (fun _ h => h.elim) (fun _ _ => trivial) HB.out HB.out.size (by have := HL.out; (try simp only [List.length_nil]); omega) ?_)
   intro v1 w1 h1 hb1 hg hat
   clear hg hat
   go_wp2
   go_roundw
   case rel => exact .inr (.inr ⟨rfl, h1, hb1⟩)
   case measure => simp only [intOf]; omega
  ·go_wp2
   go_ret
   exact ⟨_, rfl, HR.out, HB.out⟩

/-! ### schema_Merge: function 7, by hand -/
def schema_Merge.go (l0 : List S35) : List S35 → Option Bool
 | [] => some false
 | x :: xs => (schema_Find.f l0 x.f0).bind fun t => if t.2.2.2 = true then some true else schema_Merge.go l0 xs
def schema_Merge.f (k : Nat) (l0 : List S35) (l1 : List S35) : Option ((List (S35)) × Int) := (schema_Check.f k l0).bind fun a => if a = true then (schema_Check.f k l1).bind fun b => if b = true then (schema_Merge.go l0 l1).bind fun c => if c = true then some ([], 9) else if l0.length + l1.length ≤ 1000 then schema_Sort.f k (l0 ++ l1) else none else some ([], 1) else some ([], 1)
theorem schema_Merge.mono : ∀ a0 a1 k, LeO (schema_Merge.f k a0 a1) (schema_Merge.f (k + 1) a0 a1) := by
 intro a0 a1 k
 unfold schema_Merge.f
 repeat' first
  | (with_reducible exact LeO.refl _)
  | (with_reducible exact LeO.none _)
  | (with_reducible exact schema_Check.mono _ _)
  | (with_reducible exact schema_Sort.mono _ _)
  | (with_reducible refine LeO.ite ?_ ?_)
  | (with_reducible refine LeO.bind ?_ (fun _ => ?_))
set_option maxHeartbeats 8000000 in
set_option maxRecDepth 100000 in
theorem schema_Merge.calls (k : Nat) (A0 : Option Addr) (c0 : Nat) (l0 : List (S35)) (A1 : Option Addr) (c1 : Nat) (l1 : List (S35)) (r1 : List (S35)) (r2 : Int) (w : World) (hr0 : Kd.C k35 w A0 l0.length l0) (hc0 : l0.length ≤ c0) (hr1 : Kd.C k35 w A1 l1.length l1) (hc1 : l1.length ≤ c1) (hT : Tabs w) (h : schema_Merge.f k l0 l1 = some (r1, r2)) :
  Calls Tryd.prog 7 #[.slice A0 l0.length c0, .slice A1 l1.length c1] w fun e w' => ∃ v0_ : Value, e = .returned (.tuple #[v0_, .int .i64 r2]) ∧ Kd.R k35 35 w' w.heap.size (fun _ => True) v0_ r1 ∧ Below w.heap.size w w' := by
 unfold schema_Merge.f at h
 obtain ⟨a, ha, h⟩ := Option.bind_eq_some_iff.1 h
 have cA := fun W (hb : Below w.heap.size w W) => schema_Check.calls k A0 c0 l0 a W (Kd.C_below hr0 hb) hc0 (hT.below hb) ha
 cases a with
 | false =>
  rw [if_neg (by decide)] at h
  have h := Option.some.inj h
  simp only [Prod.mk.injEq] at h
  obtain ⟨rfl, rfl⟩ := h
  clear hr0 hr1 hT
  go_enter Tryd.func7, Tryd.ntmps7
  go_wp2_with (go_at_call 15; refine (cA _ (Below.refl _ _)).mono ?_; rintro e w1 ⟨rfl, hb1⟩)
  go_ret2
  exact ⟨_, rfl, Kd.R_nil _ _ _ _ _, hb1⟩
 | true =>
  rw [if_pos rfl] at h
  obtain ⟨b, hb, h⟩ := Option.bind_eq_some_iff.1 h
  have cB := fun W (hw : Below w.heap.size w W) => schema_Check.calls k A1 c1 l1 b W (Kd.C_below hr1 hw) hc1 (hT.below hw) hb
  clear hb
  cases b with
  | false =>
   rw [if_neg (by decide)] at h
   have h := Option.some.inj h
   simp only [Prod.mk.injEq] at h
   obtain ⟨rfl, rfl⟩ := h
   clear hr0 hr1 hT
   go_enter Tryd.func7, Tryd.ntmps7
   go_wp2_with (first | (go_at_call_of 15 (Value.slice A0 l0.length c0); refine (cA _ (Below.refl _ _)).mono ?_; rintro e w1 ⟨rfl, hb1⟩) | (go_at_call_of 15 (Value.slice A1 l1.length c1); refine (cB _ hb1).mono ?_; rintro e w2 ⟨rfl, hb2⟩; have hB2 := hb1.trans (hb2.mono hb1.size)))
   go_ret2
   exact ⟨_, rfl, Kd.R_nil _ _ _ _ _, hB2⟩
  | true =>
   rw [if_pos rfl] at h
   obtain ⟨q, hq, h⟩ := Option.bind_eq_some_iff.1 h
   have HTT : q = true → r1 = [] ∧ r2 = 9 := fun e => by
    rw [if_pos e] at h
    have h := Option.some.inj h
    simp only [Prod.mk.injEq] at h
    exact ⟨h.1.symm, h.2.symm⟩
   have HSS : q = false → (l0.length + l1.length ≤ 1000 ∧ ∀ (A : Option Addr) (c : Nat) W, Below w.heap.size w W → Kd.C k35 W A (l0 ++ l1).length (l0 ++ l1) → (l0 ++ l1).length ≤ c → Calls Tryd.prog 17 #[.slice A (l0 ++ l1).length c] W fun e w' => ∃ v0_ : Value, e = .returned (.tuple #[v0_, .int .i64 r2]) ∧ Kd.R k35 35 w' W.heap.size (fun _ => True) v0_ r1 ∧ Below W.heap.size W w') := fun e => by
    subst e
    rw [if_neg (by decide)] at h
    by_cases hl : l0.length + l1.length ≤ 1000
    ·rw [if_pos hl] at h
     exact ⟨hl, fun A c W hW hC hc => schema_Sort.calls k A c (l0 ++ l1) r1 r2 W hC hc (hT.below hW) h⟩
    ·rw [if_neg hl] at h; cases h
   have HTT := Aside0.mk HTT
   have HSS := Aside0.mk HSS
   have HQ := Aside0.mk hq
   have HX := Aside0.mk (And.intro hr0 hr1)
   have cF := fun W (hw : Below w.heap.size w W) (s : ByteArray) (t1 : ByteArray) (t2 : Int) (t3 t4 : Bool) (hf : schema_Find.f l0 s = some (t1, t2, t3, t4)) => (schema_Find.calls A0 c0 l0 s t1 t2 t3 t4 W (Kd.C_below hr0 hw) hc0 (hT.below hw) hf).mono fun e w' hp => (⟨hp.1, hw.trans (hp.2.mono hw.size)⟩ : _ ∧ Below w.heap.size w w')
   have hA := fun (i : Int) (h0 : 0 ≤ i) (h1 : i < (l1.length : Int)) W (hW : Below w.heap.size w W) => at_T35 (Kd.C_below hr1 hW) i h0 h1
   have hll : l1.length ≤ 9223372036854775807 := hr1.2.1
   clear hq hT hr0 hr1 ha h
   go_enter Tryd.func7, Tryd.ntmps7
   go_wp2_with (first | (go_at_call_of 15 (Value.slice A0 l0.length c0); refine (cA _ (Below.refl _ _)).mono ?_; rintro e w1 ⟨rfl, hb1⟩) | (go_at_call_of 15 (Value.slice A1 l1.length c1); refine (cB _ hb1).mono ?_; rintro e w2 ⟨rfl, hb2⟩; have hB2 := hb1.trans (hb2.mono hb1.size)))
   go_loopg [20] l1.length (fun gg v20 wr => ∃ kk : Nat, kk ≤ l1.length ∧ l1.length - kk ≤ gg ∧ v20 = .int .i64 kk ∧ Aside (Below w.heap.size w wr) ∧ Aside (schema_Merge.go l0 (l1.drop kk) = some q))
   case atStart => exact ⟨0, Nat.zero_le _, by omega, rfl, hB2, by have := HQ.out; exact this⟩
   case round =>
    obtain ⟨kk, hkk, hg, rfl, BW, A⟩ := hrel
    by_cases hlt : kk < l1.length
    ·have hltz : (kk : Int) < (l1.length : Int) := by omega
     have hgo := A.out
     rw [List.drop_eq_getElem_cons hlt, schema_Merge.go] at hgo
     obtain ⟨⟨t1, t2, t3, t4⟩, ht, hgo⟩ := Option.bind_eq_some_iff.1 hgo
     have hx := hA kk (by omega) hltz wr BW.out
     have hrd : rd_T35 l1 (kk : Int) = l1[kk] := by
      unfold rd_T35
      rw [Int.toNat_natCast, List.getD_eq_getElem?_getD, List.getElem?_eq_getElem hlt]; rfl
     rw [hrd] at hx
     generalize l1[kk] = y at hx ht hrd
     obtain ⟨ad, rfl, x0, x1, x2⟩ := hx
     have cG := fun W hw => cF W hw y.f0 t1 t2 t3 t4 ht
     clear cF ht hrd hA cA cB
     rw [Int.toNat_natCast] at x0 x1 x2
     have hBW := BW.out
     have hpos : (0 : Int) ≤ (kk : Int) := by omega
     cases t4 with
     | true =>
      rw [if_pos rfl] at hgo
      obtain ⟨rfl, rfl⟩ := HTT.out (Option.some.inj hgo).symm
      clear hgo A BW
      go_wp2_with (go_at_call 16; refine (cG _ (by repeat (first | exact hBW | apply below_alloc | refine below_set ?_ hBW.size))).mono ?_; rintro e w3 ⟨rfl, hB3⟩)
      go_ret2
      exact ⟨_, rfl, Kd.R_nil _ _ _ _ _, by repeat (first | exact hB3 | apply below_alloc | refine below_set ?_ hB3.size)⟩
     | false =>
      replace hgo : schema_Merge.go l0 (l1.drop (kk + 1)) = some q := hgo
      have HG := Aside0.mk hgo
      clear hgo A BW
      go_wp2_with (go_at_call 16; refine (cG _ (by repeat (first | exact hBW | apply below_alloc | refine below_set ?_ hBW.size))).mono ?_; rintro e w3 ⟨rfl, hB3⟩)
      go_roundg (l1.length - (kk + 1))
      case measure => omega
      case rel => exact ⟨kk + 1, by omega, by omega, by go_num, (by repeat (first | exact hB3 | apply below_alloc | refine below_set ?_ hB3.size)), HG.out⟩
    ·have hltz : ¬ (kk : Int) < (l1.length : Int) := by omega
     have hA := A.out
     rw [List.drop_of_length_le (by omega), schema_Merge.go] at hA
     obtain ⟨hl, cS⟩ := HSS.out (Option.some.inj hA).symm
     have hB0 := BW.out
     have hB1 : Below w.heap.size w (wr.alloc (.cells #[.slice A0 l0.length c0, .slice A1 l1.length c1] 22)) := hB0.alloc hB0.size _
     have cK := concat2.calls wr.heap.size A0 c0 l0 A1 c1 l1 (wr.alloc (.cells #[.slice A0 l0.length c0, .slice A1 l1.length c1] 22)) (by simp) ((Lib.cell_of_heap (heap_alloc_new wr _) 0).trans rfl) ((Lib.cell_of_heap (heap_alloc_new wr _) 1).trans rfl) (Kd.C_below HX.out.1 hB1) (Kd.C_below HX.out.2 hB1) (by omega) (by omega)
     obtain ⟨l2, hl2⟩ : ∃ l2, l2 = l0 ++ l1 := ⟨_, rfl⟩
     rw [← hl2] at cK cS
     have CS := Aside0.mk cS
     have HK := Aside0.mk hB1
     clear A BW hA cS hl hl2
     go_wp2_with (first | (go_at_call 18; refine cK.mono ?_; rintro e w3 ⟨v, rfl, hR3, hb3⟩; obtain ⟨A3, c3, rfl, hc3, hC3⟩ := Kd.R_reads hR3; have hB3 := HK.out.trans (hb3.mono HK.out.size)) | (go_at_call 17; refine (CS.out _ _ _ hB3 hC3 hc3).mono ?_; rintro e w4 ⟨v4, rfl, hR4, hb4⟩))
     go_ret2
     exact ⟨_, rfl, Kd.R_lower hR4 hB3.size, hB3.trans (hb4.mono hB3.size)⟩

/-! ### utf8_ValidString: function 49, by hand -/
def utf8_ValidString.f (a0 : ByteArray) : Option Bool := if a0.size ≤ 9223372036854775807 then some (Lib.validD a0.data.toList) else none
theorem utf8_ValidString.calls (a0 : ByteArray) (r : Bool) (w : World) (hT : Tabs w) (h : utf8_ValidString.f a0 = some r) :
  Calls Tryd.prog 49 #[.string a0] w fun e w' => e = .returned (.bool r) ∧ Below w.heap.size w w' := by
 unfold utf8_ValidString.f at h
 split at h
 ·rename_i hs
  obtain rfl := Option.some.inj h
  exact Tryd.utf8_ValidString a0 w hs hT.u8
 ·cases h

/-! ### value_Check: function 39 -/
def value_Check.f (a0_0 : Int) (a0_1 : Int) (a0_2 : ByteArray) : Option (Bool) := if a0_0 = 1 then (if a0_1 ≥ (-9007199254740991) then (if a0_1 ≤ 9007199254740991 then (some (a0_2.toList == ([] : List UInt8))) else (some false)) else (some false)) else (if a0_0 = 2 then (if a0_1 = 0 then (if (a0_2.size : Int) ≤ 200 then ((utf8_ValidString.f a0_2).bind fun t147 => (some t147)) else (some false)) else (some false)) else (if a0_0 = 3 then (if a0_1 = 0 then (some (a0_2.toList == ([] : List UInt8))) else (if a0_1 = 1 then (some (a0_2.toList == ([] : List UInt8))) else (some false))) else (if a0_0 = 4 then (if a0_1 = 0 then (some (decide ((a0_2.size : Int) ≤ 200))) else (some false)) else (some false))))
set_option maxHeartbeats 8000000 in
set_option maxRecDepth 100000 in
theorem value_Check.calls (a0_0 : Int) (a0_1 : Int) (a0_2 : ByteArray) (r : Bool) (w : World) (hT : Tabs w) (h : value_Check.f a0_0 a0_1 a0_2 = some r) :
  Calls Tryd.prog 39 #[.agg #[.int .i64 a0_0, .int .i64 a0_1, .string a0_2]] w fun e w' => e = .returned (.bool r) ∧ Below w.heap.size w w' := by
 have hu39 := Tryd.underlying39
 have HB := Aside0.mk (Below.refl w.heap.size w)
 have H : (if a0_0 = 1 then (if a0_1 ≥ (-9007199254740991) then (if a0_1 ≤ 9007199254740991 then (some (a0_2.toList == ([] : List UInt8))) else (some false)) else (some false)) else (if a0_0 = 2 then (if a0_1 = 0 then (if (a0_2.size : Int) ≤ 200 then ((utf8_ValidString.f a0_2).bind fun t147 => (some t147)) else (some false)) else (some false)) else (if a0_0 = 3 then (if a0_1 = 0 then (some (a0_2.toList == ([] : List UInt8))) else (if a0_1 = 1 then (some (a0_2.toList == ([] : List UInt8))) else (some false))) else (if a0_0 = 4 then (if a0_1 = 0 then (some (decide ((a0_2.size : Int) ≤ 200))) else (some false)) else (some false))))) = some r := h
 clear h
 have HT := Aside0.mk hT
 clear hT
 by_cases c2 : a0_0 = 1
 ·rw [if_pos c2] at H
  have c2b0 : (a0_0 == 1) = true := beq_iff_eq.mpr c2
  have c2b1 : (a0_0 != 1) = false := bne_eq_false_iff_eq.mpr c2
  clear c2
  by_cases c3 : a0_1 ≥ (-9007199254740991)
  ·rw [if_pos c3] at H
   have c3b0 : decide ((-9007199254740991) ≤ a0_1) = true := decide_eq_true c3
   clear c3
   by_cases c4 : a0_1 ≤ 9007199254740991
   ·rw [if_pos c4] at H
    have c4b0 : decide (a0_1 ≤ 9007199254740991) = true := decide_eq_true c4
    clear c4
    obtain rfl := Option.some.inj H
    go_enter Tryd.func39, Tryd.ntmps39
    go_wp2_with (first | ((with_reducible refine gate_dst (N := 1) rfl ?_); (try (refine gate_guard (by rfl) ?_; dsimp only)); refine box_event ?hg (N := 1) ?hd (cs := #[.int .i64 a0_0, .int .i64 a0_1, .string a0_2]) (t := 39) ?hr ?_; (case hd => rfl); (case hg => rfl); (case hr => first | (go_simp; done) | (go_simp; rfl)); intro gb146 hg w5 hbox hb; have n0_ := Aside0.mk (below_step (bwA) hb); have n1_ := Aside0.mk (hbox); have n2_ := Aside0.mk ((by rw [hg]; exact (below_size (bwA)) : w.heap.size ≤ gb146)); have n3_ := Aside0.mk ((by rw [hg]; exact (below_size (bwA)) : w.heap.size ≤ gb146)); clear HB; have HB := n0_; have BK146 := n1_; have GW146 := n2_; have GE146 := n3_; clear n0_ n1_ n2_ n3_; clear hb hbox hg; have hcz6_0 : w5.cell? ⟨gb146, 0, none⟩ = some (.int .i64 a0_0) := (blk_cell BK146.out 0).trans rfl; have hcz6_1 : w5.cell? ⟨gb146, 1, none⟩ = some (.int .i64 a0_1) := (blk_cell BK146.out 1).trans rfl; have hcz6_2 : w5.cell? ⟨gb146, 2, none⟩ = some (.string a0_2) := (blk_cell BK146.out 2).trans rfl; have hfz6_0 := blk_frozen BK146.out 0; have hfz6_1 := blk_frozen BK146.out 1; have hfz6_2 := blk_frozen BK146.out 2))
    go_ret
    exact ⟨endA, bwA⟩
   ·rw [if_neg c4] at H
    have c4b0 : decide (a0_1 ≤ 9007199254740991) = false := decide_eq_false c4
    clear c4
    obtain rfl := Option.some.inj H
    go_enter Tryd.func39, Tryd.ntmps39
    go_wp2_with (first | ((with_reducible refine gate_dst (N := 1) rfl ?_); (try (refine gate_guard (by rfl) ?_; dsimp only)); refine box_event ?hg (N := 1) ?hd (cs := #[.int .i64 a0_0, .int .i64 a0_1, .string a0_2]) (t := 39) ?hr ?_; (case hd => rfl); (case hg => rfl); (case hr => first | (go_simp; done) | (go_simp; rfl)); intro gb146 hg w7 hbox hb; have n0_ := Aside0.mk (below_step (bwA) hb); have n1_ := Aside0.mk (hbox); have n2_ := Aside0.mk ((by rw [hg]; exact (below_size (bwA)) : w.heap.size ≤ gb146)); have n3_ := Aside0.mk ((by rw [hg]; exact (below_size (bwA)) : w.heap.size ≤ gb146)); clear HB; have HB := n0_; have BK146 := n1_; have GW146 := n2_; have GE146 := n3_; clear n0_ n1_ n2_ n3_; clear hb hbox hg; have hcz8_0 : w7.cell? ⟨gb146, 0, none⟩ = some (.int .i64 a0_0) := (blk_cell BK146.out 0).trans rfl; have hcz8_1 : w7.cell? ⟨gb146, 1, none⟩ = some (.int .i64 a0_1) := (blk_cell BK146.out 1).trans rfl; have hcz8_2 : w7.cell? ⟨gb146, 2, none⟩ = some (.string a0_2) := (blk_cell BK146.out 2).trans rfl; have hfz8_0 := blk_frozen BK146.out 0; have hfz8_1 := blk_frozen BK146.out 1; have hfz8_2 := blk_frozen BK146.out 2))
    go_ret
    exact ⟨endA, bwA⟩
  ·rw [if_neg c3] at H
   have c3b0 : decide ((-9007199254740991) ≤ a0_1) = false := decide_eq_false c3
   clear c3
   obtain rfl := Option.some.inj H
   go_enter Tryd.func39, Tryd.ntmps39
   go_wp2_with (first | ((with_reducible refine gate_dst (N := 1) rfl ?_); (try (refine gate_guard (by rfl) ?_; dsimp only)); refine box_event ?hg (N := 1) ?hd (cs := #[.int .i64 a0_0, .int .i64 a0_1, .string a0_2]) (t := 39) ?hr ?_; (case hd => rfl); (case hg => rfl); (case hr => first | (go_simp; done) | (go_simp; rfl)); intro gb146 hg w9 hbox hb; have n0_ := Aside0.mk (below_step (bwA) hb); have n1_ := Aside0.mk (hbox); have n2_ := Aside0.mk ((by rw [hg]; exact (below_size (bwA)) : w.heap.size ≤ gb146)); have n3_ := Aside0.mk ((by rw [hg]; exact (below_size (bwA)) : w.heap.size ≤ gb146)); clear HB; have HB := n0_; have BK146 := n1_; have GW146 := n2_; have GE146 := n3_; clear n0_ n1_ n2_ n3_; clear hb hbox hg; have hcz10_0 : w9.cell? ⟨gb146, 0, none⟩ = some (.int .i64 a0_0) := (blk_cell BK146.out 0).trans rfl; have hcz10_1 : w9.cell? ⟨gb146, 1, none⟩ = some (.int .i64 a0_1) := (blk_cell BK146.out 1).trans rfl; have hcz10_2 : w9.cell? ⟨gb146, 2, none⟩ = some (.string a0_2) := (blk_cell BK146.out 2).trans rfl; have hfz10_0 := blk_frozen BK146.out 0; have hfz10_1 := blk_frozen BK146.out 1; have hfz10_2 := blk_frozen BK146.out 2))
   go_ret
   exact ⟨endA, bwA⟩
 ·rw [if_neg c2] at H
  have c2b0 : (a0_0 == 1) = false := beq_eq_false_iff_ne.mpr c2
  have c2b1 : (a0_0 != 1) = true := bne_iff_ne.mpr c2
  by_cases c11 : a0_0 = 2
  ·rw [if_pos c11] at H
   have c11b0 : (a0_0 == 2) = true := beq_iff_eq.mpr c11
   have c11b1 : (a0_0 != 2) = false := bne_eq_false_iff_eq.mpr c11
   clear c11
   by_cases c12 : a0_1 = 0
   ·rw [if_pos c12] at H
    have c12b0 : (a0_1 == 0) = true := beq_iff_eq.mpr c12
    have c12b1 : (a0_1 != 0) = false := bne_eq_false_iff_eq.mpr c12
    clear c12
    by_cases c13 : (a0_2.size : Int) ≤ 200
    ·rw [if_pos c13] at H
     have c13b0 : decide ((a0_2.size : Int) ≤ 200) = true := decide_eq_true c13
     have c13b1 : decide (a0_2.size ≤ 200) = true := decide_eq_true (by omega)
     clear c13
     replace H := Option.bind_eq_some_iff.mp H
     obtain ⟨t147, A140, H⟩ := H
     replace H : (some t147) = some r := H
     have A14 := Aside0.mk A140
     clear A140
     obtain rfl := Option.some.inj H
     go_enter Tryd.func39, Tryd.ntmps39
     go_wp2_with (first | ((with_reducible refine gate_dst (N := 1) rfl ?_); (try (refine gate_guard (by rfl) ?_; dsimp only)); refine box_event ?hg (N := 1) ?hd (cs := #[.int .i64 a0_0, .int .i64 a0_1, .string a0_2]) (t := 39) ?hr ?_; (case hd => rfl); (case hg => rfl); (case hr => first | (go_simp; done) | (go_simp; rfl)); intro gb146 hg w15 hbox hb; have n0_ := Aside0.mk (below_step (bwA) hb); have n1_ := Aside0.mk (hbox); have n2_ := Aside0.mk ((by rw [hg]; exact (below_size (bwA)) : w.heap.size ≤ gb146)); have n3_ := Aside0.mk ((by rw [hg]; exact (below_size (bwA)) : w.heap.size ≤ gb146)); clear HB; have HB := n0_; have BK146 := n1_; have GW146 := n2_; have GE146 := n3_; clear n0_ n1_ n2_ n3_; clear hb hbox hg; have hcz16_0 : w15.cell? ⟨gb146, 0, none⟩ = some (.int .i64 a0_0) := (blk_cell BK146.out 0).trans rfl; have hcz16_1 : w15.cell? ⟨gb146, 1, none⟩ = some (.int .i64 a0_1) := (blk_cell BK146.out 1).trans rfl; have hcz16_2 : w15.cell? ⟨gb146, 2, none⟩ = some (.string a0_2) := (blk_cell BK146.out 2).trans rfl; have hfz16_0 := blk_frozen BK146.out 0; have hfz16_1 := blk_frozen BK146.out 1; have hfz16_2 := blk_frozen BK146.out 2) | (go_at_call 49; (with_reducible refine (utf8_ValidString.calls a0_2 t147 _ ?side1 A14.out).mono ?_); (case side1 => exact Tabs.below HT.out (bwA)); rintro e w17 ⟨rfl, hb⟩; have n0_ := Aside0.mk (blk_below (g := gb146) (o := .cells #[.int .i64 a0_0, .int .i64 a0_1, .string a0_2] 39 (0, 0)) blkA hb); have n1_ := Aside0.mk (below_step (bwA) hb); clear BK146; clear HB; have BK146 := n0_; have HB := n1_; clear n0_ n1_; (try clear hb); (try clear hb2); (try clear hk); (try clear hi)))
     go_ret
     exact ⟨endA, bwA⟩
    ·rw [if_neg c13] at H
     have c13b0 : decide ((a0_2.size : Int) ≤ 200) = false := decide_eq_false c13
     have c13b1 : decide (a0_2.size ≤ 200) = false := decide_eq_false (by omega)
     clear c13
     obtain rfl := Option.some.inj H
     go_enter Tryd.func39, Tryd.ntmps39
     go_wp2_with (first | ((with_reducible refine gate_dst (N := 1) rfl ?_); (try (refine gate_guard (by rfl) ?_; dsimp only)); refine box_event ?hg (N := 1) ?hd (cs := #[.int .i64 a0_0, .int .i64 a0_1, .string a0_2]) (t := 39) ?hr ?_; (case hd => rfl); (case hg => rfl); (case hr => first | (go_simp; done) | (go_simp; rfl)); intro gb146 hg w18 hbox hb; have n0_ := Aside0.mk (below_step (bwA) hb); have n1_ := Aside0.mk (hbox); have n2_ := Aside0.mk ((by rw [hg]; exact (below_size (bwA)) : w.heap.size ≤ gb146)); have n3_ := Aside0.mk ((by rw [hg]; exact (below_size (bwA)) : w.heap.size ≤ gb146)); clear HB; have HB := n0_; have BK146 := n1_; have GW146 := n2_; have GE146 := n3_; clear n0_ n1_ n2_ n3_; clear hb hbox hg; have hcz19_0 : w18.cell? ⟨gb146, 0, none⟩ = some (.int .i64 a0_0) := (blk_cell BK146.out 0).trans rfl; have hcz19_1 : w18.cell? ⟨gb146, 1, none⟩ = some (.int .i64 a0_1) := (blk_cell BK146.out 1).trans rfl; have hcz19_2 : w18.cell? ⟨gb146, 2, none⟩ = some (.string a0_2) := (blk_cell BK146.out 2).trans rfl; have hfz19_0 := blk_frozen BK146.out 0; have hfz19_1 := blk_frozen BK146.out 1; have hfz19_2 := blk_frozen BK146.out 2))
     go_ret
     exact ⟨endA, bwA⟩
   ·rw [if_neg c12] at H
    have c12b0 : (a0_1 == 0) = false := beq_eq_false_iff_ne.mpr c12
    have c12b1 : (a0_1 != 0) = true := bne_iff_ne.mpr c12
    obtain rfl := Option.some.inj H
    go_enter Tryd.func39, Tryd.ntmps39
    go_wp2_with (first | ((with_reducible refine gate_dst (N := 1) rfl ?_); (try (refine gate_guard (by rfl) ?_; dsimp only)); refine box_event ?hg (N := 1) ?hd (cs := #[.int .i64 a0_0, .int .i64 a0_1, .string a0_2]) (t := 39) ?hr ?_; (case hd => rfl); (case hg => rfl); (case hr => first | (go_simp; done) | (go_simp; rfl)); intro gb146 hg w20 hbox hb; have n0_ := Aside0.mk (below_step (bwA) hb); have n1_ := Aside0.mk (hbox); have n2_ := Aside0.mk ((by rw [hg]; exact (below_size (bwA)) : w.heap.size ≤ gb146)); have n3_ := Aside0.mk ((by rw [hg]; exact (below_size (bwA)) : w.heap.size ≤ gb146)); clear HB; have HB := n0_; have BK146 := n1_; have GW146 := n2_; have GE146 := n3_; clear n0_ n1_ n2_ n3_; clear hb hbox hg; have hcz21_0 : w20.cell? ⟨gb146, 0, none⟩ = some (.int .i64 a0_0) := (blk_cell BK146.out 0).trans rfl; have hcz21_1 : w20.cell? ⟨gb146, 1, none⟩ = some (.int .i64 a0_1) := (blk_cell BK146.out 1).trans rfl; have hcz21_2 : w20.cell? ⟨gb146, 2, none⟩ = some (.string a0_2) := (blk_cell BK146.out 2).trans rfl; have hfz21_0 := blk_frozen BK146.out 0; have hfz21_1 := blk_frozen BK146.out 1; have hfz21_2 := blk_frozen BK146.out 2))
    go_ret
    exact ⟨endA, bwA⟩
  ·rw [if_neg c11] at H
   have c11b0 : (a0_0 == 2) = false := beq_eq_false_iff_ne.mpr c11
   have c11b1 : (a0_0 != 2) = true := bne_iff_ne.mpr c11
   by_cases c22 : a0_0 = 3
   ·rw [if_pos c22] at H
    have c22b0 : (a0_0 == 3) = true := beq_iff_eq.mpr c22
    have c22b1 : (a0_0 != 3) = false := bne_eq_false_iff_eq.mpr c22
    clear c22
    by_cases c23 : a0_1 = 0
    ·rw [if_pos c23] at H
     have c23b0 : (a0_1 == 0) = true := beq_iff_eq.mpr c23
     have c23b1 : (a0_1 != 0) = false := bne_eq_false_iff_eq.mpr c23
     clear c23
     obtain rfl := Option.some.inj H
     go_enter Tryd.func39, Tryd.ntmps39
     go_wp2_with (first | ((with_reducible refine gate_dst (N := 1) rfl ?_); (try (refine gate_guard (by rfl) ?_; dsimp only)); refine box_event ?hg (N := 1) ?hd (cs := #[.int .i64 a0_0, .int .i64 a0_1, .string a0_2]) (t := 39) ?hr ?_; (case hd => rfl); (case hg => rfl); (case hr => first | (go_simp; done) | (go_simp; rfl)); intro gb146 hg w24 hbox hb; have n0_ := Aside0.mk (below_step (bwA) hb); have n1_ := Aside0.mk (hbox); have n2_ := Aside0.mk ((by rw [hg]; exact (below_size (bwA)) : w.heap.size ≤ gb146)); have n3_ := Aside0.mk ((by rw [hg]; exact (below_size (bwA)) : w.heap.size ≤ gb146)); clear HB; have HB := n0_; have BK146 := n1_; have GW146 := n2_; have GE146 := n3_; clear n0_ n1_ n2_ n3_; clear hb hbox hg; have hcz25_0 : w24.cell? ⟨gb146, 0, none⟩ = some (.int .i64 a0_0) := (blk_cell BK146.out 0).trans rfl; have hcz25_1 : w24.cell? ⟨gb146, 1, none⟩ = some (.int .i64 a0_1) := (blk_cell BK146.out 1).trans rfl; have hcz25_2 : w24.cell? ⟨gb146, 2, none⟩ = some (.string a0_2) := (blk_cell BK146.out 2).trans rfl; have hfz25_0 := blk_frozen BK146.out 0; have hfz25_1 := blk_frozen BK146.out 1; have hfz25_2 := blk_frozen BK146.out 2))
     go_ret
     exact ⟨endA, bwA⟩
    ·rw [if_neg c23] at H
     have c23b0 : (a0_1 == 0) = false := beq_eq_false_iff_ne.mpr c23
     have c23b1 : (a0_1 != 0) = true := bne_iff_ne.mpr c23
     by_cases c26 : a0_1 = 1
     ·rw [if_pos c26] at H
      have c26b0 : (a0_1 == 1) = true := beq_iff_eq.mpr c26
      have c26b1 : (a0_1 != 1) = false := bne_eq_false_iff_eq.mpr c26
      clear c26
      obtain rfl := Option.some.inj H
      go_enter Tryd.func39, Tryd.ntmps39
      go_wp2_with (first | ((with_reducible refine gate_dst (N := 1) rfl ?_); (try (refine gate_guard (by rfl) ?_; dsimp only)); refine box_event ?hg (N := 1) ?hd (cs := #[.int .i64 a0_0, .int .i64 a0_1, .string a0_2]) (t := 39) ?hr ?_; (case hd => rfl); (case hg => rfl); (case hr => first | (go_simp; done) | (go_simp; rfl)); intro gb146 hg w27 hbox hb; have n0_ := Aside0.mk (below_step (bwA) hb); have n1_ := Aside0.mk (hbox); have n2_ := Aside0.mk ((by rw [hg]; exact (below_size (bwA)) : w.heap.size ≤ gb146)); have n3_ := Aside0.mk ((by rw [hg]; exact (below_size (bwA)) : w.heap.size ≤ gb146)); clear HB; have HB := n0_; have BK146 := n1_; have GW146 := n2_; have GE146 := n3_; clear n0_ n1_ n2_ n3_; clear hb hbox hg; have hcz28_0 : w27.cell? ⟨gb146, 0, none⟩ = some (.int .i64 a0_0) := (blk_cell BK146.out 0).trans rfl; have hcz28_1 : w27.cell? ⟨gb146, 1, none⟩ = some (.int .i64 a0_1) := (blk_cell BK146.out 1).trans rfl; have hcz28_2 : w27.cell? ⟨gb146, 2, none⟩ = some (.string a0_2) := (blk_cell BK146.out 2).trans rfl; have hfz28_0 := blk_frozen BK146.out 0; have hfz28_1 := blk_frozen BK146.out 1; have hfz28_2 := blk_frozen BK146.out 2))
      go_ret
      exact ⟨endA, bwA⟩
     ·rw [if_neg c26] at H
      have c26b0 : (a0_1 == 1) = false := beq_eq_false_iff_ne.mpr c26
      have c26b1 : (a0_1 != 1) = true := bne_iff_ne.mpr c26
      obtain rfl := Option.some.inj H
      go_enter Tryd.func39, Tryd.ntmps39
      go_wp2_with (first | ((with_reducible refine gate_dst (N := 1) rfl ?_); (try (refine gate_guard (by rfl) ?_; dsimp only)); refine box_event ?hg (N := 1) ?hd (cs := #[.int .i64 a0_0, .int .i64 a0_1, .string a0_2]) (t := 39) ?hr ?_; (case hd => rfl); (case hg => rfl); (case hr => first | (go_simp; done) | (go_simp; rfl)); intro gb146 hg w29 hbox hb; have n0_ := Aside0.mk (below_step (bwA) hb); have n1_ := Aside0.mk (hbox); have n2_ := Aside0.mk ((by rw [hg]; exact (below_size (bwA)) : w.heap.size ≤ gb146)); have n3_ := Aside0.mk ((by rw [hg]; exact (below_size (bwA)) : w.heap.size ≤ gb146)); clear HB; have HB := n0_; have BK146 := n1_; have GW146 := n2_; have GE146 := n3_; clear n0_ n1_ n2_ n3_; clear hb hbox hg; have hcz30_0 : w29.cell? ⟨gb146, 0, none⟩ = some (.int .i64 a0_0) := (blk_cell BK146.out 0).trans rfl; have hcz30_1 : w29.cell? ⟨gb146, 1, none⟩ = some (.int .i64 a0_1) := (blk_cell BK146.out 1).trans rfl; have hcz30_2 : w29.cell? ⟨gb146, 2, none⟩ = some (.string a0_2) := (blk_cell BK146.out 2).trans rfl; have hfz30_0 := blk_frozen BK146.out 0; have hfz30_1 := blk_frozen BK146.out 1; have hfz30_2 := blk_frozen BK146.out 2))
      go_ret
      exact ⟨endA, bwA⟩
   ·rw [if_neg c22] at H
    have c22b0 : (a0_0 == 3) = false := beq_eq_false_iff_ne.mpr c22
    have c22b1 : (a0_0 != 3) = true := bne_iff_ne.mpr c22
    by_cases c31 : a0_0 = 4
    ·rw [if_pos c31] at H
     have c31b0 : (a0_0 == 4) = true := beq_iff_eq.mpr c31
     have c31b1 : (a0_0 != 4) = false := bne_eq_false_iff_eq.mpr c31
     clear c31
     by_cases c32 : a0_1 = 0
     ·rw [if_pos c32] at H
      have c32b0 : (a0_1 == 0) = true := beq_iff_eq.mpr c32
      have c32b1 : (a0_1 != 0) = false := bne_eq_false_iff_eq.mpr c32
      clear c32
      obtain rfl := Option.some.inj H
      go_enter Tryd.func39, Tryd.ntmps39
      go_wp2_with (first | ((with_reducible refine gate_dst (N := 1) rfl ?_); (try (refine gate_guard (by rfl) ?_; dsimp only)); refine box_event ?hg (N := 1) ?hd (cs := #[.int .i64 a0_0, .int .i64 a0_1, .string a0_2]) (t := 39) ?hr ?_; (case hd => rfl); (case hg => rfl); (case hr => first | (go_simp; done) | (go_simp; rfl)); intro gb146 hg w33 hbox hb; have n0_ := Aside0.mk (below_step (bwA) hb); have n1_ := Aside0.mk (hbox); have n2_ := Aside0.mk ((by rw [hg]; exact (below_size (bwA)) : w.heap.size ≤ gb146)); have n3_ := Aside0.mk ((by rw [hg]; exact (below_size (bwA)) : w.heap.size ≤ gb146)); clear HB; have HB := n0_; have BK146 := n1_; have GW146 := n2_; have GE146 := n3_; clear n0_ n1_ n2_ n3_; clear hb hbox hg; have hcz34_0 : w33.cell? ⟨gb146, 0, none⟩ = some (.int .i64 a0_0) := (blk_cell BK146.out 0).trans rfl; have hcz34_1 : w33.cell? ⟨gb146, 1, none⟩ = some (.int .i64 a0_1) := (blk_cell BK146.out 1).trans rfl; have hcz34_2 : w33.cell? ⟨gb146, 2, none⟩ = some (.string a0_2) := (blk_cell BK146.out 2).trans rfl; have hfz34_0 := blk_frozen BK146.out 0; have hfz34_1 := blk_frozen BK146.out 1; have hfz34_2 := blk_frozen BK146.out 2))
      go_ret
      exact ⟨endA, bwA⟩
     ·rw [if_neg c32] at H
      have c32b0 : (a0_1 == 0) = false := beq_eq_false_iff_ne.mpr c32
      have c32b1 : (a0_1 != 0) = true := bne_iff_ne.mpr c32
      obtain rfl := Option.some.inj H
      go_enter Tryd.func39, Tryd.ntmps39
      go_wp2_with (first | ((with_reducible refine gate_dst (N := 1) rfl ?_); (try (refine gate_guard (by rfl) ?_; dsimp only)); refine box_event ?hg (N := 1) ?hd (cs := #[.int .i64 a0_0, .int .i64 a0_1, .string a0_2]) (t := 39) ?hr ?_; (case hd => rfl); (case hg => rfl); (case hr => first | (go_simp; done) | (go_simp; rfl)); intro gb146 hg w35 hbox hb; have n0_ := Aside0.mk (below_step (bwA) hb); have n1_ := Aside0.mk (hbox); have n2_ := Aside0.mk ((by rw [hg]; exact (below_size (bwA)) : w.heap.size ≤ gb146)); have n3_ := Aside0.mk ((by rw [hg]; exact (below_size (bwA)) : w.heap.size ≤ gb146)); clear HB; have HB := n0_; have BK146 := n1_; have GW146 := n2_; have GE146 := n3_; clear n0_ n1_ n2_ n3_; clear hb hbox hg; have hcz36_0 : w35.cell? ⟨gb146, 0, none⟩ = some (.int .i64 a0_0) := (blk_cell BK146.out 0).trans rfl; have hcz36_1 : w35.cell? ⟨gb146, 1, none⟩ = some (.int .i64 a0_1) := (blk_cell BK146.out 1).trans rfl; have hcz36_2 : w35.cell? ⟨gb146, 2, none⟩ = some (.string a0_2) := (blk_cell BK146.out 2).trans rfl; have hfz36_0 := blk_frozen BK146.out 0; have hfz36_1 := blk_frozen BK146.out 1; have hfz36_2 := blk_frozen BK146.out 2))
      go_ret
      exact ⟨endA, bwA⟩
    ·rw [if_neg c31] at H
     have c31b0 : (a0_0 == 4) = false := beq_eq_false_iff_ne.mpr c31
     have c31b1 : (a0_0 != 4) = true := bne_iff_ne.mpr c31
     obtain rfl := Option.some.inj H
     go_enter Tryd.func39, Tryd.ntmps39
     go_wp2_with (first | ((with_reducible refine gate_dst (N := 1) rfl ?_); (try (refine gate_guard (by rfl) ?_; dsimp only)); refine box_event ?hg (N := 1) ?hd (cs := #[.int .i64 a0_0, .int .i64 a0_1, .string a0_2]) (t := 39) ?hr ?_; (case hd => rfl); (case hg => rfl); (case hr => first | (go_simp; done) | (go_simp; rfl)); intro gb146 hg w37 hbox hb; have n0_ := Aside0.mk (below_step (bwA) hb); have n1_ := Aside0.mk (hbox); have n2_ := Aside0.mk ((by rw [hg]; exact (below_size (bwA)) : w.heap.size ≤ gb146)); have n3_ := Aside0.mk ((by rw [hg]; exact (below_size (bwA)) : w.heap.size ≤ gb146)); clear HB; have HB := n0_; have BK146 := n1_; have GW146 := n2_; have GE146 := n3_; clear n0_ n1_ n2_ n3_; clear hb hbox hg; have hcz38_0 : w37.cell? ⟨gb146, 0, none⟩ = some (.int .i64 a0_0) := (blk_cell BK146.out 0).trans rfl; have hcz38_1 : w37.cell? ⟨gb146, 1, none⟩ = some (.int .i64 a0_1) := (blk_cell BK146.out 1).trans rfl; have hcz38_2 : w37.cell? ⟨gb146, 2, none⟩ = some (.string a0_2) := (blk_cell BK146.out 2).trans rfl; have hfz38_0 := blk_frozen BK146.out 0; have hfz38_1 := blk_frozen BK146.out 1; have hfz38_2 := blk_frozen BK146.out 2))
     go_ret
     exact ⟨endA, bwA⟩

end Go.Proofs.YtbbfggfiknbdmaaDoor.A
