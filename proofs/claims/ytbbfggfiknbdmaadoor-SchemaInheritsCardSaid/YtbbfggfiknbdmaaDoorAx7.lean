-- By drv.py, the session's own driver round the kit's print: the machine's side of the laws, function by function. Not trusted: Lean checks it.
import Derived.Test.YtbbfggfiknbdmaaDoorAx0
import Derived.Test.YtbbfggfiknbdmaaDoorAx4
namespace Go.Proofs.YtbbfggfiknbdmaaDoor.A
open Go.RowKit Go.Proofs.YtbbfggfiknbdmaaDoorW.PrintWords Go.Proofs.YtbbfggfiknbdmaaDoorW.PrintLast Go.Proofs.YtbbfggfiknbdmaaDoorW.PrintMore
attribute [local go_sem] max2_int min2_int max_two min_two max_three min_three max_four min_four   -- for this text's walks alone
set_option linter.unusedVariables false
set_option linter.unusedSimpArgs false

/-! ### name_Same: function 32 -/
def name_Same.f (a0 : ByteArray) (a1 : ByteArray) : Option (Bool) := (name_Fold.f a0).bind fun t144 => ((name_Fold.f a1).bind fun t145 => (some (t144.toList == t145.toList)))
set_option maxHeartbeats 8000000 in
set_option maxRecDepth 100000 in
theorem name_Same.calls (a0 : ByteArray) (a1 : ByteArray) (r : Bool) (w : World) (hT : Tabs w) (h : name_Same.f a0 a1 = some r) :
  Calls Tryd.prog 32 #[.string a0, .string a1] w fun e w' => e = .returned (.bool r) ∧ Below w.heap.size w w' := by
 have HB := Aside0.mk (Below.refl w.heap.size w)
 have H : ((name_Fold.f a0).bind fun t144 => ((name_Fold.f a1).bind fun t145 => (some (t144.toList == t145.toList)))) = some r := h
 clear h
 have HT := Aside0.mk hT
 clear hT
 replace H := Option.bind_eq_some_iff.mp H
 obtain ⟨t144, A30, H⟩ := H
 replace H : ((name_Fold.f a1).bind fun t145 => (some (t144.toList == t145.toList))) = some r := H
 have A3 := Aside0.mk A30
 clear A30
 replace H := Option.bind_eq_some_iff.mp H
 obtain ⟨t145, A40, H⟩ := H
 replace H : (some (t144.toList == t145.toList)) = some r := H
 have A4 := Aside0.mk A40
 clear A40
 obtain rfl := Option.some.inj H
 go_enter Tryd.func32, Tryd.ntmps32
 go_wp2_with (first | ((with_reducible refine gate_callee (f := 48) rfl ?_); refine goesA (some 6) Tryd.func48 #[.string a0] ?_; (with_reducible refine (name_Fold.calls a0 t144 _ ?side1 A3.out).mono ?_); (case side1 => exact Tabs.below HT.out (bwA)); rintro e w5 ⟨rfl, hb⟩; refine ⟨_, rfl, ?_⟩; have n0_ := Aside0.mk (below_step (bwA) hb); clear HB; have HB := n0_; clear n0_; (try clear hb); (try clear hb2); (try clear hk); (try clear hi)) | ((with_reducible refine gate_callee (f := 48) rfl ?_); refine goesA (some 8) Tryd.func48 #[.string a1] ?_; (with_reducible refine (name_Fold.calls a1 t145 _ ?side1 A4.out).mono ?_); (case side1 => exact Tabs.below HT.out (bwA)); rintro e w6 ⟨rfl, hb⟩; refine ⟨_, rfl, ?_⟩; have n0_ := Aside0.mk (below_step (bwA) hb); clear HB; have HB := n0_; clear n0_; (try clear hb); (try clear hb2); (try clear hk); (try clear hi)))
 go_ret
 exact ⟨endA, bwA⟩

/-! ### schema_Find: function 16, by hand -/
def schema_Find.f (l0 : List S35) (a1 : ByteArray) : Option (ByteArray × Int × Bool × Bool) := (idxK (fun x : S35 => name_Same.f x.f0 a1) l0 0).bind fun i => if i < 0 then some (⟨#[]⟩, 0, false, false) else some ((rd_T35 l0 i).f0, (rd_T35 l0 i).f1, (rd_T35 l0 i).f2, true)
theorem schema_Find1.calls (B : Nat) (s : ByteArray) (x : S35) (cs : List Value) (b : Bool) (w : World) (hT : Tabs w) (hB : B < w.heap.size) (hcell : w.cell? ⟨B, 0, none⟩ = some (.string s)) (hx : name_Same.f x.f0 s = some b) (hK : k35.K w x cs) :
  Calls Tryd.prog 31 #[.agg cs.toArray, .pointer (some ⟨B, 0, none⟩)] w fun e w' => e = .returned (.bool b) ∧ Below w.heap.size w w' := by
 obtain rfl := k35_open hK
 have cS := fun W (hb : Below w.heap.size w W) => name_Same.calls x.f0 s b W (hT.below hb) hx
 have hne : B ≠ w.heap.size := by omega
 clear hT hx hK
 go_enter Tryd.func31, Tryd.ntmps31
 go_wp2_with (go_at_call 32; refine (cS _ ((Below.refl _ w).alloc (Nat.le_refl _) _)).mono ?_; rintro e w' ⟨rfl, hb'⟩)
 go_ret
 exact ⟨rfl, ((Below.refl _ w).alloc (Nat.le_refl _) _).trans (hb'.mono (by simp))⟩
set_option maxHeartbeats 4000000 in
theorem schema_Find.calls (A0 : Option Addr) (c0 : Nat) (l0 : List S35) (a1 : ByteArray) (r1 : ByteArray) (r2 : Int) (r3 : Bool) (r4 : Bool) (w : World) (hr0 : Kd.C k35 w A0 l0.length l0) (hc0 : l0.length ≤ c0) (hT : Tabs w) (h : schema_Find.f l0 a1 = some (r1, r2, r3, r4)) :
  Calls Tryd.prog 16 #[.slice A0 l0.length c0, .string a1] w fun e w' => e = .returned (.tuple #[.agg #[.string r1, .int .i64 r2, .bool r3], .bool r4]) ∧ Below w.heap.size w w' := by
 have inst : Inhabited S35 := ⟨z35⟩
 unfold schema_Find.f at h
 obtain ⟨i, hi, h⟩ := Option.bind_eq_some_iff.1 h
 have hin := idxK_in _ _ _ _ hi
 have eg : ∀ args w, (callFunc 31 args).run Tryd.prog w = .ok (.enter 31 args) w := enters_of Tryd.func31 (by kernel_rfl) rfl
 have hcon := fun W (hb : Below w.heap.size w W) (hB : w.heap.size < W.heap.size) (hcell : W.cell? ⟨w.heap.size, 0, none⟩ = some (.string a1)) =>
  idxField (α := S35) k35 (by decide) Tryd.sizeOf35 (fun x : S35 => name_Same.f x.f0 a1) 31 #[.pointer (some ⟨w.heap.size, 0, none⟩)] eg A0 l0.length c0 l0 i W
   (fun W2 x cs b hx hb2 hK => (schema_Find1.calls w.heap.size a1 x cs b W2 (hT.below (hb.trans (hb2.mono hb.size))) (Nat.lt_of_lt_of_le hB hb2.size) ((hb2.cell (p := ⟨w.heap.size, 0, none⟩) hB).trans hcell) hx hK).mono fun e w' ⟨he, hw⟩ => ⟨he, hb2.trans (hw.mono hb2.size)⟩)
   (Kd.C_below hr0 hb) hi
 have hA := fun (h0 : ¬ i < 0) W (hW : Below w.heap.size w W) => at_T35 (Kd.C_below hr0 hW) i (by omega) (by omega)
 have hle : w.heap.size ≤ w.heap.size + 1 := Nat.le_succ _
 clear hi hT eg hr0
 by_cases h0 : i < 0
 ·rw [if_pos h0] at h
  have h := Option.some.inj h
  simp only [Prod.mk.injEq] at h
  obtain ⟨rfl, rfl, rfl, rfl⟩ := h
  clear hin hA
  go_enter Tryd.func16, Tryd.ntmps16
  go_wp2_with (go_at_call 30; refine (hcon _ (((Below.refl _ w).alloc (Nat.le_refl _) _).alloc (by simp) _) (by simp <;> omega) (by simp)).mono ?_; rintro e w' ⟨rfl, hb'⟩; have hB := (((Below.refl _ w).alloc (Nat.le_refl _) _).alloc (by simp) _ : Below w.heap.size w ((w.alloc (.cells #[.string a1] 9)).alloc (.cells #[.string ⟨#[]⟩, .int .i64 0, .bool false] 35))).trans (hb'.mono (by simp <;> omega)); have hg : w'.heap[w.heap.size + 1]? = some (.cells #[.string ⟨#[]⟩, .int .i64 0, .bool false] 35 (0, 0)) := (hb'.block _ (by simp)).trans (by have q := heap_alloc_new (w.alloc (.cells #[.string a1] 9)) (.cells #[.string ⟨#[]⟩, .int .i64 0, .bool false] 35 (0, 0)); rw [show (w.alloc (.cells #[.string a1] 9)).heap.size = w.heap.size + 1 from by show (w.heap.push _).size = _; rw [Array.size_push]] at q; exact q); have z0 := (blk_cell hg 0).trans rfl; have f0 := blk_frozen hg 0; have z1 := (blk_cell hg 1).trans rfl; have f1 := blk_frozen hg 1; have z2 := (blk_cell hg 2).trans rfl; have f2 := blk_frozen hg 2; clear hcon hb')
  refine bodyPost_ret (results_ct rfl _ _ (w.heap.size + 1) 35 #[.string ⟨#[]⟩, .int .i64 0, .bool false] (0, 0) _ rfl (by refine blk_put (cs := #[.string (⟨#[]⟩ : ByteArray), .int .i64 0, .bool false]) ?_ 2 _ rfl; refine blk_put (cs := #[.string (⟨#[]⟩ : ByteArray), .int .i64 0, .bool false]) ?_ 1 _ rfl; refine blk_put (cs := #[.string ⟨#[]⟩, .int .i64 0, .bool false]) ?_ 0 _ rfl;  exact hg) Tryd.underlying35 rfl (by kernel_rfl)) rfl ?_
  exact ⟨rfl, by repeat (first | exact hB | refine below_set ?_ hle)⟩
 ·rw [if_neg h0] at h
  have h := Option.some.inj h
  simp only [Prod.mk.injEq] at h
  have hA := hA h0
  have hi0 : 0 ≤ i := by omega
  have hi1 : i < (l0.length : Int) := by omega
  clear hin h0
  generalize rd_T35 l0 i = y at h hA
  obtain ⟨rfl, rfl, rfl, rfl⟩ := h
  go_enter Tryd.func16, Tryd.ntmps16
  go_wp2_with (go_at_call 30; refine (hcon _ (((Below.refl _ w).alloc (Nat.le_refl _) _).alloc (by simp) _) (by simp <;> omega) (by simp)).mono ?_; rintro e w' ⟨rfl, hb'⟩; have hB := (((Below.refl _ w).alloc (Nat.le_refl _) _).alloc (by simp) _ : Below w.heap.size w ((w.alloc (.cells #[.string a1] 9)).alloc (.cells #[.string ⟨#[]⟩, .int .i64 0, .bool false] 35))).trans (hb'.mono (by simp <;> omega)); have hg : w'.heap[w.heap.size + 1]? = some (.cells #[.string ⟨#[]⟩, .int .i64 0, .bool false] 35 (0, 0)) := (hb'.block _ (by simp)).trans (by have q := heap_alloc_new (w.alloc (.cells #[.string a1] 9)) (.cells #[.string ⟨#[]⟩, .int .i64 0, .bool false] 35 (0, 0)); rw [show (w.alloc (.cells #[.string a1] 9)).heap.size = w.heap.size + 1 from by show (w.heap.push _).size = _; rw [Array.size_push]] at q; exact q); have z0 := (blk_cell hg 0).trans rfl; have f0 := blk_frozen hg 0; have z1 := (blk_cell hg 1).trans rfl; have f1 := blk_frozen hg 1; have z2 := (blk_cell hg 2).trans rfl; have f2 := blk_frozen hg 2; obtain ⟨ad, rfl, q0, q1, q2⟩ := hA _ hB; clear hcon hb' hA)
  refine bodyPost_ret (results_ct rfl _ _ (w.heap.size + 1) 35 #[.string (y.f0), .int .i64 (y.f1), .bool (y.f2)] (0, 0) _ rfl (by refine blk_put (cs := #[.string (y.f0), .int .i64 (y.f1), .bool false]) ?_ 2 _ rfl; refine blk_put (cs := #[.string (y.f0), .int .i64 0, .bool false]) ?_ 1 _ rfl; refine blk_put (cs := #[.string ⟨#[]⟩, .int .i64 0, .bool false]) ?_ 0 _ rfl;  exact hg) Tryd.underlying35 rfl (by kernel_rfl)) rfl ?_
  exact ⟨rfl, by repeat (first | exact hB | refine below_set ?_ hle)⟩

/-! ### api_Field_89: function 89, by hand -/
/-- A row of one's own whose elements lie flat: k cells each. -/
def RowE {α : Type} (T k : Nat) (enc : α → List Value) (w : World) (g cap : Nat) (l : List α) : Prop :=
 ∃ cur : Array Value, w.heap[g]? = some (.cells cur T (0, 0)) ∧ l.length ≤ cap ∧ cap ≤ maxLen ∧ cur.size = cap * k ∧ ∀ (i c : Nat) (x : α) (u : Value), l[i]? = some x → (enc x)[c]? = some u → cur[i * k + c]? = some u
def stA : Array Value → Nat → List Value → Array Value
 | cur, _, [] => cur
 | cur, o, v :: vs => stA (cur.setIfInBounds o v) (o + 1) vs
def stC (g : Nat) : World → Nat → List Value → World
 | w, _, [] => w
 | w, o, v :: vs => stC g (w.setCell ⟨g, o, none⟩ v) (o + 1) vs
theorem stA_size : ∀ (vs : List Value) (cur : Array Value) (o : Nat), (stA cur o vs).size = cur.size
 | [], cur, o => rfl
 | v :: vs, cur, o => by rw [stA, stA_size vs, Array.size_setIfInBounds]
theorem stA_get : ∀ (vs : List Value) (cur : Array Value) (o j : Nat), o + vs.length ≤ cur.size → (stA cur o vs)[j]? = if o ≤ j ∧ j < o + vs.length then vs[j - o]? else cur[j]?
 | [], cur, o, j, h => by rw [stA, if_neg (fun hh => by have := hh.2; simp only [List.length_nil] at this; omega)]
 | v :: vs, cur, o, j, h => by
  rw [List.length_cons] at h
  rw [stA, stA_get vs _ _ j (by rw [Array.size_setIfInBounds]; omega), List.length_cons]
  by_cases h1 : o + 1 ≤ j ∧ j < o + 1 + vs.length
  ·rw [if_pos h1, if_pos (by omega), show j - o = (j - (o + 1)) + 1 by omega, List.getElem?_cons_succ]
  ·rw [if_neg h1, Array.getElem?_setIfInBounds]
   by_cases h2 : o = j
   ·subst h2
    rw [if_pos rfl, if_pos (by omega), if_pos (by omega), Nat.sub_self, List.getElem?_cons_zero]
   ·rw [if_neg h2, if_neg (by omega)]
theorem stC_heap {g T : Nat} : ∀ (vs : List Value) (w : World) (cur : Array Value) (o : Nat), w.heap[g]? = some (.cells cur T (0, 0)) → (stC g w o vs).heap[g]? = some (.cells (stA cur o vs) T (0, 0))
 | [], w, cur, o, h => h
 | v :: vs, w, cur, o, h => stC_heap vs _ _ _ (blk_put h o v rfl)
theorem stC_below {g B : Nat} : ∀ (vs : List Value) (w W : World) (o : Nat), Below B w W → B ≤ g → Below B w (stC g W o vs)
 | [], w, W, o, h, hg => h
 | v :: vs, w, W, o, h, hg => stC_below vs w _ _ (h.setCell (p := ⟨g, o, none⟩) hg v) hg
section
variable {α : Type} {T k : Nat} {enc : α → List Value} {w w' : World} {g cap : Nat} {l : List α}
theorem RowE.cell (h : RowE T k enc w g cap l) {i c : Nat} {x : α} {u : Value} (hx : l[i]? = some x) (hc : (enc x)[c]? = some u) : w.cell? ⟨g, i * k + c, none⟩ = some u := by
 obtain ⟨cur, h1, _, _, _, h5⟩ := h
 exact (blk_cell h1 _).trans (h5 i c x u hx hc)
theorem RowE.frozen (h : RowE T k enc w g cap l) (j : Nat) : w.frozen? ⟨g, j, none⟩ = false := by
 obtain ⟨cur, h1, _⟩ := h
 exact blk_frozen h1 j
theorem RowE.below (h : RowE T k enc w g cap l) (hb : Below w.heap.size w w') : RowE T k enc w' g cap l := by
 obtain ⟨cur, h1, h2⟩ := h
 exact ⟨cur, blk_below h1 hb, h2⟩
theorem RowE.lt (h : RowE T k enc w g cap l) : g < w.heap.size := by
 obtain ⟨cur, h1, _⟩ := h
 exact blk_lt h1
theorem RowE.len (h : RowE T k enc w g cap l) : l.length ≤ cap ∧ cap ≤ maxLen := by
 obtain ⟨cur, _, h2, h3, _⟩ := h
 exact ⟨h2, h3⟩
theorem RowE.put (h : RowE T k enc w g cap l) (hk : ∀ x, (enc x).length = k) (i : Nat) (hi : i < l.length) (y : α) : RowE T k enc (stC g w (i * k) (enc y)) g cap (l.set i y) := by
 obtain ⟨cur, h1, h2, h3, h4, h5⟩ := h
 have hroom : i * k + (enc y).length ≤ cur.size := by
  rw [hk, h4, show i * k + k = (i + 1) * k by rw [Nat.add_mul, Nat.one_mul]]
  exact Nat.mul_le_mul_right k (by omega)
 refine ⟨stA cur (i * k) (enc y), stC_heap _ _ _ _ h1, by rw [List.length_set]; exact h2, h3, by rw [stA_size]; exact h4, fun j c x u hj hc => ?_⟩
 have hcl : c < k := by rw [← hk x]; exact (List.getElem?_eq_some_iff.1 hc).1
 rw [stA_get _ _ _ _ hroom, hk]
 rw [List.getElem?_set] at hj
 by_cases e : i = j
 ·subst e
  rw [if_pos rfl, if_pos hi] at hj
  obtain rfl := Option.some.inj hj
  rw [if_pos (by omega), Nat.add_sub_cancel_left]
  exact hc
 ·rw [if_neg e] at hj
  rw [if_neg (fun hh => e ?_)]
  ·exact h5 j c x u hj hc
  ·have h6 : i * k < (j + 1) * k := by rw [Nat.add_mul, Nat.one_mul]; omega
   have h7 : j * k < (i + 1) * k := by rw [Nat.add_mul, Nat.one_mul]; omega
   have h8 := Nat.lt_of_mul_lt_mul_right h6
   have h9 := Nat.lt_of_mul_lt_mul_right h7
   omega
end
def swpL {α : Type} (l : List α) (i j : Nat) : List α := match l[i]?, l[j]? with
 | some x, some y => (l.set i y).set j x
 | _, _ => l
def swapRL {α : Type} : Nat → List α → Nat → Nat → List α
 | 0, l, _, _ => l
 | n + 1, l, a, b => swapRL n (swpL l a b) (a + 1) (b + 1)
theorem swpL_len {α : Type} (l : List α) (i j : Nat) : (swpL l i j).length = l.length := by
 unfold swpL
 split
 ·rw [List.length_set, List.length_set]
 ·rfl
theorem swapRL_len {α : Type} : ∀ (n : Nat) (l : List α) (a b : Nat), (swapRL n l a b).length = l.length
 | 0, l, a, b => rfl
 | n + 1, l, a, b => by rw [swapRL, swapRL_len n, swpL_len]
theorem swpL_at {α : Type} {l : List α} {i j : Nat} {x y : α} (hx : l[i]? = some x) (hy : l[j]? = some y) : swpL l i j = (l.set i y).set j x := by
 unfold swpL
 rw [hx, hy]
theorem idx_add (a i len : Nat) (h : a + i < len) (hl : len ≤ maxLen) : ∃ j : Int, wrap64 ((a : Int) + (i : Int)) = j ∧ IntKind.i64.wrap ((a : Int) + (i : Int)) = j ∧ (0 ≤ j) = True ∧ (j < (len : Int)) = True ∧ j.toNat = a + i ∧ j = ((a + i : Nat) : Int) := by
 have e : wrap64 ((a : Int) + (i : Int)) = ((a + i : Nat) : Int) := by unfold maxLen at hl; unfold wrap64; omega
 exact ⟨((a + i : Nat) : Int), e, (i64_w _).trans e, eq_true (Int.natCast_nonneg _), eq_true (Int.ofNat_lt.2 h), Int.toNat_natCast _, rfl⟩
theorem w_add (a i len : Nat) (h : a + i ≤ len) (hl : len ≤ maxLen) : wrap64 ((a : Int) + (i : Int)) = ((a + i : Nat) : Int) ∧ IntKind.i64.wrap ((a : Int) + (i : Int)) = ((a + i : Nat) : Int) := by
 have e : wrap64 ((a : Int) + (i : Int)) = ((a + i : Nat) : Int) := by unfold maxLen at hl; unfold wrap64; omega
 exact ⟨e, (i64_w _).trans e⟩
theorem w_one (i len : Nat) (h : i + 1 ≤ len) (hl : len ≤ maxLen) : wrap64 ((i : Int) + 1) = ((i + 1 : Nat) : Int) := by unfold maxLen at hl; unfold wrap64; omega
theorem w_dec (j len : Nat) (h : 1 ≤ j) (hm : j ≤ len) (hl : len ≤ maxLen) : wrap64 ((j : Int) - 1) = ((j - 1 : Nat) : Int) ∧ IntKind.i64.wrap ((j : Int) - 1) = ((j - 1 : Nat) : Int) := by
 have e : wrap64 ((j : Int) - 1) = ((j - 1 : Nat) : Int) := by unfold maxLen at hl; unfold wrap64; omega
 exact ⟨e, (i64_w _).trans e⟩
def encF (x : S35) : List Value := [.string x.f0, .int .i64 x.f1, .bool x.f2]
theorem encF_len (x : S35) : (encF x).length = 3 := rfl
theorem addr0 (g n : Nat) : (⟨g, 0, none⟩ : Addr).add n = ⟨g, n, none⟩ := by
 unfold Addr.add
 split
 ·rename_i h; rw [h]
 ·simp
theorem cellF {ad : Addr} {g cap : Nat} {W : World} {l2 : List S35} (had : ad = ⟨g, 0, none⟩) (hW : RowE 35 3 encF W g cap l2) {q : Nat} {z : S35} (hz : l2[q]? = some z) : W.cell? (ad.add (q * 3)) = some (.string z.f0) ∧ W.cell? ⟨(ad.add (q * 3)).block, (ad.add (q * 3)).off + 1, none⟩ = some (.int .i64 z.f1) ∧ W.cell? ⟨(ad.add (q * 3)).block, (ad.add (q * 3)).off + 2, none⟩ = some (.bool z.f2) := by
 subst had
 rw [addr0]
 exact ⟨hW.cell (c := 0) hz rfl, hW.cell (c := 1) hz rfl, hW.cell (c := 2) hz rfl⟩
theorem frozF {ad : Addr} {g cap : Nat} {W : World} {l2 : List S35} (had : ad = ⟨g, 0, none⟩) (hW : RowE 35 3 encF W g cap l2) (q : Nat) : W.frozen? (ad.add (q * 3)) = false ∧ W.frozen? ⟨(ad.add (q * 3)).block, (ad.add (q * 3)).off + 1, none⟩ = false ∧ W.frozen? ⟨(ad.add (q * 3)).block, (ad.add (q * 3)).off + 2, none⟩ = false := by
 subst had
 rw [addr0]
 exact ⟨hW.frozen _, hW.frozen _, hW.frozen _⟩
theorem storF {ad : Addr} {g cap : Nat} {W : World} {l2 : List S35} (had : ad = ⟨g, 0, none⟩) (hW : RowE 35 3 encF W g cap l2) {q : Nat} {y : S35} (hz : l2[q]? = some y) (z : S35) :
  W.cell? (ad.add (q * 3)) = some (.string y.f0) ∧ W.frozen? (ad.add (q * 3)) = false ∧
  (W.setCell (ad.add (q * 3)) (.string z.f0)).cell? ⟨(ad.add (q * 3)).block, (ad.add (q * 3)).off + 1, none⟩ = some (.int .i64 y.f1) ∧ (W.setCell (ad.add (q * 3)) (.string z.f0)).frozen? ⟨(ad.add (q * 3)).block, (ad.add (q * 3)).off + 1, none⟩ = false ∧
  ((W.setCell (ad.add (q * 3)) (.string z.f0)).setCell ⟨(ad.add (q * 3)).block, (ad.add (q * 3)).off + 1, none⟩ (.int .i64 z.f1)).cell? ⟨(ad.add (q * 3)).block, (ad.add (q * 3)).off + 2, none⟩ = some (.bool y.f2) ∧ ((W.setCell (ad.add (q * 3)) (.string z.f0)).setCell ⟨(ad.add (q * 3)).block, (ad.add (q * 3)).off + 1, none⟩ (.int .i64 z.f1)).frozen? ⟨(ad.add (q * 3)).block, (ad.add (q * 3)).off + 2, none⟩ = false := by
 subst had
 rw [addr0]
 obtain ⟨cur, h1, h2, h3, h4, h5⟩ := hW
 have hq : q < l2.length := (List.getElem?_eq_some_iff.1 hz).1
 have hroom : q * 3 + 3 ≤ cur.size := by omega
 have k1 := stC_heap [.string z.f0] W cur (q * 3) h1
 have k2 := stC_heap [.string z.f0, .int .i64 z.f1] W cur (q * 3) h1
 refine ⟨(blk_cell h1 _).trans (h5 q 0 y _ hz rfl), blk_frozen h1 _, (blk_cell k1 _).trans ?_, blk_frozen k1 _, (blk_cell k2 _).trans ?_, blk_frozen k2 _⟩
 ·rw [stA_get _ _ _ _ (by show q * 3 + 1 ≤ _; omega), if_neg (by show ¬ (q * 3 ≤ q * 3 + 1 ∧ q * 3 + 1 < q * 3 + 1); omega)]
  exact h5 q 1 y _ hz rfl
 ·rw [stA_get _ _ _ _ (by show q * 3 + 2 ≤ _; omega), if_neg (by show ¬ (q * 3 ≤ q * 3 + 2 ∧ q * 3 + 2 < q * 3 + 2); omega)]
  exact h5 q 2 y _ hz rfl
theorem putF {ad : Addr} {g cap B : Nat} {w0 W : World} {l2 : List S35} (had : ad = ⟨g, 0, none⟩) (hW : RowE 35 3 encF W g cap l2) (hB : Below B w0 W) (hg : B ≤ g) (z : S35) {q : Nat} (hq : q < l2.length) :
  RowE 35 3 encF (((W.setCell (ad.add (q * 3)) (.string z.f0)).setCell ⟨(ad.add (q * 3)).block, (ad.add (q * 3)).off + 1, none⟩ (.int .i64 z.f1)).setCell ⟨(ad.add (q * 3)).block, (ad.add (q * 3)).off + 2, none⟩ (.bool z.f2)) g cap (l2.set q z) ∧
  Below B w0 (((W.setCell (ad.add (q * 3)) (.string z.f0)).setCell ⟨(ad.add (q * 3)).block, (ad.add (q * 3)).off + 1, none⟩ (.int .i64 z.f1)).setCell ⟨(ad.add (q * 3)).block, (ad.add (q * 3)).off + 2, none⟩ (.bool z.f2)) := by
 subst had
 rw [addr0]
 exact ⟨hW.put encF_len _ hq z, stC_below (encF z) w0 W _ hB hg⟩
def swapR.T3 : Bool × List (List Nat × List Nat) := (true, [([], []), ([], []), ([], []), ([1, 2], [1, 2]), ([], []), ([], []), ([], []), ([5, 6], [5, 6]), ([], []), ([], []), ([], []), ([9, 10], [9, 10]), ([8, 11], [8, 11]), ([12], [12]), ([], []), ([], []), ([], []), ([15, 16], [15, 16]), ([14, 17], [14, 17]), ([18], [18]), ([0, 3, 0, 1, 2, 3, 8, 9, 10, 11, 12, 13, 19], [0, 3]), ([20, 13, 0, 1, 2, 3, 8, 9, 10, 11, 12, 13, 19], [13, 20]), ([4, 7, 0, 1, 2, 3, 4, 5, 6, 7, 8, 9, 10, 11, 12, 13, 14, 15, 16, 17, 18, 19, 20, 21], [4, 7]), ([22, 19, 21, 0, 1, 2, 3, 4, 5, 6, 7, 8, 9, 10, 11, 12, 13, 14, 15, 16, 17, 18, 19, 20, 21], [19, 22])])
def bitsOf (T : List (List Nat × List Nat)) : List Nat := T.foldl (fun B r => B ++ [r.1.foldl (fun b n => b ||| (2 ^ n ||| B.getD n 0)) 0]) []
theorem swapR.tab3 : rtab .any (opsOf Tryd.f89 3) = swapR.T3 := by kernel_rfl
theorem swapR.bits3 : waitsOk swapR.T3.2 (bitsOf swapR.T3.2) = true := by kernel_rfl
set_option maxHeartbeats 8000000 in
set_option maxRecDepth 100000 in
theorem swapR.calls (B g cap : Nat) (l : List S35) (a b n : Nat) (F : Value) (w : World) (hr : RowE 35 3 encF w g cap l) (hg : B ≤ g) (ha : a + n ≤ l.length) (hb : b + n ≤ l.length) :
  Calls Tryd.prog 89 #[.slice (some ⟨g, 0, none⟩) l.length cap, .int .i64 a, .int .i64 b, .int .i64 n, F] w fun e w' => e = .returned (.tuple #[]) ∧ RowE 35 3 encF w' g cap (swapRL n l a b) ∧ Below B w w' := by
 have hu := Tryd.underlying35
 obtain ⟨ad, had⟩ : ∃ ad : Addr, ad = ⟨g, 0, none⟩ := ⟨_, rfl⟩
 rw [← had]
 have HAD := Aside0.mk had
 clear had
 have HR0 := Aside0.mk hr
 have HG := Aside0.mk hg
 have HL := Aside0.mk (And.intro ha (And.intro hb hr.len))
 clear hr hg ha hb
 go_enter Tryd.func89, Tryd.ntmps89
 go_wp2
 go_loopw [10] (fun v10 wr => ∃ (i : Nat) (l1 : List S35), v10 = .int .i64 i ∧ Hid (i ≤ n) ∧ Hid (l1.length = l.length) ∧ Hid (RowE 35 3 encF wr g cap l1) ∧ Hid (Below B w wr) ∧ Hid (swapRL (n - i) l1 (a + i) (b + i) = swapRL n l a b)) (fun v10 _ => n - (intOf v10).toNat)
 case atStart => exact ⟨0, l, rfl, Lib.hid (Nat.zero_le _), Lib.hid rfl, Lib.hid HR0.out, Lib.hid (Below.refl _ _), Lib.hid rfl⟩
 case round =>
  obtain ⟨i, l1, rfl, HI, HL1, HR, HB, HS⟩ := hrel
  by_cases hlt : i < n
  ·have b1 : decide ((i : Int) < (n : Int)) = true := decide_eq_true (by omega)
   have b2 : decide (i < n) = true := decide_eq_true hlt
   have hi := hlt
   have HI2 := Lib.hid hlt
   clear hlt hi
   go_wp2
   obtain ⟨ja, ea, ea2, pa, qa, na, hja⟩ := idx_add a i l.length (by have := HL.out; have := HI2.out; omega) (by have := HL.out; omega)
   obtain ⟨jb, eb, eb2, pb, qb, nb, hjb⟩ := idx_add b i l.length (by have := HL.out; have := HI2.out; omega) (by have := HL.out; omega)
   obtain ⟨x, hx⟩ : ∃ x, l1[a + i]? = some x := ⟨_, List.getElem?_eq_getElem (by have := HL.out; have := HI2.out; have := HL1.out; clear ea ea2 eb eb2; omega)⟩
   obtain ⟨y, hy⟩ : ∃ y, l1[b + i]? = some y := ⟨_, List.getElem?_eq_getElem (by have := HL.out; have := HI2.out; have := HL1.out; clear ea ea2 eb eb2; omega)⟩
   clear hja hjb
   have HRd := Aside0.mk (HR.out.below (w' := wr.drew) (below_drew (Below.refl _ _)))
   have HBd := Aside0.mk (below_drew HB.out)
   obtain ⟨ax0, ax1, ax2⟩ := cellF HAD.out HRd.out hx
   obtain ⟨ay0, ay1, ay2⟩ := cellF HAD.out HRd.out hy
   refine start_ (n := 24) (S := fun w' => w'.cell? (ad.add ((a + i) * 3)) = some (.string x.f0) ∧ w'.cell? ⟨(ad.add ((a + i) * 3)).block, (ad.add ((a + i) * 3)).off + 1, none⟩ = some (.int .i64 x.f1) ∧ w'.cell? ⟨(ad.add ((a + i) * 3)).block, (ad.add ((a + i) * 3)).off + 2, none⟩ = some (.bool x.f2) ∧ w'.cell? (ad.add ((b + i) * 3)) = some (.string y.f0) ∧ w'.cell? ⟨(ad.add ((b + i) * 3)).block, (ad.add ((b + i) * 3)).off + 1, none⟩ = some (.int .i64 y.f1) ∧ w'.cell? ⟨(ad.add ((b + i) * 3)).block, (ad.add ((b + i) * 3)).off + 2, none⟩ = some (.bool y.f2)) (ds := [21, 23]) (mkB 24 0) (by kernel_rfl) rfl rfl ⟨ax0, ax1, ax2, ay0, ay1, ay2⟩ (fun hHeld => ?_); refine with_tabW swapR.tab3 swapR.bits3 (fun HT_ HW_ => ?_)
   generalize wr.drew = w6 at HRd HBd hHeld ax0 ax1 ax2 ay0 ay1 ay2 ⊢
   refine pureA 0 (some 16) (mkB 24 1) ?_
   refine pureA 1 (some 17) (mkB 24 3) ?_
   refine pureA 2 (some 18) (mkB 24 7) ?_
   refine pureA 3 (some 19) (mkB 24 15) ?_
   refine pureA 4 (some 20) (mkB 24 31) ?_
   refine pureA 5 (some 21) (mkB 24 63) ?_
   refine pureA 6 (some 22) (mkB 24 127) ?_
   refine pureA 7 (some 23) (mkB 24 255) ?_
   refine pureA 8 (some 24) (mkB 24 511) ?_
   refine pureA 9 (some 25) (mkB 24 1023) ?_
   refine pureA 10 (some 26) (mkB 24 2047) ?_
   refine pureA 11 (some 27) (mkB 24 4095) ?_
   refine pureA 12 (some 28) (mkB 24 8191) ?_
   refine takeA 13 (some 29) (mkB 24 16383) ?_ rfl (Or.inl ⟨by rfl, by rintro w' ⟨s0, s1, s2, s3, s4, s5⟩; go_simp; with_reducible rfl⟩)
   refine pureA 14 (some 30) (mkB 24 32767) ?_
   refine pureA 15 (some 31) (mkB 24 65535) ?_
   refine pureA 16 (some 32) (mkB 24 131071) ?_
   refine pureA 17 (some 33) (mkB 24 262143) ?_
   refine pureA 18 (some 34) (mkB 24 524287) ?_
   refine takeA 19 (some 35) (mkB 24 1048575) ?_ rfl (Or.inl ⟨by rfl, by rintro w' ⟨s0, s1, s2, s3, s4, s5⟩; go_simp; with_reducible rfl⟩)
   refine pureA 20 (some 36) (mkB 24 2097151) ?_
   obtain ⟨ax0, fx0, ax1, fx1, ax2, fx2⟩ := storF HAD.out HRd.out hx y
   refine last_ (i := 21) (N := none) (mkB 24 4194303) rfl rfl (one_of HT_.out (by kernel_rfl)) (by decide) (fun K hK => ?_)
   refine skip_ (w1 := ?_) (by rfl) rfl ?_ ?_
   rotate_left
   ·go_simp
    rfl
   refine hK.out _ _ ?_
   clear hK K
   have hlen : a + i < l1.length := (List.getElem?_eq_some_iff.1 hx).1
   have hlen2 : b + i < l1.length := (List.getElem?_eq_some_iff.1 hy).1
   obtain ⟨HR7, HB7⟩ := putF HAD.out HRd.out HBd.out HG.out y hlen
   clear ax0 ax1 ax2 ay0 ay1 ay2 fx0 fx1 fx2 hHeld HRd HBd
   generalize (((w6.setCell (ad.add ((a + i) * 3)) (.string y.f0)).setCell ⟨(ad.add ((a + i) * 3)).block, (ad.add ((a + i) * 3)).off + 1, none⟩ (.int .i64 y.f1)).setCell ⟨(ad.add ((a + i) * 3)).block, (ad.add ((a + i) * 3)).off + 2, none⟩ (.bool y.f2)) = w7 at HR7 HB7 ⊢
   obtain ⟨z, hz⟩ : ∃ z, (l1.set (a + i) y)[b + i]? = some z := ⟨_, List.getElem?_eq_getElem (by rw [List.length_set]; exact hlen2)⟩
   obtain ⟨cz0, fz0, cz1, fz1, cz2, fz2⟩ := storF HAD.out HR7 hz x
   refine pureA 22 (some 37) (mkB 24 8388607) ?_
   refine last_ (i := 23) (N := none) (mkB 24 16777215) rfl rfl (one_of HT_.out (by kernel_rfl)) (by decide) (fun K hK => ?_)
   refine skip_ (w1 := ?_) (by rfl) rfl ?_ ?_
   rotate_left
   ·go_simp
    rfl
   refine hK.out _ _ ?_
   clear hK K
   refine done_ (done_of HT_.out (by kernel_rfl)) ?_
   obtain ⟨HR8, HB8⟩ := putF HAD.out HR7 HB7 HG.out x (by rw [List.length_set]; exact hlen2)
   clear cz0 cz1 cz2 fz0 fz1 fz2 HR7 HB7
   generalize (((w7.setCell (ad.add ((b + i) * 3)) (.string x.f0)).setCell ⟨(ad.add ((b + i) * 3)).block, (ad.add ((b + i) * 3)).off + 1, none⟩ (.int .i64 x.f1)).setCell ⟨(ad.add ((b + i) * 3)).block, (ad.add ((b + i) * 3)).off + 2, none⟩ (.bool x.f2)) = w8 at HR8 HB8 ⊢
   have wi := w_one i l.length (by have := HL.out; have := HI2.out; clear ea ea2 eb eb2; omega) (by have := HL.out; clear ea ea2 eb eb2; omega)
   go_wp2
   go_roundw
   case rel => exact ⟨i + 1, swpL l1 (a + i) (b + i), (by rw [wi]), Lib.hid (by have := HI2.out; clear ea ea2 eb eb2; omega), Lib.hid (by rw [swpL_len]; exact HL1.out), Lib.hid (by rw [swpL_at hx hy]; exact HR8), Lib.hid HB8, Lib.hid (by
    have h1 := HS.out
    have e : n - i = (n - (i + 1)) + 1 := by have := HI2.out; clear ea ea2 eb eb2; omega
    rw [e, swapRL] at h1
    exact h1)⟩
   case measure =>
    show n - (intOf (.int .i64 (wrap64 ((i : Int) + 1)))).toNat < n - (intOf (.int .i64 (i : Int))).toNat
    rw [wi]
    simp only [intOf]
    have := HI2.out
    clear ea ea2 eb eb2 wi
    omega
  ·have b1 : decide ((i : Int) < (n : Int)) = false := decide_eq_false (by omega)
   have b2 : decide (i < n) = false := decide_eq_false hlt
   have hi := HI.out
   have e : n - i = 0 := by omega
   have hs := HS.out
   rw [e, swapRL] at hs
   clear hi e hlt
   go_wp2
   go_end0
   exact ⟨rfl, by rw [← hs]; exact HR.out, HB.out⟩

/-! ### api_Field_81: function 81, by hand -/
theorem swapR.calls2 (B g cap len : Nat) (l : List S35) (a b n : Nat) (F : Value) (w : World) (hlen : l.length = len) (hr : RowE 35 3 encF w g cap l) (hg : B ≤ g) (ha : a + n ≤ len) (hb : b + n ≤ len) :
  Calls Tryd.prog 89 #[.slice (some ⟨g, 0, none⟩) len cap, .int .i64 a, .int .i64 b, .int .i64 n, F] w fun e w' => e = .returned (.tuple #[]) ∧ RowE 35 3 encF w' g cap (swapRL n l a b) ∧ Below B w w' := by
 subst hlen
 exact swapR.calls B g cap l a b n F w hr hg ha hb
def rotGo {α : Type} : Nat → List α → Nat → Nat → Nat → List α
 | 0, l, _, _, _ => l
 | f + 1, l, m, i, j => if i = j then swapRL i l (m - i) m else if j < i then rotGo f (swapRL j l (m - i) m) m (i - j) j else rotGo f (swapRL i l (m - i) (m + j - i)) m i (j - i)
theorem rotGo_len {α : Type} : ∀ (f : Nat) (l : List α) (m i j : Nat), (rotGo f l m i j).length = l.length
 | 0, l, m, i, j => rfl
 | f + 1, l, m, i, j => by
  rw [rotGo]
  split
  ·rw [swapRL_len]
  split
  ·rw [rotGo_len f, swapRL_len]
  ·rw [rotGo_len f, swapRL_len]
theorem w_sub (m i len : Nat) (h : i ≤ m) (hm : m ≤ len) (hl : len ≤ maxLen) : wrap64 ((m : Int) - (i : Int)) = ((m - i : Nat) : Int) ∧ IntKind.i64.wrap ((m : Int) - (i : Int)) = ((m - i : Nat) : Int) := by
 have e : wrap64 ((m : Int) - (i : Int)) = ((m - i : Nat) : Int) := by unfold maxLen at hl; unfold wrap64; omega
 exact ⟨e, (i64_w _).trans e⟩
theorem w_adds (m j i len : Nat) (h : i ≤ m + j) (hm : m + j ≤ len) (hl : len ≤ maxLen) : wrap64 ((m : Int) + (j : Int) - (i : Int)) = ((m + j - i : Nat) : Int) ∧ IntKind.i64.wrap ((m : Int) + (j : Int) - (i : Int)) = ((m + j - i : Nat) : Int) := by
 have e : wrap64 ((m : Int) + (j : Int) - (i : Int)) = ((m + j - i : Nat) : Int) := by unfold maxLen at hl; unfold wrap64; omega
 exact ⟨e, (i64_w _).trans e⟩
set_option maxHeartbeats 8000000 in
set_option maxRecDepth 100000 in
theorem rot.calls (B g cap len : Nat) (l : List S35) (a m b : Nat) (F : Value) (w : World) (hlen : l.length = len) (hr : RowE 35 3 encF w g cap l) (hg : B ≤ g) (ha : a < m) (hb : m < b) (hbl : b ≤ len) :
  Calls Tryd.prog 81 #[.slice (some ⟨g, 0, none⟩) len cap, .int .i64 a, .int .i64 m, .int .i64 b, F] w fun e w' => e = .returned (.tuple #[]) ∧ RowE 35 3 encF w' g cap (rotGo (b - a) l m (m - a) (b - m)) ∧ Below B w w' := by
 have HR0 := Aside0.mk hr
 have HG := Aside0.mk hg
 have HL := Aside0.mk (And.intro ha (And.intro hb (And.intro hbl (And.intro hlen hr.len))))
 have E1 := Aside0.mk (w_sub m a len (by omega) (by omega) (by have := hr.len; omega))
 have E3 := Aside0.mk (w_sub b m len (by omega) (by omega) (by have := hr.len; omega))
 clear hr hg ha hb hbl hlen
 obtain ⟨e1, e2⟩ := E1.out
 obtain ⟨e3, e4⟩ := E3.out
 go_enter Tryd.func81, Tryd.ntmps81
 go_wp2
 go_loopw [10, 11] (fun v10 v11 wr => ∃ (i j f : Nat) (l1 : List S35), v10 = .int .i64 i ∧ v11 = .int .i64 j ∧ Hid (1 ≤ i ∧ 1 ≤ j ∧ i ≤ m ∧ m + j ≤ len ∧ i + j ≤ f + 1) ∧ Hid (l1.length = len) ∧ Hid (RowE 35 3 encF wr g cap l1) ∧ Hid (Below B w wr) ∧ Hid (rotGo (f + 1) l1 m i j = rotGo (b - a) l m (m - a) (b - m))) (fun v10 v11 _ => (intOf v10).toNat + (intOf v11).toNat)
 case atStart =>
  have e : b - a - 1 + 1 = b - a := by have := HL.out; clear e1 e2 e3 e4; omega
  exact ⟨m - a, b - m, b - a - 1, l, rfl, rfl, Lib.hid (by have := HL.out; clear e1 e2 e3 e4; omega), Lib.hid HL.out.2.2.2.1, Lib.hid HR0.out, Lib.hid (Below.refl _ _), Lib.hid (by rw [e])⟩
 case round =>
  obtain ⟨i, j, f, l1, rfl, rfl, HI, HL1, HR, HB, HS⟩ := hrel
  clear e1 e2 e3 e4
  by_cases hne : i = j
  ·subst hne
   have hs := HS.out
   rw [rotGo, if_pos rfl] at hs
   have HS2 := Lib.hid hs
   clear hs HS
   have E1 := Aside0.mk (w_sub m i len (by have := HI.out; omega) (by have := HI.out; omega) (by have := HL.out; omega))
   have cS := fun (W : World) (hW : W = wr) => swapR.calls2 B g cap len l1 (m - i) m i F W HL1.out (hW ▸ HR.out) HG.out (by have := HI.out; omega) (by have := HI.out; omega)
   obtain ⟨e1, e2⟩ := E1.out
   go_wp2_with (go_at_call 89; refine (cS _ rfl).mono ?_; rintro e w9 ⟨rfl, h9, b9⟩)
   go_end0
   exact ⟨rfl, by rw [← HS2.out]; exact h9, HB.out.trans b9⟩
  ·by_cases hgt : j < i
   ·have hs := HS.out
    rw [rotGo, if_neg hne, if_pos hgt] at hs
    have HS2 := Lib.hid hs
    have HJ := Lib.hid hgt
    clear hs HS
    have b1 : decide (i = j) = false := decide_eq_false hne
    have b2 : decide (j < i) = true := decide_eq_true hgt
    have b3 : decide ((i : Int) = (j : Int)) = false := decide_eq_false (by omega)
    have b5 : ((i : Int) != (j : Int)) = true := bne_iff_ne.2 (by omega)
    have b4 : decide ((j : Int) < (i : Int)) = true := decide_eq_true (by omega)
    clear hne hgt
    have E1 := Aside0.mk (w_sub m i len (by have := HI.out; omega) (by have := HI.out; omega) (by have := HL.out; omega))
    have E3 := Aside0.mk (w_sub i j len (by have := HJ.out; omega) (by have := HI.out; omega) (by have := HL.out; omega))
    have cS := fun (W : World) (hW : W = wr) => swapR.calls2 B g cap len l1 (m - i) m j F W HL1.out (hW ▸ HR.out) HG.out (by have := HI.out; have := HJ.out; omega) (by have := HI.out; omega)
    obtain ⟨e1, e2⟩ := E1.out
    obtain ⟨e3, e4⟩ := E3.out
    go_wp2_with (go_at_call 89; refine (cS _ rfl).mono ?_; rintro e w9 ⟨rfl, h9, b9⟩)
    go_roundw
    case rel =>
     have e : f - 1 + 1 = f := by have := HI.out; have := HJ.out; clear e1 e2 e3 e4; omega
     exact ⟨i - j, j, f - 1, swapRL j l1 (m - i) m, rfl, rfl, Lib.hid (by have := HI.out; have := HJ.out; clear e1 e2 e3 e4; omega), Lib.hid (by rw [swapRL_len]; exact HL1.out), Lib.hid h9, Lib.hid (HB.out.trans b9), Lib.hid (by rw [e]; exact HS2.out)⟩
    case measure =>
     simp only [intOf]
     have := HI.out
     have := HJ.out
     clear e1 e2 e3 e4
     omega
   ·have hs := HS.out
    rw [rotGo, if_neg hne, if_neg hgt] at hs
    have HS2 := Lib.hid hs
    have HJ := Lib.hid (show i < j by omega)
    clear hs HS
    have b1 : decide (i = j) = false := decide_eq_false hne
    have b2 : decide (j < i) = false := decide_eq_false hgt
    have b3 : decide ((i : Int) = (j : Int)) = false := decide_eq_false (by omega)
    have b5 : ((i : Int) != (j : Int)) = true := bne_iff_ne.2 (by omega)
    have b4 : decide ((j : Int) < (i : Int)) = false := decide_eq_false (by omega)
    clear hne hgt
    have E1 := Aside0.mk (w_sub m i len (by have := HI.out; omega) (by have := HI.out; omega) (by have := HL.out; omega))
    have E3 := Aside0.mk (w_sub j i len (by have := HJ.out; omega) (by have := HI.out; omega) (by have := HL.out; omega))
    have E5 := Aside0.mk (w_add m j len (by have := HI.out; omega) (by have := HL.out; omega))
    have E7 := Aside0.mk (w_adds m j i len (by have := HI.out; omega) (by have := HI.out; omega) (by have := HL.out; omega))
    have cS := fun (W : World) (hW : W = wr) => swapR.calls2 B g cap len l1 (m - i) (m + j - i) i F W HL1.out (hW ▸ HR.out) HG.out (by have := HI.out; omega) (by have := HI.out; omega)
    obtain ⟨e1, e2⟩ := E1.out
    obtain ⟨e3, e4⟩ := E3.out
    obtain ⟨e5, e6⟩ := E5.out
    obtain ⟨e7, e8⟩ := E7.out
    go_wp2_with (go_at_call 89; refine (cS _ rfl).mono ?_; rintro e w9 ⟨rfl, h9, b9⟩)
    go_roundw
    case rel =>
     have e : f - 1 + 1 = f := by have := HI.out; have := HJ.out; clear e1 e2 e3 e4 e5 e6 e7 e8; omega
     exact ⟨i, j - i, f - 1, swapRL i l1 (m - i) (m + j - i), rfl, rfl, Lib.hid (by have := HI.out; have := HJ.out; clear e1 e2 e3 e4 e5 e6 e7 e8; omega), Lib.hid (by rw [swapRL_len]; exact HL1.out), Lib.hid h9, Lib.hid (HB.out.trans b9), Lib.hid (by rw [e]; exact HS2.out)⟩
    case measure =>
     simp only [intOf]
     have := HI.out
     have := HJ.out
     clear e1 e2 e3 e4 e5 e6 e7 e8
     omega

end Go.Proofs.YtbbfggfiknbdmaaDoor.A
