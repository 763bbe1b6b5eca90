import Derived.Test.YtpjjbaclphoilaaGreatDoorAx0
import Derived.Test.YtpjjbaclphoilaaGreatDoorAx6
namespace Go.Proofs.YtpjjbaclphoilaaGreatDoor.A
open Go.RowKit Go.Proofs.YtpjjbaclphoilaaGreatDoorW.PrintWords Go.Proofs.YtpjjbaclphoilaaGreatDoorW.PrintLast Go.Proofs.YtpjjbaclphoilaaGreatDoorW.PrintMore
attribute [local go_sem] max2_int min2_int max_two min_two max_three min_three max_four min_four   -- for this text's walks alone
set_option linter.unusedVariables false
set_option linter.unusedSimpArgs false
set_option maxHeartbeats 8000000
set_option maxRecDepth 100000
theorem swapR.calls2 (B g cap len : Nat) (l : List S86) (a b n : Nat) (F : Value) (w : World) (hlen : l.length = len) (hr : RowE 86 3 encF w g cap l) (hg : B ≤ g) (ha : a + n ≤ len) (hb : b + n ≤ len) :
  Calls Tryz.prog 183 #[.slice (some ⟨g, 0, none⟩) len cap, .int .i64 a, .int .i64 b, .int .i64 n, F] w fun e w' => e = .returned (.tuple #[]) ∧ RowE 86 3 encF w' g cap (swapRL n l a b) ∧ Below B w w' := by
 subst hlen; exact swapR.calls B g cap l a b n F w hr hg ha hb
def rotGo {α : Type} : Nat → List α → Nat → Nat → Nat → List α
 | 0, l, _, _, _ => l
 | f + 1, l, m, i, j => if i = j then swapRL i l (m - i) m else if j < i then rotGo f (swapRL j l (m - i) m) m (i - j) j else rotGo f (swapRL i l (m - i) (m + j - i)) m i (j - i)
theorem rotGo_len {α : Type} : ∀ (f : Nat) (l : List α) (m i j : Nat), (rotGo f l m i j).length = l.length
 | 0, l, m, i, j => rfl
 | f + 1, l, m, i, j => by
  rw [rotGo]
  split
  ·rw [swapRL_len]
  split
  ·rw [rotGo_len f, swapRL_len]
  ·rw [rotGo_len f, swapRL_len]
theorem w_sub (m i len : Nat) (h : i ≤ m) (hm : m ≤ len) (hl : len ≤ maxLen) : wrap64 ((m : Int) - (i : Int)) = ((m - i : Nat) : Int) ∧ IntKind.i64.wrap ((m : Int) - (i : Int)) = ((m - i : Nat) : Int) := by
 have e : wrap64 ((m : Int) - (i : Int)) = ((m - i : Nat) : Int) := by unfold maxLen at hl; unfold wrap64; omega
 exact ⟨e, (i64_w _).trans e⟩
theorem w_adds (m j i len : Nat) (h : i ≤ m + j) (hm : m + j ≤ len) (hl : len ≤ maxLen) : wrap64 ((m : Int) + (j : Int) - (i : Int)) = ((m + j - i : Nat) : Int) ∧ IntKind.i64.wrap ((m : Int) + (j : Int) - (i : Int)) = ((m + j - i : Nat) : Int) := by
 have e : wrap64 ((m : Int) + (j : Int) - (i : Int)) = ((m + j - i : Nat) : Int) := by unfold maxLen at hl; unfold wrap64; omega
 exact ⟨e, (i64_w _).trans e⟩
theorem rot.calls (B g cap len : Nat) (l : List S86) (a m b : Nat) (F : Value) (w : World) (hlen : l.length = len) (hr : RowE 86 3 encF w g cap l) (hg : B ≤ g) (ha : a < m) (hb : m < b) (hbl : b ≤ len) :
  Calls Tryz.prog 181 #[.slice (some ⟨g, 0, none⟩) len cap, .int .i64 a, .int .i64 m, .int .i64 b, F] w fun e w' => e = .returned (.tuple #[]) ∧ RowE 86 3 encF w' g cap (rotGo (b - a) l m (m - a) (b - m)) ∧ Below B w w' := by
 have HR0 := aM hr; have HG := aM hg; have HL := aM (And.intro ha (And.intro hb (And.intro hbl (And.intro hlen hr.len)))); have E1 := aM (w_sub m a len (by omega) (by omega) (by have := hr.len; omega)); have E3 := aM (w_sub b m len (by omega) (by omega) (by have := hr.len; omega)); clear hr hg ha hb hbl hlen; obtain ⟨e1, e2⟩ := E1.out; obtain ⟨e3, e4⟩ := E3.out; go_enter Tryz.func181, Tryz.ntmps181; go_wp2
 go_loopw [10, 11] (fun v10 v11 wr => ∃ (i j f : Nat) (l1 : List S86), v10 = .int .i64 i ∧ v11 = .int .i64 j ∧ Hid (1 ≤ i ∧ 1 ≤ j ∧ i ≤ m ∧ m + j ≤ len ∧ i + j ≤ f + 1) ∧ Hid (l1.length = len) ∧ Hid (RowE 86 3 encF wr g cap l1) ∧ Hid (Below B w wr) ∧ Hid (rotGo (f + 1) l1 m i j = rotGo (b - a) l m (m - a) (b - m))) (fun v10 v11 _ => (intOf v10).toNat + (intOf v11).toNat)
 case atStart =>
  have e : b - a - 1 + 1 = b - a := by have := HL.out; clear e1 e2 e3 e4; omega
  exact ⟨m - a, b - m, b - a - 1, l, rfl, rfl, Lib.hid (by have := HL.out; clear e1 e2 e3 e4; omega), Lib.hid HL.out.2.2.2.1, Lib.hid HR0.out, Lib.hid (Below.refl _ _), Lib.hid (by rw [e])⟩
 case round =>
  obtain ⟨i, j, f, l1, rfl, rfl, HI, HL1, HR, HB, HS⟩ := hrel; clear e1 e2 e3 e4
  by_cases hne : i = j
  ·subst hne
   have hs := HS.out; rw [rotGo, if_pos rfl] at hs; have HS2 := Lib.hid hs; clear hs HS; have E1 := aM (w_sub m i len (by have := HI.out; omega) (by have := HI.out; omega) (by have := HL.out; omega)); have cS := fun (W : World) (hW : W = wr) => swapR.calls2 B g cap len l1 (m - i) m i F W HL1.out (hW ▸ HR.out) HG.out (by have := HI.out; omega) (by have := HI.out; omega)
   obtain ⟨e1, e2⟩ := E1.out; go_wp2_with (go_at_call 183; refine (cS _ rfl).mono ?_; rintro e w9 ⟨rfl, h9, b9⟩)
   go_end0
   exact ⟨rfl, by rw [← HS2.out]; exact h9, HB.out.trans b9⟩
  ·by_cases hgt : j < i
   ·have hs := HS.out
    rw [rotGo, if_neg hne, if_pos hgt] at hs; have HS2 := Lib.hid hs; have HJ := Lib.hid hgt; clear hs HS; have b1 : decide (i = j) = false := dF hne; have b2 : decide (j < i) = true := dT hgt; have b3 : decide ((i : Int) = (j : Int)) = false := dF (by omega); have b5 : ((i : Int) != (j : Int)) = true := bne_iff_ne.2 (by omega); have b4 : decide ((j : Int) < (i : Int)) = true := dT (by omega); clear hne hgt; have E1 := aM (w_sub m i len (by have := HI.out; omega) (by have := HI.out; omega) (by have := HL.out; omega)); have E3 := aM (w_sub i j len (by have := HJ.out; omega) (by have := HI.out; omega) (by have := HL.out; omega)); have cS := fun (W : World) (hW : W = wr) => swapR.calls2 B g cap len l1 (m - i) m j F W HL1.out (hW ▸ HR.out) HG.out (by have := HI.out; have := HJ.out; omega) (by have := HI.out; omega)
    obtain ⟨e1, e2⟩ := E1.out; obtain ⟨e3, e4⟩ := E3.out; go_wp2_with (go_at_call 183; refine (cS _ rfl).mono ?_; rintro e w9 ⟨rfl, h9, b9⟩)
    go_roundw
    case rel =>
     have e : f - 1 + 1 = f := by have := HI.out; have := HJ.out; clear e1 e2 e3 e4; omega
     exact ⟨i - j, j, f - 1, swapRL j l1 (m - i) m, rfl, rfl, Lib.hid (by have := HI.out; have := HJ.out; clear e1 e2 e3 e4; omega), Lib.hid (by rw [swapRL_len]; exact HL1.out), Lib.hid h9, Lib.hid (HB.out.trans b9), Lib.hid (by rw [e]; exact HS2.out)⟩
    case measure =>
     simp only [intOf]; have := HI.out; have := HJ.out; clear e1 e2 e3 e4
     omega
   ·have hs := HS.out
    rw [rotGo, if_neg hne, if_neg hgt] at hs; have HS2 := Lib.hid hs; have HJ := Lib.hid (show i < j by omega); clear hs HS; have b1 : decide (i = j) = false := dF hne; have b2 : decide (j < i) = false := dF hgt; have b3 : decide ((i : Int) = (j : Int)) = false := dF (by omega); have b5 : ((i : Int) != (j : Int)) = true := bne_iff_ne.2 (by omega); have b4 : decide ((j : Int) < (i : Int)) = false := dF (by omega); clear hne hgt; have E1 := aM (w_sub m i len (by have := HI.out; omega) (by have := HI.out; omega) (by have := HL.out; omega)); have E3 := aM (w_sub j i len (by have := HJ.out; omega) (by have := HI.out; omega) (by have := HL.out; omega)); have E5 := aM (w_add m j len (by have := HI.out; omega) (by have := HL.out; omega)); have E7 := aM (w_adds m j i len (by have := HI.out; omega) (by have := HI.out; omega) (by have := HL.out; omega)); have cS := fun (W : World) (hW : W = wr) => swapR.calls2 B g cap len l1 (m - i) (m + j - i) i F W HL1.out (hW ▸ HR.out) HG.out (by have := HI.out; omega) (by have := HI.out; omega)
    obtain ⟨e1, e2⟩ := E1.out; obtain ⟨e3, e4⟩ := E3.out; obtain ⟨e5, e6⟩ := E5.out; obtain ⟨e7, e8⟩ := E7.out; go_wp2_with (go_at_call 183; refine (cS _ rfl).mono ?_; rintro e w9 ⟨rfl, h9, b9⟩)
    go_roundw
    case rel =>
     have e : f - 1 + 1 = f := by have := HI.out; have := HJ.out; clear e1 e2 e3 e4 e5 e6 e7 e8; omega
     exact ⟨i, j - i, f - 1, swapRL i l1 (m - i) (m + j - i), rfl, rfl, Lib.hid (by have := HI.out; have := HJ.out; clear e1 e2 e3 e4 e5 e6 e7 e8; omega), Lib.hid (by rw [swapRL_len]; exact HL1.out), Lib.hid h9, Lib.hid (HB.out.trans b9), Lib.hid (by rw [e]; exact HS2.out)⟩
    case measure =>
     simp only [intOf]; have := HI.out; have := HJ.out; clear e1 e2 e3 e4 e5 e6 e7 e8
     omega
def CmpF (w0 : World) (c : Nat) (cf : S86 → S86 → Int) (ok : S86 → Prop) : Prop := ∀ W, Below w0.heap.size w0 W → ∀ x y, ok x → ok y → Calls Tryz.prog c #[.agg #[.string x.f0, .int .i64 x.f1, .bool x.f2], .agg #[.string y.f0, .int .i64 y.f1, .bool y.f2]] W fun e w' => e = .returned (.int .i64 (cf x y)) ∧ Below W.heap.size W w'
def ltAt {α : Type} (cf : α → α → Int) (l : List α) (i j : Nat) : Bool := match l[i]?, l[j]? with
 | some x, some y => decide (cf x y < 0)
 | _, _ => false
theorem ltAt_eq {α : Type} {cf : α → α → Int} {l : List α} {i j : Nat} {x y : α} (hx : l[i]? = some x) (hy : l[j]? = some y) : ltAt cf l i j = decide (cf x y < 0) := by
 unfold ltAt; rw [hx, hy]
def insIn {α : Type} (cf : α → α → Int) (a : Nat) : Nat → List α → List α
 | 0, l => l
 | j + 1, l => if a < j + 1 then (if ltAt cf l (j + 1) j = true then insIn cf a j (swpL l (j + 1) j) else l) else l
def insOut {α : Type} (cf : α → α → Int) (a : Nat) : Nat → List α → Nat → List α
 | 0, l, _ => l
 | n + 1, l, i => insOut cf a n (insIn cf a i l) (i + 1)
theorem insIn_len {α : Type} (cf : α → α → Int) (a : Nat) : ∀ (j : Nat) (l : List α), (insIn cf a j l).length = l.length
 | 0, l => rfl
 | j + 1, l => by
  rw [insIn]
  split
  ·split
   ·rw [insIn_len cf a j, swpL_len]
   ·rfl
  ·rfl
theorem insOut_len {α : Type} (cf : α → α → Int) (a : Nat) : ∀ (n : Nat) (l : List α) (i : Nat), (insOut cf a n l i).length = l.length
 | 0, l, i => rfl
 | n + 1, l, i => by rw [insOut, insOut_len cf a n, insIn_len]
theorem all_swpL {α : Type} {ok : α → Prop} {l : List α} (h : ∀ x ∈ l, ok x) (i j : Nat) : ∀ x ∈ swpL l i j, ok x := by
 unfold swpL
 split
 ·rename_i x y hx hy
  intro z hz
  rcases List.mem_or_eq_of_mem_set hz with hz | rfl
  ·rcases List.mem_or_eq_of_mem_set hz with hz | rfl
   ·exact h z hz
   ·exact h z (List.mem_of_getElem? hy)
  ·exact h z (List.mem_of_getElem? hx)
 ·exact h
theorem all_swapRL {α : Type} {ok : α → Prop} : ∀ (n : Nat) {l : List α} (a b : Nat), (∀ x ∈ l, ok x) → ∀ x ∈ swapRL n l a b, ok x
 | 0, l, a, b, h => h
 | n + 1, l, a, b, h => all_swapRL n (a + 1) (b + 1) (all_swpL h a b)
theorem all_rotGo {α : Type} {ok : α → Prop} : ∀ (f : Nat) {l : List α} (m i j : Nat), (∀ x ∈ l, ok x) → ∀ x ∈ rotGo f l m i j, ok x
 | 0, l, m, i, j, h => h
 | f + 1, l, m, i, j, h => by
  rw [rotGo]
  split
  ·exact all_swapRL _ _ _ h
  split
  ·exact all_rotGo f _ _ _ (all_swapRL _ _ _ h)
  ·exact all_rotGo f _ _ _ (all_swapRL _ _ _ h)
theorem all_insIn {α : Type} {ok : α → Prop} (cf : α → α → Int) (a : Nat) : ∀ (j : Nat) {l : List α}, (∀ x ∈ l, ok x) → ∀ x ∈ insIn cf a j l, ok x
 | 0, l, h => h
 | j + 1, l, h => by
  rw [insIn]
  split
  ·split
   ·exact all_insIn cf a j (all_swpL h _ _)
   ·exact h
  ·exact h
theorem all_insOut {α : Type} {ok : α → Prop} (cf : α → α → Int) (a : Nat) : ∀ (n : Nat) {l : List α} (i : Nat), (∀ x ∈ l, ok x) → ∀ x ∈ insOut cf a n l i, ok x
 | 0, l, i, h => h
 | n + 1, l, i, h => all_insOut cf a n (i + 1) (all_insIn cf a i h)
def insS.T4 : Bool × List (List Nat × List Nat) := (true, [([], []), ([], []), ([0, 1], [0, 1]), ([2], [2]), ([3], [3]), ([3], [3]), ([3], [3]), ([5, 6, 3], [3, 5, 6]), ([7, 3], [3, 7]), ([3], [3]), ([3], [3]), ([10, 3], [3, 10]), ([9, 11, 3], [3, 9, 11]), ([12, 3], [3, 12]), ([4, 8, 13, 3, 3], [3, 4, 8, 13]), ([14, 3], [3, 14]), ([3, 15], [3, 15])])
def insS.T6 : Bool × List (List Nat × List Nat) := (true, [([], []), ([], []), ([], []), ([], []), ([3], [3]), ([], []), ([], []), ([6], [6]), ([5, 7], [5, 7]), ([8], [8]), ([], []), ([], []), ([10, 11], [10, 11]), ([12], [12]), ([0, 1, 0, 1, 5, 6, 7, 8, 9, 13], [0, 1]), ([14, 9, 0, 1, 5, 6, 7, 8, 9, 13], [9, 14]), ([2, 4, 0, 1, 2, 3, 4, 5, 6, 7, 8, 9, 10, 11, 12, 13, 14, 15], [2, 4]), ([16, 13, 15, 0, 1, 2, 3, 4, 5, 6, 7, 8, 9, 10, 11, 12, 13, 14, 15], [13, 16])])
theorem insS.tab4 : rtab .any (opsOf Tryz.f175 4) = insS.T4 := by kernel_rfl
theorem insS.bits4 : waitsOk insS.T4.2 (bitsOf insS.T4.2) = true := by kernel_rfl
theorem insS.tab6 : rtab .any (opsOf Tryz.f175 6) = insS.T6 := by kernel_rfl
theorem insS.bits6 : waitsOk insS.T6.2 (bitsOf insS.T6.2) = true := by kernel_rfl
theorem insS.calls (w0 : World) (c g cap len : Nat) (l : List S86) (a b : Nat) (cf : S86 → S86 → Int) (ok : S86 → Prop) (w : World) (eg : ∀ args w, (callFunc c args).run Tryz.prog w = .ok (.enter c args) w) (hc : CmpF w0 c cf ok) (hok : ∀ x ∈ l, ok x) (hlen : l.length = len) (hr : RowE 86 3 encF w g cap l) (hb0 : Below w0.heap.size w0 w) (hg : w0.heap.size ≤ g) (hab : a ≤ b) (hb : b ≤ len) (hroom : len + 1 ≤ maxLen) :
  Calls Tryz.prog 175 #[.slice (some ⟨g, 0, none⟩) len cap, .int .i64 a, .int .i64 b, .func (.func c) #[] #[]] w fun e w' => e = .returned (.tuple #[]) ∧ RowE 86 3 encF w' g cap (insOut cf a (b - (a + 1)) l (a + 1)) ∧ Below w0.heap.size w0 w' := by
 obtain ⟨ad, had⟩ : ∃ ad : Addr, ad = ⟨g, 0, none⟩ := ⟨_, rfl⟩; rw [← had]; have HAD := aM had; clear had; have hu := Tryz.underlying86; have HR0 := aM hr; have HB0 := aM hb0; have HG := aM hg; have HC := aM hc; have HOK := aM hok; have HL := aM (And.intro hab (And.intro hb (And.intro hlen hr.len))); have HROOM := aM hroom; clear hr hg hab hb hlen hc hok hb0 hroom; go_enter Tryz.func175, Tryz.ntmps175; go_wp2
 go_loopw [8] (fun v8 wr => ∃ (i : Nat) (l1 : List S86), v8 = .int .i64 i ∧ Hid (a + 1 ≤ i ∧ (i ≤ b ∨ i = a + 1)) ∧ Hid (l1.length = len) ∧ Hid (∀ x ∈ l1, ok x) ∧ Hid (RowE 86 3 encF wr g cap l1) ∧ Hid (Below w0.heap.size w0 wr) ∧ Hid (insOut cf a (b - i) l1 i = insOut cf a (b - (a + 1)) l (a + 1))) (fun v8 _ => b - (intOf v8).toNat)
 case atStart => exact ⟨a + 1, l, by rw [w_one a (len + 1) (by have := HL.out; omega) (by have := HL.out; have := HROOM.out; omega)], Lib.hid ⟨Nat.le_refl _, .inr rfl⟩, Lib.hid HL.out.2.2.1, Lib.hid HOK.out, Lib.hid HR0.out, Lib.hid HB0.out, Lib.hid rfl⟩
 case round =>
  obtain ⟨i, l1, rfl, HI, HL1, HO1, HR, HB, HS⟩ := hrel
  by_cases hlt : i < b
  ·have b1 : decide ((i : Int) < (b : Int)) = true := dT (by omega)
   have b2 : decide (i < b) = true := dT hlt; have HI2 := Lib.hid hlt; have hs := HS.out; rw [show b - i = (b - (i + 1)) + 1 by omega, insOut] at hs; have HS2 := Lib.hid hs; clear hs HS hlt; go_wp2
   go_loopw [9] (fun v9 wq => ∃ (j : Nat) (l2 : List S86), v9 = .int .i64 j ∧ Hid (j ≤ i) ∧ Hid (l2.length = len) ∧ Hid (∀ x ∈ l2, ok x) ∧ Hid (RowE 86 3 encF wq g cap l2) ∧ Hid (Below w0.heap.size w0 wq) ∧ Hid (insIn cf a j l2 = insIn cf a i l1)) (fun v9 _ => (intOf v9).toNat)
   case atStart => exact ⟨i, l1, rfl, Lib.hid (Nat.le_refl _), Lib.hid HL1.out, Lib.hid HO1.out, Lib.hid HR.out, Lib.hid HB.out, Lib.hid rfl⟩
   case round =>
    obtain ⟨j, l2, rfl, HJ, HL2, HO2, HRq, HBq, HSq⟩ := hrel; (try go_wp2); have HRd := aM (HRq.out.below (w' := wr.drew) (below_drew (Below.refl _ _))); have HBd := aM (below_drew HBq.out)
    by_cases hja : a < j
    ·have c1 : decide ((a : Int) < (j : Int)) = true := dT (by omega)
     have c2 : decide (a < j) = true := dT hja; obtain ⟨x, hx⟩ : ∃ x, l2[j]? = some x := ⟨_, List.getElem?_eq_getElem (by have := HJ.out; have := HL2.out; have := HI2.out; have := HL.out; omega)⟩; obtain ⟨y, hy⟩ : ∃ y, l2[j - 1]? = some y := ⟨_, List.getElem?_eq_getElem (by have := HJ.out; have := HL2.out; have := HI2.out; have := HL.out; omega)⟩; have pj : (0 ≤ (j : Int)) = True := eq_true (by omega); have qj : ((j : Int) < (len : Int)) = True := eq_true (by have := HJ.out; have := HI2.out; have := HL.out; omega); have qj' : (j < len) = True := eq_true (by have := HJ.out; have := HI2.out; have := HL.out; omega); have pk : (0 ≤ ((j - 1 : Nat) : Int)) = True := eq_true (by omega); have qk : (((j - 1 : Nat) : Int) < (len : Int)) = True := eq_true (by have := HJ.out; have := HI2.out; have := HL.out; omega); have qk' : (j - 1 < len) = True := eq_true (by have := HJ.out; have := HI2.out; have := HL.out; omega); have E1 := aM (w_dec j len (by omega) (by have := HJ.out; have := HI2.out; have := HL.out; omega) (by have := HL.out; omega)); have HJA := Lib.hid hja; have hs := HSq.out; rw [show j = (j - 1) + 1 by omega, insIn, if_pos (by omega), show (j - 1) + 1 = j by omega, ltAt_eq hx hy] at hs; have HSq2 := Lib.hid hs; clear hs HSq hja
     by_cases hc : cf x y < 0
     ·have d1 : decide (cf x y < 0) = true := dT hc
      have d2 : (cf x y < 0) = True := eq_true hc; have d3 : (0 ≤ cf x y) = False := eq_false (by omega); have HSq3 := Lib.hid HSq2.out; rw [dT hc, if_pos rfl] at HSq3; clear hc; obtain ⟨ax0, ax1, ax2⟩ := cellF HAD.out HRd.out hx; obtain ⟨ay0, ay1, ay2⟩ := cellF HAD.out HRd.out hy; obtain ⟨e1, e2⟩ := E1.out; refine start_ (n := 17) (S := fun w' => w'.cell? (ad.add (j * 3)) = some (.string x.f0) ∧ w'.cell? ⟨(ad.add (j * 3)).block, (ad.add (j * 3)).off + 1, none⟩ = some (.int .i64 x.f1) ∧ w'.cell? ⟨(ad.add (j * 3)).block, (ad.add (j * 3)).off + 2, none⟩ = some (.bool x.f2) ∧ w'.cell? (ad.add ((j - 1) * 3)) = some (.string y.f0) ∧ w'.cell? ⟨(ad.add ((j - 1) * 3)).block, (ad.add ((j - 1) * 3)).off + 1, none⟩ = some (.int .i64 y.f1) ∧ w'.cell? ⟨(ad.add ((j - 1) * 3)).block, (ad.add ((j - 1) * 3)).off + 2, none⟩ = some (.bool y.f2)) (ds := []) (mkB 17 0) (by kernel_rfl) rfl rfl ⟨ax0, ax1, ax2, ay0, ay1, ay2⟩ (fun hHeld => ?_); refine with_tabW insS.tab4 insS.bits4 (fun HT_ HW_ => ?_)
      generalize wr.drew = w6 at HRd HBd hHeld ax0 ax1 ax2 ay0 ay1 ay2 ⊢
      refine pureA 0 (some 18) (mkB 17 1) ?_; refine pureA 1 (some 19) (mkB 17 3) ?_; refine pureA 2 (some 20) (mkB 17 7) ?_; refine pureA 3 (some 21) (mkB 17 15) ?_; refine pureA 4 (some 22) (mkB 17 31) ?_; refine pureA 5 (some 23) (mkB 17 63) ?_; refine pureA 6 (some 24) (mkB 17 127) ?_; refine pureA 7 (some 25) (mkB 17 255) ?_; refine takeA 8 (some 26) (mkB 17 511) ?_ rfl (Or.inl ⟨by rfl, by rintro w' ⟨s0, s1, s2, s3, s4, s5⟩; go_simp; with_reducible rfl⟩); refine pureA 9 (some 27) (mkB 17 1023) ?_; refine pureA 10 (some 28) (mkB 17 2047) ?_; refine pureA 11 (some 29) (mkB 17 4095) ?_; refine pureA 12 (some 30) (mkB 17 8191) ?_; refine takeA 13 (some 31) (mkB 17 16383) ?_ rfl (Or.inl ⟨by rfl, by rintro w' ⟨s0, s1, s2, s3, s4, s5⟩; go_simp; with_reducible rfl⟩); refine oneA 14 (some 32) (mkB 17 32767) (fun K hK => ?_); refine call_ c #[.agg #[.string x.f0, .int .i64 x.f1, .bool x.f2], .agg #[.string y.f0, .int .i64 y.f1, .bool y.f2]] (by rfl) rfl (by go_simp; first | done | rfl | exact eg _ _) ?_; refine (HC.out _ HBd.out x y (HO2.out x (List.mem_of_getElem? hx)) (HO2.out y (List.mem_of_getElem? hy))).mono ?_; rintro e w7 ⟨rfl, hb⟩; refine ⟨_, rfl, ?_⟩; have HR7 := aM (HRd.out.below hb); have HB7 := aM (below_step HBd.out hb); clear ax0 ax1 ax2 ay0 ay1 ay2 hHeld HRd HBd hb; obtain ⟨ax0, ax1, ax2⟩ := cellF HAD.out HR7.out hx; obtain ⟨ay0, ay1, ay2⟩ := cellF HAD.out HR7.out hy; refine hK.out _ _ ⟨ax0, ax1, ax2, ay0, ay1, ay2⟩ (fun hHeld => ?_); clear hK K; refine normA ?_; refine pureA 15 (some 33) (mkB 17 65535) ?_; refine pureA 16 (some 34) (mkB 17 131071) ?_; refine done_ (done_of HT_.out (by kernel_rfl)) ?_; clear hHeld ax0 ax1 ax2 ay0 ay1 ay2; go_wp2; have HRd := aM (HR7.out.below (w' := w7.drew) (below_drew (Below.refl _ _))); have HBd := aM (below_drew HB7.out); obtain ⟨ax0, ax1, ax2⟩ := cellF HAD.out HRd.out hx; obtain ⟨ay0, ay1, ay2⟩ := cellF HAD.out HRd.out hy; refine start_ (n := 18) (S := fun w' => w'.cell? (ad.add (j * 3)) = some (.string x.f0) ∧ w'.cell? ⟨(ad.add (j * 3)).block, (ad.add (j * 3)).off + 1, none⟩ = some (.int .i64 x.f1) ∧ w'.cell? ⟨(ad.add (j * 3)).block, (ad.add (j * 3)).off + 2, none⟩ = some (.bool x.f2) ∧ w'.cell? (ad.add ((j - 1) * 3)) = some (.string y.f0) ∧ w'.cell? ⟨(ad.add ((j - 1) * 3)).block, (ad.add ((j - 1) * 3)).off + 1, none⟩ = some (.int .i64 y.f1) ∧ w'.cell? ⟨(ad.add ((j - 1) * 3)).block, (ad.add ((j - 1) * 3)).off + 2, none⟩ = some (.bool y.f2)) (ds := [15, 17]) (mkB 18 0) (by kernel_rfl) rfl rfl ⟨ax0, ax1, ax2, ay0, ay1, ay2⟩ (fun hHeld => ?_); refine with_tabW insS.tab6 insS.bits6 (fun HT_ HW_ => ?_)
      generalize w7.drew = w6 at HRd HBd hHeld ax0 ax1 ax2 ay0 ay1 ay2 ⊢
      refine pureA 0 (some 37) (mkB 18 1) ?_; refine pureA 1 (some 38) (mkB 18 3) ?_; refine pureA 2 (some 39) (mkB 18 7) ?_; refine pureA 3 (some 40) (mkB 18 15) ?_; refine pureA 4 (some 41) (mkB 18 31) ?_; refine pureA 5 (some 42) (mkB 18 63) ?_; refine pureA 6 (some 43) (mkB 18 127) ?_; refine pureA 7 (some 44) (mkB 18 255) ?_; refine pureA 8 (some 45) (mkB 18 511) ?_; refine takeA 9 (some 46) (mkB 18 1023) ?_ rfl (Or.inl ⟨by rfl, by rintro w' ⟨s0, s1, s2, s3, s4, s5⟩; go_simp; with_reducible rfl⟩); refine pureA 10 (some 47) (mkB 18 2047) ?_; refine pureA 11 (some 48) (mkB 18 4095) ?_; refine pureA 12 (some 49) (mkB 18 8191) ?_; refine takeA 13 (some 50) (mkB 18 16383) ?_ rfl (Or.inl ⟨by rfl, by rintro w' ⟨s0, s1, s2, s3, s4, s5⟩; go_simp; with_reducible rfl⟩); refine pureA 14 (some 51) (mkB 18 32767) ?_; obtain ⟨ax0, fx0, ax1, fx1, ax2, fx2⟩ := storF HAD.out HRd.out hx y; refine last_ (i := 15) (N := none) (mkB 18 65535) rfl rfl (one_of HT_.out (by kernel_rfl)) (by decide) (fun K hK => ?_); refine skip_ (w1 := ?_) (by rfl) rfl ?_ ?_; rotate_left
      ·go_simp
       rfl
      refine hK.out _ _ ?_; clear hK K; have hlen : j < l2.length := (List.getElem?_eq_some_iff.1 hx).1; have hlen2 : (j - 1) < l2.length := (List.getElem?_eq_some_iff.1 hy).1; obtain ⟨HR7, HB7⟩ := putF HAD.out HRd.out HBd.out HG.out y hlen; clear ax0 ax1 ax2 ay0 ay1 ay2 fx0 fx1 fx2 hHeld HRd HBd
      generalize (((w6.setCell (ad.add (j * 3)) (.string y.f0)).setCell ⟨(ad.add (j * 3)).block, (ad.add (j * 3)).off + 1, none⟩ (.int .i64 y.f1)).setCell ⟨(ad.add (j * 3)).block, (ad.add (j * 3)).off + 2, none⟩ (.bool y.f2)) = w7 at HR7 HB7 ⊢
      obtain ⟨z, hz⟩ : ∃ z, (l2.set (j) y)[(j - 1)]? = some z := ⟨_, List.getElem?_eq_getElem (by rw [List.length_set]; exact hlen2)⟩; refine pureA 16 (some 52) (mkB 18 131071) ?_; obtain ⟨cz0, fz0, cz1, fz1, cz2, fz2⟩ := storF HAD.out HR7 hz x; refine last_ (i := 17) (N := none) (mkB 18 262143) rfl rfl (one_of HT_.out (by kernel_rfl)) (by decide) (fun K hK => ?_); refine skip_ (w1 := ?_) (by rfl) rfl ?_ ?_; rotate_left
      ·go_simp
       rfl
      refine hK.out _ _ ?_; clear hK K; refine done_ (done_of HT_.out (by kernel_rfl)) ?_; obtain ⟨HR8, HB8⟩ := putF HAD.out HR7 HB7 HG.out x (by rw [List.length_set]; exact hlen2); clear cz0 cz1 cz2 fz0 fz1 fz2 HR7 HB7
      generalize (((w7.setCell (ad.add ((j - 1) * 3)) (.string x.f0)).setCell ⟨(ad.add ((j - 1) * 3)).block, (ad.add ((j - 1) * 3)).off + 1, none⟩ (.int .i64 x.f1)).setCell ⟨(ad.add ((j - 1) * 3)).block, (ad.add ((j - 1) * 3)).off + 2, none⟩ (.bool x.f2)) = w8 at HR8 HB8 ⊢
      obtain ⟨e1, e2⟩ := E1.out; go_wp2
      go_roundw
      case rel => exact ⟨j - 1, swpL l2 j (j - 1), rfl, Lib.hid (by have := HJ.out; clear e1 e2; omega), Lib.hid (by rw [swpL_len]; exact HL2.out), Lib.hid (all_swpL HO2.out _ _), Lib.hid (by rw [swpL_at hx hy]; exact HR8), Lib.hid HB8, Lib.hid HSq3.out⟩
      case measure =>
       simp only [intOf]; have := HJA.out; clear e1 e2
       omega
     ·have d1 : decide (cf x y < 0) = false := dF hc
      have d2 : (cf x y < 0) = False := eq_false hc; have d3 : (0 ≤ cf x y) = True := eq_true (by omega); have hs3 := HSq2.out; rw [dF hc, if_neg (by decide)] at hs3; have HSq3 := Lib.hid hs3; clear hs3 hc; obtain ⟨ax0, ax1, ax2⟩ := cellF HAD.out HRd.out hx; obtain ⟨ay0, ay1, ay2⟩ := cellF HAD.out HRd.out hy; obtain ⟨e1, e2⟩ := E1.out; refine start_ (n := 17) (S := fun w' => w'.cell? (ad.add (j * 3)) = some (.string x.f0) ∧ w'.cell? ⟨(ad.add (j * 3)).block, (ad.add (j * 3)).off + 1, none⟩ = some (.int .i64 x.f1) ∧ w'.cell? ⟨(ad.add (j * 3)).block, (ad.add (j * 3)).off + 2, none⟩ = some (.bool x.f2) ∧ w'.cell? (ad.add ((j - 1) * 3)) = some (.string y.f0) ∧ w'.cell? ⟨(ad.add ((j - 1) * 3)).block, (ad.add ((j - 1) * 3)).off + 1, none⟩ = some (.int .i64 y.f1) ∧ w'.cell? ⟨(ad.add ((j - 1) * 3)).block, (ad.add ((j - 1) * 3)).off + 2, none⟩ = some (.bool y.f2)) (ds := []) (mkB 17 0) (by kernel_rfl) rfl rfl ⟨ax0, ax1, ax2, ay0, ay1, ay2⟩ (fun hHeld => ?_); refine with_tabW insS.tab4 insS.bits4 (fun HT_ HW_ => ?_)
      generalize wr.drew = w6 at HRd HBd hHeld ax0 ax1 ax2 ay0 ay1 ay2 ⊢
      refine pureA 0 (some 18) (mkB 17 1) ?_; refine pureA 1 (some 19) (mkB 17 3) ?_; refine pureA 2 (some 20) (mkB 17 7) ?_; refine pureA 3 (some 21) (mkB 17 15) ?_; refine pureA 4 (some 22) (mkB 17 31) ?_; refine pureA 5 (some 23) (mkB 17 63) ?_; refine pureA 6 (some 24) (mkB 17 127) ?_; refine pureA 7 (some 25) (mkB 17 255) ?_; refine takeA 8 (some 26) (mkB 17 511) ?_ rfl (Or.inl ⟨by rfl, by rintro w' ⟨s0, s1, s2, s3, s4, s5⟩; go_simp; with_reducible rfl⟩); refine pureA 9 (some 27) (mkB 17 1023) ?_; refine pureA 10 (some 28) (mkB 17 2047) ?_; refine pureA 11 (some 29) (mkB 17 4095) ?_; refine pureA 12 (some 30) (mkB 17 8191) ?_; refine takeA 13 (some 31) (mkB 17 16383) ?_ rfl (Or.inl ⟨by rfl, by rintro w' ⟨s0, s1, s2, s3, s4, s5⟩; go_simp; with_reducible rfl⟩); refine oneA 14 (some 32) (mkB 17 32767) (fun K hK => ?_); refine call_ c #[.agg #[.string x.f0, .int .i64 x.f1, .bool x.f2], .agg #[.string y.f0, .int .i64 y.f1, .bool y.f2]] (by rfl) rfl (by go_simp; first | done | rfl | exact eg _ _) ?_; refine (HC.out _ HBd.out x y (HO2.out x (List.mem_of_getElem? hx)) (HO2.out y (List.mem_of_getElem? hy))).mono ?_; rintro e w7 ⟨rfl, hb⟩; refine ⟨_, rfl, ?_⟩; have HR7 := aM (HRd.out.below hb); have HB7 := aM (below_step HBd.out hb); clear ax0 ax1 ax2 ay0 ay1 ay2 hHeld HRd HBd hb; obtain ⟨ax0, ax1, ax2⟩ := cellF HAD.out HR7.out hx; obtain ⟨ay0, ay1, ay2⟩ := cellF HAD.out HR7.out hy; refine hK.out _ _ ⟨ax0, ax1, ax2, ay0, ay1, ay2⟩ (fun hHeld => ?_); clear hK K; refine normA ?_; refine pureA 15 (some 33) (mkB 17 65535) ?_; refine pureA 16 (some 34) (mkB 17 131071) ?_; refine done_ (done_of HT_.out (by kernel_rfl)) ?_; clear hHeld ax0 ax1 ax2 ay0 ay1 ay2 e1 e2; have e3 := w_one i len (by have := HI2.out; have := HL.out; omega) (by have := HL.out; omega); go_wp2
      go_roundw
      case rel => exact ⟨i + 1, l2, by rw [e3], Lib.hid (by have := HI.out; have := HI2.out; clear e3; omega), Lib.hid HL2.out, Lib.hid HO2.out, Lib.hid HR7.out, Lib.hid HB7.out, Lib.hid (by rw [HSq3.out]; exact HS2.out)⟩
      case measure =>
       rw [e3]; simp only [intOf]; have := HI2.out; clear e3
       omega
    ·have c1 : decide ((a : Int) < (j : Int)) = false := dF (by omega)
     have c2 : decide (a < j) = false := dF hja
     have hs3 : insIn cf a j l2 = l2 := by
      cases j with
      | zero => rfl
      | succ j => rw [insIn, if_neg (by omega)]
     have HSq3 := Lib.hid (hs3.symm.trans HSq.out); clear hs3 hja HSq; refine start_ (n := 17) (S := fun w' => True) (ds := []) (mkB 17 0) (by kernel_rfl) rfl rfl trivial (fun hHeld => ?_); refine with_tabW insS.tab4 insS.bits4 (fun HT_ HW_ => ?_)
     generalize wr.drew = w6 at HRd HBd hHeld ⊢
     refine pureA 0 (some 18) (mkB 17 1) ?_; refine pureA 1 (some 19) (mkB 17 3) ?_; refine pureA 2 (some 20) (mkB 17 7) ?_; refine pureA 3 (some 21) (mkB 17 15) ?_; refine pureU 4 (some 22) (mkB 17 31) ?_; refine pureU 5 (some 23) (mkB 17 63) ?_; refine pureU 6 (some 24) (mkB 17 127) ?_; refine pureU 7 (some 25) (mkB 17 255) ?_; refine pureU 8 (some 26) (mkB 17 511) ?_; refine pureU 9 (some 27) (mkB 17 1023) ?_; refine pureU 10 (some 28) (mkB 17 2047) ?_; refine pureU 11 (some 29) (mkB 17 4095) ?_; refine pureU 12 (some 30) (mkB 17 8191) ?_; refine pureU 13 (some 31) (mkB 17 16383) ?_; refine pureU 14 (some 32) (mkB 17 32767) ?_; refine pureU 15 (some 33) (mkB 17 65535) ?_; refine pureA 16 (some 34) (mkB 17 131071) ?_; refine done_ (done_of HT_.out (by kernel_rfl)) ?_; have e3 := w_one i len (by have := HI2.out; have := HL.out; omega) (by have := HL.out; omega); go_wp2
     go_roundw
     case rel => exact ⟨i + 1, l2, by rw [e3], Lib.hid (by have := HI.out; have := HI2.out; clear e3; omega), Lib.hid HL2.out, Lib.hid HO2.out, Lib.hid HRd.out, Lib.hid HBd.out, Lib.hid (by rw [HSq3.out]; exact HS2.out)⟩
     case measure =>
      rw [e3]; simp only [intOf]; have := HI2.out; clear e3
      omega
  ·have b1 : decide ((i : Int) < (b : Int)) = false := dF (by omega)
   have b2 : decide (i < b) = false := dF hlt; have hs := HS.out; rw [show b - i = 0 by omega, insOut] at hs; have HS2 := Lib.hid hs; clear hs HS hlt; go_wp2
   go_end0
   exact ⟨rfl, by rw [← HS2.out]; exact HR.out, HB.out⟩
end Go.Proofs.YtpjjbaclphoilaaGreatDoor.A
