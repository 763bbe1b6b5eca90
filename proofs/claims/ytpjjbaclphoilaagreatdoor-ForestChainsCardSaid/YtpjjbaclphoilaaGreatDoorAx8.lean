import Derived.Test.YtpjjbaclphoilaaGreatDoorAx0
import Derived.Test.YtpjjbaclphoilaaGreatDoorAx6
import Derived.Test.YtpjjbaclphoilaaGreatDoorAx7
namespace Go.Proofs.YtpjjbaclphoilaaGreatDoor.A
open Go.RowKit Go.Proofs.YtpjjbaclphoilaaGreatDoorW.PrintWords Go.Proofs.YtpjjbaclphoilaaGreatDoorW.PrintLast Go.Proofs.YtpjjbaclphoilaaGreatDoorW.PrintMore
attribute [local go_sem] max2_int min2_int max_two min_two max_three min_three max_four min_four   -- for this text's walks alone
set_option linter.unusedVariables false
set_option linter.unusedSimpArgs false
set_option maxHeartbeats 8000000
set_option maxRecDepth 100000
def bsL (p : Nat → Bool) : Nat → Nat → Nat → Nat
 | 0, i, _ => i
 | f + 1, i, j => if i < j then (if p ((i + j) / 2) = true then bsL p f ((i + j) / 2 + 1) j else bsL p f i ((i + j) / 2)) else i
theorem bsL_same (p : Nat → Bool) (f i j : Nat) (h : ¬ i < j) : bsL p f i j = i := by
 cases f with
 | zero => rfl
 | succ f => rw [bsL, if_neg h]
def upL {α : Type} : Nat → List α → Nat → List α
 | 0, l, _ => l
 | n + 1, l, k => upL n (swpL l k (k + 1)) (k + 1)
def dnL {α : Type} : Nat → List α → Nat → List α
 | 0, l, _ => l
 | n + 1, l, k => dnL n (swpL l k (k - 1)) (k - 1)
theorem w_half (i j h len : Nat) (hh : h = (i + j) / 2) (hm : i + j ≤ len) (hl : len ≤ maxLen) : wrap64 (IntKind.u64.wrap ((i : Int) + (j : Int)) / 2) = (h : Int) ∧ IntKind.i64.wrap (IntKind.u64.wrap ((i : Int) + (j : Int)) / 2) = (h : Int) := by
 have e : wrap64 (IntKind.u64.wrap ((i : Int) + (j : Int)) / 2) = (h : Int) := by
  unfold maxLen at hl
  have e0 : IntKind.u64.wrap ((i : Int) + (j : Int)) = (i : Int) + (j : Int) := by
   simp [IntKind.wrap, IntKind.bits, IntKind.signed]
   omega
  rw [e0]; unfold wrap64
  omega
 exact ⟨e, (i64_w _).trans e⟩
def symS.T5 : Bool × List (List Nat × List Nat) := (true, [([], []), ([], []), ([], []), ([1, 2], [1, 2]), ([3], [3]), ([], []), ([], []), ([5, 6], [5, 6]), ([7], [7]), ([0, 4, 8], [0, 4, 8]), ([9], [9])])
def symS.T11 : Bool × List (List Nat × List Nat) := (true, [([], []), ([], []), ([], []), ([], []), ([3], [3]), ([], []), ([], []), ([6], [6]), ([5, 7], [5, 7]), ([8], [8]), ([], []), ([], []), ([10, 11], [10, 11]), ([12], [12]), ([0, 1, 0, 1, 5, 6, 7, 8, 9, 13], [0, 1]), ([14, 9, 0, 1, 5, 6, 7, 8, 9, 13], [9, 14]), ([2, 4, 0, 1, 2, 3, 4, 5, 6, 7, 8, 9, 10, 11, 12, 13, 14, 15], [2, 4]), ([16, 13, 15, 0, 1, 2, 3, 4, 5, 6, 7, 8, 9, 10, 11, 12, 13, 14, 15], [13, 16])])
theorem symS.tab5 : rtab .any (opsOf Tryz.f176 5) = symS.T5 := by kernel_rfl
theorem symS.bits5 : waitsOk symS.T5.2 (bitsOf symS.T5.2) = true := by kernel_rfl
theorem symS.tab11 : rtab .any (opsOf Tryz.f176 11) = symS.T11 := by kernel_rfl
theorem symS.bits11 : waitsOk symS.T11.2 (bitsOf symS.T11.2) = true := by kernel_rfl
theorem sym1.calls (w0 : World) (c g cap len : Nat) (l : List S86) (a m b : Nat) (cf : S86 → S86 → Int) (ok : S86 → Prop) (w : World) (eg : ∀ args w, (callFunc c args).run Tryz.prog w = .ok (.enter c args) w) (hc : CmpF w0 c cf ok) (hok : ∀ x ∈ l, ok x) (hlen : l.length = len) (hr : RowE 86 3 encF w g cap l) (hb0 : Below w0.heap.size w0 w) (hg : w0.heap.size ≤ g) (ham : m = a + 1) (hmb : m < b) (hb : b ≤ len) (hroom : 2 * len + 2 ≤ maxLen) :
  Calls Tryz.prog 176 #[.slice (some ⟨g, 0, none⟩) len cap, .int .i64 a, .int .i64 m, .int .i64 b, .func (.func c) #[] #[]] w fun e w' => e = .returned (.tuple #[]) ∧ RowE 86 3 encF w' g cap (upL (bsL (fun h => ltAt cf l h a) (b - m) m b - 1 - a) l a) ∧ Below w0.heap.size w0 w' := by
 obtain ⟨ad, had⟩ : ∃ ad : Addr, ad = ⟨g, 0, none⟩ := ⟨_, rfl⟩; rw [← had]; have HAD := aM had; clear had; have hu := Tryz.underlying86; obtain ⟨P, hP⟩ : ∃ P, P = (fun h => ltAt cf l h a) := ⟨_, rfl⟩; rw [← hP]; have HP := aM hP; have HR0 := aM hr; have HB0 := aM hb0; have HG := aM hg; have HC := aM hc; have HOK := aM hok; have HL := aM (And.intro ham (And.intro hmb (And.intro hb (And.intro hlen hr.len)))); have HROOM := aM hroom; have e1 : wrap64 ((m : Int) - (a : Int)) = 1 := by have := (w_sub m a len (by omega) (by omega) (by have := hr.len; omega)).1; rw [this]; omega
 have e2 : IntKind.i64.wrap ((m : Int) - (a : Int)) = 1 := by have := (w_sub m a len (by omega) (by omega) (by have := hr.len; omega)).2; rw [this]; omega
 have pa : (0 ≤ (a : Int)) = True := eq_true (by clear e1 e2; omega); have qa : ((a : Int) < (len : Int)) = True := eq_true (by clear e1 e2; omega); have qa' : (a < len) = True := eq_true (by clear e1 e2; omega); clear hP hr hg ham hmb hb hlen hc hok hb0 hroom; go_enter Tryz.func176, Tryz.ntmps176; go_wp2; clear e1 e2
 go_loopw [10, 11] (fun v10 v11 wr => ∃ (i j f : Nat), v10 = .int .i64 i ∧ v11 = .int .i64 j ∧ Hid (m ≤ i ∧ i ≤ j ∧ j ≤ b ∧ j - i ≤ f) ∧ Hid (RowE 86 3 encF wr g cap l) ∧ Hid (Below w0.heap.size w0 wr) ∧ Hid (bsL P f i j = bsL P (b - m) m b)) (fun v10 v11 _ => (intOf v11).toNat - (intOf v10).toNat)
 case atStart => exact ⟨m, b, b - m, rfl, rfl, Lib.hid (by have := HL.out; omega), Lib.hid HR0.out, Lib.hid HB0.out, Lib.hid rfl⟩
 case round =>
  obtain ⟨i, j, f, rfl, rfl, HI, HR, HB, HS⟩ := hrel
  by_cases hij : i < j
  ·have b1 : decide ((i : Int) < (j : Int)) = true := dT (by omega)
   have b2 : decide (i < j) = true := dT hij; obtain ⟨h, hh⟩ : ∃ h, h = (i + j) / 2 := ⟨_, rfl⟩; have HH := aM (show i ≤ h ∧ h < j by omega); have E0 := aM (w_add i j (2 * len) (by have := HI.out; have := HL.out; omega) (by have := HROOM.out; omega)); have E1 := aM (w_half i j h (2 * len) hh (by have := HI.out; have := HL.out; omega) (by have := HROOM.out; omega)); have E3 := aM (w_one h (len + 1) (by have := HH.out; have := HI.out; have := HL.out; omega) (by have := HROOM.out; omega)); obtain ⟨x, hx⟩ : ∃ x, l[h]? = some x := ⟨_, List.getElem?_eq_getElem (by have := HH.out; have := HI.out; have := HL.out; omega)⟩; obtain ⟨y, hy⟩ : ∃ y, l[a]? = some y := ⟨_, List.getElem?_eq_getElem (by have := HL.out; omega)⟩; have ph : (0 ≤ (h : Int)) = True := eq_true (by omega); have qh : ((h : Int) < (len : Int)) = True := eq_true (by have := HH.out; have := HI.out; have := HL.out; omega); have qh' : (h < len) = True := eq_true (by have := HH.out; have := HI.out; have := HL.out; omega); have hp : P h = decide (cf x y < 0) := by rw [HP.out]; exact ltAt_eq hx hy
   have hs := HS.out; rw [show f = (f - 1) + 1 by have := HI.out; omega, bsL, if_pos hij, ← hh, hp] at hs; have HS2 := Lib.hid hs; clear hs HS hp hh hij; obtain ⟨e00, e01⟩ := E0.out; obtain ⟨e1, e2⟩ := E1.out
   by_cases hc : cf x y < 0
   ·have d1 : decide (cf x y < 0) = true := dT hc
    have d2 : (cf x y < 0) = True := eq_true hc; have d3 : (0 ≤ cf x y) = False := eq_false (by clear e1 e2 e00 e01; omega); have hs3 := HS2.out; rw [dT hc, if_pos rfl] at hs3; have HS3 := Lib.hid hs3; clear hs3 hc; go_wp2; clear e1 e2 e00 e01; have HRd := aM (HR.out.below (w' := wr.drew) (below_drew (Below.refl _ _))); have HBd := aM (below_drew HB.out); obtain ⟨ax0, ax1, ax2⟩ := cellF HAD.out HRd.out hx; obtain ⟨ay0, ay1, ay2⟩ := cellF HAD.out HRd.out hy; refine start_ (n := 11) (S := fun w' => w'.cell? (ad.add (h * 3)) = some (.string x.f0) ∧ w'.cell? ⟨(ad.add (h * 3)).block, (ad.add (h * 3)).off + 1, none⟩ = some (.int .i64 x.f1) ∧ w'.cell? ⟨(ad.add (h * 3)).block, (ad.add (h * 3)).off + 2, none⟩ = some (.bool x.f2) ∧ w'.cell? (ad.add (a * 3)) = some (.string y.f0) ∧ w'.cell? ⟨(ad.add (a * 3)).block, (ad.add (a * 3)).off + 1, none⟩ = some (.int .i64 y.f1) ∧ w'.cell? ⟨(ad.add (a * 3)).block, (ad.add (a * 3)).off + 2, none⟩ = some (.bool y.f2)) (ds := []) (mkB 11 0) (by kernel_rfl) rfl rfl ⟨ax0, ax1, ax2, ay0, ay1, ay2⟩ (fun hHeld => ?_); refine with_tabW symS.tab5 symS.bits5 (fun HT_ HW_ => ?_)
    generalize wr.drew = w6 at HRd HBd hHeld ax0 ax1 ax2 ay0 ay1 ay2 ⊢
    refine pureA 0 (some 40) (mkB 11 1) ?_; refine pureA 1 (some 41) (mkB 11 3) ?_; refine pureA 2 (some 42) (mkB 11 7) ?_; refine pureA 3 (some 43) (mkB 11 15) ?_; refine takeA 4 (some 44) (mkB 11 31) ?_ rfl (Or.inl ⟨by rfl, by rintro w' ⟨s0, s1, s2, s3, s4, s5⟩; go_simp; with_reducible rfl⟩); refine pureA 5 (some 45) (mkB 11 63) ?_; refine pureA 6 (some 46) (mkB 11 127) ?_; refine pureA 7 (some 47) (mkB 11 255) ?_; refine takeA 8 (some 48) (mkB 11 511) ?_ rfl (Or.inl ⟨by rfl, by rintro w' ⟨s0, s1, s2, s3, s4, s5⟩; go_simp; with_reducible rfl⟩); refine oneA 9 (some 49) (mkB 11 1023) (fun K hK => ?_); refine call_ c #[.agg #[.string x.f0, .int .i64 x.f1, .bool x.f2], .agg #[.string y.f0, .int .i64 y.f1, .bool y.f2]] (by rfl) rfl (by go_simp; first | done | rfl | exact eg _ _) ?_; refine (HC.out _ HBd.out x y (HOK.out x (List.mem_of_getElem? hx)) (HOK.out y (List.mem_of_getElem? hy))).mono ?_; rintro e w7 ⟨rfl, hb⟩; refine ⟨_, rfl, ?_⟩; have HR7 := aM (HRd.out.below hb); have HB7 := aM (below_step HBd.out hb); clear ax0 ax1 ax2 ay0 ay1 ay2 hHeld HRd HBd hb; obtain ⟨ax0, ax1, ax2⟩ := cellF HAD.out HR7.out hx; obtain ⟨ay0, ay1, ay2⟩ := cellF HAD.out HR7.out hy; refine hK.out _ _ ⟨ax0, ax1, ax2, ay0, ay1, ay2⟩ (fun hHeld => ?_); clear hK K; refine normA ?_; refine pureA 10 (some 50) (mkB 11 2047) ?_; refine done_ (done_of HT_.out (by kernel_rfl)) ?_; clear hHeld ax0 ax1 ax2 ay0 ay1 ay2; have e3 := E3.out; go_wp2
    go_roundw
    case rel => exact ⟨h + 1, j, f - 1, by rw [e3], rfl, Lib.hid (by have := HI.out; have := HH.out; clear e3; omega), Lib.hid HR7.out, Lib.hid HB7.out, Lib.hid HS3.out⟩
    case measure =>
     rw [e3]; simp only [intOf]; have := HH.out; clear e3
     omega
   ·have d1 : decide (cf x y < 0) = false := dF hc
    have d2 : (cf x y < 0) = False := eq_false hc; have d3 : (0 ≤ cf x y) = True := eq_true (by clear e1 e2 e00 e01; omega); have hs3 := HS2.out; rw [dF hc, if_neg (by decide)] at hs3; have HS3 := Lib.hid hs3; clear hs3 hc; go_wp2; clear e1 e2 e00 e01; have HRd := aM (HR.out.below (w' := wr.drew) (below_drew (Below.refl _ _))); have HBd := aM (below_drew HB.out); obtain ⟨ax0, ax1, ax2⟩ := cellF HAD.out HRd.out hx; obtain ⟨ay0, ay1, ay2⟩ := cellF HAD.out HRd.out hy; refine start_ (n := 11) (S := fun w' => w'.cell? (ad.add (h * 3)) = some (.string x.f0) ∧ w'.cell? ⟨(ad.add (h * 3)).block, (ad.add (h * 3)).off + 1, none⟩ = some (.int .i64 x.f1) ∧ w'.cell? ⟨(ad.add (h * 3)).block, (ad.add (h * 3)).off + 2, none⟩ = some (.bool x.f2) ∧ w'.cell? (ad.add (a * 3)) = some (.string y.f0) ∧ w'.cell? ⟨(ad.add (a * 3)).block, (ad.add (a * 3)).off + 1, none⟩ = some (.int .i64 y.f1) ∧ w'.cell? ⟨(ad.add (a * 3)).block, (ad.add (a * 3)).off + 2, none⟩ = some (.bool y.f2)) (ds := []) (mkB 11 0) (by kernel_rfl) rfl rfl ⟨ax0, ax1, ax2, ay0, ay1, ay2⟩ (fun hHeld => ?_); refine with_tabW symS.tab5 symS.bits5 (fun HT_ HW_ => ?_)
    generalize wr.drew = w6 at HRd HBd hHeld ax0 ax1 ax2 ay0 ay1 ay2 ⊢
    refine pureA 0 (some 40) (mkB 11 1) ?_; refine pureA 1 (some 41) (mkB 11 3) ?_; refine pureA 2 (some 42) (mkB 11 7) ?_; refine pureA 3 (some 43) (mkB 11 15) ?_; refine takeA 4 (some 44) (mkB 11 31) ?_ rfl (Or.inl ⟨by rfl, by rintro w' ⟨s0, s1, s2, s3, s4, s5⟩; go_simp; with_reducible rfl⟩); refine pureA 5 (some 45) (mkB 11 63) ?_; refine pureA 6 (some 46) (mkB 11 127) ?_; refine pureA 7 (some 47) (mkB 11 255) ?_; refine takeA 8 (some 48) (mkB 11 511) ?_ rfl (Or.inl ⟨by rfl, by rintro w' ⟨s0, s1, s2, s3, s4, s5⟩; go_simp; with_reducible rfl⟩); refine oneA 9 (some 49) (mkB 11 1023) (fun K hK => ?_); refine call_ c #[.agg #[.string x.f0, .int .i64 x.f1, .bool x.f2], .agg #[.string y.f0, .int .i64 y.f1, .bool y.f2]] (by rfl) rfl (by go_simp; first | done | rfl | exact eg _ _) ?_; refine (HC.out _ HBd.out x y (HOK.out x (List.mem_of_getElem? hx)) (HOK.out y (List.mem_of_getElem? hy))).mono ?_; rintro e w7 ⟨rfl, hb⟩; refine ⟨_, rfl, ?_⟩; have HR7 := aM (HRd.out.below hb); have HB7 := aM (below_step HBd.out hb); clear ax0 ax1 ax2 ay0 ay1 ay2 hHeld HRd HBd hb; obtain ⟨ax0, ax1, ax2⟩ := cellF HAD.out HR7.out hx; obtain ⟨ay0, ay1, ay2⟩ := cellF HAD.out HR7.out hy; refine hK.out _ _ ⟨ax0, ax1, ax2, ay0, ay1, ay2⟩ (fun hHeld => ?_); clear hK K; refine normA ?_; refine pureA 10 (some 50) (mkB 11 2047) ?_; refine done_ (done_of HT_.out (by kernel_rfl)) ?_; clear hHeld ax0 ax1 ax2 ay0 ay1 ay2; go_wp2
    go_roundw
    case rel => exact ⟨i, h, f - 1, rfl, rfl, Lib.hid (by have := HI.out; have := HH.out; omega), Lib.hid HR7.out, Lib.hid HB7.out, Lib.hid HS3.out⟩
    case measure =>
     simp only [intOf]; have := HH.out
     omega
  ·have b1 : decide ((i : Int) < (j : Int)) = false := dF (by omega)
   have b2 : decide (i < j) = false := dF hij; have hs := HS.out; rw [bsL_same P f i j hij] at hs; have HS2 := Lib.hid hs; clear hs HS hij; obtain ⟨q, hq⟩ : ∃ q, q = i - 1 := ⟨_, rfl⟩; have HQ := aM (show a ≤ q ∧ q = i - 1 ∧ q + 1 ≤ len by have := HI.out; have := HL.out; omega); have EQ := aM (w_dec i len (by have := HI.out; have := HL.out; omega) (by have := HI.out; have := HL.out; omega) (by have := HL.out; omega)); rw [← hq] at EQ; clear hq; go_wp2
   go_loopw [13] (fun v13 wq => ∃ (k : Nat) (l1 : List S86), v13 = .int .i64 k ∧ Hid (a ≤ k ∧ k ≤ q) ∧ Hid (l1.length = len) ∧ Hid (RowE 86 3 encF wq g cap l1) ∧ Hid (Below w0.heap.size w0 wq) ∧ Hid (upL (q - k) l1 k = upL (q - a) l a)) (fun v13 _ => q - (intOf v13).toNat)
   case atStart => exact ⟨a, l, rfl, Lib.hid ⟨Nat.le_refl _, HQ.out.1⟩, Lib.hid HL.out.2.2.2.1, Lib.hid HR.out, Lib.hid HB.out, Lib.hid rfl⟩
   case round =>
    obtain ⟨k, l1, rfl, HK, HL1, HRq, HBq, HSq⟩ := hrel; obtain ⟨e3, e4⟩ := EQ.out
    by_cases hkq : k < q
    ·have c1 : decide ((k : Int) < (q : Int)) = true := dT (by clear e3 e4; omega)
     have c2 : decide (k < q) = true := dT hkq; have HKQ := Lib.hid hkq; obtain ⟨k2, hk2⟩ : ∃ k2, k2 = k + 1 := ⟨_, rfl⟩; have HK2 := aM hk2; obtain ⟨x, hx⟩ : ∃ x, l1[k]? = some x := ⟨_, List.getElem?_eq_getElem (by have := HQ.out; have := HL1.out; clear e3 e4; omega)⟩; obtain ⟨y, hy⟩ : ∃ y, l1[k2]? = some y := ⟨_, List.getElem?_eq_getElem (by have := HQ.out; have := HL1.out; clear e3 e4; omega)⟩; have pk : (0 ≤ (k : Int)) = True := eq_true (by clear e3 e4; omega); have qk : ((k : Int) < (len : Int)) = True := eq_true (by have := HQ.out; clear e3 e4; omega); have qk' : (k < len) = True := eq_true (by have := HQ.out; clear e3 e4; omega); have pk2 : (0 ≤ (k2 : Int)) = True := eq_true (by clear e3 e4; omega); have qk2 : ((k2 : Int) < (len : Int)) = True := eq_true (by have := HQ.out; clear e3 e4; omega); have qk2' : (k2 < len) = True := eq_true (by have := HQ.out; clear e3 e4; omega)
     have E5 := aM (show wrap64 ((k : Int) + 1) = (k2 : Int) ∧ IntKind.i64.wrap ((k : Int) + 1) = (k2 : Int) by
      have e := w_one k len (by have := HQ.out; clear e3 e4; omega) (by have := HL.out; clear e3 e4; omega); rw [← hk2] at e
      exact ⟨e, (i64_w _).trans e⟩)
     have hs := HSq.out; rw [show q - k = (q - k2) + 1 by clear e3 e4; omega, upL, ← hk2] at hs; have HSq2 := Lib.hid hs; clear hs HSq hkq hk2; go_wp2; clear e3 e4; obtain ⟨e5, e6⟩ := E5.out; have HRd := aM (HRq.out.below (w' := wr.drew) (below_drew (Below.refl _ _))); have HBd := aM (below_drew HBq.out); obtain ⟨ax0, ax1, ax2⟩ := cellF HAD.out HRd.out hx; obtain ⟨ay0, ay1, ay2⟩ := cellF HAD.out HRd.out hy; refine start_ (n := 18) (S := fun w' => w'.cell? (ad.add (k * 3)) = some (.string x.f0) ∧ w'.cell? ⟨(ad.add (k * 3)).block, (ad.add (k * 3)).off + 1, none⟩ = some (.int .i64 x.f1) ∧ w'.cell? ⟨(ad.add (k * 3)).block, (ad.add (k * 3)).off + 2, none⟩ = some (.bool x.f2) ∧ w'.cell? (ad.add (k2 * 3)) = some (.string y.f0) ∧ w'.cell? ⟨(ad.add (k2 * 3)).block, (ad.add (k2 * 3)).off + 1, none⟩ = some (.int .i64 y.f1) ∧ w'.cell? ⟨(ad.add (k2 * 3)).block, (ad.add (k2 * 3)).off + 2, none⟩ = some (.bool y.f2)) (ds := [15, 17]) (mkB 18 0) (by kernel_rfl) rfl rfl ⟨ax0, ax1, ax2, ay0, ay1, ay2⟩ (fun hHeld => ?_); refine with_tabW symS.tab11 symS.bits11 (fun HT_ HW_ => ?_)
     generalize wr.drew = w6 at HRd HBd hHeld ax0 ax1 ax2 ay0 ay1 ay2 ⊢
     refine pureA 0 (some 61) (mkB 18 1) ?_; refine pureA 1 (some 62) (mkB 18 3) ?_; refine pureA 2 (some 63) (mkB 18 7) ?_; refine pureA 3 (some 64) (mkB 18 15) ?_; refine pureA 4 (some 65) (mkB 18 31) ?_; refine pureA 5 (some 66) (mkB 18 63) ?_; refine pureA 6 (some 67) (mkB 18 127) ?_; refine pureA 7 (some 68) (mkB 18 255) ?_; refine pureA 8 (some 69) (mkB 18 511) ?_; refine takeA 9 (some 70) (mkB 18 1023) ?_ rfl (Or.inl ⟨by rfl, by rintro w' ⟨s0, s1, s2, s3, s4, s5⟩; go_simp; with_reducible rfl⟩); refine pureA 10 (some 71) (mkB 18 2047) ?_; refine pureA 11 (some 72) (mkB 18 4095) ?_; refine pureA 12 (some 73) (mkB 18 8191) ?_; refine takeA 13 (some 74) (mkB 18 16383) ?_ rfl (Or.inl ⟨by rfl, by rintro w' ⟨s0, s1, s2, s3, s4, s5⟩; go_simp; with_reducible rfl⟩); refine pureA 14 (some 75) (mkB 18 32767) ?_; obtain ⟨ax0, fx0, ax1, fx1, ax2, fx2⟩ := storF HAD.out HRd.out hx y; refine last_ (i := 15) (N := none) (mkB 18 65535) rfl rfl (one_of HT_.out (by kernel_rfl)) (by decide) (fun K hK => ?_); refine skip_ (w1 := ?_) (by rfl) rfl ?_ ?_; rotate_left
     ·go_simp
      rfl
     refine hK.out _ _ ?_; clear hK K; have hlen : k < l1.length := (List.getElem?_eq_some_iff.1 hx).1; have hlen2 : k2 < l1.length := (List.getElem?_eq_some_iff.1 hy).1; obtain ⟨HR7, HB7⟩ := putF HAD.out HRd.out HBd.out HG.out y hlen; clear ax0 ax1 ax2 ay0 ay1 ay2 fx0 fx1 fx2 hHeld HRd HBd
     generalize (((w6.setCell (ad.add (k * 3)) (.string y.f0)).setCell ⟨(ad.add (k * 3)).block, (ad.add (k * 3)).off + 1, none⟩ (.int .i64 y.f1)).setCell ⟨(ad.add (k * 3)).block, (ad.add (k * 3)).off + 2, none⟩ (.bool y.f2)) = w7 at HR7 HB7 ⊢
     obtain ⟨z, hz⟩ : ∃ z, (l1.set (k) y)[k2]? = some z := ⟨_, List.getElem?_eq_getElem (by rw [List.length_set]; exact hlen2)⟩; refine pureA 16 (some 76) (mkB 18 131071) ?_; obtain ⟨cz0, fz0, cz1, fz1, cz2, fz2⟩ := storF HAD.out HR7 hz x; refine last_ (i := 17) (N := none) (mkB 18 262143) rfl rfl (one_of HT_.out (by kernel_rfl)) (by decide) (fun K hK => ?_); refine skip_ (w1 := ?_) (by rfl) rfl ?_ ?_; rotate_left
     ·go_simp
      rfl
     refine hK.out _ _ ?_; clear hK K; refine done_ (done_of HT_.out (by kernel_rfl)) ?_; obtain ⟨HR8, HB8⟩ := putF HAD.out HR7 HB7 HG.out x (by rw [List.length_set]; exact hlen2); clear cz0 cz1 cz2 fz0 fz1 fz2 HR7 HB7
     generalize (((w7.setCell (ad.add (k2 * 3)) (.string x.f0)).setCell ⟨(ad.add (k2 * 3)).block, (ad.add (k2 * 3)).off + 1, none⟩ (.int .i64 x.f1)).setCell ⟨(ad.add (k2 * 3)).block, (ad.add (k2 * 3)).off + 2, none⟩ (.bool x.f2)) = w8 at HR8 HB8 ⊢
     go_wp2
     go_roundw
     case rel => exact ⟨k2, swpL l1 k k2, rfl, Lib.hid (by have := HK.out; have := HK2.out; have := HKQ.out; clear e5 e6; omega), Lib.hid (by rw [swpL_len]; exact HL1.out), Lib.hid (by rw [swpL_at hx hy]; exact HR8), Lib.hid HB8, Lib.hid HSq2.out⟩
     case measure =>
      simp only [intOf]; have := HKQ.out; have := HK2.out; clear e5 e6
      omega
    ·have c1 : decide ((k : Int) < (q : Int)) = false := dF (by clear e3 e4; omega)
     have c2 : decide (k < q) = false := dF hkq; have hs := HSq.out; rw [show q - k = 0 by clear e3 e4; omega, upL] at hs; have HSq2 := Lib.hid hs; clear hs HSq hkq; go_wp2; clear e3 e4; refine bodyPost_ret (results_none rfl _ _ _) rfl ?_; exact ⟨rfl, by rw [← HS2.out, show i - 1 - a = q - a by have := HQ.out; omega, ← HSq2.out]; exact HRq.out, HBq.out⟩
theorem dvar (m a d len : Nat) (hd : d = m - a) (h : a ≤ m) (hm : m ≤ len) (hl : len ≤ maxLen) : wrap64 ((m : Int) - (a : Int)) = (d : Int) ∧ IntKind.i64.wrap ((m : Int) - (a : Int)) = (d : Int) := by
 rw [hd]; exact w_sub m a len h hm hl
def symS.T17 : Bool × List (List Nat × List Nat) := (true, [([], []), ([], []), ([], []), ([1, 2], [1, 2]), ([3], [3]), ([], []), ([], []), ([5, 6], [5, 6]), ([7], [7]), ([0, 4, 8], [0, 4, 8]), ([9], [9]), ([10], [10])])
theorem symS.tab17 : rtab .any (opsOf Tryz.f176 17) = symS.T17 := by kernel_rfl
theorem symS.bits17 : waitsOk symS.T17.2 (bitsOf symS.T17.2) = true := by kernel_rfl
theorem symS.tab23 : rtab .any (opsOf Tryz.f176 23) = symS.T11 := by kernel_rfl
theorem sym2.calls (w0 : World) (c g cap len : Nat) (l : List S86) (a m b : Nat) (cf : S86 → S86 → Int) (ok : S86 → Prop) (w : World) (eg : ∀ args w, (callFunc c args).run Tryz.prog w = .ok (.enter c args) w) (hc : CmpF w0 c cf ok) (hok : ∀ x ∈ l, ok x) (hlen : l.length = len) (hr : RowE 86 3 encF w g cap l) (hb0 : Below w0.heap.size w0 w) (hg : w0.heap.size ≤ g) (ham : a + 1 < m) (hmb : b = m + 1) (hb : b ≤ len) (hroom : 2 * len + 2 ≤ maxLen) :
  Calls Tryz.prog 176 #[.slice (some ⟨g, 0, none⟩) len cap, .int .i64 a, .int .i64 m, .int .i64 b, .func (.func c) #[] #[]] w fun e w' => e = .returned (.tuple #[]) ∧ RowE 86 3 encF w' g cap (dnL (m - bsL (fun h => !(ltAt cf l m h)) (m - a) a m) l m) ∧ Below w0.heap.size w0 w' := by
 obtain ⟨ad, had⟩ : ∃ ad : Addr, ad = ⟨g, 0, none⟩ := ⟨_, rfl⟩; rw [← had]; have HAD := aM had; clear had; have hu := Tryz.underlying86; obtain ⟨P, hP⟩ : ∃ P, P = (fun h => !(ltAt cf l m h)) := ⟨_, rfl⟩; rw [← hP]; have HP := aM hP; have HR0 := aM hr; have HB0 := aM hb0; have HG := aM hg; have HC := aM hc; have HOK := aM hok; have HL := aM (And.intro ham (And.intro hmb (And.intro hb (And.intro hlen hr.len)))); have HROOM := aM hroom; have ed : b - m = 1 := by omega
 obtain ⟨d, hd⟩ : ∃ d, d = m - a := ⟨_, rfl⟩; have hd1 : d ≠ 1 := by omega
 have hd2 : ((d : Int) = 1) = False := eq_false (by omega); have hd3 : decide ((d : Int) = 1) = false := dF (by omega); have hd4 : (d = 1) = False := eq_false hd1; have hd5 : decide (d = 1) = false := dF hd1; have hd6 : ((d : Int) == 1) = false := by rw [beq_eq_false_iff_ne]; omega
 have E1 := aM (dvar m a d len hd (by omega) (by omega) (by have := hr.len; omega)); have e3 : wrap64 ((b : Int) - (m : Int)) = 1 := by have := (w_sub b m len (by omega) (by omega) (by have := hr.len; omega)).1; rw [this]; omega
 have e4 : IntKind.i64.wrap ((b : Int) - (m : Int)) = 1 := by have := (w_sub b m len (by omega) (by omega) (by have := hr.len; omega)).2; rw [this]; omega
 have pa : (0 ≤ (m : Int)) = True := eq_true (by clear e3 e4; omega); have qa : ((m : Int) < (len : Int)) = True := eq_true (by clear e3 e4; omega); have qa' : (m < len) = True := eq_true (by clear e3 e4; omega); clear hP hr hg ham hmb hb hlen hc hok hb0 hroom ed hd hd1; obtain ⟨e1, e2⟩ := E1.out; go_enter Tryz.func176, Tryz.ntmps176; go_wp2; clear e1 e2 e3 e4
 go_loopw [14, 15] (fun v10 v11 wr => ∃ (i j f : Nat), v10 = .int .i64 i ∧ v11 = .int .i64 j ∧ Hid (a ≤ i ∧ i ≤ j ∧ j ≤ m ∧ j - i ≤ f) ∧ Hid (RowE 86 3 encF wr g cap l) ∧ Hid (Below w0.heap.size w0 wr) ∧ Hid (bsL P f i j = bsL P (m - a) a m)) (fun v10 v11 _ => (intOf v11).toNat - (intOf v10).toNat)
 case atStart => exact ⟨a, m, m - a, rfl, rfl, Lib.hid (by have := HL.out; omega), Lib.hid HR0.out, Lib.hid HB0.out, Lib.hid rfl⟩
 case round =>
  obtain ⟨i, j, f, rfl, rfl, HI, HR, HB, HS⟩ := hrel
  by_cases hij : i < j
  ·have b1 : decide ((i : Int) < (j : Int)) = true := dT (by omega)
   have b2 : decide (i < j) = true := dT hij; obtain ⟨h, hh⟩ : ∃ h, h = (i + j) / 2 := ⟨_, rfl⟩; have HH := aM (show i ≤ h ∧ h < j by omega); have E0 := aM (w_add i j (2 * len) (by have := HI.out; have := HL.out; omega) (by have := HROOM.out; omega)); have E1 := aM (w_half i j h (2 * len) hh (by have := HI.out; have := HL.out; omega) (by have := HROOM.out; omega)); have E3 := aM (w_one h (len + 1) (by have := HH.out; have := HI.out; have := HL.out; omega) (by have := HROOM.out; omega)); obtain ⟨x, hx⟩ : ∃ x, l[m]? = some x := ⟨_, List.getElem?_eq_getElem (by have := HL.out; omega)⟩; obtain ⟨y, hy⟩ : ∃ y, l[h]? = some y := ⟨_, List.getElem?_eq_getElem (by have := HH.out; have := HI.out; have := HL.out; omega)⟩; have ph : (0 ≤ (h : Int)) = True := eq_true (by omega); have qh : ((h : Int) < (len : Int)) = True := eq_true (by have := HH.out; have := HI.out; have := HL.out; omega); have qh' : (h < len) = True := eq_true (by have := HH.out; have := HI.out; have := HL.out; omega); have hp : P h = !(decide (cf x y < 0)) := by rw [HP.out]; exact congrArg (fun z => !z) (ltAt_eq hx hy)
   have hs := HS.out; rw [show f = (f - 1) + 1 by have := HI.out; omega, bsL, if_pos hij, ← hh, hp] at hs; have HS2 := Lib.hid hs; clear hs HS hp hh hij; obtain ⟨e00, e01⟩ := E0.out; obtain ⟨e1, e2⟩ := E1.out
   by_cases hc : cf x y < 0
   ·have d1 : decide (cf x y < 0) = true := dT hc
    have d2 : (cf x y < 0) = True := eq_true hc; have d3 : (0 ≤ cf x y) = False := eq_false (by clear e1 e2 e00 e01; omega); have d4 : decide (0 ≤ cf x y) = false := dF (by clear e1 e2 e00 e01; omega); have hs3 := HS2.out; rw [dT hc, if_neg (by decide)] at hs3; have HS3 := Lib.hid hs3; clear hs3 hc; go_wp2; clear e1 e2 e00 e01; have HRd := aM (HR.out.below (w' := wr.drew) (below_drew (Below.refl _ _))); have HBd := aM (below_drew HB.out); obtain ⟨ax0, ax1, ax2⟩ := cellF HAD.out HRd.out hx; obtain ⟨ay0, ay1, ay2⟩ := cellF HAD.out HRd.out hy; refine start_ (n := 12) (S := fun w' => w'.cell? (ad.add (m * 3)) = some (.string x.f0) ∧ w'.cell? ⟨(ad.add (m * 3)).block, (ad.add (m * 3)).off + 1, none⟩ = some (.int .i64 x.f1) ∧ w'.cell? ⟨(ad.add (m * 3)).block, (ad.add (m * 3)).off + 2, none⟩ = some (.bool x.f2) ∧ w'.cell? (ad.add (h * 3)) = some (.string y.f0) ∧ w'.cell? ⟨(ad.add (h * 3)).block, (ad.add (h * 3)).off + 1, none⟩ = some (.int .i64 y.f1) ∧ w'.cell? ⟨(ad.add (h * 3)).block, (ad.add (h * 3)).off + 2, none⟩ = some (.bool y.f2)) (ds := []) (mkB 12 0) (by kernel_rfl) rfl rfl ⟨ax0, ax1, ax2, ay0, ay1, ay2⟩ (fun hHeld => ?_); refine with_tabW symS.tab17 symS.bits17 (fun HT_ HW_ => ?_)
    generalize wr.drew = w6 at HRd HBd hHeld ax0 ax1 ax2 ay0 ay1 ay2 ⊢
    refine pureA 0 (some 92) (mkB 12 1) ?_; refine pureA 1 (some 93) (mkB 12 3) ?_; refine pureA 2 (some 94) (mkB 12 7) ?_; refine pureA 3 (some 95) (mkB 12 15) ?_; refine takeA 4 (some 96) (mkB 12 31) ?_ rfl (Or.inl ⟨by rfl, by rintro w' ⟨s0, s1, s2, s3, s4, s5⟩; go_simp; with_reducible rfl⟩); refine pureA 5 (some 97) (mkB 12 63) ?_; refine pureA 6 (some 98) (mkB 12 127) ?_; refine pureA 7 (some 99) (mkB 12 255) ?_; refine takeA 8 (some 100) (mkB 12 511) ?_ rfl (Or.inl ⟨by rfl, by rintro w' ⟨s0, s1, s2, s3, s4, s5⟩; go_simp; with_reducible rfl⟩); refine oneA 9 (some 101) (mkB 12 1023) (fun K hK => ?_); refine call_ c #[.agg #[.string x.f0, .int .i64 x.f1, .bool x.f2], .agg #[.string y.f0, .int .i64 y.f1, .bool y.f2]] (by rfl) rfl (by go_simp; first | done | rfl | exact eg _ _) ?_; refine (HC.out _ HBd.out x y (HOK.out x (List.mem_of_getElem? hx)) (HOK.out y (List.mem_of_getElem? hy))).mono ?_; rintro e w7 ⟨rfl, hb⟩; refine ⟨_, rfl, ?_⟩; have HR7 := aM (HRd.out.below hb); have HB7 := aM (below_step HBd.out hb); clear ax0 ax1 ax2 ay0 ay1 ay2 hHeld HRd HBd hb; obtain ⟨ax0, ax1, ax2⟩ := cellF HAD.out HR7.out hx; obtain ⟨ay0, ay1, ay2⟩ := cellF HAD.out HR7.out hy; refine hK.out _ _ ⟨ax0, ax1, ax2, ay0, ay1, ay2⟩ (fun hHeld => ?_); clear hK K; refine normA ?_; refine pureA 10 (some 102) (mkB 12 2047) ?_; refine pureA 11 (some 103) (mkB 12 4095) ?_; refine done_ (done_of HT_.out (by kernel_rfl)) ?_; clear hHeld ax0 ax1 ax2 ay0 ay1 ay2; go_wp2
    go_roundw
    case rel => exact ⟨i, h, f - 1, rfl, rfl, Lib.hid (by have := HI.out; have := HH.out; omega), Lib.hid HR7.out, Lib.hid HB7.out, Lib.hid HS3.out⟩
    case measure =>
     simp only [intOf]; have := HH.out
     omega
   ·have d1 : decide (cf x y < 0) = false := dF hc
    have d2 : (cf x y < 0) = False := eq_false hc; have d3 : (0 ≤ cf x y) = True := eq_true (by clear e1 e2 e00 e01; omega); have d4 : decide (0 ≤ cf x y) = true := dT (by clear e1 e2 e00 e01; omega); have hs3 := HS2.out; rw [dF hc, if_pos (by decide)] at hs3; have HS3 := Lib.hid hs3; clear hs3 hc; go_wp2; clear e1 e2 e00 e01; have HRd := aM (HR.out.below (w' := wr.drew) (below_drew (Below.refl _ _))); have HBd := aM (below_drew HB.out); obtain ⟨ax0, ax1, ax2⟩ := cellF HAD.out HRd.out hx; obtain ⟨ay0, ay1, ay2⟩ := cellF HAD.out HRd.out hy; refine start_ (n := 12) (S := fun w' => w'.cell? (ad.add (m * 3)) = some (.string x.f0) ∧ w'.cell? ⟨(ad.add (m * 3)).block, (ad.add (m * 3)).off + 1, none⟩ = some (.int .i64 x.f1) ∧ w'.cell? ⟨(ad.add (m * 3)).block, (ad.add (m * 3)).off + 2, none⟩ = some (.bool x.f2) ∧ w'.cell? (ad.add (h * 3)) = some (.string y.f0) ∧ w'.cell? ⟨(ad.add (h * 3)).block, (ad.add (h * 3)).off + 1, none⟩ = some (.int .i64 y.f1) ∧ w'.cell? ⟨(ad.add (h * 3)).block, (ad.add (h * 3)).off + 2, none⟩ = some (.bool y.f2)) (ds := []) (mkB 12 0) (by kernel_rfl) rfl rfl ⟨ax0, ax1, ax2, ay0, ay1, ay2⟩ (fun hHeld => ?_); refine with_tabW symS.tab17 symS.bits17 (fun HT_ HW_ => ?_)
    generalize wr.drew = w6 at HRd HBd hHeld ax0 ax1 ax2 ay0 ay1 ay2 ⊢
    refine pureA 0 (some 92) (mkB 12 1) ?_; refine pureA 1 (some 93) (mkB 12 3) ?_; refine pureA 2 (some 94) (mkB 12 7) ?_; refine pureA 3 (some 95) (mkB 12 15) ?_; refine takeA 4 (some 96) (mkB 12 31) ?_ rfl (Or.inl ⟨by rfl, by rintro w' ⟨s0, s1, s2, s3, s4, s5⟩; go_simp; with_reducible rfl⟩); refine pureA 5 (some 97) (mkB 12 63) ?_; refine pureA 6 (some 98) (mkB 12 127) ?_; refine pureA 7 (some 99) (mkB 12 255) ?_; refine takeA 8 (some 100) (mkB 12 511) ?_ rfl (Or.inl ⟨by rfl, by rintro w' ⟨s0, s1, s2, s3, s4, s5⟩; go_simp; with_reducible rfl⟩); refine oneA 9 (some 101) (mkB 12 1023) (fun K hK => ?_); refine call_ c #[.agg #[.string x.f0, .int .i64 x.f1, .bool x.f2], .agg #[.string y.f0, .int .i64 y.f1, .bool y.f2]] (by rfl) rfl (by go_simp; first | done | rfl | exact eg _ _) ?_; refine (HC.out _ HBd.out x y (HOK.out x (List.mem_of_getElem? hx)) (HOK.out y (List.mem_of_getElem? hy))).mono ?_; rintro e w7 ⟨rfl, hb⟩; refine ⟨_, rfl, ?_⟩; have HR7 := aM (HRd.out.below hb); have HB7 := aM (below_step HBd.out hb); clear ax0 ax1 ax2 ay0 ay1 ay2 hHeld HRd HBd hb; obtain ⟨ax0, ax1, ax2⟩ := cellF HAD.out HR7.out hx; obtain ⟨ay0, ay1, ay2⟩ := cellF HAD.out HR7.out hy; refine hK.out _ _ ⟨ax0, ax1, ax2, ay0, ay1, ay2⟩ (fun hHeld => ?_); clear hK K; refine normA ?_; refine pureA 10 (some 102) (mkB 12 2047) ?_; refine pureA 11 (some 103) (mkB 12 4095) ?_; refine done_ (done_of HT_.out (by kernel_rfl)) ?_; clear hHeld ax0 ax1 ax2 ay0 ay1 ay2; have e3 := E3.out; go_wp2
    go_roundw
    case rel => exact ⟨h + 1, j, f - 1, by rw [e3], rfl, Lib.hid (by have := HI.out; have := HH.out; clear e3; omega), Lib.hid HR7.out, Lib.hid HB7.out, Lib.hid HS3.out⟩
    case measure =>
     rw [e3]; simp only [intOf]; have := HH.out; clear e3
     omega
  ·have b1 : decide ((i : Int) < (j : Int)) = false := dF (by omega)
   have b2 : decide (i < j) = false := dF hij; have hs := HS.out; rw [bsL_same P f i j hij] at hs; have HS2 := Lib.hid hs; clear hs HS hij; go_wp2
   go_loopw [17] (fun v17 wq => ∃ (k : Nat) (l1 : List S86), v17 = .int .i64 k ∧ Hid (i ≤ k ∧ k ≤ m) ∧ Hid (l1.length = len) ∧ Hid (RowE 86 3 encF wq g cap l1) ∧ Hid (Below w0.heap.size w0 wq) ∧ Hid (dnL (k - i) l1 k = dnL (m - i) l m)) (fun v17 _ => (intOf v17).toNat)
   case atStart => exact ⟨m, l, rfl, Lib.hid (by have := HI.out; omega), Lib.hid HL.out.2.2.2.1, Lib.hid HR.out, Lib.hid HB.out, Lib.hid rfl⟩
   case round =>
    obtain ⟨k, l1, rfl, HK, HL1, HRq, HBq, HSq⟩ := hrel
    by_cases hkq : i < k
    ·have c1 : decide ((i : Int) < (k : Int)) = true := dT (by omega)
     have c2 : decide (i < k) = true := dT hkq; have HKQ := Lib.hid hkq; obtain ⟨k2, hk2⟩ : ∃ k2, k2 = k - 1 := ⟨_, rfl⟩; have HK2 := aM hk2; obtain ⟨x, hx⟩ : ∃ x, l1[k]? = some x := ⟨_, List.getElem?_eq_getElem (by have := HL.out; have := HK.out; have := HL1.out; omega)⟩; obtain ⟨y, hy⟩ : ∃ y, l1[k2]? = some y := ⟨_, List.getElem?_eq_getElem (by have := HL.out; have := HK.out; have := HL1.out; omega)⟩; have pk : (0 ≤ (k : Int)) = True := eq_true (by omega); have qk : ((k : Int) < (len : Int)) = True := eq_true (by have := HL.out; have := HK.out; omega); have qk' : (k < len) = True := eq_true (by have := HL.out; have := HK.out; omega); have pk2 : (0 ≤ (k2 : Int)) = True := eq_true (by omega); have qk2 : ((k2 : Int) < (len : Int)) = True := eq_true (by have := HL.out; have := HK.out; omega); have qk2' : (k2 < len) = True := eq_true (by have := HL.out; have := HK.out; omega)
     have E5 := aM (show wrap64 ((k : Int) - 1) = (k2 : Int) ∧ IntKind.i64.wrap ((k : Int) - 1) = (k2 : Int) by
      rw [hk2]
      exact w_dec k len (by omega) (by have := HL.out; have := HK.out; omega) (by have := HL.out; omega))
     have hs := HSq.out; rw [show k - i = (k2 - i) + 1 by omega, dnL, ← hk2] at hs; have HSq2 := Lib.hid hs; clear hs HSq hkq hk2; go_wp2; obtain ⟨e5, e6⟩ := E5.out; have HRd := aM (HRq.out.below (w' := wr.drew) (below_drew (Below.refl _ _))); have HBd := aM (below_drew HBq.out); obtain ⟨ax0, ax1, ax2⟩ := cellF HAD.out HRd.out hx; obtain ⟨ay0, ay1, ay2⟩ := cellF HAD.out HRd.out hy; refine start_ (n := 18) (S := fun w' => w'.cell? (ad.add (k * 3)) = some (.string x.f0) ∧ w'.cell? ⟨(ad.add (k * 3)).block, (ad.add (k * 3)).off + 1, none⟩ = some (.int .i64 x.f1) ∧ w'.cell? ⟨(ad.add (k * 3)).block, (ad.add (k * 3)).off + 2, none⟩ = some (.bool x.f2) ∧ w'.cell? (ad.add (k2 * 3)) = some (.string y.f0) ∧ w'.cell? ⟨(ad.add (k2 * 3)).block, (ad.add (k2 * 3)).off + 1, none⟩ = some (.int .i64 y.f1) ∧ w'.cell? ⟨(ad.add (k2 * 3)).block, (ad.add (k2 * 3)).off + 2, none⟩ = some (.bool y.f2)) (ds := [15, 17]) (mkB 18 0) (by kernel_rfl) rfl rfl ⟨ax0, ax1, ax2, ay0, ay1, ay2⟩ (fun hHeld => ?_); refine with_tabW symS.tab23 symS.bits11 (fun HT_ HW_ => ?_)
     generalize wr.drew = w6 at HRd HBd hHeld ax0 ax1 ax2 ay0 ay1 ay2 ⊢
     refine pureA 0 (some 113) (mkB 18 1) ?_; refine pureA 1 (some 114) (mkB 18 3) ?_; refine pureA 2 (some 115) (mkB 18 7) ?_; refine pureA 3 (some 116) (mkB 18 15) ?_; refine pureA 4 (some 117) (mkB 18 31) ?_; refine pureA 5 (some 118) (mkB 18 63) ?_; refine pureA 6 (some 119) (mkB 18 127) ?_; refine pureA 7 (some 120) (mkB 18 255) ?_; refine pureA 8 (some 121) (mkB 18 511) ?_; refine takeA 9 (some 122) (mkB 18 1023) ?_ rfl (Or.inl ⟨by rfl, by rintro w' ⟨s0, s1, s2, s3, s4, s5⟩; go_simp; with_reducible rfl⟩); refine pureA 10 (some 123) (mkB 18 2047) ?_; refine pureA 11 (some 124) (mkB 18 4095) ?_; refine pureA 12 (some 125) (mkB 18 8191) ?_; refine takeA 13 (some 126) (mkB 18 16383) ?_ rfl (Or.inl ⟨by rfl, by rintro w' ⟨s0, s1, s2, s3, s4, s5⟩; go_simp; with_reducible rfl⟩); refine pureA 14 (some 127) (mkB 18 32767) ?_; obtain ⟨ax0, fx0, ax1, fx1, ax2, fx2⟩ := storF HAD.out HRd.out hx y; refine last_ (i := 15) (N := none) (mkB 18 65535) rfl rfl (one_of HT_.out (by kernel_rfl)) (by decide) (fun K hK => ?_); refine skip_ (w1 := ?_) (by rfl) rfl ?_ ?_; rotate_left
     ·go_simp
      rfl
     refine hK.out _ _ ?_; clear hK K; have hlen : k < l1.length := (List.getElem?_eq_some_iff.1 hx).1; have hlen2 : k2 < l1.length := (List.getElem?_eq_some_iff.1 hy).1; obtain ⟨HR7, HB7⟩ := putF HAD.out HRd.out HBd.out HG.out y hlen; clear ax0 ax1 ax2 ay0 ay1 ay2 fx0 fx1 fx2 hHeld HRd HBd
     generalize (((w6.setCell (ad.add (k * 3)) (.string y.f0)).setCell ⟨(ad.add (k * 3)).block, (ad.add (k * 3)).off + 1, none⟩ (.int .i64 y.f1)).setCell ⟨(ad.add (k * 3)).block, (ad.add (k * 3)).off + 2, none⟩ (.bool y.f2)) = w7 at HR7 HB7 ⊢
     obtain ⟨z, hz⟩ : ∃ z, (l1.set (k) y)[k2]? = some z := ⟨_, List.getElem?_eq_getElem (by rw [List.length_set]; exact hlen2)⟩; refine pureA 16 (some 128) (mkB 18 131071) ?_; obtain ⟨cz0, fz0, cz1, fz1, cz2, fz2⟩ := storF HAD.out HR7 hz x; refine last_ (i := 17) (N := none) (mkB 18 262143) rfl rfl (one_of HT_.out (by kernel_rfl)) (by decide) (fun K hK => ?_); refine skip_ (w1 := ?_) (by rfl) rfl ?_ ?_; rotate_left
     ·go_simp
      rfl
     refine hK.out _ _ ?_; clear hK K; refine done_ (done_of HT_.out (by kernel_rfl)) ?_; obtain ⟨HR8, HB8⟩ := putF HAD.out HR7 HB7 HG.out x (by rw [List.length_set]; exact hlen2); clear cz0 cz1 cz2 fz0 fz1 fz2 HR7 HB7
     generalize (((w7.setCell (ad.add (k2 * 3)) (.string x.f0)).setCell ⟨(ad.add (k2 * 3)).block, (ad.add (k2 * 3)).off + 1, none⟩ (.int .i64 x.f1)).setCell ⟨(ad.add (k2 * 3)).block, (ad.add (k2 * 3)).off + 2, none⟩ (.bool x.f2)) = w8 at HR8 HB8 ⊢
     go_wp2
     go_roundw
     case rel => exact ⟨k2, swpL l1 k k2, rfl, Lib.hid (by have := HK.out; have := HK2.out; have := HKQ.out; clear e5 e6; omega), Lib.hid (by rw [swpL_len]; exact HL1.out), Lib.hid (by rw [swpL_at hx hy]; exact HR8), Lib.hid HB8, Lib.hid HSq2.out⟩
     case measure =>
      simp only [intOf]; have := HKQ.out; have := HK2.out; clear e5 e6
      omega
    ·have c1 : decide ((i : Int) < (k : Int)) = false := dF (by omega)
     have c2 : decide (i < k) = false := dF hkq; have hs := HSq.out; rw [show k - i = 0 by omega, dnL] at hs; have HSq2 := Lib.hid hs; clear hs HSq hkq; go_wp2; refine bodyPost_ret (results_none rfl _ _ _) rfl ?_; exact ⟨rfl, by rw [← HS2.out, ← HSq2.out]; exact HRq.out, HBq.out⟩
theorem dTn {x y : Nat} (h : x < y) : decide ((x : Int) < (y : Int)) = true ∧ decide (x < y) = true := ⟨dT (by omega), dT h⟩
theorem dFn {x y : Nat} (h : ¬ x < y) : decide ((x : Int) < (y : Int)) = false ∧ decide (x < y) = false := ⟨dF (by omega), dF h⟩
theorem nR {a b c d : Nat} (h : ¬ c < d) : ¬ (a < b ∧ c < d) := fun k => h k.2
theorem nL {a b c d : Nat} (h : ¬ a < b) : ¬ (a < b ∧ c < d) := fun k => h k.1
def symTail {α : Type} (R : List α → Nat → Nat → Nat → List α) (l : List α) (a m b mid s e : Nat) : List α :=
 if mid < e ∧ e < b then R (if a < s ∧ s < mid then R (if s < m ∧ m < e then rotGo (e - s) l m (m - s) (e - m) else l) a s mid else (if s < m ∧ m < e then rotGo (e - s) l m (m - s) (e - m) else l)) mid e b else (if a < s ∧ s < mid then R (if s < m ∧ m < e then rotGo (e - s) l m (m - s) (e - m) else l) a s mid else (if s < m ∧ m < e then rotGo (e - s) l m (m - s) (e - m) else l))
def symS0 (a m b : Nat) : Nat := if (a + b) / 2 < m then (a + b) / 2 + m - b else a
def symR0 (a m b : Nat) : Nat := if (a + b) / 2 < m then (a + b) / 2 else m
def symAt {α : Type} (cf : α → α → Int) (l : List α) (a m b : Nat) : Nat := bsL (fun h => !(ltAt cf l ((a + b) / 2 + m - 1 - h) h)) (symR0 a m b - symS0 a m b) (symS0 a m b) (symR0 a m b)
def symBig {α : Type} (cf : α → α → Int) (R : List α → Nat → Nat → Nat → List α) (l : List α) (a m b : Nat) : List α := symTail R l a m b ((a + b) / 2) (symAt cf l a m b) ((a + b) / 2 + m - symAt cf l a m b)
def symS.T35 : Bool × List (List Nat × List Nat) := (true, [([], []), ([], []), ([], []), ([], []), ([2, 3], [2, 3]), ([1, 4], [1, 4]), ([5], [5]), ([], []), ([], []), ([7, 8], [7, 8]), ([9], [9]), ([0, 6, 10], [0, 6, 10]), ([11], [11]), ([12], [12])])
theorem symS.tab35 : rtab .any (opsOf Tryz.f176 35) = symS.T35 := by kernel_rfl
theorem symS.bits35 : waitsOk symS.T35.2 (bitsOf symS.T35.2) = true := by kernel_rfl
theorem sym3.calls (w0 : World) (c g cap len : Nat) (R : List S86 → Nat → Nat → Nat → List S86) (l : List S86) (a m b : Nat) (cf : S86 → S86 → Int) (ok : S86 → Prop) (w : World) (eg : ∀ args w, (callFunc c args).run Tryz.prog w = .ok (.enter c args) w) (hc : CmpF w0 c cf ok) (hok : ∀ x ∈ l, ok x) (hlen : l.length = len) (hr : RowE 86 3 encF w g cap l) (hb0 : Below w0.heap.size w0 w) (hg : w0.heap.size ≤ g) (ham : a + 1 < m) (hmb : m + 1 < b) (hb : b ≤ len) (hroom : 2 * len + 2 ≤ maxLen)
  (hrok : ∀ l a m b, (∀ x ∈ l, ok x) → ∀ x ∈ R l a m b, ok x) (hrlen : ∀ l a m b, (R l a m b).length = l.length)
  (hrec : ∀ (l : List S86) (a' m' b' : Nat) (W : World), a' < m' → m' < b' → b' - a' < b - a → b' ≤ len → (∀ x ∈ l, ok x) → l.length = len → RowE 86 3 encF W g cap l → Below w0.heap.size w0 W → Calls Tryz.prog 176 #[.slice (some ⟨g, 0, none⟩) len cap, .int .i64 a', .int .i64 m', .int .i64 b', .func (.func c) #[] #[]] W fun e w' => e = .returned (.tuple #[]) ∧ RowE 86 3 encF w' g cap (R l a' m' b') ∧ Below w0.heap.size w0 w') :
  Calls Tryz.prog 176 #[.slice (some ⟨g, 0, none⟩) len cap, .int .i64 a, .int .i64 m, .int .i64 b, .func (.func c) #[] #[]] w fun e w' => e = .returned (.tuple #[]) ∧ RowE 86 3 encF w' g cap (symBig cf R l a m b) ∧ Below w0.heap.size w0 w' := by
 have hrot : ∀ (l2 : List S86) (s m e : Nat) (W : World), l2.length = len → RowE 86 3 encF W g cap l2 → s < m → m < e → e ≤ len → Calls Tryz.prog 181 #[.slice (some ⟨g, 0, none⟩) len cap, .int .i64 s, .int .i64 m, .int .i64 e, .func (.func c) #[] #[]] W fun e' w' => e' = .returned (.tuple #[]) ∧ RowE 86 3 encF w' g cap (rotGo (e - s) l2 m (m - s) (e - m)) ∧ Below w0.heap.size W w' := fun l2 s m e W h1 h2 h3 h4 h5 => rot.calls w0.heap.size g cap len l2 s m e _ W h1 h2 hg h3 h4 h5
 obtain ⟨ad, had⟩ : ∃ ad : Addr, ad = ⟨g, 0, none⟩ := ⟨_, rfl⟩; rw [← had] at hrot hrec; rw [← had]; have HAD := aM had; clear had; have hu := Tryz.underlying86; obtain ⟨mid, hmid⟩ : ∃ mid, mid = (a + b) / 2 := ⟨_, rfl⟩; obtain ⟨n, hn⟩ : ∃ n, n = mid + m := ⟨_, rfl⟩; obtain ⟨p, hp⟩ : ∃ p, p = n - 1 := ⟨_, rfl⟩; obtain ⟨s0, hs0⟩ : ∃ s0, s0 = symS0 a m b := ⟨_, rfl⟩; obtain ⟨r0, hr0⟩ : ∃ r0, r0 = symR0 a m b := ⟨_, rfl⟩; obtain ⟨P, hP⟩ : ∃ P, P = (fun h => !(ltAt cf l (p - h) h)) := ⟨_, rfl⟩
 have hbig : symBig cf R l a m b = symTail R l a m b mid (bsL P (r0 - s0) s0 r0) (n - bsL P (r0 - s0) s0 r0) := by
  subst hP hp hn hmid hs0 hr0; rfl
 rw [hbig]; have hs1 : s0 = if mid < m then n - b else a := by subst hn hmid hs0; rfl
 have hr1 : r0 = if mid < m then mid else m := by subst hmid hr0; rfl
 have HP := aM hP; have HR0 := aM hr; have HB0 := aM hb0; have HG := aM hg; have HC := aM hc; have HOK := aM hok; have HROT := aM hrot; have HREC := aM hrec; have HROK := aM hrok; have HRLEN := aM hrlen; have HL := aM (And.intro ham (And.intro hmb (And.intro hb (And.intro hlen hr.len)))); have HM := aM (show mid - a < b - a ∧ mid ≤ len ∧ b - mid < b - a ∧ b ≤ len by omega); have HN := aM (show n = mid + m ∧ p = n - 1 ∧ a ≤ mid ∧ mid < b ∧ n ≤ 2 * len by omega); have HROOM := aM hroom
 have HW : Aside0 (a ≤ s0 ∧ s0 ≤ r0 ∧ r0 ≤ m ∧ (∀ h, s0 ≤ h → h < r0 → p - h < len ∧ h ≤ p) ∧ n - b ≤ s0 ∧ s0 ≤ n ∧ r0 ≤ n) := by
  refine aM ?_
  by_cases h : mid < m
  ·rw [if_pos h] at hs1 hr1
   refine ⟨by omega, by omega, by omega, fun h _ _ => by omega, by omega, by omega, by omega⟩
  ·rw [if_neg h] at hs1 hr1
   refine ⟨by omega, by omega, by omega, fun h _ _ => by omega, by omega, by omega, by omega⟩
 obtain ⟨d, hd⟩ : ∃ d, d = m - a := ⟨_, rfl⟩; have hd1 : d ≠ 1 := by omega
 have hd2 : ((d : Int) = 1) = False := eq_false (by omega); have hd3 : decide ((d : Int) = 1) = false := dF (by omega); have hd4 : (d = 1) = False := eq_false hd1; have hd5 : decide (d = 1) = false := dF hd1; have hd6 : ((d : Int) == 1) = false := by rw [beq_eq_false_iff_ne]; omega
 obtain ⟨d', hd'⟩ : ∃ d', d' = b - m := ⟨_, rfl⟩; have hd1' : d' ≠ 1 := by omega
 have hd2' : ((d' : Int) = 1) = False := eq_false (by omega); have hd3' : decide ((d' : Int) = 1) = false := dF (by omega); have hd4' : (d' = 1) = False := eq_false hd1'; have hd5' : decide (d' = 1) = false := dF hd1'; have hd6' : ((d' : Int) == 1) = false := by rw [beq_eq_false_iff_ne]; omega
 have E1 := aM (dvar m a d len hd (by omega) (by omega) (by have := hr.len; omega)); have E2 := aM (dvar b m d' len hd' (by omega) (by omega) (by have := hr.len; omega)); have E3 := aM (w_add a b (2 * len) (by omega) (by omega)); have E4 := aM (w_half a b mid (2 * len) hmid (by omega) (by omega))
 have E5 : Aside0 (wrap64 ((mid : Int) + (m : Int)) = (n : Int) ∧ IntKind.i64.wrap ((mid : Int) + (m : Int)) = (n : Int)) := by
  refine aM ?_; rw [hn]; exact w_add mid m (2 * len) (by omega) (by omega)
 have E6 : Aside0 (wrap64 ((n : Int) - 1) = (p : Int) ∧ IntKind.i64.wrap ((n : Int) - 1) = (p : Int)) := by
  refine aM ?_; rw [hp]; exact w_dec n (2 * len) (by omega) (by omega) (by omega)
 have E7 : Aside0 (mid < m → wrap64 ((n : Int) - (b : Int)) = (s0 : Int) ∧ IntKind.i64.wrap ((n : Int) - (b : Int)) = (s0 : Int)) := by
  refine aM (fun h => ?_); rw [if_pos h] at hs1; exact dvar n b s0 (2 * len) hs1 (by omega) (by omega) (by omega)
 have HS1 := aM hs1; have HR1 := aM hr1; clear hP hr hg ham hmb hb hlen hc hok hb0 hroom hrot hrec hrok hrlen hd hd1 hd' hd1' hmid hn hp hs0 hr0 hs1 hr1 hbig; go_enter Tryz.func176, Tryz.ntmps176
 by_cases hmm : mid < m
 ·have k1 : decide ((mid : Int) < (m : Int)) = true := dT (by omega)
  have k2 : decide (mid < m) = true := dT hmm; obtain ⟨e13, e14⟩ := E7.out hmm; have HRR := aM (show r0 = mid by have := HR1.out; rw [if_pos hmm] at this; exact this); obtain ⟨e1, e2⟩ := E1.out; obtain ⟨e3, e4⟩ := E2.out; obtain ⟨e5, e6⟩ := E3.out; obtain ⟨e7, e8⟩ := E4.out; obtain ⟨e9, e10⟩ := E5.out; obtain ⟨e11, e12⟩ := E6.out; clear hmm; go_wp2; clear e1 e2 e3 e4 e5 e6 e7 e8 e9 e10 e11 e12 e13 e14
  go_loopw [20, 21] (fun v10 v11 wr => ∃ (i j f : Nat), v10 = .int .i64 i ∧ v11 = .int .i64 j ∧ Hid (s0 ≤ i ∧ i ≤ j ∧ j ≤ r0 ∧ j - i ≤ f) ∧ Hid (RowE 86 3 encF wr g cap l) ∧ Hid (Below w0.heap.size w0 wr) ∧ Hid (bsL P f i j = bsL P (r0 - s0) s0 r0)) (fun v10 v11 _ => (intOf v11).toNat - (intOf v10).toNat)
  case atStart => exact ⟨s0, r0, r0 - s0, by rfl, by rw [HRR.out], Lib.hid (by have := HW.out; omega), Lib.hid HR0.out, Lib.hid HB0.out, Lib.hid rfl⟩
  case round =>
   obtain ⟨i, j, f, rfl, rfl, HI, HR, HB, HS⟩ := hrel
   by_cases hij : i < j
   ·have b1 : decide ((i : Int) < (j : Int)) = true := dT (by omega)
    have b2 : decide (i < j) = true := dT hij; obtain ⟨h, hh⟩ : ∃ h, h = (i + j) / 2 := ⟨_, rfl⟩; obtain ⟨u, hu'⟩ : ∃ u, u = p - h := ⟨_, rfl⟩; have HH := aM (show i ≤ h ∧ h < j by omega); have HU := aM (show u < len ∧ h ≤ p ∧ h < m by have := HW.out.2.2.2.1 h (by have := HI.out; omega) (by have := HI.out; omega); have := HW.out.2.2.1; have := HI.out; omega); have E0 := aM (w_add i j (2 * len) (by have := HI.out; have := HW.out.2.2.1; have := HL.out; omega) (by have := HROOM.out; omega)); have E1 := aM (w_half i j h (2 * len) hh (by have := HI.out; have := HW.out.2.2.1; have := HL.out; omega) (by have := HROOM.out; omega)); have E3 := aM (w_one h (len + 1) (by have := HU.out; have := HL.out; omega) (by have := HROOM.out; omega)); have E8 := aM (dvar p h u (2 * len) hu' HU.out.2.1 (by have := HN.out; omega) (by have := HROOM.out; omega)); obtain ⟨x, hx⟩ : ∃ x, l[u]? = some x := ⟨_, List.getElem?_eq_getElem (by have := HU.out; have := HL.out; omega)⟩; obtain ⟨y, hy⟩ : ∃ y, l[h]? = some y := ⟨_, List.getElem?_eq_getElem (by have := HU.out; have := HL.out; omega)⟩; have pu : (0 ≤ (u : Int)) = True := eq_true (by omega); have qu : ((u : Int) < (len : Int)) = True := eq_true (by have := HU.out; omega); have qu' : (u < len) = True := eq_true (by have := HU.out; omega); have ph : (0 ≤ (h : Int)) = True := eq_true (by omega); have qh : ((h : Int) < (len : Int)) = True := eq_true (by have := HU.out; have := HL.out; omega); have qh' : (h < len) = True := eq_true (by have := HU.out; have := HL.out; omega); have hp : P h = !(decide (cf x y < 0)) := by rw [HP.out]; show (!(ltAt cf l (p - h) h)) = _; rw [← hu']; exact congrArg (fun z => !z) (ltAt_eq hx hy)
    have hs := HS.out; rw [show f = (f - 1) + 1 by have := HI.out; omega, bsL, if_pos hij, ← hh, hp] at hs; have HS2 := Lib.hid hs; clear hs HS hp hh hij hu'; obtain ⟨e00, e01⟩ := E0.out; obtain ⟨e1, e2⟩ := E1.out
    by_cases hc : cf x y < 0
    ·have d1 : decide (cf x y < 0) = true := dT hc
     have d2 : (cf x y < 0) = True := eq_true hc; have d3 : (0 ≤ cf x y) = False := eq_false (by clear e1 e2 e00 e01; omega); have d4 : decide (0 ≤ cf x y) = false := dF (by clear e1 e2 e00 e01; omega); have hs3 := HS2.out; rw [dT hc, if_neg (by decide)] at hs3; have HS3 := Lib.hid hs3; clear hs3 hc; go_wp2; clear e1 e2 e00 e01; obtain ⟨e8, e9⟩ := E8.out; have HRd := aM (HR.out.below (w' := wr.drew) (below_drew (Below.refl _ _))); have HBd := aM (below_drew HB.out); obtain ⟨ax0, ax1, ax2⟩ := cellF HAD.out HRd.out hx; obtain ⟨ay0, ay1, ay2⟩ := cellF HAD.out HRd.out hy; refine start_ (n := 14) (S := fun w' => w'.cell? (ad.add (u * 3)) = some (.string x.f0) ∧ w'.cell? ⟨(ad.add (u * 3)).block, (ad.add (u * 3)).off + 1, none⟩ = some (.int .i64 x.f1) ∧ w'.cell? ⟨(ad.add (u * 3)).block, (ad.add (u * 3)).off + 2, none⟩ = some (.bool x.f2) ∧ w'.cell? (ad.add (h * 3)) = some (.string y.f0) ∧ w'.cell? ⟨(ad.add (h * 3)).block, (ad.add (h * 3)).off + 1, none⟩ = some (.int .i64 y.f1) ∧ w'.cell? ⟨(ad.add (h * 3)).block, (ad.add (h * 3)).off + 2, none⟩ = some (.bool y.f2)) (ds := []) (mkB 14 0) (by kernel_rfl) rfl rfl ⟨ax0, ax1, ax2, ay0, ay1, ay2⟩ (fun hHeld => ?_); refine with_tabW symS.tab35 symS.bits35 (fun HT_ HW_ => ?_)
     generalize wr.drew = w6 at HRd HBd hHeld ax0 ax1 ax2 ay0 ay1 ay2 ⊢
     refine pureA 0 (some 158) (mkB 14 1) ?_; refine pureA 1 (some 159) (mkB 14 3) ?_; refine pureA 2 (some 160) (mkB 14 7) ?_; refine pureA 3 (some 161) (mkB 14 15) ?_; refine pureA 4 (some 162) (mkB 14 31) ?_; refine pureA 5 (some 163) (mkB 14 63) ?_; refine takeA 6 (some 164) (mkB 14 127) ?_ rfl (Or.inl ⟨by rfl, by rintro w' ⟨s0, s1, s2, s3, s4, s5⟩; go_simp; with_reducible rfl⟩); refine pureA 7 (some 165) (mkB 14 255) ?_; refine pureA 8 (some 166) (mkB 14 511) ?_; refine pureA 9 (some 167) (mkB 14 1023) ?_; refine takeA 10 (some 168) (mkB 14 2047) ?_ rfl (Or.inl ⟨by rfl, by rintro w' ⟨s0, s1, s2, s3, s4, s5⟩; go_simp; with_reducible rfl⟩); refine oneA 11 (some 169) (mkB 14 4095) (fun K hK => ?_); refine call_ c #[.agg #[.string x.f0, .int .i64 x.f1, .bool x.f2], .agg #[.string y.f0, .int .i64 y.f1, .bool y.f2]] (by rfl) rfl (by go_simp; first | done | rfl | exact eg _ _) ?_; refine (HC.out _ HBd.out x y (HOK.out x (List.mem_of_getElem? hx)) (HOK.out y (List.mem_of_getElem? hy))).mono ?_; rintro e w7 ⟨rfl, hb⟩; refine ⟨_, rfl, ?_⟩; have HR7 := aM (HRd.out.below hb); have HB7 := aM (below_step HBd.out hb); clear ax0 ax1 ax2 ay0 ay1 ay2 hHeld HRd HBd hb; obtain ⟨ax0, ax1, ax2⟩ := cellF HAD.out HR7.out hx; obtain ⟨ay0, ay1, ay2⟩ := cellF HAD.out HR7.out hy; refine hK.out _ _ ⟨ax0, ax1, ax2, ay0, ay1, ay2⟩ (fun hHeld => ?_); clear hK K; refine normA ?_; refine pureA 12 (some 170) (mkB 14 8191) ?_; refine pureA 13 (some 171) (mkB 14 16383) ?_; refine done_ (done_of HT_.out (by kernel_rfl)) ?_; clear hHeld ax0 ax1 ax2 ay0 ay1 ay2 e8 e9; go_wp2
     go_roundw
     case rel => exact ⟨i, h, f - 1, rfl, rfl, Lib.hid (by have := HI.out; have := HH.out; omega), Lib.hid HR7.out, Lib.hid HB7.out, Lib.hid HS3.out⟩
     case measure =>
      simp only [intOf]; have := HH.out
      omega
    ·have d1 : decide (cf x y < 0) = false := dF hc
     have d2 : (cf x y < 0) = False := eq_false hc; have d3 : (0 ≤ cf x y) = True := eq_true (by clear e1 e2 e00 e01; omega); have d4 : decide (0 ≤ cf x y) = true := dT (by clear e1 e2 e00 e01; omega); have hs3 := HS2.out; rw [dF hc, if_pos (by decide)] at hs3; have HS3 := Lib.hid hs3; clear hs3 hc; go_wp2; clear e1 e2 e00 e01; obtain ⟨e8, e9⟩ := E8.out; have HRd := aM (HR.out.below (w' := wr.drew) (below_drew (Below.refl _ _))); have HBd := aM (below_drew HB.out); obtain ⟨ax0, ax1, ax2⟩ := cellF HAD.out HRd.out hx; obtain ⟨ay0, ay1, ay2⟩ := cellF HAD.out HRd.out hy; refine start_ (n := 14) (S := fun w' => w'.cell? (ad.add (u * 3)) = some (.string x.f0) ∧ w'.cell? ⟨(ad.add (u * 3)).block, (ad.add (u * 3)).off + 1, none⟩ = some (.int .i64 x.f1) ∧ w'.cell? ⟨(ad.add (u * 3)).block, (ad.add (u * 3)).off + 2, none⟩ = some (.bool x.f2) ∧ w'.cell? (ad.add (h * 3)) = some (.string y.f0) ∧ w'.cell? ⟨(ad.add (h * 3)).block, (ad.add (h * 3)).off + 1, none⟩ = some (.int .i64 y.f1) ∧ w'.cell? ⟨(ad.add (h * 3)).block, (ad.add (h * 3)).off + 2, none⟩ = some (.bool y.f2)) (ds := []) (mkB 14 0) (by kernel_rfl) rfl rfl ⟨ax0, ax1, ax2, ay0, ay1, ay2⟩ (fun hHeld => ?_); refine with_tabW symS.tab35 symS.bits35 (fun HT_ HW_ => ?_)
     generalize wr.drew = w6 at HRd HBd hHeld ax0 ax1 ax2 ay0 ay1 ay2 ⊢
     refine pureA 0 (some 158) (mkB 14 1) ?_; refine pureA 1 (some 159) (mkB 14 3) ?_; refine pureA 2 (some 160) (mkB 14 7) ?_; refine pureA 3 (some 161) (mkB 14 15) ?_; refine pureA 4 (some 162) (mkB 14 31) ?_; refine pureA 5 (some 163) (mkB 14 63) ?_; refine takeA 6 (some 164) (mkB 14 127) ?_ rfl (Or.inl ⟨by rfl, by rintro w' ⟨s0, s1, s2, s3, s4, s5⟩; go_simp; with_reducible rfl⟩); refine pureA 7 (some 165) (mkB 14 255) ?_; refine pureA 8 (some 166) (mkB 14 511) ?_; refine pureA 9 (some 167) (mkB 14 1023) ?_; refine takeA 10 (some 168) (mkB 14 2047) ?_ rfl (Or.inl ⟨by rfl, by rintro w' ⟨s0, s1, s2, s3, s4, s5⟩; go_simp; with_reducible rfl⟩); refine oneA 11 (some 169) (mkB 14 4095) (fun K hK => ?_); refine call_ c #[.agg #[.string x.f0, .int .i64 x.f1, .bool x.f2], .agg #[.string y.f0, .int .i64 y.f1, .bool y.f2]] (by rfl) rfl (by go_simp; first | done | rfl | exact eg _ _) ?_; refine (HC.out _ HBd.out x y (HOK.out x (List.mem_of_getElem? hx)) (HOK.out y (List.mem_of_getElem? hy))).mono ?_; rintro e w7 ⟨rfl, hb⟩; refine ⟨_, rfl, ?_⟩; have HR7 := aM (HRd.out.below hb); have HB7 := aM (below_step HBd.out hb); clear ax0 ax1 ax2 ay0 ay1 ay2 hHeld HRd HBd hb; obtain ⟨ax0, ax1, ax2⟩ := cellF HAD.out HR7.out hx; obtain ⟨ay0, ay1, ay2⟩ := cellF HAD.out HR7.out hy; refine hK.out _ _ ⟨ax0, ax1, ax2, ay0, ay1, ay2⟩ (fun hHeld => ?_); clear hK K; refine normA ?_; refine pureA 12 (some 170) (mkB 14 8191) ?_; refine pureA 13 (some 171) (mkB 14 16383) ?_; refine done_ (done_of HT_.out (by kernel_rfl)) ?_; clear hHeld ax0 ax1 ax2 ay0 ay1 ay2 e8 e9; have e3 := E3.out; go_wp2
     go_roundw
     case rel => exact ⟨h + 1, j, f - 1, by rw [e3], rfl, Lib.hid (by have := HI.out; have := HH.out; clear e3; omega), Lib.hid HR7.out, Lib.hid HB7.out, Lib.hid HS3.out⟩
     case measure =>
      rw [e3]; simp only [intOf]; have := HH.out; clear e3
      omega
   ·have b1 : decide ((i : Int) < (j : Int)) = false := dF (by omega)
    have b2 : decide (i < j) = false := dF hij; have hs := HS.out; rw [bsL_same P f i j hij] at hs; obtain ⟨s, rfl⟩ : ∃ s, s = i := ⟨_, rfl⟩; obtain ⟨e, he⟩ : ∃ e, e = n - s := ⟨_, rfl⟩; have HT3 := Lib.hid (show symTail R l a m b mid s e = symTail R l a m b mid (bsL P (r0 - s0) s0 r0) (n - bsL P (r0 - s0) s0 r0) by rw [he, hs]); have HE := aM (show e ≤ len ∧ s ≤ n by have := HW.out; have := HI.out; have := HL.out; omega); have ES := aM (dvar n s e (2 * len) he HE.out.2 (by have := HN.out; omega) (by have := HROOM.out; omega)); clear hs HS hij he
    by_cases q0 : s < m
    ·by_cases t0 : m < e
     ·obtain ⟨g0a, g0b⟩ := dTn q0
      obtain ⟨g1a, g1b⟩ := dTn t0; have Q0 := Lib.hid (And.intro q0 t0); clear q0 t0
      by_cases q1 : a < s
      ·by_cases t1 : s < mid
       ·obtain ⟨g2a, g2b⟩ := dTn q1
        obtain ⟨g3a, g3b⟩ := dTn t1; have Q1 := Lib.hid (And.intro q1 t1); clear q1 t1
        by_cases q2 : mid < e
        ·by_cases t2 : e < b
         ·obtain ⟨g4a, g4b⟩ := dTn q2
          obtain ⟨g5a, g5b⟩ := dTn t2; have Q2 := Lib.hid (And.intro q2 t2); clear q2 t2; obtain ⟨e1, e2⟩ := ES.out; go_wp2_with (first | (go_at_call 181; refine (HROT.out l s m e _ HL.out.2.2.2.1 HR.out Q0.out.1 Q0.out.2 HE.out.1).mono ?_; rintro e' w5 ⟨rfl, h5, b5⟩) | ((fail_if_success (clear h6)); go_at_call 176; refine (HREC.out (rotGo (e - s) l m (m - s) (e - m)) a s mid _ Q1.out.1 Q1.out.2 HM.out.1 HM.out.2.1 (all_rotGo _ _ _ _ HOK.out) ((rotGo_len _ _ _ _ _).trans HL.out.2.2.2.1) h5 (HB.out.trans b5)).mono ?_; rintro e' w6 ⟨rfl, h6, b6⟩) | (go_at_call 176; refine (HREC.out (R (rotGo (e - s) l m (m - s) (e - m)) a s mid) mid e b _ Q2.out.1 Q2.out.2 HM.out.2.2.1 HM.out.2.2.2 (HROK.out _ a s mid (all_rotGo _ _ _ _ HOK.out)) ((HRLEN.out _ a s mid).trans ((rotGo_len _ _ _ _ _).trans HL.out.2.2.2.1)) h6 b6).mono ?_; rintro e' w7 ⟨rfl, h7, b7⟩))
          go_end0
          exact ⟨rfl, by rw [← HT3.out, symTail, if_pos Q2.out, if_pos Q1.out, if_pos Q0.out]; exact h7, b7⟩
         ·obtain ⟨g4a, g4b⟩ := dTn q2
          obtain ⟨g5a, g5b⟩ := dFn t2; have Q2 := Lib.hid (nR (a := mid) (b := e) t2); clear q2 t2; obtain ⟨e1, e2⟩ := ES.out; go_wp2_with (first | (go_at_call 181; refine (HROT.out l s m e _ HL.out.2.2.2.1 HR.out Q0.out.1 Q0.out.2 HE.out.1).mono ?_; rintro e' w5 ⟨rfl, h5, b5⟩) | ((fail_if_success (clear h6)); go_at_call 176; refine (HREC.out (rotGo (e - s) l m (m - s) (e - m)) a s mid _ Q1.out.1 Q1.out.2 HM.out.1 HM.out.2.1 (all_rotGo _ _ _ _ HOK.out) ((rotGo_len _ _ _ _ _).trans HL.out.2.2.2.1) h5 (HB.out.trans b5)).mono ?_; rintro e' w6 ⟨rfl, h6, b6⟩))
          go_end0
          exact ⟨rfl, by rw [← HT3.out, symTail, if_neg Q2.out, if_pos Q1.out, if_pos Q0.out]; exact h6, b6⟩
        ·obtain ⟨g4a, g4b⟩ := dFn q2
         have Q2 := Lib.hid (nL (c := e) (d := b) q2); clear q2; obtain ⟨e1, e2⟩ := ES.out; go_wp2_with (first | (go_at_call 181; refine (HROT.out l s m e _ HL.out.2.2.2.1 HR.out Q0.out.1 Q0.out.2 HE.out.1).mono ?_; rintro e' w5 ⟨rfl, h5, b5⟩) | ((fail_if_success (clear h6)); go_at_call 176; refine (HREC.out (rotGo (e - s) l m (m - s) (e - m)) a s mid _ Q1.out.1 Q1.out.2 HM.out.1 HM.out.2.1 (all_rotGo _ _ _ _ HOK.out) ((rotGo_len _ _ _ _ _).trans HL.out.2.2.2.1) h5 (HB.out.trans b5)).mono ?_; rintro e' w6 ⟨rfl, h6, b6⟩))
         go_end0
         exact ⟨rfl, by rw [← HT3.out, symTail, if_neg Q2.out, if_pos Q1.out, if_pos Q0.out]; exact h6, b6⟩
       ·obtain ⟨g2a, g2b⟩ := dTn q1
        obtain ⟨g3a, g3b⟩ := dFn t1; have Q1 := Lib.hid (nR (a := a) (b := s) t1); clear q1 t1
        by_cases q2 : mid < e
        ·by_cases t2 : e < b
         ·obtain ⟨g4a, g4b⟩ := dTn q2
          obtain ⟨g5a, g5b⟩ := dTn t2; have Q2 := Lib.hid (And.intro q2 t2); clear q2 t2; obtain ⟨e1, e2⟩ := ES.out; go_wp2_with (first | (go_at_call 181; refine (HROT.out l s m e _ HL.out.2.2.2.1 HR.out Q0.out.1 Q0.out.2 HE.out.1).mono ?_; rintro e' w5 ⟨rfl, h5, b5⟩) | (go_at_call 176; refine (HREC.out (rotGo (e - s) l m (m - s) (e - m)) mid e b _ Q2.out.1 Q2.out.2 HM.out.2.2.1 HM.out.2.2.2 (all_rotGo _ _ _ _ HOK.out) ((rotGo_len _ _ _ _ _).trans HL.out.2.2.2.1) h5 (HB.out.trans b5)).mono ?_; rintro e' w7 ⟨rfl, h7, b7⟩))
          go_end0
          exact ⟨rfl, by rw [← HT3.out, symTail, if_pos Q2.out, if_neg Q1.out, if_pos Q0.out]; exact h7, b7⟩
         ·obtain ⟨g4a, g4b⟩ := dTn q2
          obtain ⟨g5a, g5b⟩ := dFn t2; have Q2 := Lib.hid (nR (a := mid) (b := e) t2); clear q2 t2; obtain ⟨e1, e2⟩ := ES.out; go_wp2_with (first | (go_at_call 181; refine (HROT.out l s m e _ HL.out.2.2.2.1 HR.out Q0.out.1 Q0.out.2 HE.out.1).mono ?_; rintro e' w5 ⟨rfl, h5, b5⟩))
          go_end0
          exact ⟨rfl, by rw [← HT3.out, symTail, if_neg Q2.out, if_neg Q1.out, if_pos Q0.out]; exact h5, (HB.out.trans b5)⟩
        ·obtain ⟨g4a, g4b⟩ := dFn q2
         have Q2 := Lib.hid (nL (c := e) (d := b) q2); clear q2; obtain ⟨e1, e2⟩ := ES.out; go_wp2_with (first | (go_at_call 181; refine (HROT.out l s m e _ HL.out.2.2.2.1 HR.out Q0.out.1 Q0.out.2 HE.out.1).mono ?_; rintro e' w5 ⟨rfl, h5, b5⟩))
         go_end0
         exact ⟨rfl, by rw [← HT3.out, symTail, if_neg Q2.out, if_neg Q1.out, if_pos Q0.out]; exact h5, (HB.out.trans b5)⟩
      ·obtain ⟨g2a, g2b⟩ := dFn q1
       have Q1 := Lib.hid (nL (c := s) (d := mid) q1); clear q1
       by_cases q2 : mid < e
       ·by_cases t2 : e < b
        ·obtain ⟨g4a, g4b⟩ := dTn q2
         obtain ⟨g5a, g5b⟩ := dTn t2; have Q2 := Lib.hid (And.intro q2 t2); clear q2 t2; obtain ⟨e1, e2⟩ := ES.out; go_wp2_with (first | (go_at_call 181; refine (HROT.out l s m e _ HL.out.2.2.2.1 HR.out Q0.out.1 Q0.out.2 HE.out.1).mono ?_; rintro e' w5 ⟨rfl, h5, b5⟩) | (go_at_call 176; refine (HREC.out (rotGo (e - s) l m (m - s) (e - m)) mid e b _ Q2.out.1 Q2.out.2 HM.out.2.2.1 HM.out.2.2.2 (all_rotGo _ _ _ _ HOK.out) ((rotGo_len _ _ _ _ _).trans HL.out.2.2.2.1) h5 (HB.out.trans b5)).mono ?_; rintro e' w7 ⟨rfl, h7, b7⟩))
         go_end0
         exact ⟨rfl, by rw [← HT3.out, symTail, if_pos Q2.out, if_neg Q1.out, if_pos Q0.out]; exact h7, b7⟩
        ·obtain ⟨g4a, g4b⟩ := dTn q2
         obtain ⟨g5a, g5b⟩ := dFn t2; have Q2 := Lib.hid (nR (a := mid) (b := e) t2); clear q2 t2; obtain ⟨e1, e2⟩ := ES.out; go_wp2_with (first | (go_at_call 181; refine (HROT.out l s m e _ HL.out.2.2.2.1 HR.out Q0.out.1 Q0.out.2 HE.out.1).mono ?_; rintro e' w5 ⟨rfl, h5, b5⟩))
         go_end0
         exact ⟨rfl, by rw [← HT3.out, symTail, if_neg Q2.out, if_neg Q1.out, if_pos Q0.out]; exact h5, (HB.out.trans b5)⟩
       ·obtain ⟨g4a, g4b⟩ := dFn q2
        have Q2 := Lib.hid (nL (c := e) (d := b) q2); clear q2; obtain ⟨e1, e2⟩ := ES.out; go_wp2_with (first | (go_at_call 181; refine (HROT.out l s m e _ HL.out.2.2.2.1 HR.out Q0.out.1 Q0.out.2 HE.out.1).mono ?_; rintro e' w5 ⟨rfl, h5, b5⟩))
        go_end0
        exact ⟨rfl, by rw [← HT3.out, symTail, if_neg Q2.out, if_neg Q1.out, if_pos Q0.out]; exact h5, (HB.out.trans b5)⟩
     ·obtain ⟨g0a, g0b⟩ := dTn q0
      obtain ⟨g1a, g1b⟩ := dFn t0; have Q0 := Lib.hid (nR (a := s) (b := m) t0); clear q0 t0
      by_cases q1 : a < s
      ·by_cases t1 : s < mid
       ·obtain ⟨g2a, g2b⟩ := dTn q1
        obtain ⟨g3a, g3b⟩ := dTn t1; have Q1 := Lib.hid (And.intro q1 t1); clear q1 t1
        by_cases q2 : mid < e
        ·by_cases t2 : e < b
         ·obtain ⟨g4a, g4b⟩ := dTn q2
          obtain ⟨g5a, g5b⟩ := dTn t2; have Q2 := Lib.hid (And.intro q2 t2); clear q2 t2; obtain ⟨e1, e2⟩ := ES.out; go_wp2_with (first | ((fail_if_success (clear h6)); go_at_call 176; refine (HREC.out l a s mid _ Q1.out.1 Q1.out.2 HM.out.1 HM.out.2.1 HOK.out HL.out.2.2.2.1 HR.out HB.out).mono ?_; rintro e' w6 ⟨rfl, h6, b6⟩) | (go_at_call 176; refine (HREC.out (R l a s mid) mid e b _ Q2.out.1 Q2.out.2 HM.out.2.2.1 HM.out.2.2.2 (HROK.out _ a s mid HOK.out) ((HRLEN.out _ a s mid).trans HL.out.2.2.2.1) h6 b6).mono ?_; rintro e' w7 ⟨rfl, h7, b7⟩))
          go_end0
          exact ⟨rfl, by rw [← HT3.out, symTail, if_pos Q2.out, if_pos Q1.out, if_neg Q0.out]; exact h7, b7⟩
         ·obtain ⟨g4a, g4b⟩ := dTn q2
          obtain ⟨g5a, g5b⟩ := dFn t2; have Q2 := Lib.hid (nR (a := mid) (b := e) t2); clear q2 t2; obtain ⟨e1, e2⟩ := ES.out; go_wp2_with (first | ((fail_if_success (clear h6)); go_at_call 176; refine (HREC.out l a s mid _ Q1.out.1 Q1.out.2 HM.out.1 HM.out.2.1 HOK.out HL.out.2.2.2.1 HR.out HB.out).mono ?_; rintro e' w6 ⟨rfl, h6, b6⟩))
          go_end0
          exact ⟨rfl, by rw [← HT3.out, symTail, if_neg Q2.out, if_pos Q1.out, if_neg Q0.out]; exact h6, b6⟩
        ·obtain ⟨g4a, g4b⟩ := dFn q2
         have Q2 := Lib.hid (nL (c := e) (d := b) q2); clear q2; obtain ⟨e1, e2⟩ := ES.out; go_wp2_with (first | ((fail_if_success (clear h6)); go_at_call 176; refine (HREC.out l a s mid _ Q1.out.1 Q1.out.2 HM.out.1 HM.out.2.1 HOK.out HL.out.2.2.2.1 HR.out HB.out).mono ?_; rintro e' w6 ⟨rfl, h6, b6⟩))
         go_end0
         exact ⟨rfl, by rw [← HT3.out, symTail, if_neg Q2.out, if_pos Q1.out, if_neg Q0.out]; exact h6, b6⟩
       ·obtain ⟨g2a, g2b⟩ := dTn q1
        obtain ⟨g3a, g3b⟩ := dFn t1; have Q1 := Lib.hid (nR (a := a) (b := s) t1); clear q1 t1
        by_cases q2 : mid < e
        ·by_cases t2 : e < b
         ·obtain ⟨g4a, g4b⟩ := dTn q2
          obtain ⟨g5a, g5b⟩ := dTn t2; have Q2 := Lib.hid (And.intro q2 t2); clear q2 t2; obtain ⟨e1, e2⟩ := ES.out; go_wp2_with (first | (go_at_call 176; refine (HREC.out l mid e b _ Q2.out.1 Q2.out.2 HM.out.2.2.1 HM.out.2.2.2 HOK.out HL.out.2.2.2.1 HR.out HB.out).mono ?_; rintro e' w7 ⟨rfl, h7, b7⟩))
          go_end0
          exact ⟨rfl, by rw [← HT3.out, symTail, if_pos Q2.out, if_neg Q1.out, if_neg Q0.out]; exact h7, b7⟩
         ·obtain ⟨g4a, g4b⟩ := dTn q2
          obtain ⟨g5a, g5b⟩ := dFn t2; have Q2 := Lib.hid (nR (a := mid) (b := e) t2); clear q2 t2; obtain ⟨e1, e2⟩ := ES.out; go_wp2
          go_end0
          exact ⟨rfl, by rw [← HT3.out, symTail, if_neg Q2.out, if_neg Q1.out, if_neg Q0.out]; exact HR.out, HB.out⟩
        ·obtain ⟨g4a, g4b⟩ := dFn q2
         have Q2 := Lib.hid (nL (c := e) (d := b) q2); clear q2; obtain ⟨e1, e2⟩ := ES.out; go_wp2
         go_end0
         exact ⟨rfl, by rw [← HT3.out, symTail, if_neg Q2.out, if_neg Q1.out, if_neg Q0.out]; exact HR.out, HB.out⟩
      ·obtain ⟨g2a, g2b⟩ := dFn q1
       have Q1 := Lib.hid (nL (c := s) (d := mid) q1); clear q1
       by_cases q2 : mid < e
       ·by_cases t2 : e < b
        ·obtain ⟨g4a, g4b⟩ := dTn q2
         obtain ⟨g5a, g5b⟩ := dTn t2; have Q2 := Lib.hid (And.intro q2 t2); clear q2 t2; obtain ⟨e1, e2⟩ := ES.out; go_wp2_with (first | (go_at_call 176; refine (HREC.out l mid e b _ Q2.out.1 Q2.out.2 HM.out.2.2.1 HM.out.2.2.2 HOK.out HL.out.2.2.2.1 HR.out HB.out).mono ?_; rintro e' w7 ⟨rfl, h7, b7⟩))
         go_end0
         exact ⟨rfl, by rw [← HT3.out, symTail, if_pos Q2.out, if_neg Q1.out, if_neg Q0.out]; exact h7, b7⟩
        ·obtain ⟨g4a, g4b⟩ := dTn q2
         obtain ⟨g5a, g5b⟩ := dFn t2; have Q2 := Lib.hid (nR (a := mid) (b := e) t2); clear q2 t2; obtain ⟨e1, e2⟩ := ES.out; go_wp2
         go_end0
         exact ⟨rfl, by rw [← HT3.out, symTail, if_neg Q2.out, if_neg Q1.out, if_neg Q0.out]; exact HR.out, HB.out⟩
       ·obtain ⟨g4a, g4b⟩ := dFn q2
        have Q2 := Lib.hid (nL (c := e) (d := b) q2); clear q2; obtain ⟨e1, e2⟩ := ES.out; go_wp2
        go_end0
        exact ⟨rfl, by rw [← HT3.out, symTail, if_neg Q2.out, if_neg Q1.out, if_neg Q0.out]; exact HR.out, HB.out⟩
    ·obtain ⟨g0a, g0b⟩ := dFn q0
     have Q0 := Lib.hid (nL (c := m) (d := e) q0); clear q0
     by_cases q1 : a < s
     ·by_cases t1 : s < mid
      ·obtain ⟨g2a, g2b⟩ := dTn q1
       obtain ⟨g3a, g3b⟩ := dTn t1; have Q1 := Lib.hid (And.intro q1 t1); clear q1 t1
       by_cases q2 : mid < e
       ·by_cases t2 : e < b
        ·obtain ⟨g4a, g4b⟩ := dTn q2
         obtain ⟨g5a, g5b⟩ := dTn t2; have Q2 := Lib.hid (And.intro q2 t2); clear q2 t2; obtain ⟨e1, e2⟩ := ES.out; go_wp2_with (first | ((fail_if_success (clear h6)); go_at_call 176; refine (HREC.out l a s mid _ Q1.out.1 Q1.out.2 HM.out.1 HM.out.2.1 HOK.out HL.out.2.2.2.1 HR.out HB.out).mono ?_; rintro e' w6 ⟨rfl, h6, b6⟩) | (go_at_call 176; refine (HREC.out (R l a s mid) mid e b _ Q2.out.1 Q2.out.2 HM.out.2.2.1 HM.out.2.2.2 (HROK.out _ a s mid HOK.out) ((HRLEN.out _ a s mid).trans HL.out.2.2.2.1) h6 b6).mono ?_; rintro e' w7 ⟨rfl, h7, b7⟩))
         go_end0
         exact ⟨rfl, by rw [← HT3.out, symTail, if_pos Q2.out, if_pos Q1.out, if_neg Q0.out]; exact h7, b7⟩
        ·obtain ⟨g4a, g4b⟩ := dTn q2
         obtain ⟨g5a, g5b⟩ := dFn t2; have Q2 := Lib.hid (nR (a := mid) (b := e) t2); clear q2 t2; obtain ⟨e1, e2⟩ := ES.out; go_wp2_with (first | ((fail_if_success (clear h6)); go_at_call 176; refine (HREC.out l a s mid _ Q1.out.1 Q1.out.2 HM.out.1 HM.out.2.1 HOK.out HL.out.2.2.2.1 HR.out HB.out).mono ?_; rintro e' w6 ⟨rfl, h6, b6⟩))
         go_end0
         exact ⟨rfl, by rw [← HT3.out, symTail, if_neg Q2.out, if_pos Q1.out, if_neg Q0.out]; exact h6, b6⟩
       ·obtain ⟨g4a, g4b⟩ := dFn q2
        have Q2 := Lib.hid (nL (c := e) (d := b) q2); clear q2; obtain ⟨e1, e2⟩ := ES.out; go_wp2_with (first | ((fail_if_success (clear h6)); go_at_call 176; refine (HREC.out l a s mid _ Q1.out.1 Q1.out.2 HM.out.1 HM.out.2.1 HOK.out HL.out.2.2.2.1 HR.out HB.out).mono ?_; rintro e' w6 ⟨rfl, h6, b6⟩))
        go_end0
        exact ⟨rfl, by rw [← HT3.out, symTail, if_neg Q2.out, if_pos Q1.out, if_neg Q0.out]; exact h6, b6⟩
      ·obtain ⟨g2a, g2b⟩ := dTn q1
       obtain ⟨g3a, g3b⟩ := dFn t1; have Q1 := Lib.hid (nR (a := a) (b := s) t1); clear q1 t1
       by_cases q2 : mid < e
       ·by_cases t2 : e < b
        ·obtain ⟨g4a, g4b⟩ := dTn q2
         obtain ⟨g5a, g5b⟩ := dTn t2; have Q2 := Lib.hid (And.intro q2 t2); clear q2 t2; obtain ⟨e1, e2⟩ := ES.out; go_wp2_with (first | (go_at_call 176; refine (HREC.out l mid e b _ Q2.out.1 Q2.out.2 HM.out.2.2.1 HM.out.2.2.2 HOK.out HL.out.2.2.2.1 HR.out HB.out).mono ?_; rintro e' w7 ⟨rfl, h7, b7⟩))
         go_end0
         exact ⟨rfl, by rw [← HT3.out, symTail, if_pos Q2.out, if_neg Q1.out, if_neg Q0.out]; exact h7, b7⟩
        ·obtain ⟨g4a, g4b⟩ := dTn q2
         obtain ⟨g5a, g5b⟩ := dFn t2; have Q2 := Lib.hid (nR (a := mid) (b := e) t2); clear q2 t2; obtain ⟨e1, e2⟩ := ES.out; go_wp2
         go_end0
         exact ⟨rfl, by rw [← HT3.out, symTail, if_neg Q2.out, if_neg Q1.out, if_neg Q0.out]; exact HR.out, HB.out⟩
       ·obtain ⟨g4a, g4b⟩ := dFn q2
        have Q2 := Lib.hid (nL (c := e) (d := b) q2); clear q2; obtain ⟨e1, e2⟩ := ES.out; go_wp2
        go_end0
        exact ⟨rfl, by rw [← HT3.out, symTail, if_neg Q2.out, if_neg Q1.out, if_neg Q0.out]; exact HR.out, HB.out⟩
     ·obtain ⟨g2a, g2b⟩ := dFn q1
      have Q1 := Lib.hid (nL (c := s) (d := mid) q1); clear q1
      by_cases q2 : mid < e
      ·by_cases t2 : e < b
       ·obtain ⟨g4a, g4b⟩ := dTn q2
        obtain ⟨g5a, g5b⟩ := dTn t2; have Q2 := Lib.hid (And.intro q2 t2); clear q2 t2; obtain ⟨e1, e2⟩ := ES.out; go_wp2_with (first | (go_at_call 176; refine (HREC.out l mid e b _ Q2.out.1 Q2.out.2 HM.out.2.2.1 HM.out.2.2.2 HOK.out HL.out.2.2.2.1 HR.out HB.out).mono ?_; rintro e' w7 ⟨rfl, h7, b7⟩))
        go_end0
        exact ⟨rfl, by rw [← HT3.out, symTail, if_pos Q2.out, if_neg Q1.out, if_neg Q0.out]; exact h7, b7⟩
       ·obtain ⟨g4a, g4b⟩ := dTn q2
        obtain ⟨g5a, g5b⟩ := dFn t2; have Q2 := Lib.hid (nR (a := mid) (b := e) t2); clear q2 t2; obtain ⟨e1, e2⟩ := ES.out; go_wp2
        go_end0
        exact ⟨rfl, by rw [← HT3.out, symTail, if_neg Q2.out, if_neg Q1.out, if_neg Q0.out]; exact HR.out, HB.out⟩
      ·obtain ⟨g4a, g4b⟩ := dFn q2
       have Q2 := Lib.hid (nL (c := e) (d := b) q2); clear q2; obtain ⟨e1, e2⟩ := ES.out; go_wp2
       go_end0
       exact ⟨rfl, by rw [← HT3.out, symTail, if_neg Q2.out, if_neg Q1.out, if_neg Q0.out]; exact HR.out, HB.out⟩
 ·have k1 : decide ((mid : Int) < (m : Int)) = false := dF (by omega)
  have k2 : decide (mid < m) = false := dF hmm; have HRR := aM (show r0 = m by have := HR1.out; rw [if_neg hmm] at this; exact this); have HSS := aM (show s0 = a by have := HS1.out; rw [if_neg hmm] at this; exact this); obtain ⟨e1, e2⟩ := E1.out; obtain ⟨e3, e4⟩ := E2.out; obtain ⟨e5, e6⟩ := E3.out; obtain ⟨e7, e8⟩ := E4.out; obtain ⟨e9, e10⟩ := E5.out; obtain ⟨e11, e12⟩ := E6.out; clear hmm; go_wp2; clear e1 e2 e3 e4 e5 e6 e7 e8 e9 e10 e11 e12
  go_loopw [20, 21] (fun v10 v11 wr => ∃ (i j f : Nat), v10 = .int .i64 i ∧ v11 = .int .i64 j ∧ Hid (s0 ≤ i ∧ i ≤ j ∧ j ≤ r0 ∧ j - i ≤ f) ∧ Hid (RowE 86 3 encF wr g cap l) ∧ Hid (Below w0.heap.size w0 wr) ∧ Hid (bsL P f i j = bsL P (r0 - s0) s0 r0)) (fun v10 v11 _ => (intOf v11).toNat - (intOf v10).toNat)
  case atStart => exact ⟨s0, r0, r0 - s0, by rw [HSS.out], by rw [HRR.out], Lib.hid (by have := HW.out; omega), Lib.hid HR0.out, Lib.hid HB0.out, Lib.hid rfl⟩
  case round =>
   obtain ⟨i, j, f, rfl, rfl, HI, HR, HB, HS⟩ := hrel
   by_cases hij : i < j
   ·have b1 : decide ((i : Int) < (j : Int)) = true := dT (by omega)
    have b2 : decide (i < j) = true := dT hij; obtain ⟨h, hh⟩ : ∃ h, h = (i + j) / 2 := ⟨_, rfl⟩; obtain ⟨u, hu'⟩ : ∃ u, u = p - h := ⟨_, rfl⟩; have HH := aM (show i ≤ h ∧ h < j by omega); have HU := aM (show u < len ∧ h ≤ p ∧ h < m by have := HW.out.2.2.2.1 h (by have := HI.out; omega) (by have := HI.out; omega); have := HW.out.2.2.1; have := HI.out; omega); have E0 := aM (w_add i j (2 * len) (by have := HI.out; have := HW.out.2.2.1; have := HL.out; omega) (by have := HROOM.out; omega)); have E1 := aM (w_half i j h (2 * len) hh (by have := HI.out; have := HW.out.2.2.1; have := HL.out; omega) (by have := HROOM.out; omega)); have E3 := aM (w_one h (len + 1) (by have := HU.out; have := HL.out; omega) (by have := HROOM.out; omega)); have E8 := aM (dvar p h u (2 * len) hu' HU.out.2.1 (by have := HN.out; omega) (by have := HROOM.out; omega)); obtain ⟨x, hx⟩ : ∃ x, l[u]? = some x := ⟨_, List.getElem?_eq_getElem (by have := HU.out; have := HL.out; omega)⟩; obtain ⟨y, hy⟩ : ∃ y, l[h]? = some y := ⟨_, List.getElem?_eq_getElem (by have := HU.out; have := HL.out; omega)⟩; have pu : (0 ≤ (u : Int)) = True := eq_true (by omega); have qu : ((u : Int) < (len : Int)) = True := eq_true (by have := HU.out; omega); have qu' : (u < len) = True := eq_true (by have := HU.out; omega); have ph : (0 ≤ (h : Int)) = True := eq_true (by omega); have qh : ((h : Int) < (len : Int)) = True := eq_true (by have := HU.out; have := HL.out; omega); have qh' : (h < len) = True := eq_true (by have := HU.out; have := HL.out; omega); have hp : P h = !(decide (cf x y < 0)) := by rw [HP.out]; show (!(ltAt cf l (p - h) h)) = _; rw [← hu']; exact congrArg (fun z => !z) (ltAt_eq hx hy)
    have hs := HS.out; rw [show f = (f - 1) + 1 by have := HI.out; omega, bsL, if_pos hij, ← hh, hp] at hs; have HS2 := Lib.hid hs; clear hs HS hp hh hij hu'; obtain ⟨e00, e01⟩ := E0.out; obtain ⟨e1, e2⟩ := E1.out
    by_cases hc : cf x y < 0
    ·have d1 : decide (cf x y < 0) = true := dT hc
     have d2 : (cf x y < 0) = True := eq_true hc; have d3 : (0 ≤ cf x y) = False := eq_false (by clear e1 e2 e00 e01; omega); have d4 : decide (0 ≤ cf x y) = false := dF (by clear e1 e2 e00 e01; omega); have hs3 := HS2.out; rw [dT hc, if_neg (by decide)] at hs3; have HS3 := Lib.hid hs3; clear hs3 hc; go_wp2; clear e1 e2 e00 e01; obtain ⟨e8, e9⟩ := E8.out; have HRd := aM (HR.out.below (w' := wr.drew) (below_drew (Below.refl _ _))); have HBd := aM (below_drew HB.out); obtain ⟨ax0, ax1, ax2⟩ := cellF HAD.out HRd.out hx; obtain ⟨ay0, ay1, ay2⟩ := cellF HAD.out HRd.out hy; refine start_ (n := 14) (S := fun w' => w'.cell? (ad.add (u * 3)) = some (.string x.f0) ∧ w'.cell? ⟨(ad.add (u * 3)).block, (ad.add (u * 3)).off + 1, none⟩ = some (.int .i64 x.f1) ∧ w'.cell? ⟨(ad.add (u * 3)).block, (ad.add (u * 3)).off + 2, none⟩ = some (.bool x.f2) ∧ w'.cell? (ad.add (h * 3)) = some (.string y.f0) ∧ w'.cell? ⟨(ad.add (h * 3)).block, (ad.add (h * 3)).off + 1, none⟩ = some (.int .i64 y.f1) ∧ w'.cell? ⟨(ad.add (h * 3)).block, (ad.add (h * 3)).off + 2, none⟩ = some (.bool y.f2)) (ds := []) (mkB 14 0) (by kernel_rfl) rfl rfl ⟨ax0, ax1, ax2, ay0, ay1, ay2⟩ (fun hHeld => ?_); refine with_tabW symS.tab35 symS.bits35 (fun HT_ HW_ => ?_)
     generalize wr.drew = w6 at HRd HBd hHeld ax0 ax1 ax2 ay0 ay1 ay2 ⊢
     refine pureA 0 (some 158) (mkB 14 1) ?_; refine pureA 1 (some 159) (mkB 14 3) ?_; refine pureA 2 (some 160) (mkB 14 7) ?_; refine pureA 3 (some 161) (mkB 14 15) ?_; refine pureA 4 (some 162) (mkB 14 31) ?_; refine pureA 5 (some 163) (mkB 14 63) ?_; refine takeA 6 (some 164) (mkB 14 127) ?_ rfl (Or.inl ⟨by rfl, by rintro w' ⟨s0, s1, s2, s3, s4, s5⟩; go_simp; with_reducible rfl⟩); refine pureA 7 (some 165) (mkB 14 255) ?_; refine pureA 8 (some 166) (mkB 14 511) ?_; refine pureA 9 (some 167) (mkB 14 1023) ?_; refine takeA 10 (some 168) (mkB 14 2047) ?_ rfl (Or.inl ⟨by rfl, by rintro w' ⟨s0, s1, s2, s3, s4, s5⟩; go_simp; with_reducible rfl⟩); refine oneA 11 (some 169) (mkB 14 4095) (fun K hK => ?_); refine call_ c #[.agg #[.string x.f0, .int .i64 x.f1, .bool x.f2], .agg #[.string y.f0, .int .i64 y.f1, .bool y.f2]] (by rfl) rfl (by go_simp; first | done | rfl | exact eg _ _) ?_; refine (HC.out _ HBd.out x y (HOK.out x (List.mem_of_getElem? hx)) (HOK.out y (List.mem_of_getElem? hy))).mono ?_; rintro e w7 ⟨rfl, hb⟩; refine ⟨_, rfl, ?_⟩; have HR7 := aM (HRd.out.below hb); have HB7 := aM (below_step HBd.out hb); clear ax0 ax1 ax2 ay0 ay1 ay2 hHeld HRd HBd hb; obtain ⟨ax0, ax1, ax2⟩ := cellF HAD.out HR7.out hx; obtain ⟨ay0, ay1, ay2⟩ := cellF HAD.out HR7.out hy; refine hK.out _ _ ⟨ax0, ax1, ax2, ay0, ay1, ay2⟩ (fun hHeld => ?_); clear hK K; refine normA ?_; refine pureA 12 (some 170) (mkB 14 8191) ?_; refine pureA 13 (some 171) (mkB 14 16383) ?_; refine done_ (done_of HT_.out (by kernel_rfl)) ?_; clear hHeld ax0 ax1 ax2 ay0 ay1 ay2 e8 e9; go_wp2
     go_roundw
     case rel => exact ⟨i, h, f - 1, rfl, rfl, Lib.hid (by have := HI.out; have := HH.out; omega), Lib.hid HR7.out, Lib.hid HB7.out, Lib.hid HS3.out⟩
     case measure =>
      simp only [intOf]; have := HH.out
      omega
    ·have d1 : decide (cf x y < 0) = false := dF hc
     have d2 : (cf x y < 0) = False := eq_false hc; have d3 : (0 ≤ cf x y) = True := eq_true (by clear e1 e2 e00 e01; omega); have d4 : decide (0 ≤ cf x y) = true := dT (by clear e1 e2 e00 e01; omega); have hs3 := HS2.out; rw [dF hc, if_pos (by decide)] at hs3; have HS3 := Lib.hid hs3; clear hs3 hc; go_wp2; clear e1 e2 e00 e01; obtain ⟨e8, e9⟩ := E8.out; have HRd := aM (HR.out.below (w' := wr.drew) (below_drew (Below.refl _ _))); have HBd := aM (below_drew HB.out); obtain ⟨ax0, ax1, ax2⟩ := cellF HAD.out HRd.out hx; obtain ⟨ay0, ay1, ay2⟩ := cellF HAD.out HRd.out hy; refine start_ (n := 14) (S := fun w' => w'.cell? (ad.add (u * 3)) = some (.string x.f0) ∧ w'.cell? ⟨(ad.add (u * 3)).block, (ad.add (u * 3)).off + 1, none⟩ = some (.int .i64 x.f1) ∧ w'.cell? ⟨(ad.add (u * 3)).block, (ad.add (u * 3)).off + 2, none⟩ = some (.bool x.f2) ∧ w'.cell? (ad.add (h * 3)) = some (.string y.f0) ∧ w'.cell? ⟨(ad.add (h * 3)).block, (ad.add (h * 3)).off + 1, none⟩ = some (.int .i64 y.f1) ∧ w'.cell? ⟨(ad.add (h * 3)).block, (ad.add (h * 3)).off + 2, none⟩ = some (.bool y.f2)) (ds := []) (mkB 14 0) (by kernel_rfl) rfl rfl ⟨ax0, ax1, ax2, ay0, ay1, ay2⟩ (fun hHeld => ?_); refine with_tabW symS.tab35 symS.bits35 (fun HT_ HW_ => ?_)
     generalize wr.drew = w6 at HRd HBd hHeld ax0 ax1 ax2 ay0 ay1 ay2 ⊢
     refine pureA 0 (some 158) (mkB 14 1) ?_; refine pureA 1 (some 159) (mkB 14 3) ?_; refine pureA 2 (some 160) (mkB 14 7) ?_; refine pureA 3 (some 161) (mkB 14 15) ?_; refine pureA 4 (some 162) (mkB 14 31) ?_; refine pureA 5 (some 163) (mkB 14 63) ?_; refine takeA 6 (some 164) (mkB 14 127) ?_ rfl (Or.inl ⟨by rfl, by rintro w' ⟨s0, s1, s2, s3, s4, s5⟩; go_simp; with_reducible rfl⟩); refine pureA 7 (some 165) (mkB 14 255) ?_; refine pureA 8 (some 166) (mkB 14 511) ?_; refine pureA 9 (some 167) (mkB 14 1023) ?_; refine takeA 10 (some 168) (mkB 14 2047) ?_ rfl (Or.inl ⟨by rfl, by rintro w' ⟨s0, s1, s2, s3, s4, s5⟩; go_simp; with_reducible rfl⟩); refine oneA 11 (some 169) (mkB 14 4095) (fun K hK => ?_); refine call_ c #[.agg #[.string x.f0, .int .i64 x.f1, .bool x.f2], .agg #[.string y.f0, .int .i64 y.f1, .bool y.f2]] (by rfl) rfl (by go_simp; first | done | rfl | exact eg _ _) ?_; refine (HC.out _ HBd.out x y (HOK.out x (List.mem_of_getElem? hx)) (HOK.out y (List.mem_of_getElem? hy))).mono ?_; rintro e w7 ⟨rfl, hb⟩; refine ⟨_, rfl, ?_⟩; have HR7 := aM (HRd.out.below hb); have HB7 := aM (below_step HBd.out hb); clear ax0 ax1 ax2 ay0 ay1 ay2 hHeld HRd HBd hb; obtain ⟨ax0, ax1, ax2⟩ := cellF HAD.out HR7.out hx; obtain ⟨ay0, ay1, ay2⟩ := cellF HAD.out HR7.out hy; refine hK.out _ _ ⟨ax0, ax1, ax2, ay0, ay1, ay2⟩ (fun hHeld => ?_); clear hK K; refine normA ?_; refine pureA 12 (some 170) (mkB 14 8191) ?_; refine pureA 13 (some 171) (mkB 14 16383) ?_; refine done_ (done_of HT_.out (by kernel_rfl)) ?_; clear hHeld ax0 ax1 ax2 ay0 ay1 ay2 e8 e9; have e3 := E3.out; go_wp2
     go_roundw
     case rel => exact ⟨h + 1, j, f - 1, by rw [e3], rfl, Lib.hid (by have := HI.out; have := HH.out; clear e3; omega), Lib.hid HR7.out, Lib.hid HB7.out, Lib.hid HS3.out⟩
     case measure =>
      rw [e3]; simp only [intOf]; have := HH.out; clear e3
      omega
   ·have b1 : decide ((i : Int) < (j : Int)) = false := dF (by omega)
    have b2 : decide (i < j) = false := dF hij; have hs := HS.out; rw [bsL_same P f i j hij] at hs; obtain ⟨s, rfl⟩ : ∃ s, s = i := ⟨_, rfl⟩; obtain ⟨e, he⟩ : ∃ e, e = n - s := ⟨_, rfl⟩; have HT3 := Lib.hid (show symTail R l a m b mid s e = symTail R l a m b mid (bsL P (r0 - s0) s0 r0) (n - bsL P (r0 - s0) s0 r0) by rw [he, hs]); have HE := aM (show e ≤ len ∧ s ≤ n by have := HW.out; have := HI.out; have := HL.out; omega); have ES := aM (dvar n s e (2 * len) he HE.out.2 (by have := HN.out; omega) (by have := HROOM.out; omega)); clear hs HS hij he
    by_cases q0 : s < m
    ·by_cases t0 : m < e
     ·obtain ⟨g0a, g0b⟩ := dTn q0
      obtain ⟨g1a, g1b⟩ := dTn t0; have Q0 := Lib.hid (And.intro q0 t0); clear q0 t0
      by_cases q1 : a < s
      ·by_cases t1 : s < mid
       ·obtain ⟨g2a, g2b⟩ := dTn q1
        obtain ⟨g3a, g3b⟩ := dTn t1; have Q1 := Lib.hid (And.intro q1 t1); clear q1 t1
        by_cases q2 : mid < e
        ·by_cases t2 : e < b
         ·obtain ⟨g4a, g4b⟩ := dTn q2
          obtain ⟨g5a, g5b⟩ := dTn t2; have Q2 := Lib.hid (And.intro q2 t2); clear q2 t2; obtain ⟨e1, e2⟩ := ES.out; go_wp2_with (first | (go_at_call 181; refine (HROT.out l s m e _ HL.out.2.2.2.1 HR.out Q0.out.1 Q0.out.2 HE.out.1).mono ?_; rintro e' w5 ⟨rfl, h5, b5⟩) | ((fail_if_success (clear h6)); go_at_call 176; refine (HREC.out (rotGo (e - s) l m (m - s) (e - m)) a s mid _ Q1.out.1 Q1.out.2 HM.out.1 HM.out.2.1 (all_rotGo _ _ _ _ HOK.out) ((rotGo_len _ _ _ _ _).trans HL.out.2.2.2.1) h5 (HB.out.trans b5)).mono ?_; rintro e' w6 ⟨rfl, h6, b6⟩) | (go_at_call 176; refine (HREC.out (R (rotGo (e - s) l m (m - s) (e - m)) a s mid) mid e b _ Q2.out.1 Q2.out.2 HM.out.2.2.1 HM.out.2.2.2 (HROK.out _ a s mid (all_rotGo _ _ _ _ HOK.out)) ((HRLEN.out _ a s mid).trans ((rotGo_len _ _ _ _ _).trans HL.out.2.2.2.1)) h6 b6).mono ?_; rintro e' w7 ⟨rfl, h7, b7⟩))
          go_end0
          exact ⟨rfl, by rw [← HT3.out, symTail, if_pos Q2.out, if_pos Q1.out, if_pos Q0.out]; exact h7, b7⟩
         ·obtain ⟨g4a, g4b⟩ := dTn q2
          obtain ⟨g5a, g5b⟩ := dFn t2; have Q2 := Lib.hid (nR (a := mid) (b := e) t2); clear q2 t2; obtain ⟨e1, e2⟩ := ES.out; go_wp2_with (first | (go_at_call 181; refine (HROT.out l s m e _ HL.out.2.2.2.1 HR.out Q0.out.1 Q0.out.2 HE.out.1).mono ?_; rintro e' w5 ⟨rfl, h5, b5⟩) | ((fail_if_success (clear h6)); go_at_call 176; refine (HREC.out (rotGo (e - s) l m (m - s) (e - m)) a s mid _ Q1.out.1 Q1.out.2 HM.out.1 HM.out.2.1 (all_rotGo _ _ _ _ HOK.out) ((rotGo_len _ _ _ _ _).trans HL.out.2.2.2.1) h5 (HB.out.trans b5)).mono ?_; rintro e' w6 ⟨rfl, h6, b6⟩))
          go_end0
          exact ⟨rfl, by rw [← HT3.out, symTail, if_neg Q2.out, if_pos Q1.out, if_pos Q0.out]; exact h6, b6⟩
        ·obtain ⟨g4a, g4b⟩ := dFn q2
         have Q2 := Lib.hid (nL (c := e) (d := b) q2); clear q2; obtain ⟨e1, e2⟩ := ES.out; go_wp2_with (first | (go_at_call 181; refine (HROT.out l s m e _ HL.out.2.2.2.1 HR.out Q0.out.1 Q0.out.2 HE.out.1).mono ?_; rintro e' w5 ⟨rfl, h5, b5⟩) | ((fail_if_success (clear h6)); go_at_call 176; refine (HREC.out (rotGo (e - s) l m (m - s) (e - m)) a s mid _ Q1.out.1 Q1.out.2 HM.out.1 HM.out.2.1 (all_rotGo _ _ _ _ HOK.out) ((rotGo_len _ _ _ _ _).trans HL.out.2.2.2.1) h5 (HB.out.trans b5)).mono ?_; rintro e' w6 ⟨rfl, h6, b6⟩))
         go_end0
         exact ⟨rfl, by rw [← HT3.out, symTail, if_neg Q2.out, if_pos Q1.out, if_pos Q0.out]; exact h6, b6⟩
       ·obtain ⟨g2a, g2b⟩ := dTn q1
        obtain ⟨g3a, g3b⟩ := dFn t1; have Q1 := Lib.hid (nR (a := a) (b := s) t1); clear q1 t1
        by_cases q2 : mid < e
        ·by_cases t2 : e < b
         ·obtain ⟨g4a, g4b⟩ := dTn q2
          obtain ⟨g5a, g5b⟩ := dTn t2; have Q2 := Lib.hid (And.intro q2 t2); clear q2 t2; obtain ⟨e1, e2⟩ := ES.out; go_wp2_with (first | (go_at_call 181; refine (HROT.out l s m e _ HL.out.2.2.2.1 HR.out Q0.out.1 Q0.out.2 HE.out.1).mono ?_; rintro e' w5 ⟨rfl, h5, b5⟩) | (go_at_call 176; refine (HREC.out (rotGo (e - s) l m (m - s) (e - m)) mid e b _ Q2.out.1 Q2.out.2 HM.out.2.2.1 HM.out.2.2.2 (all_rotGo _ _ _ _ HOK.out) ((rotGo_len _ _ _ _ _).trans HL.out.2.2.2.1) h5 (HB.out.trans b5)).mono ?_; rintro e' w7 ⟨rfl, h7, b7⟩))
          go_end0
          exact ⟨rfl, by rw [← HT3.out, symTail, if_pos Q2.out, if_neg Q1.out, if_pos Q0.out]; exact h7, b7⟩
         ·obtain ⟨g4a, g4b⟩ := dTn q2
          obtain ⟨g5a, g5b⟩ := dFn t2; have Q2 := Lib.hid (nR (a := mid) (b := e) t2); clear q2 t2; obtain ⟨e1, e2⟩ := ES.out; go_wp2_with (first | (go_at_call 181; refine (HROT.out l s m e _ HL.out.2.2.2.1 HR.out Q0.out.1 Q0.out.2 HE.out.1).mono ?_; rintro e' w5 ⟨rfl, h5, b5⟩))
          go_end0
          exact ⟨rfl, by rw [← HT3.out, symTail, if_neg Q2.out, if_neg Q1.out, if_pos Q0.out]; exact h5, (HB.out.trans b5)⟩
        ·obtain ⟨g4a, g4b⟩ := dFn q2
         have Q2 := Lib.hid (nL (c := e) (d := b) q2); clear q2; obtain ⟨e1, e2⟩ := ES.out; go_wp2_with (first | (go_at_call 181; refine (HROT.out l s m e _ HL.out.2.2.2.1 HR.out Q0.out.1 Q0.out.2 HE.out.1).mono ?_; rintro e' w5 ⟨rfl, h5, b5⟩))
         go_end0
         exact ⟨rfl, by rw [← HT3.out, symTail, if_neg Q2.out, if_neg Q1.out, if_pos Q0.out]; exact h5, (HB.out.trans b5)⟩
      ·obtain ⟨g2a, g2b⟩ := dFn q1
       have Q1 := Lib.hid (nL (c := s) (d := mid) q1); clear q1
       by_cases q2 : mid < e
       ·by_cases t2 : e < b
        ·obtain ⟨g4a, g4b⟩ := dTn q2
         obtain ⟨g5a, g5b⟩ := dTn t2; have Q2 := Lib.hid (And.intro q2 t2); clear q2 t2; obtain ⟨e1, e2⟩ := ES.out; go_wp2_with (first | (go_at_call 181; refine (HROT.out l s m e _ HL.out.2.2.2.1 HR.out Q0.out.1 Q0.out.2 HE.out.1).mono ?_; rintro e' w5 ⟨rfl, h5, b5⟩) | (go_at_call 176; refine (HREC.out (rotGo (e - s) l m (m - s) (e - m)) mid e b _ Q2.out.1 Q2.out.2 HM.out.2.2.1 HM.out.2.2.2 (all_rotGo _ _ _ _ HOK.out) ((rotGo_len _ _ _ _ _).trans HL.out.2.2.2.1) h5 (HB.out.trans b5)).mono ?_; rintro e' w7 ⟨rfl, h7, b7⟩))
         go_end0
         exact ⟨rfl, by rw [← HT3.out, symTail, if_pos Q2.out, if_neg Q1.out, if_pos Q0.out]; exact h7, b7⟩
        ·obtain ⟨g4a, g4b⟩ := dTn q2
         obtain ⟨g5a, g5b⟩ := dFn t2; have Q2 := Lib.hid (nR (a := mid) (b := e) t2); clear q2 t2; obtain ⟨e1, e2⟩ := ES.out; go_wp2_with (first | (go_at_call 181; refine (HROT.out l s m e _ HL.out.2.2.2.1 HR.out Q0.out.1 Q0.out.2 HE.out.1).mono ?_; rintro e' w5 ⟨rfl, h5, b5⟩))
         go_end0
         exact ⟨rfl, by rw [← HT3.out, symTail, if_neg Q2.out, if_neg Q1.out, if_pos Q0.out]; exact h5, (HB.out.trans b5)⟩
       ·obtain ⟨g4a, g4b⟩ := dFn q2
        have Q2 := Lib.hid (nL (c := e) (d := b) q2); clear q2; obtain ⟨e1, e2⟩ := ES.out; go_wp2_with (first | (go_at_call 181; refine (HROT.out l s m e _ HL.out.2.2.2.1 HR.out Q0.out.1 Q0.out.2 HE.out.1).mono ?_; rintro e' w5 ⟨rfl, h5, b5⟩))
        go_end0
        exact ⟨rfl, by rw [← HT3.out, symTail, if_neg Q2.out, if_neg Q1.out, if_pos Q0.out]; exact h5, (HB.out.trans b5)⟩
     ·obtain ⟨g0a, g0b⟩ := dTn q0
      obtain ⟨g1a, g1b⟩ := dFn t0; have Q0 := Lib.hid (nR (a := s) (b := m) t0); clear q0 t0
      by_cases q1 : a < s
      ·by_cases t1 : s < mid
       ·obtain ⟨g2a, g2b⟩ := dTn q1
        obtain ⟨g3a, g3b⟩ := dTn t1; have Q1 := Lib.hid (And.intro q1 t1); clear q1 t1
        by_cases q2 : mid < e
        ·by_cases t2 : e < b
         ·obtain ⟨g4a, g4b⟩ := dTn q2
          obtain ⟨g5a, g5b⟩ := dTn t2; have Q2 := Lib.hid (And.intro q2 t2); clear q2 t2; obtain ⟨e1, e2⟩ := ES.out; go_wp2_with (first | ((fail_if_success (clear h6)); go_at_call 176; refine (HREC.out l a s mid _ Q1.out.1 Q1.out.2 HM.out.1 HM.out.2.1 HOK.out HL.out.2.2.2.1 HR.out HB.out).mono ?_; rintro e' w6 ⟨rfl, h6, b6⟩) | (go_at_call 176; refine (HREC.out (R l a s mid) mid e b _ Q2.out.1 Q2.out.2 HM.out.2.2.1 HM.out.2.2.2 (HROK.out _ a s mid HOK.out) ((HRLEN.out _ a s mid).trans HL.out.2.2.2.1) h6 b6).mono ?_; rintro e' w7 ⟨rfl, h7, b7⟩))
          go_end0
          exact ⟨rfl, by rw [← HT3.out, symTail, if_pos Q2.out, if_pos Q1.out, if_neg Q0.out]; exact h7, b7⟩
         ·obtain ⟨g4a, g4b⟩ := dTn q2
          obtain ⟨g5a, g5b⟩ := dFn t2; have Q2 := Lib.hid (nR (a := mid) (b := e) t2); clear q2 t2; obtain ⟨e1, e2⟩ := ES.out; go_wp2_with (first | ((fail_if_success (clear h6)); go_at_call 176; refine (HREC.out l a s mid _ Q1.out.1 Q1.out.2 HM.out.1 HM.out.2.1 HOK.out HL.out.2.2.2.1 HR.out HB.out).mono ?_; rintro e' w6 ⟨rfl, h6, b6⟩))
          go_end0
          exact ⟨rfl, by rw [← HT3.out, symTail, if_neg Q2.out, if_pos Q1.out, if_neg Q0.out]; exact h6, b6⟩
        ·obtain ⟨g4a, g4b⟩ := dFn q2
         have Q2 := Lib.hid (nL (c := e) (d := b) q2); clear q2; obtain ⟨e1, e2⟩ := ES.out; go_wp2_with (first | ((fail_if_success (clear h6)); go_at_call 176; refine (HREC.out l a s mid _ Q1.out.1 Q1.out.2 HM.out.1 HM.out.2.1 HOK.out HL.out.2.2.2.1 HR.out HB.out).mono ?_; rintro e' w6 ⟨rfl, h6, b6⟩))
         go_end0
         exact ⟨rfl, by rw [← HT3.out, symTail, if_neg Q2.out, if_pos Q1.out, if_neg Q0.out]; exact h6, b6⟩
       ·obtain ⟨g2a, g2b⟩ := dTn q1
        obtain ⟨g3a, g3b⟩ := dFn t1; have Q1 := Lib.hid (nR (a := a) (b := s) t1); clear q1 t1
        by_cases q2 : mid < e
        ·by_cases t2 : e < b
         ·obtain ⟨g4a, g4b⟩ := dTn q2
          obtain ⟨g5a, g5b⟩ := dTn t2; have Q2 := Lib.hid (And.intro q2 t2); clear q2 t2; obtain ⟨e1, e2⟩ := ES.out; go_wp2_with (first | (go_at_call 176; refine (HREC.out l mid e b _ Q2.out.1 Q2.out.2 HM.out.2.2.1 HM.out.2.2.2 HOK.out HL.out.2.2.2.1 HR.out HB.out).mono ?_; rintro e' w7 ⟨rfl, h7, b7⟩))
          go_end0
          exact ⟨rfl, by rw [← HT3.out, symTail, if_pos Q2.out, if_neg Q1.out, if_neg Q0.out]; exact h7, b7⟩
         ·obtain ⟨g4a, g4b⟩ := dTn q2
          obtain ⟨g5a, g5b⟩ := dFn t2; have Q2 := Lib.hid (nR (a := mid) (b := e) t2); clear q2 t2; obtain ⟨e1, e2⟩ := ES.out; go_wp2
          go_end0
          exact ⟨rfl, by rw [← HT3.out, symTail, if_neg Q2.out, if_neg Q1.out, if_neg Q0.out]; exact HR.out, HB.out⟩
        ·obtain ⟨g4a, g4b⟩ := dFn q2
         have Q2 := Lib.hid (nL (c := e) (d := b) q2); clear q2; obtain ⟨e1, e2⟩ := ES.out; go_wp2
         go_end0
         exact ⟨rfl, by rw [← HT3.out, symTail, if_neg Q2.out, if_neg Q1.out, if_neg Q0.out]; exact HR.out, HB.out⟩
      ·obtain ⟨g2a, g2b⟩ := dFn q1
       have Q1 := Lib.hid (nL (c := s) (d := mid) q1); clear q1
       by_cases q2 : mid < e
       ·by_cases t2 : e < b
        ·obtain ⟨g4a, g4b⟩ := dTn q2
         obtain ⟨g5a, g5b⟩ := dTn t2; have Q2 := Lib.hid (And.intro q2 t2); clear q2 t2; obtain ⟨e1, e2⟩ := ES.out; go_wp2_with (first | (go_at_call 176; refine (HREC.out l mid e b _ Q2.out.1 Q2.out.2 HM.out.2.2.1 HM.out.2.2.2 HOK.out HL.out.2.2.2.1 HR.out HB.out).mono ?_; rintro e' w7 ⟨rfl, h7, b7⟩))
         go_end0
         exact ⟨rfl, by rw [← HT3.out, symTail, if_pos Q2.out, if_neg Q1.out, if_neg Q0.out]; exact h7, b7⟩
        ·obtain ⟨g4a, g4b⟩ := dTn q2
         obtain ⟨g5a, g5b⟩ := dFn t2; have Q2 := Lib.hid (nR (a := mid) (b := e) t2); clear q2 t2; obtain ⟨e1, e2⟩ := ES.out; go_wp2
         go_end0
         exact ⟨rfl, by rw [← HT3.out, symTail, if_neg Q2.out, if_neg Q1.out, if_neg Q0.out]; exact HR.out, HB.out⟩
       ·obtain ⟨g4a, g4b⟩ := dFn q2
        have Q2 := Lib.hid (nL (c := e) (d := b) q2); clear q2; obtain ⟨e1, e2⟩ := ES.out; go_wp2
        go_end0
        exact ⟨rfl, by rw [← HT3.out, symTail, if_neg Q2.out, if_neg Q1.out, if_neg Q0.out]; exact HR.out, HB.out⟩
    ·obtain ⟨g0a, g0b⟩ := dFn q0
     have Q0 := Lib.hid (nL (c := m) (d := e) q0); clear q0
     by_cases q1 : a < s
     ·by_cases t1 : s < mid
      ·obtain ⟨g2a, g2b⟩ := dTn q1
       obtain ⟨g3a, g3b⟩ := dTn t1; have Q1 := Lib.hid (And.intro q1 t1); clear q1 t1
       by_cases q2 : mid < e
       ·by_cases t2 : e < b
        ·obtain ⟨g4a, g4b⟩ := dTn q2
         obtain ⟨g5a, g5b⟩ := dTn t2; have Q2 := Lib.hid (And.intro q2 t2); clear q2 t2; obtain ⟨e1, e2⟩ := ES.out; go_wp2_with (first | ((fail_if_success (clear h6)); go_at_call 176; refine (HREC.out l a s mid _ Q1.out.1 Q1.out.2 HM.out.1 HM.out.2.1 HOK.out HL.out.2.2.2.1 HR.out HB.out).mono ?_; rintro e' w6 ⟨rfl, h6, b6⟩) | (go_at_call 176; refine (HREC.out (R l a s mid) mid e b _ Q2.out.1 Q2.out.2 HM.out.2.2.1 HM.out.2.2.2 (HROK.out _ a s mid HOK.out) ((HRLEN.out _ a s mid).trans HL.out.2.2.2.1) h6 b6).mono ?_; rintro e' w7 ⟨rfl, h7, b7⟩))
         go_end0
         exact ⟨rfl, by rw [← HT3.out, symTail, if_pos Q2.out, if_pos Q1.out, if_neg Q0.out]; exact h7, b7⟩
        ·obtain ⟨g4a, g4b⟩ := dTn q2
         obtain ⟨g5a, g5b⟩ := dFn t2; have Q2 := Lib.hid (nR (a := mid) (b := e) t2); clear q2 t2; obtain ⟨e1, e2⟩ := ES.out; go_wp2_with (first | ((fail_if_success (clear h6)); go_at_call 176; refine (HREC.out l a s mid _ Q1.out.1 Q1.out.2 HM.out.1 HM.out.2.1 HOK.out HL.out.2.2.2.1 HR.out HB.out).mono ?_; rintro e' w6 ⟨rfl, h6, b6⟩))
         go_end0
         exact ⟨rfl, by rw [← HT3.out, symTail, if_neg Q2.out, if_pos Q1.out, if_neg Q0.out]; exact h6, b6⟩
       ·obtain ⟨g4a, g4b⟩ := dFn q2
        have Q2 := Lib.hid (nL (c := e) (d := b) q2); clear q2; obtain ⟨e1, e2⟩ := ES.out; go_wp2_with (first | ((fail_if_success (clear h6)); go_at_call 176; refine (HREC.out l a s mid _ Q1.out.1 Q1.out.2 HM.out.1 HM.out.2.1 HOK.out HL.out.2.2.2.1 HR.out HB.out).mono ?_; rintro e' w6 ⟨rfl, h6, b6⟩))
        go_end0
        exact ⟨rfl, by rw [← HT3.out, symTail, if_neg Q2.out, if_pos Q1.out, if_neg Q0.out]; exact h6, b6⟩
      ·obtain ⟨g2a, g2b⟩ := dTn q1
       obtain ⟨g3a, g3b⟩ := dFn t1; have Q1 := Lib.hid (nR (a := a) (b := s) t1); clear q1 t1
       by_cases q2 : mid < e
       ·by_cases t2 : e < b
        ·obtain ⟨g4a, g4b⟩ := dTn q2
         obtain ⟨g5a, g5b⟩ := dTn t2; have Q2 := Lib.hid (And.intro q2 t2); clear q2 t2; obtain ⟨e1, e2⟩ := ES.out; go_wp2_with (first | (go_at_call 176; refine (HREC.out l mid e b _ Q2.out.1 Q2.out.2 HM.out.2.2.1 HM.out.2.2.2 HOK.out HL.out.2.2.2.1 HR.out HB.out).mono ?_; rintro e' w7 ⟨rfl, h7, b7⟩))
         go_end0
         exact ⟨rfl, by rw [← HT3.out, symTail, if_pos Q2.out, if_neg Q1.out, if_neg Q0.out]; exact h7, b7⟩
        ·obtain ⟨g4a, g4b⟩ := dTn q2
         obtain ⟨g5a, g5b⟩ := dFn t2; have Q2 := Lib.hid (nR (a := mid) (b := e) t2); clear q2 t2; obtain ⟨e1, e2⟩ := ES.out; go_wp2
         go_end0
         exact ⟨rfl, by rw [← HT3.out, symTail, if_neg Q2.out, if_neg Q1.out, if_neg Q0.out]; exact HR.out, HB.out⟩
       ·obtain ⟨g4a, g4b⟩ := dFn q2
        have Q2 := Lib.hid (nL (c := e) (d := b) q2); clear q2; obtain ⟨e1, e2⟩ := ES.out; go_wp2
        go_end0
        exact ⟨rfl, by rw [← HT3.out, symTail, if_neg Q2.out, if_neg Q1.out, if_neg Q0.out]; exact HR.out, HB.out⟩
     ·obtain ⟨g2a, g2b⟩ := dFn q1
      have Q1 := Lib.hid (nL (c := s) (d := mid) q1); clear q1
      by_cases q2 : mid < e
      ·by_cases t2 : e < b
       ·obtain ⟨g4a, g4b⟩ := dTn q2
        obtain ⟨g5a, g5b⟩ := dTn t2; have Q2 := Lib.hid (And.intro q2 t2); clear q2 t2; obtain ⟨e1, e2⟩ := ES.out; go_wp2_with (first | (go_at_call 176; refine (HREC.out l mid e b _ Q2.out.1 Q2.out.2 HM.out.2.2.1 HM.out.2.2.2 HOK.out HL.out.2.2.2.1 HR.out HB.out).mono ?_; rintro e' w7 ⟨rfl, h7, b7⟩))
        go_end0
        exact ⟨rfl, by rw [← HT3.out, symTail, if_pos Q2.out, if_neg Q1.out, if_neg Q0.out]; exact h7, b7⟩
       ·obtain ⟨g4a, g4b⟩ := dTn q2
        obtain ⟨g5a, g5b⟩ := dFn t2; have Q2 := Lib.hid (nR (a := mid) (b := e) t2); clear q2 t2; obtain ⟨e1, e2⟩ := ES.out; go_wp2
        go_end0
        exact ⟨rfl, by rw [← HT3.out, symTail, if_neg Q2.out, if_neg Q1.out, if_neg Q0.out]; exact HR.out, HB.out⟩
      ·obtain ⟨g4a, g4b⟩ := dFn q2
       have Q2 := Lib.hid (nL (c := e) (d := b) q2); clear q2; obtain ⟨e1, e2⟩ := ES.out; go_wp2
       go_end0
       exact ⟨rfl, by rw [← HT3.out, symTail, if_neg Q2.out, if_neg Q1.out, if_neg Q0.out]; exact HR.out, HB.out⟩
end Go.Proofs.YtpjjbaclphoilaaGreatDoor.A
