import Derived.Lib.DecodeNEq
import Derived.Lib.ValidU
import Derived.Test.YtplemgmfnghoeaaGreatDoorAx0
import Derived.Test.YtplemgmfnghoeaaGreatDoorAx6
import Derived.Test.YtplemgmfnghoeaaGreatDoorAx23
import Derived.Test.YtplemgmfnghoeaaGreatDoorAx28
import Derived.Test.YtplemgmfnghoeaaGreatDoorAx54
import Derived.Test.YtplemgmfnghoeaaGreatDoorAx55
namespace Go.Proofs.YtplemgmfnghoeaaGreatDoor.U8
open Go.RowKit Go.Proofs.YtplemgmfnghoeaaGreatDoor.A Go.Proofs.YtplemgmfnghoeaaGreatDoorW.PrintWords Go.Proofs.YtplemgmfnghoeaaGreatDoorW.PrintLast Go.Lib
set_option linter.unusedVariables false
/-- What a function comes to, with enough rounds. -/
def Evn {α : Type} (g : Nat → Option α) (v : α) : Prop := ∃ K, ∀ k, K ≤ k → g k = some v
theorem Evn.of {α : Type} {g : Nat → Option α} {v : α} (K : Nat) (h : ∀ k, K ≤ k → g k = some v) : Evn g v := ⟨K, h⟩
theorem Evn.ret {α : Type} (v : α) : Evn (fun _ => some v) v := ⟨0, fun _ _ => rfl⟩
theorem Evn.con {α : Type} {o : Option α} {v : α} (h : o = some v) : Evn (fun _ => o) v := ⟨0, fun _ _ => h⟩
theorem Evn.step {α : Type} {g g' : Nat → Option α} {v : α} (e : ∀ k, g (k + 1) = g' k) (h : Evn g' v) : Evn g v := by
  obtain ⟨K, h⟩ := h
  refine ⟨K + 1, fun k hk => ?_⟩
  obtain ⟨j, rfl⟩ : ∃ j, k = j + 1 := ⟨k - 1, by omega⟩
  exact (e j).trans (h j (by omega))
theorem Evn.pos {α : Type} {c : Prop} [Decidable c] {a b : Nat → Option α} {v : α} (hc : c) (h : Evn a v) : Evn (fun k => if c then a k else b k) v := by
  obtain ⟨K, h⟩ := h
  exact ⟨K, fun k hk => (if_pos hc).trans (h k hk)⟩
theorem Evn.neg {α : Type} {c : Prop} [Decidable c] {a b : Nat → Option α} {v : α} (hc : ¬ c) (h : Evn b v) : Evn (fun k => if c then a k else b k) v := by
  obtain ⟨K, h⟩ := h
  exact ⟨K, fun k hk => (if_neg hc).trans (h k hk)⟩
theorem Evn.ite {α : Type} {c : Prop} [Decidable c] {a b : Nat → Option α} {v : α} (h1 : c → Evn a v) (h2 : ¬ c → Evn b v) : Evn (fun k => if c then a k else b k) v := by
  by_cases h : c
  · exact Evn.pos h (h1 h)
  · exact Evn.neg h (h2 h)
theorem Evn.bind {α β : Type} {g : Nat → Option α} {u : α} {h : Nat → α → Option β} {v : β} (hg : Evn g u) (hh : Evn (fun k => h k u) v) : Evn (fun k => (g k).bind (h k)) v := by
  obtain ⟨K, hg⟩ := hg
  obtain ⟨L, hh⟩ := hh
  refine ⟨K + L, fun k hk => ?_⟩
  show (g k).bind (h k) = some v
  rw [hg k (by omega), Option.bind_some]
  exact hh k (by omega)
theorem Evn.bc {α β : Type} {o : Option α} {u : α} {h : Nat → α → Option β} {v : β} (hg : o = some u) (hh : Evn (fun k => h k u) v) : Evn (fun k => o.bind (h k)) v := Evn.bind (Evn.con hg) hh
theorem Evn.get {α : Type} {g : Nat → Option α} {v : α} (h : Evn g v) : ∃ k, g k = some v := let ⟨K, h⟩ := h; ⟨K, h K (Nat.le_refl _)⟩
end Go.Proofs.YtplemgmfnghoeaaGreatDoor.U8
namespace Go.Proofs.YtplemgmfnghoeaaGreatDoor.U8
open Go.RowKit Go.Proofs.YtplemgmfnghoeaaGreatDoorW.PrintWords Go.Proofs.YtplemgmfnghoeaaGreatDoorW.PrintLast Go.Lib
set_option linter.unusedVariables false
/-- Is a byte one that goes on? -/
def tl (n i b : Nat) : Prop := i < n ∧ 128 ≤ b ∧ b < 192
instance (n i b : Nat) : Decidable (tl n i b) := by unfold tl; exact inferInstance
end Go.Proofs.YtplemgmfnghoeaaGreatDoor.U8
namespace Go.Proofs.YtplemgmfnghoeaaGreatDoor.U8
open Go.RowKit Go.Proofs.YtplemgmfnghoeaaGreatDoor.A Go.Proofs.YtplemgmfnghoeaaGreatDoorW.PrintWords Go.Proofs.YtplemgmfnghoeaaGreatDoorW.PrintLast Go.Lib
set_option linter.unusedVariables false
set_option linter.unusedSimpArgs false
end Go.Proofs.YtplemgmfnghoeaaGreatDoor.U8
namespace Go.Proofs.YtplemgmfnghoeaaGreatDoor.U8
open Go.RowKit Go.Proofs.YtplemgmfnghoeaaGreatDoor.A Go.Proofs.YtplemgmfnghoeaaGreatDoorW.PrintWords Go.Proofs.YtplemgmfnghoeaaGreatDoorW.PrintLast Go.Lib
set_option linter.unusedVariables false
set_option maxRecDepth 100000 in
theorem awake6_true : caduceuslaw06_awake.f 80 = some true := by decide +kernel
theorem awake6 : Evn (fun k => caduceuslaw06_awake.f k) true := Evn.of 80 (fun k h => at_rounds (fun k => caduceuslaw06_awake.mono k) h awake6_true)
end Go.Proofs.YtplemgmfnghoeaaGreatDoor.U8
namespace Go.Proofs.YtplemgmfnghoeaaGreatDoor.Pure
open Go.RowKit Go.Proofs.YtplemgmfnghoeaaGreatDoor.A Go.Proofs.YtplemgmfnghoeaaGreatDoor.U8 Go.Proofs.YtplemgmfnghoeaaGreatDoorW.PrintWords Go.Proofs.YtplemgmfnghoeaaGreatDoorW.PrintLast
set_option linter.unusedVariables false
set_option linter.unusedSimpArgs false
def cI3 (x y : Int) : Int := if x < y then -1 else if x > y then 1 else 0
theorem cmp3 (x y : Int) : cmp_Compare_int.f x y = some (cI3 x y) := by
  unfold cmp_Compare_int.f cmp_isNaN_int.f cI3
  rw [bne_self_eq_false, bne_self_eq_false, Option.bind_some, Option.bind_some, if_neg (by decide), if_neg (by decide)]
  split
  · rfl
  · split <;> rfl
def ordI (a0 a1 a2 b0 b1 b2 : Int) : Int := if cI3 a0 b0 = 0 then (if cI3 a1 b1 = 0 then (if cI3 a2 b2 = 0 then 0 else cI3 a2 b2) else cI3 a1 b1) else cI3 a0 b0
theorem or3 (x y z : Int) : Evn (fun k => cmp_Or_int.f k [x, y, z]) (if x = 0 then (if y = 0 then (if z = 0 then 0 else z) else y) else x) := by
  have hlen : (([x, y, z] : List Int).length : Int) = 3 := rfl
  have w1 : wrap64 ((0 : Int) + 1) = 1 := by unfold wrap64; omega
  have w2 : wrap64 ((1 : Int) + 1) = 2 := by unfold wrap64; omega
  have w3 : wrap64 ((2 : Int) + 1) = 3 := by unfold wrap64; omega
  have r0 : rd [x, y, z] 0 = x := rfl
  have r1 : rd [x, y, z] 1 = y := rfl
  have r2 : rd [x, y, z] 2 = z := rfl
  show Evn (fun k => cmp_Or_int.l0 k 0 [x, y, z] (([x, y, z] : List Int).length : Int) 0) _
  rw [hlen]
  refine Evn.step (fun k => cmp_Or_int.l0.eq_2 ..) (Evn.pos (by omega) (Evn.pos (by omega) (Evn.pos (by rw [hlen]; omega) ?_)))
  rw [r0, w1]
  by_cases hx : x = 0
  case neg => rw [if_neg hx]; exact Evn.neg hx (Evn.ret _)
  rw [if_pos hx]
  refine Evn.pos hx ?_
  refine Evn.step (fun k => cmp_Or_int.l0.eq_2 ..) (Evn.pos (by omega) (Evn.pos (by omega) (Evn.pos (by rw [hlen]; omega) ?_)))
  rw [r1, w2]
  by_cases hy : y = 0
  case neg => rw [if_neg hy]; exact Evn.neg hy (Evn.ret _)
  rw [if_pos hy]
  refine Evn.pos hy ?_
  refine Evn.step (fun k => cmp_Or_int.l0.eq_2 ..) (Evn.pos (by omega) (Evn.pos (by omega) (Evn.pos (by rw [hlen]; omega) ?_)))
  rw [r2, w3]
  by_cases hz : z = 0
  case neg => rw [if_neg hz]; exact Evn.neg hz (Evn.ret _)
  rw [if_pos hz]
  exact Evn.pos hz (Evn.step (fun k => cmp_Or_int.l0.eq_2 ..) (Evn.neg (by omega) (Evn.ret _)))
theorem ord_ev (a0 a1 a2 b0 b1 b2 : Int) : Evn (fun k => forest_Order.f k a0 a1 a2 b0 b1 b2) (ordI a0 a1 a2 b0 b1 b2) :=
  Evn.bc (cmp3 a0 b0) (Evn.bc (cmp3 a1 b1) (Evn.bc (cmp3 a2 b2) (Evn.bind (or3 _ _ _) (Evn.ret _))))
theorem cI3_cases (x y : Int) : (cI3 x y = -1 ∧ x < y) ∨ (cI3 x y = 1 ∧ y < x) ∨ (cI3 x y = 0 ∧ x = y) := by
  unfold cI3
  by_cases h : x < y
  · rw [if_pos h]; exact .inl ⟨rfl, h⟩
  rw [if_neg h]
  by_cases h2 : x > y
  · rw [if_pos h2]; exact .inr (.inl ⟨rfl, h2⟩)
  · rw [if_neg h2]; exact .inr (.inr ⟨rfl, by omega⟩)
def lex3 (a0 a1 a2 b0 b1 b2 : Int) : Prop := a0 < b0 ∨ (a0 = b0 ∧ (a1 < b1 ∨ (a1 = b1 ∧ a2 < b2)))
theorem ord_cases (a0 a1 a2 b0 b1 b2 : Int) : (ordI a0 a1 a2 b0 b1 b2 = -1 ∧ lex3 a0 a1 a2 b0 b1 b2) ∨ (ordI a0 a1 a2 b0 b1 b2 = 1 ∧ lex3 b0 b1 b2 a0 a1 a2) ∨ (ordI a0 a1 a2 b0 b1 b2 = 0 ∧ (a0 = b0 ∧ a1 = b1 ∧ a2 = b2)) := by
  unfold ordI lex3
  rcases cI3_cases a0 b0 with ⟨e0, h0⟩ | ⟨e0, h0⟩ | ⟨e0, h0⟩
  · rw [if_neg (by omega), e0]; exact .inl ⟨rfl, .inl h0⟩
  · rw [if_neg (by omega), e0]; exact .inr (.inl ⟨rfl, .inl h0⟩)
  rw [if_pos e0]
  rcases cI3_cases a1 b1 with ⟨e1, h1⟩ | ⟨e1, h1⟩ | ⟨e1, h1⟩
  · rw [if_neg (by omega), e1]; exact .inl ⟨rfl, .inr ⟨h0, .inl h1⟩⟩
  · rw [if_neg (by omega), e1]; exact .inr (.inl ⟨rfl, .inr ⟨h0.symm, .inl h1⟩⟩)
  rw [if_pos e1]
  rcases cI3_cases a2 b2 with ⟨e2, h2⟩ | ⟨e2, h2⟩ | ⟨e2, h2⟩
  · rw [if_neg (by omega), e2]; exact .inl ⟨rfl, .inr ⟨h0, .inr ⟨h1, h2⟩⟩⟩
  · rw [if_neg (by omega), e2]; exact .inr (.inl ⟨rfl, .inr ⟨h0.symm, .inr ⟨h1.symm, h2⟩⟩⟩)
  · rw [if_pos e2]; exact .inr (.inr ⟨rfl, h0, h1, h2⟩)
theorem tT_same : name_Same.f ⟨#[116]⟩ ⟨#[84]⟩ = some true := by decide +kernel
theorem EventOrder (a0 a1 a2 b0 b1 b2 c0 c1 c2 : Int) : ∃ k, caduceuslaw06_EventOrder.f k a0 a1 a2 b0 b1 b2 c0 c1 c2 = some true := by
  refine Evn.get (g := fun k => caduceuslaw06_EventOrder.f k a0 a1 a2 b0 b1 b2 c0 c1 c2) (Evn.bind (ord_ev a0 a1 a2 b0 b1 b2) (Evn.bind (ord_ev b0 b1 b2 c0 c1 c2) (Evn.bind (ord_ev a0 a1 a2 c0 c1 c2) ?_)))
  have s1 : Evn (fun k => event_Same.f k a0 a1 a2 (⟨#[116]⟩ : ByteArray) [] b0 b1 b2 (⟨#[84]⟩ : ByteArray) []) false := by
    refine Evn.ite (fun h => Evn.neg (by rw [ByteArray.toList_eq, ByteArray.toList_eq]; decide) (Evn.ret _)) (fun h => Evn.ret _)
  have s2 : Evn (fun k => event_Same.f k a0 a1 a2 (⟨#[116]⟩ : ByteArray) [] a0 a1 a2 (⟨#[116]⟩ : ByteArray) []) true := by
    refine Evn.pos (by rw [beq_self_eq_true, beq_self_eq_true, beq_self_eq_true]; rfl) (Evn.pos rfl (Evn.bind (u := true) ?_ (Evn.ret _)))
    exact Evn.pos rfl (Evn.step (fun k => api_Attr_27.l0.eq_2 ..) (Evn.neg (by decide) (Evn.ret _)))
  have s3 : event_Alike.f a0 a1 a2 (⟨#[116]⟩ : ByteArray) [] b0 b1 b2 (⟨#[84]⟩ : ByteArray) [] = some true := by
    unfold event_Alike.f
    rw [tT_same, Option.bind_some, if_pos rfl, if_pos rfl]
    rfl
  refine Evn.bind s1 (Evn.neg (by decide) (Evn.bc s3 (Evn.pos rfl (Evn.bind s2 ?_))))
  refine Evn.step (fun k => caduceuslaw06_EventOrder.j0.eq_2 ..) (Evn.neg (by decide) (Evn.bind awake6 (Evn.pos rfl (Evn.bind (ord_ev b0 b1 b2 a0 a1 a2) (Evn.con ?_)))))
  have h1 := ord_cases a0 a1 a2 b0 b1 b2
  have h2 := ord_cases b0 b1 b2 c0 c1 c2
  have h3 := ord_cases a0 a1 a2 c0 c1 c2
  have h4 := ord_cases b0 b1 b2 a0 a1 a2
  generalize ordI a0 a1 a2 b0 b1 b2 = ab at h1 ⊢
  generalize ordI b0 b1 b2 c0 c1 c2 = bc at h2 ⊢
  generalize ordI a0 a1 a2 c0 c1 c2 = ac at h3 ⊢
  generalize ordI b0 b1 b2 a0 a1 a2 = ba at h4 ⊢
  unfold lex3 at h1 h2 h3 h4
  have hn : ab = -ba := by omega
  have hab : ab = wrap64 (-ba) := by
    rw [hn]
    have : ba = -1 ∨ ba = 1 ∨ ba = 0 := by omega
    rcases this with rfl | rfl | rfl <;> unfold wrap64 <;> omega
  rw [if_pos hab]
  have heq : ((ab == 0) == (a0 == b0 && (a1 == b1 && (a2 == b2)))) = true := by
    rw [beq_iff_eq, Bool.eq_iff_iff]
    simp only [Bool.and_eq_true, beq_iff_eq]
    omega
  rw [if_pos heq]
  by_cases g1 : ab ≥ 0
  · rw [if_pos g1]
    by_cases g2 : ab = 0
    · rw [if_pos g2]
      have : bc = ac := by omega
      rw [this, beq_self_eq_true]
    · rw [if_neg g2]
  · rw [if_neg g1]
    by_cases g2 : bc ≥ 0
    · rw [if_pos g2, if_neg (by omega)]
    · rw [if_neg g2, if_pos (by omega), if_neg (by omega)]
end Go.Proofs.YtplemgmfnghoeaaGreatDoor.Pure
