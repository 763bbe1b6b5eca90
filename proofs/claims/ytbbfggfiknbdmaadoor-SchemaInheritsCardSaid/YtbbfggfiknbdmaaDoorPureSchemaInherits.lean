import Derived.Lib.DecodeNEq
import Derived.Lib.ValidU
import Derived.Test.YtbbfggfiknbdmaaDoorAx0
import Derived.Test.YtbbfggfiknbdmaaDoorAx2
import Derived.Test.YtbbfggfiknbdmaaDoorAx3
import Derived.Test.YtbbfggfiknbdmaaDoorAx4
import Derived.Test.YtbbfggfiknbdmaaDoorAx5
import Derived.Test.YtbbfggfiknbdmaaDoorAx6
import Derived.Test.YtbbfggfiknbdmaaDoorAx7
import Derived.Test.YtbbfggfiknbdmaaDoorAx8
import Derived.Test.YtbbfggfiknbdmaaDoorAx10
import Derived.Test.YtbbfggfiknbdmaaDoorAx11
import Derived.Test.YtbbfggfiknbdmaaDoorAx12
import Derived.Test.YtbbfggfiknbdmaaDoorAx13
import Derived.Test.YtbbfggfiknbdmaaDoorAx15
import Derived.Test.YtbbfggfiknbdmaaDoorAx16
import Derived.Test.YtbbfggfiknbdmaaDoorAx17
namespace Go.Proofs.YtbbfggfiknbdmaaDoor.U8
open Go.RowKit Go.Proofs.YtbbfggfiknbdmaaDoor.A Go.Proofs.YtbbfggfiknbdmaaDoorW.PrintWords Go.Proofs.YtbbfggfiknbdmaaDoorW.PrintLast Go.Lib
set_option linter.unusedVariables false
set_option linter.unusedSimpArgs false
section
variable {α : Type}
theorem swpL_app (P A M R : List α) (x y : α) (i j : Nat) (hi : i = P.length) (hj : j = P.length + 1 + M.length) : swpL (P ++ x :: (M ++ y :: R)) i j = P ++ y :: (M ++ x :: R) := by
  subst hi hj
  have h1 : (P ++ x :: (M ++ y :: R))[P.length]? = some x := by simp
  have h2 : (P ++ x :: (M ++ y :: R))[P.length + 1 + M.length]? = some y := by
    rw [List.getElem?_append_right (by omega), show P.length + 1 + M.length - P.length = M.length + 1 by omega, List.getElem?_cons_succ]; simp
  rw [swpL_at h1 h2]
  rw [List.set_append_right _ _ (Nat.le_refl _), Nat.sub_self, List.set_cons_zero, List.set_append_right _ _ (by omega), show P.length + 1 + M.length - P.length = M.length + 1 by omega, List.set_cons_succ, List.set_append_right _ _ (Nat.le_refl _), Nat.sub_self, List.set_cons_zero]
theorem swapRL_app : ∀ (X P M Y S : List α) (a b n : Nat), n = X.length → n = Y.length → a = P.length → b = P.length + X.length + M.length → swapRL n (P ++ X ++ M ++ Y ++ S) a b = P ++ Y ++ M ++ X ++ S
  | [], P, M, Y, S, a, b, n, hx, hy, ha, hb => by
    subst hx
    obtain rfl := List.eq_nil_of_length_eq_zero hy.symm
    rfl
  | x :: X, P, M, [], S, a, b, n, hx, hy, ha, hb => by simp at hx hy; omega
  | x :: X, P, M, y :: Y, S, a, b, n, hx, hy, ha, hb => by
    rw [List.length_cons] at hx hy hb
    subst hx
    rw [swapRL]
    have e1 : P ++ (x :: X) ++ M ++ (y :: Y) ++ S = P ++ x :: ((X ++ M) ++ y :: (Y ++ S)) := by simp
    have e2 : swpL (P ++ x :: ((X ++ M) ++ y :: (Y ++ S))) a b = P ++ y :: ((X ++ M) ++ x :: (Y ++ S)) := swpL_app P [] (X ++ M) (Y ++ S) x y a b ha (by rw [List.length_append]; omega)
    have e3 : P ++ y :: ((X ++ M) ++ x :: (Y ++ S)) = (P ++ [y]) ++ X ++ (M ++ [x]) ++ Y ++ S := by simp
    rw [e1, e2, e3, swapRL_app X (P ++ [y]) (M ++ [x]) Y S (a + 1) (b + 1) X.length rfl (by omega) (by simp; omega) (by simp; omega)]
    simp
theorem rotGo_app : ∀ (f : Nat) (P X Y S : List α) (m i j : Nat), i = X.length → j = Y.length → m = P.length + X.length → 0 < i → 0 < j → i + j ≤ f → rotGo f (P ++ X ++ Y ++ S) m i j = P ++ Y ++ X ++ S
  | 0, P, X, Y, S, m, i, j, hi, hj, hm, i0, j0, hf => by omega
  | f + 1, P, X, Y, S, m, i, j, hi, hj, hm, i0, j0, hf => by
    rw [rotGo]
    by_cases h1 : i = j
    · rw [if_pos h1]
      have h := swapRL_app X P [] Y S (m - i) m i hi (by omega) (by omega) (by simp; omega)
      simpa using h
    rw [if_neg h1]
    by_cases h2 : j < i
    · rw [if_pos h2]
      have hx := List.take_append_drop j X
      have l1 : (X.take j).length = j := by rw [List.length_take]; omega
      have l2 : (X.drop j).length = i - j := by rw [List.length_drop]; omega
      generalize X.take j = X1 at hx l1
      generalize X.drop j = X2 at hx l2
      subst hx
      have h := swapRL_app X1 P X2 Y S (m - i) m j l1.symm hj (by omega) (by rw [hm, List.length_append]; omega)
      have e1 : P ++ (X1 ++ X2) ++ Y ++ S = P ++ X1 ++ X2 ++ Y ++ S := by simp
      have e2 : P ++ Y ++ X2 ++ X1 ++ S = (P ++ Y) ++ X2 ++ X1 ++ S := by simp
      rw [e1, h, e2, rotGo_app f (P ++ Y) X2 X1 S m (i - j) j l2.symm l1.symm (by rw [List.length_append] at hm ⊢; omega) (by omega) j0 (by omega)]
      simp
    · rw [if_neg h2]
      have hy := List.take_append_drop (j - i) Y
      have l1 : (Y.take (j - i)).length = j - i := by rw [List.length_take]; omega
      have l2 : (Y.drop (j - i)).length = i := by rw [List.length_drop]; omega
      generalize Y.take (j - i) = Y1 at hy l1
      generalize Y.drop (j - i) = Y2 at hy l2
      subst hy
      have h := swapRL_app X P Y1 Y2 S (m - i) (m + j - i) i hi l2.symm (by omega) (by omega)
      have e1 : P ++ X ++ (Y1 ++ Y2) ++ S = P ++ X ++ Y1 ++ Y2 ++ S := by simp
      have e2 : P ++ Y2 ++ Y1 ++ X ++ S = P ++ Y2 ++ Y1 ++ (X ++ S) := by simp
      rw [e1, h, e2, rotGo_app f P Y2 Y1 (X ++ S) m i (j - i) l2.symm l1.symm (by omega) i0 (by omega) (by omega)]
      simp
theorem upL_app : ∀ (B P R : List α) (x : α) (n k : Nat), n = B.length → k = P.length → upL n (P ++ x :: (B ++ R)) k = P ++ B ++ x :: R
  | [], P, R, x, n, k, hn, hk => by subst hn; simp [upL]
  | y :: B, P, R, x, n, k, hn, hk => by
    rw [List.length_cons] at hn
    subst hn
    rw [upL]
    have e := swpL_app P [] [] (B ++ R) x y k (k + 1) hk (by simp; omega)
    simp only [List.nil_append] at e
    rw [List.cons_append, e]
    have e2 : P ++ y :: x :: (B ++ R) = (P ++ [y]) ++ x :: (B ++ R) := by simp
    rw [e2, upL_app B (P ++ [y]) R x B.length (k + 1) rfl (by simp; omega)]
    simp
theorem dnL_app : ∀ (n : Nat) (P B R : List α) (x : α) (k : Nat), n = B.length → k = P.length + B.length → dnL n (P ++ B ++ x :: R) k = P ++ x :: (B ++ R)
  | 0, P, B, R, x, k, hn, hk => by
    obtain rfl := List.eq_nil_of_length_eq_zero hn.symm
    simp [dnL]
  | n + 1, P, B, R, x, k, hn, hk => by
    obtain ⟨C, y, rfl⟩ : ∃ C y, B = C ++ [y] := ⟨B.dropLast, B.getLast (by intro e; simp [e] at hn), (List.dropLast_concat_getLast _).symm⟩
    rw [List.length_append, List.length_singleton] at hn hk
    rw [dnL]
    have e := swpL_app (P ++ C) [] [] R y x (k - 1) k (by rw [List.length_append]; omega) (by simp; omega)
    have hs : swpL (P ++ C ++ y :: x :: R) k (k - 1) = swpL (P ++ C ++ y :: x :: R) (k - 1) k := by
      have h1 : (P ++ C ++ y :: x :: R)[k - 1]? = some y := by rw [List.getElem?_append_right (by simp; omega)]; simp; rw [show k - 1 - (P.length + C.length) = 0 by omega]; rfl
      have h2 : (P ++ C ++ y :: x :: R)[k]? = some x := by rw [List.getElem?_append_right (by simp; omega)]; simp; rw [show k - (P.length + C.length) = 1 by omega]; rfl
      rw [swpL_at h1 h2, swpL_at h2 h1, List.set_comm _ _ (by omega)]
    simp only [List.nil_append] at e
    have e1 : P ++ (C ++ [y]) ++ x :: R = P ++ C ++ y :: x :: R := by simp
    have e2 : P ++ C ++ x :: y :: R = P ++ C ++ x :: ([y] ++ R) := by simp
    rw [e1, hs, e, e2, dnL_app n P C ([y] ++ R) x (k - 1) (by omega) (by omega)]
    simp
theorem bsL_spec (p : Nat → Bool) (i0 j0 : Nat) : ∀ (f i j : Nat), i0 ≤ i → i ≤ j → j ≤ j0 → j - i ≤ f → (i = i0 ∨ p (i - 1) = true) → (j = j0 ∨ p j = false) → i0 ≤ bsL p f i j ∧ bsL p f i j ≤ j0 ∧ (bsL p f i j = i0 ∨ p (bsL p f i j - 1) = true) ∧ (bsL p f i j = j0 ∨ p (bsL p f i j) = false)
  | 0, i, j, h0, h1, h2, h3, h4, h5 => by
    obtain rfl : i = j := by omega
    exact ⟨h0, h2, h4, h5⟩
  | f + 1, i, j, h0, h1, h2, h3, h4, h5 => by
    rw [bsL]
    by_cases hij : i < j
    · rw [if_pos hij]
      by_cases hp : p ((i + j) / 2) = true
      · rw [if_pos hp]
        exact bsL_spec p i0 j0 f _ j (by omega) (by omega) h2 (by omega) (.inr hp) h5
      · rw [if_neg hp]
        exact bsL_spec p i0 j0 f i _ h0 (by omega) (by omega) (by omega) h4 (.inr (Bool.eq_false_iff.2 hp))
    · rw [if_neg hij]
      obtain rfl : i = j := by omega
      exact ⟨h0, h2, h4, h5⟩
/-- x may stand ahead of y. -/
def leC (cf : α → α → Int) (x y : α) : Prop := ¬ cf y x < 0
variable {cf : α → α → Int}
theorem insIn_app (htr : ∀ x y z, leC cf x y → leC cf y z → leC cf x z) (has : ∀ x y, cf x y < 0 → leC cf x y) : ∀ (n : Nat) (P A R : List α) (x : α) (a j : Nat), n = A.length → a = P.length → j = a + n → List.Pairwise (leC cf) A → ∃ C, insIn cf a j (P ++ A ++ x :: R) = P ++ C ++ R ∧ C.Perm (A ++ [x]) ∧ List.Pairwise (leC cf) C
  | 0, P, A, R, x, a, j, hn, ha, hj, hA => by
    obtain rfl := List.eq_nil_of_length_eq_zero hn.symm
    refine ⟨[x], ?_, by simp, List.pairwise_singleton _ _⟩
    cases j with
    | zero => simp [insIn]
    | succ j => rw [insIn, if_neg (by omega)]; simp
  | n + 1, P, A, R, x, a, j, hn, ha, hj, hA => by
    obtain ⟨C, y, rfl⟩ : ∃ C y, A = C ++ [y] := ⟨A.dropLast, A.getLast (by intro e; simp [e] at hn), (List.dropLast_concat_getLast _).symm⟩
    rw [List.length_append, List.length_singleton] at hn
    obtain ⟨p1, _, p3⟩ := List.pairwise_append.1 hA
    have e1 : P ++ (C ++ [y]) ++ x :: R = P ++ C ++ y :: x :: R := by simp
    have hy : (P ++ C ++ y :: x :: R)[a + n]? = some y := by rw [List.getElem?_append_right (by simp; omega)]; simp; rw [show a + n - (P.length + C.length) = 0 by omega]; rfl
    have hx : (P ++ C ++ y :: x :: R)[a + n + 1]? = some x := by rw [List.getElem?_append_right (by simp; omega)]; simp; rw [show a + n + 1 - (P.length + C.length) = 1 by omega]; rfl
    rw [show j = (a + n) + 1 by omega, insIn, if_pos (by omega), e1, ltAt_eq hx hy]
    by_cases hc : cf x y < 0
    · rw [decide_eq_true hc, if_pos rfl]
      have hs : swpL (P ++ C ++ y :: x :: R) (a + n + 1) (a + n) = P ++ C ++ x :: y :: R := by
        rw [swpL_at hx hy, ← List.set_comm _ _ (by omega), ← swpL_at hy hx]
        have e := swpL_app (P ++ C) [] [] R y x (a + n) (a + n + 1) (by simp; omega) (by simp; omega)
        simpa using e
      rw [hs]
      obtain ⟨D, d1, d2, d3⟩ := insIn_app htr has n P C (y :: R) x a (a + n) (by omega) ha rfl p1
      refine ⟨D ++ [y], by rw [d1]; simp, ?_, List.pairwise_append.2 ⟨d3, List.pairwise_singleton _ _, fun u hu v hv => ?_⟩⟩
      · refine (d2.append_right [y]).trans ?_
        simp only [List.append_assoc]
        exact List.Perm.append_left C (List.Perm.swap y x [])
      · obtain rfl := List.mem_singleton.1 hv
        have := d2.mem_iff.1 hu
        rcases List.mem_append.1 this with h | h
        · exact p3 u h _ (List.mem_singleton.2 rfl)
        · obtain rfl := List.mem_singleton.1 h
          exact has _ _ hc
    · rw [decide_eq_false hc, if_neg (by decide)]
      refine ⟨C ++ [y] ++ [x], by simp, List.Perm.refl _, List.pairwise_append.2 ⟨hA, List.pairwise_singleton _ _, fun u hu v hv => ?_⟩⟩
      obtain rfl := List.mem_singleton.1 hv
      rcases List.mem_append.1 hu with h | h
      · exact htr u y _ (p3 u h _ (List.mem_singleton.2 rfl)) hc
      · obtain rfl := List.mem_singleton.1 h
        exact hc
theorem insOut_app (htr : ∀ x y z, leC cf x y → leC cf y z → leC cf x z) (has : ∀ x y, cf x y < 0 → leC cf x y) : ∀ (n : Nat) (P A B R : List α) (a i : Nat), n = B.length → a = P.length → i = a + A.length → List.Pairwise (leC cf) A → ∃ C, insOut cf a n (P ++ A ++ B ++ R) i = P ++ C ++ R ∧ C.Perm (A ++ B) ∧ List.Pairwise (leC cf) C
  | 0, P, A, B, R, a, i, hn, ha, hi, hA => by
    obtain rfl := List.eq_nil_of_length_eq_zero hn.symm
    exact ⟨A, by simp [insOut], by simp, hA⟩
  | n + 1, P, A, [], R, a, i, hn, ha, hi, hA => by simp at hn
  | n + 1, P, A, x :: B, R, a, i, hn, ha, hi, hA => by
    rw [List.length_cons] at hn
    rw [insOut]
    obtain ⟨C, c1, c2, c3⟩ := insIn_app htr has A.length P A (B ++ R) x a i rfl ha hi hA
    have e1 : P ++ A ++ (x :: B) ++ R = P ++ A ++ x :: (B ++ R) := by simp
    rw [e1, c1]
    have e2 : P ++ C ++ (B ++ R) = P ++ C ++ B ++ R := by simp
    have hl := c2.length_eq
    rw [List.length_append, List.length_singleton] at hl
    obtain ⟨D, d1, d2, d3⟩ := insOut_app htr has n P C B R a (i + 1) (by omega) ha (by omega) c3
    refine ⟨D, by rw [e2, d1], d2.trans ?_, d3⟩
    have := c2.append_right B
    simpa using this
set_option maxHeartbeats 4000000 in
theorem symL_app (htr : ∀ x y z, leC cf x y → leC cf y z → leC cf x z) (has : ∀ x y, cf x y < 0 → leC cf x y) : ∀ (f : Nat) (P A B S : List α) (a m b : Nat), a = P.length → m = a + A.length → b = m + B.length → 0 < A.length → 0 < B.length → b - a ≤ f → List.Pairwise (leC cf) A → List.Pairwise (leC cf) B → ∃ C, symL cf f (P ++ A ++ B ++ S) a m b = P ++ C ++ S ∧ C.Perm (A ++ B) ∧ List.Pairwise (leC cf) C
  | 0, P, A, B, S, a, m, b, ha, hm, hb, hA0, hB0, hf, hA, hB => by omega
  | f + 1, P, A, B, S, a, m, b, ha, hm, hb, hA0, hB0, hf, hA, hB => by
    have IH := symL_app htr has f
    have gA : ∀ k, a ≤ k → k < m → (P ++ A ++ B ++ S)[k]? = A[k - a]? := fun k h1 h2 => by
      rw [List.append_assoc, List.append_assoc, List.getElem?_append_right (by omega), List.getElem?_append_left (by omega), ← ha]
    have gB : ∀ k, m ≤ k → k < b → (P ++ A ++ B ++ S)[k]? = B[k - m]? := fun k h1 h2 => by
      rw [List.append_assoc, List.getElem?_append_right (by rw [List.length_append]; omega), List.getElem?_append_left (by rw [List.length_append]; omega), List.length_append, show P.length + A.length = m by omega]
    rw [symL]
    by_cases h1 : m = a + 1
    · rw [if_pos h1]
      obtain ⟨x, rfl⟩ : ∃ x, A = [x] := List.length_eq_one_iff.1 (by omega)
      have hs := bsL_spec (fun h => ltAt cf (P ++ [x] ++ B ++ S) h a) m b (b - m) m b (Nat.le_refl _) (by omega) (Nat.le_refl _) (by omega) (.inl rfl) (.inl rfl)
      generalize bsL (fun h => ltAt cf (P ++ [x] ++ B ++ S) h a) (b - m) m b = i at hs ⊢
      obtain ⟨s1, s2, s3, s4⟩ := hs
      (try dsimp only at s3 s4)
      have hB' := List.take_append_drop (i - m) B
      have l1 : (B.take (i - m)).length = i - m := by rw [List.length_take]; omega
      have l2 : (B.drop (i - m)).length = b - i := by rw [List.length_drop]; omega
      generalize B.take (i - m) = B1 at hB' l1
      generalize B.drop (i - m) = B2 at hB' l2
      subst hB'
      have gx := gA a (Nat.le_refl _) (by omega)
      rw [Nat.sub_self] at gx
      obtain ⟨p1, p2, p3⟩ := List.pairwise_append.1 hB
      have e1 : P ++ [x] ++ (B1 ++ B2) ++ S = P ++ x :: (B1 ++ (B2 ++ S)) := by simp
      have hlast : ∀ u ∈ B1, leC cf u x := fun u hu => by
        have hne : 0 < B1.length := List.length_pos_of_mem hu
        rcases s3 with s3 | s3
        · omega
        have hl : (B1 ++ B2)[i - 1 - m]? = some (B1[i - 1 - m]'(by omega)) := by rw [List.getElem?_append_left (by omega), List.getElem?_eq_getElem]
        rw [ltAt_eq ((gB (i - 1) (by omega) (by omega)).trans hl) gx] at s3
        have h9 := has _ _ (of_decide_eq_true s3)
        obtain ⟨k, hk, rfl⟩ := List.mem_iff_getElem.1 hu
        by_cases hke : k = i - 1 - m
        · subst hke; exact h9
        · exact htr _ _ _ (List.pairwise_iff_getElem.1 p1 k (i - 1 - m) hk (by omega) (by omega)) h9
      have hfirst : ∀ v ∈ B2, leC cf x v := fun v hv => by
        have hne : 0 < B2.length := List.length_pos_of_mem hv
        rcases s4 with s4 | s4
        · omega
        have hl : (B1 ++ B2)[i - m]? = some (B2[0]'hne) := by rw [List.getElem?_append_right (by omega), l1, Nat.sub_self, List.getElem?_eq_getElem]
        rw [ltAt_eq ((gB i (by omega) (by omega)).trans hl) gx] at s4
        have h9 : leC cf x (B2[0]'hne) := of_decide_eq_false s4
        obtain ⟨k, hk, rfl⟩ := List.mem_iff_getElem.1 hv
        by_cases hke : k = 0
        · subst hke; exact h9
        · exact htr _ _ _ h9 (List.pairwise_iff_getElem.1 p2 0 k hne hk (by omega))
      refine ⟨B1 ++ x :: B2, ?_, ?_, ?_⟩
      · rw [e1, upL_app B1 P (B2 ++ S) x (i - 1 - a) a (by omega) ha]; simp
      · exact List.perm_middle
      · refine List.pairwise_append.2 ⟨p1, List.pairwise_cons.2 ⟨hfirst, p2⟩, fun u hu v hv => ?_⟩
        rcases List.mem_cons.1 hv with rfl | hv
        · exact hlast u hu
        · exact p3 u hu v hv
    rw [if_neg h1]
    by_cases h2 : b = m + 1
    · rw [if_pos h2]
      obtain ⟨x, rfl⟩ : ∃ x, B = [x] := List.length_eq_one_iff.1 (by omega)
      have hs := bsL_spec (fun h => !(ltAt cf (P ++ A ++ [x] ++ S) m h)) a m (m - a) a m (Nat.le_refl _) (by omega) (Nat.le_refl _) (by omega) (.inl rfl) (.inl rfl)
      generalize bsL (fun h => !(ltAt cf (P ++ A ++ [x] ++ S) m h)) (m - a) a m = i at hs ⊢
      obtain ⟨s1, s2, s3, s4⟩ := hs
      (try dsimp only at s3 s4)
      have hA' := List.take_append_drop (i - a) A
      have l1 : (A.take (i - a)).length = i - a := by rw [List.length_take]; omega
      have l2 : (A.drop (i - a)).length = m - i := by rw [List.length_drop]; omega
      generalize A.take (i - a) = A1 at hA' l1
      generalize A.drop (i - a) = A2 at hA' l2
      subst hA'
      have gx := gB m (Nat.le_refl _) (by omega)
      rw [Nat.sub_self] at gx
      obtain ⟨p1, p2, p3⟩ := List.pairwise_append.1 hA
      have e1 : P ++ (A1 ++ A2) ++ [x] ++ S = (P ++ A1) ++ A2 ++ x :: S := by simp
      have hlast : ∀ u ∈ A1, leC cf u x := fun u hu => by
        have hne : 0 < A1.length := List.length_pos_of_mem hu
        rcases s3 with s3 | s3
        · omega
        have hl : (A1 ++ A2)[i - 1 - a]? = some (A1[i - 1 - a]'(by omega)) := by rw [List.getElem?_append_left (by omega), List.getElem?_eq_getElem]
        rw [ltAt_eq gx ((gA (i - 1) (by omega) (by omega)).trans hl), Bool.not_eq_true'] at s3
        have h9 : leC cf (A1[i - 1 - a]'(by omega)) x := of_decide_eq_false s3
        obtain ⟨k, hk, rfl⟩ := List.mem_iff_getElem.1 hu
        by_cases hke : k = i - 1 - a
        · subst hke; exact h9
        · exact htr _ _ _ (List.pairwise_iff_getElem.1 p1 k (i - 1 - a) hk (by omega) (by omega)) h9
      have hfirst : ∀ v ∈ A2, leC cf x v := fun v hv => by
        have hne : 0 < A2.length := List.length_pos_of_mem hv
        rcases s4 with s4 | s4
        · omega
        have hl : (A1 ++ A2)[i - a]? = some (A2[0]'hne) := by rw [List.getElem?_append_right (by omega), l1, Nat.sub_self, List.getElem?_eq_getElem]
        rw [ltAt_eq gx ((gA i (by omega) (by omega)).trans hl), Bool.not_eq_false'] at s4
        have h9 : leC cf x (A2[0]'hne) := has _ _ (of_decide_eq_true s4)
        obtain ⟨k, hk, rfl⟩ := List.mem_iff_getElem.1 hv
        by_cases hke : k = 0
        · subst hke; exact h9
        · exact htr _ _ _ h9 (List.pairwise_iff_getElem.1 p2 0 k hne hk (by omega))
      refine ⟨A1 ++ x :: A2, ?_, ?_, ?_⟩
      · rw [e1, dnL_app (m - i) (P ++ A1) A2 S x m (by omega) (by simp at hm ⊢; omega)]; simp
      · refine List.perm_middle.trans ?_
        have := List.perm_append_comm (l₁ := [x]) (l₂ := A1 ++ A2)
        simpa using this
      · refine List.pairwise_append.2 ⟨p1, List.pairwise_cons.2 ⟨hfirst, p2⟩, fun u hu v hv => ?_⟩
        rcases List.mem_cons.1 hv with rfl | hv
        · exact hlast u hu
        · exact p3 u hu v hv
    rw [if_neg h2]
    unfold symBig symAt
    have hs := bsL_spec (fun h => !(ltAt cf (P ++ A ++ B ++ S) ((a + b) / 2 + m - 1 - h) h)) (symS0 a m b) (symR0 a m b) (symR0 a m b - symS0 a m b) (symS0 a m b) (symR0 a m b) (Nat.le_refl _) (by unfold symS0 symR0; split <;> omega) (Nat.le_refl _) (by omega) (.inl rfl) (.inl rfl)
    generalize bsL (fun h => !(ltAt cf (P ++ A ++ B ++ S) ((a + b) / 2 + m - 1 - h) h)) (symR0 a m b - symS0 a m b) (symS0 a m b) (symR0 a m b) = s at hs ⊢
    obtain ⟨s1, s2, s3, s4⟩ := hs
    (try dsimp only at s3 s4)
    obtain ⟨mid, hmid⟩ : ∃ mid, mid = (a + b) / 2 := ⟨_, rfl⟩
    rw [← hmid] at s3 s4 ⊢
    obtain ⟨e, he⟩ : ∃ e, e = mid + m - s := ⟨_, rfl⟩
    rw [← he]
    have q0 : a ≤ symS0 a m b ∧ symR0 a m b ≤ m ∧ symR0 a m b ≤ mid ∧ mid + m - b ≤ symS0 a m b ∧ (symS0 a m b = a ∨ symS0 a m b = mid + m - b) ∧ (symR0 a m b = m ∨ symR0 a m b = mid) := by
      unfold symS0 symR0
      rw [← hmid]
      split <;> omega
    obtain ⟨q1, q2, q2b, q3, q4, q5⟩ := q0
    have hA' := List.take_append_drop (s - a) A
    have l1 : (A.take (s - a)).length = s - a := by rw [List.length_take]; omega
    have l2 : (A.drop (s - a)).length = m - s := by rw [List.length_drop]; omega
    have hB' := List.take_append_drop (e - m) B
    have l3 : (B.take (e - m)).length = e - m := by rw [List.length_take]; omega
    have l4 : (B.drop (e - m)).length = b - e := by rw [List.length_drop]; omega
    generalize A.take (s - a) = A1 at hA' l1
    generalize A.drop (s - a) = A2 at hA' l2
    generalize B.take (e - m) = B1 at hB' l3
    generalize B.drop (e - m) = B2 at hB' l4
    subst hA' hB'
    obtain ⟨a1, a2, a3⟩ := List.pairwise_append.1 hA
    obtain ⟨b1, b2, b3⟩ := List.pairwise_append.1 hB
    have hrot : (if s < m ∧ m < e then rotGo (e - s) (P ++ (A1 ++ A2) ++ (B1 ++ B2) ++ S) m (m - s) (e - m) else P ++ (A1 ++ A2) ++ (B1 ++ B2) ++ S) = P ++ A1 ++ B1 ++ (A2 ++ B2 ++ S) := by
      by_cases h : s < m ∧ m < e
      · rw [if_pos h]
        have r := rotGo_app (e - s) (P ++ A1) A2 B1 (B2 ++ S) m (m - s) (e - m) (by omega) (by omega) (by simp at hm ⊢; omega) (by omega) (by omega) (by omega)
        simpa using r
      · rw [if_neg h]
        by_cases h9 : s < m
        · obtain rfl := List.eq_nil_of_length_eq_zero (show B1.length = 0 by omega)
          simp
        · obtain rfl := List.eq_nil_of_length_eq_zero (show A2.length = 0 by omega)
          simp
    obtain ⟨C1, c1, c2, c3⟩ : ∃ C, (if a < s ∧ s < mid then symL cf f (P ++ A1 ++ B1 ++ (A2 ++ B2 ++ S)) a s mid else P ++ A1 ++ B1 ++ (A2 ++ B2 ++ S)) = P ++ C ++ (A2 ++ B2 ++ S) ∧ C.Perm (A1 ++ B1) ∧ List.Pairwise (leC cf) C := by
      by_cases h : a < s ∧ s < mid
      · rw [if_pos h]
        exact IH P A1 B1 (A2 ++ B2 ++ S) a s mid ha (by omega) (by omega) (by omega) (by omega) (by omega) a1 b1
      · rw [if_neg h]
        refine ⟨A1 ++ B1, by simp, List.Perm.refl _, ?_⟩
        by_cases h9 : a < s
        · obtain rfl := List.eq_nil_of_length_eq_zero (show B1.length = 0 by omega)
          simpa using a1
        · obtain rfl := List.eq_nil_of_length_eq_zero (show A1.length = 0 by omega)
          simpa using b1
    have lc := c2.length_eq
    rw [List.length_append] at lc
    have e3 : P ++ C1 ++ (A2 ++ B2 ++ S) = (P ++ C1) ++ A2 ++ B2 ++ S := by simp
    obtain ⟨C2, d1, d2, d3⟩ : ∃ C, (if mid < e ∧ e < b then symL cf f ((P ++ C1) ++ A2 ++ B2 ++ S) mid e b else (P ++ C1) ++ A2 ++ B2 ++ S) = (P ++ C1) ++ C ++ S ∧ C.Perm (A2 ++ B2) ∧ List.Pairwise (leC cf) C := by
      by_cases h : mid < e ∧ e < b
      · rw [if_pos h]
        exact IH (P ++ C1) A2 B2 S mid e b (by rw [List.length_append]; omega) (by omega) (by omega) (by omega) (by omega) (by omega) a2 b2
      · rw [if_neg h]
        refine ⟨A2 ++ B2, by simp, List.Perm.refl _, ?_⟩
        by_cases h9 : mid < e
        · obtain rfl := List.eq_nil_of_length_eq_zero (show B2.length = 0 by omega)
          simpa using a2
        · obtain rfl := List.eq_nil_of_length_eq_zero (show A2.length = 0 by omega)
          simpa using b2
    have x1 : ∀ u ∈ A1, ∀ v ∈ B2, leC cf u v := fun u hu v hv => by
      have n1 : 0 < A1.length := List.length_pos_of_mem hu
      have n2 : 0 < B2.length := List.length_pos_of_mem hv
      rcases s3 with s3 | s3
      · omega
      have g1 : (A1 ++ A2)[s - 1 - a]? = some (A1[s - 1 - a]'(by omega)) := by rw [List.getElem?_append_left (by omega), List.getElem?_eq_getElem]
      have g2 : (B1 ++ B2)[e - m]? = some (B2[0]'n2) := by rw [List.getElem?_append_right (by omega), l3, Nat.sub_self, List.getElem?_eq_getElem]
      rw [show mid + m - 1 - (s - 1) = e by omega, ltAt_eq ((gB e (by omega) (by omega)).trans g2) ((gA (s - 1) (by omega) (by omega)).trans g1), Bool.not_eq_true'] at s3
      have h9 : leC cf (A1[s - 1 - a]'(by omega)) (B2[0]'n2) := of_decide_eq_false s3
      obtain ⟨k, hk, rfl⟩ := List.mem_iff_getElem.1 hu
      obtain ⟨k', hk', rfl⟩ := List.mem_iff_getElem.1 hv
      have h10 : leC cf (A1[k]'hk) (B2[0]'n2) := by
        by_cases hke : k = s - 1 - a
        · subst hke; exact h9
        · exact htr _ _ _ (List.pairwise_iff_getElem.1 a1 k (s - 1 - a) hk (by omega) (by omega)) h9
      by_cases hke : k' = 0
      · subst hke; exact h10
      · exact htr _ _ _ h10 (List.pairwise_iff_getElem.1 b2 0 k' n2 hk' (by omega))
    have x2 : ∀ u ∈ B1, ∀ v ∈ A2, leC cf u v := fun u hu v hv => by
      have n1 : 0 < B1.length := List.length_pos_of_mem hu
      have n2 : 0 < A2.length := List.length_pos_of_mem hv
      rcases s4 with s4 | s4
      · omega
      have g1 : (B1 ++ B2)[e - 1 - m]? = some (B1[e - 1 - m]'(by omega)) := by rw [List.getElem?_append_left (by omega), List.getElem?_eq_getElem]
      have g2 : (A1 ++ A2)[s - a]? = some (A2[0]'n2) := by rw [List.getElem?_append_right (by omega), l1, Nat.sub_self, List.getElem?_eq_getElem]
      rw [show mid + m - 1 - s = e - 1 by omega, ltAt_eq ((gB (e - 1) (by omega) (by omega)).trans g1) ((gA s (by omega) (by omega)).trans g2), Bool.not_eq_false'] at s4
      have h9 : leC cf (B1[e - 1 - m]'(by omega)) (A2[0]'n2) := has _ _ (of_decide_eq_true s4)
      obtain ⟨k, hk, rfl⟩ := List.mem_iff_getElem.1 hu
      obtain ⟨k', hk', rfl⟩ := List.mem_iff_getElem.1 hv
      have h10 : leC cf (B1[k]'hk) (A2[0]'n2) := by
        by_cases hke : k = e - 1 - m
        · subst hke; exact h9
        · exact htr _ _ _ (List.pairwise_iff_getElem.1 b1 k (e - 1 - m) hk (by omega) (by omega)) h9
      by_cases hke : k' = 0
      · subst hke; exact h10
      · exact htr _ _ _ h10 (List.pairwise_iff_getElem.1 a2 0 k' n2 hk' (by omega))
    refine ⟨C1 ++ C2, ?_, ?_, List.pairwise_append.2 ⟨c3, d3, fun u hu v hv => ?_⟩⟩
    · unfold symTail
      rw [hrot, c1, e3, d1]
      simp
    · refine (c2.append d2).trans ?_
      have : (B1 ++ (A2 ++ B2)).Perm (A2 ++ (B1 ++ B2)) := by
        have := (List.perm_append_comm (l₁ := B1) (l₂ := A2)).append_right B2
        simpa using this
      have := List.Perm.append_left A1 this
      simpa using this
    · rcases List.mem_append.1 (c2.mem_iff.1 hu) with h | h
      · rcases List.mem_append.1 (d2.mem_iff.1 hv) with h' | h'
        · exact a3 u h v h'
        · exact x1 u h v h'
      · rcases List.mem_append.1 (d2.mem_iff.1 hv) with h' | h'
        · exact x2 u h v h'
        · exact b3 u h v h'
theorem stK_sorts (htr : ∀ x y z, leC cf x y → leC cf y z → leC cf x z) (has : ∀ x y, cf x y < 0 → leC cf x y) (k : Nat) (hk : 0 < k) (l : List α) : (stK k cf l).Perm l ∧ List.Pairwise (leC cf) (stK k cf l) := by
  unfold stK
  by_cases h : l.length < k
  · rw [if_pos h]
    cases l with
    | nil => exact ⟨List.Perm.refl _, List.Pairwise.nil⟩
    | cons x xs =>
      obtain ⟨C, c1, c2, c3⟩ := insOut_app htr has xs.length [] [x] xs [] 0 1 rfl rfl rfl (List.pairwise_singleton _ _)
      simp only [List.nil_append, List.append_nil, List.singleton_append] at c1 c2
      rw [List.length_cons, Nat.add_sub_cancel, c1]
      exact ⟨c2, c3⟩
  rw [if_neg h]
  have hT := List.take_append_drop k l
  have l1 : (l.take k).length = k := by rw [List.length_take]; omega
  have l2 : (l.drop k).length = l.length - k := by rw [List.length_drop]
  generalize l.take k = A at hT l1
  generalize l.drop k = B at hT l2
  subst hT
  cases A with
  | nil => simp at l1; omega
  | cons x xs =>
    rw [List.length_cons] at l1
    obtain ⟨C, c1, c2, c3⟩ := insOut_app htr has (k - 1) [] [x] xs B 0 1 (by omega) rfl rfl (List.pairwise_singleton _ _)
    simp only [List.nil_append, List.singleton_append] at c1 c2
    have lc := c2.length_eq
    rw [List.length_cons] at lc
    have hn : (x :: xs ++ B).length = k + B.length := by rw [List.length_append, List.length_cons]; omega
    rw [hn, c1]
    cases B with
    | nil =>
      rw [List.append_nil, List.append_nil, if_neg (by simp), List.length_nil, show k + 0 - (k + 1) = 0 by omega]
      exact ⟨c2, c3⟩
    | cons y ys =>
      obtain ⟨D, d1, d2, d3⟩ := insOut_app htr has ys.length C [y] ys [] k (k + 1) rfl (by omega) rfl (List.pairwise_singleton _ _)
      simp only [List.append_nil] at d1
      have ld := d2.length_eq
      rw [List.length_append, List.length_singleton] at ld
      have e4 : C ++ y :: ys = C ++ [y] ++ ys := by simp
      rw [List.length_cons, e4, show k + (ys.length + 1) - (k + 1) = ys.length by omega, d1, if_pos (by omega)]
      obtain ⟨E, f1, f2, f3⟩ := symL_app htr has (k + (ys.length + 1)) [] C D [] 0 k (k + (ys.length + 1)) rfl (by omega) (by omega) (by omega) (by omega) (by omega) c3 d3
      simp only [List.nil_append, List.append_nil] at f1
      rw [f1]
      refine ⟨f2.trans ?_, f3⟩
      have := c2.append d2
      simpa using this
end
end Go.Proofs.YtbbfggfiknbdmaaDoor.U8
namespace Go.Proofs.YtbbfggfiknbdmaaDoor.U8
open Go.RowKit Go.Proofs.YtbbfggfiknbdmaaDoor.A Go.Proofs.YtbbfggfiknbdmaaDoorW.PrintWords Go.Proofs.YtbbfggfiknbdmaaDoorW.PrintLast Go.Lib
set_option linter.unusedVariables false
/-- What a function comes to, with enough rounds. -/
def Evn {α : Type} (g : Nat → Option α) (v : α) : Prop := ∃ K, ∀ k, K ≤ k → g k = some v
theorem Evn.of {α : Type} {g : Nat → Option α} {v : α} (K : Nat) (h : ∀ k, K ≤ k → g k = some v) : Evn g v := ⟨K, h⟩
theorem Evn.of1 {α : Type} {g : Nat → Option α} {v : α} (h : ∀ k, g (k + 1) = some v) : Evn g v := ⟨1, fun k hk => by
  obtain ⟨j, rfl⟩ : ∃ j, k = j + 1 := ⟨k - 1, by omega⟩
  exact h j⟩
theorem Evn.ret {α : Type} (v : α) : Evn (fun _ => some v) v := ⟨0, fun _ _ => rfl⟩
theorem Evn.con {α : Type} {o : Option α} {v : α} (h : o = some v) : Evn (fun _ => o) v := ⟨0, fun _ _ => h⟩
theorem Evn.step {α : Type} {g g' : Nat → Option α} {v : α} (e : ∀ k, g (k + 1) = g' k) (h : Evn g' v) : Evn g v := by
  obtain ⟨K, h⟩ := h
  refine ⟨K + 1, fun k hk => ?_⟩
  obtain ⟨j, rfl⟩ : ∃ j, k = j + 1 := ⟨k - 1, by omega⟩
  exact (e j).trans (h j (by omega))
theorem Evn.cg {α : Type} {g g' : Nat → Option α} {v : α} (e : ∀ k, g k = g' k) (h : Evn g' v) : Evn g v := by
  obtain ⟨K, h⟩ := h
  exact ⟨K, fun k hk => (e k).trans (h k hk)⟩
theorem Evn.val {α : Type} {g : Nat → Option α} {v v' : α} (e : v = v') (h : Evn g v) : Evn g v' := e ▸ h
theorem Evn.pos {α : Type} {c : Prop} [Decidable c] {a b : Nat → Option α} {v : α} (hc : c) (h : Evn a v) : Evn (fun k => if c then a k else b k) v := by
  obtain ⟨K, h⟩ := h
  exact ⟨K, fun k hk => (if_pos hc).trans (h k hk)⟩
theorem Evn.neg {α : Type} {c : Prop} [Decidable c] {a b : Nat → Option α} {v : α} (hc : ¬ c) (h : Evn b v) : Evn (fun k => if c then a k else b k) v := by
  obtain ⟨K, h⟩ := h
  exact ⟨K, fun k hk => (if_neg hc).trans (h k hk)⟩
theorem Evn.ite {α : Type} {c : Prop} [Decidable c] {a b : Nat → Option α} {v : α} (h1 : c → Evn a v) (h2 : ¬ c → Evn b v) : Evn (fun k => if c then a k else b k) v := by
  by_cases h : c
  · exact Evn.pos h (h1 h)
  · exact Evn.neg h (h2 h)
theorem Evn.bind {α β : Type} {g : Nat → Option α} {u : α} {h : Nat → α → Option β} {v : β} (hg : Evn g u) (hh : Evn (fun k => h k u) v) : Evn (fun k => (g k).bind (h k)) v := by
  obtain ⟨K, hg⟩ := hg
  obtain ⟨L, hh⟩ := hh
  refine ⟨K + L, fun k hk => ?_⟩
  show (g k).bind (h k) = some v
  rw [hg k (by omega), Option.bind_some]
  exact hh k (by omega)
theorem Evn.bc {α β : Type} {o : Option α} {u : α} {h : Nat → α → Option β} {v : β} (hg : o = some u) (hh : Evn (fun k => h k u) v) : Evn (fun k => o.bind (h k)) v := Evn.bind (Evn.con hg) hh
theorem Evn.get {α : Type} {g : Nat → Option α} {v : α} (h : Evn g v) : ∃ k, g k = some v := let ⟨K, h⟩ := h; ⟨K, h K (Nat.le_refl _)⟩
theorem w1p {α : Type} (pre : List α) (x : α) (h : pre.length < 4000000000000000000) : wrap64 ((pre.length : Int) + 1) = ((pre ++ [x]).length : Int) := by
  have e : (pre ++ [x]).length = pre.length + 1 := by rw [List.length_append]; rfl
  rw [e]; unfold wrap64; omega
theorem w1m {α : Type} (pre : List α) (x : α) (h : pre.length < 4000000000000000000) : wrap64 (((pre ++ [x]).length : Int) - 1) = (pre.length : Int) := by
  have e : (pre ++ [x]).length = pre.length + 1 := by rw [List.length_append]; rfl
  rw [e]; unfold wrap64; omega
theorem snocLen {α : Type} (pre : List α) (x : α) : (pre ++ [x]).length = pre.length + 1 := by rw [List.length_append]; rfl
theorem ltp {α : Type} (pre : List α) (x : α) (post : List α) : (pre.length : Int) < ((pre ++ x :: post).length : Int) := by
  rw [List.length_append, List.length_cons]; omega
theorem getDp {α : Type} (pre : List α) (x : α) (post : List α) (z : α) : (pre ++ x :: post).getD ((pre.length : Int)).toNat z = x := by
  rw [Int.toNat_natCast, List.getD_eq_getElem?_getD, List.getElem?_append_right (Nat.le_refl _), Nat.sub_self]; rfl
theorem getDq {α : Type} (pre : List α) (y : α) (post : List α) (z : α) : ((pre ++ [y]) ++ post).getD ((pre.length : Int)).toNat z = y := by
  rw [List.append_assoc]; exact getDp pre y post z
/-- A loop over the places of a list, of any length. -/
theorem Evn.loopS {α β : Type} {g : Nat → Int → Option β} (l : List α) (I : List α → Prop) (S : List α → List α → β)
    (h0 : I l → ¬ (l.length : Int) < (l.length : Int) → Evn (fun k => g k (l.length : Int)) (S l []))
    (hs : ∀ pre x post, l = pre ++ x :: post → I pre → (pre.length : Int) < (l.length : Int) → 0 ≤ (pre.length : Int) → (pre.length < 4000000000000000000 → wrap64 ((pre.length : Int) + 1) = ((pre ++ [x]).length : Int)) → (∀ z, l.getD ((pre.length : Int)).toNat z = x) → x ∈ l →
      (I (pre ++ [x]) → Evn (fun k => g k ((pre ++ [x]).length : Int)) (S (pre ++ [x]) post)) → Evn (fun k => g k (pre.length : Int)) (S pre (x :: post))) :
    ∀ (post pre : List α), l = pre ++ post → I pre → Evn (fun k => g k (pre.length : Int)) (S pre post)
  | [], pre, e, hi => by
    rw [List.append_nil] at e
    subst e
    exact h0 hi (by omega)
  | x :: post, pre, e, hi => by
    have hlt : (pre.length : Int) < (l.length : Int) := by rw [e]; exact ltp pre x post
    exact hs pre x post e hi hlt (Int.natCast_nonneg _) (fun hb => w1p pre x hb) (fun z => by rw [e]; exact getDp pre x post z) (by rw [e]; simp)
      (fun hi' => Evn.loopS l I S h0 hs post (pre ++ [x]) (by rw [e, List.append_assoc]; rfl) hi')
/-- A loop over the places of a list. -/
theorem Evn.loop {α β : Type} {g : Nat → Int → Option β} (l : List α) (hl : l.length < 4000000000000000000) (I : List α → Prop) (S : List α → List α → β)
    (h0 : I l → ¬ (l.length : Int) < (l.length : Int) → Evn (fun k => g k (l.length : Int)) (S l []))
    (hs : ∀ pre x post, l = pre ++ x :: post → I pre → (pre.length : Int) < (l.length : Int) → 0 ≤ (pre.length : Int) → wrap64 ((pre.length : Int) + 1) = ((pre ++ [x]).length : Int) → (∀ z, l.getD ((pre.length : Int)).toNat z = x) → x ∈ l →
      (I (pre ++ [x]) → Evn (fun k => g k ((pre ++ [x]).length : Int)) (S (pre ++ [x]) post)) → Evn (fun k => g k (pre.length : Int)) (S pre (x :: post))) :
    ∀ (post pre : List α), l = pre ++ post → I pre → Evn (fun k => g k (pre.length : Int)) (S pre post) :=
  Evn.loopS l I S h0 (fun pre x post e hi h1 h2 h3 h4 h5 h6 => hs pre x post e hi h1 h2 (h3 (by omega)) h4 h5 h6)
end Go.Proofs.YtbbfggfiknbdmaaDoor.U8
namespace Go.Proofs.YtbbfggfiknbdmaaDoor.U8
open Go.RowKit Go.Proofs.YtbbfggfiknbdmaaDoorW.PrintWords Go.Proofs.YtbbfggfiknbdmaaDoorW.PrintLast Go.Lib
set_option linter.unusedVariables false
/-- Is a byte one that goes on? -/
def tl (n i b : Nat) : Prop := i < n ∧ 128 ≤ b ∧ b < 192
instance (n i b : Nat) : Decidable (tl n i b) := by unfold tl; exact inferInstance
/-- The rune at the front, and how many bytes it has; (0, 0): there is none. As the document defines it. -/
def decR (n b0 b1 b2 b3 : Nat) : Nat × Nat :=
  if n = 0 then (0, 0)
  else if b0 < 128 then (b0, 1)
  else if 194 ≤ b0 ∧ b0 < 224 ∧ tl n 1 b1 then (64 * (b0 - 192) + (b1 - 128), 2)
  else if 224 ≤ b0 ∧ b0 < 240 ∧ tl n 1 b1 ∧ tl n 2 b2 ∧ 2048 ≤ 4096 * (b0 - 224) + 64 * (b1 - 128) + (b2 - 128) ∧ (4096 * (b0 - 224) + 64 * (b1 - 128) + (b2 - 128) < 55296 ∨ 57343 < 4096 * (b0 - 224) + 64 * (b1 - 128) + (b2 - 128)) then (4096 * (b0 - 224) + 64 * (b1 - 128) + (b2 - 128), 3)
  else if 240 ≤ b0 ∧ b0 < 245 ∧ tl n 1 b1 ∧ tl n 2 b2 ∧ tl n 3 b3 ∧ 65536 ≤ 262144 * (b0 - 240) + 4096 * (b1 - 128) + 64 * (b2 - 128) + (b3 - 128) ∧ 262144 * (b0 - 240) + 4096 * (b1 - 128) + 64 * (b2 - 128) + (b3 - 128) ≤ 1114111 then (262144 * (b0 - 240) + 4096 * (b1 - 128) + 64 * (b2 - 128) + (b3 - 128), 4)
  else (0, 0)
set_option maxHeartbeats 4000000 in
set_option maxRecDepth 100000 in
theorem decR_decodeN (n b0 b1 b2 b3 : Nat) (hn : n ≠ 0) (h0 : b0 < 256) (h1 : b1 < 256) (h2 : b2 < 256) (h3 : b3 < 256) :
    decR n b0 b1 b2 b3 = if decodeN n b0 b1 b2 b3 = (65533, 1) then (0, 0) else decodeN n b0 b1 b2 b3 := by
  have fin : ∀ X Y : Nat × Nat, decR n b0 b1 b2 b3 = X → decodeN n b0 b1 b2 b3 = Y → (X = if Y = (65533, 1) then (0, 0) else Y) → decR n b0 b1 b2 b3 = if decodeN n b0 b1 b2 b3 = (65533, 1) then (0, 0) else decodeN n b0 b1 b2 b3 := by
    intro X Y e1 e2 e3; rw [e1, e2]; exact e3
  have bad : decR n b0 b1 b2 b3 = (0, 0) → decodeN n b0 b1 b2 b3 = (65533, 1) → decR n b0 b1 b2 b3 = if decodeN n b0 b1 b2 b3 = (65533, 1) then (0, 0) else decodeN n b0 b1 b2 b3 := fun e1 e2 => fin _ _ e1 e2 (by rw [if_pos rfl])
  have good : ∀ X : Nat × Nat, X.2 ≠ 1 ∨ X.1 ≠ 65533 → decR n b0 b1 b2 b3 = X → decodeN n b0 b1 b2 b3 = X → decR n b0 b1 b2 b3 = if decodeN n b0 b1 b2 b3 = (65533, 1) then (0, 0) else decodeN n b0 b1 b2 b3 := fun X h e1 e2 => fin _ _ e1 e2 (by
    rw [if_neg]; intro e; rw [e] at h; simp at h)
  by_cases c0 : b0 < 128
  · exact good (b0, 1) (.inr (by show b0 ≠ 65533; omega)) (by unfold decR; rw [if_neg hn, if_pos c0]) (by unfold decodeN; rw [if_pos c0])
  by_cases c1 : b0 < 192
  · exact bad (by unfold decR; rw [if_neg hn, if_neg c0, if_neg (by omega), if_neg (by omega), if_neg (by omega)]) (by unfold decodeN; rw [if_neg c0, if_neg (by omega), if_neg (by omega), if_neg (by omega)])
  by_cases c2 : b0 < 224
  · by_cases k : 194 ≤ b0 ∧ b0 < 224 ∧ tl n 1 b1
    · have k' := k
      unfold tl at k'
      refine good (64 * (b0 - 192) + (b1 - 128), 2) (.inl (by simp)) (by unfold decR; rw [if_neg hn, if_neg c0, if_pos k]) ?_
      unfold decodeN
      rw [if_neg c0, if_pos (by omega), if_pos (by omega)]
      exact Prod.ext (by show _ = _; omega) rfl
    · have k' := k
      unfold tl at k'
      refine bad (by unfold decR; rw [if_neg hn, if_neg c0, if_neg k, if_neg (by omega), if_neg (by omega)]) ?_
      unfold decodeN
      rw [if_neg c0]
      by_cases k2 : b0 / 32 = 6 ∧ 1 < n ∧ b1 / 64 = 2
      · rw [if_pos k2, if_neg (by omega)]
      · rw [if_neg k2, if_neg (by omega), if_neg (by omega)]
  by_cases c3 : b0 < 240
  · by_cases k : 224 ≤ b0 ∧ b0 < 240 ∧ tl n 1 b1 ∧ tl n 2 b2 ∧ 2048 ≤ 4096 * (b0 - 224) + 64 * (b1 - 128) + (b2 - 128) ∧ (4096 * (b0 - 224) + 64 * (b1 - 128) + (b2 - 128) < 55296 ∨ 57343 < 4096 * (b0 - 224) + 64 * (b1 - 128) + (b2 - 128))
    · have k' := k
      unfold tl at k'
      refine good (4096 * (b0 - 224) + 64 * (b1 - 128) + (b2 - 128), 3) (.inl (by simp)) (by unfold decR; rw [if_neg hn, if_neg c0, if_neg (by omega), if_pos k]) ?_
      unfold decodeN
      rw [if_neg c0, if_neg (by omega), if_pos (by omega), if_pos (by omega)]
      exact Prod.ext (by show _ = _; omega) rfl
    · have k' := k
      unfold tl at k'
      refine bad (by unfold decR; rw [if_neg hn, if_neg c0, if_neg (by omega), if_neg k, if_neg (by omega)]) ?_
      unfold decodeN
      rw [if_neg c0, if_neg (by omega)]
      by_cases k2 : b0 / 16 = 14 ∧ (1 < n ∧ b1 / 64 = 2) ∧ (2 < n ∧ b2 / 64 = 2)
      · rw [if_pos k2, if_neg (by omega)]
      · rw [if_neg k2, if_neg (by omega)]
  · by_cases k : 240 ≤ b0 ∧ b0 < 245 ∧ tl n 1 b1 ∧ tl n 2 b2 ∧ tl n 3 b3 ∧ 65536 ≤ 262144 * (b0 - 240) + 4096 * (b1 - 128) + 64 * (b2 - 128) + (b3 - 128) ∧ 262144 * (b0 - 240) + 4096 * (b1 - 128) + 64 * (b2 - 128) + (b3 - 128) ≤ 1114111
    · have k' := k
      unfold tl at k'
      refine good (262144 * (b0 - 240) + 4096 * (b1 - 128) + 64 * (b2 - 128) + (b3 - 128), 4) (.inl (by simp)) (by unfold decR; rw [if_neg hn, if_neg c0, if_neg (by omega), if_neg (by omega), if_pos k]) ?_
      unfold decodeN
      rw [if_neg c0, if_neg (by omega), if_neg (by omega), if_pos (by omega), if_pos (by omega)]
      exact Prod.ext (by show _ = _; omega) rfl
    · have k' := k
      unfold tl at k'
      refine bad (by unfold decR; rw [if_neg hn, if_neg c0, if_neg (by omega), if_neg (by omega), if_neg k]) ?_
      unfold decodeN
      rw [if_neg c0, if_neg (by omega), if_neg (by omega)]
      by_cases k2 : b0 / 8 = 30 ∧ (1 < n ∧ b1 / 64 = 2) ∧ (2 < n ∧ b2 / 64 = 2) ∧ (3 < n ∧ b3 / 64 = 2)
      · rw [if_pos k2, if_neg (by omega)]
      · rw [if_neg k2]
/-- Byte i of a list, as a number; 0 beyond its end. -/
def byt (l : List UInt8) (i : Nat) : Nat := (l.getD i 0).toNat
theorem byt_lt (l : List UInt8) (i : Nat) : byt l i < 256 := UInt8.toNat_lt _
def dec (l : List UInt8) : Nat × Nat := decR l.length (byt l 0) (byt l 1) (byt l 2) (byt l 3)
theorem get_byt (l : List UInt8) (i : Nat) : ((⟨l.toArray⟩ : ByteArray).get! i).toNat = byt l i := by
  unfold byt
  show (l.toArray[i]!).toNat = _
  by_cases h : i < l.length
  · simp [h, List.getD_eq_getElem?_getD]
  · simp [h, List.getD_eq_getElem?_getD]
    rfl
theorem decodeL_byt (l : List UInt8) : decodeL l = decodeN l.length (byt l 0) (byt l 1) (byt l 2) (byt l 3) := by
  unfold decodeL
  rw [decode_at]
  simp only [Nat.zero_add, get_byt]
  rfl
theorem dec_decodeL (l : List UInt8) (h : l ≠ []) : dec l = if decodeL l = (65533, 1) then (0, 0) else decodeL l := by
  rw [decodeL_byt]
  exact decR_decodeN _ _ _ _ _ (by simpa using h) (byt_lt _ _) (byt_lt _ _) (byt_lt _ _) (byt_lt _ _)
/-- Its width: none, or one to four, and no more than there are bytes. -/
theorem dec_width (l : List UInt8) : (dec l).2 ≤ 4 ∧ (dec l).2 ≤ l.length ∧ ((dec l).2 = 0 → (dec l).1 = 0) ∧ (dec l).1 ≤ 1114111 := by
  have h0 := byt_lt l 0
  have h1 := byt_lt l 1
  have h2 := byt_lt l 2
  have h3 := byt_lt l 3
  unfold dec decR tl
  repeat' split
  all_goals (refine ⟨?_, ?_, ?_, ?_⟩ <;> first | (simp only; omega) | (intro _; rfl) | (intro h; simp at h))
/-- Is a text UTF-8, from front to end? -/
def validF : Nat → List UInt8 → Bool
  | 0, l => l.isEmpty
  | f + 1, l => if l.isEmpty then true else if (dec l).2 = 0 then false else validF f (l.drop (dec l).2)
theorem validGoD_validF : ∀ (f : Nat) (l : List UInt8), l.length ≤ f → validGoD f l = validF f l
  | 0, l, h => by
    have : l = [] := List.eq_nil_of_length_eq_zero (by omega)
    subst this; rfl
  | f + 1, l, h => by
    by_cases hl : l = []
    · unfold validGoD validF; rw [if_pos hl, if_pos (by simp [hl])]
    · have e := dec_decodeL l hl
      have hw := dec_width l
      have hG : validGoD (f + 1) l = if (decodeL l).1 = 65533 ∧ (decodeL l).2 = 1 then false else validGoD f (l.drop (decodeL l).2) := by
        conv => lhs; unfold validGoD
        rw [if_neg hl]
      have hF : validF (f + 1) l = if (dec l).2 = 0 then false else validF f (l.drop (dec l).2) := by
        conv => lhs; unfold validF
        rw [if_neg (by simpa using hl)]
      rw [hG, hF]
      by_cases hb : decodeL l = (65533, 1)
      · rw [if_pos (by rw [hb]; exact ⟨rfl, rfl⟩), if_pos (by rw [e, if_pos hb])]
      · rw [if_neg hb] at e
        have hpos := decodeL_width l
        rw [if_neg (fun h => hb (Prod.ext h.1 h.2)), if_neg (by rw [e]; omega), e]
        refine validGoD_validF f _ ?_
        rw [List.length_drop]; omega
theorem validD_validF (l : List UInt8) : validD l = validF l.length l := validGoD_validF _ _ (Nat.le_refl _)
end Go.Proofs.YtbbfggfiknbdmaaDoor.U8
namespace Go.Proofs.YtbbfggfiknbdmaaDoor.U8
open Go.RowKit Go.Proofs.YtbbfggfiknbdmaaDoor.A Go.Proofs.YtbbfggfiknbdmaaDoorW.PrintWords Go.Proofs.YtbbfggfiknbdmaaDoorW.PrintLast Go.Lib
set_option linter.unusedVariables false
set_option linter.unusedSimpArgs false
theorem w64 {x : Int} (h0 : -9223372036854775808 ≤ x) (h1 : x ≤ 9223372036854775807) : wrap64 x = x := by unfold wrap64; omega
theorem toList_nil (s : ByteArray) : (s.toList = ([] : List UInt8)) ↔ s.size = 0 := by
  rw [ByteArray.toList_eq]
  constructor
  · intro h
    have := data_length s
    rw [h] at this
    exact this.symm
  · intro h
    exact List.eq_nil_of_length_eq_zero (by rw [data_length]; exact h)
theorem byt_drop (l : List UInt8) (i j : Nat) : byt (l.drop i) j = byt l (i + j) := by
  unfold byt
  rw [List.getD_eq_getElem?_getD, List.getD_eq_getElem?_getD, List.getElem?_drop]
theorem size_len (b : ByteArray) : b.size = b.data.toList.length := (Array.length_toList).symm
end Go.Proofs.YtbbfggfiknbdmaaDoor.U8
namespace Go.Proofs.YtbbfggfiknbdmaaDoor.U8
open Go.RowKit Go.Proofs.YtbbfggfiknbdmaaDoor.A Go.Proofs.YtbbfggfiknbdmaaDoorW.PrintWords Go.Proofs.YtbbfggfiknbdmaaDoorW.PrintLast Go.Lib
set_option linter.unusedVariables false
set_option linter.unusedSimpArgs false
theorem get_byt2 (s : ByteArray) (i : Nat) : (s.get! i).toNat = byt s.data.toList i := by
  have := get_byt s.data.toList i
  have e : (⟨s.data.toList.toArray⟩ : ByteArray) = s := by cases s; simp
  rwa [e] at this
theorem decode_drop (s : ByteArray) (i : Nat) : Utf8.decode s i = decodeL (s.data.toList.drop i) := by
  rw [decode_at, decodeL_byt, get_byt2, get_byt2, get_byt2, get_byt2, byt_drop, byt_drop, byt_drop, byt_drop, List.length_drop, ← size_len]
  rfl
theorem decode_dec (s : ByteArray) (i : Nat) (hi : i < s.size) (h : (dec (s.data.toList.drop i)).2 ≠ 0) : Utf8.decode s i = dec (s.data.toList.drop i) := by
  have hne : s.data.toList.drop i ≠ [] := by
    intro e
    have := congrArg List.length e
    rw [List.length_drop, ← size_len] at this
    simp at this
    omega
  rw [decode_drop]
  have e := dec_decodeL _ hne
  by_cases hb : decodeL (s.data.toList.drop i) = (65533, 1)
  · rw [if_pos hb] at e; rw [e] at h; exact absurd rfl h
  · rw [if_neg hb] at e; exact e.symm
/-- The runes of a text, as far as it is UTF-8. -/
def runesF : Nat → List UInt8 → List Nat
  | 0, _ => []
  | f + 1, l => if l.isEmpty then [] else if (dec l).2 = 0 then [] else (dec l).1 :: runesF f (l.drop (dec l).2)
def runesOf (l : List UInt8) : List Nat := runesF l.length l
def ints (l : List Nat) : List Int := l.map (fun x : Nat => (x : Int))
end Go.Proofs.YtbbfggfiknbdmaaDoor.U8
namespace Go.Proofs.YtbbfggfiknbdmaaDoor.U8
open Go.RowKit Go.Proofs.YtbbfggfiknbdmaaDoor.A Go.Proofs.YtbbfggfiknbdmaaDoorW.PrintWords Go.Proofs.YtbbfggfiknbdmaaDoorW.PrintLast Go.Lib
set_option linter.unusedVariables false
set_option linter.unusedSimpArgs false
/-- What is decoded is a rune that may be, and is written as it stood there. -/
theorem dec_enc (l : List UInt8) (h : (dec l).2 ≠ 0) : decodeL l = dec l ∧ ((dec l).1 < 55296 ∨ (57343 < (dec l).1 ∧ (dec l).1 ≤ 1114111)) ∧ encodeRune ((dec l).1 : Int) = l.take (dec l).2 ∧ l ≠ [] := by
  have hne : l ≠ [] := by
    rintro rfl
    exact h rfl
  have e := dec_decodeL l hne
  have e2 : ¬ decodeL l = (65533, 1) := fun hh => by rw [if_pos hh] at e; rw [e] at h; exact h rfl
  rw [if_neg e2] at e
  refine ⟨e.symm, ?_, ?_, hne⟩
  · have h0 := byt_lt l 0
    have h1 := byt_lt l 1
    have h2 := byt_lt l 2
    have h3 := byt_lt l 3
    revert h
    unfold dec decR tl
    repeat' split
    all_goals first | (intro h; exact absurd rfl h) | (intro h; simp only; omega)
  · rw [e]
    exact encode_decode l hne (fun hh => e2 (Prod.ext hh.1 hh.2))
/-- A rune that may be. -/
def okC (c : Nat) : Prop := c < 55296 ∨ (57343 < c ∧ c ≤ 1114111)
theorem u8n (n : Nat) (h : n < 256) : (n.toUInt8).toNat = n := by
  show (UInt8.ofNat n).toNat = n
  rw [UInt8.toNat_ofNat']; omega
theorem byt0 (b : UInt8) (l : List UInt8) : byt (b :: l) 0 = b.toNat := rfl
theorem byt1 (a b : UInt8) (l : List UInt8) : byt (a :: b :: l) 1 = b.toNat := rfl
theorem byt2 (a b c : UInt8) (l : List UInt8) : byt (a :: b :: c :: l) 2 = c.toNat := rfl
theorem byt3 (a b c d : UInt8) (l : List UInt8) : byt (a :: b :: c :: d :: l) 3 = d.toNat := rfl
theorem dec_encode (c : Nat) (h : okC c) (l : List UInt8) : dec (encodeRune (c : Int) ++ l) = (c, (encodeRune (c : Int)).length) := by
  unfold okC at h
  unfold encodeRune
  by_cases c1 : c < 128
  · rw [encodeRuneZ_one (by omega) (by omega)]
    simp only [List.map_cons, List.map_nil, List.cons_append, List.nil_append, Int.toNat_natCast]
    unfold dec decR
    rw [byt0, u8n c (by omega), if_neg (by simp), if_pos c1]
    rfl
  by_cases c2 : c < 2048
  · rw [encodeRuneZ_two (by omega) (by omega)]
    simp only [List.map_cons, List.map_nil, List.cons_append, List.nil_append]
    rw [show (192 + (c : Int) / 64).toNat = 192 + c / 64 by omega, show (128 + (c : Int) % 64).toNat = 128 + c % 64 by omega]
    unfold dec decR tl
    rw [byt0, byt1, u8n _ (by omega), u8n _ (by omega), if_neg (by simp), if_neg (by omega), if_pos ⟨by omega, by omega, by simp, by omega, by omega⟩]
    exact Prod.ext (by show 64 * (192 + c / 64 - 192) + (128 + c % 64 - 128) = c; omega) rfl
  by_cases c3 : c < 65536
  · rw [encodeRuneZ_three (by omega)]
    simp only [List.map_cons, List.map_nil, List.cons_append, List.nil_append]
    rw [show (224 + (c : Int) / 4096).toNat = 224 + c / 4096 by omega, show (128 + (c : Int) / 64 % 64).toNat = 128 + c / 64 % 64 by omega, show (128 + (c : Int) % 64).toNat = 128 + c % 64 by omega]
    have e : 4096 * (224 + c / 4096 - 224) + 64 * (128 + c / 64 % 64 - 128) + (128 + c % 64 - 128) = c := by omega
    unfold dec decR tl
    rw [byt0, byt1, byt2, u8n _ (by omega), u8n _ (by omega), u8n _ (by omega), if_neg (by simp), if_neg (by omega), if_neg (by omega), if_pos ⟨by omega, by omega, ⟨by simp, by omega, by omega⟩, ⟨by simp, by omega, by omega⟩, by omega, by omega⟩]
    exact Prod.ext e rfl
  · rw [encodeRuneZ_four (by omega) (by omega)]
    simp only [List.map_cons, List.map_nil, List.cons_append, List.nil_append]
    rw [show (240 + (c : Int) / 262144).toNat = 240 + c / 262144 by omega, show (128 + (c : Int) / 4096 % 64).toNat = 128 + c / 4096 % 64 by omega, show (128 + (c : Int) / 64 % 64).toNat = 128 + c / 64 % 64 by omega, show (128 + (c : Int) % 64).toNat = 128 + c % 64 by omega]
    have e : 262144 * (240 + c / 262144 - 240) + 4096 * (128 + c / 4096 % 64 - 128) + 64 * (128 + c / 64 % 64 - 128) + (128 + c % 64 - 128) = c := by omega
    unfold dec decR tl
    rw [byt0, byt1, byt2, byt3, u8n _ (by omega), u8n _ (by omega), u8n _ (by omega), u8n _ (by omega), if_neg (by simp), if_neg (by omega), if_neg (by omega), if_neg (by omega), if_pos ⟨by omega, by omega, ⟨by simp, by omega, by omega⟩, ⟨by simp, by omega, by omega⟩, ⟨by simp, by omega, by omega⟩, by omega, by omega⟩]
    exact Prod.ext e rfl
def encL : List Nat → List UInt8
  | [] => []
  | c :: cs => encodeRune (c : Int) ++ encL cs
theorem enc_pos (c : Nat) : 1 ≤ (encodeRune (c : Int)).length := by
  unfold encodeRune
  rw [List.length_map]
  exact (encodeRuneZ_length (c : Int)).1
theorem runes_enc : ∀ (cs : List Nat) (m : Nat), (∀ c ∈ cs, okC c) → (encL cs).length ≤ m → runesF m (encL cs) = cs ∧ validF m (encL cs) = true
  | [], m, h, hm => by cases m <;> exact ⟨rfl, rfl⟩
  | c :: cs, m, h, hm => by
    have hp := enc_pos c
    rw [encL, List.length_append] at hm
    obtain ⟨m, rfl⟩ : ∃ q, m = q + 1 := ⟨m - 1, by omega⟩
    have hd := dec_encode c (h c (List.mem_cons_self ..)) (encL cs)
    have hne : ¬ ((encL (c :: cs)).isEmpty = true) := by
      intro e
      rw [List.isEmpty_iff] at e
      have := congrArg List.length e
      rw [encL, List.length_append, List.length_nil] at this
      omega
    obtain ⟨i1, i2⟩ := runes_enc cs m (fun x hx => h x (List.mem_cons_of_mem _ hx)) (by omega)
    rw [runesF, validF, if_neg hne, if_neg hne, encL, hd]
    dsimp only
    rw [if_neg (by omega), if_neg (by omega), List.drop_left, i1, i2]
    exact ⟨rfl, rfl⟩
theorem enc_runes : ∀ (m : Nat) (l : List UInt8), l.length ≤ m → validF m l = true → encL (runesF m l) = l ∧ ∀ c ∈ runesF m l, okC c
  | 0, l, hl, hv => by
    have : l = [] := List.eq_nil_of_length_eq_zero (by omega)
    subst this
    exact ⟨rfl, fun c hc => by simp [runesF] at hc⟩
  | m + 1, l, hl, hv => by
    by_cases he : l.isEmpty = true
    · rw [runesF, if_pos he]
      rw [List.isEmpty_iff] at he
      subst he
      exact ⟨rfl, fun c hc => by simp at hc⟩
    · rw [validF, if_neg he] at hv
      by_cases hz : (dec l).2 = 0
      · rw [if_pos hz] at hv; cases hv
      · rw [if_neg hz] at hv
        obtain ⟨_, ho, hen, _⟩ := dec_enc l hz
        obtain ⟨i1, i2⟩ := enc_runes m (l.drop (dec l).2) (by rw [List.length_drop]; omega) hv
        rw [runesF, if_neg he, if_neg hz, encL, i1, hen, List.take_append_drop]
        refine ⟨rfl, fun c hc => ?_⟩
        rcases List.mem_cons.1 hc with rfl | hc
        · exact ho
        · exact i2 c hc
theorem valid_runes (a : ByteArray) (hv : validD a.data.toList = true) : encL (runesOf a.data.toList) = a.data.toList ∧ ∀ c ∈ runesOf a.data.toList, okC c := by
  rw [validD_validF] at hv
  exact enc_runes _ _ (Nat.le_refl _) hv
theorem valid_runesL (x : List UInt8) (h : validD x = true) : encL (runesOf x) = x ∧ ∀ c ∈ runesOf x, okC c := valid_runes ⟨x.toArray⟩ h
theorem count_runes (s : ByteArray) : ∀ (cs : List Nat) (f pos : Nat), (∀ c ∈ cs, okC c) → pos ≤ s.size → s.data.toList.drop pos = encL cs → s.size - pos ≤ f → Lib.runeCountFrom s f pos = cs.length
  | [], f, pos, ho, hp, hd, hf => by
    have hl := congrArg List.length hd
    rw [List.length_drop, ← size_len] at hl
    have e : (encL []).length = 0 := rfl
    exact Lib.runeCountFrom_end s f pos (by omega)
  | c :: cs, f, pos, ho, hp, hd, hf => by
    have hl := congrArg List.length hd
    have hp1 := enc_pos c
    rw [List.length_drop, ← size_len, encL, List.length_append] at hl
    have hlt : pos < s.size := by omega
    obtain ⟨f, rfl⟩ : ∃ q, f = q + 1 := ⟨f - 1, by omega⟩
    have hdec : dec (s.data.toList.drop pos) = (c, (encodeRune (c : Int)).length) := by rw [hd, encL]; exact dec_encode c (ho c (List.mem_cons_self ..)) _
    have e : Utf8.decode s pos = (c, (encodeRune (c : Int)).length) := by
      rw [decode_dec s pos hlt (by rw [hdec]; show (encodeRune (c : Int)).length ≠ 0; omega), hdec]
    rw [Lib.runeCountFrom, if_pos hlt, e, List.length_cons]
    rw [count_runes s cs f (pos + (encodeRune (c : Int)).length) (fun x hx => ho x (List.mem_cons_of_mem _ hx)) (by omega) (by rw [← List.drop_drop, hd, encL, List.drop_left]) (by omega)]
    omega
theorem count_ev (s : ByteArray) (hv : validD s.data.toList = true) : Lib.runeCount s = (runesOf s.data.toList).length := by
  obtain ⟨e1, o1⟩ := valid_runesL _ hv
  exact count_runes s _ s.size 0 o1 (Nat.zero_le _) e1.symm (by omega)
end Go.Proofs.YtbbfggfiknbdmaaDoor.U8
namespace Go.Proofs.YtbbfggfiknbdmaaDoor.U8
open Go.RowKit Go.Proofs.YtbbfggfiknbdmaaDoor.A Go.Proofs.YtbbfggfiknbdmaaDoorW.PrintWords Go.Proofs.YtbbfggfiknbdmaaDoorW.PrintLast Go.Lib
set_option linter.unusedVariables false
set_option linter.unusedSimpArgs false
/-- A letter made small. -/
def smallI (c : Int) : Int := if (65 ≤ c ∧ c ≤ 90) ∨ (192 ≤ c ∧ c ≤ 222 ∧ ¬ c = 215) ∨ (913 ≤ c ∧ c ≤ 937 ∧ ¬ c = 930) ∨ (1040 ≤ c ∧ c ≤ 1071) then c + 32 else c
theorem small_q (c : Int) (h0 : 0 ≤ c) (hc : c ≤ 1114111) : name_Small.f c = some (smallI c) := by
  by_cases e1 : c = 215
  · subst e1; decide +kernel
  by_cases e3 : c = 930
  · subst e3; decide +kernel
  have n1 : (c = 215) = False := eq_false e1
  have n3 : (c = 930) = False := eq_false e3
  have hw : wrap32 (c + 32) = c + 32 := by unfold wrap32; omega
  have cs : c < 65 ∨ (65 ≤ c ∧ c ≤ 90) ∨ (91 ≤ c ∧ c < 192) ∨ (192 ≤ c ∧ c ≤ 222) ∨ (223 ≤ c ∧ c < 913) ∨ (913 ≤ c ∧ c ≤ 937) ∨ (938 ≤ c ∧ c < 1040) ∨ (1040 ≤ c ∧ c ≤ 1071) ∨ 1072 ≤ c := by omega
  rcases cs with h | h | h | h | h | h | h | h | h
  all_goals (
    (first | have l65 : (65 ≤ c) = True := eq_true (by omega) | have l65 : (65 ≤ c) = False := eq_false (by omega)); (first | have u90 : (c ≤ 90) = True := eq_true (by omega) | have u90 : (c ≤ 90) = False := eq_false (by omega))
    (first | have l192 : (192 ≤ c) = True := eq_true (by omega) | have l192 : (192 ≤ c) = False := eq_false (by omega)); (first | have u222 : (c ≤ 222) = True := eq_true (by omega) | have u222 : (c ≤ 222) = False := eq_false (by omega))
    (first | have l913 : (913 ≤ c) = True := eq_true (by omega) | have l913 : (913 ≤ c) = False := eq_false (by omega)); (first | have u937 : (c ≤ 937) = True := eq_true (by omega) | have u937 : (c ≤ 937) = False := eq_false (by omega))
    (first | have l1040 : (1040 ≤ c) = True := eq_true (by omega) | have l1040 : (1040 ≤ c) = False := eq_false (by omega)); (first | have u1071 : (c ≤ 1071) = True := eq_true (by omega) | have u1071 : (c ≤ 1071) = False := eq_false (by omega))
    simp only [name_Small.f, name_between.f, smallI, ge_iff_le, n1, n3, hw, l65, u90, l192, u222, l913, u937, l1040, u1071, Option.bind_some, decide_true, decide_false, Bool.false_eq_true, Bool.true_eq_false, if_true, if_false, reduceIte, and_true, true_and, and_false, false_and, or_true, true_or, or_false, false_or, and_self, or_self, not_true, not_false_eq_true, ne_eq])
theorem small_ok (c : Nat) (h : okC c) : okC (smallI (c : Int)).toNat ∧ smallI (c : Int) = (((smallI (c : Int)).toNat : Nat) : Int) := by
  unfold okC at *
  unfold smallI
  split <;> omega
end Go.Proofs.YtbbfggfiknbdmaaDoor.U8
namespace Go.Proofs.YtbbfggfiknbdmaaDoor.U8
open Go.RowKit Go.Proofs.YtbbfggfiknbdmaaDoor.A Go.Proofs.YtbbfggfiknbdmaaDoorW.PrintWords Go.Proofs.YtbbfggfiknbdmaaDoorW.PrintLast Go.Lib
set_option linter.unusedVariables false
end Go.Proofs.YtbbfggfiknbdmaaDoor.U8
namespace Go.Proofs.YtbbfggfiknbdmaaDoor.U8
open Go.RowKit Go.Proofs.YtbbfggfiknbdmaaDoor.A Go.Proofs.YtbbfggfiknbdmaaDoorW.PrintWords Go.Proofs.YtbbfggfiknbdmaaDoorW.PrintLast Go.Lib
set_option linter.unusedVariables false
set_option linter.unusedSimpArgs false
def smallN (c : Nat) : Nat := (smallI (c : Int)).toNat
theorem fold_go (s : ByteArray) : ∀ (cs : List Nat) (f pos : Nat) (acc : List Int), (∀ c ∈ cs, okC c) → pos ≤ s.size → s.data.toList.drop pos = encL cs → s.size - pos < f → name_Fold.go s f pos acc = some (acc ++ ints (cs.map smallN))
  | cs, 0, pos, acc, ho, hp, hd, hf => by omega
  | [], f + 1, pos, acc, ho, hp, hd, hf => by
    have hl := congrArg List.length hd
    rw [List.length_drop, ← size_len] at hl
    have e : (encL []).length = 0 := rfl
    rw [name_Fold.go, if_neg (by omega)]
    show some acc = some (acc ++ [])
    rw [List.append_nil]
  | c :: cs, f + 1, pos, acc, ho, hp, hd, hf => by
    have hl := congrArg List.length hd
    have hp1 := enc_pos c
    rw [List.length_drop, ← size_len, encL, List.length_append] at hl
    have hlt : pos < s.size := by omega
    have hdec : dec (s.data.toList.drop pos) = (c, (encodeRune (c : Int)).length) := by rw [hd, encL]; exact dec_encode c (ho c (List.mem_cons_self ..)) _
    have e : Utf8.decode s pos = (c, (encodeRune (c : Int)).length) := by
      rw [decode_dec s pos hlt (by rw [hdec]; show (encodeRune (c : Int)).length ≠ 0; omega), hdec]
    have hc := ho c (List.mem_cons_self ..)
    have ih := fun b => fold_go s cs f (pos + (encodeRune (c : Int)).length) b (fun x hx => ho x (List.mem_cons_of_mem _ hx)) (by omega) (by rw [← List.drop_drop, hd, encL, List.drop_left]) (by omega)
    rw [name_Fold.go, if_pos hlt, e]
    dsimp only
    rw [small_q (c : Int) (by omega) (by unfold okC at hc; omega), Option.bind_some, ih, (small_ok c hc).2, List.append_assoc]
    rfl
theorem w1n2 (i : Nat) (h : i < 200000) : wrap64 ((i : Int) + 1) = ((i + 1 : Nat) : Int) := by rw [w64 (by omega) (by omega)]; omega
end Go.Proofs.YtbbfggfiknbdmaaDoor.U8
namespace Go.Proofs.YtbbfggfiknbdmaaDoor.U8
open Go.RowKit Go.Proofs.YtbbfggfiknbdmaaDoor.A Go.Proofs.YtbbfggfiknbdmaaDoorW.PrintWords Go.Proofs.YtbbfggfiknbdmaaDoorW.PrintLast Go.Lib
set_option linter.unusedVariables false
set_option linter.unusedSimpArgs false
/-- Go's writing of a rune and the model's are the same bytes. -/
theorem enc_rune2 (r : Nat) (hv : r < 55296 ∨ (57343 < r ∧ r ≤ 1114111)) : (Utf8.encode (r : Int)).data.toList = encodeRune (r : Int) := by
  have hvalid : Utf8.valid (r : Int) = true := by
    unfold Utf8.valid
    simp only [Bool.or_eq_true, Bool.and_eq_true, decide_eq_true_eq]
    omega
  unfold Utf8.encode encodeRune
  simp only [hvalid, if_true, Int.toNat_natCast]
  by_cases c1 : r < 128
  · rw [if_pos c1, encodeRuneZ_one (by omega) (by omega)]; simp
  by_cases c2 : r < 2048
  · rw [if_neg c1, if_pos c2, encodeRuneZ_two (by omega) (by omega)]
    simp only [List.map_cons, List.map_nil]
    rw [show (192 + (r : Int) / 64).toNat = 192 + r / 64 by omega, show (128 + (r : Int) % 64).toNat = 128 + r % 64 by omega]
  by_cases c3 : r < 65536
  · rw [if_neg c1, if_neg c2, if_pos c3, encodeRuneZ_three (by omega)]
    simp only [List.map_cons, List.map_nil]
    rw [show (224 + (r : Int) / 4096).toNat = 224 + r / 4096 by omega, show (128 + (r : Int) / 64 % 64).toNat = 128 + r / 64 % 64 by omega, show (128 + (r : Int) % 64).toNat = 128 + r % 64 by omega]
  · rw [if_neg c1, if_neg c2, if_neg c3, encodeRuneZ_four (by omega) (by omega)]
    simp only [List.map_cons, List.map_nil]
    rw [show (240 + (r : Int) / 262144).toNat = 240 + r / 262144 by omega, show (128 + (r : Int) / 4096 % 64).toNat = 128 + r / 4096 % 64 by omega, show (128 + (r : Int) / 64 % 64).toNat = 128 + r / 64 % 64 by omega, show (128 + (r : Int) % 64).toNat = 128 + r % 64 by omega]
theorem foldl_enc : ∀ (cs : List Nat) (r : ByteArray), (∀ c ∈ cs, okC c) → ((ints cs).foldl (fun r n => r ++ Utf8.encode n) r).data.toList = r.data.toList ++ encL cs
  | [], r, _ => (List.append_nil _).symm
  | c :: cs, r, ho => by
    have ih := foldl_enc cs (r ++ Utf8.encode (c : Int)) (fun x hx => ho x (List.mem_cons_of_mem _ hx))
    refine ih.trans ?_
    rw [ByteArray.data_append, Array.toList_append, enc_rune2 c (ho c List.mem_cons_self), encL, List.append_assoc]
theorem runesBytes_enc (cs : List Nat) (ho : ∀ c ∈ cs, okC c) : runesBytes (ints cs) = ⟨(encL cs).toArray⟩ := by
  refine ByteArray.ext (Array.ext' ?_)
  exact foldl_enc cs ByteArray.empty ho
/-- A name made small, as both make it. -/
def foldB (s : ByteArray) : ByteArray := if validD s.data.toList = true then ⟨(encL ((runesOf s.data.toList).map smallN)).toArray⟩ else s
theorem fold_q (s : ByteArray) (hs : s.size < 1000000) : name_Fold.f s = some (foldB s) := by
  unfold name_Fold.f foldB
  rw [if_pos (show s.size ≤ 1099511627776 by omega)]
  by_cases hv : validD s.data.toList = true
  · obtain ⟨e1, o1⟩ := valid_runesL _ hv
    have hm : ∀ c ∈ (runesOf s.data.toList).map smallN, okC c := by
      intro c hc
      obtain ⟨x, hx, rfl⟩ := List.mem_map.1 hc
      exact (small_ok x (o1 x hx)).1
    rw [if_pos hv, if_pos hv, fold_go s _ (s.size + 1) 0 [] o1 (Nat.zero_le _) e1.symm (by omega), Option.bind_some, List.nil_append, runesBytes_enc _ hm]
  · rw [if_neg hv, if_neg hv]
theorem encL_len2 : ∀ cs : List Nat, cs.length ≤ (encL cs).length
  | [] => Nat.le_refl _
  | c :: cs => by
    have := encL_len2 cs; have := enc_pos c
    rw [encL, List.length_append, List.length_cons]; omega
end Go.Proofs.YtbbfggfiknbdmaaDoor.U8
namespace Go.Proofs.YtbbfggfiknbdmaaDoor.U8
open Go.RowKit Go.Proofs.YtbbfggfiknbdmaaDoor.A Go.Proofs.YtbbfggfiknbdmaaDoorW.PrintWords Go.Proofs.YtbbfggfiknbdmaaDoorW.PrintLast Go.Lib
set_option linter.unusedVariables false
set_option linter.unusedSimpArgs false
def cmpI : List Int → List Int → Int
  | [], [] => 0
  | [], _ :: _ => -1
  | _ :: _, [] => 1
  | a :: x, b :: y => if a < b then -1 else if b < a then 1 else cmpI x y
theorem cmp_rune (a b : Int) : cmp_Compare_rune.f a b = some (if a < b then -1 else if b < a then 1 else 0) := by
  unfold cmp_Compare_rune.f cmp_isNaN_rune.f
  simp only [bne_self_eq_false, Option.bind_some, Bool.false_eq_true, if_false, ne_eq, not_true_eq_false, decide_false, gt_iff_lt]
  split
  · rfl
  · split <;> rfl
theorem rdd (x : List Int) (i : Nat) (h : i < x.length) : rd x (i : Int) = x[i] := by
  unfold rd
  rw [Int.toNat_natCast, List.getD_eq_getElem?_getD, List.getElem?_eq_getElem h]; rfl
theorem slcmp_l0 (x y : List Int) (hl : x.length < 100000) (k : Nat) : ∀ (m i : Nat), i + m = x.length → slices_Compare_rune_rune.l0 (k + m + 1) x y x (x.length : Int) (i : Int) = some (cmpI (x.drop i) (y.drop i))
  | 0, i, hi => by
    have h1 : ¬ ((i : Int) < (x.length : Int)) := by omega
    rw [slices_Compare_rune_rune.l0, if_neg h1, List.drop_of_length_le (show x.length ≤ i by omega)]
    by_cases h : x.length < y.length
    · rw [if_pos (show (x.length : Int) < (y.length : Int) by omega), List.drop_eq_getElem_cons (show i < y.length by omega)]; rfl
    · rw [if_neg (show ¬ (x.length : Int) < (y.length : Int) by omega), List.drop_of_length_le (show y.length ≤ i by omega)]; rfl
  | m + 1, i, hi => by
    have hx : i < x.length := by omega
    have h1 : (i : Int) < (x.length : Int) := by omega
    have w1 : wrap64 ((i : Int) + 1) = ((i + 1 : Nat) : Int) := w1n2 i (by omega)
    have ih := slcmp_l0 x y hl k m (i + 1) (by omega)
    rw [show k + (m + 1) + 1 = (k + m + 1) + 1 from rfl, slices_Compare_rune_rune.l0, if_pos h1, if_pos (Int.natCast_nonneg i), if_pos h1, List.drop_eq_getElem_cons hx]
    by_cases hy : i < y.length
    · have h2 : (i : Int) < (y.length : Int) := by omega
      have h3 : ¬ ((i : Int) ≥ (y.length : Int)) := by omega
      rw [if_neg h3, if_pos h2, rdd x i hx, rdd y i hy, cmp_rune, Option.bind_some, w1, ih, List.drop_eq_getElem_cons hy, cmpI]
      by_cases c1 : x[i] < y[i]
      · rw [if_pos c1, if_pos c1, if_neg (by decide)]
      rw [if_neg c1, if_neg c1]
      by_cases c2 : y[i] < x[i]
      · rw [if_pos c2, if_pos c2, if_neg (by decide)]
      · rw [if_neg c2, if_neg c2, if_pos rfl]
    · have h3 : (i : Int) ≥ (y.length : Int) := by omega
      rw [if_pos h3, List.drop_of_length_le (show y.length ≤ i by omega)]; rfl
theorem slcmp_q (x y : List Int) (hl : x.length < 100000) (k : Nat) (hk : x.length + 1 ≤ k) : slices_Compare_rune_rune.f k x y = some (cmpI x y) := by
  have h := slcmp_l0 x y hl (k - x.length - 1) x.length 0 (by omega)
  rw [show k - x.length - 1 + x.length + 1 = k by omega] at h
  unfold slices_Compare_rune_rune.f
  exact h
end Go.Proofs.YtbbfggfiknbdmaaDoor.U8
namespace Go.Proofs.YtbbfggfiknbdmaaDoor.U8
open Go.RowKit Go.Proofs.YtbbfggfiknbdmaaDoor.A Go.Proofs.YtbbfggfiknbdmaaDoorW.PrintWords Go.Proofs.YtbbfggfiknbdmaaDoorW.PrintLast Go.Lib
set_option linter.unusedVariables false
set_option linter.unusedSimpArgs false
theorem runesI_go (s : ByteArray) : ∀ (cs : List Nat) (b pos : Nat), (∀ c ∈ cs, okC c) → pos ≤ s.size → s.data.toList.drop pos = encL cs → s.size - pos ≤ b → runesI s b pos = ints cs
  | [], 0, pos, ho, hp, hd, hf => rfl
  | c :: cs, 0, pos, ho, hp, hd, hf => by
    have hl := congrArg List.length hd
    have hp1 := enc_pos c
    rw [List.length_drop, ← size_len, encL, List.length_append] at hl
    omega
  | [], b + 1, pos, ho, hp, hd, hf => by
    have hl := congrArg List.length hd
    rw [List.length_drop, ← size_len] at hl
    have e : (encL []).length = 0 := rfl
    rw [runesI, if_neg (by omega)]; rfl
  | c :: cs, b + 1, pos, ho, hp, hd, hf => by
    have hl := congrArg List.length hd
    have hp1 := enc_pos c
    rw [List.length_drop, ← size_len, encL, List.length_append] at hl
    have hlt : pos < s.size := by omega
    have hdec : dec (s.data.toList.drop pos) = (c, (encodeRune (c : Int)).length) := by rw [hd, encL]; exact dec_encode c (ho c (List.mem_cons_self ..)) _
    have e : Utf8.decode s pos = (c, (encodeRune (c : Int)).length) := by
      rw [decode_dec s pos hlt (by rw [hdec]; show (encodeRune (c : Int)).length ≠ 0; omega), hdec]
    have ih := runesI_go s cs b (pos + (encodeRune (c : Int)).length) (fun x hx => ho x (List.mem_cons_of_mem _ hx)) (by omega) (by rw [← List.drop_drop, hd, encL, List.drop_left]) (by omega)
    rw [runesI, if_pos hlt, e]
    dsimp only
    rw [ih]; rfl
theorem fold_ok (s : ByteArray) (hv : validD s.data.toList = true) : ∀ c ∈ (runesOf s.data.toList).map smallN, okC c := by
  obtain ⟨e1, o1⟩ := valid_runesL _ hv
  intro c hc
  obtain ⟨x, hx, rfl⟩ := List.mem_map.1 hc
  exact (small_ok x (o1 x hx)).1
theorem fold_list (s : ByteArray) (hv : validD s.data.toList = true) : (foldB s).data.toList = encL ((runesOf s.data.toList).map smallN) := by
  unfold foldB
  rw [if_pos hv]
theorem fold_valid (s : ByteArray) (hv : validD s.data.toList = true) : validD (foldB s).data.toList = true ∧ runesOf (foldB s).data.toList = (runesOf s.data.toList).map smallN := by
  have h := runes_enc _ _ (fold_ok s hv) (Nat.le_refl _)
  rw [fold_list s hv, validD_validF]
  exact ⟨h.2, h.1⟩
theorem encL_four : ∀ cs : List Nat, (encL cs).length ≤ 4 * cs.length
  | [] => Nat.le_refl _
  | c :: cs => by
    have h1 := encL_four cs
    have h4 : (encodeRune (c : Int)).length ≤ 4 := by unfold encodeRune; rw [List.length_map]; exact (encodeRuneZ_length (c : Int)).2
    rw [encL, List.length_append, List.length_cons]; omega
theorem fold_size (s : ByteArray) (hv : validD s.data.toList = true) : (foldB s).size ≤ 4 * s.size ∧ (runesOf s.data.toList).length ≤ s.size := by
  obtain ⟨e1, o1⟩ := valid_runesL _ hv
  have hlen : (runesOf s.data.toList).length ≤ s.size := by
    have := encL_len2 (runesOf s.data.toList)
    rw [e1, ← size_len] at this; exact this
  have h := encL_four ((runesOf s.data.toList).map smallN)
  rw [← fold_list s hv, ← size_len, List.length_map] at h
  exact ⟨by omega, hlen⟩
/-- How two names stand, as both say it. -/
def cmpB (a b : ByteArray) : Int := cmpI (ints ((runesOf a.data.toList).map smallN)) (ints ((runesOf b.data.toList).map smallN))
theorem runesI_fold (s : ByteArray) (hv : validD s.data.toList = true) : runesI (foldB s) (foldB s).size 0 = ints ((runesOf s.data.toList).map smallN) :=
  runesI_go (foldB s) _ _ 0 (fold_ok s hv) (Nat.zero_le _) (fold_list s hv) (by omega)
theorem compare_q (a b : ByteArray) (ha : a.size < 20000) (hb : b.size < 20000) (va : validD a.data.toList = true) (vb : validD b.data.toList = true) (k : Nat) (hk : a.size + 1 ≤ k) : name_Compare.f k a b = some (cmpB a b) := by
  obtain ⟨a1, a2⟩ := fold_size a va
  obtain ⟨b1, b2⟩ := fold_size b vb
  unfold name_Compare.f cmpB
  rw [fold_q a (by omega), Option.bind_some, fold_q b (by omega), Option.bind_some, if_pos (show (foldB a).size ≤ 1099511627776 by omega), if_pos (show (foldB b).size ≤ 1099511627776 by omega), if_pos (fold_valid a va).1, if_pos (fold_valid b vb).1, runesI_fold a va, runesI_fold b vb]
  have hl : (ints ((runesOf a.data.toList).map smallN)).length = (runesOf a.data.toList).length := by unfold ints; rw [List.length_map, List.length_map]
  exact slcmp_q _ _ (by omega) k (by omega)
end Go.Proofs.YtbbfggfiknbdmaaDoor.U8
namespace Go.Proofs.YtbbfggfiknbdmaaDoor.U8
open Go.RowKit Go.Proofs.YtbbfggfiknbdmaaDoor.A Go.Proofs.YtbbfggfiknbdmaaDoorW.PrintWords Go.Proofs.YtbbfggfiknbdmaaDoorW.PrintLast Go.Lib
set_option linter.unusedVariables false
set_option linter.unusedSimpArgs false
/-- A letter, as the document says. -/
def letB (c : Int) : Bool := (65 ≤ c && c ≤ 90) || (97 ≤ c && c ≤ 122) || (192 ≤ c && c ≤ 591 && c != 215 && c != 247) || (913 ≤ c && c ≤ 937 && c != 930) || (945 ≤ c && c ≤ 969) || (1040 ≤ c && c ≤ 1103) || (19968 ≤ c && c ≤ 40959)
theorem letter_q (c : Int) (k : Nat) : name_Letter.f (k + 1) c = some (letB c) := by
  by_cases e1 : c = 215
  · subst e1; rfl
  by_cases e2 : c = 247
  · subst e2; rfl
  by_cases e3 : c = 930
  · subst e3; rfl
  have n1 : (c = 215) = False := eq_false e1
  have m1 : (c != 215) = true := bne_iff_ne.2 e1
  have m2 : (c != 247) = true := bne_iff_ne.2 e2
  have m3 : (c != 930) = true := bne_iff_ne.2 e3
  have cs : c < 65 ∨ (65 ≤ c ∧ c < 91) ∨ (91 ≤ c ∧ c < 97) ∨ (97 ≤ c ∧ c < 123) ∨ (123 ≤ c ∧ c < 192) ∨ (192 ≤ c ∧ c < 592) ∨ (592 ≤ c ∧ c < 913) ∨ (913 ≤ c ∧ c < 938) ∨ (938 ≤ c ∧ c < 945) ∨ (945 ≤ c ∧ c < 970) ∨ (970 ≤ c ∧ c < 1040) ∨ (1040 ≤ c ∧ c < 1104) ∨ (1104 ≤ c ∧ c < 19968) ∨ (19968 ≤ c ∧ c < 40960) ∨ 40960 ≤ c := by omega
  rcases cs with h | h | h | h | h | h | h | h | h | h | h | h | h | h | h
  all_goals (
    (first | have l65 : (65 ≤ c) = True := eq_true (by omega) | have l65 : (65 ≤ c) = False := eq_false (by omega)); (first | have u90 : (c ≤ 90) = True := eq_true (by omega) | have u90 : (c ≤ 90) = False := eq_false (by omega));
    (first | have l97 : (97 ≤ c) = True := eq_true (by omega) | have l97 : (97 ≤ c) = False := eq_false (by omega)); (first | have u122 : (c ≤ 122) = True := eq_true (by omega) | have u122 : (c ≤ 122) = False := eq_false (by omega));
    (first | have l192 : (192 ≤ c) = True := eq_true (by omega) | have l192 : (192 ≤ c) = False := eq_false (by omega)); (first | have u591 : (c ≤ 591) = True := eq_true (by omega) | have u591 : (c ≤ 591) = False := eq_false (by omega));
    (first | have l913 : (913 ≤ c) = True := eq_true (by omega) | have l913 : (913 ≤ c) = False := eq_false (by omega)); (first | have u937 : (c ≤ 937) = True := eq_true (by omega) | have u937 : (c ≤ 937) = False := eq_false (by omega));
    (first | have l945 : (945 ≤ c) = True := eq_true (by omega) | have l945 : (945 ≤ c) = False := eq_false (by omega)); (first | have u969 : (c ≤ 969) = True := eq_true (by omega) | have u969 : (c ≤ 969) = False := eq_false (by omega));
    (first | have l1040 : (1040 ≤ c) = True := eq_true (by omega) | have l1040 : (1040 ≤ c) = False := eq_false (by omega)); (first | have u1103 : (c ≤ 1103) = True := eq_true (by omega) | have u1103 : (c ≤ 1103) = False := eq_false (by omega));
    (first | have l19968 : (19968 ≤ c) = True := eq_true (by omega) | have l19968 : (19968 ≤ c) = False := eq_false (by omega)); (first | have u40959 : (c ≤ 40959) = True := eq_true (by omega) | have u40959 : (c ≤ 40959) = False := eq_false (by omega))
    )
  all_goals simp only [name_Letter.f, name_Letter.j0, name_between.f, letB, ge_iff_le, n1, m1, m2, m3, l65, u90, l97, u122, l192, u591, l913, u937, l945, u969, l1040, u1103, l19968, u40959, Option.bind_some, if_true, if_false, decide_true, decide_false, Bool.and_true, Bool.and_false, Bool.true_and, Bool.false_and, Bool.or_true, Bool.or_false, Bool.true_or, Bool.false_or, Bool.false_eq_true]
end Go.Proofs.YtbbfggfiknbdmaaDoor.U8
namespace Go.Proofs.YtbbfggfiknbdmaaDoor.U8
open Go.RowKit Go.Proofs.YtbbfggfiknbdmaaDoor.A Go.Proofs.YtbbfggfiknbdmaaDoorW.PrintWords Go.Proofs.YtbbfggfiknbdmaaDoorW.PrintLast Go.Lib
set_option linter.unusedVariables false
set_option linter.unusedSimpArgs false
/-- Runes that form a name: parts, a point between two. -/
def formG : Bool → List Nat → Bool
  | first, [] => !first
  | first, c :: cs => if c = 46 then (if first = true then false else formG true cs)
    else if letB (c : Int) = true ∨ c = 95 then formG false cs
    else if first = false ∧ ((48 ≤ c ∧ c ≤ 57) ∨ c = 45) then formG false cs else false
theorem nameDigit_q (c : Int) : name_digit.f c = some (decide (48 ≤ c) && decide (c ≤ 57)) := by
  unfold name_digit.f name_between.f
  by_cases h : c ≥ 48
  · rw [if_pos h, Option.bind_some, decide_eq_true (show 48 ≤ c by omega)]; rfl
  · rw [if_neg h, Option.bind_some, decide_eq_false (show ¬ 48 ≤ c by omega)]; rfl
theorem form_st (k : Nat) (first : Bool) (c : Nat) : ∃ t, name_formed.st (k + 1) first (c : Int) = some t ∧
    ((t = 0 ∧ ∀ cs, formG first (c :: cs) = false) ∨ (t = 1 ∧ ∀ cs, formG first (c :: cs) = formG false cs) ∨ (t = 2 ∧ ∀ cs, formG first (c :: cs) = formG true cs)) := by
  unfold name_formed.st
  by_cases h46 : c = 46
  · subst h46
    rw [if_pos (by decide)]
    cases first with
    | true => exact ⟨0, rfl, .inl ⟨rfl, fun cs => by rw [formG]; rfl⟩⟩
    | false => exact ⟨2, rfl, .inr (.inr ⟨rfl, fun cs => by rw [formG]; rfl⟩)⟩
  rw [if_neg (by omega), letter_q (c : Int) k, Option.bind_some]
  by_cases hl : letB (c : Int) = true
  · rw [if_pos hl]
    exact ⟨1, rfl, .inr (.inl ⟨rfl, fun cs => by rw [formG, if_neg h46, if_pos (.inl hl)]⟩)⟩
  rw [if_neg hl]
  by_cases h95 : c = 95
  · rw [if_pos (by omega)]
    exact ⟨1, rfl, .inr (.inl ⟨rfl, fun cs => by rw [formG, if_neg h46, if_pos (.inr h95)]⟩)⟩
  have hno : ¬ (letB (c : Int) = true ∨ c = 95) := fun h => h.elim hl h95
  rw [if_neg (by omega)]
  cases first with
  | true =>
    exact ⟨0, rfl, .inl ⟨rfl, fun cs => by rw [formG, if_neg h46, if_neg hno, if_neg (fun h => by cases h.1)]⟩⟩
  | false =>
    rw [if_neg (by decide), nameDigit_q, Option.bind_some]
    by_cases hd : 48 ≤ c ∧ c ≤ 57
    · rw [if_pos (by rw [decide_eq_true (by omega), decide_eq_true (by omega)]; rfl)]
      exact ⟨1, rfl, .inr (.inl ⟨rfl, fun cs => by rw [formG, if_neg h46, if_neg hno, if_pos ⟨rfl, .inl hd⟩]⟩)⟩
    have hnd : ¬ ((decide (48 ≤ (c : Int)) && decide ((c : Int) ≤ 57)) = true) := by
      rw [Bool.and_eq_true, decide_eq_true_eq, decide_eq_true_eq]; omega
    rw [if_neg hnd]
    by_cases h45 : c = 45
    · rw [if_pos (by omega)]
      exact ⟨1, rfl, .inr (.inl ⟨rfl, fun cs => by rw [formG, if_neg h46, if_neg hno, if_pos ⟨rfl, .inr h45⟩]⟩)⟩
    · rw [if_neg (by omega)]
      exact ⟨0, rfl, .inl ⟨rfl, fun cs => by rw [formG, if_neg h46, if_neg hno, if_neg (fun h => h.2.elim hd h45)]⟩⟩
theorem form_go (s : ByteArray) (k : Nat) : ∀ (cs : List Nat) (f pos : Nat) (first : Bool), (∀ c ∈ cs, okC c) → pos ≤ s.size → s.data.toList.drop pos = encL cs → s.size - pos < f → name_formed.go (k + 1) s f pos first = some (formG first cs)
  | cs, 0, pos, first, ho, hp, hd, hf => by omega
  | [], f + 1, pos, first, ho, hp, hd, hf => by
    have hl := congrArg List.length hd
    rw [List.length_drop, ← size_len] at hl
    have e : (encL []).length = 0 := rfl
    rw [name_formed.go, if_neg (by omega)]; rfl
  | c :: cs, f + 1, pos, first, ho, hp, hd, hf => by
    have hl := congrArg List.length hd
    have hp1 := enc_pos c
    rw [List.length_drop, ← size_len, encL, List.length_append] at hl
    have hlt : pos < s.size := by omega
    have hdec : dec (s.data.toList.drop pos) = (c, (encodeRune (c : Int)).length) := by rw [hd, encL]; exact dec_encode c (ho c (List.mem_cons_self ..)) _
    have e : Utf8.decode s pos = (c, (encodeRune (c : Int)).length) := by
      rw [decode_dec s pos hlt (by rw [hdec]; show (encodeRune (c : Int)).length ≠ 0; omega), hdec]
    obtain ⟨t, t1, t2⟩ := form_st k first c
    have ih := fun b => form_go s k cs f (pos + (encodeRune (c : Int)).length) b (fun x hx => ho x (List.mem_cons_of_mem _ hx)) (by omega) (by rw [← List.drop_drop, hd, encL, List.drop_left]) (by omega)
    rw [name_formed.go, if_pos hlt, e]
    dsimp only
    rw [t1, Option.bind_some]
    rcases t2 with ⟨rfl, h⟩ | ⟨rfl, h⟩ | ⟨rfl, h⟩
    · rw [if_pos rfl, h]
    · rw [if_neg (by decide), h]; exact ih false
    · rw [if_neg (by decide), h]; exact ih true
/-- Has a text the form of a name? -/
def formedB (s : ByteArray) : Bool := decide (s.size ≠ 0) && (validD s.data.toList && formG true (runesOf s.data.toList))
theorem formed_q (s : ByteArray) (hs : s.size < 1000000) (k : Nat) : name_formed.f (k + 1) s = some (formedB s) := by
  unfold name_formed.f formedB
  rw [if_pos (by omega)]
  by_cases hz : s.size = 0
  · rw [if_pos ((toList_nil s).2 hz), decide_eq_false (by omega)]; rfl
  rw [if_neg (fun h => hz ((toList_nil s).1 h)), decide_eq_true hz]
  by_cases hv : validD s.data.toList = true
  · obtain ⟨e1, o1⟩ := valid_runesL _ hv
    rw [if_pos hv, hv, form_go s k _ (s.size + 1) 0 true o1 (Nat.zero_le _) e1.symm (by omega)]; rfl
  · rw [if_neg hv, Bool.eq_false_iff.2 hv]; rfl
end Go.Proofs.YtbbfggfiknbdmaaDoor.U8
namespace Go.Proofs.YtbbfggfiknbdmaaDoor.U8
open Go.RowKit Go.Proofs.YtbbfggfiknbdmaaDoor.A Go.Proofs.YtbbfggfiknbdmaaDoorW.PrintWords Go.Proofs.YtbbfggfiknbdmaaDoorW.PrintLast Go.Lib
set_option linter.unusedVariables false
set_option linter.unusedSimpArgs false
theorem enc_high (c : Nat) (h : okC c) (hc : 128 ≤ c) : ∀ b ∈ encodeRune (c : Int), 128 ≤ b.toNat := by
  unfold okC at h
  unfold encodeRune
  intro b hb
  obtain ⟨x, hx, rfl⟩ := List.mem_map.1 hb
  have key : ∃ n : Nat, x = (n : Int) ∧ 128 ≤ n ∧ n < 256 := by
    by_cases c2 : c < 2048
    · rw [encodeRuneZ_two (by omega) (by omega)] at hx
      rcases List.mem_cons.1 hx with rfl | hx
      · exact ⟨192 + c / 64, by omega, by omega, by omega⟩
      rcases List.mem_cons.1 hx with rfl | hx
      · exact ⟨128 + c % 64, by omega, by omega, by omega⟩
      · cases hx
    by_cases c3 : c < 65536
    · rw [encodeRuneZ_three (by omega)] at hx
      rcases List.mem_cons.1 hx with rfl | hx
      · exact ⟨224 + c / 4096, by omega, by omega, by omega⟩
      rcases List.mem_cons.1 hx with rfl | hx
      · exact ⟨128 + c / 64 % 64, by omega, by omega, by omega⟩
      rcases List.mem_cons.1 hx with rfl | hx
      · exact ⟨128 + c % 64, by omega, by omega, by omega⟩
      · cases hx
    · rw [encodeRuneZ_four (by omega) (by omega)] at hx
      rcases List.mem_cons.1 hx with rfl | hx
      · exact ⟨240 + c / 262144, by omega, by omega, by omega⟩
      rcases List.mem_cons.1 hx with rfl | hx
      · exact ⟨128 + c / 4096 % 64, by omega, by omega, by omega⟩
      rcases List.mem_cons.1 hx with rfl | hx
      · exact ⟨128 + c / 64 % 64, by omega, by omega, by omega⟩
      rcases List.mem_cons.1 hx with rfl | hx
      · exact ⟨128 + c % 64, by omega, by omega, by omega⟩
      · cases hx
  obtain ⟨n, rfl, h1, h2⟩ := key
  rw [Int.toNat_natCast, u8n n h2]
  exact h1
theorem count_enc (k : Nat) (hk : k < 128) : ∀ cs : List Nat, (∀ c ∈ cs, okC c) → (encL cs).count k.toUInt8 = cs.count k
  | [], _ => rfl
  | c :: cs, ho => by
    rw [encL, List.count_append, count_enc k hk cs (fun x hx => ho x (List.mem_cons_of_mem _ hx)), List.count_cons]
    have e : (encodeRune (c : Int)).count k.toUInt8 = if (c == k) = true then 1 else 0 := by
      by_cases h1 : c < 128
      · unfold encodeRune
        rw [encodeRuneZ_one (by omega) (by omega)]
        show [((c : Int).toNat.toUInt8)].count k.toUInt8 = _
        rw [Int.toNat_natCast, List.count_cons, List.count_nil, Nat.zero_add]
        by_cases hck : c = k
        · rw [hck, if_pos (beq_self_eq_true _), if_pos (beq_self_eq_true _)]
        · rw [if_neg (fun h => hck ?_), if_neg (fun h => hck (eq_of_beq h))]
          have h2 := congrArg UInt8.toNat (eq_of_beq h)
          rw [u8n c (by omega), u8n k (by omega)] at h2
          exact h2
      · rw [if_neg (fun h => by have := eq_of_beq h; omega), List.count_eq_zero]
        intro hm
        have := enc_high c (ho c List.mem_cons_self) (by omega) _ hm
        rw [u8n k (by omega)] at this
        omega
    rw [e]; omega
/-- What both say of a name. -/
def checkN (s : ByteArray) : Int := if formedB s = true then (if (runesOf s.data.toList).length > 40 then 2 else if (runesOf s.data.toList).count 46 ≥ 5 then 2 else 0) else 3
theorem formed_valid (s : ByteArray) (h : formedB s = true) : s.size ≠ 0 ∧ validD s.data.toList = true ∧ formG true (runesOf s.data.toList) = true := by
  unfold formedB at h
  rw [Bool.and_eq_true, Bool.and_eq_true] at h
  exact ⟨of_decide_eq_true h.1, h.2.1, h.2.2⟩
theorem check_name (s : ByteArray) (hs : s.size < 1000000) (k : Nat) : name_Check.f (k + 1) s = some (checkN s) := by
  unfold name_Check.f checkN
  rw [formed_q s hs, Option.bind_some]
  by_cases hf : formedB s = true
  · obtain ⟨h0, hv, hg⟩ := formed_valid s hf
    rw [if_pos hf, if_pos hf]
    unfold utf8_RuneCountInString.f strings_Count.f
    rw [if_pos (show s.size < 9223372036854775807 by omega), Option.bind_some, count_ev s hv]
    obtain ⟨e1, o1⟩ := valid_runesL _ hv
    have hc : Lib.countByte s.data.toList (([46] : List UInt8).getD 0 0) = (runesOf s.data.toList).count 46 := by
      have := count_enc 46 (by omega) _ o1
      rw [e1] at this
      exact this
    by_cases h1 : (runesOf s.data.toList).length > 40
    · rw [if_pos (show ((runesOf s.data.toList).length : Int) > 40 by omega), if_pos h1]
    rw [if_neg (show ¬ ((runesOf s.data.toList).length : Int) > 40 by omega), if_neg h1]
    show (some ((Lib.countByte s.data.toList (([46] : List UInt8).getD 0 0) : Nat) : Int)).bind _ = _
    rw [hc, Option.bind_some]
    by_cases h2 : (runesOf s.data.toList).count 46 ≥ 5
    · rw [if_pos (show (((runesOf s.data.toList).count 46 : Nat) : Int) ≥ 5 by omega), if_pos h2]
    · rw [if_neg (show ¬ (((runesOf s.data.toList).count 46 : Nat) : Int) ≥ 5 by omega), if_neg h2]
  · rw [if_neg hf, if_neg hf]
end Go.Proofs.YtbbfggfiknbdmaaDoor.U8
namespace Go.Proofs.YtbbfggfiknbdmaaDoor.U8
open Go.RowKit Go.Proofs.YtbbfggfiknbdmaaDoor.A Go.Proofs.YtbbfggfiknbdmaaDoorW.PrintWords Go.Proofs.YtbbfggfiknbdmaaDoorW.PrintLast Go.Lib
set_option linter.unusedVariables false
set_option linter.unusedSimpArgs false
def simpleB (s : ByteArray) : Bool := decide (checkN s = 0) && decide ((runesOf s.data.toList).count 46 = 0)
theorem check0 (s : ByteArray) (h : checkN s = 0) : formedB s = true := by
  unfold checkN at h
  by_cases hf : formedB s = true
  · exact hf
  · rw [if_neg hf] at h; omega
theorem simple_q (s : ByteArray) (hs : s.size < 1000000) (k : Nat) : schema_simple.f (k + 1) s = some (simpleB s) := by
  unfold schema_simple.f name_Parts.f simpleB
  rw [check_name s hs, Option.bind_some]
  by_cases h : checkN s = 0
  · obtain ⟨h0, hv, hg⟩ := formed_valid s (check0 s h)
    obtain ⟨e1, o1⟩ := valid_runesL _ hv
    rw [if_pos h, Option.bind_some, if_pos h, decide_eq_true h, Bool.true_and]
    unfold strings_Split.f
    rw [if_pos (show s.size < 4294967281 by omega), if_pos (by decide), Option.bind_some, Option.bind_some]
    have hl := Lib.splitB_all (⟨#[46]⟩ : ByteArray) (by decide) 0 (Lib.countB s ⟨#[46]⟩) s rfl
    have hc : Lib.countB s ⟨#[46]⟩ = (runesOf s.data.toList).count 46 := by
      have h1 := count_enc 46 (by omega) _ o1
      rw [e1] at h1
      exact (Lib.count_one 46 s.data.toList).trans h1
    rw [hl, hc]
    by_cases hz : (runesOf s.data.toList).count 46 = 0
    · rw [decide_eq_true hz, hz]; rfl
    · rw [decide_eq_false hz]
      refine congrArg some (beq_eq_false_iff_ne.2 ?_)
      omega
  · rw [if_neg h, decide_eq_false h, Bool.false_and]
end Go.Proofs.YtbbfggfiknbdmaaDoor.U8
namespace Go.Proofs.YtbbfggfiknbdmaaDoor.U8
open Go.RowKit Go.Proofs.YtbbfggfiknbdmaaDoor.A Go.Proofs.YtbbfggfiknbdmaaDoorW.PrintWords Go.Proofs.YtbbfggfiknbdmaaDoorW.PrintLast Go.Lib
set_option linter.unusedVariables false
set_option linter.unusedSimpArgs false
def fieldB (s : ByteArray) (n : Int) : Bool := simpleB s && (decide (1 ≤ n) && decide (n ≤ 4))
theorem field_q (s : ByteArray) (n : Int) (m : Bool) (hs : s.size < 1000000) (k : Nat) : schema_field.f (k + 1) s n m = some (fieldB s n) := by
  unfold schema_field.f fieldB
  rw [simple_q s hs, Option.bind_some]
  by_cases h : simpleB s = true
  · rw [if_pos h, h, Bool.true_and]
    unfold schema_word.f
    rw [Option.bind_some]
    by_cases h1 : n = 1
    · subst h1; decide +kernel
    by_cases h2 : n = 2
    · subst h2; decide +kernel
    by_cases h3 : n = 3
    · subst h3; decide +kernel
    by_cases h4 : n = 4
    · subst h4; decide +kernel
    rw [if_neg h1, if_neg h2, if_neg h3, if_neg h4]
    have e : (decide (1 ≤ n) && decide (n ≤ 4)) = false := by
      by_cases h5 : 1 ≤ n
      · rw [decide_eq_false (show ¬ n ≤ 4 by omega), Bool.and_false]
      · rw [decide_eq_false h5, Bool.false_and]
    rw [e]; decide +kernel
  · rw [if_neg h, Bool.eq_false_iff.2 h, Bool.false_and]
end Go.Proofs.YtbbfggfiknbdmaaDoor.U8
namespace Go.Proofs.YtbbfggfiknbdmaaDoor.U8
open Go.RowKit Go.Proofs.YtbbfggfiknbdmaaDoor.A Go.Proofs.YtbbfggfiknbdmaaDoorW.PrintWords Go.Proofs.YtbbfggfiknbdmaaDoorW.PrintLast Go.Lib
set_option linter.unusedVariables false
set_option linter.unusedSimpArgs false
/-- Each as it may be, each ahead of the next one. -/
def ordB {α : Type} (P : α → Bool) (R : α → α → Bool) : Option α → List α → Bool
  | _, [] => true
  | none, x :: xs => P x && ordB P R (some x) xs
  | some y, x :: xs => P x && (R y x && ordB P R (some x) xs)
def lastO {α : Type} (pre : List α) : Option α := pre.getLast?
theorem lastO_nil {α : Type} : lastO ([] : List α) = none := rfl
theorem lastO_snoc {α : Type} (q : List α) (y : α) : lastO (q ++ [y]) = some y := by unfold lastO; simp
theorem snoc_cases {α : Type} (pre : List α) : pre = [] ∨ ∃ q y, pre = q ++ [y] := by
  rcases List.eq_nil_or_concat pre with h | ⟨q, y, h⟩
  · exact .inl h
  · exact .inr ⟨q, y, by rw [h, List.concat_eq_append]⟩
theorem dec_le (n m : Nat) : (decide ((n : Int) ≤ (m : Int))) = decide (n ≤ m) := by
  by_cases h : n ≤ m
  · rw [decide_eq_true h, decide_eq_true (by omega)]
  · rw [decide_eq_false h, decide_eq_false (by omega)]
abbrev Fld := S35
abbrev FldR := S49
def fieldX (x : Fld) : Bool := fieldB x.f0 x.f1
def ltX (x y : Fld) : Bool := decide (cmpB x.f0 y.f0 < 0)
def checkF (l : List Fld) : Bool := ordB fieldX ltX none l && decide (l.length ≤ 24)
theorem simple_valid (s : ByteArray) (h : simpleB s = true) : validD s.data.toList = true := by
  unfold simpleB at h
  rw [Bool.and_eq_true, decide_eq_true_eq] at h
  exact (formed_valid s (check0 s h.1)).2.1
theorem fieldB_valid (s : ByteArray) (n : Int) (h : fieldB s n = true) : validD s.data.toList = true := by
  unfold fieldB at h
  rw [Bool.and_eq_true] at h
  exact simple_valid _ h.1
theorem fieldX_valid (x : Fld) (h : fieldX x = true) : validD x.f0.data.toList = true := fieldB_valid x.f0 x.f1 h
theorem field_ev (s : ByteArray) (n : Int) (m : Bool) (hs : s.size < 1000000) : Evn (fun k => schema_field.f k s n m) (fieldB s n) := Evn.of1 (fun k => field_q s n m hs k)
theorem cmp_ev (a b : ByteArray) (ha : a.size < 20000) (hb : b.size < 20000) (va : validD a.data.toList = true) (vb : validD b.data.toList = true) : Evn (fun k => name_Compare.f k a b) (cmpB a b) := Evn.of _ (fun k hk => compare_q a b ha hb va vb k hk)
theorem schemacheck_l0 (l : List Fld) (hs : ∀ x ∈ l, x.f0.size < 20000) (hl : l.length < 100000) :
    ∀ post pre, l = pre ++ post → (∀ y, lastO pre = some y → fieldX y = true) → Evn (fun k => schema_Check.l0 k l l (l.length : Int) (pre.length : Int)) (ordB fieldX ltX (lastO pre) post && decide (l.length ≤ 24)) := by
  refine Evn.loop (g := fun k i => schema_Check.l0 k l l (l.length : Int) i) l (by omega) (fun pre => ∀ y, lastO pre = some y → fieldX y = true) (fun pre post => ordB fieldX ltX (lastO pre) post && decide (l.length ≤ 24)) ?_ ?_
  · intro hi hn
    refine Evn.step (fun k => schema_Check.l0.eq_2 ..) (Evn.neg hn (Evn.con ?_))
    rw [show (24 : Int) = ((24 : Nat) : Int) from rfl, dec_le]
    rcases snoc_cases l with rfl | ⟨q, y, rfl⟩
    · rfl
    · rw [lastO_snoc]; rfl
  · intro pre x post e hi hlt h0 hw hget hmem ih
    have hrd : rd_T35 l (pre.length : Int) = x := hget _
    have hsx := hs x hmem
    refine Evn.step (fun k => schema_Check.l0.eq_2 ..) (Evn.pos hlt (Evn.pos h0 (Evn.pos hlt ?_)))
    rw [hrd, hw]
    have ih' : fieldX x = true → _ := fun hx => ih (by intro y hy; rw [lastO_snoc] at hy; obtain rfl := Option.some.inj hy; exact hx)
    rw [lastO_snoc] at ih'
    rcases snoc_cases pre with rfl | ⟨q, y, rfl⟩
    · rw [lastO_nil]
      show Evn _ (((fieldB x.f0 x.f1) && ordB fieldX ltX (some x) post) && _)
      refine Evn.bind (field_ev x.f0 x.f1 x.f2 (by omega)) ?_
      by_cases h0 : fieldB x.f0 x.f1 = true
      case neg => exact Evn.val (by simp [h0]) (Evn.neg h0 (Evn.ret false))
      refine Evn.pos h0 ?_
      have hx : fieldX x = true := by show (fieldB x.f0 x.f1) = true; simp [h0]
      rw [h0]
      show Evn _ (ordB fieldX ltX (some x) post && _)
      exact Evn.neg (by decide) (ih' hx)
    · rw [lastO_snoc]
      show Evn _ (((fieldB x.f0 x.f1) && (ltX y x && ordB fieldX ltX (some x) post)) && _)
      refine Evn.bind (field_ev x.f0 x.f1 x.f2 (by omega)) ?_
      by_cases h0 : fieldB x.f0 x.f1 = true
      case neg => exact Evn.val (by simp [h0]) (Evn.neg h0 (Evn.ret false))
      refine Evn.pos h0 ?_
      have hx : fieldX x = true := by show (fieldB x.f0 x.f1) = true; simp [h0]
      rw [h0]
      show Evn _ ((ltX y x && ordB fieldX ltX (some x) post) && _)
      have hy := hi y (lastO_snoc q y)
      have hrq : rd_T35 l (q.length : Int) = y := by rw [e]; exact getDq q y _ _
      have hql : (q.length : Int) < (l.length : Int) := by rw [List.length_append] at hlt; omega
      have hym : y ∈ l := by rw [e]; simp
      rw [w1m q y (by omega), hrq]
      refine Evn.pos (by rw [List.length_append]; show ((q.length + 1 : Nat) : Int) > 0; omega) (Evn.pos (Int.natCast_nonneg _) (Evn.pos hql (Evn.bind (cmp_ev _ _ (hs y hym) (hs x hmem) (fieldX_valid y hy) (fieldX_valid x hx)) ?_)))
      unfold ltX
      by_cases hc : cmpB y.f0 x.f0 < 0
      · rw [decide_eq_true hc, Bool.true_and]
        exact Evn.neg (by omega) (ih' hx)
      · rw [decide_eq_false hc]
        exact Evn.pos (by omega) (Evn.ret _)
theorem schemacheck_ev (l : List Fld) (hs : ∀ x ∈ l, x.f0.size < 20000) (hl : l.length < 100000) : Evn (fun k => schema_Check.f k l) (ordB fieldX ltX none l && decide (l.length ≤ 24)) :=
  schemacheck_l0 l hs hl l [] rfl (fun y h => by cases h)
def toR (x : Fld) : FldR := ⟨x.f0, x.f1, x.f2⟩
theorem check_q (l : List Fld) (hs : ∀ x ∈ l, x.f0.size < 20000) (hl : l.length < 100000) : Evn (fun k => schema_Check.f k l) (checkF l) := schemacheck_ev l hs hl
end Go.Proofs.YtbbfggfiknbdmaaDoor.U8
namespace Go.Proofs.YtbbfggfiknbdmaaDoor.U8
open Go.RowKit Go.Proofs.YtbbfggfiknbdmaaDoor.A Go.Proofs.YtbbfggfiknbdmaaDoorW.PrintWords Go.Proofs.YtbbfggfiknbdmaaDoorW.PrintLast Go.Lib
set_option linter.unusedVariables false
set_option linter.unusedSimpArgs false
/-- Are two names the same? -/
def sameB (a b : ByteArray) : Bool := (foldB a).toList == (foldB b).toList
theorem nameSame_q (a b : ByteArray) (ha : a.size < 90000) (hb : b.size < 90000) : name_Same.f a b = some (sameB a b) := by
  unfold name_Same.f
  rw [fold_q a (by omega), Option.bind_some, fold_q b (by omega), Option.bind_some]; rfl
/-- At which place the first one stands. -/
def atI {α : Type} (p : α → Bool) : Nat → List α → Int
  | _, [] => -1
  | i, x :: xs => if p x = true then (i : Int) else atI p (i + 1) xs
theorem at_find {α : Type} (p : α → Bool) : ∀ (l : List α) (i : Nat), (atI p i l = -1 ∧ l.find? p = none) ∨ ∃ pre x post, l = pre ++ x :: post ∧ atI p i l = ((i + pre.length : Nat) : Int) ∧ l.find? p = some x
  | [], i => .inl ⟨rfl, rfl⟩
  | x :: xs, i => by
    rw [atI, List.find?_cons]
    by_cases h : p x = true
    · rw [if_pos h, h]
      exact .inr ⟨[], x, xs, rfl, rfl, rfl⟩
    · rw [if_neg h, Bool.eq_false_iff.2 h]
      rcases at_find p xs (i + 1) with h1 | ⟨pre, y, post, h1, h2, h3⟩
      · exact .inl h1
      · refine .inr ⟨x :: pre, y, post, by rw [h1]; rfl, ?_, h3⟩
        rw [h2, List.length_cons]; omega
theorem idxK_at {α : Type} (f : α → Option Bool) (p : α → Bool) : ∀ (l : List α) (i : Nat), (∀ x ∈ l, f x = some (p x)) → idxK f l i = some (atI p i l)
  | [], i, h => rfl
  | x :: xs, i, h => by
    rw [idxK, atI, h x List.mem_cons_self, Option.bind_some]
    by_cases h1 : p x = true
    · rw [if_pos h1, if_pos h1]
    · rw [if_neg h1, if_neg h1]
      exact idxK_at f p xs (i + 1) (fun y hy => h y (List.mem_cons_of_mem _ hy))
end Go.Proofs.YtbbfggfiknbdmaaDoor.U8
namespace Go.Proofs.YtbbfggfiknbdmaaDoor.U8
open Go.RowKit Go.Proofs.YtbbfggfiknbdmaaDoor.A Go.Proofs.YtbbfggfiknbdmaaDoorW.PrintWords Go.Proofs.YtbbfggfiknbdmaaDoorW.PrintLast Go.Lib
set_option linter.unusedVariables false
set_option linter.unusedSimpArgs false
theorem all_cons {α : Type} {P : α → Prop} {x : α} {xs : List α} (h1 : P x) (h2 : ∀ y ∈ xs, P y) : ∀ y ∈ x :: xs, P y := fun y hy => by
  rcases List.mem_cons.1 hy with h | h
  · rw [h]; exact h1
  · exact h2 y h
theorem ints_inj : ∀ x y : List Nat, ints x = ints y → x = y
  | [], [], _ => rfl
  | [], _ :: _, h => by simp [ints] at h
  | _ :: _, [], h => by simp [ints] at h
  | a :: x, b :: y, h => by
    unfold ints at h
    rw [List.map_cons, List.map_cons, List.cons.injEq] at h
    rw [ints_inj x y h.2, Int.ofNat_inj.1 h.1]
theorem cmpI_self : ∀ x : List Int, cmpI x x = 0
  | [] => rfl
  | a :: x => by rw [cmpI, if_neg (by omega), if_neg (by omega), cmpI_self x]
theorem cmpI_eq : ∀ x y : List Int, cmpI x y = 0 → x = y
  | [], [], _ => rfl
  | [], _ :: _, h => by simp [cmpI] at h
  | _ :: _, [], h => by simp [cmpI] at h
  | a :: x, b :: y, h => by
    rw [cmpI] at h
    by_cases h1 : a < b
    · rw [if_pos h1] at h; omega
    rw [if_neg h1] at h
    by_cases h2 : b < a
    · rw [if_pos h2] at h; omega
    rw [if_neg h2] at h
    rw [cmpI_eq x y h, show a = b by omega]
theorem cmpI_neg : ∀ x y : List Int, cmpI y x = - cmpI x y
  | [], [] => rfl
  | [], _ :: _ => rfl
  | _ :: _, [] => rfl
  | a :: x, b :: y => by
    rw [cmpI, cmpI]
    by_cases h1 : a < b
    · have hn : ¬ b < a := by omega
      simp only [if_pos h1, if_neg hn]; rfl
    by_cases h2 : b < a
    · simp only [if_pos h2, if_neg h1]
    simp only [if_neg h1, if_neg h2]
    exact cmpI_neg x y
theorem cmpI_tr : ∀ x y z : List Int, cmpI x y ≤ 0 → cmpI y z ≤ 0 → cmpI x z ≤ 0
  | [], y, [], _, _ => by decide
  | [], y, _ :: _, _, _ => by simp [cmpI]
  | a :: x, [], z, h, _ => by simp [cmpI] at h
  | a :: x, b :: y, [], _, h => by simp [cmpI] at h
  | a :: x, b :: y, c :: z, h1, h2 => by
    rw [cmpI] at h1 h2 ⊢
    by_cases k1 : a < b
    · by_cases k2 : b < c
      · rw [if_pos (by omega)]; decide
      rw [if_neg k2] at h2
      by_cases k3 : c < b
      · rw [if_pos k3] at h2; omega
      · rw [if_pos (by omega)]; decide
    rw [if_neg k1] at h1
    by_cases k2 : b < a
    · rw [if_pos k2] at h1; omega
    rw [if_neg k2] at h1
    obtain rfl : a = b := by omega
    by_cases k3 : a < c
    · rw [if_pos k3]; decide
    rw [if_neg k3] at h2 ⊢
    by_cases k4 : c < a
    · rw [if_pos k4] at h2; omega
    rw [if_neg k4] at h2 ⊢
    exact cmpI_tr x y z h1 h2
def cT (x y : Fld) : Int := cmpB x.f0 y.f0
theorem cmpB_neg (a b : ByteArray) : cmpB b a = - cmpB a b := cmpI_neg _ _
theorem cT_tr (x y z : Fld) (h1 : leC cT x y) (h2 : leC cT y z) : leC cT x z := by
  unfold leC cT at *
  have := cmpB_neg x.f0 y.f0
  have := cmpB_neg y.f0 z.f0
  have := cmpB_neg x.f0 z.f0
  have := cmpI_tr _ _ _ (show cmpB x.f0 y.f0 ≤ 0 by omega) (show cmpB y.f0 z.f0 ≤ 0 by omega)
  have : cmpB x.f0 z.f0 ≤ 0 := this
  omega
theorem cT_as (x y : Fld) (h : cT x y < 0) : leC cT x y := by
  unfold leC
  unfold cT at *
  have := cmpB_neg x.f0 y.f0
  omega
def ltT (x y : Fld) : Prop := cT x y < 0
theorem ltT_tr (x y z : Fld) (h1 : ltT x y) (h2 : ltT y z) : ltT x z := by
  unfold ltT cT at *
  have a1 := cmpI_tr _ _ _ (show cmpB x.f0 y.f0 ≤ 0 by omega) (show cmpB y.f0 z.f0 ≤ 0 by omega)
  have a1 : cmpB x.f0 z.f0 ≤ 0 := a1
  by_cases h : cmpB x.f0 z.f0 = 0
  · have e := cmpI_eq _ _ h
    have : cmpB z.f0 y.f0 = cmpB x.f0 y.f0 := by unfold cmpB; rw [e]
    have := cmpB_neg y.f0 z.f0
    omega
  · omega
/-- Each ahead of the next one: each ahead of all behind it. -/
theorem ord_pair : ∀ (l : List Fld) (o : Option Fld), ordB fieldX ltX o l = true ↔ (∀ x ∈ l, fieldX x = true) ∧ List.Pairwise ltT (o.toList ++ l)
  | [], none => ⟨fun _ => ⟨fun x hx => (by cases hx), List.Pairwise.nil⟩, fun _ => rfl⟩
  | [], some y => ⟨fun _ => ⟨fun x hx => (by cases hx), List.pairwise_singleton _ _⟩, fun _ => rfl⟩
  | x :: xs, none => by
    show (fieldX x && ordB fieldX ltX (some x) xs) = true ↔ _
    rw [Bool.and_eq_true, ord_pair xs (some x)]
    constructor
    · rintro ⟨h1, h2, h3⟩
      exact ⟨all_cons (P := fun y => fieldX y = true) h1 h2, h3⟩
    · rintro ⟨h1, h2⟩
      exact ⟨h1 x (List.mem_cons_self ..), fun y hy => h1 y (List.mem_cons_of_mem _ hy), h2⟩
  | x :: xs, some y => by
    show (fieldX x && (ltX y x && ordB fieldX ltX (some x) xs)) = true ↔ _
    rw [Bool.and_eq_true, Bool.and_eq_true, ord_pair xs (some x)]
    constructor
    · rintro ⟨h1, h2, h3, h4⟩
      have hlt : ltT y x := of_decide_eq_true (p := cmpB y.f0 x.f0 < 0) h2
      refine ⟨all_cons (P := fun y => fieldX y = true) h1 h3, List.pairwise_cons.2 ⟨fun z hz => ?_, h4⟩⟩
      rcases List.mem_cons.1 hz with rfl | hz
      · exact hlt
      · exact ltT_tr _ _ _ hlt ((List.pairwise_cons.1 h4).1 z hz)
    · rintro ⟨h1, h2⟩
      have h3 := List.pairwise_cons.1 h2
      exact ⟨h1 x (List.mem_cons_self ..), (show ltX y x = true from decide_eq_true (p := cmpB y.f0 x.f0 < 0) (h3.1 x (List.mem_cons_self ..))), fun y hy => h1 y (List.mem_cons_of_mem _ hy), h3.2⟩
theorem check_pair (l : List Fld) : checkF l = true ↔ (∀ x ∈ l, fieldX x = true) ∧ List.Pairwise ltT l ∧ l.length ≤ 24 := by
  unfold checkF
  rw [Bool.and_eq_true, decide_eq_true_eq, ord_pair l none]
  exact ⟨fun h => ⟨h.1.1, h.1.2, h.2⟩, fun h => ⟨⟨h.1, h.2.1⟩, h.2.2⟩⟩
def difT (x y : Fld) : Prop := cT x y ≠ 0
theorem difT_sym {x y : Fld} (h : difT x y) : difT y x := by
  unfold difT cT at *
  have := cmpB_neg x.f0 y.f0
  omega
theorem lt_dif {x y : Fld} (h : ltT x y) : difT x y := by unfold ltT at h; unfold difT; omega
theorem toList_foldB (a b : ByteArray) : sameB a b = true ↔ foldB a = foldB b := by
  unfold sameB
  rw [beq_iff_eq]
  exact ⟨fun h => ByteArray.ext (Array.ext' (by rw [← ByteArray.toList_eq, ← ByteArray.toList_eq]; exact h)), fun h => by rw [h]⟩
theorem same_cmp (a b : ByteArray) (va : validD a.data.toList = true) (vb : validD b.data.toList = true) : sameB a b = true ↔ cmpB a b = 0 := by
  rw [toList_foldB]
  constructor
  · intro h
    unfold cmpB
    rw [← (fold_valid a va).2, ← (fold_valid b vb).2, h]
    exact cmpI_self _
  · intro h
    have e := cmpI_eq _ _ h
    have e2 : (runesOf a.data.toList).map smallN = (runesOf b.data.toList).map smallN := ints_inj _ _ e
    apply ByteArray.ext
    apply Array.ext'
    rw [fold_list a va, fold_list b vb, e2]
theorem lt_anti (a b : Fld) (h1 : ltT a b) (h2 : ltT b a) : a = b := by
  unfold ltT cT at *
  have := cmpB_neg a.f0 b.f0
  omega
end Go.Proofs.YtbbfggfiknbdmaaDoor.U8
namespace Go.Proofs.YtbbfggfiknbdmaaDoor.U8
open Go.RowKit Go.Proofs.YtbbfggfiknbdmaaDoor.A Go.Proofs.YtbbfggfiknbdmaaDoorW.PrintWords Go.Proofs.YtbbfggfiknbdmaaDoorW.PrintLast Go.Lib
set_option linter.unusedVariables false
set_option linter.unusedSimpArgs false
/-- Not more than statements go through. -/
def fewS {α : Type} (P : α → Bool) : Nat → List α → Bool
  | _, [] => true
  | i, x :: xs => if i ≤ 40 then (if P x = true then fewS P (i + 1) xs else false) else false
theorem fewS_true {α : Type} (P : α → Bool) : ∀ (l : List α) (i : Nat), fewS P i l = true → (l = [] ∨ i + l.length ≤ 41) ∧ ∀ x ∈ l, P x = true
  | [], i, h => ⟨.inl rfl, fun x hx => by cases hx⟩
  | x :: xs, i, h => by
    rw [fewS] at h
    by_cases h1 : i ≤ 40
    · rw [if_pos h1] at h
      by_cases h2 : P x = true
      · rw [if_pos h2] at h
        obtain ⟨h3, h4⟩ := fewS_true P xs (i + 1) h
        refine ⟨.inr ?_, fun y hy => ?_⟩
        · rw [List.length_cons]
          rcases h3 with rfl | h3
          · show i + (0 + 1) ≤ 41; omega
          · omega
        · rcases List.mem_cons.1 hy with rfl | hy
          · exact h2
          · exact h4 y hy
      · rw [if_neg h2] at h; cases h
    · rw [if_neg h1] at h; cases h
def fewF (l : List Fld) : Bool := fewS (fun x => decide (x.f0.size ≤ 200)) 0 l
theorem fewF_ev (l : List Fld) : Evn (fun k => caduceuslaw04_Few.f k l) (fewF l) := by
  refine Evn.loopS (g := fun k i => caduceuslaw04_Few.l0 k l i) l (fun _ => True) (fun pre post => fewS (fun x => decide (x.f0.size ≤ 200)) pre.length post) ?_ ?_ l [] rfl trivial
  · intro _ hn
    exact Evn.step (fun k => caduceuslaw04_Few.l0.eq_2 ..) (Evn.neg hn (Evn.ret _))
  · intro pre x post e _ hlt h0 hw hget hmem ih
    have hrd : rd_T35 l (pre.length : Int) = x := hget _
    refine Evn.step (fun k => caduceuslaw04_Few.l0.eq_2 ..) (Evn.pos hlt ?_)
    rw [hrd, fewS]
    by_cases h1 : pre.length ≤ 40
    · rw [if_pos h1, hw (by omega)]
      refine Evn.neg (by omega) (Evn.pos h0 ?_)
      by_cases h2 : x.f0.size ≤ 200
      · rw [if_pos (decide_eq_true h2)]
        refine Evn.neg (by omega) ?_
        exact Evn.val (by rw [snocLen]) (ih trivial)
      · rw [if_neg (by rw [decide_eq_false h2]; decide)]
        exact Evn.pos (by omega) (Evn.ret _)
    · rw [if_neg h1]
      exact Evn.pos (by omega) (Evn.ret _)
theorem fewF_true (l : List Fld) (h : fewF l = true) : l.length ≤ 41 ∧ ∀ x ∈ l, x.f0.size ≤ 200 := by
  obtain ⟨h1, h2⟩ := fewS_true _ l 0 h
  refine ⟨?_, fun x hx => of_decide_eq_true (h2 x hx)⟩
  rcases h1 with rfl | h1
  · exact Nat.zero_le _
  · omega
theorem refsF_ev (l : List Fld) (hl : l.length < 1000000) : Evn (fun k => caduceuslaw04_Refs.f k l) (l.map toR) := by
  have h : ∀ (post pre : List Fld), l = pre ++ post → True → Evn (fun k => caduceuslaw04_Refs.l0 k l (pre.map toR) (pre.length : Int)) (l.map toR) := by
    intro post
    induction post with
    | nil =>
      intro pre e _
      rw [List.append_nil] at e
      subst e
      exact Evn.step (fun k => caduceuslaw04_Refs.l0.eq_2 ..) (Evn.neg (by omega) (Evn.ret _))
    | cons x post ih =>
      intro pre e _
      have hlt : (pre.length : Int) < (l.length : Int) := by rw [e]; exact ltp pre x post
      have hrd : rd_T35 l (pre.length : Int) = x := by rw [e]; exact getDp pre x post _
      have := ih (pre ++ [x]) (by rw [e, List.append_assoc]; rfl) trivial
      rw [List.map_append] at this
      refine Evn.step (fun k => caduceuslaw04_Refs.l0.eq_2 ..) (Evn.pos hlt (Evn.pos (Int.natCast_nonneg _) (Evn.pos (by rw [List.length_map]; omega) ?_)))
      rw [hrd, w1p pre x (by omega)]
      exact this
  exact h l [] rfl trivial
end Go.Proofs.YtbbfggfiknbdmaaDoor.U8
namespace Go.Proofs.YtbbfggfiknbdmaaDoor.U8
open Go.RowKit Go.Proofs.YtbbfggfiknbdmaaDoor.A Go.Proofs.YtbbfggfiknbdmaaDoorW.PrintWords Go.Proofs.YtbbfggfiknbdmaaDoorW.PrintLast Go.Lib
set_option linter.unusedVariables false
set_option linter.unusedSimpArgs false
/-- What schema.Sort says. -/
def sortI (l : List Fld) : List Fld × Int := if 24 < l.length then ([], 2) else if l.all fieldX = true then (if checkF (stK 20 cT l) = true then (stK 20 cT l, 0) else ([], 9)) else ([], 1)
theorem sort_q (l : List Fld) (hs : ∀ x ∈ l, x.f0.size < 20000) (hl : l.length < 100000) : Evn (fun k => schema_Sort.f k l) (sortI l) := by
  unfold sortI
  by_cases h24 : 24 < l.length
  · rw [if_pos h24]
    exact Evn.cg (g' := fun _ => some ([], 2)) (fun k => by unfold schema_Sort.f; rw [if_pos h24]) (Evn.ret _)
  rw [if_neg h24]
  have hidx : ∀ k, idxK (fun x : Fld => (schema_field.f (k + 1) x.f0 x.f1 x.f2).bind fun b => some (!b)) l 0 = some (atI (fun x => !(fieldX x)) 0 l) := fun k => idxK_at _ _ l 0 (fun x hx => by
    rw [field_q x.f0 x.f1 x.f2 (by have := hs x hx; omega) k, Option.bind_some]; rfl)
  rcases at_find (fun x : Fld => !(fieldX x)) l 0 with ⟨h1, h2⟩ | ⟨pre, x, post, e, h1, h2⟩
  · have hall : l.all fieldX = true := by
      rw [List.all_eq_true]
      intro x hx
      have := List.find?_eq_none.1 h2 x hx
      simpa using this
    rw [if_pos hall]
    have hv : ∀ x ∈ l, fieldX x = true := List.all_eq_true.1 hall
    have hc : ∀ k, 20000 ≤ k → ∀ x y, x ∈ l → y ∈ l → name_Compare.f k x.f0 y.f0 = some (cT x y) := fun k hk x y hx hy => compare_q x.f0 y.f0 (hs x hx) (hs y hy) (fieldX_valid x (hv x hx)) (fieldX_valid y (hv y hy)) k (by have := hs x hx; omega)
    have hst : ∀ k, 20000 ≤ k → stK 20 (schema_Sort.cf k) l = stK 20 cT l := fun k hk => stK_congr (ok := fun x => x ∈ l) (fun x y hx hy => by unfold schema_Sort.cf; rw [hc k hk x y hx hy]; rfl) 20 (fun x h => h)
    obtain ⟨p1, _⟩ := stK_sorts cT_tr cT_as 20 (by decide) l
    obtain ⟨K, hK⟩ := check_q (stK 20 cT l) (fun x hx => hs x (p1.mem_iff.1 hx)) (by rw [p1.length_eq]; exact hl)
    refine ⟨20001 + K, fun k hk => ?_⟩
    obtain ⟨j, rfl⟩ : ∃ j, k = j + 1 := ⟨k - 1, by omega⟩
    have hK' : schema_Check.f (j + 1) (stK 20 cT l) = some (checkF (stK 20 cT l)) := hK (j + 1) (by omega)
    show schema_Sort.f (j + 1) l = _
    unfold schema_Sort.f
    rw [if_neg h24, hidx, Option.bind_some, h1, if_neg (by decide), if_pos (fun x hx y hy => by rw [hc _ (by omega) x y hx hy]; rfl), hst _ (by omega), hK', Option.bind_some]
    split <;> rfl
  · have hall : ¬ l.all fieldX = true := fun hall => by
      have hx := List.all_eq_true.1 hall x (by rw [e]; simp)
      have := List.find?_some h2
      rw [hx] at this
      cases this
    rw [if_neg hall]
    refine Evn.of1 fun k => ?_
    unfold schema_Sort.f
    rw [if_neg h24, hidx, Option.bind_some, h1, if_pos (Int.natCast_nonneg _)]
end Go.Proofs.YtbbfggfiknbdmaaDoor.U8
namespace Go.Proofs.YtbbfggfiknbdmaaDoor.U8
open Go.RowKit Go.Proofs.YtbbfggfiknbdmaaDoor.A Go.Proofs.YtbbfggfiknbdmaaDoorW.PrintWords Go.Proofs.YtbbfggfiknbdmaaDoorW.PrintLast Go.Lib
set_option linter.unusedVariables false
set_option linter.unusedSimpArgs false
abbrev Att := S41
/-- May a value be? -/
def valB (n i : Int) (s : ByteArray) : Bool := (value_Check.f n i s).getD false
theorem val_total (a0 a1 : Int) (a2 : ByteArray) : ∃ b, value_Check.f a0 a1 a2 = some b := by
  unfold value_Check.f
  by_cases hs : (a2.size : Int) ≤ 200
  · have : utf8_ValidString.f a2 = some (Go.Lib.validD a2.data.toList) := by
      unfold utf8_ValidString.f; rw [if_pos (by omega)]
    rw [this]
    simp only [Option.bind_some]
    repeat' split
    all_goals exact ⟨_, rfl⟩
  · simp only [hs, if_false]
    repeat' split
    all_goals exact ⟨_, rfl⟩
theorem val_q (n i : Int) (s : ByteArray) : value_Check.f n i s = some (valB n i s) := by
  obtain ⟨b, h⟩ := val_total n i s
  unfold valB
  rw [h]; rfl
def attX (x : Att) : Bool := simpleB x.f0 && valB x.f1.f0 x.f1.f1 x.f1.f2
def ltA (x y : Att) : Bool := decide (cmpB x.f0 y.f0 < 0)
def checkA (l : List Att) : Bool := ordB attX ltA none l && decide (l.length ≤ 24)
theorem attX_valid (x : Att) (h : attX x = true) : validD x.f0.data.toList = true := by
  unfold attX at h
  rw [Bool.and_eq_true] at h
  exact simple_valid _ h.1
theorem simple_ev (s : ByteArray) (hs : s.size < 1000000) : Evn (fun k => schema_simple.f k s) (simpleB s) := Evn.of1 (fun k => simple_q s hs k)
theorem schemaattrs_l0 (l : List Att) (hs : ∀ x ∈ l, x.f0.size < 20000) (hl : l.length < 100000) :
    ∀ post pre, l = pre ++ post → (∀ y, lastO pre = some y → attX y = true) → Evn (fun k => schema_Attrs.l0 k l l (l.length : Int) (pre.length : Int)) (ordB attX ltA (lastO pre) post && decide (l.length ≤ 24)) := by
  refine Evn.loop (g := fun k i => schema_Attrs.l0 k l l (l.length : Int) i) l (by omega) (fun pre => ∀ y, lastO pre = some y → attX y = true) (fun pre post => ordB attX ltA (lastO pre) post && decide (l.length ≤ 24)) ?_ ?_
  · intro hi hn
    refine Evn.step (fun k => schema_Attrs.l0.eq_2 ..) (Evn.neg hn (Evn.con ?_))
    rw [show (24 : Int) = ((24 : Nat) : Int) from rfl, dec_le]
    rcases snoc_cases l with rfl | ⟨q, y, rfl⟩
    · rfl
    · rw [lastO_snoc]; rfl
  · intro pre x post e hi hlt h0 hw hget hmem ih
    have hrd : rd_T41 l (pre.length : Int) = x := hget _
    have hsx := hs x hmem
    refine Evn.step (fun k => schema_Attrs.l0.eq_2 ..) (Evn.pos hlt (Evn.pos h0 (Evn.pos hlt ?_)))
    rw [hrd, hw]
    have ih' : attX x = true → _ := fun hx => ih (by intro y hy; rw [lastO_snoc] at hy; obtain rfl := Option.some.inj hy; exact hx)
    rw [lastO_snoc] at ih'
    rcases snoc_cases pre with rfl | ⟨q, y, rfl⟩
    · rw [lastO_nil]
      show Evn _ (((simpleB x.f0 && valB x.f1.f0 x.f1.f1 x.f1.f2) && ordB attX ltA (some x) post) && _)
      refine Evn.bind (simple_ev x.f0 (by omega)) ?_
      by_cases h0 : simpleB x.f0 = true
      case neg => exact Evn.val (by simp [h0]) (Evn.neg h0 (Evn.ret false))
      refine Evn.pos h0 ?_
      refine Evn.bind (Evn.con (val_q x.f1.f0 x.f1.f1 x.f1.f2)) ?_
      by_cases h1 : valB x.f1.f0 x.f1.f1 x.f1.f2 = true
      case neg => exact Evn.val (by simp [h1]) (Evn.neg h1 (Evn.ret false))
      refine Evn.pos h1 ?_
      have hx : attX x = true := by show (simpleB x.f0 && valB x.f1.f0 x.f1.f1 x.f1.f2) = true; simp [h0, h1]
      rw [h0, h1]
      show Evn _ (ordB attX ltA (some x) post && _)
      exact Evn.neg (by decide) (ih' hx)
    · rw [lastO_snoc]
      show Evn _ (((simpleB x.f0 && valB x.f1.f0 x.f1.f1 x.f1.f2) && (ltA y x && ordB attX ltA (some x) post)) && _)
      refine Evn.bind (simple_ev x.f0 (by omega)) ?_
      by_cases h0 : simpleB x.f0 = true
      case neg => exact Evn.val (by simp [h0]) (Evn.neg h0 (Evn.ret false))
      refine Evn.pos h0 ?_
      refine Evn.bind (Evn.con (val_q x.f1.f0 x.f1.f1 x.f1.f2)) ?_
      by_cases h1 : valB x.f1.f0 x.f1.f1 x.f1.f2 = true
      case neg => exact Evn.val (by simp [h1]) (Evn.neg h1 (Evn.ret false))
      refine Evn.pos h1 ?_
      have hx : attX x = true := by show (simpleB x.f0 && valB x.f1.f0 x.f1.f1 x.f1.f2) = true; simp [h0, h1]
      rw [h0, h1]
      show Evn _ ((ltA y x && ordB attX ltA (some x) post) && _)
      have hy := hi y (lastO_snoc q y)
      have hrq : rd_T41 l (q.length : Int) = y := by rw [e]; exact getDq q y _ _
      have hql : (q.length : Int) < (l.length : Int) := by rw [List.length_append] at hlt; omega
      have hym : y ∈ l := by rw [e]; simp
      rw [w1m q y (by omega), hrq]
      refine Evn.pos (by rw [List.length_append]; show ((q.length + 1 : Nat) : Int) > 0; omega) (Evn.pos (Int.natCast_nonneg _) (Evn.pos hql (Evn.bind (cmp_ev _ _ (hs y hym) (hs x hmem) (attX_valid y hy) (attX_valid x hx)) ?_)))
      unfold ltA
      by_cases hc : cmpB y.f0 x.f0 < 0
      · rw [decide_eq_true hc, Bool.true_and]
        exact Evn.neg (by omega) (ih' hx)
      · rw [decide_eq_false hc]
        exact Evn.pos (by omega) (Evn.ret _)
theorem schemaattrs_ev (l : List Att) (hs : ∀ x ∈ l, x.f0.size < 20000) (hl : l.length < 100000) : Evn (fun k => schema_Attrs.f k l) (ordB attX ltA none l && decide (l.length ≤ 24)) :=
  schemaattrs_l0 l hs hl l [] rfl (fun y h => by cases h)
theorem attrs_q (l : List Att) (hs : ∀ x ∈ l, x.f0.size < 20000) (hl : l.length < 100000) : Evn (fun k => schema_Attrs.f k l) (checkA l) := schemaattrs_ev l hs hl
end Go.Proofs.YtbbfggfiknbdmaaDoor.U8
namespace Go.Proofs.YtbbfggfiknbdmaaDoor.U8
open Go.RowKit Go.Proofs.YtbbfggfiknbdmaaDoor.A Go.Proofs.YtbbfggfiknbdmaaDoorW.PrintWords Go.Proofs.YtbbfggfiknbdmaaDoorW.PrintLast Go.Lib
set_option linter.unusedVariables false
set_option linter.unusedSimpArgs false
def findF (l : List Fld) (s : ByteArray) : Option Fld := l.find? (fun x => sameB x.f0 s)
def findA (l : List Att) (s : ByteArray) : Option Att := l.find? (fun x => sameB x.f0 s)
def foundF : Option Fld → ByteArray × Int × Bool × Bool
  | none => (⟨#[]⟩, 0, false, false)
  | some x => (x.f0, x.f1, x.f2, true)
def foundA : Option Att → Int × Int × ByteArray × Bool
  | none => (0, 0, ⟨#[]⟩, false)
  | some x => (x.f1.f0, x.f1.f1, x.f1.f2, true)
theorem schemaFind_q (l : List Fld) (s : ByteArray) (hl : ∀ x ∈ l, x.f0.size < 20000) (hs : s.size < 90000) : schema_Find.f l s = some (foundF (findF l s)) := by
  unfold schema_Find.f
  rw [idxK_at _ (fun x : Fld => sameB x.f0 s) l 0 (fun x hx => nameSame_q x.f0 s (by have := hl x hx; omega) hs), Option.bind_some]
  unfold findF
  rcases at_find (fun x : Fld => sameB x.f0 s) l 0 with ⟨h1, h2⟩ | ⟨pre, x, post, e, h1, h2⟩
  · rw [h1, h2, if_pos (by decide)]; rfl
  · rw [Nat.zero_add] at h1
    have hrd : rd_T35 l (pre.length : Int) = x := by rw [e]; exact getDp pre x post _
    rw [h1, h2, if_neg (by omega), hrd]; rfl
theorem get_q (l : List Att) (s : ByteArray) (hl : ∀ x ∈ l, x.f0.size < 20000) (hs : s.size < 90000) : schema_Get.f l s = some (foundA (findA l s)) := by
  unfold schema_Get.f
  rw [idxK_at _ (fun x : Att => sameB x.f0 s) l 0 (fun x hx => nameSame_q x.f0 s (by have := hl x hx; omega) hs), Option.bind_some]
  unfold findA
  rcases at_find (fun x : Att => sameB x.f0 s) l 0 with ⟨h1, h2⟩ | ⟨pre, x, post, e, h1, h2⟩
  · rw [h1, h2, if_pos (by decide)]; rfl
  · rw [Nat.zero_add] at h1
    have hrd : rd_T41 l (pre.length : Int) = x := by rw [e]; exact getDp pre x post _
    rw [h1, h2, if_neg (by omega), hrd]; rfl
end Go.Proofs.YtbbfggfiknbdmaaDoor.U8
namespace Go.Proofs.YtbbfggfiknbdmaaDoor.U8
open Go.RowKit Go.Proofs.YtbbfggfiknbdmaaDoor.A Go.Proofs.YtbbfggfiknbdmaaDoorW.PrintWords Go.Proofs.YtbbfggfiknbdmaaDoorW.PrintLast Go.Lib
set_option linter.unusedVariables false
set_option linter.unusedSimpArgs false
/-- Is each attribute one of the fields, of its kind? Then all fields that must be there. -/
def fitsM (a : List Att) : List Fld → Int
  | [] => 0
  | f :: fs => if f.f2 = true then (match findA a f.f0 with | none => 7 | some _ => fitsM a fs) else fitsM a fs
def fitsA (l : List Fld) (a : List Att) : List Att → Int
  | [] => fitsM a l
  | x :: xs => match findF l x.f0 with | none => 4 | some f => if f.f1 = x.f1.f0 then fitsA l a xs else 8
def fitsI (l : List Fld) (a : List Att) : Int := if (checkF l && checkA a) = true then fitsA l a a else 1
theorem find_mem (l : List Fld) (s : ByteArray) (f : Fld) (h : findF l s = some f) : f ∈ l := List.mem_of_find?_eq_some h
theorem fitsq_l1 (l : List Fld) (a : List Att) (hs : ∀ x ∈ l, x.f0.size < 20000) (hl : l.length < 100000) (hsa : ∀ x ∈ a, x.f0.size < 20000) : Evn (fun k => schema_Fits.l1 k a l (l.length : Int) 0) (fitsM a l) := by
  refine Evn.loop (g := fun k i => schema_Fits.l1 k a l (l.length : Int) i) l (by omega) (fun _ => True) (fun pre post => fitsM a post) ?_ ?_ l [] rfl trivial
  · intro _ hn
    exact Evn.step (fun k => schema_Fits.l1.eq_2 ..) (Evn.neg hn (Evn.ret _))
  · intro pre x post e _ hlt h0 hw hget hmem ih
    have hrd : rd_T35 l (pre.length : Int) = x := hget _
    refine Evn.step (fun k => schema_Fits.l1.eq_2 ..) (Evn.pos hlt (Evn.pos h0 (Evn.pos hlt ?_)))
    rw [hrd, hw, fitsM]
    refine Evn.bc (get_q a x.f0 hsa (by have := hs x hmem; omega)) ?_
    by_cases h : x.f2 = true
    · rw [if_pos h]
      refine Evn.pos h ?_
      cases hf : findA a x.f0 with
      | none => exact Evn.neg (by decide) (Evn.ret _)
      | some y => exact Evn.pos rfl (ih trivial)
    · rw [if_neg h]
      exact Evn.neg h (ih trivial)
theorem fitsq_l0 (l : List Fld) (a : List Att) (hs : ∀ x ∈ l, x.f0.size < 20000) (hl : l.length < 100000) (hsa : ∀ x ∈ a, x.f0.size < 20000) (hla : a.length < 100000) : Evn (fun k => schema_Fits.l0 k l a a (a.length : Int) 0) (fitsA l a a) := by
  refine Evn.loop (g := fun k i => schema_Fits.l0 k l a a (a.length : Int) i) a (by omega) (fun _ => True) (fun pre post => fitsA l a post) ?_ ?_ a [] rfl trivial
  · intro _ hn
    exact Evn.step (fun k => schema_Fits.l0.eq_2 ..) (Evn.neg hn (fitsq_l1 l a hs hl hsa))
  · intro pre x post e _ hlt h0 hw hget hmem ih
    have hrd : rd_T41 a (pre.length : Int) = x := hget _
    refine Evn.step (fun k => schema_Fits.l0.eq_2 ..) (Evn.pos hlt (Evn.pos h0 (Evn.pos hlt ?_)))
    rw [hrd, hw, fitsA]
    refine Evn.bc (schemaFind_q l x.f0 hs (by have := hsa x hmem; omega)) ?_
    cases hf : findF l x.f0 with
    | none => exact Evn.neg (by decide) (Evn.ret _)
    | some y =>
      refine Evn.pos rfl ?_
      show Evn (fun k => if y.f1 = x.f1.f0 then _ else _) (if y.f1 = x.f1.f0 then _ else _)
      by_cases h : y.f1 = x.f1.f0
      · rw [if_pos h]
        exact Evn.pos h (ih trivial)
      · rw [if_neg h]
        exact Evn.neg h (Evn.ret _)
theorem fits_q (l : List Fld) (a : List Att) (hs : ∀ x ∈ l, x.f0.size < 20000) (hl : l.length < 100000) (hsa : ∀ x ∈ a, x.f0.size < 20000) (hla : a.length < 100000) : Evn (fun k => schema_Fits.f k l a) (fitsI l a) := by
  unfold fitsI
  refine Evn.bind (check_q l hs hl) ?_
  by_cases h : checkF l = true
  · rw [h, Bool.true_and]
    refine Evn.pos rfl (Evn.bind (attrs_q a hsa hla) (Evn.step (fun k => schema_Fits.j0.eq_2 ..) ?_))
    by_cases h2 : checkA a = true
    · rw [h2, if_pos rfl]
      exact Evn.neg (by decide) (fitsq_l0 l a hs hl hsa hla)
    · rw [Bool.eq_false_iff.2 h2]
      exact Evn.pos rfl (Evn.ret _)
  · rw [Bool.eq_false_iff.2 h]
    exact Evn.neg (by decide) (Evn.step (fun k => schema_Fits.j0.eq_2 ..) (Evn.pos rfl (Evn.ret _)))
end Go.Proofs.YtbbfggfiknbdmaaDoor.U8
namespace Go.Proofs.YtbbfggfiknbdmaaDoor.U8
open Go.RowKit Go.Proofs.YtbbfggfiknbdmaaDoor.A Go.Proofs.YtbbfggfiknbdmaaDoorW.PrintWords Go.Proofs.YtbbfggfiknbdmaaDoorW.PrintLast Go.Lib
set_option linter.unusedVariables false
set_option linter.unusedSimpArgs false
/-- Has a field of these the name of one of those? -/
def clashF (a b : List Fld) : Bool := b.any (fun x => (findF a x.f0).isSome)
theorem mergego_q (a : List Fld) (hs : ∀ x ∈ a, x.f0.size < 20000) : ∀ (b : List Fld), (∀ x ∈ b, x.f0.size < 20000) → schema_Merge.go a b = some (clashF a b)
  | [], _ => rfl
  | x :: xs, hb => by
    have ih := mergego_q a hs xs (fun y hy => hb y (List.mem_cons_of_mem _ hy))
    rw [schema_Merge.go, schemaFind_q a x.f0 hs (by have := hb x (List.mem_cons_self ..); omega), Option.bind_some, ih]
    unfold clashF
    rw [List.any_cons]
    cases findF a x.f0 with
    | none => exact if_neg (by decide)
    | some y => exact if_pos rfl
def mergeI (a b : List Fld) : List Fld × Int := if checkF a = true then (if checkF b = true then (if clashF a b = true then ([], 9) else sortI (a ++ b)) else ([], 1)) else ([], 1)
theorem merge_q (a b : List Fld) (ha : ∀ x ∈ a, x.f0.size < 20000) (hla : a.length < 300) (hb : ∀ x ∈ b, x.f0.size < 20000) (hlb : b.length < 300) : Evn (fun k => schema_Merge.f k a b) (mergeI a b) := by
  unfold mergeI
  refine Evn.bind (check_q a ha (by omega)) ?_
  by_cases h1 : checkF a = true
  · rw [if_pos h1]
    refine Evn.pos h1 (Evn.bind (check_q b hb (by omega)) ?_)
    by_cases h2 : checkF b = true
    · rw [if_pos h2]
      refine Evn.pos h2 (Evn.bc (mergego_q a ha b hb) ?_)
      by_cases h3 : clashF a b = true
      · rw [if_pos h3]
        exact Evn.pos h3 (Evn.ret _)
      · rw [if_neg h3]
        exact Evn.neg h3 (Evn.pos (by omega) (sort_q (a ++ b) (fun x hx => (List.mem_append.1 hx).elim (ha x) (hb x)) (by rw [List.length_append]; omega)))
    · rw [if_neg h2]
      exact Evn.neg h2 (Evn.ret _)
  · rw [if_neg h1]
    exact Evn.neg h1 (Evn.ret _)
theorem sameB_eq (a b : ByteArray) : sameB a b = true ↔ foldB a = foldB b := toList_foldB a b
theorem clash_iff (a b : List Fld) : clashF a b = true ↔ ∃ x ∈ b, ∃ y ∈ a, sameB y.f0 x.f0 = true := by
  unfold clashF findF
  rw [List.any_eq_true]
  constructor
  · rintro ⟨x, hx, h⟩
    rw [List.find?_isSome] at h
    obtain ⟨y, hy, h⟩ := h
    exact ⟨x, hx, y, hy, h⟩
  · rintro ⟨x, hx, y, hy, h⟩
    exact ⟨x, hx, by rw [List.find?_isSome]; exact ⟨y, hy, h⟩⟩
theorem clash_sym (a b : List Fld) : clashF a b = clashF b a := by
  rw [Bool.eq_iff_iff, clash_iff, clash_iff]
  constructor
  · rintro ⟨x, hx, y, hy, h⟩
    exact ⟨y, hy, x, hx, (sameB_eq _ _).2 ((sameB_eq _ _).1 h).symm⟩
  · rintro ⟨x, hx, y, hy, h⟩
    exact ⟨y, hy, x, hx, (sameB_eq _ _).2 ((sameB_eq _ _).1 h).symm⟩
theorem pair_ne {α : Type} {R : α → α → Prop} (hsy : ∀ {x y}, R x y → R y x) : ∀ (l : List α), List.Pairwise R l → ∀ x ∈ l, ∀ y ∈ l, x ≠ y → R x y
  | [], _, x, hx, _, _, _ => by cases hx
  | a :: l, h, x, hx, y, hy, hn => by
    obtain ⟨h1, h2⟩ := List.pairwise_cons.1 h
    rcases List.mem_cons.1 hx with e | hx
    · rcases List.mem_cons.1 hy with e2 | hy
      · exact absurd (e.trans e2.symm) hn
      · rw [e]; exact h1 y hy
    · rcases List.mem_cons.1 hy with e2 | hy
      · rw [e2]; exact hsy (h1 x hx)
      · exact pair_ne hsy l h2 x hx y hy hn
theorem own_same (S : List Fld) (hS : checkF S = true) (x y : Fld) (hx : x ∈ S) (hy : y ∈ S) (h : sameB x.f0 y.f0 = true) : x = y := by
  obtain ⟨h1, h2, _⟩ := (check_pair S).1 hS
  refine Classical.byContradiction fun hn => ?_
  exact pair_ne (fun h => difT_sym h) S (h2.imp lt_dif) x hx y hy hn ((same_cmp _ _ (fieldX_valid x (h1 x hx)) (fieldX_valid y (h1 y hy))).1 h)
/-- A field of a schema is found by any text of its name. -/
theorem find_own (S : List Fld) (hS : checkF S = true) (f : Fld) (hf : f ∈ S) (s : ByteArray) (h : sameB f.f0 s = true) : findF S s = some f := by
  cases hq : findF S s with
  | none =>
    have := List.find?_eq_none.1 hq f hf
    exact absurd h this
  | some g =>
    have hg : sameB g.f0 s = true := List.find?_some (p := fun x : Fld => sameB x.f0 s) hq
    have hm := find_mem S s g hq
    rw [own_same S hS g f hm hf ((sameB_eq _ _).2 (((sameB_eq _ _).1 hg).trans ((sameB_eq _ _).1 h).symm))]
theorem sameB_self (s : ByteArray) : sameB s s = true := (sameB_eq s s).2 rfl
theorem sort_ok (a b : List Fld) (ha : checkF a = true) (hb : checkF b = true) (hc : ¬ clashF a b = true) (hl : a.length + b.length ≤ 24) :
    ∃ S, sortI (a ++ b) = (S, 0) ∧ sortI (b ++ a) = (S, 0) ∧ S.Perm (a ++ b) ∧ checkF S = true := by
  obtain ⟨a1, a2, _⟩ := (check_pair a).1 ha
  obtain ⟨b1, b2, _⟩ := (check_pair b).1 hb
  have hd : List.Pairwise difT (a ++ b) := List.pairwise_append.2 ⟨a2.imp lt_dif, b2.imp lt_dif, fun x hx y hy h => hc ((clash_iff a b).2 ⟨y, hy, x, hx, (same_cmp _ _ (fieldX_valid x (a1 x hx)) (fieldX_valid y (b1 y hy))).2 h⟩)⟩
  have key : ∀ l : List Fld, l.Perm (a ++ b) → sortI l = (stK 20 cT l, 0) ∧ checkF (stK 20 cT l) = true := fun l hp => by
    obtain ⟨k1, k2⟩ := stK_sorts cT_tr cT_as 20 (by decide) l
    have hll : l.length ≤ 24 := by rw [hp.length_eq, List.length_append]; exact hl
    have hall : ∀ x ∈ l, fieldX x = true := fun x hx => (List.mem_append.1 (hp.mem_iff.1 hx)).elim (a1 x) (b1 x)
    have hdT : List.Pairwise difT (stK 20 cT l) := hd.perm (k1.trans hp).symm difT_sym
    have hlt : List.Pairwise ltT (stK 20 cT l) := by
      refine (List.pairwise_and_iff.2 ⟨k2, hdT⟩).imp fun {a b} h => ?_
      obtain ⟨h1, h2⟩ := h
      unfold leC cT at h1
      unfold difT cT at h2
      unfold ltT cT
      have := cmpB_neg a.f0 b.f0
      omega
    have hck : checkF (stK 20 cT l) = true := (check_pair _).2 ⟨fun x hx => hall x (k1.mem_iff.1 hx), hlt, by rw [k1.length_eq]; exact hll⟩
    refine ⟨?_, hck⟩
    unfold sortI
    rw [if_neg (by omega), if_pos (List.all_eq_true.2 hall), if_pos hck]
  obtain ⟨s1, c1⟩ := key (a ++ b) (List.Perm.refl _)
  obtain ⟨s2, c2⟩ := key (b ++ a) List.perm_append_comm
  have p1 := (stK_sorts cT_tr cT_as 20 (by decide) (a ++ b)).1
  have p2 := (stK_sorts cT_tr cT_as 20 (by decide) (b ++ a)).1
  have e : stK 20 cT (b ++ a) = stK 20 cT (a ++ b) := ((p2.trans List.perm_append_comm).trans p1.symm).eq_of_pairwise (fun x y _ _ => lt_anti x y) ((check_pair _).1 c2).2.1 ((check_pair _).1 c1).2.1
  exact ⟨_, s1, by rw [s2, e], p1, c1⟩
/-- A merge is an error, or all of both in their order; the same either way round. -/
theorem merge_cases (a b : List Fld) : (∃ e, e ≠ 0 ∧ mergeI a b = ([], e) ∧ mergeI b a = ([], e)) ∨ (checkF a = true ∧ checkF b = true ∧ ∃ S, mergeI a b = (S, 0) ∧ mergeI b a = (S, 0) ∧ S.Perm (a ++ b) ∧ checkF S = true) := by
  unfold mergeI
  by_cases h1 : checkF a = true
  · by_cases h2 : checkF b = true
    · rw [if_pos h1, if_pos h2, if_pos h2, if_pos h1, clash_sym b a]
      by_cases h3 : clashF a b = true
      · rw [if_pos h3, if_pos h3]
        exact .inl ⟨9, by decide, rfl, rfl⟩
      · rw [if_neg h3, if_neg h3]
        by_cases h4 : a.length + b.length ≤ 24
        · exact .inr ⟨h1, h2, sort_ok a b h1 h2 h3 h4⟩
        · unfold sortI
          rw [if_pos (by rw [List.length_append]; omega), if_pos (by rw [List.length_append]; omega)]
          exact .inl ⟨2, by decide, rfl, rfl⟩
    · rw [if_pos h1, if_neg h2, if_neg h2]
      exact .inl ⟨1, by decide, rfl, rfl⟩
  · rw [if_neg h1]
    refine .inl ⟨1, by decide, rfl, ?_⟩
    split
    · rfl
    · rfl
theorem atI_false {α : Type} : ∀ (l : List α) (i : Nat), atI (fun _ => false) i l = -1
  | [], _ => rfl
  | _ :: xs, i => by rw [atI, if_neg (by decide), atI_false xs]
theorem within_q (a S : List Fld) (hs : ∀ x ∈ S, x.f0.size < 20000) (ha : ∀ x ∈ a, x.f0.size < 20000) (h : ∀ x ∈ a, findF S x.f0 = some x) : schema_Within.f a S = some true := by
  unfold schema_Within.f
  rw [idxK_at _ (fun _ => false) a 0 (fun x hx => by
    rw [schemaFind_q S x.f0 hs (by have := ha x hx; omega), Option.bind_some, h x hx]
    show some (if true = true then (if x.f1 = x.f1 then x.f2 != x.f2 else true) else true) = some false
    rw [if_pos rfl, if_pos rfl, bne_self_eq_false]), Option.bind_some, atI_false]
  rfl
theorem fitsM_iff (x : List Att) : ∀ (l : List Fld), fitsM x l = 0 ↔ ∀ f ∈ l, f.f2 = true → (findA x f.f0).isSome = true
  | [] => ⟨fun _ f hf => (by cases hf), fun _ => rfl⟩
  | f :: fs => by
    rw [fitsM]
    by_cases h : f.f2 = true
    · rw [if_pos h]
      cases hq : findA x f.f0 with
      | none =>
        refine ⟨fun h0 => by simp at h0, fun h0 => ?_⟩
        have := h0 f (List.mem_cons_self ..) h
        rw [hq] at this
        cases this
      | some y =>
        show fitsM x fs = 0 ↔ _
        rw [fitsM_iff x fs]
        exact ⟨fun h0 => all_cons (fun _ => by rw [hq]; rfl) h0, fun h0 g hg => h0 g (List.mem_cons_of_mem _ hg)⟩
    · rw [if_neg h, fitsM_iff x fs]
      exact ⟨fun h0 => all_cons (fun h1 => absurd h1 h) h0, fun h0 g hg => h0 g (List.mem_cons_of_mem _ hg)⟩
theorem fitsA_more (a S : List Fld) (x : List Att) (hS : checkF S = true) (hsub : ∀ f ∈ a, f ∈ S) (hM : fitsM x a = 0 → fitsM x S = 0) : ∀ xs : List Att, fitsA a x xs = 0 → fitsA S x xs = 0
  | [], h => hM h
  | y :: ys, h => by
    rw [fitsA] at h ⊢
    cases hq : findF a y.f0 with
    | none => rw [hq] at h; simp at h
    | some f =>
      rw [hq] at h
      have hf : sameB f.f0 y.f0 = true := List.find?_some (p := fun z : Fld => sameB z.f0 y.f0) hq
      rw [find_own S hS f (hsub f (find_mem a y.f0 f hq)) y.f0 hf]
      dsimp only at h ⊢
      by_cases hk : f.f1 = y.f1.f0
      · rw [if_pos hk] at h ⊢
        exact fitsA_more a S x hS hsub hM ys h
      · rw [if_neg hk] at h; simp at h
theorem fits_more (a b S : List Fld) (x : List Att) (hS : checkF S = true) (hp : S.Perm (a ++ b)) (hb : b.any (fun f => f.f2) = false) (h : fitsI a x = 0) : fitsI S x = 0 := by
  unfold fitsI at h ⊢
  by_cases hc : (checkF a && checkA x) = true
  · rw [if_pos hc] at h
    rw [Bool.and_eq_true] at hc
    rw [if_pos (by rw [hS, hc.2]; rfl)]
    refine fitsA_more a S x hS (fun f hf => hp.mem_iff.2 (List.mem_append_left _ hf)) (fun hm => ?_) x h
    rw [fitsM_iff] at hm ⊢
    intro f hf h2
    rcases List.mem_append.1 (hp.mem_iff.1 hf) with h3 | h3
    · exact hm f h3 h2
    · have := List.any_eq_false.1 hb f h3
      exact absurd h2 this
  · rw [if_neg hc] at h; cases h
end Go.Proofs.YtbbfggfiknbdmaaDoor.U8
namespace Go.Proofs.YtbbfggfiknbdmaaDoor.U8
open Go.RowKit Go.Proofs.YtbbfggfiknbdmaaDoor.A Go.Proofs.YtbbfggfiknbdmaaDoorW.PrintWords Go.Proofs.YtbbfggfiknbdmaaDoorW.PrintLast Go.Lib
set_option linter.unusedVariables false
set_option linter.unusedSimpArgs false
def fewA (l : List Att) : Bool := fewS (fun x => decide (x.f0.size ≤ 200) && decide (x.f1.f2.size ≤ 500)) 0 l
theorem fewA_ev (l : List Att) : Evn (fun k => caduceuslaw04_FewAttrs.f k l) (fewA l) := by
  refine Evn.loopS (g := fun k i => caduceuslaw04_FewAttrs.l0 k l i) l (fun _ => True) (fun pre post => fewS (fun x => decide (x.f0.size ≤ 200) && decide (x.f1.f2.size ≤ 500)) pre.length post) ?_ ?_ l [] rfl trivial
  · intro _ hn
    exact Evn.step (fun k => caduceuslaw04_FewAttrs.l0.eq_2 ..) (Evn.neg hn (Evn.ret _))
  · intro pre x post e _ hlt h0 hw hget hmem ih
    have hrd : rd_T41 l (pre.length : Int) = x := hget _
    refine Evn.step (fun k => caduceuslaw04_FewAttrs.l0.eq_2 ..) (Evn.pos hlt ?_)
    rw [hrd, fewS]
    by_cases h1 : pre.length ≤ 40
    · rw [if_pos h1, hw (by omega)]
      refine Evn.neg (by omega) (Evn.pos h0 ?_)
      by_cases h2 : x.f0.size ≤ 200
      · refine Evn.neg (by omega) ?_
        by_cases h3 : x.f1.f2.size ≤ 500
        · rw [if_pos (by rw [decide_eq_true h2, decide_eq_true h3]; rfl)]
          refine Evn.neg (by omega) ?_
          exact Evn.val (by rw [snocLen]) (ih trivial)
        · rw [if_neg (by rw [decide_eq_false h3, Bool.and_false]; decide)]
          exact Evn.pos (by omega) (Evn.ret _)
      · rw [if_neg (by rw [decide_eq_false h2, Bool.false_and]; decide)]
        exact Evn.pos (by omega) (Evn.ret _)
    · rw [if_neg h1]
      exact Evn.pos (by omega) (Evn.ret _)
theorem fewA_true (l : List Att) (h : fewA l = true) : l.length ≤ 41 ∧ ∀ x ∈ l, x.f0.size ≤ 200 ∧ x.f1.f2.size ≤ 500 := by
  obtain ⟨h1, h2⟩ := fewS_true _ l 0 h
  refine ⟨?_, fun x hx => ?_⟩
  · rcases h1 with rfl | h1
    · exact Nat.zero_le _
    · omega
  · have := h2 x hx
    rw [Bool.and_eq_true, decide_eq_true_eq, decide_eq_true_eq] at this
    exact this
end Go.Proofs.YtbbfggfiknbdmaaDoor.U8
namespace Go.Proofs.YtbbfggfiknbdmaaDoor.U8
open Go.RowKit Go.Proofs.YtbbfggfiknbdmaaDoor.A Go.Proofs.YtbbfggfiknbdmaaDoorW.PrintWords Go.Proofs.YtbbfggfiknbdmaaDoorW.PrintLast Go.Lib
set_option linter.unusedVariables false
set_option linter.unusedSimpArgs false
theorem same_ev (l : List FldR) (hl : l.length < 1000000) : Evn (fun k => caduceusref04_Same.f k l l) true := by
  refine Evn.pos rfl ?_
  refine Evn.loop (g := fun k i => caduceusref04_Same.l0 k l l i) l (by omega) (fun _ => True) (fun _ _ => true) ?_ ?_ l [] rfl trivial
  · intro _ hn
    exact Evn.step (fun k => caduceusref04_Same.l0.eq_2 ..) (Evn.neg hn (Evn.ret _))
  · intro pre x post e _ hlt h0 hw hget hmem ih
    refine Evn.step (fun k => caduceusref04_Same.l0.eq_2 ..) (Evn.pos hlt (Evn.pos h0 (Evn.pos hlt ?_)))
    rw [hw, beq_self_eq_true, beq_self_eq_true, beq_self_eq_true]
    exact Evn.neg (by decide) (ih trivial)
end Go.Proofs.YtbbfggfiknbdmaaDoor.U8
namespace Go.Proofs.YtbbfggfiknbdmaaDoor.U8
open Go.RowKit Go.Proofs.YtbbfggfiknbdmaaDoor.A Go.Proofs.YtbbfggfiknbdmaaDoorW.PrintWords Go.Proofs.YtbbfggfiknbdmaaDoorW.PrintLast Go.Lib
set_option linter.unusedVariables false
set_option maxRecDepth 100000 in
theorem awake4_true : caduceuslaw04_awake.f 80 = some true := by decide +kernel
theorem awake4 : Evn (fun k => caduceuslaw04_awake.f k) true := Evn.of 80 (fun k h => at_rounds (fun k => caduceuslaw04_awake.mono k) h awake4_true)
end Go.Proofs.YtbbfggfiknbdmaaDoor.U8
namespace Go.Proofs.YtbbfggfiknbdmaaDoor.Pure
open Go.RowKit Go.Proofs.YtbbfggfiknbdmaaDoor.A Go.Proofs.YtbbfggfiknbdmaaDoor.U8 Go.Proofs.YtbbfggfiknbdmaaDoorW.PrintWords Go.Proofs.YtbbfggfiknbdmaaDoorW.PrintLast
set_option linter.unusedVariables false
set_option linter.unusedSimpArgs false
theorem inh_l0 (a b S : List Fld) (x : List Att) (V : Bool) (hl : b.length < 1000) (h : Evn (fun k => caduceuslaw04_SchemaInherits.l0 k a b x S (b.any (fun f => f.f2)) (b.length : Int)) V) :
    ∀ (post pre : List Fld), b = pre ++ post → Evn (fun k => caduceuslaw04_SchemaInherits.l0 k a b x S (pre.any (fun f => f.f2)) (pre.length : Int)) V
  | [], pre, e => by
    rw [List.append_nil] at e
    rw [e] at h
    rw [e]
    exact h
  | y :: post, pre, e => by
    have hlt : (pre.length : Int) < (b.length : Int) := by rw [e]; exact ltp pre y post
    have hrd : rd_T35 b (pre.length : Int) = y := by rw [e]; exact getDp pre y post _
    have ih := inh_l0 a b S x V hl h post (pre ++ [y]) (by rw [e, List.append_assoc]; rfl)
    rw [List.any_append] at ih
    refine Evn.step (fun k => caduceuslaw04_SchemaInherits.l0.eq_2 ..) (Evn.pos hlt ?_)
    rw [hrd, w1p pre y (by omega)]
    by_cases hm : pre.any (fun f => f.f2) = true
    · rw [hm] at ih ⊢
      exact Evn.pos rfl ih
    · rw [Bool.eq_false_iff.2 hm] at ih ⊢
      refine Evn.neg (by decide) (Evn.pos (Int.natCast_nonneg _) ?_)
      rw [List.any_cons, List.any_nil, Bool.or_false, Bool.false_or] at ih
      exact ih
theorem SchemaInherits (a b : List Fld) (x : List Att) (hma : a.length ≤ maxLen) (hwa : ∀ v ∈ a, (Lit.int .i64 v.f1).wf = true) (hmb : b.length ≤ maxLen) (hwb : ∀ v ∈ b, (Lit.int .i64 v.f1).wf = true) (hmx : x.length ≤ maxLen) (hwx : ∀ v ∈ x, (Lit.int .i64 v.f1.f0).wf = true ∧ (Lit.int .i64 v.f1.f1).wf = true) :
    ∃ k, caduceuslaw04_SchemaInherits.f k a b x = some true := by
  have no : Evn (fun k => caduceuslaw04_SchemaInherits.j0 k a b x true) true := Evn.step (fun k => caduceuslaw04_SchemaInherits.j0.eq_2 ..) (Evn.pos rfl (Evn.bind awake4 (Evn.ret _)))
  refine Evn.get (g := fun k => caduceuslaw04_SchemaInherits.f k a b x) (Evn.bind (fewF_ev a) (Evn.ite (fun h1 => Evn.bind (fewF_ev b) (Evn.ite (fun h2 => Evn.bind (fewA_ev x) ?_) (fun _ => no))) (fun _ => no)))
  by_cases h3 : fewA x = true
  case neg => rw [Bool.eq_false_iff.2 h3]; exact no
  rw [h3]
  obtain ⟨a1, a2⟩ := fewF_true a h1
  obtain ⟨b1, b2⟩ := fewF_true b h2
  obtain ⟨x1, x2⟩ := fewA_true x h3
  have sa : ∀ y ∈ a, y.f0.size < 20000 := fun y hy => by have := a2 y hy; omega
  have sb : ∀ y ∈ b, y.f0.size < 20000 := fun y hy => by have := b2 y hy; omega
  have sx : ∀ y ∈ x, y.f0.size < 20000 := fun y hy => by have := (x2 y hy).1; omega
  refine Evn.step (fun k => caduceuslaw04_SchemaInherits.j0.eq_2 ..) (Evn.neg (by decide) (Evn.bind (merge_q a b sa (by omega) sb (by omega)) (Evn.bind (merge_q b a sb (by omega) sa (by omega)) ?_)))
  rcases merge_cases a b with ⟨e, e0, m1, m2⟩ | ⟨c1, c2, S, m1, m2, hp, hS⟩
  · rw [m1, m2]
    refine Evn.pos rfl (Evn.bind (refsF_ev [] (by decide)) (Evn.bind (refsF_ev [] (by decide)) (Evn.bind (same_ev _ (by decide)) ?_)))
    refine Evn.step (fun k => caduceuslaw04_SchemaInherits.j1.eq_2 ..) (Evn.neg (by decide) (Evn.neg e0 (Evn.bind awake4 (Evn.pos rfl (Evn.con ?_)))))
    rfl
  · rw [m1, m2]
    have hlen := hp.length_eq
    rw [List.length_append] at hlen
    have sS : ∀ y ∈ S, y.f0.size < 20000 := fun y hy => (List.mem_append.1 (hp.mem_iff.1 hy)).elim (sa y) (sb y)
    refine Evn.pos rfl (Evn.bind (refsF_ev S (by omega)) (Evn.bind (refsF_ev S (by omega)) (Evn.bind (same_ev _ (by rw [List.length_map]; omega)) ?_)))
    refine Evn.step (fun k => caduceuslaw04_SchemaInherits.j1.eq_2 ..) (Evn.neg (by decide) (Evn.pos rfl (Evn.bc (within_q a S sS sa (fun f hf => find_own S hS f (hp.mem_iff.2 (List.mem_append_left _ hf)) f.f0 (sameB_self _))) (Evn.pos rfl (Evn.bc (within_q b S sS sb (fun f hf => find_own S hS f (hp.mem_iff.2 (List.mem_append_right _ hf)) f.f0 (sameB_self _))) (Evn.pos rfl ?_))))))
    have hw : wrap64 ((a.length : Int) + (b.length : Int)) = (S.length : Int) := by unfold wrap64; omega
    rw [hw]
    refine Evn.step (fun k => caduceuslaw04_SchemaInherits.j2.eq_2 ..) (Evn.neg (by rw [bne_self_eq_false]; decide) ?_)
    refine inh_l0 a b S x true (by omega) ?_ b [] rfl
    refine Evn.step (fun k => caduceuslaw04_SchemaInherits.l0.eq_2 ..) (Evn.neg (by omega) (Evn.bind awake4 (Evn.pos rfl ?_)))
    by_cases hm : b.any (fun f => f.f2) = true
    · exact Evn.pos hm (Evn.ret _)
    · refine Evn.neg hm (Evn.bind (fits_q a x sa (by omega) sx (by omega)) ?_)
      by_cases hf : fitsI a x = 0
      · refine Evn.pos hf (Evn.bind (fits_q S x sS (by omega) sx (by omega)) (Evn.con ?_))
        rw [fits_more a b S x hS hp (Bool.eq_false_iff.2 hm) hf]
        rfl
      · exact Evn.neg hf (Evn.ret _)
end Go.Proofs.YtbbfggfiknbdmaaDoor.Pure
