import Derived.Lib.DecodeNEq
import Derived.Lib.ValidU
import Derived.Lib.MapLaws
import Derived.Lib.Bytes
import Derived.Test.YtkdndabpaajkaaaGreatDoorAx0
import Derived.Test.YtkdndabpaajkaaaGreatDoorAx6
import Derived.Test.YtkdndabpaajkaaaGreatDoorAx11
import Derived.Test.YtkdndabpaajkaaaGreatDoorAx13
import Derived.Test.YtkdndabpaajkaaaGreatDoorAx14
import Derived.Test.YtkdndabpaajkaaaGreatDoorAx22
import Derived.Test.YtkdndabpaajkaaaGreatDoorAx23
import Derived.Test.YtkdndabpaajkaaaGreatDoorAx24
import Derived.Test.YtkdndabpaajkaaaGreatDoorAx27
import Derived.Test.YtkdndabpaajkaaaGreatDoorAx32
import Derived.Test.YtkdndabpaajkaaaGreatDoorAx33
import Derived.Test.YtkdndabpaajkaaaGreatDoorPureEventBackA
namespace Go.Proofs.YtkdndabpaajkaaaGreatDoor.U8
open Go.RowKit Go.Proofs.YtkdndabpaajkaaaGreatDoor.A Go.Proofs.YtkdndabpaajkaaaGreatDoorW.PrintWords Go.Proofs.YtkdndabpaajkaaaGreatDoorW.PrintLast Go.Lib
set_option linter.unusedVariables false
set_option linter.unusedSimpArgs false
theorem showV_le (a0 a1 : Int) (a2 : ByteArray) (h : okV a0 a1 a2) : (showL a0 a1 a2).length ≤ 2000 := by
  unfold showL
  rcases h with ⟨rfl, h1, h2, h3⟩ | ⟨rfl, rfl, h1, h2⟩ | ⟨rfl, h1, h2⟩ | ⟨rfl, rfl, h1⟩
  · rw [if_pos rfl]
    by_cases c : a1 < 0
    · have := dd_le a1.natAbs (by omega)
      rw [itoa_neg' _ c, List.length_cons]; omega
    · have := dd_le a1.toNat (by omega)
      rw [itoa_pos' _ c]; omega
  · rw [if_neg (by omega), if_pos rfl]
    obtain ⟨v1, v2⟩ := valid_runes a2 h2
    have := Pure.escL_le _ v2
    rw [v1, ← size_len] at this
    rw [List.length_cons, List.length_append]
    show _ + 1 + 1 ≤ 2000
    omega
  · rw [if_neg (by omega), if_neg (by omega), if_pos rfl]
    rcases h1 with rfl | rfl
    · show 5 ≤ 2000; omega
    · show 4 ≤ 2000; omega
  · rw [if_neg (by omega), if_neg (by omega), if_neg (by omega)]
    unfold Go.Lib.bytesOf
    rw [List.length_map, List.length_append, List.length_append, hexL_len, ← size_len]
    show 2 + _ + 1 ≤ 2000
    omega
def checkE (n0 n1 n2 : Int) (ty : ByteArray) (l : List Att) : Bool := okId n0 n1 n2 && (decide (checkN ty = 0) && checkA l)
theorem checkE_iff (n0 n1 n2 : Int) (ty : ByteArray) (l : List Att) : checkE n0 n1 n2 ty l = true ↔ okId n0 n1 n2 = true ∧ checkN ty = 0 ∧ checkA l = true := by
  unfold checkE
  rw [Bool.and_eq_true, Bool.and_eq_true, decide_eq_true_eq]
theorem checkE_ev (n0 n1 n2 : Int) (ty : ByteArray) (l : List Att) (ht : ty.size < 20000) (hs : ∀ x ∈ l, x.f0.size < 20000) (hl : l.length < 100000) : Evn (fun k => event_Check.f k n0 n1 n2 ty l) (checkE n0 n1 n2 ty l) := by
  unfold checkE
  refine Evn.bc (isid_q n0 n1 n2) ?_
  cases okId n0 n1 n2 with
  | false => exact Evn.neg (by decide) (Evn.ret _)
  | true =>
    refine Evn.pos rfl (Evn.bind (u := checkN ty) (Evn.of1 (fun k => check_name ty (by omega) k)) ?_)
    by_cases h : checkN ty = 0
    · refine Evn.pos h (Evn.bind (attrs_q l hs hl) ?_)
      rw [decide_eq_true h]
      exact Evn.ret _
    · rw [decide_eq_false h]
      exact Evn.neg h (Evn.ret _)
def lineE (x : Att) : List UInt8 := 32 :: (x.f0.data.toList ++ 61 :: showL x.f1.f0 x.f1.f1 x.f1.f2)
def linesE (l : List Att) : List UInt8 := (l.map lineE).flatten
theorem linesE_cons (x : Att) (l : List Att) : linesE (x :: l) = 32 :: (x.f0.data.toList ++ 61 :: (showL x.f1.f0 x.f1.f1 x.f1.f2 ++ linesE l)) := by
  show lineE x ++ linesE l = _
  unfold lineE
  rw [List.cons_append, List.append_assoc, List.cons_append]
def evL (n0 n1 n2 : Int) (ty : ByteArray) (l : List Att) : List UInt8 := idL n0 n1 n2 ++ 32 :: (ty.data.toList ++ linesE l)
def showE (n0 n1 n2 : Int) (ty : ByteArray) (l : List Att) : ByteArray := if checkE n0 n1 n2 ty l = true then bl (evL n0 n1 n2 ty l) else bl []
theorem showV_ev (a0 a1 : Int) (a2 : ByteArray) (h : okV a0 a1 a2) : Evn (fun k => value_Show.f k a0 a1 a2) (bl (showL a0 a1 a2)) := Evn.of 300 (fun k hk => show_q a0 a1 a2 h k hk)
theorem linesE_len (l : List Att) (B : Nat) (ho : ∀ x ∈ l, okV x.f1.f0 x.f1.f1 x.f1.f2) (hs : ∀ x ∈ l, x.f0.size ≤ B) : (linesE l).length ≤ (B + 2002) * l.length := by
  induction l with
  | nil => exact Nat.le_refl _
  | cons x l ih =>
    have h1 := ih (fun y hy => ho y (List.mem_cons_of_mem _ hy)) (fun y hy => hs y (List.mem_cons_of_mem _ hy))
    have h2 := hs x List.mem_cons_self
    have h3 := showV_le _ _ _ (ho x List.mem_cons_self)
    rw [linesE_cons, List.length_cons, List.length_append, List.length_cons, List.length_append, ← size_len, List.length_cons, Nat.mul_add]
    omega
theorem show_go : ∀ (l : List Att) (acc : List UInt8), (∀ x ∈ l, okV x.f1.f0 x.f1.f1 x.f1.f2) → (∀ x ∈ l, x.f0.size < 20000) → acc.length + 23000 * l.length ≤ 140737488355328 → Evn (fun k => event_Show.go k l acc) (bl (acc ++ linesE l))
  | [], acc, _, _, _ => by
    have e : acc ++ linesE [] = acc := List.append_nil _
    rw [e]
    exact Evn.ret _
  | x :: l, acc, ho, hs, hl => by
    have h2 := hs x List.mem_cons_self
    have h3 := showV_le _ _ _ (ho x List.mem_cons_self)
    have hl' : acc.length + 23000 * (l.length + 1) ≤ 140737488355328 := hl
    have e : acc ++ linesE (x :: l) = (acc ++ lineE x) ++ linesE l := by rw [List.append_assoc]; rfl
    have e2 : ((((⟨#[32]⟩ : ByteArray) ++ x.f0) ++ (⟨#[61]⟩ : ByteArray)) ++ bl (showL x.f1.f0 x.f1.f1 x.f1.f2)).data.toList = lineE x := by
      rw [ByteArray.data_append, ByteArray.data_append, ByteArray.data_append, Array.toList_append, Array.toList_append, Array.toList_append]
      show (([32] ++ x.f0.data.toList) ++ [61]) ++ showL x.f1.f0 x.f1.f1 x.f1.f2 = _
      unfold lineE
      rw [List.append_assoc, List.append_assoc]; rfl
    have e3 : (lineE x).length = x.f0.size + (showL x.f1.f0 x.f1.f1 x.f1.f2).length + 2 := by
      unfold lineE
      rw [List.length_cons, List.length_append, List.length_cons, ← size_len]; omega
    rw [e]
    have ih := show_go l (acc ++ lineE x) (fun y hy => ho y (List.mem_cons_of_mem _ hy)) (fun y hy => hs y (List.mem_cons_of_mem _ hy)) (by rw [List.length_append, e3]; omega)
    refine Evn.bind (showV_ev _ _ _ (ho x List.mem_cons_self)) (Evn.pos (by have hb : (bl (showL x.f1.f0 x.f1.f1 x.f1.f2)).size = (showL x.f1.f0 x.f1.f1 x.f1.f2).length := bl_size _; omega) ?_)
    rw [e2]
    exact ih
theorem showE_ev (n0 n1 n2 : Int) (ty : ByteArray) (l : List Att) (ht : ty.size < 20000) (hs : ∀ x ∈ l, x.f0.size < 20000) (hl : l.length < 100000) : Evn (fun k => event_Show.f k n0 n1 n2 ty l) (showE n0 n1 n2 ty l) := by
  refine Evn.bind (checkE_ev n0 n1 n2 ty l ht hs hl) ?_
  unfold showE
  by_cases h : checkE n0 n1 n2 ty l = true
  · obtain ⟨h1, h2, h3⟩ := (checkE_iff ..).1 h
    obtain ⟨l1, l2⟩ := idL_len _ _ _ h1
    obtain ⟨ha, h24⟩ := checkA_all l h3
    have e : showId n0 n1 n2 = bl (idL n0 n1 n2) := by unfold showId; rw [if_pos h1]
    rw [if_pos h]
    refine Evn.pos h (Evn.bc (showId_q _ _ _) (Evn.pos (by have hb : (bl (idL n0 n1 n2)).size = (idL n0 n1 n2).length := bl_size _; rw [e]; omega) ?_))
    have e2 : ((showId n0 n1 n2 ++ (⟨#[32]⟩ : ByteArray)) ++ ty).data.toList = (idL n0 n1 n2 ++ [32]) ++ ty.data.toList := by
      rw [e, ByteArray.data_append, ByteArray.data_append, Array.toList_append, Array.toList_append]; try rfl
    have e3 : evL n0 n1 n2 ty l = ((idL n0 n1 n2 ++ [32]) ++ ty.data.toList) ++ linesE l := by
      unfold evL
      rw [List.append_assoc, List.append_assoc]; rfl
    rw [e2, e3]
    exact show_go l _ (fun x hx => (ha x hx).2) hs (by
      have l3 : ([32] : List UInt8).length = 1 := rfl
      rw [List.length_append, List.length_append, l3, ← size_len]; omega)
  · rw [if_neg h]
    exact Evn.neg h (Evn.ret _)
end Go.Proofs.YtkdndabpaajkaaaGreatDoor.U8
namespace Go.Proofs.YtkdndabpaajkaaaGreatDoor.U8
open Go.RowKit Go.Proofs.YtkdndabpaajkaaaGreatDoor.A Go.Proofs.YtkdndabpaajkaaaGreatDoorW.PrintWords Go.Proofs.YtkdndabpaajkaaaGreatDoorW.PrintLast Go.Lib
set_option linter.unusedVariables false
set_option linter.unusedSimpArgs false
theorem goes_32 (l : List UInt8) : goesB (32 :: l) = false := by
  have e : (32 : UInt8).toNat = 32 := rfl
  have d : dec (32 :: l) = (32, 1) := by
    unfold dec decR
    rw [byt0, e, if_neg (by simp), if_pos (by omega)]
  rw [goesB, d]
  decide
theorem scanX_ev (s : ByteArray) (hs : s.size < 100000) : Evn (fun k => value_Scan.f k s) (scanX s) := Evn.of 1000000 (fun k hk => scan_x s hs k hk)
theorem ext1 (c : UInt8) (l : List UInt8) : (bl (c :: l)).extract 1 (bl (c :: l)).size = bl l := bl_ext (by
  rw [Lib.extract_data, bl_size, bl_list, List.length_cons, Nat.add_sub_cancel]
  show List.take l.length l = l
  rw [List.take_length])
theorem ext_j (s : ByteArray) (j : Nat) (r : List UInt8) (h : s.data.toList.drop j = r) : s.extract j s.size = bl r := bl_ext (by rw [U8.extract_toList, h])
theorem linesE_head (l : List Att) : linesE l = [] ∨ ∃ t, linesE l = 32 :: t := by
  cases l with
  | nil => exact .inl rfl
  | cons x l => exact .inr ⟨_, linesE_cons x l⟩
theorem attrs_fwd : ∀ (l acc : List Att), l ≠ [] → (∀ x ∈ l, simpleB x.f0 = true ∧ okV x.f1.f0 x.f1.f1 x.f1.f2) → acc.length + l.length ≤ 24 → (linesE l).length < 90000 → Evn (fun k => event_attrs.l0 k (bl (linesE l)) acc) (acc ++ l)
  | [], acc, h, _, _, _ => absurd rfl h
  | x :: l, acc, _, ho, hl, hz => by
    have hx := ho x List.mem_cons_self
    have hf := simple_form x.f0 hx.1
    obtain ⟨hne, _, _⟩ := formed_valid x.f0 hf
    have h61 := no61 x.f0 hf
    have hl' : acc.length + (l.length + 1) ≤ 24 := hl
    have e := linesE_cons x l
    have e' : linesE (x :: l) = (32 :: x.f0.data.toList) ++ 61 :: (showL x.f1.f0 x.f1.f1 x.f1.f2 ++ linesE l) := e
    have n61 : (61 : UInt8) ∉ 32 :: x.f0.data.toList := fun h => by
      rcases List.mem_cons.1 h with h | h
      · exact absurd h (by decide)
      · exact h61 h
    rw [e'] at hz ⊢
    have hz2 : (showL x.f1.f0 x.f1.f1 x.f1.f2 ++ linesE l).length < 90000 := by
      rw [List.length_append, List.length_cons (a := (61 : UInt8))] at hz; omega
    have hz3 : (linesE l).length < 90000 := by rw [List.length_append] at hz2; omega
    have hcut := cutq_at 61 (32 :: x.f0.data.toList) (showL x.f1.f0 x.f1.f1 x.f1.f2 ++ linesE l) (by omega) n61
    have hsz : ((bl (32 :: x.f0.data.toList)).size : Int) = (x.f0.size : Int) + 1 := by rw [bl_size, List.length_cons, ← size_len]; rfl
    obtain ⟨j, j1, j2, j3⟩ := scan_fwd (bl (showL x.f1.f0 x.f1.f1 x.f1.f2 ++ linesE l)) (by rw [bl_size]; omega) x.f1.f0 x.f1.f1 x.f1.f2 hx.2 (linesE l)
      (by rcases linesE_head l with h | ⟨t, h⟩
          · rw [h]; rfl
          · rw [h]; exact dg_neg 32 _ (by decide))
      (by rcases linesE_head l with h | ⟨t, h⟩
          · rw [h]; rfl
          · rw [h]; exact goes_32 _) rfl
    have hsc := scanX_ev (bl (showL x.f1.f0 x.f1.f1 x.f1.f2 ++ linesE l)) (by rw [bl_size]; omega)
    rw [j3, ext_j _ j _ j1] at hsc
    have hbt : (bt (bl (32 :: x.f0.data.toList)) 0 != 32) = false := rfl
    refine Evn.step (fun k => event_attrs.l0.eq_2 ..) (Evn.pos (by omega) (Evn.bc hcut (Evn.pos rfl (Evn.neg (by rw [hsz]; omega) (Evn.pos (by rw [hsz]; omega) ?_)))))
    rw [hbt]
    refine Evn.step (fun k => event_attrs.j1.eq_2 ..) (Evn.neg (by decide) (Evn.bind hsc (Evn.pos rfl ?_)))
    have hone : 1 ≤ ((bl (32 :: x.f0.data.toList)).size : Int) := by rw [hsz]; omega
    have e9 : (⟨(bl (32 :: x.f0.data.toList)).extract 1 (bl (32 :: x.f0.data.toList)).size, ⟨x.f1.f0, x.f1.f1, x.f1.f2⟩⟩ : Att) = x := by
      rw [ext1, bl_eta]
    by_cases h0 : l = []
    · subst h0
      refine Evn.pos (by show (bl (linesE [])).toList = []; rw [bl_toList]; rfl) (Evn.pos hone (Evn.pos (by omega) ?_))
      rw [e9]
      exact Evn.ret _
    · have hn : ¬ (bl (linesE l)).toList = [] := by
        obtain ⟨y, l', rfl⟩ : ∃ y l', l = y :: l' := by
          cases l with
          | nil => exact absurd rfl h0
          | cons y l' => exact ⟨y, l', rfl⟩
        rw [bl_toList, linesE_cons]
        exact List.cons_ne_nil _ _
      have ih := attrs_fwd l (acc ++ [x]) h0 (fun y hy => ho y (List.mem_cons_of_mem _ hy)) (by rw [List.length_append]; show acc.length + 1 + l.length ≤ 24; omega) hz3
      rw [List.append_assoc] at ih
      refine Evn.neg hn (Evn.pos hone (Evn.pos (by omega) ?_))
      rw [e9]
      exact ih
theorem cut_le (c : UInt8) (s : List UInt8) : (Lib.cut s [c]).1.length ≤ s.length ∧ (Lib.cut s [c]).2.1.length ≤ s.length := by
  rcases first_c c s with h | ⟨a, b, rfl, h⟩
  · rw [cut_no c s h]; exact ⟨Nat.le_refl _, Nat.zero_le _⟩
  · rw [cut_at c a b h, List.length_append, List.length_cons]
    show a.length ≤ _ ∧ b.length ≤ _
    exact ⟨by omega, by omega⟩
theorem attrs_ev : ∀ (m : Nat) (acc : List Att) (s : ByteArray), acc.length + m = 25 → s.size ≤ 3000 → (∀ x ∈ acc, x.f0.size ≤ 3000) →
    ∃ r, Evn (fun k => event_attrs.l0 k s acc) r ∧ r.length ≤ 25 ∧ ∀ x ∈ r, x.f0.size ≤ 3000
  | 0, acc, s, hm, hs, ha => ⟨acc, Evn.step (fun k => event_attrs.l0.eq_2 ..) (Evn.neg (by omega) (Evn.ret _)), by omega, ha⟩
  | m + 1, acc, s, hm, hs, ha => by
    have hcut := cutq 61 s.data.toList (by rw [← size_len]; omega)
    obtain ⟨c1, c2⟩ := cut_le 61 s.data.toList
    rw [bl_eta] at hcut
    rw [← size_len] at c1 c2
    generalize Lib.cut s.data.toList [61] = cc at hcut c1 c2
    obtain ⟨a, b, is⟩ := cc
    replace c1 : a.length ≤ s.size := c1
    replace c2 : b.length ≤ s.size := c2
    have stop : ∀ B : Bool, B = true → Evn (fun k => event_attrs.j1 k acc (bl a) (bl b) B) acc := fun B hB => by
      subst hB
      exact Evn.step (fun k => event_attrs.j1.eq_2 ..) (Evn.pos rfl (Evn.ret _))
    have done : ∃ r, Evn (fun _ : Nat => some acc) r ∧ r.length ≤ 25 ∧ ∀ x ∈ r, x.f0.size ≤ 3000 := ⟨acc, Evn.ret _, by omega, ha⟩
    have step : ∀ r, Evn (fun k => if is = true then (if ((bl a).size : Int) < 2 then (event_attrs.j1 k acc (bl a) (bl b) true) else (if 0 < ((bl a).size : Int) then (event_attrs.j1 k acc (bl a) (bl b) ((bt (bl a) 0) != 32)) else (none))) else (event_attrs.j1 k acc (bl a) (bl b) true)) r → Evn (fun k => event_attrs.l0 k s acc) r :=
      fun r hr => Evn.step (fun k => event_attrs.l0.eq_2 ..) (Evn.pos (by omega) (Evn.bc hcut hr))
    by_cases his : is = true
    · by_cases h2 : ((bl a).size : Int) < 2
      · exact ⟨acc, step _ (Evn.pos his (Evn.pos h2 (stop true rfl))), by omega, ha⟩
      · cases hb : ((bt (bl a) 0) != 32) with
        | true => exact ⟨acc, step _ (Evn.pos his (Evn.neg h2 (Evn.pos (by omega) (stop _ hb)))), by omega, ha⟩
        | false =>
          have hsc := scanX_ev (bl b) (by rw [bl_size]; omega)
          have hback := fun K N S rest h => scan_back (bl b) (by rw [bl_size]; omega) K N S rest h
          generalize scanX (bl b) = sc at hsc hback
          obtain ⟨K, N, S, rest, e⟩ := sc
          have sf : ∀ r, Evn (fun k => if e = 0 then (if rest.toList = ([] : List UInt8) then (if 1 ≤ ((bl a).size : Int) then (if acc.length < 2932031007402 then (some (acc ++ [(⟨(bl a).extract 1 (bl a).size, ⟨K, N, S⟩⟩ : Att)])) else (none)) else (none)) else (if 1 ≤ ((bl a).size : Int) then (if acc.length < 2932031007402 then (event_attrs.l0 k rest (acc ++ [(⟨(bl a).extract 1 (bl a).size, ⟨K, N, S⟩⟩ : Att)])) else (none)) else (none))) else (some acc)) r → Evn (fun k => event_attrs.l0 k s acc) r := fun r hr => by
            refine step _ (Evn.pos his (Evn.neg h2 (Evn.pos (by omega) ?_)))
            rw [hb]
            exact Evn.step (fun k => event_attrs.j1.eq_2 ..) (Evn.neg (by decide) (Evn.bind hsc hr))
          by_cases he : e = 0
          · subst he
            have hbk := (hback K N S rest rfl).2
            have hrs : rest.size ≤ s.size := by
              have := congrArg List.length hbk
              rw [List.length_append, ← size_len, ← size_len, bl_size] at this
              omega
            have hacc : ∀ x ∈ acc ++ [(⟨(bl a).extract 1 (bl a).size, ⟨K, N, S⟩⟩ : Att)], x.f0.size ≤ 3000 := by
              intro x hx
              rcases List.mem_append.1 hx with hx | hx
              · exact ha x hx
              · rw [List.mem_singleton.1 hx]
                show ((bl a).extract 1 (bl a).size).size ≤ 3000
                rw [size_len, U8.extract_toList, List.length_drop, bl_list]; omega
            have hlen : (acc ++ [(⟨(bl a).extract 1 (bl a).size, ⟨K, N, S⟩⟩ : Att)]).length = acc.length + 1 := by rw [List.length_append]; rfl
            by_cases h0 : rest.toList = []
            · exact ⟨_, sf _ (Evn.pos rfl (Evn.pos h0 (Evn.pos (by omega) (Evn.pos (by omega) (Evn.ret _))))), by rw [hlen]; omega, hacc⟩
            · obtain ⟨r, r1, r2, r3⟩ := attrs_ev m _ rest (by rw [hlen]; omega) (by omega) hacc
              exact ⟨r, sf _ (Evn.pos rfl (Evn.neg h0 (Evn.pos (by omega) (Evn.pos (by omega) r1)))), r2, r3⟩
          · exact ⟨acc, sf _ (Evn.neg he (Evn.ret _)), by omega, ha⟩
    · exact ⟨acc, step _ (Evn.neg his (stop true rfl)), by omega, ha⟩
theorem parseE_fwd (n0 n1 n2 : Int) (ty : ByteArray) (l : List Att) (h : checkE n0 n1 n2 ty l = true) (ht : ty.size ≤ 200) (hs : ∀ x ∈ l, x.f0.size ≤ 200) : Evn (fun k => event_Parse.f k (showE n0 n1 n2 ty l)) (n0, n1, n2, ty, l, 0) := by
  obtain ⟨h1, h2, h3⟩ := (checkE_iff ..).1 h
  obtain ⟨ha, h24⟩ := checkA_all l h3
  obtain ⟨l1, l2⟩ := idL_len _ _ _ h1
  have hlen := linesE_len l 200 (fun x hx => (ha x hx).2) hs
  have es : showE n0 n1 n2 ty l = bl (evL n0 n1 n2 ty l) := by unfold showE; rw [if_pos h]
  have hshow := showE_ev n0 n1 n2 ty l (by omega) (fun x hx => by have := hs x hx; omega) (by omega)
  have n32 : (32 : UInt8) ∉ idL n0 n1 n2 := by
    unfold idL
    intro hm
    rcases List.mem_append.1 hm with hm | hm
    · exact not32 _ hm
    rcases List.mem_cons.1 hm with hm | hm
    · exact absurd hm (by decide)
    rcases List.mem_append.1 hm with hm | hm
    · exact not32 _ hm
    rcases List.mem_cons.1 hm with hm | hm
    · exact absurd hm (by decide)
    · exact not32 _ hm
  have t32 := no32 ty (check0 ty h2)
  have hid := parseId_fwd n0 n1 n2 h1
  have eid : showId n0 n1 n2 = bl (idL n0 n1 n2) := by unfold showId; rw [if_pos h1]
  have hE : (evL n0 n1 n2 ty l).length ≤ 60000 := by
    unfold evL
    rw [List.length_append, List.length_cons, List.length_append, ← size_len]; omega
  have hne : ¬ (showE n0 n1 n2 ty l).toList = [] := by
    rw [es, bl_toList]
    unfold evL
    intro hh
    have := congrArg List.length hh
    rw [List.length_append, List.length_cons] at this
    have e0 : ([] : List UInt8).length = 0 := rfl
    omega
  have c1 := cutq_at 32 (idL n0 n1 n2) (ty.data.toList ++ linesE l) (by unfold evL at hE; omega) n32
  rw [eid] at hid
  have e0 : (idL n0 n1 n2 ++ 32 :: (ty.data.toList ++ linesE l)) = evL n0 n1 n2 ty l := rfl
  rw [e0, ← es] at c1
  have hz2 : (ty.data.toList ++ linesE l).length < 60000 := by
    unfold evL at hE
    rw [List.length_append, List.length_cons] at hE; omega
  refine Evn.bc c1 (Evn.bind hid (Evn.pos rfl ?_))
  by_cases h0 : l = []
  · subst h0
    have e9 : ty.data.toList ++ linesE [] = ty.data.toList := List.append_nil _
    have c2 := cutq_no 32 ty.data.toList (by rw [← size_len]; omega) t32
    rw [e9]
    exact Evn.bc c2 (Evn.neg (by show ¬ (false = true); decide) (Evn.neg hne (Evn.bind (by rw [bl_eta]; exact hshow) (Evn.pos rfl (by rw [bl_eta]; exact Evn.ret _)))))
  · obtain ⟨t, et⟩ : ∃ t, linesE l = 32 :: t := by
      rcases linesE_head l with hh | hh
      · cases l with
        | nil => exact absurd rfl h0
        | cons x l => rw [linesE_cons] at hh; cases hh
      · exact hh
    have c2 := cutq_at 32 ty.data.toList t (by rw [← et]; omega) t32
    rw [← et] at c2
    have hat := attrs_fwd l [] h0 ha (by show 0 + l.length ≤ 24; omega) (by omega)
    have ex : (bl (ty.data.toList ++ linesE l)).extract (((bl ty.data.toList).size : Int) : Int).toNat (bl (ty.data.toList ++ linesE l)).size = bl (linesE l) := by
      rw [Int.toNat_natCast]
      exact ext_j _ _ _ (by rw [bl_list, bl_size, List.drop_left])
    refine Evn.bc c2 (Evn.pos rfl (Evn.pos (Int.natCast_nonneg _) (Evn.pos (by rw [bl_size, bl_size, List.length_append]; omega) (Evn.bind (u := l) ?_ (Evn.neg hne (Evn.bind (by rw [bl_eta]; exact hshow) (Evn.pos rfl (by rw [bl_eta]; exact Evn.ret _))))))))
    show Evn (fun k => event_attrs.f k ((bl (ty.data.toList ++ linesE l)).extract (((bl ty.data.toList).size : Int) : Int).toNat (bl (ty.data.toList ++ linesE l)).size)) l
    rw [ex]
    exact hat
theorem parseE_ev (s : ByteArray) (hs : s.size ≤ 3000) : ∃ n0 n1 n2 ty l e, Evn (fun k => event_Parse.f k s) (n0, n1, n2, ty, l, e) ∧ (e = 0 → showE n0 n1 n2 ty l = s) ∧ (∀ x ∈ l, x.f0.size ≤ 3000) ∧ l.length ≤ 25 ∧ ty.size ≤ 3000 := by
  have c1 := cutq 32 s.data.toList (by rw [← size_len]; omega)
  obtain ⟨z1, z2⟩ := cut_le 32 s.data.toList
  rw [bl_eta] at c1
  rw [← size_len] at z1 z2
  generalize Lib.cut s.data.toList [32] = cc at c1 z1 z2
  obtain ⟨h, r, b⟩ := cc
  replace z1 : h.length ≤ s.size := z1
  replace z2 : r.length ≤ s.size := z2
  obtain ⟨m0, m1, m2, e, hid, he⟩ := parseId_ev (bl h) (by rw [bl_size]; omega)
  by_cases e0 : e = 0
  case neg => exact ⟨0, 0, 0, ⟨#[]⟩, [], e, Evn.bc c1 (Evn.bind hid (Evn.neg e0 (Evn.ret _))), fun h => absurd h e0, (fun x hx => by cases hx), Nat.zero_le _, Nat.zero_le _⟩
  subst e0
  have c2 := cutq 32 r (by omega)
  obtain ⟨y1, y2⟩ := cut_le 32 r
  generalize Lib.cut r [32] = cc at c2 y1 y2
  obtain ⟨ty, r2, more⟩ := cc
  replace y1 : ty.length ≤ r.length := y1
  replace y2 : r2.length ≤ r.length := y2
  have zt : (bl ty).size ≤ 3000 := by rw [bl_size]; omega
  have bad : ∀ (g : Nat → Option (Int × Int × Int × ByteArray × List Att × Int)), Evn (fun k => event_Parse.f k s) (0, 0, 0, ⟨#[]⟩, [], 3) → ∃ n0 n1 n2 ty l e, Evn (fun k => event_Parse.f k s) (n0, n1, n2, ty, l, e) ∧ (e = 0 → showE n0 n1 n2 ty l = s) ∧ (∀ x ∈ l, x.f0.size ≤ 3000) ∧ l.length ≤ 25 ∧ ty.size ≤ 3000 :=
    fun _ hh => ⟨0, 0, 0, ⟨#[]⟩, [], 3, hh, fun h => absurd h (by decide), (fun x hx => by cases hx), Nat.zero_le _, Nat.zero_le _⟩
  by_cases hm : more = true
  · have hc1 : ((bl ty).size : Int) ≤ ((bl r).size : Int) := by rw [bl_size, bl_size]; omega
    obtain ⟨l, a1, a2, a3⟩ := attrs_ev 25 [] ((bl r).extract (((bl ty).size : Int) : Int).toNat (bl r).size) rfl (by rw [size_len, U8.extract_toList, List.length_drop, bl_list]; omega) (fun x hx => by cases hx)
    have hshow := showE_ev m0 m1 m2 (bl ty) l (by omega) (fun x hx => by have := a3 x hx; omega) (by omega)
    by_cases hs0 : s.toList = []
    · exact bad (fun _ => none) (Evn.bc c1 (Evn.bind hid (Evn.pos rfl (Evn.bc c2 (Evn.pos hm (Evn.pos (Int.natCast_nonneg _) (Evn.pos hc1 (Evn.bind a1 (Evn.pos hs0 (Evn.ret _))))))))))
    by_cases hq : (showE m0 m1 m2 (bl ty) l).toList = s.toList
    · refine ⟨m0, m1, m2, bl ty, l, 0, Evn.bc c1 (Evn.bind hid (Evn.pos rfl (Evn.bc c2 (Evn.pos hm (Evn.pos (Int.natCast_nonneg _) (Evn.pos hc1 (Evn.bind a1 (Evn.neg hs0 (Evn.bind hshow (Evn.pos hq (Evn.ret _))))))))))), fun _ => ?_, a3, a2, zt⟩
      rw [bl_eta2, bl_eta2] at hq
      exact bl_ext hq
    · exact bad (fun _ => none) (Evn.bc c1 (Evn.bind hid (Evn.pos rfl (Evn.bc c2 (Evn.pos hm (Evn.pos (Int.natCast_nonneg _) (Evn.pos hc1 (Evn.bind a1 (Evn.neg hs0 (Evn.bind hshow (Evn.neg hq (Evn.ret _))))))))))))
  · have hshow := showE_ev m0 m1 m2 (bl ty) [] (by omega) (fun x hx => by cases hx) (Nat.zero_lt_succ _)
    by_cases hs0 : s.toList = []
    · exact bad (fun _ => none) (Evn.bc c1 (Evn.bind hid (Evn.pos rfl (Evn.bc c2 (Evn.neg hm (Evn.pos hs0 (Evn.ret _)))))))
    by_cases hq : (showE m0 m1 m2 (bl ty) []).toList = s.toList
    · refine ⟨m0, m1, m2, bl ty, [], 0, Evn.bc c1 (Evn.bind hid (Evn.pos rfl (Evn.bc c2 (Evn.neg hm (Evn.neg hs0 (Evn.bind hshow (Evn.pos hq (Evn.ret _)))))))), fun _ => ?_, (fun x hx => by cases hx), Nat.zero_le _, zt⟩
      rw [bl_eta2, bl_eta2] at hq
      exact bl_ext hq
    · exact bad (fun _ => none) (Evn.bc c1 (Evn.bind hid (Evn.pos rfl (Evn.bc c2 (Evn.neg hm (Evn.neg hs0 (Evn.bind hshow (Evn.neg hq (Evn.ret _)))))))))
end Go.Proofs.YtkdndabpaajkaaaGreatDoor.U8
namespace Go.Proofs.YtkdndabpaajkaaaGreatDoor.U8
open Go.RowKit Go.Proofs.YtkdndabpaajkaaaGreatDoor.A Go.Proofs.YtkdndabpaajkaaaGreatDoorW.PrintWords Go.Proofs.YtkdndabpaajkaaaGreatDoorW.PrintLast Go.Lib
set_option linter.unusedVariables false
set_option linter.unusedSimpArgs false
def itemsE (n0 n1 n2 : Int) (ty : ByteArray) : List Itm := [⟨1, n0, ⟨#[]⟩⟩, ⟨1, n1, ⟨#[]⟩⟩, ⟨1, n2, ⟨#[]⟩⟩, ⟨4, 0, ty⟩]
def textEL (n0 n1 n2 : Int) (ty : ByteArray) (l : List Att) : List UInt8 := rowL (itemsE n0 n1 n2 ty) ++ attrsT l
def textE (n0 n1 n2 : Int) (ty : ByteArray) (l : List Att) : ByteArray := if checkE n0 n1 n2 ty l = true then bl (textEL n0 n1 n2 ty l) else bl []
theorem itemsE_ok (n0 n1 n2 : Int) (ty : ByteArray) (h : okId n0 n1 n2 = true) (ht : ty.size ≤ 65536) : ∀ x ∈ itemsE n0 n1 n2 ty, okI x := by
  obtain ⟨h1, h2, h3, h4⟩ := (okId_iff ..).1 h
  intro x hx
  unfold itemsE at hx
  rcases List.mem_cons.1 hx with rfl | hx
  · exact .inl ⟨rfl, by show 0 ≤ n0; omega, by show n0 ≤ _; omega, rfl⟩
  rcases List.mem_cons.1 hx with rfl | hx
  · exact .inl ⟨rfl, by show 0 ≤ n1; omega, by show n1 ≤ _; omega, rfl⟩
  rcases List.mem_cons.1 hx with rfl | hx
  · exact .inl ⟨rfl, by show 0 ≤ n2; omega, by show n2 ≤ _; omega, rfl⟩
  · rw [List.mem_singleton.1 hx]
    exact .inr (.inr ⟨rfl, rfl, ht⟩)
theorem itemsE_len (n0 n1 n2 : Int) (ty : ByteArray) : (rowL (itemsE n0 n1 n2 ty)).length ≤ 32 + ty.size := by
  have e : rowL (itemsE n0 n1 n2 ty) = encN n0.toNat ++ (encN n1.toNat ++ (encN n2.toNat ++ ((encN ty.size ++ ty.data.toList) ++ []))) := rfl
  have a := szOf_pos n0.toNat
  have b := szOf_pos n1.toNat
  have c := szOf_pos n2.toNat
  have d := szOf_pos ty.size
  rw [e, List.length_append, List.length_append, List.length_append, List.length_append, List.length_append, encN_len, encN_len, encN_len, encN_len, ← size_len]
  show _ + (_ + (_ + (_ + 0))) ≤ _
  omega
theorem textE_ev (n0 n1 n2 : Int) (ty : ByteArray) (l : List Att) (ht : ty.size < 20000) (hs : ∀ x ∈ l, x.f0.size < 20000) (hl : l.length < 100000) : Evn (fun k => event_Text.f k n0 n1 n2 ty l) (textE n0 n1 n2 ty l) := by
  refine Evn.bind (checkE_ev n0 n1 n2 ty l ht hs hl) ?_
  unfold textE
  by_cases h : checkE n0 n1 n2 ty l = true
  · obtain ⟨h1, h2, h3⟩ := (checkE_iff ..).1 h
    have hb := attrB_len l hs h3
    have ha : attrB l = bl (attrsT l) := by unfold attrB; rw [if_pos h3]
    have hr := itemsE_len n0 n1 n2 ty
    rw [if_pos h]
    refine Evn.pos h (Evn.bind (put_ev (itemsE n0 n1 n2 ty) (itemsE_ok _ _ _ _ h1 (by omega)) (by show 4 ≤ 4096; omega)) (Evn.bind (attrText_q l hs hl) ?_))
    rw [ha]
    refine Evn.pos (by show (rowL (itemsE n0 n1 n2 ty)).length + (attrsT l).length ≤ _; omega) (Evn.con ?_)
    show some (bl _ ++ bl _) = _
    rw [bl_app]; rfl
  · rw [if_neg h]
    exact Evn.neg h (Evn.ret _)
theorem q1114 : ∀ q ∈ ([1, 1, 1, 4] : List Int), q134 q := by
  intro q hq
  unfold q134
  simp only [List.mem_cons, List.not_mem_nil, or_false] at hq
  omega
theorem att_small (L : List Att) (s : ByteArray) (rest : ByteArray) (h : s.data.toList = attrsT L ++ rest.data.toList) : ∀ x ∈ L, x.f0.size ≤ s.size := by
  intro x hx
  have h1 := congrArg List.length h
  unfold attrsT at h1
  rw [List.length_append, List.length_append, ← size_len, ← size_len] at h1
  have key : ∀ m : List Att, x ∈ m → x.f0.size ≤ (encAs m).length := by
    intro m
    induction m with
    | nil => intro h; cases h
    | cons y m ih =>
      intro hm
      have e : encAs (y :: m) = encA y ++ encAs m := rfl
      rw [e, List.length_append]
      rcases List.mem_cons.1 hm with rfl | hm
      · unfold encA
        rw [List.length_append, List.length_append, ← size_len]; omega
      · have := ih hm; omega
  have := key L hx
  omega
theorem row4 (l : List Itm) (h : l.map (·.f0) = [1, 1, 1, 4]) (ho : ∀ x ∈ l, okI x) :
    l = itemsE (rd_T147 l 0).f1 (rd_T147 l 1).f1 (rd_T147 l 2).f1 (rd_T147 l 3).f2 ∧ (rd_T147 l 3).f2.size ≤ 65536 := by
  have hlen : l.length = 4 := by rw [← List.length_map (f := fun x : Itm => x.f0), h]; rfl
  obtain ⟨a, b, c, d, rfl⟩ : ∃ a b c d, l = [a, b, c, d] := by
    match l, hlen with
    | [a, b, c, d], _ => exact ⟨a, b, c, d, rfl⟩
  simp only [List.map_cons, List.map_nil, List.cons.injEq, and_true] at h
  obtain ⟨ha, hb, hc, hd⟩ := h
  have oa := ho a (by simp)
  have ob := ho b (by simp)
  have oc := ho c (by simp)
  have od := ho d (by simp)
  unfold okI at oa ob oc od
  have ea : a = ⟨1, a.f1, ⟨#[]⟩⟩ := by
    rcases oa with ⟨x1, x2, x3, x4⟩ | ⟨x1, _⟩ | ⟨x1, _⟩
    · obtain ⟨u, v, w⟩ := a; simp only at ha x4; rw [ha, x4]
    · rw [ha] at x1; exact absurd x1 (by decide)
    · rw [ha] at x1; exact absurd x1 (by decide)
  have eb : b = ⟨1, b.f1, ⟨#[]⟩⟩ := by
    rcases ob with ⟨x1, x2, x3, x4⟩ | ⟨x1, _⟩ | ⟨x1, _⟩
    · obtain ⟨u, v, w⟩ := b; simp only at hb x4; rw [hb, x4]
    · rw [hb] at x1; exact absurd x1 (by decide)
    · rw [hb] at x1; exact absurd x1 (by decide)
  have ec : c = ⟨1, c.f1, ⟨#[]⟩⟩ := by
    rcases oc with ⟨x1, x2, x3, x4⟩ | ⟨x1, _⟩ | ⟨x1, _⟩
    · obtain ⟨u, v, w⟩ := c; simp only at hc x4; rw [hc, x4]
    · rw [hc] at x1; exact absurd x1 (by decide)
    · rw [hc] at x1; exact absurd x1 (by decide)
  have ed : d = ⟨4, 0, d.f2⟩ ∧ d.f2.size ≤ 65536 := by
    rcases od with ⟨x1, _⟩ | ⟨x1, _⟩ | ⟨x1, x2, x3⟩
    · rw [hd] at x1; exact absurd x1 (by decide)
    · rw [hd] at x1; exact absurd x1 (by decide)
    · refine ⟨?_, x3⟩
      obtain ⟨u, v, w⟩ := d; simp only at hd x2; rw [hd, x2]
  refine ⟨?_, ed.2⟩
  show [a, b, c, d] = [⟨1, a.f1, ⟨#[]⟩⟩, ⟨1, b.f1, ⟨#[]⟩⟩, ⟨1, c.f1, ⟨#[]⟩⟩, ⟨4, 0, d.f2⟩]
  rw [← ea, ← eb, ← ec, ← ed.1]
theorem readE_fwd (n0 n1 n2 : Int) (ty : ByteArray) (l : List Att) (h : checkE n0 n1 n2 ty l = true) (ht : ty.size ≤ 200) (hs : ∀ x ∈ l, x.f0.size ≤ 200) (s : ByteArray) (hz : s.size ≤ 3000) :
    Evn (fun k => event_Read.f k (textE n0 n1 n2 ty l ++ s)) (n0, n1, n2, ty, l, s, 0) ∧ (textE n0 n1 n2 ty l).size ≤ 20000 := by
  obtain ⟨h1, h2, h3⟩ := (checkE_iff ..).1 h
  obtain ⟨ha, h24⟩ := checkA_all l h3
  have hs2 : ∀ x ∈ l, x.f0.size < 20000 := fun x hx => by have := hs x hx; omega
  have hA : (attrsT l).length ≤ 14424 := by
    have key : ∀ m : List Att, (∀ x ∈ m, x.f0.size ≤ 200 ∧ okV x.f1.f0 x.f1.f1 x.f1.f2) → (encAs m).length ≤ 600 * m.length := by
      intro m
      induction m with
      | nil => intro _; exact Nat.le_refl _
      | cons x m ih =>
        intro hm
        have i1 := ih (fun y hy => hm y (List.mem_cons_of_mem _ hy))
        obtain ⟨i2, i3⟩ := hm x List.mem_cons_self
        have i4 := szOf_pos x.f0.size
        have i5 := textL_len _ _ _ i3
        have e : encAs (x :: m) = encA x ++ encAs m := rfl
        rw [e, List.length_append, List.length_cons]
        unfold encA
        rw [List.length_append, List.length_append, encN_len, ← size_len]
        omega
    have k := key l (fun x hx => ⟨hs x hx, (ha x hx).2⟩)
    have k2 := szOf_pos l.length
    unfold attrsT
    rw [List.length_append, encN_len]; omega
  have hr := itemsE_len n0 n1 n2 ty
  have e : textE n0 n1 n2 ty l ++ s = bl (rowL (itemsE n0 n1 n2 ty) ++ (attrsT l ++ s.data.toList)) := by
    unfold textE
    rw [if_pos h, bl_appl]
    unfold textEL
    rw [List.append_assoc]
  have z : (bl (attrsT l ++ s.data.toList)).size < 19000 := by rw [bl_size, List.length_append, ← size_len]; omega
  have hsz : (textE n0 n1 n2 ty l).size ≤ 20000 := by
    unfold textE
    rw [if_pos h, bl_size]
    unfold textEL
    rw [List.length_append]; omega
  refine ⟨?_, hsz⟩
  have hf := takeR_fwd (itemsE n0 n1 n2 ty) [] (attrsT l ++ s.data.toList) (itemsE_ok _ _ _ _ h1 (by omega))
  have hq : (itemsE n0 n1 n2 ty).map (·.f0) = [1, 1, 1, 4] := rfl
  rw [hq, ← e, List.nil_append] at hf
  have ht2 := takeR_ev (textE n0 n1 n2 ty l ++ s) (by rw [ByteArray.size_append]; omega) [1, 1, 1, 4] q1114 (by decide)
  rw [hf] at ht2
  have hrd := readA_fwd l h3 hs2 s.data.toList
  rw [bl_eta] at hrd
  have hA2 := attrsRead_w (bl (attrsT l ++ s.data.toList)) z
  rw [hrd] at hA2
  exact Evn.bind ht2 (Evn.pos rfl (Evn.pos (by show (0 : Int) < 4; omega) (Evn.pos (by show (1 : Int) < 4; omega) (Evn.pos (by show (2 : Int) < 4; omega) (Evn.pos (by show (3 : Int) < 4; omega) (Evn.bind hA2 (Evn.pos rfl (Evn.bind (checkE_ev n0 n1 n2 ty l (by omega) hs2 (by omega)) (Evn.pos h (Evn.ret _))))))))))
theorem readE_ev (s : ByteArray) (hs : s.size ≤ 3000) : ∃ n0 n1 n2 ty l rest e, Evn (fun k => event_Read.f k s) (n0, n1, n2, ty, l, rest, e) ∧ (e = 0 → checkE n0 n1 n2 ty l = true ∧ s.data.toList = textEL n0 n1 n2 ty l ++ rest.data.toList) ∧ (∀ x ∈ l, x.f0.size ≤ 3000) ∧ l.length ≤ 25 ∧ ty.size ≤ 3000 := by
  have ht := takeR_ev s (by omega) [1, 1, 1, 4] q1114 (by decide)
  have hback := fun row rest (h : takeR [1, 1, 1, 4] [] s = (row, rest, 0)) => takeR_back [1, 1, 1, 4] [] s row rest q1114 h
  generalize takeR [1, 1, 1, 4] [] s = T at ht hback
  obtain ⟨row, rest, e⟩ := T
  by_cases h0 : e = 0
  case neg => exact ⟨0, 0, 0, ⟨#[]⟩, [], ⟨#[]⟩, e, Evn.bind ht (Evn.neg h0 (Evn.ret _)), fun h => absurd h h0, (fun x hx => by cases hx), Nat.zero_le _, Nat.zero_le _⟩
  subst h0
  obtain ⟨l0, e1, e2, e3, e4⟩ := hback row rest rfl
  rw [List.nil_append] at e1
  subst e1
  have hlen : row.length = 4 := by rw [← List.length_map (f := fun x : Itm => x.f0), e2]; rfl
  obtain ⟨r1, r2⟩ := row4 row e2 e3
  have hsz := (size_of_app _ _ _ e4).1
  have hA := attrsRead_w rest (by omega)
  have hAb := fun L r (h : readA rest = (L, r, 0)) => readA_back rest L r h
  generalize readA rest = R at hA hAb
  obtain ⟨L, r, f⟩ := R
  have go : ∀ v, Evn (fun k => if f = 0 then ((event_Check.f k ((rd_T147 row 0).f1) ((rd_T147 row 1).f1) ((rd_T147 row 2).f1) ((rd_T147 row 3).f2) L).bind fun t440 => (if t440 = true then (some ((rd_T147 row 0).f1, (rd_T147 row 1).f1, (rd_T147 row 2).f1, (rd_T147 row 3).f2, L, r, 0)) else (some (0, 0, 0, (⟨#[]⟩ : ByteArray), ([] : List Att), (⟨#[]⟩ : ByteArray), 3)))) else (some (0, 0, 0, (⟨#[]⟩ : ByteArray), ([] : List Att), (⟨#[]⟩ : ByteArray), f))) v → Evn (fun k => event_Read.f k s) v :=
    fun v hv => Evn.bind ht (Evn.pos rfl (Evn.pos (by rw [hlen]; decide) (Evn.pos (by rw [hlen]; decide) (Evn.pos (by rw [hlen]; decide) (Evn.pos (by rw [hlen]; decide) (Evn.bind hA hv))))))
  by_cases h1 : f = 0
  case neg => exact ⟨0, 0, 0, ⟨#[]⟩, [], ⟨#[]⟩, f, go _ (Evn.neg h1 (Evn.ret _)), fun h => absurd h h1, (fun x hx => by cases hx), Nat.zero_le _, Nat.zero_le _⟩
  subst h1
  obtain ⟨k1, k2⟩ := hAb L r rfl
  have ks := att_small L rest r k2
  have ks2 : ∀ x ∈ L, x.f0.size ≤ 3000 := fun x hx => by have := ks x hx; omega
  have h24 := (checkA_all L k1).2
  have htS : (rd_T147 row 3).f2.size ≤ 3000 := by
    have h5 := congrArg List.length e4
    rw [List.length_append, r1] at h5
    have e : ∀ n0 n1 n2 ty, rowL (itemsE n0 n1 n2 ty) = encN n0.toNat ++ (encN n1.toNat ++ (encN n2.toNat ++ ((encN ty.size ++ ty.data.toList) ++ []))) := fun _ _ _ _ => rfl
    rw [e, List.length_append, List.length_append, List.length_append, List.length_append, List.length_append, ← size_len, ← size_len, ← size_len] at h5
    omega
  have hc := checkE_ev (rd_T147 row 0).f1 (rd_T147 row 1).f1 (rd_T147 row 2).f1 (rd_T147 row 3).f2 L (by omega) (fun x hx => by have := ks2 x hx; omega) (by omega)
  by_cases hk : checkE (rd_T147 row 0).f1 (rd_T147 row 1).f1 (rd_T147 row 2).f1 (rd_T147 row 3).f2 L = true
  · refine ⟨_, _, _, _, L, r, 0, go _ (Evn.pos rfl (Evn.bind hc (Evn.pos hk (Evn.ret _)))), fun _ => ⟨hk, ?_⟩, ks2, by omega, htS⟩
    unfold textEL
    rw [← r1, List.append_assoc, ← k2]
    exact e4
  · exact ⟨0, 0, 0, ⟨#[]⟩, [], ⟨#[]⟩, 3, go _ (Evn.pos rfl (Evn.bind hc (Evn.neg hk (Evn.ret _)))), fun h => absurd h (by decide), (fun x hx => by cases hx), Nat.zero_le _, Nat.zero_le _⟩
end Go.Proofs.YtkdndabpaajkaaaGreatDoor.U8
namespace Go.Proofs.YtkdndabpaajkaaaGreatDoor.U8
open Go.RowKit Go.Proofs.YtkdndabpaajkaaaGreatDoor.A Go.Proofs.YtkdndabpaajkaaaGreatDoorW.PrintWords Go.Proofs.YtkdndabpaajkaaaGreatDoorW.PrintLast Go.Lib
set_option linter.unusedVariables false
set_option maxRecDepth 100000 in
theorem awake6_true : caduceuslaw06_awake.f 80 = some true := by decide +kernel
theorem awake6 : Evn (fun k => caduceuslaw06_awake.f k) true := Evn.of 80 (fun k h => at_rounds (fun k => caduceuslaw06_awake.mono k) h awake6_true)
end Go.Proofs.YtkdndabpaajkaaaGreatDoor.U8
namespace Go.Proofs.YtkdndabpaajkaaaGreatDoor.Pure
open Go.RowKit Go.Proofs.YtkdndabpaajkaaaGreatDoor.A Go.Proofs.YtkdndabpaajkaaaGreatDoor.U8 Go.Proofs.YtkdndabpaajkaaaGreatDoorW.PrintWords Go.Proofs.YtkdndabpaajkaaaGreatDoorW.PrintLast
set_option linter.unusedVariables false
set_option linter.unusedSimpArgs false
theorem eqA_self (l : List Att) (hl : l.length < 1000000) : Evn (fun k => api_Attr_113.f k l l) true := by
  refine Evn.pos rfl ?_
  refine Evn.loop (g := fun k i => api_Attr_113.l0 k l l (l.length : Int) i) l (by omega) (fun _ => True) (fun _ _ => true) ?_ ?_ l [] rfl trivial
  · intro _ hn
    exact Evn.step (fun k => api_Attr_113.l0.eq_2 ..) (Evn.neg hn (Evn.ret _))
  · intro pre x post e _ hlt h0 hw hget hmem ih
    refine Evn.step (fun k => api_Attr_113.l0.eq_2 ..) (Evn.pos hlt (Evn.pos h0 (Evn.pos hlt (Evn.pos hlt ?_))))
    rw [hw, beq_self_eq_true, beq_self_eq_true, beq_self_eq_true, beq_self_eq_true]
    exact Evn.neg (by decide) (ih trivial)
theorem same_self (n0 n1 n2 : Int) (ty : ByteArray) (l : List Att) (hl : l.length < 1000000) : Evn (fun k => event_Same.f k n0 n1 n2 ty l n0 n1 n2 ty l) true := by
  refine Evn.pos (by rw [beq_self_eq_true, beq_self_eq_true, beq_self_eq_true]; rfl) (Evn.pos rfl (Evn.bind (u := true) ?_ (Evn.ret _)))
  exact eqA_self l hl
theorem back_j1 (s : ByteArray) (hs : s.size ≤ 3000) : Evn (fun k => caduceuslaw06_EventBack.j1 k s) true := by
  obtain ⟨n0, n1, n2, ty, l, e, p1, p2, p3, p4, p5⟩ := parseE_ev s hs
  obtain ⟨m0, m1, m2, ty', l', r, f, q1, q2, q3, q4, q5⟩ := readE_ev s hs
  have hshow := showE_ev n0 n1 n2 ty l (by omega) (fun x hx => by have := p3 x hx; omega) (by omega)
  have htext := textE_ev m0 m1 m2 ty' l' (by omega) (fun x hx => by have := q3 x hx; omega) (by omega)
  have fin : Evn (fun k => if f = 0 then ((event_Text.f k m0 m1 m2 ty' l').bind fun t496 => (if t496.size + r.size ≤ 9223372036854775807 then (some ((t496 ++ r).toList == s.toList)) else (none))) else (some true)) true := by
    by_cases hf : f = 0
    · obtain ⟨k1, k2⟩ := q2 hf
      have e1 : textE m0 m1 m2 ty' l' = bl (textEL m0 m1 m2 ty' l') := by unfold textE; rw [if_pos k1]
      have hz := size_of_app _ _ _ k2
      refine Evn.pos hf (Evn.bind htext (Evn.pos ?_ (Evn.con ?_)))
      · rw [e1, bl_size]; omega
      · have : (textE m0 m1 m2 ty' l' ++ r) = s := bl_ext (by rw [e1, ByteArray.data_append, Array.toList_append]; exact k2.symm)
        rw [this, beq_self_eq_true]
    · exact Evn.neg hf (Evn.ret _)
  refine Evn.step (fun k => caduceuslaw06_EventBack.j1.eq_2 ..) (Evn.bind p1 (Evn.bind q1 (Evn.bind awake6 (Evn.pos rfl ?_))))
  by_cases he : e = 0
  · have := p2 he
    exact Evn.pos he (Evn.bind hshow (Evn.pos (by rw [this]) fin))
  · exact Evn.neg he fin
theorem back_j0 (n0 n1 n2 : Int) (ty : ByteArray) (l : List Att) (s : ByteArray) (hs : s.size ≤ 3000) (ht : ty.size ≤ 200) (hl : l.length ≤ 41) (hx : ∀ x ∈ l, x.f0.size ≤ 200) : Evn (fun k => caduceuslaw06_EventBack.j0 k s false n0 n1 n2 ty l) true := by
  have hj := back_j1 s hs
  have hs2 : ∀ x ∈ l, x.f0.size < 20000 := fun x hx' => by have := hx x hx'; omega
  refine Evn.step (fun k => caduceuslaw06_EventBack.j0.eq_2 ..) (Evn.neg (by decide) (Evn.bind (checkE_ev n0 n1 n2 ty l (by omega) hs2 (by omega)) ?_))
  by_cases h : checkE n0 n1 n2 ty l = true
  · obtain ⟨h1, h2, h3⟩ := (checkE_iff ..).1 h
    obtain ⟨r1, r2⟩ := readE_fwd n0 n1 n2 ty l h ht hx s hs
    have sm := same_self n0 n1 n2 ty l (by omega)
    refine Evn.pos h (Evn.bind (showE_ev n0 n1 n2 ty l (by omega) hs2 (by omega)) (Evn.bind (parseE_fwd n0 n1 n2 ty l h ht hx) (Evn.bind (textE_ev n0 n1 n2 ty l (by omega) hs2 (by omega)) (Evn.pos (by omega) (Evn.bind r1 (Evn.bc (showId_q n0 n1 n2) (Evn.bind (parseId_fwd n0 n1 n2 h1) ?_)))))))
    refine Evn.pos rfl (Evn.pos rfl (Evn.pos rfl (Evn.pos rfl (Evn.bind sm (Evn.pos rfl (Evn.bind sm (Evn.pos rfl (Evn.neg ?_ hj))))))))
    rw [beq_self_eq_true, beq_self_eq_true, beq_self_eq_true]; decide
  · exact Evn.neg h hj
theorem EventBack (a0 a1 a2 : Int) (a3 : ByteArray) (l : List Att) (s : ByteArray) (hm : l.length ≤ maxLen) (hw : ∀ v ∈ l, (Lit.int .i64 v.f1.f0).wf = true ∧ (Lit.int .i64 v.f1.f1).wf = true) (hz : s.size ≤ 140737488351232) : ∃ k, caduceuslaw06_EventBack.f k a0 a1 a2 a3 l s = some true := by
  have no : Evn (fun k => caduceuslaw06_EventBack.j0 k s true a0 a1 a2 a3 l) true := Evn.step (fun k => caduceuslaw06_EventBack.j0.eq_2 ..) (Evn.pos rfl (Evn.bind awake6 (Evn.ret _)))
  have few : Evn (fun k => caduceuslaw06_Few.f k a0 a1 a2 a3 l) (decide (a3.size ≤ 200) && fewA l) := by
    by_cases h : a3.size ≤ 200
    · rw [decide_eq_true h, Bool.true_and]
      exact Evn.pos (by omega) (Evn.bind (fewA_ev l) (Evn.ret _))
    · rw [decide_eq_false h, Bool.false_and]
      exact Evn.neg (by omega) (Evn.ret _)
  refine Evn.get (g := fun k => caduceuslaw06_EventBack.f k a0 a1 a2 a3 l s) (Evn.bind few ?_)
  cases hb : (decide (a3.size ≤ 200) && fewA l) with
  | false => exact Evn.neg (by decide) no
  | true =>
    rw [Bool.and_eq_true, decide_eq_true_eq] at hb
    obtain ⟨g1, g2⟩ := fewA_true l hb.2
    refine Evn.pos rfl ?_
    by_cases hc : s.size ≤ 3000
    · rw [decide_eq_false (by omega)]
      exact back_j0 a0 a1 a2 a3 l s hc hb.1 g1 (fun x hx => (g2 x hx).1)
    · rw [decide_eq_true (by omega)]
      exact no
end Go.Proofs.YtkdndabpaajkaaaGreatDoor.Pure
