-- By drv.py, the session's own driver round the kit's print: the machine's side of the laws, function by function. Not trusted: Lean checks it.
import Derived.Test.YtbbfggfiknbdmaaDoorAx0
import Derived.Test.YtbbfggfiknbdmaaDoorAx2
namespace Go.Proofs.YtbbfggfiknbdmaaDoor.A
open Go.RowKit Go.Proofs.YtbbfggfiknbdmaaDoorW.PrintWords Go.Proofs.YtbbfggfiknbdmaaDoorW.PrintLast Go.Proofs.YtbbfggfiknbdmaaDoorW.PrintMore
attribute [local go_sem] max2_int min2_int max_two min_two max_three min_three max_four min_four   -- for this text's walks alone
set_option linter.unusedVariables false
set_option linter.unusedSimpArgs false

/-! ### name_formed: function 69, by hand -/
/-- A rune behind what was: 0: no name; 1: within a part; 2: a part is to begin. -/
def name_formed.st (k : Nat) (first : Bool) (c : Int) : Option Int :=
 if c = 46 then (if first = true then some 0 else some 2)
 else (name_Letter.f k c).bind fun t => if t = true then some 1 else if c = 95 then some 1 else if first = true then some 0 else (name_digit.f c).bind fun d => if d = true then some 1 else if c = 45 then some 1 else some 0
def name_formed.go (k : Nat) (s : ByteArray) : Nat → Nat → Bool → Option Bool
 | 0, _, _ => none
 | f + 1, pos, first => if pos < s.size then (name_formed.st k first ((Utf8.decode s pos).1 : Int)).bind fun t => if t = 0 then some false else name_formed.go k s f (pos + (Utf8.decode s pos).2) (decide (t = 2)) else some (!first)
def name_formed.f (k : Nat) (a0 : ByteArray) : Option Bool := if a0.size ≤ 1099511627776 then (if a0.toList = [] then some false else (if Lib.validD a0.data.toList = true then name_formed.go k a0 (a0.size + 1) 0 true else some false)) else none
theorem name_formed.mono_st (k : Nat) (first : Bool) (c : Int) : LeO (name_formed.st k first c) (name_formed.st (k + 1) first c) := by
 unfold name_formed.st
 repeat' first
  | (with_reducible exact LeO.refl _)
  | (with_reducible exact name_Letter.mono _ _)
  | (with_reducible refine LeO.ite ?_ ?_)
  | (with_reducible refine LeO.bind ?_ (fun _ => ?_))
theorem name_formed.mono_go (k : Nat) (s : ByteArray) : ∀ f pos first, LeO (name_formed.go k s f pos first) (name_formed.go (k + 1) s f pos first)
 | 0, _, _ => fun r h => by simp [name_formed.go] at h
 | f + 1, pos, first => by
  unfold name_formed.go
  repeat' first
   | (with_reducible exact LeO.refl _)
   | (with_reducible exact name_formed.mono_st _ _ _)
   | exact name_formed.mono_go k s f _ _
   | (with_reducible refine LeO.ite ?_ ?_)
   | (with_reducible refine LeO.bind ?_ (fun _ => ?_))
theorem name_formed.mono : ∀ a0 k, LeO (name_formed.f k a0) (name_formed.f (k + 1) a0) := by
 intro a0 k
 unfold name_formed.f
 repeat' first
  | exact name_formed.mono_go k a0 _ _ _
  | exact LeO.refl _
  | exact LeO.none _
  | refine LeO.ite ?_ ?_
set_option maxHeartbeats 8000000 in
set_option maxRecDepth 100000 in
theorem name_formed.calls (k : Nat) (a0 : ByteArray) (r : Bool) (w : World) (hT : Tabs w) (h : name_formed.f k a0 = some r) :
  Calls Tryd.prog 69 #[.string a0] w fun e w' => e = .returned (.bool r) ∧ Below w.heap.size w w' := by
 unfold name_formed.f at h
 split at h
 ·rename_i hs
  have cV := Tryd.utf8_ValidString a0 w (by omega) hT.u8
  clear hT
  by_cases h0 : a0.toList = []
  ·rw [if_pos h0] at h
   obtain rfl := Option.some.inj h
   have hb0 : a0.toList.isEmpty = true := by rw [h0]; rfl
   have hb1 : (a0.toList == ([] : List UInt8)) = true := by rw [h0]; rfl
   go_enter Tryd.func69, Tryd.ntmps69
   go_wp2_with fail
   go_ret
   exact ⟨rfl, Below.refl _ _⟩
  rw [if_neg h0] at h
  have hb0 : a0.toList.isEmpty = false := by cases hq : a0.toList with
   | nil => exact absurd hq h0
   | cons _ _ => rfl
  have hb1 : (a0.toList == ([] : List UInt8)) = false := by rw [beq_eq_false_iff_ne]; exact h0
  by_cases hv : Lib.validD a0.data.toList = true
  ·rw [if_pos hv] at h
   have H := Lib.hid h
   rw [hv] at cV
   clear h hv
   go_enter Tryd.func69, Tryd.ntmps69
   go_wp2_with (go_at_call 49; refine cV.mono ?_; rintro e w1 ⟨rfl, hb1⟩)
   go_loopw [3] (fun v3 wr => ∃ (pos fuel : Nat) (first : Bool), v3 = .bool first ∧ wr.heap[w1.heap.size]? = some (.stringIter a0 pos) ∧ Below w.heap.size w wr ∧ Hid (name_formed.go k a0 fuel pos first = some r)) (fun _ wr => a0.size - wr.iterPos w1.heap.size)
   case atStart => exact ⟨0, _, true, rfl, World.iter_heap w1 a0 0, hb1.alloc hb1.size _, H⟩
   case round =>
    obtain ⟨pos, fuel, first, rfl, hit, hbw, HG⟩ := hrel
    clear H
    have hsz : w1.heap.size < wr.heap.size := (Array.getElem?_eq_some_iff.1 hit).1
    have hsw : w.heap.size ≤ w1.heap.size := hb1.size
    cases fuel with
    | zero => exact absurd HG.out (by simp [name_formed.go])
    | succ f =>
     have hgo := HG.out
     clear HG
     unfold name_formed.go at hgo
     by_cases hp : pos < a0.size
     ·rw [if_pos hp] at hgo
      have hnx : ∀ ty, (Instr.next (.pointer (some ⟨w1.heap.size, 0, none⟩)) true ty).run Tryd.prog wr = _ := fun ty => Lib.run_next_any_at wr w1.heap.size a0 pos ty hit hp
      have Hwd := Lib.hid (Lib.width_pos a0 pos)
      have Hd1 := Lib.hid (decode_le a0 pos)
      have hit2 := Lib.iterAt_heap wr w1.heap.size a0 pos (pos + (Utf8.decode a0 pos).2) hit
      have hbw2 := Lib.below_iterAt hbw (k := w1.heap.size) hsw a0 (pos + (Utf8.decode a0 pos).2)
      obtain ⟨t, hst, hgo⟩ := Option.bind_eq_some_iff.1 hgo
      unfold name_formed.st at hst
      have hL := fun t h W => name_Letter.calls k ((Utf8.decode a0 pos).1 : Int) t W h
      have hD := fun t h W => name_digit.calls ((Utf8.decode a0 pos).1 : Int) t W h
      generalize hc : (((Utf8.decode a0 pos).1 : Nat) : Int) = c at hst hL hD hnx
      have Hc := Lib.hid hc
      clear hc
      have e00 : t = 0 → r = false := fun e => by rw [if_pos e] at hgo; exact (Option.some.inj hgo).symm
      have e10 : t ≠ 0 → name_formed.go k a0 f (pos + (Utf8.decode a0 pos).2) (decide (t = 2)) = some r := fun e => by rw [if_neg e] at hgo; exact hgo
      have E0 := Lib.hid e00
      have E1 := Lib.hid e10
      clear hgo e00 e10
      by_cases c46 : c = 46
      ·rw [if_pos c46] at hst
       have k46 : (c == 46) = true := by rw [c46]; rfl
       clear c46
       cases first with
       | true =>
        rw [if_pos rfl] at hst
        obtain rfl := Option.some.inj hst
        obtain rfl := E0.out rfl
        clear hst hL hD E0 E1 Hc
        go_wp2_with (first | fail)
        go_ret
        exact ⟨rfl, (by repeat (first | exact hbw2 | apply pw_below_drewN))⟩
       | false =>
        rw [if_neg (by decide)] at hst
        obtain rfl := Option.some.inj hst
        have HE := Lib.hid (E1.out (by decide))
        clear hst hL hD E0 E1 Hc
        go_wp2_with (first | fail)
        go_roundw
        case rel => exact ⟨_, f, _, rfl, hit2, (by repeat (first | exact hbw2 | apply pw_below_drewN)), HE⟩
        case measure =>
         have hwd := Hwd.out
         have hd1 := Hd1.out
         have hm : ∀ (X : World) n b, (X.drewN n).iterPos b = X.iterPos b := fun _ _ _ => rfl
         try simp only [hm]
         simp only [World.iterPos, hit2, hit]
         omega
      rw [if_neg c46] at hst
      have k46 : (c == 46) = false := beq_eq_false_iff_ne.2 c46
      clear c46
      obtain ⟨l, hl, hst⟩ := Option.bind_eq_some_iff.1 hst
      have cL := hL l hl
      clear hl
      cases l with
      | true =>
       rw [if_pos rfl] at hst
       obtain rfl := Option.some.inj hst
       have HE := Lib.hid (E1.out (by decide))
       clear hst hL hD E0 E1 Hc
       go_wp2_with (first | (go_at_call 82; refine (cL _).mono ?_; rintro e w2 ⟨rfl, ⟨n1, rfl⟩⟩))
       go_roundw
       case rel => exact ⟨_, f, _, rfl, hit2, (by repeat (first | exact hbw2 | apply pw_below_drewN)), HE⟩
       case measure =>
        have hwd := Hwd.out
        have hd1 := Hd1.out
        have hm : ∀ (X : World) n b, (X.drewN n).iterPos b = X.iterPos b := fun _ _ _ => rfl
        try simp only [hm]
        simp only [World.iterPos, hit2, hit]
        omega
      | false =>
       rw [if_neg (by decide)] at hst
       by_cases c95 : c = 95
       ·rw [if_pos c95] at hst
        have k95 : (c == 95) = true := by rw [c95]; rfl
        clear c95
        obtain rfl := Option.some.inj hst
        have HE := Lib.hid (E1.out (by decide))
        clear hst hL hD E0 E1 Hc
        go_wp2_with (first | (go_at_call 82; refine (cL _).mono ?_; rintro e w2 ⟨rfl, ⟨n1, rfl⟩⟩))
        go_roundw
        case rel => exact ⟨_, f, _, rfl, hit2, (by repeat (first | exact hbw2 | apply pw_below_drewN)), HE⟩
        case measure =>
         have hwd := Hwd.out
         have hd1 := Hd1.out
         have hm : ∀ (X : World) n b, (X.drewN n).iterPos b = X.iterPos b := fun _ _ _ => rfl
         try simp only [hm]
         simp only [World.iterPos, hit2, hit]
         omega
       rw [if_neg c95] at hst
       have k95 : (c == 95) = false := beq_eq_false_iff_ne.2 c95
       clear c95
       cases first with
       | true =>
        rw [if_pos rfl] at hst
        obtain rfl := Option.some.inj hst
        obtain rfl := E0.out rfl
        clear hst hL hD E0 E1 Hc
        go_wp2_with (first | (go_at_call 82; refine (cL _).mono ?_; rintro e w2 ⟨rfl, ⟨n1, rfl⟩⟩))
        go_ret
        exact ⟨rfl, (by repeat (first | exact hbw2 | apply pw_below_drewN))⟩
       | false =>
        rw [if_neg (by decide)] at hst
        obtain ⟨d, hd, hst⟩ := Option.bind_eq_some_iff.1 hst
        have cD := hD d hd
        clear hd
        cases d with
        | true =>
         rw [if_pos rfl] at hst
         obtain rfl := Option.some.inj hst
         have HE := Lib.hid (E1.out (by decide))
         clear hst hL hD E0 E1 Hc
         go_wp2_with (first | (go_at_call 82; refine (cL _).mono ?_; rintro e w2 ⟨rfl, ⟨n1, rfl⟩⟩) | (go_at_call 83; refine (cD _).mono ?_; rintro e w2 ⟨rfl, ⟨n2, rfl⟩⟩))
         go_roundw
         case rel => exact ⟨_, f, _, rfl, hit2, (by repeat (first | exact hbw2 | apply pw_below_drewN)), HE⟩
         case measure =>
          have hwd := Hwd.out
          have hd1 := Hd1.out
          have hm : ∀ (X : World) n b, (X.drewN n).iterPos b = X.iterPos b := fun _ _ _ => rfl
          try simp only [hm]
          simp only [World.iterPos, hit2, hit]
          omega
        | false =>
         rw [if_neg (by decide)] at hst
         by_cases c45 : c = 45
         ·rw [if_pos c45] at hst
          have k45 : (c == 45) = true := by rw [c45]; rfl
          clear c45
          obtain rfl := Option.some.inj hst
          have HE := Lib.hid (E1.out (by decide))
          clear hst hL hD E0 E1 Hc
          go_wp2_with (first | (go_at_call 82; refine (cL _).mono ?_; rintro e w2 ⟨rfl, ⟨n1, rfl⟩⟩) | (go_at_call 83; refine (cD _).mono ?_; rintro e w2 ⟨rfl, ⟨n2, rfl⟩⟩))
          go_roundw
          case rel => exact ⟨_, f, _, rfl, hit2, (by repeat (first | exact hbw2 | apply pw_below_drewN)), HE⟩
          case measure =>
           have hwd := Hwd.out
           have hd1 := Hd1.out
           have hm : ∀ (X : World) n b, (X.drewN n).iterPos b = X.iterPos b := fun _ _ _ => rfl
           try simp only [hm]
           simp only [World.iterPos, hit2, hit]
           omega
         rw [if_neg c45] at hst
         have k45 : (c == 45) = false := beq_eq_false_iff_ne.2 c45
         clear c45
         obtain rfl := Option.some.inj hst
         obtain rfl := E0.out rfl
         clear hst hL hD E0 E1 Hc
         go_wp2_with (first | (go_at_call 82; refine (cL _).mono ?_; rintro e w2 ⟨rfl, ⟨n1, rfl⟩⟩) | (go_at_call 83; refine (cD _).mono ?_; rintro e w2 ⟨rfl, ⟨n2, rfl⟩⟩))
         go_ret
         exact ⟨rfl, (by repeat (first | exact hbw2 | apply pw_below_drewN))⟩
     ·rw [if_neg hp] at hgo
      obtain rfl := Option.some.inj hgo
      have hnx : ∀ ty, (Instr.next (.pointer (some ⟨w1.heap.size, 0, none⟩)) true ty).run Tryd.prog wr = _ := fun ty => Lib.run_next_end_at wr w1.heap.size a0 pos ty hit hp
      go_wp2
      go_ret
      exact ⟨rfl, hbw⟩
  ·rw [if_neg hv] at h
   obtain rfl := Option.some.inj h
   rw [Bool.eq_false_iff.2 hv] at cV
   clear hv
   go_enter Tryd.func69, Tryd.ntmps69
   go_wp2_with (go_at_call 49; refine cV.mono ?_; rintro e w1 ⟨rfl, hb1⟩)
   go_ret
   exact ⟨rfl, hb1⟩
 ·cases h

/-! ### utf8_RuneCountInString: function 70, by hand -/
def utf8_RuneCountInString.f (a0 : ByteArray) : Option Int := if a0.size < 9223372036854775807 then some (Lib.runeCount a0 : Int) else none
theorem utf8_RuneCountInString.calls (a0 : ByteArray) (r : Int) (w : World) (h : utf8_RuneCountInString.f a0 = some r) :
  Calls Tryd.prog 70 #[.string a0] w fun e w' => e = .returned (.int .i64 r) ∧ Below w.heap.size w w' := by
 unfold utf8_RuneCountInString.f at h
 split at h
 ·rename_i hs
  obtain rfl := Option.some.inj h
  refine (Tryd.utf8_RuneCountInString a0 w hs).mono ?_
  rintro e w' ⟨he, pos, rfl⟩
  exact ⟨he, (Below.refl _ w).alloc (Nat.le_refl _) _⟩
 ·cases h

/-! ### name_Check: function 53 -/
def name_Check.f (k : Nat) (a0 : ByteArray) : Option (Int) := (name_formed.f k a0).bind fun t112 => (if t112 = true then ((utf8_RuneCountInString.f a0).bind fun t113 => (if t113 > 40 then (some 2) else ((strings_Count.f a0 (⟨#[46]⟩ : ByteArray)).bind fun t114 => (if t114 ≥ 5 then (some 2) else (some 0))))) else (some 3))
theorem name_Check.mono : ∀ a0 k, LeO (name_Check.f k a0) (name_Check.f (k + 1) a0) := by
 intro a0 k
 unfold name_Check.f
 repeat' first
   | (with_reducible exact name_formed.mono _ _)
   | (with_reducible exact LeO.refl _)
   | (with_reducible exact LeO.none _)
   | (with_reducible refine LeO.ite ?_ ?_)
   | (with_reducible refine LeO.bind ?_ (fun _ => ?_))
   | exact name_formed.mono _ _
   | exact LeO.none _
   | refine LeO.ite ?_ ?_
   | refine LeO.bind ?_ (fun _ => ?_)
set_option maxHeartbeats 8000000 in
set_option maxRecDepth 100000 in
theorem name_Check.calls (k : Nat) (a0 : ByteArray) (r : Int) (w : World) (hT : Tabs w) (h : name_Check.f k a0 = some r) :
  Calls Tryd.prog 53 #[.string a0] w fun e w' => e = .returned (.int .i64 r) ∧ Below w.heap.size w w' := by
 have HB := Aside0.mk (Below.refl w.heap.size w)
 have H : ((name_formed.f k a0).bind fun t112 => (if t112 = true then ((utf8_RuneCountInString.f a0).bind fun t113 => (if t113 > 40 then (some 2) else ((strings_Count.f a0 (⟨#[46]⟩ : ByteArray)).bind fun t114 => (if t114 ≥ 5 then (some 2) else (some 0))))) else (some 3))) = some r := h
 clear h
 have HT := Aside0.mk hT
 clear hT
 replace H := Option.bind_eq_some_iff.mp H
 obtain ⟨t112, A20, H⟩ := H
 replace H : (if t112 = true then ((utf8_RuneCountInString.f a0).bind fun t113 => (if t113 > 40 then (some 2) else ((strings_Count.f a0 (⟨#[46]⟩ : ByteArray)).bind fun t114 => (if t114 ≥ 5 then (some 2) else (some 0))))) else (some 3)) = some r := H
 have A2 := Aside0.mk A20
 clear A20
 by_cases c3 : t112 = true
 ·subst c3
  have H1 : ((utf8_RuneCountInString.f a0).bind fun t113 => (if t113 > 40 then (some 2) else ((strings_Count.f a0 (⟨#[46]⟩ : ByteArray)).bind fun t114 => (if t114 ≥ 5 then (some 2) else (some 0))))) = some r := by rw [if_pos rfl] at H; exact H
  clear H
  have H := H1
  clear H1
  replace H := Option.bind_eq_some_iff.mp H
  obtain ⟨t113, A40, H⟩ := H
  replace H : (if t113 > 40 then (some 2) else ((strings_Count.f a0 (⟨#[46]⟩ : ByteArray)).bind fun t114 => (if t114 ≥ 5 then (some 2) else (some 0)))) = some r := H
  have A4 := Aside0.mk A40
  clear A40
  by_cases c5 : t113 > 40
  ·rw [if_pos c5] at H
   have c5b0 : decide (40 < t113) = true := decide_eq_true c5
   clear c5
   obtain rfl := Option.some.inj H
   go_enter Tryd.func53, Tryd.ntmps53
   go_wp2_with (first | ((with_reducible refine gate_callee (f := 69) rfl ?_); refine goesA (some 5) Tryd.func69 #[.string a0] ?_; (with_reducible refine (name_formed.calls k a0 true _ ?side1 A2.out).mono ?_); (case side1 => exact Tabs.below HT.out (bwA)); rintro e w6 ⟨rfl, hb⟩; refine ⟨_, rfl, ?_⟩; have n0_ := Aside0.mk (below_step (bwA) hb); clear HB; have HB := n0_; clear n0_; (try clear hb); (try clear hb2); (try clear hk); (try clear hi)) | ((with_reducible refine gate_callee (f := 70) rfl ?_); refine goesA (some 9) Tryd.func70 #[.string a0] ?_; (with_reducible refine (utf8_RuneCountInString.calls a0 t113 _ A4.out).mono ?_); rintro e w7 ⟨rfl, hb⟩; refine ⟨_, rfl, ?_⟩; have n0_ := Aside0.mk (below_step (bwA) hb); clear HB; have HB := n0_; clear n0_; (try clear hb); (try clear hb2); (try clear hk); (try clear hi)))
   go_ret
   exact ⟨endA, bwA⟩
  ·rw [if_neg c5] at H
   have c5b0 : decide (40 < t113) = false := decide_eq_false c5
   clear c5
   replace H := Option.bind_eq_some_iff.mp H
   obtain ⟨t114, A80, H⟩ := H
   replace H : (if t114 ≥ 5 then (some 2) else (some 0)) = some r := H
   have A8 := Aside0.mk A80
   clear A80
   by_cases c9 : t114 ≥ 5
   ·rw [if_pos c9] at H
    have c9b0 : decide (5 ≤ t114) = true := decide_eq_true c9
    clear c9
    obtain rfl := Option.some.inj H
    go_enter Tryd.func53, Tryd.ntmps53
    go_wp2_with (first | ((with_reducible refine gate_callee (f := 69) rfl ?_); refine goesA (some 5) Tryd.func69 #[.string a0] ?_; (with_reducible refine (name_formed.calls k a0 true _ ?side1 A2.out).mono ?_); (case side1 => exact Tabs.below HT.out (bwA)); rintro e w10 ⟨rfl, hb⟩; refine ⟨_, rfl, ?_⟩; have n0_ := Aside0.mk (below_step (bwA) hb); clear HB; have HB := n0_; clear n0_; (try clear hb); (try clear hb2); (try clear hk); (try clear hi)) | ((with_reducible refine gate_callee (f := 70) rfl ?_); refine goesA (some 9) Tryd.func70 #[.string a0] ?_; (with_reducible refine (utf8_RuneCountInString.calls a0 t113 _ A4.out).mono ?_); rintro e w11 ⟨rfl, hb⟩; refine ⟨_, rfl, ?_⟩; have n0_ := Aside0.mk (below_step (bwA) hb); clear HB; have HB := n0_; clear n0_; (try clear hb); (try clear hb2); (try clear hk); (try clear hi)) | (go_at_call 56; (with_reducible refine (strings_Count.calls a0 (⟨#[46]⟩ : ByteArray) t114 _ A8.out).mono ?_); rintro e w' ⟨rfl, ⟨nd, rfl⟩⟩))
    go_ret
    exact ⟨endA, bwA⟩
   ·rw [if_neg c9] at H
    have c9b0 : decide (5 ≤ t114) = false := decide_eq_false c9
    clear c9
    obtain rfl := Option.some.inj H
    go_enter Tryd.func53, Tryd.ntmps53
    go_wp2_with (first | ((with_reducible refine gate_callee (f := 69) rfl ?_); refine goesA (some 5) Tryd.func69 #[.string a0] ?_; (with_reducible refine (name_formed.calls k a0 true _ ?side1 A2.out).mono ?_); (case side1 => exact Tabs.below HT.out (bwA)); rintro e w12 ⟨rfl, hb⟩; refine ⟨_, rfl, ?_⟩; have n0_ := Aside0.mk (below_step (bwA) hb); clear HB; have HB := n0_; clear n0_; (try clear hb); (try clear hb2); (try clear hk); (try clear hi)) | ((with_reducible refine gate_callee (f := 70) rfl ?_); refine goesA (some 9) Tryd.func70 #[.string a0] ?_; (with_reducible refine (utf8_RuneCountInString.calls a0 t113 _ A4.out).mono ?_); rintro e w13 ⟨rfl, hb⟩; refine ⟨_, rfl, ?_⟩; have n0_ := Aside0.mk (below_step (bwA) hb); clear HB; have HB := n0_; clear n0_; (try clear hb); (try clear hb2); (try clear hk); (try clear hi)) | (go_at_call 56; (with_reducible refine (strings_Count.calls a0 (⟨#[46]⟩ : ByteArray) t114 _ A8.out).mono ?_); rintro e w' ⟨rfl, ⟨nd, rfl⟩⟩))
    go_ret
    exact ⟨endA, bwA⟩
 ·replace c3 := Bool.eq_false_iff.mpr c3
  subst c3
  have H1 : (some 3) = some r := by rw [if_neg (show ¬ (false = true) by decide)] at H; exact H
  clear H
  have H := H1
  clear H1
  obtain rfl := Option.some.inj H
  go_enter Tryd.func53, Tryd.ntmps53
  go_wp2_with (first | ((with_reducible refine gate_callee (f := 69) rfl ?_); refine goesA (some 5) Tryd.func69 #[.string a0] ?_; (with_reducible refine (name_formed.calls k a0 false _ ?side1 A2.out).mono ?_); (case side1 => exact Tabs.below HT.out (bwA)); rintro e w14 ⟨rfl, hb⟩; refine ⟨_, rfl, ?_⟩; have n0_ := Aside0.mk (below_step (bwA) hb); clear HB; have HB := n0_; clear n0_; (try clear hb); (try clear hb2); (try clear hk); (try clear hi)))
  go_ret
  exact ⟨endA, bwA⟩

/-! ### strings_Split: function 23, by hand -/
def strings_Split.f (a0 : ByteArray) (a1 : ByteArray) : Option (List ByteArray) := if a0.size < 4294967281 then (if 1 ≤ a1.size then some (Lib.splitB a1 0 (Lib.countB a0 a1) a0) else none) else none
theorem strings_Split.calls (a0 : ByteArray) (a1 : ByteArray) (r : List ByteArray) (w : World) (hT : Tabs w) (h : strings_Split.f a0 a1 = some r) :
  Calls Tryd.prog 23 #[.string a0, .string a1] w fun e w' => ∃ v0_ : Value, e = .returned (v0_) ∧ Kd.R Kd.string 9 w' w.heap.size (fun _ => True) v0_ r ∧ Below w.heap.size w w' := by
 unfold strings_Split.f at h
 split at h
 ·rename_i hs
  split at h
  ·rename_i h1
   obtain rfl := Option.some.inj h
   obtain ⟨m, hm⟩ := hT.ml
   refine (Tryd.strings_Split a0 a1 m w hs hm h1).mono ?_
   rintro e w' ⟨rfl, rfl⟩
   have hlen := Lib.splitB_all a1 h1 0 _ a0 rfl
   have hle := Lib.countB_le a1 h1 a0.size a0 (Nat.le_refl _)
   refine ⟨_, rfl, ⟨fun _ _ => trivial, ?_⟩, (Below.refl _ w).alloc (Nat.le_refl _) _⟩
   have := OwnRow.lit (R := fun (x : ByteArray) (cs : List Value) => cs = [Value.string x]) (e := 9) (size := 1) w w.heap.size (Kd.reps_scalar (enc := Value.string) (Lib.splitB a1 0 (Lib.countB a0 a1) a0)) (Nat.le_refl _) (by rw [hlen]; omega)
   rw [hlen] at this
   exact this
  ·cases h
 ·cases h

/-! ### name_Parts: function 54 -/
def name_Parts.f (k : Nat) (a0 : ByteArray) : Option (List ByteArray) := (name_Check.f k a0).bind fun t115 => (if t115 = 0 then ((strings_Split.f a0 (⟨#[46]⟩ : ByteArray)).bind fun t116 => (some t116)) else (some ([] : List ByteArray)))
theorem name_Parts.mono : ∀ a0 k, LeO (name_Parts.f k a0) (name_Parts.f (k + 1) a0) := by
 intro a0 k
 unfold name_Parts.f
 repeat' first
   | (with_reducible exact name_Check.mono _ _)
   | (with_reducible exact LeO.refl _)
   | (with_reducible exact LeO.none _)
   | (with_reducible refine LeO.ite ?_ ?_)
   | (with_reducible refine LeO.bind ?_ (fun _ => ?_))
   | exact name_Check.mono _ _
   | exact LeO.none _
   | refine LeO.ite ?_ ?_
   | refine LeO.bind ?_ (fun _ => ?_)
set_option maxHeartbeats 8000000 in
set_option maxRecDepth 100000 in
theorem name_Parts.calls (k : Nat) (a0 : ByteArray) (r : List ByteArray) (w : World) (hT : Tabs w) (h : name_Parts.f k a0 = some r) :
  Calls Tryd.prog 54 #[.string a0] w fun e w' => ∃ v0_ : Value, e = .returned (v0_) ∧ Kd.R Kd.string 9 w' w.heap.size (fun _ => True) v0_ r ∧ Below w.heap.size w w' := by
 have HB := Aside0.mk (Below.refl w.heap.size w)
 have H : ((name_Check.f k a0).bind fun t115 => (if t115 = 0 then ((strings_Split.f a0 (⟨#[46]⟩ : ByteArray)).bind fun t116 => (some t116)) else (some ([] : List ByteArray)))) = some r := h
 clear h
 have HT := Aside0.mk hT
 clear hT
 replace H := Option.bind_eq_some_iff.mp H
 obtain ⟨t115, A20, H⟩ := H
 replace H : (if t115 = 0 then ((strings_Split.f a0 (⟨#[46]⟩ : ByteArray)).bind fun t116 => (some t116)) else (some ([] : List ByteArray))) = some r := H
 have A2 := Aside0.mk A20
 clear A20
 by_cases c3 : t115 = 0
 ·rw [if_pos c3] at H
  have c3b0 : (t115 == 0) = true := beq_iff_eq.mpr c3
  have c3b1 : (t115 != 0) = false := bne_eq_false_iff_eq.mpr c3
  clear c3
  replace H := Option.bind_eq_some_iff.mp H
  obtain ⟨t116, A40, H⟩ := H
  replace H : (some t116) = some r := H
  have A4 := Aside0.mk A40
  clear A40
  obtain rfl := Option.some.inj H
  go_enter Tryd.func54, Tryd.ntmps54
  go_wp2_with (first | ((with_reducible refine gate_callee (f := 53) rfl ?_); refine goesA (some 4) Tryd.func53 #[.string a0] ?_; (with_reducible refine (name_Check.calls k a0 t115 _ ?side1 A2.out).mono ?_); (case side1 => exact Tabs.below HT.out (bwA)); rintro e w5 ⟨rfl, hb⟩; refine ⟨_, rfl, ?_⟩; have n0_ := Aside0.mk (below_step (bwA) hb); clear HB; have HB := n0_; clear n0_; (try clear hb); (try clear hb2); (try clear hk); (try clear hi)) | ((with_reducible refine gate_callee (f := 23) rfl ?_); refine goesA (some 7) Tryd.func23 #[.string a0, .string (⟨#[46]⟩ : ByteArray)] ?_; (with_reducible refine (strings_Split.calls a0 (⟨#[46]⟩ : ByteArray) t116 _ ?side1 A4.out).mono ?_); (case side1 => exact Tabs.below HT.out (bwA)); rintro e w6 ⟨v117, rfl, ho0, hb⟩; refine ⟨_, rfl, ?_⟩; have n0_ := Aside0.mk (Kd.R_lower ho0 (below_size (bwA))); have n1_ := Aside0.mk (below_step (bwA) hb); clear HB; have HO118 := n0_; have HB := n1_; clear n0_ n1_; (try clear hb); (try clear hb2); (try clear hk); (try clear hi); (try clear ho0)))
  go_ret
  exact ⟨_, endA, by (with_reducible repeat (first | apply Kd.R_alloc | apply Kd.R_drewN | apply Kd.R_drew)); exact HO118.out, bwA⟩
 ·rw [if_neg c3] at H
  have c3b0 : (t115 == 0) = false := beq_eq_false_iff_ne.mpr c3
  have c3b1 : (t115 != 0) = true := bne_iff_ne.mpr c3
  obtain rfl := Option.some.inj H
  go_enter Tryd.func54, Tryd.ntmps54
  go_wp2_with (first | ((with_reducible refine gate_callee (f := 53) rfl ?_); refine goesA (some 4) Tryd.func53 #[.string a0] ?_; (with_reducible refine (name_Check.calls k a0 t115 _ ?side1 A2.out).mono ?_); (case side1 => exact Tabs.below HT.out (bwA)); rintro e w7 ⟨rfl, hb⟩; refine ⟨_, rfl, ?_⟩; have n0_ := Aside0.mk (below_step (bwA) hb); clear HB; have HB := n0_; clear n0_; (try clear hb); (try clear hb2); (try clear hk); (try clear hi)))
  go_ret
  exact ⟨_, endA, by first | exact Kd.R_nil _ _ _ _ _ | exact Kd.N_nil _ _ _ _ _ | exact Kd.V_nil _ _ _ _ _ | exact Kd.Q_nil _ _ _ _ _ | exact Kd.S_nil _ _ _ _ _, bwA⟩

/-! ### schema_simple: function 38 -/
def schema_simple.f (k : Nat) (a0 : ByteArray) : Option (Bool) := (name_Check.f k a0).bind fun t119 => (if t119 = 0 then ((name_Parts.f k a0).bind fun t120 => (some ((t120.length : Int) == 1))) else (some false))
theorem schema_simple.mono : ∀ a0 k, LeO (schema_simple.f k a0) (schema_simple.f (k + 1) a0) := by
 intro a0 k
 unfold schema_simple.f
 repeat' first
   | (with_reducible exact name_Check.mono _ _)
   | (with_reducible exact name_Parts.mono _ _)
   | (with_reducible exact LeO.refl _)
   | (with_reducible exact LeO.none _)
   | (with_reducible refine LeO.ite ?_ ?_)
   | (with_reducible refine LeO.bind ?_ (fun _ => ?_))
   | exact name_Check.mono _ _
   | exact name_Parts.mono _ _
   | exact LeO.none _
   | refine LeO.ite ?_ ?_
   | refine LeO.bind ?_ (fun _ => ?_)
set_option maxHeartbeats 8000000 in
set_option maxRecDepth 100000 in
theorem schema_simple.calls (k : Nat) (a0 : ByteArray) (r : Bool) (w : World) (hT : Tabs w) (h : schema_simple.f k a0 = some r) :
  Calls Tryd.prog 38 #[.string a0] w fun e w' => e = .returned (.bool r) ∧ Below w.heap.size w w' := by
 have HB := Aside0.mk (Below.refl w.heap.size w)
 have H : ((name_Check.f k a0).bind fun t119 => (if t119 = 0 then ((name_Parts.f k a0).bind fun t120 => (some ((t120.length : Int) == 1))) else (some false))) = some r := h
 clear h
 have HT := Aside0.mk hT
 clear hT
 replace H := Option.bind_eq_some_iff.mp H
 obtain ⟨t119, A20, H⟩ := H
 replace H : (if t119 = 0 then ((name_Parts.f k a0).bind fun t120 => (some ((t120.length : Int) == 1))) else (some false)) = some r := H
 have A2 := Aside0.mk A20
 clear A20
 by_cases c3 : t119 = 0
 ·rw [if_pos c3] at H
  have c3b0 : (t119 == 0) = true := beq_iff_eq.mpr c3
  have c3b1 : (t119 != 0) = false := bne_eq_false_iff_eq.mpr c3
  clear c3
  replace H := Option.bind_eq_some_iff.mp H
  obtain ⟨t120, A40, H⟩ := H
  replace H : (some ((t120.length : Int) == 1)) = some r := H
  have A4 := Aside0.mk A40
  clear A40
  obtain rfl := Option.some.inj H
  go_enter Tryd.func38, Tryd.ntmps38
  go_wp2_with (first | ((with_reducible refine gate_callee (f := 53) rfl ?_); refine goesA (some 4) Tryd.func53 #[.string a0] ?_; (with_reducible refine (name_Check.calls k a0 t119 _ ?side1 A2.out).mono ?_); (case side1 => exact Tabs.below HT.out (bwA)); rintro e w5 ⟨rfl, hb⟩; refine ⟨_, rfl, ?_⟩; have n0_ := Aside0.mk (below_step (bwA) hb); clear HB; have HB := n0_; clear n0_; (try clear hb); (try clear hb2); (try clear hk); (try clear hi)) | (go_at_call 54; (with_reducible refine (name_Parts.calls k a0 t120 _ ?side1 A4.out).mono ?_); (case side1 => exact Tabs.below HT.out (bwA)); rintro e w6 ⟨v121, rfl, ho0, hb⟩; have n0_ := Aside0.mk (Kd.R_lower ho0 (below_size (bwA))); have n1_ := Aside0.mk (below_step (bwA) hb); clear HB; have HO122 := n0_; have HB := n1_; clear n0_ n1_; (try clear hb); (try clear hb2); (try clear hk); (try clear hi); (try clear ho0); obtain ⟨Ao7, co7, eo7⟩ := Kd.R_slice HO122.out; subst eo7))
  go_ret
  exact ⟨endA, bwA⟩
 ·rw [if_neg c3] at H
  have c3b0 : (t119 == 0) = false := beq_eq_false_iff_ne.mpr c3
  have c3b1 : (t119 != 0) = true := bne_iff_ne.mpr c3
  obtain rfl := Option.some.inj H
  go_enter Tryd.func38, Tryd.ntmps38
  go_wp2_with (first | ((with_reducible refine gate_callee (f := 53) rfl ?_); refine goesA (some 4) Tryd.func53 #[.string a0] ?_; (with_reducible refine (name_Check.calls k a0 t119 _ ?side1 A2.out).mono ?_); (case side1 => exact Tabs.below HT.out (bwA)); rintro e w8 ⟨rfl, hb⟩; refine ⟨_, rfl, ?_⟩; have n0_ := Aside0.mk (below_step (bwA) hb); clear HB; have HB := n0_; clear n0_; (try clear hb); (try clear hb2); (try clear hk); (try clear hi)))
  go_ret
  exact ⟨endA, bwA⟩

/-! ### schema_word: function 45, by hand -/
def schema_word.f (a0 : Int) : Option ByteArray := some (if a0 = 1 then ⟨#[105, 110, 116]⟩ else if a0 = 2 then ⟨#[116, 101, 120, 116]⟩ else if a0 = 3 then ⟨#[98, 111, 111, 108]⟩ else if a0 = 4 then ⟨#[98, 121, 116, 101, 115]⟩ else ⟨#[]⟩)
set_option maxHeartbeats 4000000 in
theorem schema_word.calls (a0 : Int) (r : ByteArray) (w : World) (h : schema_word.f a0 = some r) :
  Calls Tryd.prog 45 #[.int .i64 a0] w fun e w' => e = .returned (.string r) ∧ Below w.heap.size w w' := by
 unfold schema_word.f at h
 obtain rfl := Option.some.inj h
 clear h
 by_cases h1 : a0 ≤ 0
 ·rw [if_neg (by omega), if_neg (by omega), if_neg (by omega), if_neg (by omega)]
  go_enter Tryd.func45, Tryd.ntmps45
  go_wp2
  go_ret
  exact ⟨rfl, (Below.refl _ w).alloc (Nat.le_refl _) _⟩
 by_cases h2 : a0 ≥ 5
 ·rw [if_neg (by omega), if_neg (by omega), if_neg (by omega), if_neg (by omega)]
  go_enter Tryd.func45, Tryd.ntmps45
  go_wp2
  go_ret
  exact ⟨rfl, (Below.refl _ w).alloc (Nat.le_refl _) _⟩
 have h3 : a0 = 1 ∨ a0 = 2 ∨ a0 = 3 ∨ a0 = 4 := by omega
 clear h1 h2
 rcases h3 with rfl | rfl | rfl | rfl
 all_goals
  go_enter Tryd.func45, Tryd.ntmps45
  go_wp2
  go_ret
  exact ⟨rfl, (Below.refl _ w).alloc (Nat.le_refl _) _⟩

/-! ### schema_field: function 28 -/
def schema_field.f (k : Nat) (a0_0 : ByteArray) (a0_1 : Int) (a0_2 : Bool) : Option (Bool) := (schema_simple.f k a0_0).bind fun t124 => (if t124 = true then ((schema_word.f a0_1).bind fun t125 => (some (t125.toList != ([] : List UInt8)))) else (some false))
theorem schema_field.mono : ∀ a0 a1 a2 k, LeO (schema_field.f k a0 a1 a2) (schema_field.f (k + 1) a0 a1 a2) := by
 intro a0 a1 a2 k
 unfold schema_field.f
 repeat' first
   | (with_reducible exact schema_simple.mono _ _)
   | (with_reducible exact LeO.refl _)
   | (with_reducible exact LeO.none _)
   | (with_reducible refine LeO.ite ?_ ?_)
   | (with_reducible refine LeO.bind ?_ (fun _ => ?_))
   | exact schema_simple.mono _ _
   | exact LeO.none _
   | refine LeO.ite ?_ ?_
   | refine LeO.bind ?_ (fun _ => ?_)
set_option maxHeartbeats 8000000 in
set_option maxRecDepth 100000 in
theorem schema_field.calls (k : Nat) (a0_0 : ByteArray) (a0_1 : Int) (a0_2 : Bool) (r : Bool) (w : World) (hT : Tabs w) (h : schema_field.f k a0_0 a0_1 a0_2 = some r) :
  Calls Tryd.prog 28 #[.agg #[.string a0_0, .int .i64 a0_1, .bool a0_2]] w fun e w' => e = .returned (.bool r) ∧ Below w.heap.size w w' := by
 have hu35 := Tryd.underlying35
 have HB := Aside0.mk (Below.refl w.heap.size w)
 have H : ((schema_simple.f k a0_0).bind fun t124 => (if t124 = true then ((schema_word.f a0_1).bind fun t125 => (some (t125.toList != ([] : List UInt8)))) else (some false))) = some r := h
 clear h
 have HT := Aside0.mk hT
 clear hT
 replace H := Option.bind_eq_some_iff.mp H
 obtain ⟨t124, A20, H⟩ := H
 replace H : (if t124 = true then ((schema_word.f a0_1).bind fun t125 => (some (t125.toList != ([] : List UInt8)))) else (some false)) = some r := H
 have A2 := Aside0.mk A20
 clear A20
 by_cases c3 : t124 = true
 ·subst c3
  have H1 : ((schema_word.f a0_1).bind fun t125 => (some (t125.toList != ([] : List UInt8)))) = some r := by rw [if_pos rfl] at H; exact H
  clear H
  have H := H1
  clear H1
  replace H := Option.bind_eq_some_iff.mp H
  obtain ⟨t125, A40, H⟩ := H
  replace H : (some (t125.toList != ([] : List UInt8))) = some r := H
  have A4 := Aside0.mk A40
  clear A40
  obtain rfl := Option.some.inj H
  go_enter Tryd.func28, Tryd.ntmps28
  go_wp2_with (first | ((with_reducible refine gate_dst (N := 1) rfl ?_); refine box_event ?hg (N := 1) ?hd (cs := #[.string a0_0, .int .i64 a0_1, .bool a0_2]) (t := 35) ?hr ?_; (case hd => rfl); (case hg => rfl); (case hr => first | (go_simp; done) | (go_simp; rfl)); intro gb123 hg w5 hbox hb; have n0_ := Aside0.mk (below_step (bwA) hb); have n1_ := Aside0.mk (hbox); have n2_ := Aside0.mk ((by rw [hg]; exact (below_size (bwA)) : w.heap.size ≤ gb123)); have n3_ := Aside0.mk ((by rw [hg]; exact (below_size (bwA)) : w.heap.size ≤ gb123)); clear HB; have HB := n0_; have BK123 := n1_; have GW123 := n2_; have GE123 := n3_; clear n0_ n1_ n2_ n3_; clear hb hbox hg; have hcz6_0 : w5.cell? ⟨gb123, 0, none⟩ = some (.string a0_0) := (blk_cell BK123.out 0).trans rfl; have hcz6_1 : w5.cell? ⟨gb123, 1, none⟩ = some (.int .i64 a0_1) := (blk_cell BK123.out 1).trans rfl; have hcz6_2 : w5.cell? ⟨gb123, 2, none⟩ = some (.bool a0_2) := (blk_cell BK123.out 2).trans rfl; have hfz6_0 := blk_frozen BK123.out 0; have hfz6_1 := blk_frozen BK123.out 1; have hfz6_2 := blk_frozen BK123.out 2) | ((with_reducible refine gate_callee (f := 38) rfl ?_); refine goesA (some 5) Tryd.func38 #[.string a0_0] ?_; (with_reducible refine (schema_simple.calls k a0_0 true _ ?side1 A2.out).mono ?_); (case side1 => exact Tabs.below HT.out (bwA)); rintro e w7 ⟨rfl, hb⟩; refine ⟨_, rfl, ?_⟩; have n0_ := Aside0.mk (blk_below (g := gb123) (o := .cells #[.string a0_0, .int .i64 a0_1, .bool a0_2] 35 (0, 0)) blkA hb); have n1_ := Aside0.mk (below_step (bwA) hb); clear BK123; clear HB; have BK123 := n0_; have HB := n1_; clear n0_ n1_; (try clear hb); (try clear hb2); (try clear hk); (try clear hi); have hcz8_0 : w7.cell? ⟨gb123, 0, none⟩ = some (.string a0_0) := (blk_cell BK123.out 0).trans rfl; have hcz8_1 : w7.cell? ⟨gb123, 1, none⟩ = some (.int .i64 a0_1) := (blk_cell BK123.out 1).trans rfl; have hcz8_2 : w7.cell? ⟨gb123, 2, none⟩ = some (.bool a0_2) := (blk_cell BK123.out 2).trans rfl; have hfz8_0 := blk_frozen BK123.out 0; have hfz8_1 := blk_frozen BK123.out 1; have hfz8_2 := blk_frozen BK123.out 2) | (go_at_call 45; (with_reducible refine (schema_word.calls a0_1 t125 _ A4.out).mono ?_); rintro e w9 ⟨rfl, hb⟩; have n0_ := Aside0.mk (blk_below (g := gb123) (o := .cells #[.string a0_0, .int .i64 a0_1, .bool a0_2] 35 (0, 0)) blkA hb); have n1_ := Aside0.mk (below_step (bwA) hb); clear BK123; clear HB; have BK123 := n0_; have HB := n1_; clear n0_ n1_; (try clear hb); (try clear hb2); (try clear hk); (try clear hi)))
  go_ret
  exact ⟨endA, bwA⟩
 ·replace c3 := Bool.eq_false_iff.mpr c3
  subst c3
  have H1 : (some false) = some r := by rw [if_neg (show ¬ (false = true) by decide)] at H; exact H
  clear H
  have H := H1
  clear H1
  obtain rfl := Option.some.inj H
  go_enter Tryd.func28, Tryd.ntmps28
  go_wp2_with (first | ((with_reducible refine gate_dst (N := 1) rfl ?_); refine box_event ?hg (N := 1) ?hd (cs := #[.string a0_0, .int .i64 a0_1, .bool a0_2]) (t := 35) ?hr ?_; (case hd => rfl); (case hg => rfl); (case hr => first | (go_simp; done) | (go_simp; rfl)); intro gb123 hg w10 hbox hb; have n0_ := Aside0.mk (below_step (bwA) hb); have n1_ := Aside0.mk (hbox); have n2_ := Aside0.mk ((by rw [hg]; exact (below_size (bwA)) : w.heap.size ≤ gb123)); have n3_ := Aside0.mk ((by rw [hg]; exact (below_size (bwA)) : w.heap.size ≤ gb123)); clear HB; have HB := n0_; have BK123 := n1_; have GW123 := n2_; have GE123 := n3_; clear n0_ n1_ n2_ n3_; clear hb hbox hg; have hcz11_0 : w10.cell? ⟨gb123, 0, none⟩ = some (.string a0_0) := (blk_cell BK123.out 0).trans rfl; have hcz11_1 : w10.cell? ⟨gb123, 1, none⟩ = some (.int .i64 a0_1) := (blk_cell BK123.out 1).trans rfl; have hcz11_2 : w10.cell? ⟨gb123, 2, none⟩ = some (.bool a0_2) := (blk_cell BK123.out 2).trans rfl; have hfz11_0 := blk_frozen BK123.out 0; have hfz11_1 := blk_frozen BK123.out 1; have hfz11_2 := blk_frozen BK123.out 2) | ((with_reducible refine gate_callee (f := 38) rfl ?_); refine goesA (some 5) Tryd.func38 #[.string a0_0] ?_; (with_reducible refine (schema_simple.calls k a0_0 false _ ?side1 A2.out).mono ?_); (case side1 => exact Tabs.below HT.out (bwA)); rintro e w12 ⟨rfl, hb⟩; refine ⟨_, rfl, ?_⟩; have n0_ := Aside0.mk (blk_below (g := gb123) (o := .cells #[.string a0_0, .int .i64 a0_1, .bool a0_2] 35 (0, 0)) blkA hb); have n1_ := Aside0.mk (below_step (bwA) hb); clear BK123; clear HB; have BK123 := n0_; have HB := n1_; clear n0_ n1_; (try clear hb); (try clear hb2); (try clear hk); (try clear hi)))
  go_ret
  exact ⟨endA, bwA⟩

end Go.Proofs.YtbbfggfiknbdmaaDoor.A
