-- By drv.py, the session's own driver round the kit's print: the machine's side of the laws, function by function. Not trusted: Lean checks it.
import Derived.Test.YtkdndabpaajkaaaGreatDoorAx0
import Derived.Test.YtkdndabpaajkaaaGreatDoorAx6
namespace Go.Proofs.YtkdndabpaajkaaaGreatDoor.A
open Go.RowKit Go.Proofs.YtkdndabpaajkaaaGreatDoorW.PrintWords Go.Proofs.YtkdndabpaajkaaaGreatDoorW.PrintLast Go.Proofs.YtkdndabpaajkaaaGreatDoorW.PrintMore
attribute [local go_sem] max2_int min2_int max_two min_two max_three min_three max_four min_four   -- for this text's walks alone
set_option linter.unusedVariables false
set_option linter.unusedSimpArgs false

/-! ### name_formed: function 137, by hand -/
/-- A rune behind what was: 0: no name; 1: within a part; 2: a part is to begin. -/
def name_formed.st (k : Nat) (first : Bool) (c : Int) : Option Int :=
 if c = 46 then (if first = true then some 0 else some 2)
 else (name_Letter.f k c).bind fun t => if t = true then some 1 else if c = 95 then some 1 else if first = true then some 0 else (name_digit.f c).bind fun d => if d = true then some 1 else if c = 45 then some 1 else some 0
def name_formed.go (k : Nat) (s : ByteArray) : Nat → Nat → Bool → Option Bool
 | 0, _, _ => none
 | f + 1, pos, first => if pos < s.size then (name_formed.st k first ((Utf8.decode s pos).1 : Int)).bind fun t => if t = 0 then some false else name_formed.go k s f (pos + (Utf8.decode s pos).2) (decide (t = 2)) else some (!first)
def name_formed.f (k : Nat) (a0 : ByteArray) : Option Bool := if a0.size ≤ 1099511627776 then (if a0.toList = [] then some false else (if Lib.validD a0.data.toList = true then name_formed.go k a0 (a0.size + 1) 0 true else some false)) else none
theorem name_formed.mono_st (k : Nat) (first : Bool) (c : Int) : LeO (name_formed.st k first c) (name_formed.st (k + 1) first c) := by
 unfold name_formed.st
 repeat' first
  | (with_reducible exact LeO.refl _)
  | (with_reducible exact name_Letter.mono _ _)
  | (with_reducible refine LeO.ite ?_ ?_)
  | (with_reducible refine LeO.bind ?_ (fun _ => ?_))
theorem name_formed.mono_go (k : Nat) (s : ByteArray) : ∀ f pos first, LeO (name_formed.go k s f pos first) (name_formed.go (k + 1) s f pos first)
 | 0, _, _ => fun r h => by simp [name_formed.go] at h
 | f + 1, pos, first => by
  unfold name_formed.go
  repeat' first
   | (with_reducible exact LeO.refl _)
   | (with_reducible exact name_formed.mono_st _ _ _)
   | exact name_formed.mono_go k s f _ _
   | (with_reducible refine LeO.ite ?_ ?_)
   | (with_reducible refine LeO.bind ?_ (fun _ => ?_))
theorem name_formed.mono : ∀ a0 k, LeO (name_formed.f k a0) (name_formed.f (k + 1) a0) := by
 intro a0 k
 unfold name_formed.f
 repeat' (with_reducible first | exact name_formed.mono_go k a0 _ _ _ | exact LeO.refl _ | exact LeO.none _ | refine LeO.ite ?_ ?_ | refine LeO.bind ?_ (fun _ => ?_))
set_option maxHeartbeats 8000000 in
set_option maxRecDepth 100000 in
theorem name_formed.calls (k : Nat) (a0 : ByteArray) (r : Bool) (w : World) (hT : Tabs w) (h : name_formed.f k a0 = some r) :
  Calls Tryz.prog 137 #[.string a0] w fun e w' => e = .returned (.bool r) ∧ Below w.heap.size w w' := by
 unfold name_formed.f at h
 split at h
 ·rename_i hs
  have cV := Tryz.utf8_ValidString a0 w (by omega) hT.u8
  clear hT
  by_cases h0 : a0.toList = []
  ·rw [if_pos h0] at h
   obtain rfl := Option.some.inj h
   have hb0 : a0.toList.isEmpty = true := by rw [h0]; rfl
   have hb1 : (a0.toList == ([] : List UInt8)) = true := by rw [h0]; rfl
   go_enter Tryz.func137, Tryz.ntmps137
   go_wp2_with fail
   go_ret
   exact ⟨rfl, Below.refl _ _⟩
  rw [if_neg h0] at h
  have hb0 : a0.toList.isEmpty = false := by cases hq : a0.toList with
   | nil => exact absurd hq h0
   | cons _ _ => rfl
  have hb1 : (a0.toList == ([] : List UInt8)) = false := by rw [beq_eq_false_iff_ne]; exact h0
  by_cases hv : Lib.validD a0.data.toList = true
  ·rw [if_pos hv] at h
   have H := Lib.hid h
   rw [hv] at cV
   clear h hv
   go_enter Tryz.func137, Tryz.ntmps137
   go_wp2_with (go_at_call 156; refine cV.mono ?_; rintro e w1 ⟨rfl, hb1⟩)
   go_loopw [3] (fun v3 wr => ∃ (pos fuel : Nat) (first : Bool), v3 = .bool first ∧ wr.heap[w1.heap.size]? = some (.stringIter a0 pos) ∧ Below w.heap.size w wr ∧ Hid (name_formed.go k a0 fuel pos first = some r)) (fun _ wr => a0.size - wr.iterPos w1.heap.size)
   case atStart => exact ⟨0, _, true, rfl, World.iter_heap w1 a0 0, hb1.alloc hb1.size _, H⟩
   case round =>
    obtain ⟨pos, fuel, first, rfl, hit, hbw, HG⟩ := hrel
    clear H
    have hsz : w1.heap.size < wr.heap.size := (Array.getElem?_eq_some_iff.1 hit).1
    have hsw : w.heap.size ≤ w1.heap.size := hb1.size
    cases fuel with
    | zero => exact absurd HG.out (by simp [name_formed.go])
    | succ f =>
     have hgo := HG.out
     clear HG
     unfold name_formed.go at hgo
     by_cases hp : pos < a0.size
     ·rw [if_pos hp] at hgo
      have hnx : ∀ ty, (Instr.next (.pointer (some ⟨w1.heap.size, 0, none⟩)) true ty).run Tryz.prog wr = _ := fun ty => Lib.run_next_any_at wr w1.heap.size a0 pos ty hit hp
      have Hwd := Lib.hid (Lib.width_pos a0 pos)
      have Hd1 := Lib.hid (decode_le a0 pos)
      have hit2 := Lib.iterAt_heap wr w1.heap.size a0 pos (pos + (Utf8.decode a0 pos).2) hit
      have hbw2 := Lib.below_iterAt hbw (k := w1.heap.size) hsw a0 (pos + (Utf8.decode a0 pos).2)
      obtain ⟨t, hst, hgo⟩ := Option.bind_eq_some_iff.1 hgo
      unfold name_formed.st at hst
      have hL := fun t h W => name_Letter.calls k ((Utf8.decode a0 pos).1 : Int) t W h
      have hD := fun t h W => name_digit.calls ((Utf8.decode a0 pos).1 : Int) t W h
      generalize hc : (((Utf8.decode a0 pos).1 : Nat) : Int) = c at hst hL hD hnx
      have Hc := Lib.hid hc
      clear hc
      have e00 : t = 0 → r = false := fun e => by rw [if_pos e] at hgo; exact (Option.some.inj hgo).symm
      have e10 : t ≠ 0 → name_formed.go k a0 f (pos + (Utf8.decode a0 pos).2) (decide (t = 2)) = some r := fun e => by rw [if_neg e] at hgo; exact hgo
      have E0 := Lib.hid e00
      have E1 := Lib.hid e10
      clear hgo e00 e10
      by_cases c46 : c = 46
      ·rw [if_pos c46] at hst
       have k46 : (c == 46) = true := by rw [c46]; rfl
       clear c46
       cases first with
       | true =>
        rw [if_pos rfl] at hst
        obtain rfl := Option.some.inj hst
        obtain rfl := E0.out rfl
        clear hst hL hD E0 E1 Hc
        go_wp2_with (first | fail)
        go_ret
        exact ⟨rfl, (by repeat (first | exact hbw2 | apply pw_below_drewN))⟩
       | false =>
        rw [if_neg (by decide)] at hst
        obtain rfl := Option.some.inj hst
        have HE := Lib.hid (E1.out (by decide))
        clear hst hL hD E0 E1 Hc
        go_wp2_with (first | fail)
        go_roundw
        case rel => exact ⟨_, f, _, rfl, hit2, (by repeat (first | exact hbw2 | apply pw_below_drewN)), HE⟩
        case measure =>
         have hwd := Hwd.out
         have hd1 := Hd1.out
         have hm : ∀ (X : World) n b, (X.drewN n).iterPos b = X.iterPos b := fun _ _ _ => rfl
         try simp only [hm]
         simp only [World.iterPos, hit2, hit]
         omega
      rw [if_neg c46] at hst
      have k46 : (c == 46) = false := beq_eq_false_iff_ne.2 c46
      clear c46
      obtain ⟨l, hl, hst⟩ := Option.bind_eq_some_iff.1 hst
      have cL := hL l hl
      clear hl
      cases l with
      | true =>
       rw [if_pos rfl] at hst
       obtain rfl := Option.some.inj hst
       have HE := Lib.hid (E1.out (by decide))
       clear hst hL hD E0 E1 Hc
       go_wp2_with (first | (go_at_call 197; refine (cL _).mono ?_; rintro e w2 ⟨rfl, ⟨n1, rfl⟩⟩))
       go_roundw
       case rel => exact ⟨_, f, _, rfl, hit2, (by repeat (first | exact hbw2 | apply pw_below_drewN)), HE⟩
       case measure =>
        have hwd := Hwd.out
        have hd1 := Hd1.out
        have hm : ∀ (X : World) n b, (X.drewN n).iterPos b = X.iterPos b := fun _ _ _ => rfl
        try simp only [hm]
        simp only [World.iterPos, hit2, hit]
        omega
      | false =>
       rw [if_neg (by decide)] at hst
       by_cases c95 : c = 95
       ·rw [if_pos c95] at hst
        have k95 : (c == 95) = true := by rw [c95]; rfl
        clear c95
        obtain rfl := Option.some.inj hst
        have HE := Lib.hid (E1.out (by decide))
        clear hst hL hD E0 E1 Hc
        go_wp2_with (first | (go_at_call 197; refine (cL _).mono ?_; rintro e w2 ⟨rfl, ⟨n1, rfl⟩⟩))
        go_roundw
        case rel => exact ⟨_, f, _, rfl, hit2, (by repeat (first | exact hbw2 | apply pw_below_drewN)), HE⟩
        case measure =>
         have hwd := Hwd.out
         have hd1 := Hd1.out
         have hm : ∀ (X : World) n b, (X.drewN n).iterPos b = X.iterPos b := fun _ _ _ => rfl
         try simp only [hm]
         simp only [World.iterPos, hit2, hit]
         omega
       rw [if_neg c95] at hst
       have k95 : (c == 95) = false := beq_eq_false_iff_ne.2 c95
       clear c95
       cases first with
       | true =>
        rw [if_pos rfl] at hst
        obtain rfl := Option.some.inj hst
        obtain rfl := E0.out rfl
        clear hst hL hD E0 E1 Hc
        go_wp2_with (first | (go_at_call 197; refine (cL _).mono ?_; rintro e w2 ⟨rfl, ⟨n1, rfl⟩⟩))
        go_ret
        exact ⟨rfl, (by repeat (first | exact hbw2 | apply pw_below_drewN))⟩
       | false =>
        rw [if_neg (by decide)] at hst
        obtain ⟨d, hd, hst⟩ := Option.bind_eq_some_iff.1 hst
        have cD := hD d hd
        clear hd
        cases d with
        | true =>
         rw [if_pos rfl] at hst
         obtain rfl := Option.some.inj hst
         have HE := Lib.hid (E1.out (by decide))
         clear hst hL hD E0 E1 Hc
         go_wp2_with (first | (go_at_call 197; refine (cL _).mono ?_; rintro e w2 ⟨rfl, ⟨n1, rfl⟩⟩) | (go_at_call 198; refine (cD _).mono ?_; rintro e w2 ⟨rfl, ⟨n2, rfl⟩⟩))
         go_roundw
         case rel => exact ⟨_, f, _, rfl, hit2, (by repeat (first | exact hbw2 | apply pw_below_drewN)), HE⟩
         case measure =>
          have hwd := Hwd.out
          have hd1 := Hd1.out
          have hm : ∀ (X : World) n b, (X.drewN n).iterPos b = X.iterPos b := fun _ _ _ => rfl
          try simp only [hm]
          simp only [World.iterPos, hit2, hit]
          omega
        | false =>
         rw [if_neg (by decide)] at hst
         by_cases c45 : c = 45
         ·rw [if_pos c45] at hst
          have k45 : (c == 45) = true := by rw [c45]; rfl
          clear c45
          obtain rfl := Option.some.inj hst
          have HE := Lib.hid (E1.out (by decide))
          clear hst hL hD E0 E1 Hc
          go_wp2_with (first | (go_at_call 197; refine (cL _).mono ?_; rintro e w2 ⟨rfl, ⟨n1, rfl⟩⟩) | (go_at_call 198; refine (cD _).mono ?_; rintro e w2 ⟨rfl, ⟨n2, rfl⟩⟩))
          go_roundw
          case rel => exact ⟨_, f, _, rfl, hit2, (by repeat (first | exact hbw2 | apply pw_below_drewN)), HE⟩
          case measure =>
           have hwd := Hwd.out
           have hd1 := Hd1.out
           have hm : ∀ (X : World) n b, (X.drewN n).iterPos b = X.iterPos b := fun _ _ _ => rfl
           try simp only [hm]
           simp only [World.iterPos, hit2, hit]
           omega
         rw [if_neg c45] at hst
         have k45 : (c == 45) = false := beq_eq_false_iff_ne.2 c45
         clear c45
         obtain rfl := Option.some.inj hst
         obtain rfl := E0.out rfl
         clear hst hL hD E0 E1 Hc
         go_wp2_with (first | (go_at_call 197; refine (cL _).mono ?_; rintro e w2 ⟨rfl, ⟨n1, rfl⟩⟩) | (go_at_call 198; refine (cD _).mono ?_; rintro e w2 ⟨rfl, ⟨n2, rfl⟩⟩))
         go_ret
         exact ⟨rfl, (by repeat (first | exact hbw2 | apply pw_below_drewN))⟩
     ·rw [if_neg hp] at hgo
      obtain rfl := Option.some.inj hgo
      have hnx : ∀ ty, (Instr.next (.pointer (some ⟨w1.heap.size, 0, none⟩)) true ty).run Tryz.prog wr = _ := fun ty => Lib.run_next_end_at wr w1.heap.size a0 pos ty hit hp
      go_wp2
      go_ret
      exact ⟨rfl, hbw⟩
  ·rw [if_neg hv] at h
   obtain rfl := Option.some.inj h
   rw [Bool.eq_false_iff.2 hv] at cV
   clear hv
   go_enter Tryz.func137, Tryz.ntmps137
   go_wp2_with (go_at_call 156; refine cV.mono ?_; rintro e w1 ⟨rfl, hb1⟩)
   go_ret
   exact ⟨rfl, hb1⟩
 ·cases h

/-! ### utf8_RuneCountInString: function 138, by hand -/
def utf8_RuneCountInString.f (a0 : ByteArray) : Option Int := if a0.size < 9223372036854775807 then some (Lib.runeCount a0 : Int) else none
theorem utf8_RuneCountInString.calls (a0 : ByteArray) (r : Int) (w : World) (h : utf8_RuneCountInString.f a0 = some r) :
  Calls Tryz.prog 138 #[.string a0] w fun e w' => e = .returned (.int .i64 r) ∧ Below w.heap.size w w' := by
 unfold utf8_RuneCountInString.f at h
 split at h
 ·rename_i hs
  obtain rfl := Option.some.inj h
  refine (Tryz.utf8_RuneCountInString a0 w hs).mono ?_
  rintro e w' ⟨he, pos, rfl⟩
  exact ⟨he, (Below.refl _ w).alloc (Nat.le_refl _) _⟩
 ·cases h

/-! ### strings_Count: function 139, by hand -/
def strings_Count.f (a0 : ByteArray) (a1 : ByteArray) : Option Int := if a1.size = 1 then some (Lib.countByte a0.data.toList (a1.data.toList.getD 0 0) : Int) else none
theorem strings_Count.calls (a0 : ByteArray) (a1 : ByteArray) (r : Int) (w : World) (h : strings_Count.f a0 a1 = some r) :
  Calls Tryz.prog 139 #[.string a0, .string a1] w fun e w' => e = .returned (.int .i64 r) ∧ Drawn0 w w' := by
 unfold strings_Count.f at h
 split at h
 ·rename_i hs
  obtain rfl := Option.some.inj h
  obtain ⟨c, rfl⟩ : ∃ c : UInt8, a1 = ⟨#[c]⟩ := by
   obtain ⟨⟨l⟩⟩ := a1
   match l, hs with
   | [c], _ => exact ⟨c, rfl⟩
  refine (Tryz.strings_Count_one a0 c w).mono ?_
  rintro e w' ⟨he, rfl⟩
  exact ⟨he, Drawn0.refl _⟩
 ·cases h

/-! ### name_Check: function 68 -/
def name_Check.f (k : Nat) (a0 : ByteArray) : Option (Int) := (name_formed.f k a0).bind fun t113 => (if t113 = true then ((utf8_RuneCountInString.f a0).bind fun t114 => (if t114 > 40 then (some 2) else ((strings_Count.f a0 (⟨#[46]⟩ : ByteArray)).bind fun t115 => (if t115 ≥ 5 then (some 2) else (some 0))))) else (some 3))
theorem name_Check.mono : ∀ a0 k, LeO (name_Check.f k a0) (name_Check.f (k + 1) a0) := by
 intro a0 k
 unfold name_Check.f
 repeat' (with_reducible first | exact name_formed.mono _ _ | exact LeO.refl _ | exact LeO.none _ | refine LeO.ite ?_ ?_ | refine LeO.bind ?_ (fun _ => ?_))
set_option maxHeartbeats 8000000 in
set_option maxRecDepth 100000 in
theorem name_Check.calls (k : Nat) (a0 : ByteArray) (r : Int) (w : World) (hT : Tabs w) (h : name_Check.f k a0 = some r) :
  Calls Tryz.prog 68 #[.string a0] w fun e w' => e = .returned (.int .i64 r) ∧ Below w.heap.size w w' := by
 have HB := Aside0.mk (Below.refl w.heap.size w)
 unfold name_Check.f at h
 have H := h
 clear h
 have HT := Aside0.mk hT
 clear hT
 replace H := Option.bind_eq_some_iff.mp H
 obtain ⟨t113, A20, H⟩ := H
 replace H : (if t113 = true then ((utf8_RuneCountInString.f a0).bind fun t114 => (if t114 > 40 then (some 2) else ((strings_Count.f a0 (⟨#[46]⟩ : ByteArray)).bind fun t115 => (if t115 ≥ 5 then (some 2) else (some 0))))) else (some 3)) = some r := H
 have A2 := Aside0.mk A20
 clear A20
 revert H; refine itR ?L5p ?L5n
 case' L5p =>
  intro c3 H
  subst c3
  replace H := bnA H
  obtain ⟨t114, A4, H⟩ := H
  revert H; refine itR ?L6p ?L6n
  case' L6p =>
   intro c5 H
   have c5b0 := gtT c5
   clear c5
   obtain rfl := Option.some.inj H
   have M1 := True.intro
   have M2 := True.intro
  case' L6n =>
   intro c5 H
   have c5b0 := gtF c5
   clear c5
   replace H := bnA H
   obtain ⟨t115, A6, H⟩ := H
   revert H; refine itR ?L7p ?L7n
   case' L7p =>
    intro c7 H
    have c7b0 := geT c7
    clear c7
    obtain rfl := Option.some.inj H
    have M1 := True.intro
    have M3 := True.intro
   case' L7n =>
    intro c7 H
    have c7b0 := geF c7
    clear c7
    obtain rfl := Option.some.inj H
    have M1 := True.intro
    have M3 := True.intro
 case' L5n =>
  intro c3 H
  replace c3 := Bool.eq_false_iff.mpr c3
  subst c3
  obtain rfl := Option.some.inj H
  have M4 := True.intro
 all_goals
  case _ =>
   go_enter Tryz.func68, Tryz.ntmps68
   go_wp2_with (first | ((with_reducible refine gate_callee (f := 137) rfl ?_); refine goesA (some 5) Tryz.func137 #[.string a0] ?_; (with_reducible refine (name_formed.calls _ _ _ _ ?side1 A2.out).mono ?_); (case side1 => exact Tabs.below HT.out (bwA)); rintro e w101 ⟨rfl, hb⟩; refine ⟨_, rfl, ?_⟩; replace HB := Aside0.mk (below_step (bwA) hb); (try clear hb); apply stopA; (case other => exact True.intro)))
   case _ =>
    first
     | clear M1
       go_wp2_with (first | ((with_reducible refine gate_callee (f := 138) rfl ?_); refine goesA (some 9) Tryz.func138 #[.string a0] ?_; (with_reducible refine (utf8_RuneCountInString.calls _ _ _ A4.out).mono ?_); rintro e w102 ⟨rfl, hb⟩; refine ⟨_, rfl, ?_⟩; replace HB := Aside0.mk (below_step (bwA) hb); (try clear hb); apply stopA; (case other => exact True.intro)))
       case _ =>
        first
         | clear M2
           (try go_wp2_with (fail))
           go_ret
           exact ⟨endA, bwA⟩
         | clear M3
           try go_wp2_with (first | (go_at_call 139; (with_reducible refine (strings_Count.calls _ _ _ _ A6.out).mono ?_); rintro e w' ⟨rfl, ⟨nd, rfl⟩⟩))
           go_ret
           exact ⟨endA, bwA⟩
     | clear M4
       (try go_wp2_with (fail))
       go_ret
       exact ⟨endA, bwA⟩
/-! ### forest_count: function 146 -/
def forest_count.f (a0 : Int) : Option (Bool) := if a0 ≥ 1 then (some (decide (a0 ≤ 1099511627775))) else (some false)
set_option maxHeartbeats 8000000 in
set_option maxRecDepth 100000 in
theorem forest_count.calls (a0 : Int) (r : Bool) (w : World) (h : forest_count.f a0 = some r) :
  Calls Tryz.prog 146 #[.int .i64 a0] w fun e w' => e = .returned (.bool r) ∧ Drawn0 w w' := by
 unfold forest_count.f at h
 have H := h
 clear h
 revert H; refine itR ?L1p ?L1n
 case' L1p =>
  intro c2 H
  have c2b0 := geT c2
  clear c2
  obtain rfl := Option.some.inj H
 case' L1n =>
  intro c2 H
  have c2b0 := geF c2
  clear c2
  obtain rfl := Option.some.inj H
 all_goals
  case _ =>
   go_enter Tryz.func146, Tryz.ntmps146
   go_wp2
   go_ret
   exact ⟨endS, drA⟩
/-! ### forest_IsID: function 73 -/
def forest_IsID.f (a0_0 : Int) (a0_1 : Int) (a0_2 : Int) : Option (Bool) := if a0_0 ≥ 1 then (if a0_0 ≤ 15 then ((forest_count.f a0_1).bind fun t117 => (if t117 = true then ((forest_count.f a0_2).bind fun t118 => (some t118)) else (some false))) else (some false)) else (some false)
set_option maxHeartbeats 8000000 in
set_option maxRecDepth 100000 in
theorem forest_IsID.calls (a0_0 : Int) (a0_1 : Int) (a0_2 : Int) (r : Bool) (w : World) (h : forest_IsID.f a0_0 a0_1 a0_2 = some r) :
  Calls Tryz.prog 73 #[.agg #[.int .i64 a0_0, .int .i64 a0_1, .int .i64 a0_2]] w fun e w' => e = .returned (.bool r) ∧ Below w.heap.size w w' := by
 have hu25 := Tryz.underlying25
 have HB := Aside0.mk (Below.refl w.heap.size w)
 unfold forest_IsID.f at h
 have H := h
 clear h
 revert H; refine itR ?L5p ?L5n
 case' L5p =>
  intro c2 H
  have c2b0 := geT c2
  clear c2
  revert H; refine itR ?L6p ?L6n
  case' L6p =>
   intro c3 H
   have c3b0 := decide_eq_true c3
   clear c3
   replace H := bnA H
   obtain ⟨t117, A4, H⟩ := H
   revert H; refine itR ?L7p ?L7n
   case' L7p =>
    intro c5 H
    subst c5
    replace H := bnA H
    obtain ⟨t118, A6, H⟩ := H
    obtain rfl := Option.some.inj H
    have M1 := True.intro
    have M2 := True.intro
   case' L7n =>
    intro c5 H
    replace c5 := Bool.eq_false_iff.mpr c5
    subst c5
    obtain rfl := Option.some.inj H
    have M1 := True.intro
    have M3 := True.intro
  case' L6n =>
   intro c3 H
   have c3b0 := decide_eq_false c3
   clear c3
   obtain rfl := Option.some.inj H
   have M4 := True.intro
 case' L5n =>
  intro c2 H
  have c2b0 := geF c2
  clear c2
  obtain rfl := Option.some.inj H
  have M4 := True.intro
 all_goals
  case _ =>
   go_enter Tryz.func73, Tryz.ntmps73
   go_wp2_with (first | ((with_reducible refine gate_dst (N := 1) rfl ?_); refine boxA 1 #[.int .i64 a0_0, .int .i64 a0_1, .int .i64 a0_2] 25 ?_; intro gb116 hg w101 hbox hb; have BK116 := Aside0.mk (hbox); have GW116 := Aside0.mk (hgW hg : w.heap.size ≤ gb116); have GE116 := Aside0.mk (hgW hg : w.heap.size ≤ gb116); replace HB := Aside0.mk (below_step (bwA) hb); clear hb hbox hg; have hcz102_0 := celA BK116.out 0 (.int .i64 a0_0); have hcz102_1 := celA BK116.out 1 (.int .i64 a0_1); have hcz102_2 := celA BK116.out 2 (.int .i64 a0_2); have hfz102_0 := blk_frozen BK116.out 0; have hfz102_1 := blk_frozen BK116.out 1; have hfz102_2 := blk_frozen BK116.out 2; apply stopA; (case other => exact True.intro)))
   case _ =>
    first
     | clear M1
       go_wp2_with (first | (go_at_call 146; (with_reducible refine (forest_count.calls _ _ _ A4.out).mono ?_); rintro e w' ⟨rfl, ⟨nd, rfl⟩⟩; apply stopA; (case other => exact True.intro)))
       case _ =>
        first
         | clear M2
           try go_wp2_with (first | (go_at_call 146; (with_reducible refine (forest_count.calls _ _ _ A6.out).mono ?_); rintro e w' ⟨rfl, ⟨nd, rfl⟩⟩))
           go_ret
           exact ⟨endA, bwA⟩
         | clear M3
           (try go_wp2_with (fail))
           go_ret
           exact ⟨endA, bwA⟩
     | clear M4
       (try go_wp2_with (fail))
       go_ret
       exact ⟨endA, bwA⟩
end Go.Proofs.YtkdndabpaajkaaaGreatDoor.A
