-- By drv.py, the session's own driver round the kit's print: the machine's side of the laws, function by function. Not trusted: Lean checks it.
import Derived.Test.YtnbbajiabbmdmaaGreatDoorAx0
import Derived.Test.YtnbbajiabbmdmaaGreatDoorAx5
namespace Go.Proofs.YtnbbajiabbmdmaaGreatDoor.A
open Go.RowKit Go.Proofs.YtnbbajiabbmdmaaGreatDoorW.PrintWords Go.Proofs.YtnbbajiabbmdmaaGreatDoorW.PrintLast Go.Proofs.YtnbbajiabbmdmaaGreatDoorW.PrintMore
attribute [local go_sem] max2_int min2_int max_two min_two max_three min_three max_four min_four   -- for this text's walks alone
set_option linter.unusedVariables false
set_option linter.unusedSimpArgs false

/-! ### name_Fold: function 78, by hand -/
theorem name_Fold.info : (Tryz.prog.info? 21).map (fun i => (i.zero, i.size, i.bytes)) = some (some (.int .i32 0), 1, 4) := by kernel_rfl
def name_Fold.go (s : ByteArray) : Nat → Nat → List Int → Option (List Int)
 | 0, _, _ => none
 | f + 1, pos, acc => if pos < s.size then (name_Small.f ((Utf8.decode s pos).1 : Int)).bind fun c => name_Fold.go s f (pos + (Utf8.decode s pos).2) (acc ++ [c]) else some acc
def name_Fold.f (a0 : ByteArray) : Option ByteArray := if a0.size ≤ 1099511627776 then (if Lib.validD a0.data.toList = true then (name_Fold.go a0 (a0.size + 1) 0 []).bind fun l => some (runesBytes l) else some a0) else none
set_option maxHeartbeats 4000000 in
set_option maxRecDepth 100000 in
theorem name_Fold.calls (a0 : ByteArray) (r : ByteArray) (w : World) (hT : Tabs w) (h : name_Fold.f a0 = some r) :
  Calls Tryz.prog 78 #[.string a0] w fun e w' => e = .returned (.string r) ∧ Below w.heap.size w w' := by
 unfold name_Fold.f at h
 split at h
 ·rename_i hs
  have cV := Tryz.utf8_ValidString a0 w (by omega) hT.u8
  by_cases hv : Lib.validD a0.data.toList = true
  ·rw [if_pos hv] at h
   obtain ⟨l, hl, h⟩ := Option.bind_eq_some_iff.1 h
   obtain rfl := Option.some.inj h
   have H := Lib.hid hl
   rw [hv] at cV
   clear h hv hl
   go_enter Tryz.func78, Tryz.ntmps78
   go_wp2_with (go_at_call 79; refine cV.mono ?_; rintro e w1 ⟨rfl, hb1⟩)
   go_loopw [3] (fun v3 wr => ∃ (pos fuel : Nat) (acc : List Int), wr.heap[w1.heap.size]? = some (.stringIter a0 pos) ∧ Kd.R (Kd.int .i32) 21 wr w.heap.size (fun k => k ≠ w1.heap.size) v3 acc ∧ Below w.heap.size w wr ∧ Hid (name_Fold.go a0 fuel pos acc = some l) ∧ acc.length ≤ pos) (fun _ wr => a0.size - wr.iterPos w1.heap.size)
   case atStart => exact ⟨0, _, [], World.iter_heap w1 a0 0, Kd.R_nil _ _ _ _ _, hb1.alloc hb1.size _, H, by simp⟩
   case round =>
    obtain ⟨pos, fuel, acc, hit, hR, hbw, HG, hal⟩ := hrel
    clear H
    have hsz : w1.heap.size < wr.heap.size := (Array.getElem?_eq_some_iff.1 hit).1
    have hsw : w.heap.size ≤ w1.heap.size := hb1.size
    cases fuel with
    | zero => exact absurd HG.out (by simp [name_Fold.go])
    | succ f =>
     have hgo := HG.out
     clear HG
     unfold name_Fold.go at hgo
     by_cases hp : pos < a0.size
     ·rw [if_pos hp] at hgo
      have hnx : ∀ ty, (Instr.next (.pointer (some ⟨w1.heap.size, 0, none⟩)) true ty).run Tryz.prog wr = _ := fun ty => Lib.run_next_any_at wr w1.heap.size a0 pos ty hit hp
      have Hwd := Lib.hid (Lib.width_pos a0 pos)
      have Hd1 := Lib.hid (decode_le a0 pos)
      have hit2 := Lib.iterAt_heap wr w1.heap.size a0 pos (pos + (Utf8.decode a0 pos).2) hit
      have hbw2 := Lib.below_iterAt hbw (k := w1.heap.size) hsw a0 (pos + (Utf8.decode a0 pos).2)
      have hR2 : Kd.R (Kd.int .i32) 21 (wr.iterAt w1.heap.size a0 (pos + (Utf8.decode a0 pos).2)) w.heap.size (fun k => k ≠ w1.heap.size) u3 acc := Kd.R_move hR (fun k hk => Lib.iterAt_other wr w1.heap.size k a0 _ hk)
      obtain ⟨c, hc, hgo⟩ := Option.bind_eq_some_iff.1 hgo
      have cS := fun W => name_Small.calls ((Utf8.decode a0 pos).1 : Int) c W hc
      generalize hq : (((Utf8.decode a0 pos).1 : Nat) : Int) = q at cS hnx
      have HE := Lib.hid hgo
      have hz2 : w1.heap.size < (wr.iterAt w1.heap.size a0 (pos + (Utf8.decode a0 pos).2)).heap.size := by rw [Lib.iterAt_size]; exact hsz
      have Hit := Lib.hid hit
      have HL := Lib.hid (show (acc.length + 1) * 4 ≤ 140737488355328 by omega)
      have HA := Lib.hid hal
      clear hgo hc hq hit hbw hR hal
      go_wp2_with (first | (go_at_call 103; refine (cS _).mono ?_; rintro e w2 ⟨rfl, ⟨nd, rfl⟩⟩) | ((with_reducible refine gate_builtin (b := .append) (xs := #[.tmp 15, .tmp 18]) rfl ?_); at_builtin; refine Kd.R_append (Kd.int .i32) (w0 := w) w.heap.size rfl (.tmp 15) (.tmp 18) 123 21 (.int .i32 0) 4 rfl Tryz.underlying123 name_Fold.info rfl (by decide) (by omega) u3 acc c [.int .i32 c] (fun k => k ≠ w1.heap.size) (fun _ => False) rfl (by first | (go_simp; done) | (go_simp; rfl)) rfl (fun _ hk => hk.elim) ?aF ?aO ?aB ?aS HL.out ?_; (case aF => (intro k hk he; rw [he] at hk; exact absurd (Nat.lt_of_lt_of_le hz2 hk) (Nat.lt_irrefl _))); (case aB => (repeat (first | exact hbw2 | apply pw_below_drewN))); (case aO => ((with_reducible repeat (first | apply Kd.R_alloc | apply Kd.R_drewN | apply Kd.R_drew)); exact hR2)); (case aS => exact hbw2.size); intro v4 w4 ho hb hg hat; have hit3 := blk_grown (show ((wr.iterAt w1.heap.size a0 (pos + (Utf8.decode a0 pos).2)).drewN nd).heap[w1.heap.size]? = _ from hit2) hg (fun e => hR2.1 _ e.symm rfl)))
      go_roundw
      case rel =>
       refine ⟨_, f, acc ++ [c], hit3, ho, hb, HE, ?_⟩
       have := HA.out
       have := Hwd.out
       rw [List.length_append]
       show acc.length + 1 ≤ _
       omega
      case measure =>
       have hwd := Hwd.out
       have hd1 := Hd1.out
       simp only [World.iterPos, hit3, Hit.out]
       omega
     ·rw [if_neg hp] at hgo
      obtain rfl := Option.some.inj hgo
      clear hal
      have hnx : ∀ ty, (Instr.next (.pointer (some ⟨w1.heap.size, 0, none⟩)) true ty).run Tryz.prog wr = _ := fun ty => Lib.run_next_end_at wr w1.heap.size a0 pos ty hit hp
      have hcv := own_runes (P := Tryz.prog) Tryz.underlying123 Tryz.underlying21 Tryz.underlying9 (Kd.own_of_R hR)
      go_wp2
      go_ret
      exact ⟨rfl, hbw⟩
  ·rw [if_neg hv] at h
   obtain rfl := Option.some.inj h
   rw [Bool.eq_false_iff.2 hv] at cV
   clear hv
   go_enter Tryz.func78, Tryz.ntmps78
   go_wp2_with (go_at_call 79; refine cV.mono ?_; rintro e w1 ⟨rfl, hb1⟩)
   go_ret
   exact ⟨rfl, hb1⟩
 ·cases h

/-! ### cmp_isNaN_rune: function 127 -/
def cmp_isNaN_rune.f (a0 : Int) : Option (Bool) := some (a0 != a0)
set_option maxHeartbeats 8000000 in
set_option maxRecDepth 100000 in
theorem cmp_isNaN_rune.calls (a0 : Int) (r : Bool) (w : World) (h : cmp_isNaN_rune.f a0 = some r) :
  Calls Tryz.prog 127 #[.int .i32 a0] w fun e w' => e = .returned (.bool r) ∧ Drawn0 w w' := by
 have H : (some (a0 != a0)) = some r := h
 clear h
 obtain rfl := Option.some.inj H
 go_enter Tryz.func127, Tryz.ntmps127
 go_wp2
 go_ret
 exact ⟨endS, drA⟩

/-! ### cmp_Compare_rune: function 106 -/
def cmp_Compare_rune.f (a0 : Int) (a1 : Int) : Option (Int) := (cmp_isNaN_rune.f a0).bind fun t132 => ((cmp_isNaN_rune.f a1).bind fun t133 => (if t132 = true then (if t133 = true then (some 0) else (some (-1))) else (if t133 = true then (some 1) else (if a0 < a1 then (some (-1)) else (if a0 > a1 then (some 1) else (some 0))))))
set_option maxHeartbeats 8000000 in
set_option maxRecDepth 100000 in
theorem cmp_Compare_rune.calls (a0 : Int) (a1 : Int) (r : Int) (w : World) (h : cmp_Compare_rune.f a0 a1 = some r) :
  Calls Tryz.prog 106 #[.int .i32 a0, .int .i32 a1] w fun e w' => e = .returned (.int .i64 r) ∧ Drawn0 w w' := by
 have H : ((cmp_isNaN_rune.f a0).bind fun t132 => ((cmp_isNaN_rune.f a1).bind fun t133 => (if t132 = true then (if t133 = true then (some 0) else (some (-1))) else (if t133 = true then (some 1) else (if a0 < a1 then (some (-1)) else (if a0 > a1 then (some 1) else (some 0))))))) = some r := h
 clear h
 replace H := Option.bind_eq_some_iff.mp H
 obtain ⟨t132, A30, H⟩ := H
 replace H : ((cmp_isNaN_rune.f a1).bind fun t133 => (if t132 = true then (if t133 = true then (some 0) else (some (-1))) else (if t133 = true then (some 1) else (if a0 < a1 then (some (-1)) else (if a0 > a1 then (some 1) else (some 0)))))) = some r := H
 have A3 := Aside0.mk A30
 clear A30
 replace H := Option.bind_eq_some_iff.mp H
 obtain ⟨t133, A40, H⟩ := H
 replace H : (if t132 = true then (if t133 = true then (some 0) else (some (-1))) else (if t133 = true then (some 1) else (if a0 < a1 then (some (-1)) else (if a0 > a1 then (some 1) else (some 0))))) = some r := H
 have A4 := Aside0.mk A40
 clear A40
 by_cases c5 : t132 = true
 ·subst c5
  have H1 : (if t133 = true then (some 0) else (some (-1))) = some r := by rw [if_pos rfl] at H; exact H
  clear H
  have H := H1
  clear H1
  by_cases c6 : t133 = true
  ·subst c6
   have H1 : (some 0) = some r := by rw [if_pos rfl] at H; exact H
   clear H
   have H := H1
   clear H1
   obtain rfl := Option.some.inj H
   go_enter Tryz.func106, Tryz.ntmps106
   go_wp2_with (first | ((with_reducible refine gate_callee (f := 127) rfl ?_); refine goesA (some 8) Tryz.func127 #[.int .i32 a0] ?_; (with_reducible refine (cmp_isNaN_rune.calls a0 true _ A3.out).mono ?_); rintro e w' ⟨rfl, ⟨nd, rfl⟩⟩; refine ⟨_, rfl, ?_⟩) | ((with_reducible refine gate_callee (f := 127) rfl ?_); refine goesA (some 10) Tryz.func127 #[.int .i32 a1] ?_; (with_reducible refine (cmp_isNaN_rune.calls a1 true _ A4.out).mono ?_); rintro e w' ⟨rfl, ⟨nd, rfl⟩⟩; refine ⟨_, rfl, ?_⟩))
   go_ret
   exact ⟨endS, drA⟩
  ·replace c6 := Bool.eq_false_iff.mpr c6
   subst c6
   have H1 : (some (-1)) = some r := by rw [if_neg (show ¬ (false = true) by decide)] at H; exact H
   clear H
   have H := H1
   clear H1
   obtain rfl := Option.some.inj H
   go_enter Tryz.func106, Tryz.ntmps106
   go_wp2_with (first | ((with_reducible refine gate_callee (f := 127) rfl ?_); refine goesA (some 8) Tryz.func127 #[.int .i32 a0] ?_; (with_reducible refine (cmp_isNaN_rune.calls a0 true _ A3.out).mono ?_); rintro e w' ⟨rfl, ⟨nd, rfl⟩⟩; refine ⟨_, rfl, ?_⟩) | ((with_reducible refine gate_callee (f := 127) rfl ?_); refine goesA (some 10) Tryz.func127 #[.int .i32 a1] ?_; (with_reducible refine (cmp_isNaN_rune.calls a1 false _ A4.out).mono ?_); rintro e w' ⟨rfl, ⟨nd, rfl⟩⟩; refine ⟨_, rfl, ?_⟩))
   go_ret
   exact ⟨endS, drA⟩
 ·replace c5 := Bool.eq_false_iff.mpr c5
  subst c5
  have H1 : (if t133 = true then (some 1) else (if a0 < a1 then (some (-1)) else (if a0 > a1 then (some 1) else (some 0)))) = some r := by rw [if_neg (show ¬ (false = true) by decide)] at H; exact H
  clear H
  have H := H1
  clear H1
  by_cases c7 : t133 = true
  ·subst c7
   have H1 : (some 1) = some r := by rw [if_pos rfl] at H; exact H
   clear H
   have H := H1
   clear H1
   obtain rfl := Option.some.inj H
   go_enter Tryz.func106, Tryz.ntmps106
   go_wp2_with (first | ((with_reducible refine gate_callee (f := 127) rfl ?_); refine goesA (some 8) Tryz.func127 #[.int .i32 a0] ?_; (with_reducible refine (cmp_isNaN_rune.calls a0 false _ A3.out).mono ?_); rintro e w' ⟨rfl, ⟨nd, rfl⟩⟩; refine ⟨_, rfl, ?_⟩) | ((with_reducible refine gate_callee (f := 127) rfl ?_); refine goesA (some 10) Tryz.func127 #[.int .i32 a1] ?_; (with_reducible refine (cmp_isNaN_rune.calls a1 true _ A4.out).mono ?_); rintro e w' ⟨rfl, ⟨nd, rfl⟩⟩; refine ⟨_, rfl, ?_⟩))
   go_ret
   exact ⟨endS, drA⟩
  ·replace c7 := Bool.eq_false_iff.mpr c7
   subst c7
   have H1 : (if a0 < a1 then (some (-1)) else (if a0 > a1 then (some 1) else (some 0))) = some r := by rw [if_neg (show ¬ (false = true) by decide)] at H; exact H
   clear H
   have H := H1
   clear H1
   by_cases c8 : a0 < a1
   ·rw [if_pos c8] at H
    have c8b0 : decide (a0 < a1) = true := decide_eq_true c8
    clear c8
    obtain rfl := Option.some.inj H
    go_enter Tryz.func106, Tryz.ntmps106
    go_wp2_with (first | ((with_reducible refine gate_callee (f := 127) rfl ?_); refine goesA (some 8) Tryz.func127 #[.int .i32 a0] ?_; (with_reducible refine (cmp_isNaN_rune.calls a0 false _ A3.out).mono ?_); rintro e w' ⟨rfl, ⟨nd, rfl⟩⟩; refine ⟨_, rfl, ?_⟩) | ((with_reducible refine gate_callee (f := 127) rfl ?_); refine goesA (some 10) Tryz.func127 #[.int .i32 a1] ?_; (with_reducible refine (cmp_isNaN_rune.calls a1 false _ A4.out).mono ?_); rintro e w' ⟨rfl, ⟨nd, rfl⟩⟩; refine ⟨_, rfl, ?_⟩))
    go_ret
    exact ⟨endS, drA⟩
   ·rw [if_neg c8] at H
    have c8b0 : decide (a0 < a1) = false := decide_eq_false c8
    clear c8
    by_cases c9 : a0 > a1
    ·rw [if_pos c9] at H
     have c9b0 : decide (a1 < a0) = true := decide_eq_true c9
     clear c9
     obtain rfl := Option.some.inj H
     go_enter Tryz.func106, Tryz.ntmps106
     go_wp2_with (first | ((with_reducible refine gate_callee (f := 127) rfl ?_); refine goesA (some 8) Tryz.func127 #[.int .i32 a0] ?_; (with_reducible refine (cmp_isNaN_rune.calls a0 false _ A3.out).mono ?_); rintro e w' ⟨rfl, ⟨nd, rfl⟩⟩; refine ⟨_, rfl, ?_⟩) | ((with_reducible refine gate_callee (f := 127) rfl ?_); refine goesA (some 10) Tryz.func127 #[.int .i32 a1] ?_; (with_reducible refine (cmp_isNaN_rune.calls a1 false _ A4.out).mono ?_); rintro e w' ⟨rfl, ⟨nd, rfl⟩⟩; refine ⟨_, rfl, ?_⟩))
     go_ret
     exact ⟨endS, drA⟩
    ·rw [if_neg c9] at H
     have c9b0 : decide (a1 < a0) = false := decide_eq_false c9
     clear c9
     obtain rfl := Option.some.inj H
     go_enter Tryz.func106, Tryz.ntmps106
     go_wp2_with (first | ((with_reducible refine gate_callee (f := 127) rfl ?_); refine goesA (some 8) Tryz.func127 #[.int .i32 a0] ?_; (with_reducible refine (cmp_isNaN_rune.calls a0 false _ A3.out).mono ?_); rintro e w' ⟨rfl, ⟨nd, rfl⟩⟩; refine ⟨_, rfl, ?_⟩) | ((with_reducible refine gate_callee (f := 127) rfl ?_); refine goesA (some 10) Tryz.func127 #[.int .i32 a1] ?_; (with_reducible refine (cmp_isNaN_rune.calls a1 false _ A4.out).mono ?_); rintro e w' ⟨rfl, ⟨nd, rfl⟩⟩; refine ⟨_, rfl, ?_⟩))
     go_ret
     exact ⟨endS, drA⟩

/-! ### slices_Compare_rune_rune: function 81 -/
def slices_Compare_rune_rune.l0 : Nat → List Int → List Int → List Int → Int → Int → Option (Int)
 | 0, _, _, _, _, _ => none
 | k + 1, x0, x1, x9, x10, x11 => if x11 < x10 then (if 0 ≤ x11 then (if x11 < (x9.length : Int) then (if x11 ≥ (x1.length : Int) then (some 1) else (if x11 < (x1.length : Int) then ((cmp_Compare_rune.f (rd x9 x11) (rd x1 x11)).bind fun t136 => (if t136 = 0 then (slices_Compare_rune_rune.l0 k x0 x1 x9 x10 (wrap64 (x11 + 1))) else (some t136))) else (none))) else (none)) else (none)) else (if (x0.length : Int) < (x1.length : Int) then (some (-1)) else (some 0))
def slices_Compare_rune_rune.f (k : Nat) (l0 : List Int) (l1 : List Int) : Option (Int) := slices_Compare_rune_rune.l0 k l0 l1 l0 (l0.length : Int) 0
theorem slices_Compare_rune_rune.mono_l : ∀ k, (∀ y0 y1 y2 y3 y4, LeO (slices_Compare_rune_rune.l0 k y0 y1 y2 y3 y4) (slices_Compare_rune_rune.l0 (k + 1) y0 y1 y2 y3 y4))
 | 0 => fun _ _ _ _ _ r h => by simp [slices_Compare_rune_rune.l0] at h
 | k + 1 => by
  have ih0 := slices_Compare_rune_rune.mono_l k
  ·intro y0 y1 y2 y3 y4
   unfold slices_Compare_rune_rune.l0
   repeat' first
   | (with_reducible exact ih0 _ _ _ _ _)
   | (with_reducible exact LeO.refl _)
   | (with_reducible exact LeO.none _)
   | (with_reducible refine LeO.ite ?_ ?_)
   | (with_reducible refine LeO.bind ?_ (fun _ => ?_))
   | exact ih0 _ _ _ _ _
   | exact LeO.none _
   | refine LeO.ite ?_ ?_
   | refine LeO.bind ?_ (fun _ => ?_)
theorem slices_Compare_rune_rune.mono : ∀ a0 a1 k, LeO (slices_Compare_rune_rune.f k a0 a1) (slices_Compare_rune_rune.f (k + 1) a0 a1) := by
 intro a0 a1 k
 have ih0 := slices_Compare_rune_rune.mono_l k
 unfold slices_Compare_rune_rune.f
 repeat' first
   | (with_reducible exact ih0 _ _ _ _ _)
   | (with_reducible exact LeO.refl _)
   | (with_reducible exact LeO.none _)
   | (with_reducible refine LeO.ite ?_ ?_)
   | (with_reducible refine LeO.bind ?_ (fun _ => ?_))
   | exact ih0 _ _ _ _ _
   | exact LeO.none _
   | refine LeO.ite ?_ ?_
   | refine LeO.bind ?_ (fun _ => ?_)
set_option maxHeartbeats 8000000 in
set_option maxRecDepth 100000 in
theorem slices_Compare_rune_rune.calls (k : Nat) (A0 : Option Addr) (c0 : Nat) (l0 : List Int) (A1 : Option Addr) (c1 : Nat) (l1 : List Int) (r : Int) (w : World) (hr0 : Kd.C (Kd.int .i32) w A0 l0.length l0) (hc0 : l0.length ≤ c0) (hr1 : Kd.C (Kd.int .i32) w A1 l1.length l1) (hc1 : l1.length ≤ c1) (h : slices_Compare_rune_rune.f k l0 l1 = some r) :
  Calls Tryz.prog 81 #[.slice A0 l0.length c0, .slice A1 l1.length c1] w fun e w' => e = .returned (.int .i64 r) ∧ Drawn0 w w' := by
 have HR0 := Aside0.mk hr0
 have HC0 := Aside0.mk hc0
 clear hr0 hc0
 have HR1 := Aside0.mk hr1
 have HC1 := Aside0.mk hc1
 clear hr1 hc1
 have H : (slices_Compare_rune_rune.l0 k l0 l1 l0 (l0.length : Int) 0) = some r := h
 clear h
 have H' := Aside0.mk H
 clear H
 go_enter Tryz.func81, Tryz.ntmps81
 go_wp2
 go_loopg [11] k (fun kq v11 w' => ∃ (x11_1 : Int), v11 = .int .i64 x11_1 ∧ Aside0 (slices_Compare_rune_rune.l0 kq l0 l1 l0 (l0.length : Int) x11_1 = some r) ∧ Aside0 (kq ≤ k) ∧ Drawn0 w w')
 case atStart => exact ⟨(0), (endS), H', ⟨Nat.le_refl _⟩, drA⟩
 case round =>
  clear H'
  try clear c1
  try clear p2
  obtain ⟨x11_1, rfl, HA, HK1, ⟨m1, rfl⟩⟩ := hrel
  cases gk with
  | zero => exact absurd HA.out (by simp [slices_Compare_rune_rune.l0])
  | succ k1 =>
   have H := HA.out
   clear HA
   simp only [slices_Compare_rune_rune.l0] at H
   by_cases c3 : x11_1 < (l0.length : Int)
   ·rw [if_pos c3] at H
    have c3b0 : decide (x11_1 < (l0.length : Int)) = true := decide_eq_true c3
    clear c3
    by_cases c4 : 0 ≤ x11_1
    ·rw [if_pos c4] at H
     have c4b0 : decide (0 ≤ x11_1) = true := decide_eq_true c4
     clear c4
     by_cases c5 : x11_1 < (l0.length : Int)
     ·rw [if_pos c5] at H
      have c5b0 : decide (x11_1 < (l0.length : Int)) = true := decide_eq_true c5
      clear c5
      by_cases c6 : x11_1 ≥ (l1.length : Int)
      ·rw [if_pos c6] at H
       have c6b0 : decide ((l1.length : Int) ≤ x11_1) = true := decide_eq_true c6
       clear c6
       obtain rfl := Option.some.inj H
       have p134 : 0 ≤ (x11_1 : Int) := odA
       have q134 : x11_1 < (l0.length : Int) := odA
       obtain ⟨ad134, e134, hx134_0⟩ := Kd.at_int HR0.out x11_1 p134 q134
       cases e134
       replace p134 := eq_true p134
       replace q134 := eq_true q134
       go_wp2
       go_ret
       exact ⟨endS, drA⟩
      ·rw [if_neg c6] at H
       have c6b0 : decide ((l1.length : Int) ≤ x11_1) = false := decide_eq_false c6
       clear c6
       by_cases c7 : x11_1 < (l1.length : Int)
       ·rw [if_pos c7] at H
        have c7b0 : decide (x11_1 < (l1.length : Int)) = true := decide_eq_true c7
        clear c7
        replace H := Option.bind_eq_some_iff.mp H
        obtain ⟨t136, A80, H⟩ := H
        replace H : (if t136 = 0 then (slices_Compare_rune_rune.l0 k1 l0 l1 l0 (l0.length : Int) (wrap64 (x11_1 + 1))) else (some t136)) = some r := H
        have A8 := Aside0.mk A80
        clear A80
        by_cases c9 : t136 = 0
        ·rw [if_pos c9] at H
         have c9b0 : (t136 == 0) = true := beq_iff_eq.mpr c9
         have c9b1 : (t136 != 0) = false := bne_eq_false_iff_eq.mpr c9
         clear c9
         have H' := Aside0.mk H
         clear H
         have p134 : 0 ≤ (x11_1 : Int) := odA
         have q134 : x11_1 < (l0.length : Int) := odA
         obtain ⟨ad134, e134, hx134_0⟩ := Kd.at_int HR0.out x11_1 p134 q134
         cases e134
         replace p134 := eq_true p134
         replace q134 := eq_true q134
         have p135 : 0 ≤ (x11_1 : Int) := odA
         have q135 : x11_1 < (l1.length : Int) := odA
         obtain ⟨ad135, e135, hx135_0⟩ := Kd.at_int HR1.out x11_1 p135 q135
         cases e135
         replace p135 := eq_true p135
         replace q135 := eq_true q135
         go_wp2_with (first | ((with_reducible refine gate_callee (f := 106) rfl ?_); refine goesA (some 26) Tryz.func106 #[.int .i32 (rd l0 x11_1), .int .i32 (rd l1 x11_1)] ?_; (with_reducible refine (cmp_Compare_rune.calls (rd l0 x11_1) (rd l1 x11_1) t136 _ A8.out).mono ?_); rintro e w' ⟨rfl, ⟨nd, rfl⟩⟩; refine ⟨_, rfl, ?_⟩))
         go_roundg k1
         case measure => have := HK1.out; omega
         case rel => exact ⟨(wrap64 (x11_1 + 1)), (endS), H', ⟨by have := HK1.out; omega⟩, drA⟩
        ·rw [if_neg c9] at H
         have c9b0 : (t136 == 0) = false := beq_eq_false_iff_ne.mpr c9
         have c9b1 : (t136 != 0) = true := bne_iff_ne.mpr c9
         obtain rfl := Option.some.inj H
         have p134 : 0 ≤ (x11_1 : Int) := odA
         have q134 : x11_1 < (l0.length : Int) := odA
         obtain ⟨ad134, e134, hx134_0⟩ := Kd.at_int HR0.out x11_1 p134 q134
         cases e134
         replace p134 := eq_true p134
         replace q134 := eq_true q134
         have p135 : 0 ≤ (x11_1 : Int) := odA
         have q135 : x11_1 < (l1.length : Int) := odA
         obtain ⟨ad135, e135, hx135_0⟩ := Kd.at_int HR1.out x11_1 p135 q135
         cases e135
         replace p135 := eq_true p135
         replace q135 := eq_true q135
         go_wp2_with (first | ((with_reducible refine gate_callee (f := 106) rfl ?_); refine goesA (some 26) Tryz.func106 #[.int .i32 (rd l0 x11_1), .int .i32 (rd l1 x11_1)] ?_; (with_reducible refine (cmp_Compare_rune.calls (rd l0 x11_1) (rd l1 x11_1) t136 _ A8.out).mono ?_); rintro e w' ⟨rfl, ⟨nd, rfl⟩⟩; refine ⟨_, rfl, ?_⟩))
         go_ret
         exact ⟨endS, drA⟩
       ·rw [if_neg c7] at H
        exact absurd H (by simp)
     ·rw [if_neg c5] at H
      exact absurd H (by simp)
    ·rw [if_neg c4] at H
     exact absurd H (by simp)
   ·rw [if_neg c3] at H
    have c3b0 : decide (x11_1 < (l0.length : Int)) = false := decide_eq_false c3
    clear c3
    by_cases c10 : (l0.length : Int) < (l1.length : Int)
    ·rw [if_pos c10] at H
     have c10b0 : decide ((l0.length : Int) < (l1.length : Int)) = true := decide_eq_true c10
     have c10b1 : decide (l0.length < l1.length) = true := decide_eq_true (Int.ofNat_lt.mp c10)
     clear c10
     obtain rfl := Option.some.inj H
     go_wp2
     go_ret
     exact ⟨endS, drA⟩
    ·rw [if_neg c10] at H
     have c10b0 : decide ((l0.length : Int) < (l1.length : Int)) = false := decide_eq_false c10
     have c10b1 : decide (l0.length < l1.length) = false := decide_eq_false (fun h => c10 (Int.ofNat_lt.mpr h))
     clear c10
     obtain rfl := Option.some.inj H
     go_wp2
     go_ret
     exact ⟨endS, drA⟩

/-! ### name_Compare: function 45, by hand -/
def name_Compare.f (k : Nat) (a0 : ByteArray) (a1 : ByteArray) : Option Int := (name_Fold.f a0).bind fun x => (name_Fold.f a1).bind fun y => if x.size ≤ 1099511627776 then (if y.size ≤ 1099511627776 then (if Lib.validD x.data.toList = true then (if Lib.validD y.data.toList = true then slices_Compare_rune_rune.f k (runesI x x.size 0) (runesI y y.size 0) else none) else none) else none) else none
theorem name_Compare.mono : ∀ a0 a1 k, LeO (name_Compare.f k a0 a1) (name_Compare.f (k + 1) a0 a1) := by
 intro a0 a1 k
 unfold name_Compare.f
 repeat' first
  | (with_reducible exact LeO.refl _)
  | (with_reducible exact LeO.none _)
  | (with_reducible exact slices_Compare_rune_rune.mono _ _ _)
  | (with_reducible refine LeO.ite ?_ ?_)
  | (with_reducible refine LeO.bind ?_ (fun _ => ?_))
set_option maxHeartbeats 4000000 in
set_option maxRecDepth 100000 in
theorem name_Compare.calls (k : Nat) (a0 : ByteArray) (a1 : ByteArray) (r : Int) (w : World) (hT : Tabs w) (h : name_Compare.f k a0 a1 = some r) :
  Calls Tryz.prog 45 #[.string a0, .string a1] w fun e w' => e = .returned (.int .i64 r) ∧ Below w.heap.size w w' := by
 unfold name_Compare.f at h
 obtain ⟨x, hx, h⟩ := Option.bind_eq_some_iff.1 h
 obtain ⟨y, hy, h⟩ := Option.bind_eq_some_iff.1 h
 split at h
 ·rename_i zx
  split at h
  ·rename_i zy
   split at h
   ·rename_i vx
    split at h
    ·rename_i vy
     have cX := fun W (hb : Below w.heap.size w W) => name_Fold.calls a0 x W (hT.below hb) hx
     have cY := fun W (hb : Below w.heap.size w W) => name_Fold.calls a1 y W (hT.below hb) hy
     have cV := fun W (hb : Below w.heap.size w W) => Tryz.utf8_ValidString x W (by omega) (hT.below hb).u8
     have cU := fun W (hb : Below w.heap.size w W) => Tryz.utf8_ValidString y W (by omega) (hT.below hb).u8
     rw [vx] at cV
     rw [vy] at cU
     obtain ⟨cp1, cl1, hc1, hf1⟩ := run_runes (P := Tryz.prog) 9 123 21 x Tryz.underlying9 Tryz.underlying123 Tryz.underlying21 zx
     obtain ⟨cp2, cl2, hc2, hf2⟩ := run_runes (P := Tryz.prog) 9 123 21 y Tryz.underlying9 Tryz.underlying123 Tryz.underlying21 zy
     have cC := fun A0 c0 A1 c1 W h0 z0 h1 z1 => slices_Compare_rune_rune.calls k A0 c0 (runesI x x.size 0) A1 c1 (runesI y y.size 0) r W h0 z0 h1 z1 h
     generalize runesI x x.size 0 = lx at *
     generalize runesI y y.size 0 = ly at *
     clear h zx zy hT hx hy vx vy
     have cC2 : ∀ W : World, Below w.heap.size w W → Calls Tryz.prog 81 #[.slice (some ⟨W.heap.size, 0, none⟩) lx.length (cp1 W), .slice (some ⟨W.heap.size + 1, 0, none⟩) ly.length (cp2 (W.drew.alloc (.cells (cl1 W) 21)))] ((W.drew.alloc (.cells (cl1 W) 21)).drew.alloc (.cells (cl2 (W.drew.alloc (.cells (cl1 W) 21))) 21)) fun e w' => e = .returned (.int .i64 r) ∧ Below w.heap.size w w' := by
      intro W hW
      have q1 := hf1 W
      have q2 := hf2 (W.drew.alloc (.cells (cl1 W) 21))
      have e1 : (W.drew.alloc (.cells (cl1 W) 21)).heap.size = W.heap.size + 1 := by
       show (W.heap.push _).size = _
       rw [Array.size_push]
      rw [e1] at q2
      refine (cC _ _ _ _ _ (Kd.C_below q1.2 (by repeat (first | exact Below.refl _ _ | apply below_alloc | apply below_drew1))) q1.1 q2.2 q2.1).mono ?_
      rintro e w5 ⟨rfl, ⟨n5, rfl⟩⟩
      exact ⟨rfl, by repeat (first | exact hW | apply below_alloc | apply pw_below_drewN | apply below_drew1)⟩
     clear hf1 hf2 cC
     go_enter Tryz.func45, Tryz.ntmps45
     go_wp2_with (first | (go_at_call_of 78 (Value.string a0); refine (cX _ (Below.refl _ _)).mono ?_; rintro e w1 ⟨rfl, hb1⟩) | (go_at_call_of 78 (Value.string a1); refine (cY _ hb1).mono ?_; rintro e w2 ⟨rfl, hb2⟩; have hB2 := hb1.trans (hb2.mono hb1.size)) | (go_at_call_of 79 (Value.string x); refine (cV _ hB2).mono ?_; rintro e w3 ⟨rfl, hb3⟩; have hB3 := hB2.trans (hb3.mono hB2.size)) | (go_at_call_of 79 (Value.string y); refine (cU _ hB3).mono ?_; rintro e w4 ⟨rfl, hb4⟩; have hB4 := hB3.trans (hb4.mono hB3.size)) | (go_at_call 81; go_loud (refine (cC2 w4 hB4).mono ?_); rintro e w5 ⟨rfl, hB5⟩))
     go_ret
     exact ⟨rfl, hB5⟩
    ·cases h
   ·cases h
  ·cases h
 ·cases h

end Go.Proofs.YtnbbajiabbmdmaaGreatDoor.A
