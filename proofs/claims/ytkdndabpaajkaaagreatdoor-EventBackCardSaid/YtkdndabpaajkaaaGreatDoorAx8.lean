-- By drv.py, the session's own driver round the kit's print: the machine's side of the laws, function by function. Not trusted: Lean checks it.
import Derived.Test.YtkdndabpaajkaaaGreatDoorAx0
import Derived.Test.YtkdndabpaajkaaaGreatDoorAx6
namespace Go.Proofs.YtkdndabpaajkaaaGreatDoor.A
open Go.RowKit Go.Proofs.YtkdndabpaajkaaaGreatDoorW.PrintWords Go.Proofs.YtkdndabpaajkaaaGreatDoorW.PrintLast Go.Proofs.YtkdndabpaajkaaaGreatDoorW.PrintMore
attribute [local go_sem] max2_int min2_int max_two min_two max_three min_three max_four min_four   -- for this text's walks alone
set_option linter.unusedVariables false
set_option linter.unusedSimpArgs false

/-! ### name_Small: function 209 -/
def name_Small.f (a0 : Int) : Option (Int) := (name_between.f a0 65 90).bind fun t119 => (if t119 = true then (some (wrap32 (a0 + 32))) else ((name_between.f a0 192 222).bind fun t120 => (if t120 = true then (if a0 = 215 then ((name_between.f a0 913 937).bind fun t121 => (if t121 = true then (if a0 = 930 then ((name_between.f a0 1040 1071).bind fun t122 => (if t122 = true then (some (wrap32 (a0 + 32))) else (some a0))) else (some (wrap32 (a0 + 32)))) else ((name_between.f a0 1040 1071).bind fun t123 => (if t123 = true then (some (wrap32 (a0 + 32))) else (some a0))))) else (some (wrap32 (a0 + 32)))) else ((name_between.f a0 913 937).bind fun t124 => (if t124 = true then (if a0 = 930 then ((name_between.f a0 1040 1071).bind fun t125 => (if t125 = true then (some (wrap32 (a0 + 32))) else (some a0))) else (some (wrap32 (a0 + 32)))) else ((name_between.f a0 1040 1071).bind fun t126 => (if t126 = true then (some (wrap32 (a0 + 32))) else (some a0))))))))
set_option maxHeartbeats 8000000 in
set_option maxRecDepth 100000 in
theorem name_Small.calls (a0 : Int) (r : Int) (w : World) (h : name_Small.f a0 = some r) :
  Calls Tryz.prog 209 #[.int .i32 a0] w fun e w' => e = .returned (.int .i32 r) ∧ Drawn0 w w' := by
 unfold name_Small.f at h
 have H := h
 clear h
 replace H := Option.bind_eq_some_iff.mp H
 obtain ⟨t119, A20, H⟩ := H
 replace H : (if t119 = true then (some (wrap32 (a0 + 32))) else ((name_between.f a0 192 222).bind fun t120 => (if t120 = true then (if a0 = 215 then ((name_between.f a0 913 937).bind fun t121 => (if t121 = true then (if a0 = 930 then ((name_between.f a0 1040 1071).bind fun t122 => (if t122 = true then (some (wrap32 (a0 + 32))) else (some a0))) else (some (wrap32 (a0 + 32)))) else ((name_between.f a0 1040 1071).bind fun t123 => (if t123 = true then (some (wrap32 (a0 + 32))) else (some a0))))) else (some (wrap32 (a0 + 32)))) else ((name_between.f a0 913 937).bind fun t124 => (if t124 = true then (if a0 = 930 then ((name_between.f a0 1040 1071).bind fun t125 => (if t125 = true then (some (wrap32 (a0 + 32))) else (some a0))) else (some (wrap32 (a0 + 32)))) else ((name_between.f a0 1040 1071).bind fun t126 => (if t126 = true then (some (wrap32 (a0 + 32))) else (some a0)))))))) = some r := H
 have A2 := Aside0.mk A20
 clear A20
 revert H; refine itR ?L15p ?L15n
 case' L15p =>
  intro c3 H
  subst c3
  obtain rfl := Option.some.inj H
  have M1 := True.intro
 case' L15n =>
  intro c3 H
  replace c3 := Bool.eq_false_iff.mpr c3
  subst c3
  replace H := bnA H
  obtain ⟨t120, A4, H⟩ := H
  revert H; refine itR ?L16p ?L16n
  case' L16p =>
   intro c5 H
   subst c5
   revert H; refine itR ?L17p ?L17n
   case' L17p =>
    intro c6 H
    obtain ⟨c6b0, c6b1⟩ := fcE c6
    clear c6
    replace H := bnA H
    obtain ⟨t121, A7, H⟩ := H
    revert H; refine itR ?L18p ?L18n
    case' L18p =>
     intro c8 H
     subst c8
     revert H; refine itR ?L19p ?L19n
     case' L19p =>
      intro c9 H
      obtain ⟨c9b0, c9b1⟩ := fcE c9
      clear c9
      replace H := bnA H
      obtain ⟨t122, A10, H⟩ := H
      revert H; refine itR ?L20p ?L20n
      case' L20p =>
       intro c11 H
       subst c11
       obtain rfl := Option.some.inj H
       have M2 := True.intro
       have M3 := True.intro
       have M4 := True.intro
       have M5 := True.intro
       have M6 := True.intro
      case' L20n =>
       intro c11 H
       replace c11 := Bool.eq_false_iff.mpr c11
       subst c11
       obtain rfl := Option.some.inj H
       have M2 := True.intro
       have M3 := True.intro
       have M4 := True.intro
       have M5 := True.intro
       have M6 := True.intro
     case' L19n =>
      intro c9 H
      obtain ⟨c9b0, c9b1⟩ := fcN c9
      obtain rfl := Option.some.inj H
      have M2 := True.intro
      have M3 := True.intro
      have M4 := True.intro
      have M8 := True.intro
    case' L18n =>
     intro c8 H
     replace c8 := Bool.eq_false_iff.mpr c8
     subst c8
     replace H := bnA H
     obtain ⟨t123, A9, H⟩ := H
     revert H; refine itR ?L21p ?L21n
     case' L21p =>
      intro c10 H
      subst c10
      obtain rfl := Option.some.inj H
      have M2 := True.intro
      have M3 := True.intro
      have M4 := True.intro
      have M5 := True.intro
      have M7 := True.intro
     case' L21n =>
      intro c10 H
      replace c10 := Bool.eq_false_iff.mpr c10
      subst c10
      obtain rfl := Option.some.inj H
      have M2 := True.intro
      have M3 := True.intro
      have M4 := True.intro
      have M5 := True.intro
      have M7 := True.intro
   case' L17n =>
    intro c6 H
    obtain ⟨c6b0, c6b1⟩ := fcN c6
    obtain rfl := Option.some.inj H
    have M2 := True.intro
    have M14 := True.intro
  case' L16n =>
   intro c5 H
   replace c5 := Bool.eq_false_iff.mpr c5
   subst c5
   replace H := bnA H
   obtain ⟨t124, A6, H⟩ := H
   revert H; refine itR ?L22p ?L22n
   case' L22p =>
    intro c7 H
    subst c7
    revert H; refine itR ?L23p ?L23n
    case' L23p =>
     intro c8 H
     obtain ⟨c8b0, c8b1⟩ := fcE c8
     clear c8
     replace H := bnA H
     obtain ⟨t125, A9, H⟩ := H
     revert H; refine itR ?L24p ?L24n
     case' L24p =>
      intro c10 H
      subst c10
      obtain rfl := Option.some.inj H
      have M2 := True.intro
      have M3 := True.intro
      have M9 := True.intro
      have M10 := True.intro
      have M11 := True.intro
     case' L24n =>
      intro c10 H
      replace c10 := Bool.eq_false_iff.mpr c10
      subst c10
      obtain rfl := Option.some.inj H
      have M2 := True.intro
      have M3 := True.intro
      have M9 := True.intro
      have M10 := True.intro
      have M11 := True.intro
    case' L23n =>
     intro c8 H
     obtain ⟨c8b0, c8b1⟩ := fcN c8
     obtain rfl := Option.some.inj H
     have M2 := True.intro
     have M3 := True.intro
     have M9 := True.intro
     have M13 := True.intro
   case' L22n =>
    intro c7 H
    replace c7 := Bool.eq_false_iff.mpr c7
    subst c7
    replace H := bnA H
    obtain ⟨t126, A8, H⟩ := H
    revert H; refine itR ?L25p ?L25n
    case' L25p =>
     intro c9 H
     subst c9
     obtain rfl := Option.some.inj H
     have M2 := True.intro
     have M3 := True.intro
     have M9 := True.intro
     have M10 := True.intro
     have M12 := True.intro
    case' L25n =>
     intro c9 H
     replace c9 := Bool.eq_false_iff.mpr c9
     subst c9
     obtain rfl := Option.some.inj H
     have M2 := True.intro
     have M3 := True.intro
     have M9 := True.intro
     have M10 := True.intro
     have M12 := True.intro
 all_goals
  case _ =>
   go_enter Tryz.func209, Tryz.ntmps209
   go_wp2_with (first | ((with_reducible refine gate_callee (f := 239) rfl ?_); refine goesA (some 4) Tryz.func239 #[.int .i32 a0, .int .i32 65, .int .i32 90] ?_; (with_reducible refine (name_between.calls _ _ _ _ _ A2.out).mono ?_); rintro e w' ⟨rfl, ⟨nd, rfl⟩⟩; refine ⟨_, rfl, ?_⟩; apply stopA; (case other => exact True.intro)))
   case _ =>
    first
     | clear M1
       (try go_wp2_with (fail))
       go_ret
       exact ⟨endS, drA⟩
     | clear M2
       go_wp2_with (first | (go_at_call 239; (with_reducible refine (name_between.calls _ _ _ _ _ A4.out).mono ?_); rintro e w' ⟨rfl, ⟨nd, rfl⟩⟩; apply stopA; (case other => exact True.intro)))
       case _ =>
        first
         | clear M3
           go_wp2_with (first | (go_at_call 239; apply stopA; (case other => exact True.intro)))
           case _ =>
            first
             | clear M4
               (with_reducible refine (name_between.calls _ _ _ _ _ A7.out).mono ?_)
               rintro e w' ⟨rfl, ⟨nd, rfl⟩⟩
               first
                | clear M5
                  go_wp2_with (first | (go_at_call 239; apply stopA; (case other => exact True.intro)))
                  case _ =>
                   first
                    | clear M6
                      (with_reducible refine (name_between.calls _ _ _ _ _ A10.out).mono ?_)
                      rintro e w' ⟨rfl, ⟨nd, rfl⟩⟩
                      (try go_wp2_with (fail))
                      go_ret
                      exact ⟨endS, drA⟩
                    | clear M7
                      (with_reducible refine (name_between.calls _ _ _ _ _ A9.out).mono ?_)
                      rintro e w' ⟨rfl, ⟨nd, rfl⟩⟩
                      (try go_wp2_with (fail))
                      go_ret
                      exact ⟨endS, drA⟩
                | clear M8
                  (try go_wp2_with (fail))
                  go_ret
                  exact ⟨endS, drA⟩
             | clear M9
               (with_reducible refine (name_between.calls _ _ _ _ _ A6.out).mono ?_)
               rintro e w' ⟨rfl, ⟨nd, rfl⟩⟩
               first
                | clear M10
                  go_wp2_with (first | (go_at_call 239; apply stopA; (case other => exact True.intro)))
                  case _ =>
                   first
                    | clear M11
                      (with_reducible refine (name_between.calls _ _ _ _ _ A9.out).mono ?_)
                      rintro e w' ⟨rfl, ⟨nd, rfl⟩⟩
                      (try go_wp2_with (fail))
                      go_ret
                      exact ⟨endS, drA⟩
                    | clear M12
                      (with_reducible refine (name_between.calls _ _ _ _ _ A8.out).mono ?_)
                      rintro e w' ⟨rfl, ⟨nd, rfl⟩⟩
                      (try go_wp2_with (fail))
                      go_ret
                      exact ⟨endS, drA⟩
                | clear M13
                  (try go_wp2_with (fail))
                  go_ret
                  exact ⟨endS, drA⟩
         | clear M14
           (try go_wp2_with (fail))
           go_ret
           exact ⟨endS, drA⟩
/-! ### name_Fold: function 155, by hand -/
theorem name_Fold.info : (Tryz.prog.info? 21).map (fun i => (i.zero, i.size, i.bytes)) = some (some (.int .i32 0), 1, 4) := by kernel_rfl
def name_Fold.go (s : ByteArray) : Nat → Nat → List Int → Option (List Int)
 | 0, _, _ => none
 | f + 1, pos, acc => if pos < s.size then (name_Small.f ((Utf8.decode s pos).1 : Int)).bind fun c => name_Fold.go s f (pos + (Utf8.decode s pos).2) (acc ++ [c]) else some acc
def name_Fold.f (a0 : ByteArray) : Option ByteArray := if a0.size ≤ 1099511627776 then (if Lib.validD a0.data.toList = true then (name_Fold.go a0 (a0.size + 1) 0 []).bind fun l => some (runesBytes l) else some a0) else none
set_option maxHeartbeats 4000000 in
set_option maxRecDepth 100000 in
theorem name_Fold.calls (a0 : ByteArray) (r : ByteArray) (w : World) (hT : Tabs w) (h : name_Fold.f a0 = some r) :
  Calls Tryz.prog 155 #[.string a0] w fun e w' => e = .returned (.string r) ∧ Below w.heap.size w w' := by
 unfold name_Fold.f at h
 split at h
 ·rename_i hs
  have cV := Tryz.utf8_ValidString a0 w (by omega) hT.u8
  by_cases hv : Lib.validD a0.data.toList = true
  ·rw [if_pos hv] at h
   obtain ⟨l, hl, h⟩ := Option.bind_eq_some_iff.1 h
   obtain rfl := Option.some.inj h
   have H := Lib.hid hl
   rw [hv] at cV
   clear h hv hl
   go_enter Tryz.func155, Tryz.ntmps155
   go_wp2_with (go_at_call 156; refine cV.mono ?_; rintro e w1 ⟨rfl, hb1⟩)
   go_loopw [3] (fun v3 wr => ∃ (pos fuel : Nat) (acc : List Int), wr.heap[w1.heap.size]? = some (.stringIter a0 pos) ∧ Kd.R (Kd.int .i32) 21 wr w.heap.size (fun k => k ≠ w1.heap.size) v3 acc ∧ Below w.heap.size w wr ∧ Hid (name_Fold.go a0 fuel pos acc = some l) ∧ acc.length ≤ pos) (fun _ wr => a0.size - wr.iterPos w1.heap.size)
   case atStart => exact ⟨0, _, [], World.iter_heap w1 a0 0, Kd.R_nil _ _ _ _ _, hb1.alloc hb1.size _, H, by simp⟩
   case round =>
    obtain ⟨pos, fuel, acc, hit, hR, hbw, HG, hal⟩ := hrel
    clear H
    have hsz : w1.heap.size < wr.heap.size := (Array.getElem?_eq_some_iff.1 hit).1
    have hsw : w.heap.size ≤ w1.heap.size := hb1.size
    cases fuel with
    | zero => exact absurd HG.out (by simp [name_Fold.go])
    | succ f =>
     have hgo := HG.out
     clear HG
     unfold name_Fold.go at hgo
     by_cases hp : pos < a0.size
     ·rw [if_pos hp] at hgo
      have hnx : ∀ ty, (Instr.next (.pointer (some ⟨w1.heap.size, 0, none⟩)) true ty).run Tryz.prog wr = _ := fun ty => Lib.run_next_any_at wr w1.heap.size a0 pos ty hit hp
      have Hwd := Lib.hid (Lib.width_pos a0 pos)
      have Hd1 := Lib.hid (decode_le a0 pos)
      have hit2 := Lib.iterAt_heap wr w1.heap.size a0 pos (pos + (Utf8.decode a0 pos).2) hit
      have hbw2 := Lib.below_iterAt hbw (k := w1.heap.size) hsw a0 (pos + (Utf8.decode a0 pos).2)
      have hR2 : Kd.R (Kd.int .i32) 21 (wr.iterAt w1.heap.size a0 (pos + (Utf8.decode a0 pos).2)) w.heap.size (fun k => k ≠ w1.heap.size) u3 acc := Kd.R_move hR (fun k hk => Lib.iterAt_other wr w1.heap.size k a0 _ hk)
      obtain ⟨c, hc, hgo⟩ := Option.bind_eq_some_iff.1 hgo
      have cS := fun W => name_Small.calls ((Utf8.decode a0 pos).1 : Int) c W hc
      generalize hq : (((Utf8.decode a0 pos).1 : Nat) : Int) = q at cS hnx
      have HE := Lib.hid hgo
      have hz2 : w1.heap.size < (wr.iterAt w1.heap.size a0 (pos + (Utf8.decode a0 pos).2)).heap.size := by rw [Lib.iterAt_size]; exact hsz
      have Hit := Lib.hid hit
      have HL := Lib.hid (show (acc.length + 1) * 4 ≤ 140737488355328 by omega)
      have HA := Lib.hid hal
      clear hgo hc hq hit hbw hR hal
      go_wp2_with (first | (go_at_call 209; refine (cS _).mono ?_; rintro e w2 ⟨rfl, ⟨nd, rfl⟩⟩) | ((with_reducible refine gate_builtin (b := .append) (xs := #[.tmp 15, .tmp 18]) rfl ?_); at_builtin; refine Kd.R_append (Kd.int .i32) (w0 := w) w.heap.size rfl (.tmp 15) (.tmp 18) 207 21 (.int .i32 0) 4 rfl Tryz.underlying207 name_Fold.info rfl (by decide) (by omega) u3 acc c [.int .i32 c] (fun k => k ≠ w1.heap.size) (fun _ => False) rfl (by first | (go_simp; done) | (go_simp; rfl)) rfl (fun _ hk => hk.elim) ?aF ?aO ?aB ?aS HL.out ?_; (case aF => (intro k hk he; rw [he] at hk; exact absurd (Nat.lt_of_lt_of_le hz2 hk) (Nat.lt_irrefl _))); (case aB => (repeat (first | exact hbw2 | apply pw_below_drewN))); (case aO => ((with_reducible repeat (first | apply Kd.R_alloc | apply Kd.R_drewN | apply Kd.R_drew)); exact hR2)); (case aS => exact hbw2.size); intro v4 w4 ho hb hg hat; have hit3 := blk_grown (show ((wr.iterAt w1.heap.size a0 (pos + (Utf8.decode a0 pos).2)).drewN nd).heap[w1.heap.size]? = _ from hit2) hg (fun e => hR2.1 _ e.symm rfl)))
      go_roundw
      case rel =>
       refine ⟨_, f, acc ++ [c], hit3, ho, hb, HE, ?_⟩
       have := HA.out
       have := Hwd.out
       rw [List.length_append]
       show acc.length + 1 ≤ _
       omega
      case measure =>
       have hwd := Hwd.out
       have hd1 := Hd1.out
       simp only [World.iterPos, hit3, Hit.out]
       omega
     ·rw [if_neg hp] at hgo
      obtain rfl := Option.some.inj hgo
      clear hal
      have hnx : ∀ ty, (Instr.next (.pointer (some ⟨w1.heap.size, 0, none⟩)) true ty).run Tryz.prog wr = _ := fun ty => Lib.run_next_end_at wr w1.heap.size a0 pos ty hit hp
      have hcv := own_runes (P := Tryz.prog) Tryz.underlying207 Tryz.underlying21 Tryz.underlying9 (Kd.own_of_R hR)
      go_wp2
      go_ret
      exact ⟨rfl, hbw⟩
  ·rw [if_neg hv] at h
   obtain rfl := Option.some.inj h
   rw [Bool.eq_false_iff.2 hv] at cV
   clear hv
   go_enter Tryz.func155, Tryz.ntmps155
   go_wp2_with (go_at_call 156; refine cV.mono ?_; rintro e w1 ⟨rfl, hb1⟩)
   go_ret
   exact ⟨rfl, hb1⟩
 ·cases h

/-! ### cmp_isNaN_rune: function 242 -/
def cmp_isNaN_rune.f (a0 : Int) : Option (Bool) := some (a0 != a0)
set_option maxHeartbeats 8000000 in
set_option maxRecDepth 100000 in
theorem cmp_isNaN_rune.calls (a0 : Int) (r : Bool) (w : World) (h : cmp_isNaN_rune.f a0 = some r) :
  Calls Tryz.prog 242 #[.int .i32 a0] w fun e w' => e = .returned (.bool r) ∧ Drawn0 w w' := by
 unfold cmp_isNaN_rune.f at h
 have H := h
 clear h
 obtain rfl := Option.some.inj H
 go_enter Tryz.func242, Tryz.ntmps242
 go_wp2
 go_ret
 exact ⟨endS, drA⟩

/-! ### cmp_Compare_rune: function 212 -/
def cmp_Compare_rune.f (a0 : Int) (a1 : Int) : Option (Int) := (cmp_isNaN_rune.f a0).bind fun t127 => ((cmp_isNaN_rune.f a1).bind fun t128 => (if t127 = true then (if t128 = true then (some 0) else (some (-1))) else (if t128 = true then (some 1) else (if a0 < a1 then (some (-1)) else (if a0 > a1 then (some 1) else (some 0))))))
set_option maxHeartbeats 8000000 in
set_option maxRecDepth 100000 in
theorem cmp_Compare_rune.calls (a0 : Int) (a1 : Int) (r : Int) (w : World) (h : cmp_Compare_rune.f a0 a1 = some r) :
  Calls Tryz.prog 212 #[.int .i32 a0, .int .i32 a1] w fun e w' => e = .returned (.int .i64 r) ∧ Drawn0 w w' := by
 unfold cmp_Compare_rune.f at h
 have H := h
 clear h
 replace H := Option.bind_eq_some_iff.mp H
 obtain ⟨t127, A30, H⟩ := H
 replace H : ((cmp_isNaN_rune.f a1).bind fun t128 => (if t127 = true then (if t128 = true then (some 0) else (some (-1))) else (if t128 = true then (some 1) else (if a0 < a1 then (some (-1)) else (if a0 > a1 then (some 1) else (some 0)))))) = some r := H
 have A3 := Aside0.mk A30
 clear A30
 replace H := Option.bind_eq_some_iff.mp H
 obtain ⟨t128, A40, H⟩ := H
 replace H : (if t127 = true then (if t128 = true then (some 0) else (some (-1))) else (if t128 = true then (some 1) else (if a0 < a1 then (some (-1)) else (if a0 > a1 then (some 1) else (some 0))))) = some r := H
 have A4 := Aside0.mk A40
 clear A40
 revert H; refine itR ?L1p ?L1n
 case' L1p =>
  intro c5 H
  subst c5
  revert H; refine itR ?L2p ?L2n
  case' L2p =>
   intro c6 H
   subst c6
   obtain rfl := Option.some.inj H
  case' L2n =>
   intro c6 H
   replace c6 := Bool.eq_false_iff.mpr c6
   subst c6
   obtain rfl := Option.some.inj H
 case' L1n =>
  intro c5 H
  replace c5 := Bool.eq_false_iff.mpr c5
  subst c5
  revert H; refine itR ?L3p ?L3n
  case' L3p =>
   intro c6 H
   subst c6
   obtain rfl := Option.some.inj H
  case' L3n =>
   intro c6 H
   replace c6 := Bool.eq_false_iff.mpr c6
   subst c6
   revert H; refine itR ?L4p ?L4n
   case' L4p =>
    intro c7 H
    have c7b0 := decide_eq_true c7
    clear c7
    obtain rfl := Option.some.inj H
   case' L4n =>
    intro c7 H
    have c7b0 := decide_eq_false c7
    clear c7
    revert H; refine itR ?L5p ?L5n
    case' L5p =>
     intro c8 H
     have c8b0 := gtT c8
     clear c8
     obtain rfl := Option.some.inj H
    case' L5n =>
     intro c8 H
     have c8b0 := gtF c8
     clear c8
     obtain rfl := Option.some.inj H
 all_goals
  case _ =>
   go_enter Tryz.func212, Tryz.ntmps212
   try go_wp2_with (first | ((with_reducible refine gate_callee (f := 242) rfl ?_); refine goesA (some 8) Tryz.func242 #[.int .i32 a0] ?_; (with_reducible refine (cmp_isNaN_rune.calls _ _ _ A3.out).mono ?_); rintro e w' ⟨rfl, ⟨nd, rfl⟩⟩; refine ⟨_, rfl, ?_⟩) | ((with_reducible refine gate_callee (f := 242) rfl ?_); refine goesA (some 10) Tryz.func242 #[.int .i32 a1] ?_; (with_reducible refine (cmp_isNaN_rune.calls _ _ _ A4.out).mono ?_); rintro e w' ⟨rfl, ⟨nd, rfl⟩⟩; refine ⟨_, rfl, ?_⟩))
   go_ret
   exact ⟨endS, drA⟩
/-! ### slices_Compare_rune_rune: function 158 -/
def slices_Compare_rune_rune.l0 : Nat → List Int → List Int → List Int → Int → Int → Option (Int)
 | 0, _, _, _, _, _ => none
 | k + 1, x0, x1, x9, x10, x11 => if x11 < x10 then (if 0 ≤ x11 then (if x11 < (x9.length : Int) then (if x11 ≥ (x1.length : Int) then (some 1) else (if x11 < (x1.length : Int) then ((cmp_Compare_rune.f (rd x9 x11) (rd x1 x11)).bind fun t131 => (if t131 = 0 then (slices_Compare_rune_rune.l0 k x0 x1 x9 x10 (wrap64 (x11 + 1))) else (some t131))) else (none))) else (none)) else (none)) else (if (x0.length : Int) < (x1.length : Int) then (some (-1)) else (some 0))
def slices_Compare_rune_rune.f (k : Nat) (l0 : List Int) (l1 : List Int) : Option (Int) := slices_Compare_rune_rune.l0 k l0 l1 l0 (l0.length : Int) 0
theorem slices_Compare_rune_rune.mono_l : ∀ k, (∀ y0 y1 y2 y3 y4, LeO (slices_Compare_rune_rune.l0 k y0 y1 y2 y3 y4) (slices_Compare_rune_rune.l0 (k + 1) y0 y1 y2 y3 y4))
 | 0 => fun _ _ _ _ _ r h => by simp [slices_Compare_rune_rune.l0] at h
 | k + 1 => by
  have ih0 := slices_Compare_rune_rune.mono_l k
  ·intro y0 y1 y2 y3 y4
   unfold slices_Compare_rune_rune.l0
   repeat' (with_reducible first | exact ih0 _ _ _ _ _ | exact LeO.refl _ | exact LeO.none _ | refine LeO.ite ?_ ?_ | refine LeO.bind ?_ (fun _ => ?_))
theorem slices_Compare_rune_rune.mono : ∀ a0 a1 k, LeO (slices_Compare_rune_rune.f k a0 a1) (slices_Compare_rune_rune.f (k + 1) a0 a1) := by
 intro a0 a1 k
 have ih0 := slices_Compare_rune_rune.mono_l k
 unfold slices_Compare_rune_rune.f
 repeat' (with_reducible first | exact ih0 _ _ _ _ _ | exact LeO.refl _ | exact LeO.none _ | refine LeO.ite ?_ ?_ | refine LeO.bind ?_ (fun _ => ?_))
set_option maxHeartbeats 8000000 in
set_option maxRecDepth 100000 in
theorem slices_Compare_rune_rune.calls (k : Nat) (A0 : Option Addr) (c0 : Nat) (l0 : List Int) (A1 : Option Addr) (c1 : Nat) (l1 : List Int) (r : Int) (w : World) (hr0 : Kd.C (Kd.int .i32) w A0 l0.length l0) (hc0 : l0.length ≤ c0) (hr1 : Kd.C (Kd.int .i32) w A1 l1.length l1) (hc1 : l1.length ≤ c1) (h : slices_Compare_rune_rune.f k l0 l1 = some r) :
  Calls Tryz.prog 158 #[.slice A0 l0.length c0, .slice A1 l1.length c1] w fun e w' => e = .returned (.int .i64 r) ∧ Drawn0 w w' := by
 have HR0 := Aside0.mk hr0
 have HC0 := Aside0.mk hc0
 clear hr0 hc0
 have HR1 := Aside0.mk hr1
 have HC1 := Aside0.mk hc1
 clear hr1 hc1
 unfold slices_Compare_rune_rune.f at h
 have H := h
 clear h
 have H' := Aside0.mk H
 clear H
 go_enter Tryz.func158, Tryz.ntmps158
 go_wp2
 go_loopg [11] k (fun kq v11 w' => ∃ (x11_1 : Int), v11 = .int .i64 x11_1 ∧ Aside0 (slices_Compare_rune_rune.l0 kq l0 l1 l0 (l0.length : Int) x11_1 = some r) ∧ Aside0 (kq ≤ k) ∧ Drawn0 w w')
 case atStart => exact ⟨(0), (endS), H', ⟨Nat.le_refl _⟩, drA⟩
 case round =>
  clear H'
  try clear c1
  try clear p2
  try clear c15
  obtain ⟨x11_1, rfl, HA, HK1, ⟨m1, rfl⟩⟩ := hrel
  cases gk with
  | zero => exact absurd HA.out (by simp [slices_Compare_rune_rune.l0])
  | succ k1 =>
   have H := HA.out
   clear HA
   simp only [slices_Compare_rune_rune.l0] at H
   revert H; refine itR ?L7p ?L7n
   case' L7p =>
    intro c101 H
    have c101b0 := decide_eq_true c101
    clear c101
    replace H := itN H
    obtain ⟨c102, H⟩ := H
    have c102b0 := decide_eq_true c102
    clear c102
    replace H := itN H
    obtain ⟨c103, H⟩ := H
    have c103b0 := decide_eq_true c103
    clear c103
    revert H; refine itR ?L8p ?L8n
    case' L8p =>
     intro c104 H
     have c104b0 := geT c104
     clear c104
     obtain rfl := Option.some.inj H
     have M1 := True.intro
     have M2 := True.intro
    case' L8n =>
     intro c104 H
     have c104b0 := geF c104
     clear c104
     replace H := itN H
     obtain ⟨c105, H⟩ := H
     have c105b0 := decide_eq_true c105
     clear c105
     replace H := bnA H
     obtain ⟨t131, A106, H⟩ := H
     revert H; refine itR ?L9p ?L9n
     case' L9p =>
      intro c107 H
      obtain ⟨c107b0, c107b1⟩ := fcE c107
      clear c107
      have H' := Aside0.mk H
      clear H
      have M1 := True.intro
      have M3 := True.intro
      have M4 := True.intro
     case' L9n =>
      intro c107 H
      obtain ⟨c107b0, c107b1⟩ := fcN c107
      obtain rfl := Option.some.inj H
      have M1 := True.intro
      have M3 := True.intro
      have M5 := True.intro
   case' L7n =>
    intro c101 H
    have c101b0 := decide_eq_false c101
    clear c101
    revert H; refine itR ?L10p ?L10n
    case' L10p =>
     intro c102 H
     have c102b0 := decide_eq_true c102
     have c102b1 : decide (l0.length < l1.length) = true := decide_eq_true (Int.ofNat_lt.mp c102)
     clear c102
     obtain rfl := Option.some.inj H
     have M6 := True.intro
    case' L10n =>
     intro c102 H
     have c102b0 := decide_eq_false c102
     have c102b1 : decide (l0.length < l1.length) = false := decide_eq_false (fun h => c102 (Int.ofNat_lt.mpr h))
     clear c102
     obtain rfl := Option.some.inj H
     have M6 := True.intro
   all_goals
    case _ =>
     first
      | clear M1
        have p129 : 0 ≤ (x11_1 : Int) := odA
        have q129 : x11_1 < (l0.length : Int) := odA
        obtain ⟨ad129, e129, hx129_0⟩ := Kd.at_int HR0.out x11_1 p129 q129
        cases e129
        replace p129 := eq_true p129
        replace q129 := eq_true q129
        first
         | clear M2
           go_wp2
           go_ret
           exact ⟨endS, drA⟩
         | clear M3
           have p130 : 0 ≤ (x11_1 : Int) := odA
           have q130 : x11_1 < (l1.length : Int) := odA
           obtain ⟨ad130, e130, hx130_0⟩ := Kd.at_int HR1.out x11_1 p130 q130
           cases e130
           replace p130 := eq_true p130
           replace q130 := eq_true q130
           try go_wp2_with (first | ((with_reducible refine gate_callee (f := 212) rfl ?_); refine goesA (some 26) Tryz.func212 #[.int .i32 (rd l0 x11_1), .int .i32 (rd l1 x11_1)] ?_; (with_reducible refine (cmp_Compare_rune.calls _ _ _ _ A106.out).mono ?_); rintro e w' ⟨rfl, ⟨nd, rfl⟩⟩; refine ⟨_, rfl, ?_⟩))
           first
            | clear M4
              go_roundg k1
              case measure => have := HK1.out; omega
              case rel => exact ⟨(wrap64 (x11_1 + 1)), (endS), H', ⟨by have := HK1.out; omega⟩, drA⟩
            | clear M5
              go_ret
              exact ⟨endS, drA⟩
      | clear M6
        go_wp2
        go_ret
        exact ⟨endS, drA⟩
end Go.Proofs.YtkdndabpaajkaaaGreatDoor.A
