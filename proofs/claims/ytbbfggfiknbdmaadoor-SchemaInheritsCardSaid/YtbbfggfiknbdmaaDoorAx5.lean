-- By drv.py, the session's own driver round the kit's print: the machine's side of the laws, function by function. Not trusted: Lean checks it.
import Derived.Test.YtbbfggfiknbdmaaDoorAx0
import Derived.Test.YtbbfggfiknbdmaaDoorAx4
namespace Go.Proofs.YtbbfggfiknbdmaaDoor.A
open Go.RowKit Go.Proofs.YtbbfggfiknbdmaaDoorW.PrintWords Go.Proofs.YtbbfggfiknbdmaaDoorW.PrintLast Go.Proofs.YtbbfggfiknbdmaaDoorW.PrintMore
attribute [local go_sem] max2_int min2_int max_two min_two max_three min_three max_four min_four   -- for this text's walks alone
set_option linter.unusedVariables false
set_option linter.unusedSimpArgs false

/-! ### name_Compare: function 29, by hand -/
def name_Compare.f (k : Nat) (a0 : ByteArray) (a1 : ByteArray) : Option Int := (name_Fold.f a0).bind fun x => (name_Fold.f a1).bind fun y => if x.size ≤ 1099511627776 then (if y.size ≤ 1099511627776 then (if Lib.validD x.data.toList = true then (if Lib.validD y.data.toList = true then slices_Compare_rune_rune.f k (runesI x x.size 0) (runesI y y.size 0) else none) else none) else none) else none
theorem name_Compare.mono : ∀ a0 a1 k, LeO (name_Compare.f k a0 a1) (name_Compare.f (k + 1) a0 a1) := by
 intro a0 a1 k
 unfold name_Compare.f
 repeat' first
  | (with_reducible exact LeO.refl _)
  | (with_reducible exact LeO.none _)
  | (with_reducible exact slices_Compare_rune_rune.mono _ _ _)
  | (with_reducible refine LeO.ite ?_ ?_)
  | (with_reducible refine LeO.bind ?_ (fun _ => ?_))
set_option maxHeartbeats 4000000 in
set_option maxRecDepth 100000 in
theorem name_Compare.calls (k : Nat) (a0 : ByteArray) (a1 : ByteArray) (r : Int) (w : World) (hT : Tabs w) (h : name_Compare.f k a0 a1 = some r) :
  Calls Tryd.prog 29 #[.string a0, .string a1] w fun e w' => e = .returned (.int .i64 r) ∧ Below w.heap.size w w' := by
 unfold name_Compare.f at h
 obtain ⟨x, hx, h⟩ := Option.bind_eq_some_iff.1 h
 obtain ⟨y, hy, h⟩ := Option.bind_eq_some_iff.1 h
 split at h
 ·rename_i zx
  split at h
  ·rename_i zy
   split at h
   ·rename_i vx
    split at h
    ·rename_i vy
     have cX := fun W (hb : Below w.heap.size w W) => name_Fold.calls a0 x W (hT.below hb) hx
     have cY := fun W (hb : Below w.heap.size w W) => name_Fold.calls a1 y W (hT.below hb) hy
     have cV := fun W (hb : Below w.heap.size w W) => Tryd.utf8_ValidString x W (by omega) (hT.below hb).u8
     have cU := fun W (hb : Below w.heap.size w W) => Tryd.utf8_ValidString y W (by omega) (hT.below hb).u8
     rw [vx] at cV
     rw [vy] at cU
     obtain ⟨cp1, cl1, hc1, hf1⟩ := run_runes (P := Tryd.prog) 9 80 21 x Tryd.underlying9 Tryd.underlying80 Tryd.underlying21 zx
     obtain ⟨cp2, cl2, hc2, hf2⟩ := run_runes (P := Tryd.prog) 9 80 21 y Tryd.underlying9 Tryd.underlying80 Tryd.underlying21 zy
     have cC := fun A0 c0 A1 c1 W h0 z0 h1 z1 => slices_Compare_rune_rune.calls k A0 c0 (runesI x x.size 0) A1 c1 (runesI y y.size 0) r W h0 z0 h1 z1 h
     generalize runesI x x.size 0 = lx at *
     generalize runesI y y.size 0 = ly at *
     clear h zx zy hT hx hy vx vy
     have cC2 : ∀ W : World, Below w.heap.size w W → Calls Tryd.prog 51 #[.slice (some ⟨W.heap.size, 0, none⟩) lx.length (cp1 W), .slice (some ⟨W.heap.size + 1, 0, none⟩) ly.length (cp2 (W.drew.alloc (.cells (cl1 W) 21)))] ((W.drew.alloc (.cells (cl1 W) 21)).drew.alloc (.cells (cl2 (W.drew.alloc (.cells (cl1 W) 21))) 21)) fun e w' => e = .returned (.int .i64 r) ∧ Below w.heap.size w w' := by
      intro W hW
      have q1 := hf1 W
      have q2 := hf2 (W.drew.alloc (.cells (cl1 W) 21))
      have e1 : (W.drew.alloc (.cells (cl1 W) 21)).heap.size = W.heap.size + 1 := by
       show (W.heap.push _).size = _
       rw [Array.size_push]
      rw [e1] at q2
      refine (cC _ _ _ _ _ (Kd.C_below q1.2 (by repeat (first | exact Below.refl _ _ | apply below_alloc | apply below_drew1))) q1.1 q2.2 q2.1).mono ?_
      rintro e w5 ⟨rfl, ⟨n5, rfl⟩⟩
      exact ⟨rfl, by repeat (first | exact hW | apply below_alloc | apply pw_below_drewN | apply below_drew1)⟩
     clear hf1 hf2 cC
     go_enter Tryd.func29, Tryd.ntmps29
     go_wp2_with (first | (go_at_call_of 48 (Value.string a0); refine (cX _ (Below.refl _ _)).mono ?_; rintro e w1 ⟨rfl, hb1⟩) | (go_at_call_of 48 (Value.string a1); refine (cY _ hb1).mono ?_; rintro e w2 ⟨rfl, hb2⟩; have hB2 := hb1.trans (hb2.mono hb1.size)) | (go_at_call_of 49 (Value.string x); refine (cV _ hB2).mono ?_; rintro e w3 ⟨rfl, hb3⟩; have hB3 := hB2.trans (hb3.mono hB2.size)) | (go_at_call_of 49 (Value.string y); refine (cU _ hB3).mono ?_; rintro e w4 ⟨rfl, hb4⟩; have hB4 := hB3.trans (hb4.mono hB3.size)) | (go_at_call 51; go_loud (refine (cC2 w4 hB4).mono ?_); rintro e w5 ⟨rfl, hB5⟩))
     go_ret
     exact ⟨rfl, hB5⟩
    ·cases h
   ·cases h
  ·cases h
 ·cases h

end Go.Proofs.YtbbfggfiknbdmaaDoor.A
