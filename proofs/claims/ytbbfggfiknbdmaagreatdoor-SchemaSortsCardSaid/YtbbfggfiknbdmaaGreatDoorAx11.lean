-- By drv.py, the session's own driver round the kit's print: the machine's side of the laws, function by function. Not trusted: Lean checks it.
import Derived.Test.YtbbfggfiknbdmaaGreatDoorAx0
import Derived.Test.YtbbfggfiknbdmaaGreatDoorAx8
import Derived.Test.YtbbfggfiknbdmaaGreatDoorAx10
namespace Go.Proofs.YtbbfggfiknbdmaaGreatDoor.A
open Go.RowKit Go.Proofs.YtbbfggfiknbdmaaGreatDoorW.PrintWords Go.Proofs.YtbbfggfiknbdmaaGreatDoorW.PrintLast Go.Proofs.YtbbfggfiknbdmaaGreatDoorW.PrintMore
attribute [local go_sem] max2_int min2_int max_two min_two max_three min_three max_four min_four   -- for this text's walks alone
set_option linter.unusedVariables false
set_option linter.unusedSimpArgs false

/-! ### caduceuslaw04_awake: function 5 -/
def caduceuslaw04_awake.f (k : Nat)  : Option (Bool) := (schema_Parse.f k (⟨#[97, 32, 105, 110, 116, 33, 44, 32, 98, 32, 116, 101, 120, 116]⟩ : ByteArray)).bind fun bt198 => ((schema_Parse.f k (⟨#[97, 32, 98, 111, 111, 108]⟩ : ByteArray)).bind fun bt202 => ((schema_Merge.f k bt198.1 bt202.1).bind fun bt206 => ((caduceuslaw04_num.f 1).bind fun bt210 => ((schema_Fits.f k bt198.1 (([(⟨(⟨#[97]⟩ : ByteArray), (⟨bt210.1, bt210.2.1, bt210.2.2⟩ : S40)⟩ : S43)] : List (S43)))).bind fun t216 => ((caduceuslaw04_text.f (⟨#[120]⟩ : ByteArray)).bind fun bt217 => ((schema_Fits.f k bt198.1 (([(⟨(⟨#[98]⟩ : ByteArray), (⟨bt217.1, bt217.2.1, bt217.2.2⟩ : S40)⟩ : S43)] : List (S43)))).bind fun t223 => ((caduceuslaw04_text.f (⟨#[120]⟩ : ByteArray)).bind fun bt224 => ((schema_Fits.f k bt198.1 (([(⟨(⟨#[97]⟩ : ByteArray), (⟨bt224.1, bt224.2.1, bt224.2.2⟩ : S40)⟩ : S43)] : List (S43)))).bind fun t230 => ((caduceuslaw04_num.f 1).bind fun bt231 => ((caduceuslaw04_num.f 2).bind fun bt234 => ((schema_Fits.f k bt198.1 (([(⟨(⟨#[97]⟩ : ByteArray), (⟨bt231.1, bt231.2.1, bt231.2.2⟩ : S40)⟩ : S43), (⟨(⟨#[99]⟩ : ByteArray), (⟨bt234.1, bt234.2.1, bt234.2.2⟩ : S40)⟩ : S43)] : List (S43)))).bind fun t240 => (if bt198.2 = 0 then (if (bt198.1.length : Int) = 2 then (if bt202.2 = 0 then (if bt206.2 = 9 then (if t216 = 0 then (if t223 = 7 then (if t230 = 8 then (some (t240 == 4)) else (none)) else (none)) else (none)) else (none)) else (none)) else (none)) else (none)))))))))))))
theorem caduceuslaw04_awake.mono : ∀ k, LeO (caduceuslaw04_awake.f k ) (caduceuslaw04_awake.f (k + 1) ) := by
 intro  k
 unfold caduceuslaw04_awake.f
 repeat' first
   | (with_reducible exact schema_Fits.mono _ _ _)
   | (with_reducible exact schema_Merge.mono _ _ _)
   | (with_reducible exact schema_Parse.mono _ _)
   | (with_reducible exact LeO.refl _)
   | (with_reducible exact LeO.none _)
   | (with_reducible refine LeO.ite ?_ ?_)
   | (with_reducible refine LeO.bind ?_ (fun _ => ?_))
   | exact schema_Fits.mono _ _ _
   | exact schema_Merge.mono _ _ _
   | exact schema_Parse.mono _ _
   | exact LeO.none _
   | refine LeO.ite ?_ ?_
   | refine LeO.bind ?_ (fun _ => ?_)
set_option maxHeartbeats 8000000 in
set_option maxRecDepth 100000 in
theorem caduceuslaw04_awake.calls (k : Nat)  (r : Bool) (w : World) (hT : Tabs w) (h : caduceuslaw04_awake.f k  = some r) :
  Calls Tryz.prog 5 #[] w fun e w' => e = .returned (.bool r) ∧ Below w.heap.size w w' := by
 have hu43 := Tryz.underlying43
 have HB := Aside0.mk (Below.refl w.heap.size w)
 have H : ((schema_Parse.f k (⟨#[97, 32, 105, 110, 116, 33, 44, 32, 98, 32, 116, 101, 120, 116]⟩ : ByteArray)).bind fun bt198 => ((schema_Parse.f k (⟨#[97, 32, 98, 111, 111, 108]⟩ : ByteArray)).bind fun bt202 => ((schema_Merge.f k bt198.1 bt202.1).bind fun bt206 => ((caduceuslaw04_num.f 1).bind fun bt210 => ((schema_Fits.f k bt198.1 (([(⟨(⟨#[97]⟩ : ByteArray), (⟨bt210.1, bt210.2.1, bt210.2.2⟩ : S40)⟩ : S43)] : List (S43)))).bind fun t216 => ((caduceuslaw04_text.f (⟨#[120]⟩ : ByteArray)).bind fun bt217 => ((schema_Fits.f k bt198.1 (([(⟨(⟨#[98]⟩ : ByteArray), (⟨bt217.1, bt217.2.1, bt217.2.2⟩ : S40)⟩ : S43)] : List (S43)))).bind fun t223 => ((caduceuslaw04_text.f (⟨#[120]⟩ : ByteArray)).bind fun bt224 => ((schema_Fits.f k bt198.1 (([(⟨(⟨#[97]⟩ : ByteArray), (⟨bt224.1, bt224.2.1, bt224.2.2⟩ : S40)⟩ : S43)] : List (S43)))).bind fun t230 => ((caduceuslaw04_num.f 1).bind fun bt231 => ((caduceuslaw04_num.f 2).bind fun bt234 => ((schema_Fits.f k bt198.1 (([(⟨(⟨#[97]⟩ : ByteArray), (⟨bt231.1, bt231.2.1, bt231.2.2⟩ : S40)⟩ : S43), (⟨(⟨#[99]⟩ : ByteArray), (⟨bt234.1, bt234.2.1, bt234.2.2⟩ : S40)⟩ : S43)] : List (S43)))).bind fun t240 => (if bt198.2 = 0 then (if (bt198.1.length : Int) = 2 then (if bt202.2 = 0 then (if bt206.2 = 9 then (if t216 = 0 then (if t223 = 7 then (if t230 = 8 then (some (t240 == 4)) else (none)) else (none)) else (none)) else (none)) else (none)) else (none)) else (none)))))))))))))) = some r := h
 clear h
 have HT := Aside0.mk hT
 clear hT
 replace H := Option.bind_eq_some_iff.mp H
 obtain ⟨⟨t198, t199⟩, A10, H⟩ := H
 replace H : ((schema_Parse.f k (⟨#[97, 32, 98, 111, 111, 108]⟩ : ByteArray)).bind fun bt202 => ((schema_Merge.f k t198 bt202.1).bind fun bt206 => ((caduceuslaw04_num.f 1).bind fun bt210 => ((schema_Fits.f k t198 (([(⟨(⟨#[97]⟩ : ByteArray), (⟨bt210.1, bt210.2.1, bt210.2.2⟩ : S40)⟩ : S43)] : List (S43)))).bind fun t216 => ((caduceuslaw04_text.f (⟨#[120]⟩ : ByteArray)).bind fun bt217 => ((schema_Fits.f k t198 (([(⟨(⟨#[98]⟩ : ByteArray), (⟨bt217.1, bt217.2.1, bt217.2.2⟩ : S40)⟩ : S43)] : List (S43)))).bind fun t223 => ((caduceuslaw04_text.f (⟨#[120]⟩ : ByteArray)).bind fun bt224 => ((schema_Fits.f k t198 (([(⟨(⟨#[97]⟩ : ByteArray), (⟨bt224.1, bt224.2.1, bt224.2.2⟩ : S40)⟩ : S43)] : List (S43)))).bind fun t230 => ((caduceuslaw04_num.f 1).bind fun bt231 => ((caduceuslaw04_num.f 2).bind fun bt234 => ((schema_Fits.f k t198 (([(⟨(⟨#[97]⟩ : ByteArray), (⟨bt231.1, bt231.2.1, bt231.2.2⟩ : S40)⟩ : S43), (⟨(⟨#[99]⟩ : ByteArray), (⟨bt234.1, bt234.2.1, bt234.2.2⟩ : S40)⟩ : S43)] : List (S43)))).bind fun t240 => (if t199 = 0 then (if (t198.length : Int) = 2 then (if bt202.2 = 0 then (if bt206.2 = 9 then (if t216 = 0 then (if t223 = 7 then (if t230 = 8 then (some (t240 == 4)) else (none)) else (none)) else (none)) else (none)) else (none)) else (none)) else (none))))))))))))) = some r := H
 have A1 := Aside0.mk A10
 clear A10
 replace H := Option.bind_eq_some_iff.mp H
 obtain ⟨⟨t202, t203⟩, A20, H⟩ := H
 replace H : ((schema_Merge.f k t198 t202).bind fun bt206 => ((caduceuslaw04_num.f 1).bind fun bt210 => ((schema_Fits.f k t198 (([(⟨(⟨#[97]⟩ : ByteArray), (⟨bt210.1, bt210.2.1, bt210.2.2⟩ : S40)⟩ : S43)] : List (S43)))).bind fun t216 => ((caduceuslaw04_text.f (⟨#[120]⟩ : ByteArray)).bind fun bt217 => ((schema_Fits.f k t198 (([(⟨(⟨#[98]⟩ : ByteArray), (⟨bt217.1, bt217.2.1, bt217.2.2⟩ : S40)⟩ : S43)] : List (S43)))).bind fun t223 => ((caduceuslaw04_text.f (⟨#[120]⟩ : ByteArray)).bind fun bt224 => ((schema_Fits.f k t198 (([(⟨(⟨#[97]⟩ : ByteArray), (⟨bt224.1, bt224.2.1, bt224.2.2⟩ : S40)⟩ : S43)] : List (S43)))).bind fun t230 => ((caduceuslaw04_num.f 1).bind fun bt231 => ((caduceuslaw04_num.f 2).bind fun bt234 => ((schema_Fits.f k t198 (([(⟨(⟨#[97]⟩ : ByteArray), (⟨bt231.1, bt231.2.1, bt231.2.2⟩ : S40)⟩ : S43), (⟨(⟨#[99]⟩ : ByteArray), (⟨bt234.1, bt234.2.1, bt234.2.2⟩ : S40)⟩ : S43)] : List (S43)))).bind fun t240 => (if t199 = 0 then (if (t198.length : Int) = 2 then (if t203 = 0 then (if bt206.2 = 9 then (if t216 = 0 then (if t223 = 7 then (if t230 = 8 then (some (t240 == 4)) else (none)) else (none)) else (none)) else (none)) else (none)) else (none)) else (none)))))))))))) = some r := H
 have A2 := Aside0.mk A20
 clear A20
 replace H := Option.bind_eq_some_iff.mp H
 obtain ⟨⟨t206, t207⟩, A30, H⟩ := H
 replace H : ((caduceuslaw04_num.f 1).bind fun bt210 => ((schema_Fits.f k t198 (([(⟨(⟨#[97]⟩ : ByteArray), (⟨bt210.1, bt210.2.1, bt210.2.2⟩ : S40)⟩ : S43)] : List (S43)))).bind fun t216 => ((caduceuslaw04_text.f (⟨#[120]⟩ : ByteArray)).bind fun bt217 => ((schema_Fits.f k t198 (([(⟨(⟨#[98]⟩ : ByteArray), (⟨bt217.1, bt217.2.1, bt217.2.2⟩ : S40)⟩ : S43)] : List (S43)))).bind fun t223 => ((caduceuslaw04_text.f (⟨#[120]⟩ : ByteArray)).bind fun bt224 => ((schema_Fits.f k t198 (([(⟨(⟨#[97]⟩ : ByteArray), (⟨bt224.1, bt224.2.1, bt224.2.2⟩ : S40)⟩ : S43)] : List (S43)))).bind fun t230 => ((caduceuslaw04_num.f 1).bind fun bt231 => ((caduceuslaw04_num.f 2).bind fun bt234 => ((schema_Fits.f k t198 (([(⟨(⟨#[97]⟩ : ByteArray), (⟨bt231.1, bt231.2.1, bt231.2.2⟩ : S40)⟩ : S43), (⟨(⟨#[99]⟩ : ByteArray), (⟨bt234.1, bt234.2.1, bt234.2.2⟩ : S40)⟩ : S43)] : List (S43)))).bind fun t240 => (if t199 = 0 then (if (t198.length : Int) = 2 then (if t203 = 0 then (if t207 = 9 then (if t216 = 0 then (if t223 = 7 then (if t230 = 8 then (some (t240 == 4)) else (none)) else (none)) else (none)) else (none)) else (none)) else (none)) else (none))))))))))) = some r := H
 have A3 := Aside0.mk A30
 clear A30
 replace H := Option.bind_eq_some_iff.mp H
 obtain ⟨⟨t210, t211, t212⟩, A40, H⟩ := H
 replace H : ((schema_Fits.f k t198 (([(⟨(⟨#[97]⟩ : ByteArray), (⟨t210, t211, t212⟩ : S40)⟩ : S43)] : List (S43)))).bind fun t216 => ((caduceuslaw04_text.f (⟨#[120]⟩ : ByteArray)).bind fun bt217 => ((schema_Fits.f k t198 (([(⟨(⟨#[98]⟩ : ByteArray), (⟨bt217.1, bt217.2.1, bt217.2.2⟩ : S40)⟩ : S43)] : List (S43)))).bind fun t223 => ((caduceuslaw04_text.f (⟨#[120]⟩ : ByteArray)).bind fun bt224 => ((schema_Fits.f k t198 (([(⟨(⟨#[97]⟩ : ByteArray), (⟨bt224.1, bt224.2.1, bt224.2.2⟩ : S40)⟩ : S43)] : List (S43)))).bind fun t230 => ((caduceuslaw04_num.f 1).bind fun bt231 => ((caduceuslaw04_num.f 2).bind fun bt234 => ((schema_Fits.f k t198 (([(⟨(⟨#[97]⟩ : ByteArray), (⟨bt231.1, bt231.2.1, bt231.2.2⟩ : S40)⟩ : S43), (⟨(⟨#[99]⟩ : ByteArray), (⟨bt234.1, bt234.2.1, bt234.2.2⟩ : S40)⟩ : S43)] : List (S43)))).bind fun t240 => (if t199 = 0 then (if (t198.length : Int) = 2 then (if t203 = 0 then (if t207 = 9 then (if t216 = 0 then (if t223 = 7 then (if t230 = 8 then (some (t240 == 4)) else (none)) else (none)) else (none)) else (none)) else (none)) else (none)) else (none)))))))))) = some r := H
 have A4 := Aside0.mk A40
 clear A40
 obtain ⟨y213, hy213⟩ : ∃ y_ : List (S43), y_ = (([(⟨(⟨#[97]⟩ : ByteArray), (⟨t210, t211, t212⟩ : S40)⟩ : S43)] : List (S43))) := ⟨_, rfl⟩
 replace H : ((schema_Fits.f k t198 y213).bind fun t216 => ((caduceuslaw04_text.f (⟨#[120]⟩ : ByteArray)).bind fun bt217 => ((schema_Fits.f k t198 (([(⟨(⟨#[98]⟩ : ByteArray), (⟨bt217.1, bt217.2.1, bt217.2.2⟩ : S40)⟩ : S43)] : List (S43)))).bind fun t223 => ((caduceuslaw04_text.f (⟨#[120]⟩ : ByteArray)).bind fun bt224 => ((schema_Fits.f k t198 (([(⟨(⟨#[97]⟩ : ByteArray), (⟨bt224.1, bt224.2.1, bt224.2.2⟩ : S40)⟩ : S43)] : List (S43)))).bind fun t230 => ((caduceuslaw04_num.f 1).bind fun bt231 => ((caduceuslaw04_num.f 2).bind fun bt234 => ((schema_Fits.f k t198 (([(⟨(⟨#[97]⟩ : ByteArray), (⟨bt231.1, bt231.2.1, bt231.2.2⟩ : S40)⟩ : S43), (⟨(⟨#[99]⟩ : ByteArray), (⟨bt234.1, bt234.2.1, bt234.2.2⟩ : S40)⟩ : S43)] : List (S43)))).bind fun t240 => (if t199 = 0 then (if (t198.length : Int) = 2 then (if t203 = 0 then (if t207 = 9 then (if t216 = 0 then (if t223 = 7 then (if t230 = 8 then (some (t240 == 4)) else (none)) else (none)) else (none)) else (none)) else (none)) else (none)) else (none)))))))))) = some r := by first | (rw [hy213]; with_reducible exact H) | (have H2_ := (Option.bind_some _ _).symm.trans H; rw [hy213]; with_reducible exact H2_) | (have H2_ := (Option.bind_some _ _).symm.trans H; with_reducible exact H2_) | with_reducible exact H | (rw [hy213]; exact H) | exact H
 have Ny213 := Aside0.mk hy213
 clear hy213
 replace H := Option.bind_eq_some_iff.mp H
 obtain ⟨t216, A50, H⟩ := H
 replace H : ((caduceuslaw04_text.f (⟨#[120]⟩ : ByteArray)).bind fun bt217 => ((schema_Fits.f k t198 (([(⟨(⟨#[98]⟩ : ByteArray), (⟨bt217.1, bt217.2.1, bt217.2.2⟩ : S40)⟩ : S43)] : List (S43)))).bind fun t223 => ((caduceuslaw04_text.f (⟨#[120]⟩ : ByteArray)).bind fun bt224 => ((schema_Fits.f k t198 (([(⟨(⟨#[97]⟩ : ByteArray), (⟨bt224.1, bt224.2.1, bt224.2.2⟩ : S40)⟩ : S43)] : List (S43)))).bind fun t230 => ((caduceuslaw04_num.f 1).bind fun bt231 => ((caduceuslaw04_num.f 2).bind fun bt234 => ((schema_Fits.f k t198 (([(⟨(⟨#[97]⟩ : ByteArray), (⟨bt231.1, bt231.2.1, bt231.2.2⟩ : S40)⟩ : S43), (⟨(⟨#[99]⟩ : ByteArray), (⟨bt234.1, bt234.2.1, bt234.2.2⟩ : S40)⟩ : S43)] : List (S43)))).bind fun t240 => (if t199 = 0 then (if (t198.length : Int) = 2 then (if t203 = 0 then (if t207 = 9 then (if t216 = 0 then (if t223 = 7 then (if t230 = 8 then (some (t240 == 4)) else (none)) else (none)) else (none)) else (none)) else (none)) else (none)) else (none))))))))) = some r := H
 have A5 := Aside0.mk A50
 clear A50
 replace H := Option.bind_eq_some_iff.mp H
 obtain ⟨⟨t217, t218, t219⟩, A60, H⟩ := H
 replace H : ((schema_Fits.f k t198 (([(⟨(⟨#[98]⟩ : ByteArray), (⟨t217, t218, t219⟩ : S40)⟩ : S43)] : List (S43)))).bind fun t223 => ((caduceuslaw04_text.f (⟨#[120]⟩ : ByteArray)).bind fun bt224 => ((schema_Fits.f k t198 (([(⟨(⟨#[97]⟩ : ByteArray), (⟨bt224.1, bt224.2.1, bt224.2.2⟩ : S40)⟩ : S43)] : List (S43)))).bind fun t230 => ((caduceuslaw04_num.f 1).bind fun bt231 => ((caduceuslaw04_num.f 2).bind fun bt234 => ((schema_Fits.f k t198 (([(⟨(⟨#[97]⟩ : ByteArray), (⟨bt231.1, bt231.2.1, bt231.2.2⟩ : S40)⟩ : S43), (⟨(⟨#[99]⟩ : ByteArray), (⟨bt234.1, bt234.2.1, bt234.2.2⟩ : S40)⟩ : S43)] : List (S43)))).bind fun t240 => (if t199 = 0 then (if (t198.length : Int) = 2 then (if t203 = 0 then (if t207 = 9 then (if t216 = 0 then (if t223 = 7 then (if t230 = 8 then (some (t240 == 4)) else (none)) else (none)) else (none)) else (none)) else (none)) else (none)) else (none)))))))) = some r := H
 have A6 := Aside0.mk A60
 clear A60
 obtain ⟨y220, hy220⟩ : ∃ y_ : List (S43), y_ = (([(⟨(⟨#[98]⟩ : ByteArray), (⟨t217, t218, t219⟩ : S40)⟩ : S43)] : List (S43))) := ⟨_, rfl⟩
 replace H : ((schema_Fits.f k t198 y220).bind fun t223 => ((caduceuslaw04_text.f (⟨#[120]⟩ : ByteArray)).bind fun bt224 => ((schema_Fits.f k t198 (([(⟨(⟨#[97]⟩ : ByteArray), (⟨bt224.1, bt224.2.1, bt224.2.2⟩ : S40)⟩ : S43)] : List (S43)))).bind fun t230 => ((caduceuslaw04_num.f 1).bind fun bt231 => ((caduceuslaw04_num.f 2).bind fun bt234 => ((schema_Fits.f k t198 (([(⟨(⟨#[97]⟩ : ByteArray), (⟨bt231.1, bt231.2.1, bt231.2.2⟩ : S40)⟩ : S43), (⟨(⟨#[99]⟩ : ByteArray), (⟨bt234.1, bt234.2.1, bt234.2.2⟩ : S40)⟩ : S43)] : List (S43)))).bind fun t240 => (if t199 = 0 then (if (t198.length : Int) = 2 then (if t203 = 0 then (if t207 = 9 then (if t216 = 0 then (if t223 = 7 then (if t230 = 8 then (some (t240 == 4)) else (none)) else (none)) else (none)) else (none)) else (none)) else (none)) else (none)))))))) = some r := by first | (rw [hy220]; with_reducible exact H) | (have H2_ := (Option.bind_some _ _).symm.trans H; rw [hy220]; with_reducible exact H2_) | (have H2_ := (Option.bind_some _ _).symm.trans H; with_reducible exact H2_) | with_reducible exact H | (rw [hy220]; exact H) | exact H
 have Ny220 := Aside0.mk hy220
 clear hy220
 replace H := Option.bind_eq_some_iff.mp H
 obtain ⟨t223, A70, H⟩ := H
 replace H : ((caduceuslaw04_text.f (⟨#[120]⟩ : ByteArray)).bind fun bt224 => ((schema_Fits.f k t198 (([(⟨(⟨#[97]⟩ : ByteArray), (⟨bt224.1, bt224.2.1, bt224.2.2⟩ : S40)⟩ : S43)] : List (S43)))).bind fun t230 => ((caduceuslaw04_num.f 1).bind fun bt231 => ((caduceuslaw04_num.f 2).bind fun bt234 => ((schema_Fits.f k t198 (([(⟨(⟨#[97]⟩ : ByteArray), (⟨bt231.1, bt231.2.1, bt231.2.2⟩ : S40)⟩ : S43), (⟨(⟨#[99]⟩ : ByteArray), (⟨bt234.1, bt234.2.1, bt234.2.2⟩ : S40)⟩ : S43)] : List (S43)))).bind fun t240 => (if t199 = 0 then (if (t198.length : Int) = 2 then (if t203 = 0 then (if t207 = 9 then (if t216 = 0 then (if t223 = 7 then (if t230 = 8 then (some (t240 == 4)) else (none)) else (none)) else (none)) else (none)) else (none)) else (none)) else (none))))))) = some r := H
 have A7 := Aside0.mk A70
 clear A70
 replace H := Option.bind_eq_some_iff.mp H
 obtain ⟨⟨t224, t225, t226⟩, A80, H⟩ := H
 replace H : ((schema_Fits.f k t198 (([(⟨(⟨#[97]⟩ : ByteArray), (⟨t224, t225, t226⟩ : S40)⟩ : S43)] : List (S43)))).bind fun t230 => ((caduceuslaw04_num.f 1).bind fun bt231 => ((caduceuslaw04_num.f 2).bind fun bt234 => ((schema_Fits.f k t198 (([(⟨(⟨#[97]⟩ : ByteArray), (⟨bt231.1, bt231.2.1, bt231.2.2⟩ : S40)⟩ : S43), (⟨(⟨#[99]⟩ : ByteArray), (⟨bt234.1, bt234.2.1, bt234.2.2⟩ : S40)⟩ : S43)] : List (S43)))).bind fun t240 => (if t199 = 0 then (if (t198.length : Int) = 2 then (if t203 = 0 then (if t207 = 9 then (if t216 = 0 then (if t223 = 7 then (if t230 = 8 then (some (t240 == 4)) else (none)) else (none)) else (none)) else (none)) else (none)) else (none)) else (none)))))) = some r := H
 have A8 := Aside0.mk A80
 clear A80
 obtain ⟨y227, hy227⟩ : ∃ y_ : List (S43), y_ = (([(⟨(⟨#[97]⟩ : ByteArray), (⟨t224, t225, t226⟩ : S40)⟩ : S43)] : List (S43))) := ⟨_, rfl⟩
 replace H : ((schema_Fits.f k t198 y227).bind fun t230 => ((caduceuslaw04_num.f 1).bind fun bt231 => ((caduceuslaw04_num.f 2).bind fun bt234 => ((schema_Fits.f k t198 (([(⟨(⟨#[97]⟩ : ByteArray), (⟨bt231.1, bt231.2.1, bt231.2.2⟩ : S40)⟩ : S43), (⟨(⟨#[99]⟩ : ByteArray), (⟨bt234.1, bt234.2.1, bt234.2.2⟩ : S40)⟩ : S43)] : List (S43)))).bind fun t240 => (if t199 = 0 then (if (t198.length : Int) = 2 then (if t203 = 0 then (if t207 = 9 then (if t216 = 0 then (if t223 = 7 then (if t230 = 8 then (some (t240 == 4)) else (none)) else (none)) else (none)) else (none)) else (none)) else (none)) else (none)))))) = some r := by first | (rw [hy227]; with_reducible exact H) | (have H2_ := (Option.bind_some _ _).symm.trans H; rw [hy227]; with_reducible exact H2_) | (have H2_ := (Option.bind_some _ _).symm.trans H; with_reducible exact H2_) | with_reducible exact H | (rw [hy227]; exact H) | exact H
 have Ny227 := Aside0.mk hy227
 clear hy227
 replace H := Option.bind_eq_some_iff.mp H
 obtain ⟨t230, A90, H⟩ := H
 replace H : ((caduceuslaw04_num.f 1).bind fun bt231 => ((caduceuslaw04_num.f 2).bind fun bt234 => ((schema_Fits.f k t198 (([(⟨(⟨#[97]⟩ : ByteArray), (⟨bt231.1, bt231.2.1, bt231.2.2⟩ : S40)⟩ : S43), (⟨(⟨#[99]⟩ : ByteArray), (⟨bt234.1, bt234.2.1, bt234.2.2⟩ : S40)⟩ : S43)] : List (S43)))).bind fun t240 => (if t199 = 0 then (if (t198.length : Int) = 2 then (if t203 = 0 then (if t207 = 9 then (if t216 = 0 then (if t223 = 7 then (if t230 = 8 then (some (t240 == 4)) else (none)) else (none)) else (none)) else (none)) else (none)) else (none)) else (none))))) = some r := H
 have A9 := Aside0.mk A90
 clear A90
 replace H := Option.bind_eq_some_iff.mp H
 obtain ⟨⟨t231, t232, t233⟩, A100, H⟩ := H
 replace H : ((caduceuslaw04_num.f 2).bind fun bt234 => ((schema_Fits.f k t198 (([(⟨(⟨#[97]⟩ : ByteArray), (⟨t231, t232, t233⟩ : S40)⟩ : S43), (⟨(⟨#[99]⟩ : ByteArray), (⟨bt234.1, bt234.2.1, bt234.2.2⟩ : S40)⟩ : S43)] : List (S43)))).bind fun t240 => (if t199 = 0 then (if (t198.length : Int) = 2 then (if t203 = 0 then (if t207 = 9 then (if t216 = 0 then (if t223 = 7 then (if t230 = 8 then (some (t240 == 4)) else (none)) else (none)) else (none)) else (none)) else (none)) else (none)) else (none)))) = some r := H
 have A10 := Aside0.mk A100
 clear A100
 replace H := Option.bind_eq_some_iff.mp H
 obtain ⟨⟨t234, t235, t236⟩, A110, H⟩ := H
 replace H : ((schema_Fits.f k t198 (([(⟨(⟨#[97]⟩ : ByteArray), (⟨t231, t232, t233⟩ : S40)⟩ : S43), (⟨(⟨#[99]⟩ : ByteArray), (⟨t234, t235, t236⟩ : S40)⟩ : S43)] : List (S43)))).bind fun t240 => (if t199 = 0 then (if (t198.length : Int) = 2 then (if t203 = 0 then (if t207 = 9 then (if t216 = 0 then (if t223 = 7 then (if t230 = 8 then (some (t240 == 4)) else (none)) else (none)) else (none)) else (none)) else (none)) else (none)) else (none))) = some r := H
 have A11 := Aside0.mk A110
 clear A110
 obtain ⟨y237, hy237⟩ : ∃ y_ : List (S43), y_ = (([(⟨(⟨#[97]⟩ : ByteArray), (⟨t231, t232, t233⟩ : S40)⟩ : S43), (⟨(⟨#[99]⟩ : ByteArray), (⟨t234, t235, t236⟩ : S40)⟩ : S43)] : List (S43))) := ⟨_, rfl⟩
 replace H : ((schema_Fits.f k t198 y237).bind fun t240 => (if t199 = 0 then (if (t198.length : Int) = 2 then (if t203 = 0 then (if t207 = 9 then (if t216 = 0 then (if t223 = 7 then (if t230 = 8 then (some (t240 == 4)) else (none)) else (none)) else (none)) else (none)) else (none)) else (none)) else (none))) = some r := by first | (rw [hy237]; with_reducible exact H) | (have H2_ := (Option.bind_some _ _).symm.trans H; rw [hy237]; with_reducible exact H2_) | (have H2_ := (Option.bind_some _ _).symm.trans H; with_reducible exact H2_) | with_reducible exact H | (rw [hy237]; exact H) | exact H
 have Ny237 := Aside0.mk hy237
 clear hy237
 replace H := Option.bind_eq_some_iff.mp H
 obtain ⟨t240, A120, H⟩ := H
 replace H : (if t199 = 0 then (if (t198.length : Int) = 2 then (if t203 = 0 then (if t207 = 9 then (if t216 = 0 then (if t223 = 7 then (if t230 = 8 then (some (t240 == 4)) else (none)) else (none)) else (none)) else (none)) else (none)) else (none)) else (none)) = some r := H
 have A12 := Aside0.mk A120
 clear A120
 by_cases c13 : t199 = 0
 ·rw [if_pos c13] at H
  have c13b0 : (t199 == 0) = true := beq_iff_eq.mpr c13
  have c13b1 : (t199 != 0) = false := bne_eq_false_iff_eq.mpr c13
  clear c13
  by_cases c14 : (t198.length : Int) = 2
  ·rw [if_pos c14] at H
   have c14b0 : ((t198.length : Int) == 2) = true := beq_iff_eq.mpr c14
   have c14b1 : ((t198.length : Int) != 2) = false := bne_eq_false_iff_eq.mpr c14
   clear c14
   by_cases c15 : t203 = 0
   ·rw [if_pos c15] at H
    have c15b0 : (t203 == 0) = true := beq_iff_eq.mpr c15
    have c15b1 : (t203 != 0) = false := bne_eq_false_iff_eq.mpr c15
    clear c15
    by_cases c16 : t207 = 9
    ·rw [if_pos c16] at H
     have c16b0 : (t207 == 9) = true := beq_iff_eq.mpr c16
     have c16b1 : (t207 != 9) = false := bne_eq_false_iff_eq.mpr c16
     clear c16
     by_cases c17 : t216 = 0
     ·rw [if_pos c17] at H
      have c17b0 : (t216 == 0) = true := beq_iff_eq.mpr c17
      have c17b1 : (t216 != 0) = false := bne_eq_false_iff_eq.mpr c17
      clear c17
      by_cases c18 : t223 = 7
      ·rw [if_pos c18] at H
       have c18b0 : (t223 == 7) = true := beq_iff_eq.mpr c18
       have c18b1 : (t223 != 7) = false := bne_eq_false_iff_eq.mpr c18
       clear c18
       by_cases c19 : t230 = 8
       ·rw [if_pos c19] at H
        have c19b0 : (t230 == 8) = true := beq_iff_eq.mpr c19
        have c19b1 : (t230 != 8) = false := bne_eq_false_iff_eq.mpr c19
        clear c19
        obtain rfl := Option.some.inj H
        go_enter Tryz.func5, Tryz.ntmps5
        go_wp2_with (first | ((with_reducible refine gate_callee (f := 12) rfl ?_); refine goesA (some 12) Tryz.func12 #[.string (⟨#[97, 32, 105, 110, 116, 33, 44, 32, 98, 32, 116, 101, 120, 116]⟩ : ByteArray)] ?_; (with_reducible refine (schema_Parse.calls k (⟨#[97, 32, 105, 110, 116, 33, 44, 32, 98, 32, 116, 101, 120, 116]⟩ : ByteArray) t198 t199 _ ?side1 A1.out).mono ?_); (case side1 => exact Tabs.below HT.out (bwA)); rintro e w20 ⟨v200, rfl, ho0, hb⟩; refine ⟨_, rfl, ?_⟩; have n0_ := Aside0.mk (Kd.R_lower ho0 (below_size (bwA))); have n1_ := Aside0.mk (below_step (bwA) hb); clear HB; have HO201 := n0_; have HB := n1_; clear n0_ n1_; (try clear hb); (try clear hb2); (try clear hk); (try clear hi); (try clear ho0)) | ((with_reducible refine gate_callee (f := 12) rfl ?_); refine goesA (some 16) Tryz.func12 #[.string (⟨#[97, 32, 98, 111, 111, 108]⟩ : ByteArray)] ?_; (with_reducible refine (schema_Parse.calls k (⟨#[97, 32, 98, 111, 111, 108]⟩ : ByteArray) t202 t203 _ ?side1 A2.out).mono ?_); (case side1 => exact Tabs.below HT.out (bwA)); rintro e w21 ⟨v204, rfl, ho0, hb⟩; refine ⟨_, rfl, ?_⟩; have n0_ := Aside0.mk (Kd.R_elder' (by (with_reducible repeat (first | apply Kd.R_alloc | apply Kd.R_drewN | apply Kd.R_drew)); exact HO201.out) (Kd.R_base ho0) hb); have n1_ := Aside0.mk (Kd.R_lower (Kd.R_new' ho0 (Kd.R_lt (by (with_reducible repeat (first | apply Kd.R_alloc | apply Kd.R_drewN | apply Kd.R_drew)); exact HO201.out))) (below_size (bwA))); have n2_ := Aside0.mk (below_step (bwA) hb); clear HO201; clear HB; have HO201 := n0_; have HO205 := n1_; have HB := n2_; clear n0_ n1_ n2_; (try clear hb); (try clear hb2); (try clear hk); (try clear hi); (try clear ho0); obtain ⟨Ao22, co22, eo22⟩ := Kd.R_slice HO201.out; subst eo22; obtain ⟨Ao23, co23, eo23⟩ := Kd.R_slice HO205.out; subst eo23) | ((with_reducible refine gate_callee (f := 13) rfl ?_); refine goesA (some 22) Tryz.func13 #[.slice Ao22 t198.length co22, .slice Ao23 t202.length co23] ?_; (with_reducible refine (schema_Merge.calls k _ _ t198 _ _ t202 t206 t207 _ ?side1 ?side2 ?side3 ?side4 ?side5 A3.out).mono ?_); (case side1 => repeat (first | exact (Kd.R_reads' HO201.out).2.2 | (with_reducible refine Kd.C_alloc ?_ _) | (with_reducible refine Kd.C_drewN ?_ _) | (with_reducible refine Kd.C_drew ?_))); (case side2 => exact (Kd.R_reads' HO201.out).2.1); (case side3 => repeat (first | exact (Kd.R_reads' HO205.out).2.2 | (with_reducible refine Kd.C_alloc ?_ _) | (with_reducible refine Kd.C_drewN ?_ _) | (with_reducible refine Kd.C_drew ?_))); (case side4 => exact (Kd.R_reads' HO205.out).2.1); (case side5 => exact Tabs.below HT.out (bwA)); rintro e w24 ⟨v208, rfl, ho0, hb⟩; refine ⟨_, rfl, ?_⟩; have n0_ := Aside0.mk (Kd.R_elder' (by (with_reducible repeat (first | apply Kd.R_alloc | apply Kd.R_drewN | apply Kd.R_drew)); exact HO201.out) (Kd.R_base ho0) hb); have n1_ := Aside0.mk (Kd.R_elder' (by (with_reducible repeat (first | apply Kd.R_alloc | apply Kd.R_drewN | apply Kd.R_drew)); exact HO205.out) (Kd.R_base ho0) hb); have n2_ := Aside0.mk (Kd.R_lower (Kd.R_new' (Kd.R_new' ho0 (Kd.R_lt (by (with_reducible repeat (first | apply Kd.R_alloc | apply Kd.R_drewN | apply Kd.R_drew)); exact HO201.out))) (Kd.R_lt (by (with_reducible repeat (first | apply Kd.R_alloc | apply Kd.R_drewN | apply Kd.R_drew)); exact HO205.out))) (below_size (bwA))); have n3_ := Aside0.mk (below_step (bwA) hb); clear HO201; clear HO205; clear HB; have HO201 := n0_; have HO205 := n1_; have HO209 := n2_; have HB := n3_; clear n0_ n1_ n2_ n3_; (try clear hb); (try clear hb2); (try clear hk); (try clear hi); (try clear ho0)) | ((with_reducible refine gate_callee (f := 15) rfl ?_); refine goesA (some 26) Tryz.func15 #[.int .i64 1] ?_; (with_reducible refine (caduceuslaw04_num.calls 1 t210 t211 t212 _ A4.out).mono ?_); rintro e w25 ⟨rfl, hb⟩; refine ⟨_, rfl, ?_⟩; have n0_ := Aside0.mk (Kd.R_below (by (with_reducible repeat (first | apply Kd.R_alloc | apply Kd.R_drewN | apply Kd.R_drew)); exact HO201.out) hb); have n1_ := Aside0.mk (Kd.R_below (by (with_reducible repeat (first | apply Kd.R_alloc | apply Kd.R_drewN | apply Kd.R_drew)); exact HO205.out) hb); have n2_ := Aside0.mk (Kd.R_below (by (with_reducible repeat (first | apply Kd.R_alloc | apply Kd.R_drewN | apply Kd.R_drew)); exact HO209.out) hb); have n3_ := Aside0.mk (below_step (bwA) hb); clear HO201; clear HO205; clear HO209; clear HB; have HO201 := n0_; have HO205 := n1_; have HO209 := n2_; have HB := n3_; clear n0_ n1_ n2_ n3_; (try clear hb); (try clear hb2); (try clear hk); (try clear hi)) | ((with_reducible refine gate_dst (N := 28) rfl ?_); (try (refine gate_guard (by rfl) ?_; dsimp only)); refine Kd.R_lit k43 _ 43 ?hg (N := 28) ?hd (xs := ([(⟨(⟨#[97]⟩ : ByteArray), (⟨t210, t211, t212⟩ : S40)⟩ : S43)] : List (S43))) (inner := [.string (⟨#[97]⟩ : ByteArray), .int .i64 t210, .int .i64 t211, .string t212]) (ok := fun _ => True) (okp := fun _ => True) ?hr ?hp (fun _ hk => hk) trivial (Below.refl _ _) (Nat.le_refl _) (by simp) ?_; (case hd => rfl); (case hg => rfl); (case hr => first | (go_simp; done) | (go_simp; rfl)); (case hp => exact (Reps.c4 (show Kd.M k43 _ _ _ (⟨(⟨#[97]⟩ : ByteArray), (⟨t210, t211, t212⟩ : S40)⟩ : S43) [.string (⟨#[97]⟩ : ByteArray), .int .i64 t210, .int .i64 t211, .string t212] from (k43_mkM _ _ _ (⟨(⟨#[97]⟩ : ByteArray), (⟨t210, t211, t212⟩ : S40)⟩ : S43) )) (Reps.none _ _))); intro v214 w26 ho27 hb hg_ hnew_; clear hg_ hnew_; (first | rw [← Ny213.out] at ho27 | (simp only [Int.reduceToNat] at ho27; rw [← Ny213.out] at ho27)); have n0_ := Aside0.mk (Kd.R_below (by (with_reducible repeat (first | apply Kd.R_alloc | apply Kd.R_drewN | apply Kd.R_drew)); exact HO201.out) hb); have n1_ := Aside0.mk (Kd.R_below (by (with_reducible repeat (first | apply Kd.R_alloc | apply Kd.R_drewN | apply Kd.R_drew)); exact HO205.out) hb); have n2_ := Aside0.mk (Kd.R_below (by (with_reducible repeat (first | apply Kd.R_alloc | apply Kd.R_drewN | apply Kd.R_drew)); exact HO209.out) hb); have n3_ := Aside0.mk (Kd.R_lower ho27 (below_size (bwA))); have n4_ := Aside0.mk (below_step (bwA) hb); clear HO201; clear HO205; clear HO209; clear HB; have HO201 := n0_; have HO205 := n1_; have HO209 := n2_; have HO215 := n3_; have HB := n4_; clear n0_ n1_ n2_ n3_ n4_; clear hb ho27; obtain ⟨Ao28, co28, eo28⟩ := Kd.R_slice HO215.out; subst eo28) | ((with_reducible refine gate_callee (f := 14) rfl ?_); refine goesA (some 29) Tryz.func14 #[.slice Ao22 t198.length co22, .slice Ao28 y213.length co28] ?_; (with_reducible refine (schema_Fits.calls k _ _ t198 _ _ y213 t216 _ ?side1 ?side2 ?side3 ?side4 ?side5 A5.out).mono ?_); (case side1 => repeat (first | exact (Kd.R_reads' HO201.out).2.2 | (with_reducible refine Kd.C_alloc ?_ _) | (with_reducible refine Kd.C_drewN ?_ _) | (with_reducible refine Kd.C_drew ?_))); (case side2 => exact (Kd.R_reads' HO201.out).2.1); (case side3 => repeat (first | exact (Kd.R_reads' HO215.out).2.2 | (with_reducible refine Kd.C_alloc ?_ _) | (with_reducible refine Kd.C_drewN ?_ _) | (with_reducible refine Kd.C_drew ?_))); (case side4 => exact (Kd.R_reads' HO215.out).2.1); (case side5 => exact Tabs.below HT.out (bwA)); rintro e w29 ⟨rfl, hb⟩; refine ⟨_, rfl, ?_⟩; have n0_ := Aside0.mk (Kd.R_below (by (with_reducible repeat (first | apply Kd.R_alloc | apply Kd.R_drewN | apply Kd.R_drew)); exact HO201.out) hb); have n1_ := Aside0.mk (Kd.R_below (by (with_reducible repeat (first | apply Kd.R_alloc | apply Kd.R_drewN | apply Kd.R_drew)); exact HO205.out) hb); have n2_ := Aside0.mk (Kd.R_below (by (with_reducible repeat (first | apply Kd.R_alloc | apply Kd.R_drewN | apply Kd.R_drew)); exact HO209.out) hb); have n3_ := Aside0.mk (Kd.R_below (by (with_reducible repeat (first | apply Kd.R_alloc | apply Kd.R_drewN | apply Kd.R_drew)); exact HO215.out) hb); have n4_ := Aside0.mk (below_step (bwA) hb); clear HO201; clear HO205; clear HO209; clear HO215; clear HB; have HO201 := n0_; have HO205 := n1_; have HO209 := n2_; have HO215 := n3_; have HB := n4_; clear n0_ n1_ n2_ n3_ n4_; (try clear hb); (try clear hb2); (try clear hk); (try clear hi)) | ((with_reducible refine gate_callee (f := 16) rfl ?_); refine goesA (some 31) Tryz.func16 #[.string (⟨#[120]⟩ : ByteArray)] ?_; (with_reducible refine (caduceuslaw04_text.calls (⟨#[120]⟩ : ByteArray) t217 t218 t219 _ A6.out).mono ?_); rintro e w30 ⟨rfl, hb⟩; refine ⟨_, rfl, ?_⟩; have n0_ := Aside0.mk (Kd.R_below (by (with_reducible repeat (first | apply Kd.R_alloc | apply Kd.R_drewN | apply Kd.R_drew)); exact HO201.out) hb); have n1_ := Aside0.mk (Kd.R_below (by (with_reducible repeat (first | apply Kd.R_alloc | apply Kd.R_drewN | apply Kd.R_drew)); exact HO205.out) hb); have n2_ := Aside0.mk (Kd.R_below (by (with_reducible repeat (first | apply Kd.R_alloc | apply Kd.R_drewN | apply Kd.R_drew)); exact HO209.out) hb); have n3_ := Aside0.mk (Kd.R_below (by (with_reducible repeat (first | apply Kd.R_alloc | apply Kd.R_drewN | apply Kd.R_drew)); exact HO215.out) hb); have n4_ := Aside0.mk (below_step (bwA) hb); clear HO201; clear HO205; clear HO209; clear HO215; clear HB; have HO201 := n0_; have HO205 := n1_; have HO209 := n2_; have HO215 := n3_; have HB := n4_; clear n0_ n1_ n2_ n3_ n4_; (try clear hb); (try clear hb2); (try clear hk); (try clear hi)) | ((with_reducible refine gate_dst (N := 33) rfl ?_); (try (refine gate_guard (by rfl) ?_; dsimp only)); refine Kd.R_lit k43 _ 43 ?hg (N := 33) ?hd (xs := ([(⟨(⟨#[98]⟩ : ByteArray), (⟨t217, t218, t219⟩ : S40)⟩ : S43)] : List (S43))) (inner := [.string (⟨#[98]⟩ : ByteArray), .int .i64 t217, .int .i64 t218, .string t219]) (ok := fun _ => True) (okp := fun _ => True) ?hr ?hp (fun _ hk => hk) trivial (Below.refl _ _) (Nat.le_refl _) (by simp) ?_; (case hd => rfl); (case hg => rfl); (case hr => first | (go_simp; done) | (go_simp; rfl)); (case hp => exact (Reps.c4 (show Kd.M k43 _ _ _ (⟨(⟨#[98]⟩ : ByteArray), (⟨t217, t218, t219⟩ : S40)⟩ : S43) [.string (⟨#[98]⟩ : ByteArray), .int .i64 t217, .int .i64 t218, .string t219] from (k43_mkM _ _ _ (⟨(⟨#[98]⟩ : ByteArray), (⟨t217, t218, t219⟩ : S40)⟩ : S43) )) (Reps.none _ _))); intro v221 w31 ho32 hb hg_ hnew_; clear hg_ hnew_; (first | rw [← Ny220.out] at ho32 | (simp only [Int.reduceToNat] at ho32; rw [← Ny220.out] at ho32)); have n0_ := Aside0.mk (Kd.R_below (by (with_reducible repeat (first | apply Kd.R_alloc | apply Kd.R_drewN | apply Kd.R_drew)); exact HO201.out) hb); have n1_ := Aside0.mk (Kd.R_below (by (with_reducible repeat (first | apply Kd.R_alloc | apply Kd.R_drewN | apply Kd.R_drew)); exact HO205.out) hb); have n2_ := Aside0.mk (Kd.R_below (by (with_reducible repeat (first | apply Kd.R_alloc | apply Kd.R_drewN | apply Kd.R_drew)); exact HO209.out) hb); have n3_ := Aside0.mk (Kd.R_elder' (by (with_reducible repeat (first | apply Kd.R_alloc | apply Kd.R_drewN | apply Kd.R_drew)); exact HO215.out) (Kd.R_base ho32) hb); have n4_ := Aside0.mk (Kd.R_lower (Kd.R_new' ho32 (Kd.R_lt (by (with_reducible repeat (first | apply Kd.R_alloc | apply Kd.R_drewN | apply Kd.R_drew)); exact HO215.out))) (below_size (bwA))); have n5_ := Aside0.mk (below_step (bwA) hb); clear HO201; clear HO205; clear HO209; clear HO215; clear HB; have HO201 := n0_; have HO205 := n1_; have HO209 := n2_; have HO215 := n3_; have HO222 := n4_; have HB := n5_; clear n0_ n1_ n2_ n3_ n4_ n5_; clear hb ho32; obtain ⟨Ao33, co33, eo33⟩ := Kd.R_slice HO222.out; subst eo33) | ((with_reducible refine gate_callee (f := 14) rfl ?_); refine goesA (some 34) Tryz.func14 #[.slice Ao22 t198.length co22, .slice Ao33 y220.length co33] ?_; (with_reducible refine (schema_Fits.calls k _ _ t198 _ _ y220 t223 _ ?side1 ?side2 ?side3 ?side4 ?side5 A7.out).mono ?_); (case side1 => repeat (first | exact (Kd.R_reads' HO201.out).2.2 | (with_reducible refine Kd.C_alloc ?_ _) | (with_reducible refine Kd.C_drewN ?_ _) | (with_reducible refine Kd.C_drew ?_))); (case side2 => exact (Kd.R_reads' HO201.out).2.1); (case side3 => repeat (first | exact (Kd.R_reads' HO222.out).2.2 | (with_reducible refine Kd.C_alloc ?_ _) | (with_reducible refine Kd.C_drewN ?_ _) | (with_reducible refine Kd.C_drew ?_))); (case side4 => exact (Kd.R_reads' HO222.out).2.1); (case side5 => exact Tabs.below HT.out (bwA)); rintro e w34 ⟨rfl, hb⟩; refine ⟨_, rfl, ?_⟩; have n0_ := Aside0.mk (Kd.R_below (by (with_reducible repeat (first | apply Kd.R_alloc | apply Kd.R_drewN | apply Kd.R_drew)); exact HO201.out) hb); have n1_ := Aside0.mk (Kd.R_below (by (with_reducible repeat (first | apply Kd.R_alloc | apply Kd.R_drewN | apply Kd.R_drew)); exact HO205.out) hb); have n2_ := Aside0.mk (Kd.R_below (by (with_reducible repeat (first | apply Kd.R_alloc | apply Kd.R_drewN | apply Kd.R_drew)); exact HO209.out) hb); have n3_ := Aside0.mk (Kd.R_below (by (with_reducible repeat (first | apply Kd.R_alloc | apply Kd.R_drewN | apply Kd.R_drew)); exact HO215.out) hb); have n4_ := Aside0.mk (Kd.R_below (by (with_reducible repeat (first | apply Kd.R_alloc | apply Kd.R_drewN | apply Kd.R_drew)); exact HO222.out) hb); have n5_ := Aside0.mk (below_step (bwA) hb); clear HO201; clear HO205; clear HO209; clear HO215; clear HO222; clear HB; have HO201 := n0_; have HO205 := n1_; have HO209 := n2_; have HO215 := n3_; have HO222 := n4_; have HB := n5_; clear n0_ n1_ n2_ n3_ n4_ n5_; (try clear hb); (try clear hb2); (try clear hk); (try clear hi)) | ((with_reducible refine gate_callee (f := 16) rfl ?_); refine goesA (some 36) Tryz.func16 #[.string (⟨#[120]⟩ : ByteArray)] ?_; (with_reducible refine (caduceuslaw04_text.calls (⟨#[120]⟩ : ByteArray) t224 t225 t226 _ A8.out).mono ?_); rintro e w35 ⟨rfl, hb⟩; refine ⟨_, rfl, ?_⟩; have n0_ := Aside0.mk (Kd.R_below (by (with_reducible repeat (first | apply Kd.R_alloc | apply Kd.R_drewN | apply Kd.R_drew)); exact HO201.out) hb); have n1_ := Aside0.mk (Kd.R_below (by (with_reducible repeat (first | apply Kd.R_alloc | apply Kd.R_drewN | apply Kd.R_drew)); exact HO205.out) hb); have n2_ := Aside0.mk (Kd.R_below (by (with_reducible repeat (first | apply Kd.R_alloc | apply Kd.R_drewN | apply Kd.R_drew)); exact HO209.out) hb); have n3_ := Aside0.mk (Kd.R_below (by (with_reducible repeat (first | apply Kd.R_alloc | apply Kd.R_drewN | apply Kd.R_drew)); exact HO215.out) hb); have n4_ := Aside0.mk (Kd.R_below (by (with_reducible repeat (first | apply Kd.R_alloc | apply Kd.R_drewN | apply Kd.R_drew)); exact HO222.out) hb); have n5_ := Aside0.mk (below_step (bwA) hb); clear HO201; clear HO205; clear HO209; clear HO215; clear HO222; clear HB; have HO201 := n0_; have HO205 := n1_; have HO209 := n2_; have HO215 := n3_; have HO222 := n4_; have HB := n5_; clear n0_ n1_ n2_ n3_ n4_ n5_; (try clear hb); (try clear hb2); (try clear hk); (try clear hi)) | ((with_reducible refine gate_dst (N := 38) rfl ?_); (try (refine gate_guard (by rfl) ?_; dsimp only)); refine Kd.R_lit k43 _ 43 ?hg (N := 38) ?hd (xs := ([(⟨(⟨#[97]⟩ : ByteArray), (⟨t224, t225, t226⟩ : S40)⟩ : S43)] : List (S43))) (inner := [.string (⟨#[97]⟩ : ByteArray), .int .i64 t224, .int .i64 t225, .string t226]) (ok := fun _ => True) (okp := fun _ => True) ?hr ?hp (fun _ hk => hk) trivial (Below.refl _ _) (Nat.le_refl _) (by simp) ?_; (case hd => rfl); (case hg => rfl); (case hr => first | (go_simp; done) | (go_simp; rfl)); (case hp => exact (Reps.c4 (show Kd.M k43 _ _ _ (⟨(⟨#[97]⟩ : ByteArray), (⟨t224, t225, t226⟩ : S40)⟩ : S43) [.string (⟨#[97]⟩ : ByteArray), .int .i64 t224, .int .i64 t225, .string t226] from (k43_mkM _ _ _ (⟨(⟨#[97]⟩ : ByteArray), (⟨t224, t225, t226⟩ : S40)⟩ : S43) )) (Reps.none _ _))); intro v228 w36 ho37 hb hg_ hnew_; clear hg_ hnew_; (first | rw [← Ny227.out] at ho37 | (simp only [Int.reduceToNat] at ho37; rw [← Ny227.out] at ho37)); have n0_ := Aside0.mk (Kd.R_below (by (with_reducible repeat (first | apply Kd.R_alloc | apply Kd.R_drewN | apply Kd.R_drew)); exact HO201.out) hb); have n1_ := Aside0.mk (Kd.R_below (by (with_reducible repeat (first | apply Kd.R_alloc | apply Kd.R_drewN | apply Kd.R_drew)); exact HO205.out) hb); have n2_ := Aside0.mk (Kd.R_below (by (with_reducible repeat (first | apply Kd.R_alloc | apply Kd.R_drewN | apply Kd.R_drew)); exact HO209.out) hb); have n3_ := Aside0.mk (Kd.R_elder' (by (with_reducible repeat (first | apply Kd.R_alloc | apply Kd.R_drewN | apply Kd.R_drew)); exact HO215.out) (Kd.R_base ho37) hb); have n4_ := Aside0.mk (Kd.R_elder' (by (with_reducible repeat (first | apply Kd.R_alloc | apply Kd.R_drewN | apply Kd.R_drew)); exact HO222.out) (Kd.R_base ho37) hb); have n5_ := Aside0.mk (Kd.R_lower (Kd.R_new' (Kd.R_new' ho37 (Kd.R_lt (by (with_reducible repeat (first | apply Kd.R_alloc | apply Kd.R_drewN | apply Kd.R_drew)); exact HO215.out))) (Kd.R_lt (by (with_reducible repeat (first | apply Kd.R_alloc | apply Kd.R_drewN | apply Kd.R_drew)); exact HO222.out))) (below_size (bwA))); have n6_ := Aside0.mk (below_step (bwA) hb); clear HO201; clear HO205; clear HO209; clear HO215; clear HO222; clear HB; have HO201 := n0_; have HO205 := n1_; have HO209 := n2_; have HO215 := n3_; have HO222 := n4_; have HO229 := n5_; have HB := n6_; clear n0_ n1_ n2_ n3_ n4_ n5_ n6_; clear hb ho37; obtain ⟨Ao38, co38, eo38⟩ := Kd.R_slice HO229.out; subst eo38) | ((with_reducible refine gate_callee (f := 14) rfl ?_); refine goesA (some 39) Tryz.func14 #[.slice Ao22 t198.length co22, .slice Ao38 y227.length co38] ?_; (with_reducible refine (schema_Fits.calls k _ _ t198 _ _ y227 t230 _ ?side1 ?side2 ?side3 ?side4 ?side5 A9.out).mono ?_); (case side1 => repeat (first | exact (Kd.R_reads' HO201.out).2.2 | (with_reducible refine Kd.C_alloc ?_ _) | (with_reducible refine Kd.C_drewN ?_ _) | (with_reducible refine Kd.C_drew ?_))); (case side2 => exact (Kd.R_reads' HO201.out).2.1); (case side3 => repeat (first | exact (Kd.R_reads' HO229.out).2.2 | (with_reducible refine Kd.C_alloc ?_ _) | (with_reducible refine Kd.C_drewN ?_ _) | (with_reducible refine Kd.C_drew ?_))); (case side4 => exact (Kd.R_reads' HO229.out).2.1); (case side5 => exact Tabs.below HT.out (bwA)); rintro e w39 ⟨rfl, hb⟩; refine ⟨_, rfl, ?_⟩; have n0_ := Aside0.mk (Kd.R_below (by (with_reducible repeat (first | apply Kd.R_alloc | apply Kd.R_drewN | apply Kd.R_drew)); exact HO201.out) hb); have n1_ := Aside0.mk (Kd.R_below (by (with_reducible repeat (first | apply Kd.R_alloc | apply Kd.R_drewN | apply Kd.R_drew)); exact HO205.out) hb); have n2_ := Aside0.mk (Kd.R_below (by (with_reducible repeat (first | apply Kd.R_alloc | apply Kd.R_drewN | apply Kd.R_drew)); exact HO209.out) hb); have n3_ := Aside0.mk (Kd.R_below (by (with_reducible repeat (first | apply Kd.R_alloc | apply Kd.R_drewN | apply Kd.R_drew)); exact HO215.out) hb); have n4_ := Aside0.mk (Kd.R_below (by (with_reducible repeat (first | apply Kd.R_alloc | apply Kd.R_drewN | apply Kd.R_drew)); exact HO222.out) hb); have n5_ := Aside0.mk (Kd.R_below (by (with_reducible repeat (first | apply Kd.R_alloc | apply Kd.R_drewN | apply Kd.R_drew)); exact HO229.out) hb); have n6_ := Aside0.mk (below_step (bwA) hb); clear HO201; clear HO205; clear HO209; clear HO215; clear HO222; clear HO229; clear HB; have HO201 := n0_; have HO205 := n1_; have HO209 := n2_; have HO215 := n3_; have HO222 := n4_; have HO229 := n5_; have HB := n6_; clear n0_ n1_ n2_ n3_ n4_ n5_ n6_; (try clear hb); (try clear hb2); (try clear hk); (try clear hi)) | ((with_reducible refine gate_callee (f := 15) rfl ?_); refine goesA (some 41) Tryz.func15 #[.int .i64 1] ?_; (with_reducible refine (caduceuslaw04_num.calls 1 t231 t232 t233 _ A10.out).mono ?_); rintro e w40 ⟨rfl, hb⟩; refine ⟨_, rfl, ?_⟩; have n0_ := Aside0.mk (Kd.R_below (by (with_reducible repeat (first | apply Kd.R_alloc | apply Kd.R_drewN | apply Kd.R_drew)); exact HO201.out) hb); have n1_ := Aside0.mk (Kd.R_below (by (with_reducible repeat (first | apply Kd.R_alloc | apply Kd.R_drewN | apply Kd.R_drew)); exact HO205.out) hb); have n2_ := Aside0.mk (Kd.R_below (by (with_reducible repeat (first | apply Kd.R_alloc | apply Kd.R_drewN | apply Kd.R_drew)); exact HO209.out) hb); have n3_ := Aside0.mk (Kd.R_below (by (with_reducible repeat (first | apply Kd.R_alloc | apply Kd.R_drewN | apply Kd.R_drew)); exact HO215.out) hb); have n4_ := Aside0.mk (Kd.R_below (by (with_reducible repeat (first | apply Kd.R_alloc | apply Kd.R_drewN | apply Kd.R_drew)); exact HO222.out) hb); have n5_ := Aside0.mk (Kd.R_below (by (with_reducible repeat (first | apply Kd.R_alloc | apply Kd.R_drewN | apply Kd.R_drew)); exact HO229.out) hb); have n6_ := Aside0.mk (below_step (bwA) hb); clear HO201; clear HO205; clear HO209; clear HO215; clear HO222; clear HO229; clear HB; have HO201 := n0_; have HO205 := n1_; have HO209 := n2_; have HO215 := n3_; have HO222 := n4_; have HO229 := n5_; have HB := n6_; clear n0_ n1_ n2_ n3_ n4_ n5_ n6_; (try clear hb); (try clear hb2); (try clear hk); (try clear hi)) | ((with_reducible refine gate_callee (f := 15) rfl ?_); refine goesA (some 43) Tryz.func15 #[.int .i64 2] ?_; (with_reducible refine (caduceuslaw04_num.calls 2 t234 t235 t236 _ A11.out).mono ?_); rintro e w41 ⟨rfl, hb⟩; refine ⟨_, rfl, ?_⟩; have n0_ := Aside0.mk (Kd.R_below (by (with_reducible repeat (first | apply Kd.R_alloc | apply Kd.R_drewN | apply Kd.R_drew)); exact HO201.out) hb); have n1_ := Aside0.mk (Kd.R_below (by (with_reducible repeat (first | apply Kd.R_alloc | apply Kd.R_drewN | apply Kd.R_drew)); exact HO205.out) hb); have n2_ := Aside0.mk (Kd.R_below (by (with_reducible repeat (first | apply Kd.R_alloc | apply Kd.R_drewN | apply Kd.R_drew)); exact HO209.out) hb); have n3_ := Aside0.mk (Kd.R_below (by (with_reducible repeat (first | apply Kd.R_alloc | apply Kd.R_drewN | apply Kd.R_drew)); exact HO215.out) hb); have n4_ := Aside0.mk (Kd.R_below (by (with_reducible repeat (first | apply Kd.R_alloc | apply Kd.R_drewN | apply Kd.R_drew)); exact HO222.out) hb); have n5_ := Aside0.mk (Kd.R_below (by (with_reducible repeat (first | apply Kd.R_alloc | apply Kd.R_drewN | apply Kd.R_drew)); exact HO229.out) hb); have n6_ := Aside0.mk (below_step (bwA) hb); clear HO201; clear HO205; clear HO209; clear HO215; clear HO222; clear HO229; clear HB; have HO201 := n0_; have HO205 := n1_; have HO209 := n2_; have HO215 := n3_; have HO222 := n4_; have HO229 := n5_; have HB := n6_; clear n0_ n1_ n2_ n3_ n4_ n5_ n6_; (try clear hb); (try clear hb2); (try clear hk); (try clear hi)) | ((with_reducible refine gate_dst (N := 45) rfl ?_); (try (refine gate_guard (by rfl) ?_; dsimp only)); refine Kd.R_lit k43 _ 43 ?hg (N := 45) ?hd (xs := ([(⟨(⟨#[97]⟩ : ByteArray), (⟨t231, t232, t233⟩ : S40)⟩ : S43), (⟨(⟨#[99]⟩ : ByteArray), (⟨t234, t235, t236⟩ : S40)⟩ : S43)] : List (S43))) (inner := [.string (⟨#[97]⟩ : ByteArray), .int .i64 t231, .int .i64 t232, .string t233, .string (⟨#[99]⟩ : ByteArray), .int .i64 t234, .int .i64 t235, .string t236]) (ok := fun _ => True) (okp := fun _ => True) ?hr ?hp (fun _ hk => hk) trivial (Below.refl _ _) (Nat.le_refl _) (by simp) ?_; (case hd => rfl); (case hg => rfl); (case hr => first | (go_simp; done) | (go_simp; rfl)); (case hp => exact (Reps.c4 (show Kd.M k43 _ _ _ (⟨(⟨#[97]⟩ : ByteArray), (⟨t231, t232, t233⟩ : S40)⟩ : S43) [.string (⟨#[97]⟩ : ByteArray), .int .i64 t231, .int .i64 t232, .string t233] from (k43_mkM _ _ _ (⟨(⟨#[97]⟩ : ByteArray), (⟨t231, t232, t233⟩ : S40)⟩ : S43) )) (Reps.c4 (show Kd.M k43 _ _ _ (⟨(⟨#[99]⟩ : ByteArray), (⟨t234, t235, t236⟩ : S40)⟩ : S43) [.string (⟨#[99]⟩ : ByteArray), .int .i64 t234, .int .i64 t235, .string t236] from (k43_mkM _ _ _ (⟨(⟨#[99]⟩ : ByteArray), (⟨t234, t235, t236⟩ : S40)⟩ : S43) )) (Reps.none _ _)))); intro v238 w42 ho43 hb hg_ hnew_; clear hg_ hnew_; (first | rw [← Ny237.out] at ho43 | (simp only [Int.reduceToNat] at ho43; rw [← Ny237.out] at ho43)); have n0_ := Aside0.mk (Kd.R_below (by (with_reducible repeat (first | apply Kd.R_alloc | apply Kd.R_drewN | apply Kd.R_drew)); exact HO201.out) hb); have n1_ := Aside0.mk (Kd.R_below (by (with_reducible repeat (first | apply Kd.R_alloc | apply Kd.R_drewN | apply Kd.R_drew)); exact HO205.out) hb); have n2_ := Aside0.mk (Kd.R_below (by (with_reducible repeat (first | apply Kd.R_alloc | apply Kd.R_drewN | apply Kd.R_drew)); exact HO209.out) hb); have n3_ := Aside0.mk (Kd.R_elder' (by (with_reducible repeat (first | apply Kd.R_alloc | apply Kd.R_drewN | apply Kd.R_drew)); exact HO215.out) (Kd.R_base ho43) hb); have n4_ := Aside0.mk (Kd.R_elder' (by (with_reducible repeat (first | apply Kd.R_alloc | apply Kd.R_drewN | apply Kd.R_drew)); exact HO222.out) (Kd.R_base ho43) hb); have n5_ := Aside0.mk (Kd.R_elder' (by (with_reducible repeat (first | apply Kd.R_alloc | apply Kd.R_drewN | apply Kd.R_drew)); exact HO229.out) (Kd.R_base ho43) hb); have n6_ := Aside0.mk (Kd.R_lower (Kd.R_new' (Kd.R_new' (Kd.R_new' ho43 (Kd.R_lt (by (with_reducible repeat (first | apply Kd.R_alloc | apply Kd.R_drewN | apply Kd.R_drew)); exact HO215.out))) (Kd.R_lt (by (with_reducible repeat (first | apply Kd.R_alloc | apply Kd.R_drewN | apply Kd.R_drew)); exact HO222.out))) (Kd.R_lt (by (with_reducible repeat (first | apply Kd.R_alloc | apply Kd.R_drewN | apply Kd.R_drew)); exact HO229.out))) (below_size (bwA))); have n7_ := Aside0.mk (below_step (bwA) hb); clear HO201; clear HO205; clear HO209; clear HO215; clear HO222; clear HO229; clear HB; have HO201 := n0_; have HO205 := n1_; have HO209 := n2_; have HO215 := n3_; have HO222 := n4_; have HO229 := n5_; have HO239 := n6_; have HB := n7_; clear n0_ n1_ n2_ n3_ n4_ n5_ n6_ n7_; clear hb ho43; obtain ⟨Ao44, co44, eo44⟩ := Kd.R_slice HO239.out; subst eo44) | ((with_reducible refine gate_callee (f := 14) rfl ?_); refine goesA (some 46) Tryz.func14 #[.slice Ao22 t198.length co22, .slice Ao44 y237.length co44] ?_; (with_reducible refine (schema_Fits.calls k _ _ t198 _ _ y237 t240 _ ?side1 ?side2 ?side3 ?side4 ?side5 A12.out).mono ?_); (case side1 => repeat (first | exact (Kd.R_reads' HO201.out).2.2 | (with_reducible refine Kd.C_alloc ?_ _) | (with_reducible refine Kd.C_drewN ?_ _) | (with_reducible refine Kd.C_drew ?_))); (case side2 => exact (Kd.R_reads' HO201.out).2.1); (case side3 => repeat (first | exact (Kd.R_reads' HO239.out).2.2 | (with_reducible refine Kd.C_alloc ?_ _) | (with_reducible refine Kd.C_drewN ?_ _) | (with_reducible refine Kd.C_drew ?_))); (case side4 => exact (Kd.R_reads' HO239.out).2.1); (case side5 => exact Tabs.below HT.out (bwA)); rintro e w45 ⟨rfl, hb⟩; refine ⟨_, rfl, ?_⟩; have n0_ := Aside0.mk (Kd.R_below (by (with_reducible repeat (first | apply Kd.R_alloc | apply Kd.R_drewN | apply Kd.R_drew)); exact HO201.out) hb); have n1_ := Aside0.mk (Kd.R_below (by (with_reducible repeat (first | apply Kd.R_alloc | apply Kd.R_drewN | apply Kd.R_drew)); exact HO205.out) hb); have n2_ := Aside0.mk (Kd.R_below (by (with_reducible repeat (first | apply Kd.R_alloc | apply Kd.R_drewN | apply Kd.R_drew)); exact HO209.out) hb); have n3_ := Aside0.mk (Kd.R_below (by (with_reducible repeat (first | apply Kd.R_alloc | apply Kd.R_drewN | apply Kd.R_drew)); exact HO215.out) hb); have n4_ := Aside0.mk (Kd.R_below (by (with_reducible repeat (first | apply Kd.R_alloc | apply Kd.R_drewN | apply Kd.R_drew)); exact HO222.out) hb); have n5_ := Aside0.mk (Kd.R_below (by (with_reducible repeat (first | apply Kd.R_alloc | apply Kd.R_drewN | apply Kd.R_drew)); exact HO229.out) hb); have n6_ := Aside0.mk (Kd.R_below (by (with_reducible repeat (first | apply Kd.R_alloc | apply Kd.R_drewN | apply Kd.R_drew)); exact HO239.out) hb); have n7_ := Aside0.mk (below_step (bwA) hb); clear HO201; clear HO205; clear HO209; clear HO215; clear HO222; clear HO229; clear HO239; clear HB; have HO201 := n0_; have HO205 := n1_; have HO209 := n2_; have HO215 := n3_; have HO222 := n4_; have HO229 := n5_; have HO239 := n6_; have HB := n7_; clear n0_ n1_ n2_ n3_ n4_ n5_ n6_ n7_; (try clear hb); (try clear hb2); (try clear hk); (try clear hi)))
        go_ret
        exact ⟨endA, bwA⟩
       ·rw [if_neg c19] at H
        exact absurd H (by simp)
      ·rw [if_neg c18] at H
       exact absurd H (by simp)
     ·rw [if_neg c17] at H
      exact absurd H (by simp)
    ·rw [if_neg c16] at H
     exact absurd H (by simp)
   ·rw [if_neg c15] at H
    exact absurd H (by simp)
  ·rw [if_neg c14] at H
   exact absurd H (by simp)
 ·rw [if_neg c13] at H
  exact absurd H (by simp)

/-! ### api_Field_98: function 98, by hand -/
/-- A row of one's own whose elements lie flat: k cells each. -/
def RowE {α : Type} (T k : Nat) (enc : α → List Value) (w : World) (g cap : Nat) (l : List α) : Prop :=
 ∃ cur : Array Value, w.heap[g]? = some (.cells cur T (0, 0)) ∧ l.length ≤ cap ∧ cap ≤ maxLen ∧ cur.size = cap * k ∧ ∀ (i c : Nat) (x : α) (u : Value), l[i]? = some x → (enc x)[c]? = some u → cur[i * k + c]? = some u
def stA : Array Value → Nat → List Value → Array Value
 | cur, _, [] => cur
 | cur, o, v :: vs => stA (cur.setIfInBounds o v) (o + 1) vs
def stC (g : Nat) : World → Nat → List Value → World
 | w, _, [] => w
 | w, o, v :: vs => stC g (w.setCell ⟨g, o, none⟩ v) (o + 1) vs
theorem stA_size : ∀ (vs : List Value) (cur : Array Value) (o : Nat), (stA cur o vs).size = cur.size
 | [], cur, o => rfl
 | v :: vs, cur, o => by rw [stA, stA_size vs, Array.size_setIfInBounds]
theorem stA_get : ∀ (vs : List Value) (cur : Array Value) (o j : Nat), o + vs.length ≤ cur.size → (stA cur o vs)[j]? = if o ≤ j ∧ j < o + vs.length then vs[j - o]? else cur[j]?
 | [], cur, o, j, h => by rw [stA, if_neg (fun hh => by have := hh.2; simp only [List.length_nil] at this; omega)]
 | v :: vs, cur, o, j, h => by
  rw [List.length_cons] at h
  rw [stA, stA_get vs _ _ j (by rw [Array.size_setIfInBounds]; omega), List.length_cons]
  by_cases h1 : o + 1 ≤ j ∧ j < o + 1 + vs.length
  ·rw [if_pos h1, if_pos (by omega), show j - o = (j - (o + 1)) + 1 by omega, List.getElem?_cons_succ]
  ·rw [if_neg h1, Array.getElem?_setIfInBounds]
   by_cases h2 : o = j
   ·subst h2
    rw [if_pos rfl, if_pos (by omega), if_pos (by omega), Nat.sub_self, List.getElem?_cons_zero]
   ·rw [if_neg h2, if_neg (by omega)]
theorem stC_heap {g T : Nat} : ∀ (vs : List Value) (w : World) (cur : Array Value) (o : Nat), w.heap[g]? = some (.cells cur T (0, 0)) → (stC g w o vs).heap[g]? = some (.cells (stA cur o vs) T (0, 0))
 | [], w, cur, o, h => h
 | v :: vs, w, cur, o, h => stC_heap vs _ _ _ (blk_put h o v rfl)
theorem stC_below {g B : Nat} : ∀ (vs : List Value) (w W : World) (o : Nat), Below B w W → B ≤ g → Below B w (stC g W o vs)
 | [], w, W, o, h, hg => h
 | v :: vs, w, W, o, h, hg => stC_below vs w _ _ (h.setCell (p := ⟨g, o, none⟩) hg v) hg
section
variable {α : Type} {T k : Nat} {enc : α → List Value} {w w' : World} {g cap : Nat} {l : List α}
theorem RowE.cell (h : RowE T k enc w g cap l) {i c : Nat} {x : α} {u : Value} (hx : l[i]? = some x) (hc : (enc x)[c]? = some u) : w.cell? ⟨g, i * k + c, none⟩ = some u := by
 obtain ⟨cur, h1, _, _, _, h5⟩ := h
 exact (blk_cell h1 _).trans (h5 i c x u hx hc)
theorem RowE.frozen (h : RowE T k enc w g cap l) (j : Nat) : w.frozen? ⟨g, j, none⟩ = false := by
 obtain ⟨cur, h1, _⟩ := h
 exact blk_frozen h1 j
theorem RowE.below (h : RowE T k enc w g cap l) (hb : Below w.heap.size w w') : RowE T k enc w' g cap l := by
 obtain ⟨cur, h1, h2⟩ := h
 exact ⟨cur, blk_below h1 hb, h2⟩
theorem RowE.lt (h : RowE T k enc w g cap l) : g < w.heap.size := by
 obtain ⟨cur, h1, _⟩ := h
 exact blk_lt h1
theorem RowE.len (h : RowE T k enc w g cap l) : l.length ≤ cap ∧ cap ≤ maxLen := by
 obtain ⟨cur, _, h2, h3, _⟩ := h
 exact ⟨h2, h3⟩
theorem RowE.put (h : RowE T k enc w g cap l) (hk : ∀ x, (enc x).length = k) (i : Nat) (hi : i < l.length) (y : α) : RowE T k enc (stC g w (i * k) (enc y)) g cap (l.set i y) := by
 obtain ⟨cur, h1, h2, h3, h4, h5⟩ := h
 have hroom : i * k + (enc y).length ≤ cur.size := by
  rw [hk, h4, show i * k + k = (i + 1) * k by rw [Nat.add_mul, Nat.one_mul]]
  exact Nat.mul_le_mul_right k (by omega)
 refine ⟨stA cur (i * k) (enc y), stC_heap _ _ _ _ h1, by rw [List.length_set]; exact h2, h3, by rw [stA_size]; exact h4, fun j c x u hj hc => ?_⟩
 have hcl : c < k := by rw [← hk x]; exact (List.getElem?_eq_some_iff.1 hc).1
 rw [stA_get _ _ _ _ hroom, hk]
 rw [List.getElem?_set] at hj
 by_cases e : i = j
 ·subst e
  rw [if_pos rfl, if_pos hi] at hj
  obtain rfl := Option.some.inj hj
  rw [if_pos (by omega), Nat.add_sub_cancel_left]
  exact hc
 ·rw [if_neg e] at hj
  rw [if_neg (fun hh => e ?_)]
  ·exact h5 j c x u hj hc
  ·have h6 : i * k < (j + 1) * k := by rw [Nat.add_mul, Nat.one_mul]; omega
   have h7 : j * k < (i + 1) * k := by rw [Nat.add_mul, Nat.one_mul]; omega
   have h8 := Nat.lt_of_mul_lt_mul_right h6
   have h9 := Nat.lt_of_mul_lt_mul_right h7
   omega
end
def swpL {α : Type} (l : List α) (i j : Nat) : List α := match l[i]?, l[j]? with
 | some x, some y => (l.set i y).set j x
 | _, _ => l
def swapRL {α : Type} : Nat → List α → Nat → Nat → List α
 | 0, l, _, _ => l
 | n + 1, l, a, b => swapRL n (swpL l a b) (a + 1) (b + 1)
theorem swpL_len {α : Type} (l : List α) (i j : Nat) : (swpL l i j).length = l.length := by
 unfold swpL
 split
 ·rw [List.length_set, List.length_set]
 ·rfl
theorem swapRL_len {α : Type} : ∀ (n : Nat) (l : List α) (a b : Nat), (swapRL n l a b).length = l.length
 | 0, l, a, b => rfl
 | n + 1, l, a, b => by rw [swapRL, swapRL_len n, swpL_len]
theorem swpL_at {α : Type} {l : List α} {i j : Nat} {x y : α} (hx : l[i]? = some x) (hy : l[j]? = some y) : swpL l i j = (l.set i y).set j x := by
 unfold swpL
 rw [hx, hy]
theorem idx_add (a i len : Nat) (h : a + i < len) (hl : len ≤ maxLen) : ∃ j : Int, wrap64 ((a : Int) + (i : Int)) = j ∧ IntKind.i64.wrap ((a : Int) + (i : Int)) = j ∧ (0 ≤ j) = True ∧ (j < (len : Int)) = True ∧ j.toNat = a + i ∧ j = ((a + i : Nat) : Int) := by
 have e : wrap64 ((a : Int) + (i : Int)) = ((a + i : Nat) : Int) := by unfold maxLen at hl; unfold wrap64; omega
 exact ⟨((a + i : Nat) : Int), e, (i64_w _).trans e, eq_true (Int.natCast_nonneg _), eq_true (Int.ofNat_lt.2 h), Int.toNat_natCast _, rfl⟩
theorem w_add (a i len : Nat) (h : a + i ≤ len) (hl : len ≤ maxLen) : wrap64 ((a : Int) + (i : Int)) = ((a + i : Nat) : Int) ∧ IntKind.i64.wrap ((a : Int) + (i : Int)) = ((a + i : Nat) : Int) := by
 have e : wrap64 ((a : Int) + (i : Int)) = ((a + i : Nat) : Int) := by unfold maxLen at hl; unfold wrap64; omega
 exact ⟨e, (i64_w _).trans e⟩
theorem w_one (i len : Nat) (h : i + 1 ≤ len) (hl : len ≤ maxLen) : wrap64 ((i : Int) + 1) = ((i + 1 : Nat) : Int) := by unfold maxLen at hl; unfold wrap64; omega
theorem w_dec (j len : Nat) (h : 1 ≤ j) (hm : j ≤ len) (hl : len ≤ maxLen) : wrap64 ((j : Int) - 1) = ((j - 1 : Nat) : Int) ∧ IntKind.i64.wrap ((j : Int) - 1) = ((j - 1 : Nat) : Int) := by
 have e : wrap64 ((j : Int) - 1) = ((j - 1 : Nat) : Int) := by unfold maxLen at hl; unfold wrap64; omega
 exact ⟨e, (i64_w _).trans e⟩
def encF (x : S35) : List Value := [.string x.f0, .int .i64 x.f1, .bool x.f2]
theorem encF_len (x : S35) : (encF x).length = 3 := rfl
theorem addr0 (g n : Nat) : (⟨g, 0, none⟩ : Addr).add n = ⟨g, n, none⟩ := by
 unfold Addr.add
 split
 ·rename_i h; rw [h]
 ·simp
theorem cellF {ad : Addr} {g cap : Nat} {W : World} {l2 : List S35} (had : ad = ⟨g, 0, none⟩) (hW : RowE 35 3 encF W g cap l2) {q : Nat} {z : S35} (hz : l2[q]? = some z) : W.cell? (ad.add (q * 3)) = some (.string z.f0) ∧ W.cell? ⟨(ad.add (q * 3)).block, (ad.add (q * 3)).off + 1, none⟩ = some (.int .i64 z.f1) ∧ W.cell? ⟨(ad.add (q * 3)).block, (ad.add (q * 3)).off + 2, none⟩ = some (.bool z.f2) := by
 subst had
 rw [addr0]
 exact ⟨hW.cell (c := 0) hz rfl, hW.cell (c := 1) hz rfl, hW.cell (c := 2) hz rfl⟩
theorem frozF {ad : Addr} {g cap : Nat} {W : World} {l2 : List S35} (had : ad = ⟨g, 0, none⟩) (hW : RowE 35 3 encF W g cap l2) (q : Nat) : W.frozen? (ad.add (q * 3)) = false ∧ W.frozen? ⟨(ad.add (q * 3)).block, (ad.add (q * 3)).off + 1, none⟩ = false ∧ W.frozen? ⟨(ad.add (q * 3)).block, (ad.add (q * 3)).off + 2, none⟩ = false := by
 subst had
 rw [addr0]
 exact ⟨hW.frozen _, hW.frozen _, hW.frozen _⟩
theorem storF {ad : Addr} {g cap : Nat} {W : World} {l2 : List S35} (had : ad = ⟨g, 0, none⟩) (hW : RowE 35 3 encF W g cap l2) {q : Nat} {y : S35} (hz : l2[q]? = some y) (z : S35) :
  W.cell? (ad.add (q * 3)) = some (.string y.f0) ∧ W.frozen? (ad.add (q * 3)) = false ∧
  (W.setCell (ad.add (q * 3)) (.string z.f0)).cell? ⟨(ad.add (q * 3)).block, (ad.add (q * 3)).off + 1, none⟩ = some (.int .i64 y.f1) ∧ (W.setCell (ad.add (q * 3)) (.string z.f0)).frozen? ⟨(ad.add (q * 3)).block, (ad.add (q * 3)).off + 1, none⟩ = false ∧
  ((W.setCell (ad.add (q * 3)) (.string z.f0)).setCell ⟨(ad.add (q * 3)).block, (ad.add (q * 3)).off + 1, none⟩ (.int .i64 z.f1)).cell? ⟨(ad.add (q * 3)).block, (ad.add (q * 3)).off + 2, none⟩ = some (.bool y.f2) ∧ ((W.setCell (ad.add (q * 3)) (.string z.f0)).setCell ⟨(ad.add (q * 3)).block, (ad.add (q * 3)).off + 1, none⟩ (.int .i64 z.f1)).frozen? ⟨(ad.add (q * 3)).block, (ad.add (q * 3)).off + 2, none⟩ = false := by
 subst had
 rw [addr0]
 obtain ⟨cur, h1, h2, h3, h4, h5⟩ := hW
 have hq : q < l2.length := (List.getElem?_eq_some_iff.1 hz).1
 have hroom : q * 3 + 3 ≤ cur.size := by omega
 have k1 := stC_heap [.string z.f0] W cur (q * 3) h1
 have k2 := stC_heap [.string z.f0, .int .i64 z.f1] W cur (q * 3) h1
 refine ⟨(blk_cell h1 _).trans (h5 q 0 y _ hz rfl), blk_frozen h1 _, (blk_cell k1 _).trans ?_, blk_frozen k1 _, (blk_cell k2 _).trans ?_, blk_frozen k2 _⟩
 ·rw [stA_get _ _ _ _ (by show q * 3 + 1 ≤ _; omega), if_neg (by show ¬ (q * 3 ≤ q * 3 + 1 ∧ q * 3 + 1 < q * 3 + 1); omega)]
  exact h5 q 1 y _ hz rfl
 ·rw [stA_get _ _ _ _ (by show q * 3 + 2 ≤ _; omega), if_neg (by show ¬ (q * 3 ≤ q * 3 + 2 ∧ q * 3 + 2 < q * 3 + 2); omega)]
  exact h5 q 2 y _ hz rfl
theorem putF {ad : Addr} {g cap B : Nat} {w0 W : World} {l2 : List S35} (had : ad = ⟨g, 0, none⟩) (hW : RowE 35 3 encF W g cap l2) (hB : Below B w0 W) (hg : B ≤ g) (z : S35) {q : Nat} (hq : q < l2.length) :
  RowE 35 3 encF (((W.setCell (ad.add (q * 3)) (.string z.f0)).setCell ⟨(ad.add (q * 3)).block, (ad.add (q * 3)).off + 1, none⟩ (.int .i64 z.f1)).setCell ⟨(ad.add (q * 3)).block, (ad.add (q * 3)).off + 2, none⟩ (.bool z.f2)) g cap (l2.set q z) ∧
  Below B w0 (((W.setCell (ad.add (q * 3)) (.string z.f0)).setCell ⟨(ad.add (q * 3)).block, (ad.add (q * 3)).off + 1, none⟩ (.int .i64 z.f1)).setCell ⟨(ad.add (q * 3)).block, (ad.add (q * 3)).off + 2, none⟩ (.bool z.f2)) := by
 subst had
 rw [addr0]
 exact ⟨hW.put encF_len _ hq z, stC_below (encF z) w0 W _ hB hg⟩
def swapR.T3 : Bool × List (List Nat × List Nat) := (true, [([], []), ([], []), ([], []), ([1, 2], [1, 2]), ([], []), ([], []), ([], []), ([5, 6], [5, 6]), ([], []), ([], []), ([], []), ([9, 10], [9, 10]), ([8, 11], [8, 11]), ([12], [12]), ([], []), ([], []), ([], []), ([15, 16], [15, 16]), ([14, 17], [14, 17]), ([18], [18]), ([0, 3, 0, 1, 2, 3, 8, 9, 10, 11, 12, 13, 19], [0, 3]), ([20, 13, 0, 1, 2, 3, 8, 9, 10, 11, 12, 13, 19], [13, 20]), ([4, 7, 0, 1, 2, 3, 4, 5, 6, 7, 8, 9, 10, 11, 12, 13, 14, 15, 16, 17, 18, 19, 20, 21], [4, 7]), ([22, 19, 21, 0, 1, 2, 3, 4, 5, 6, 7, 8, 9, 10, 11, 12, 13, 14, 15, 16, 17, 18, 19, 20, 21], [19, 22])])
def bitsOf (T : List (List Nat × List Nat)) : List Nat := T.foldl (fun B r => B ++ [r.1.foldl (fun b n => b ||| (2 ^ n ||| B.getD n 0)) 0]) []
theorem swapR.tab3 : rtab .any (opsOf Tryz.f98 3) = swapR.T3 := by kernel_rfl
theorem swapR.bits3 : waitsOk swapR.T3.2 (bitsOf swapR.T3.2) = true := by kernel_rfl
set_option maxHeartbeats 8000000 in
set_option maxRecDepth 100000 in
theorem swapR.calls (B g cap : Nat) (l : List S35) (a b n : Nat) (F : Value) (w : World) (hr : RowE 35 3 encF w g cap l) (hg : B ≤ g) (ha : a + n ≤ l.length) (hb : b + n ≤ l.length) :
  Calls Tryz.prog 98 #[.slice (some ⟨g, 0, none⟩) l.length cap, .int .i64 a, .int .i64 b, .int .i64 n, F] w fun e w' => e = .returned (.tuple #[]) ∧ RowE 35 3 encF w' g cap (swapRL n l a b) ∧ Below B w w' := by
 have hu := Tryz.underlying35
 obtain ⟨ad, had⟩ : ∃ ad : Addr, ad = ⟨g, 0, none⟩ := ⟨_, rfl⟩
 rw [← had]
 have HAD := Aside0.mk had
 clear had
 have HR0 := Aside0.mk hr
 have HG := Aside0.mk hg
 have HL := Aside0.mk (And.intro ha (And.intro hb hr.len))
 clear hr hg ha hb
 go_enter Tryz.func98, Tryz.ntmps98
 go_wp2
 go_loopw [10] (fun v10 wr => ∃ (i : Nat) (l1 : List S35), v10 = .int .i64 i ∧ Hid (i ≤ n) ∧ Hid (l1.length = l.length) ∧ Hid (RowE 35 3 encF wr g cap l1) ∧ Hid (Below B w wr) ∧ Hid (swapRL (n - i) l1 (a + i) (b + i) = swapRL n l a b)) (fun v10 _ => n - (intOf v10).toNat)
 case atStart => exact ⟨0, l, rfl, Lib.hid (Nat.zero_le _), Lib.hid rfl, Lib.hid HR0.out, Lib.hid (Below.refl _ _), Lib.hid rfl⟩
 case round =>
  obtain ⟨i, l1, rfl, HI, HL1, HR, HB, HS⟩ := hrel
  by_cases hlt : i < n
  ·have b1 : decide ((i : Int) < (n : Int)) = true := decide_eq_true (by omega)
   have b2 : decide (i < n) = true := decide_eq_true hlt
   have hi := hlt
   have HI2 := Lib.hid hlt
   clear hlt hi
   go_wp2
   obtain ⟨ja, ea, ea2, pa, qa, na, hja⟩ := idx_add a i l.length (by have := HL.out; have := HI2.out; omega) (by have := HL.out; omega)
   obtain ⟨jb, eb, eb2, pb, qb, nb, hjb⟩ := idx_add b i l.length (by have := HL.out; have := HI2.out; omega) (by have := HL.out; omega)
   obtain ⟨x, hx⟩ : ∃ x, l1[a + i]? = some x := ⟨_, List.getElem?_eq_getElem (by have := HL.out; have := HI2.out; have := HL1.out; clear ea ea2 eb eb2; omega)⟩
   obtain ⟨y, hy⟩ : ∃ y, l1[b + i]? = some y := ⟨_, List.getElem?_eq_getElem (by have := HL.out; have := HI2.out; have := HL1.out; clear ea ea2 eb eb2; omega)⟩
   clear hja hjb
   have HRd := Aside0.mk (HR.out.below (w' := wr.drew) (below_drew (Below.refl _ _)))
   have HBd := Aside0.mk (below_drew HB.out)
   obtain ⟨ax0, ax1, ax2⟩ := cellF HAD.out HRd.out hx
   obtain ⟨ay0, ay1, ay2⟩ := cellF HAD.out HRd.out hy
   refine start_ (n := 24) (S := fun w' => w'.cell? (ad.add ((a + i) * 3)) = some (.string x.f0) ∧ w'.cell? ⟨(ad.add ((a + i) * 3)).block, (ad.add ((a + i) * 3)).off + 1, none⟩ = some (.int .i64 x.f1) ∧ w'.cell? ⟨(ad.add ((a + i) * 3)).block, (ad.add ((a + i) * 3)).off + 2, none⟩ = some (.bool x.f2) ∧ w'.cell? (ad.add ((b + i) * 3)) = some (.string y.f0) ∧ w'.cell? ⟨(ad.add ((b + i) * 3)).block, (ad.add ((b + i) * 3)).off + 1, none⟩ = some (.int .i64 y.f1) ∧ w'.cell? ⟨(ad.add ((b + i) * 3)).block, (ad.add ((b + i) * 3)).off + 2, none⟩ = some (.bool y.f2)) (ds := [21, 23]) (mkB 24 0) (by kernel_rfl) rfl rfl ⟨ax0, ax1, ax2, ay0, ay1, ay2⟩ (fun hHeld => ?_); refine with_tabW swapR.tab3 swapR.bits3 (fun HT_ HW_ => ?_)
   generalize wr.drew = w6 at HRd HBd hHeld ax0 ax1 ax2 ay0 ay1 ay2 ⊢
   refine pureA 0 (some 16) (mkB 24 1) ?_
   refine pureA 1 (some 17) (mkB 24 3) ?_
   refine pureA 2 (some 18) (mkB 24 7) ?_
   refine pureA 3 (some 19) (mkB 24 15) ?_
   refine pureA 4 (some 20) (mkB 24 31) ?_
   refine pureA 5 (some 21) (mkB 24 63) ?_
   refine pureA 6 (some 22) (mkB 24 127) ?_
   refine pureA 7 (some 23) (mkB 24 255) ?_
   refine pureA 8 (some 24) (mkB 24 511) ?_
   refine pureA 9 (some 25) (mkB 24 1023) ?_
   refine pureA 10 (some 26) (mkB 24 2047) ?_
   refine pureA 11 (some 27) (mkB 24 4095) ?_
   refine pureA 12 (some 28) (mkB 24 8191) ?_
   refine takeA 13 (some 29) (mkB 24 16383) ?_ rfl (Or.inl ⟨by rfl, by rintro w' ⟨s0, s1, s2, s3, s4, s5⟩; go_simp; with_reducible rfl⟩)
   refine pureA 14 (some 30) (mkB 24 32767) ?_
   refine pureA 15 (some 31) (mkB 24 65535) ?_
   refine pureA 16 (some 32) (mkB 24 131071) ?_
   refine pureA 17 (some 33) (mkB 24 262143) ?_
   refine pureA 18 (some 34) (mkB 24 524287) ?_
   refine takeA 19 (some 35) (mkB 24 1048575) ?_ rfl (Or.inl ⟨by rfl, by rintro w' ⟨s0, s1, s2, s3, s4, s5⟩; go_simp; with_reducible rfl⟩)
   refine pureA 20 (some 36) (mkB 24 2097151) ?_
   obtain ⟨ax0, fx0, ax1, fx1, ax2, fx2⟩ := storF HAD.out HRd.out hx y
   refine last_ (i := 21) (N := none) (mkB 24 4194303) rfl rfl (one_of HT_.out (by kernel_rfl)) (by decide) (fun K hK => ?_)
   refine skip_ (w1 := ?_) (by rfl) rfl ?_ ?_
   rotate_left
   ·go_simp
    rfl
   refine hK.out _ _ ?_
   clear hK K
   have hlen : a + i < l1.length := (List.getElem?_eq_some_iff.1 hx).1
   have hlen2 : b + i < l1.length := (List.getElem?_eq_some_iff.1 hy).1
   obtain ⟨HR7, HB7⟩ := putF HAD.out HRd.out HBd.out HG.out y hlen
   clear ax0 ax1 ax2 ay0 ay1 ay2 fx0 fx1 fx2 hHeld HRd HBd
   generalize (((w6.setCell (ad.add ((a + i) * 3)) (.string y.f0)).setCell ⟨(ad.add ((a + i) * 3)).block, (ad.add ((a + i) * 3)).off + 1, none⟩ (.int .i64 y.f1)).setCell ⟨(ad.add ((a + i) * 3)).block, (ad.add ((a + i) * 3)).off + 2, none⟩ (.bool y.f2)) = w7 at HR7 HB7 ⊢
   obtain ⟨z, hz⟩ : ∃ z, (l1.set (a + i) y)[b + i]? = some z := ⟨_, List.getElem?_eq_getElem (by rw [List.length_set]; exact hlen2)⟩
   obtain ⟨cz0, fz0, cz1, fz1, cz2, fz2⟩ := storF HAD.out HR7 hz x
   refine pureA 22 (some 37) (mkB 24 8388607) ?_
   refine last_ (i := 23) (N := none) (mkB 24 16777215) rfl rfl (one_of HT_.out (by kernel_rfl)) (by decide) (fun K hK => ?_)
   refine skip_ (w1 := ?_) (by rfl) rfl ?_ ?_
   rotate_left
   ·go_simp
    rfl
   refine hK.out _ _ ?_
   clear hK K
   refine done_ (done_of HT_.out (by kernel_rfl)) ?_
   obtain ⟨HR8, HB8⟩ := putF HAD.out HR7 HB7 HG.out x (by rw [List.length_set]; exact hlen2)
   clear cz0 cz1 cz2 fz0 fz1 fz2 HR7 HB7
   generalize (((w7.setCell (ad.add ((b + i) * 3)) (.string x.f0)).setCell ⟨(ad.add ((b + i) * 3)).block, (ad.add ((b + i) * 3)).off + 1, none⟩ (.int .i64 x.f1)).setCell ⟨(ad.add ((b + i) * 3)).block, (ad.add ((b + i) * 3)).off + 2, none⟩ (.bool x.f2)) = w8 at HR8 HB8 ⊢
   have wi := w_one i l.length (by have := HL.out; have := HI2.out; clear ea ea2 eb eb2; omega) (by have := HL.out; clear ea ea2 eb eb2; omega)
   go_wp2
   go_roundw
   case rel => exact ⟨i + 1, swpL l1 (a + i) (b + i), (by rw [wi]), Lib.hid (by have := HI2.out; clear ea ea2 eb eb2; omega), Lib.hid (by rw [swpL_len]; exact HL1.out), Lib.hid (by rw [swpL_at hx hy]; exact HR8), Lib.hid HB8, Lib.hid (by
    have h1 := HS.out
    have e : n - i = (n - (i + 1)) + 1 := by have := HI2.out; clear ea ea2 eb eb2; omega
    rw [e, swapRL] at h1
    exact h1)⟩
   case measure =>
    show n - (intOf (.int .i64 (wrap64 ((i : Int) + 1)))).toNat < n - (intOf (.int .i64 (i : Int))).toNat
    rw [wi]
    simp only [intOf]
    have := HI2.out
    clear ea ea2 eb eb2 wi
    omega
  ·have b1 : decide ((i : Int) < (n : Int)) = false := decide_eq_false (by omega)
   have b2 : decide (i < n) = false := decide_eq_false hlt
   have hi := HI.out
   have e : n - i = 0 := by omega
   have hs := HS.out
   rw [e, swapRL] at hs
   clear hi e hlt
   go_wp2
   go_end0
   exact ⟨rfl, by rw [← hs]; exact HR.out, HB.out⟩

/-! ### api_Field_82: function 82, by hand -/
theorem swapR.calls2 (B g cap len : Nat) (l : List S35) (a b n : Nat) (F : Value) (w : World) (hlen : l.length = len) (hr : RowE 35 3 encF w g cap l) (hg : B ≤ g) (ha : a + n ≤ len) (hb : b + n ≤ len) :
  Calls Tryz.prog 98 #[.slice (some ⟨g, 0, none⟩) len cap, .int .i64 a, .int .i64 b, .int .i64 n, F] w fun e w' => e = .returned (.tuple #[]) ∧ RowE 35 3 encF w' g cap (swapRL n l a b) ∧ Below B w w' := by
 subst hlen
 exact swapR.calls B g cap l a b n F w hr hg ha hb
def rotGo {α : Type} : Nat → List α → Nat → Nat → Nat → List α
 | 0, l, _, _, _ => l
 | f + 1, l, m, i, j => if i = j then swapRL i l (m - i) m else if j < i then rotGo f (swapRL j l (m - i) m) m (i - j) j else rotGo f (swapRL i l (m - i) (m + j - i)) m i (j - i)
theorem rotGo_len {α : Type} : ∀ (f : Nat) (l : List α) (m i j : Nat), (rotGo f l m i j).length = l.length
 | 0, l, m, i, j => rfl
 | f + 1, l, m, i, j => by
  rw [rotGo]
  split
  ·rw [swapRL_len]
  split
  ·rw [rotGo_len f, swapRL_len]
  ·rw [rotGo_len f, swapRL_len]
theorem w_sub (m i len : Nat) (h : i ≤ m) (hm : m ≤ len) (hl : len ≤ maxLen) : wrap64 ((m : Int) - (i : Int)) = ((m - i : Nat) : Int) ∧ IntKind.i64.wrap ((m : Int) - (i : Int)) = ((m - i : Nat) : Int) := by
 have e : wrap64 ((m : Int) - (i : Int)) = ((m - i : Nat) : Int) := by unfold maxLen at hl; unfold wrap64; omega
 exact ⟨e, (i64_w _).trans e⟩
theorem w_adds (m j i len : Nat) (h : i ≤ m + j) (hm : m + j ≤ len) (hl : len ≤ maxLen) : wrap64 ((m : Int) + (j : Int) - (i : Int)) = ((m + j - i : Nat) : Int) ∧ IntKind.i64.wrap ((m : Int) + (j : Int) - (i : Int)) = ((m + j - i : Nat) : Int) := by
 have e : wrap64 ((m : Int) + (j : Int) - (i : Int)) = ((m + j - i : Nat) : Int) := by unfold maxLen at hl; unfold wrap64; omega
 exact ⟨e, (i64_w _).trans e⟩
set_option maxHeartbeats 8000000 in
set_option maxRecDepth 100000 in
theorem rot.calls (B g cap len : Nat) (l : List S35) (a m b : Nat) (F : Value) (w : World) (hlen : l.length = len) (hr : RowE 35 3 encF w g cap l) (hg : B ≤ g) (ha : a < m) (hb : m < b) (hbl : b ≤ len) :
  Calls Tryz.prog 82 #[.slice (some ⟨g, 0, none⟩) len cap, .int .i64 a, .int .i64 m, .int .i64 b, F] w fun e w' => e = .returned (.tuple #[]) ∧ RowE 35 3 encF w' g cap (rotGo (b - a) l m (m - a) (b - m)) ∧ Below B w w' := by
 have HR0 := Aside0.mk hr
 have HG := Aside0.mk hg
 have HL := Aside0.mk (And.intro ha (And.intro hb (And.intro hbl (And.intro hlen hr.len))))
 have E1 := Aside0.mk (w_sub m a len (by omega) (by omega) (by have := hr.len; omega))
 have E3 := Aside0.mk (w_sub b m len (by omega) (by omega) (by have := hr.len; omega))
 clear hr hg ha hb hbl hlen
 obtain ⟨e1, e2⟩ := E1.out
 obtain ⟨e3, e4⟩ := E3.out
 go_enter Tryz.func82, Tryz.ntmps82
 go_wp2
 go_loopw [10, 11] (fun v10 v11 wr => ∃ (i j f : Nat) (l1 : List S35), v10 = .int .i64 i ∧ v11 = .int .i64 j ∧ Hid (1 ≤ i ∧ 1 ≤ j ∧ i ≤ m ∧ m + j ≤ len ∧ i + j ≤ f + 1) ∧ Hid (l1.length = len) ∧ Hid (RowE 35 3 encF wr g cap l1) ∧ Hid (Below B w wr) ∧ Hid (rotGo (f + 1) l1 m i j = rotGo (b - a) l m (m - a) (b - m))) (fun v10 v11 _ => (intOf v10).toNat + (intOf v11).toNat)
 case atStart =>
  have e : b - a - 1 + 1 = b - a := by have := HL.out; clear e1 e2 e3 e4; omega
  exact ⟨m - a, b - m, b - a - 1, l, rfl, rfl, Lib.hid (by have := HL.out; clear e1 e2 e3 e4; omega), Lib.hid HL.out.2.2.2.1, Lib.hid HR0.out, Lib.hid (Below.refl _ _), Lib.hid (by rw [e])⟩
 case round =>
  obtain ⟨i, j, f, l1, rfl, rfl, HI, HL1, HR, HB, HS⟩ := hrel
  clear e1 e2 e3 e4
  by_cases hne : i = j
  ·subst hne
   have hs := HS.out
   rw [rotGo, if_pos rfl] at hs
   have HS2 := Lib.hid hs
   clear hs HS
   have E1 := Aside0.mk (w_sub m i len (by have := HI.out; omega) (by have := HI.out; omega) (by have := HL.out; omega))
   have cS := fun (W : World) (hW : W = wr) => swapR.calls2 B g cap len l1 (m - i) m i F W HL1.out (hW ▸ HR.out) HG.out (by have := HI.out; omega) (by have := HI.out; omega)
   obtain ⟨e1, e2⟩ := E1.out
   go_wp2_with (go_at_call 98; refine (cS _ rfl).mono ?_; rintro e w9 ⟨rfl, h9, b9⟩)
   go_end0
   exact ⟨rfl, by rw [← HS2.out]; exact h9, HB.out.trans b9⟩
  ·by_cases hgt : j < i
   ·have hs := HS.out
    rw [rotGo, if_neg hne, if_pos hgt] at hs
    have HS2 := Lib.hid hs
    have HJ := Lib.hid hgt
    clear hs HS
    have b1 : decide (i = j) = false := decide_eq_false hne
    have b2 : decide (j < i) = true := decide_eq_true hgt
    have b3 : decide ((i : Int) = (j : Int)) = false := decide_eq_false (by omega)
    have b5 : ((i : Int) != (j : Int)) = true := bne_iff_ne.2 (by omega)
    have b4 : decide ((j : Int) < (i : Int)) = true := decide_eq_true (by omega)
    clear hne hgt
    have E1 := Aside0.mk (w_sub m i len (by have := HI.out; omega) (by have := HI.out; omega) (by have := HL.out; omega))
    have E3 := Aside0.mk (w_sub i j len (by have := HJ.out; omega) (by have := HI.out; omega) (by have := HL.out; omega))
    have cS := fun (W : World) (hW : W = wr) => swapR.calls2 B g cap len l1 (m - i) m j F W HL1.out (hW ▸ HR.out) HG.out (by have := HI.out; have := HJ.out; omega) (by have := HI.out; omega)
    obtain ⟨e1, e2⟩ := E1.out
    obtain ⟨e3, e4⟩ := E3.out
    go_wp2_with (go_at_call 98; refine (cS _ rfl).mono ?_; rintro e w9 ⟨rfl, h9, b9⟩)
    go_roundw
    case rel =>
     have e : f - 1 + 1 = f := by have := HI.out; have := HJ.out; clear e1 e2 e3 e4; omega
     exact ⟨i - j, j, f - 1, swapRL j l1 (m - i) m, rfl, rfl, Lib.hid (by have := HI.out; have := HJ.out; clear e1 e2 e3 e4; omega), Lib.hid (by rw [swapRL_len]; exact HL1.out), Lib.hid h9, Lib.hid (HB.out.trans b9), Lib.hid (by rw [e]; exact HS2.out)⟩
    case measure =>
     simp only [intOf]
     have := HI.out
     have := HJ.out
     clear e1 e2 e3 e4
     omega
   ·have hs := HS.out
    rw [rotGo, if_neg hne, if_neg hgt] at hs
    have HS2 := Lib.hid hs
    have HJ := Lib.hid (show i < j by omega)
    clear hs HS
    have b1 : decide (i = j) = false := decide_eq_false hne
    have b2 : decide (j < i) = false := decide_eq_false hgt
    have b3 : decide ((i : Int) = (j : Int)) = false := decide_eq_false (by omega)
    have b5 : ((i : Int) != (j : Int)) = true := bne_iff_ne.2 (by omega)
    have b4 : decide ((j : Int) < (i : Int)) = false := decide_eq_false (by omega)
    clear hne hgt
    have E1 := Aside0.mk (w_sub m i len (by have := HI.out; omega) (by have := HI.out; omega) (by have := HL.out; omega))
    have E3 := Aside0.mk (w_sub j i len (by have := HJ.out; omega) (by have := HI.out; omega) (by have := HL.out; omega))
    have E5 := Aside0.mk (w_add m j len (by have := HI.out; omega) (by have := HL.out; omega))
    have E7 := Aside0.mk (w_adds m j i len (by have := HI.out; omega) (by have := HI.out; omega) (by have := HL.out; omega))
    have cS := fun (W : World) (hW : W = wr) => swapR.calls2 B g cap len l1 (m - i) (m + j - i) i F W HL1.out (hW ▸ HR.out) HG.out (by have := HI.out; omega) (by have := HI.out; omega)
    obtain ⟨e1, e2⟩ := E1.out
    obtain ⟨e3, e4⟩ := E3.out
    obtain ⟨e5, e6⟩ := E5.out
    obtain ⟨e7, e8⟩ := E7.out
    go_wp2_with (go_at_call 98; refine (cS _ rfl).mono ?_; rintro e w9 ⟨rfl, h9, b9⟩)
    go_roundw
    case rel =>
     have e : f - 1 + 1 = f := by have := HI.out; have := HJ.out; clear e1 e2 e3 e4 e5 e6 e7 e8; omega
     exact ⟨i, j - i, f - 1, swapRL i l1 (m - i) (m + j - i), rfl, rfl, Lib.hid (by have := HI.out; have := HJ.out; clear e1 e2 e3 e4 e5 e6 e7 e8; omega), Lib.hid (by rw [swapRL_len]; exact HL1.out), Lib.hid h9, Lib.hid (HB.out.trans b9), Lib.hid (by rw [e]; exact HS2.out)⟩
    case measure =>
     simp only [intOf]
     have := HI.out
     have := HJ.out
     clear e1 e2 e3 e4 e5 e6 e7 e8
     omega

end Go.Proofs.YtbbfggfiknbdmaaGreatDoor.A
