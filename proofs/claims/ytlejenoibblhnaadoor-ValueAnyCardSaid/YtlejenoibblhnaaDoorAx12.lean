-- By drv.py, the session's own driver round the kit's print: the machine's side of the laws, function by function. Not trusted: Lean checks it.
import Derived.Test.YtlejenoibblhnaaDoorAx0
import Derived.Test.YtlejenoibblhnaaDoorAx2
import Derived.Test.YtlejenoibblhnaaDoorAx9
import Derived.Test.YtlejenoibblhnaaDoorAx11
namespace Go.Proofs.YtlejenoibblhnaaDoor.A
open Go.RowKit Go.Proofs.YtlejenoibblhnaaDoorW.PrintWords Go.Proofs.YtlejenoibblhnaaDoorW.PrintLast Go.Proofs.YtlejenoibblhnaaDoorW.PrintMore
attribute [local go_sem] max2_int min2_int max_two min_two max_three min_three max_four min_four   -- for this text's walks alone
set_option linter.unusedVariables false
set_option linter.unusedSimpArgs false

/-! ### value_Any: function 9, by hand -/
set_option maxHeartbeats 4000000 in
set_option maxRecDepth 100000 in
theorem AnyN.calls (K N : Int) (S : ByteArray) (w : World) (hT : Tabs w) (h : value_Check.f K N S = some false) :
  Calls Tryd.prog 9 #[.agg #[.int .i64 K, .int .i64 N, .string S]] w fun e w' => e = .returned .nilIface ∧ Below w.heap.size w w' := by
 have hu := Tryd.underlying26
 have HB := Aside0.mk (Below.refl w.heap.size w)
 have HT := Aside0.mk hT
 have A2 := Aside0.mk h
 clear hT h
 go_enter Tryd.func9, Tryd.ntmps9
 go_wp2_with (first | ((with_reducible refine gate_dst (N := 1) rfl ?_); refine boxB 1 #[.int .i64 K, .int .i64 N, .string S] 26 HB ?_; clear HB; intro gb1 w1 BK1 GW1 GE1 HB; obtain ⟨hc0, hc1, hc2⟩ := cel3 BK1.out; obtain ⟨hf0, hf1, hf2⟩ := frz3 BK1.out) | ((with_reducible refine gate_callee (f := 10) rfl ?_); refine goesA (some 4) Tryd.func10 #[.agg #[.int .i64 K, .int .i64 N, .string S]] ?_; (with_reducible refine (value_Check.calls _ _ _ _ _ ?side1 A2.out).mono ?_); (case side1 => exact Tabs.below HT.out (bwA)); rintro e w2 ⟨rfl, hb⟩; refine ⟨_, rfl, ?_⟩; replace HB := Aside0.mk (below_step (bwA) hb)))
 go_ret
 exact ⟨rfl, bwA⟩
theorem any_len (s : ByteArray) : (bytesOf s).length = s.size := by rw [bytesOf, List.length_map, Array.length_toList]; rfl
theorem any_bytes (W : World) (e : TypeId) (s : ByteArray) (hs : s.size ≤ 9223372036854775807) : (Kd.int .u8).C (Lib.bytesWorld W e s) (some ⟨W.heap.size, 0, none⟩) s.size (bytesOf s) := by
 refine ⟨any_len s, hs, fun _ => ⟨_, rfl, fun j p hj => ⟨[.int .u8 p], rfl, rfl, fun i u hu => ?_⟩⟩⟩
 have hi : i = 0 := by
  have := (List.getElem?_eq_some_iff.1 hu).1
  simp at this; omega
 subst hi
 have hu := Option.some.inj hu
 subst hu
 have hl : j < s.size := by
  have := (List.getElem?_eq_some_iff.1 hj).1
  rwa [any_len] at this
 have e1 := Lib.bytesWorld_cell W e s j hl
 have e2 : ((s.data.toList.getD j 0).toNat : Int) = p := by
  rw [bytesOf, List.getElem?_map] at hj
  rw [List.getD_eq_getElem?_getD]
  cases hq : s.data.toList[j]? with
  | none => rw [hq] at hj; simp at hj
  | some q => rw [hq] at hj; simpa using hj
 rw [e2] at e1
 have e3 : (⟨W.heap.size, 0, none⟩ : Addr).add (j * (Kd.int .u8).sz + 0) = ⟨W.heap.size, j, none⟩ := by
  show (⟨W.heap.size, 0, none⟩ : Addr).add (j * 1 + 0) = _
  cases j <;> simp [Addr.add]
 rw [e3]
 exact e1
theorem bytes_below0 {w W : World} (h : Below w.heap.size w W) (e : TypeId) (s : ByteArray) : Below w.heap.size w (Lib.bytesWorld W e s) :=
 h.trans ⟨rfl, rfl, rfl, by rw [Lib.bytesWorld_size]; have := below_size h; omega, fun i hi => Lib.bytesWorld_at_old W e s i (by have := below_size h; omega)⟩
theorem any_str (s : ByteArray) : strOfNums (bytesOf s) = s := by
 have : (strOfNums (bytesOf s)).data = s.data := by
  apply Array.toList_inj.1
  rw [strOfNums_data, bytesOf, List.map_map]
  conv => rhs; rw [← List.map_id s.data.toList]
  apply List.map_congr_left
  intro b _
  simp
 cases s; cases h : strOfNums (bytesOf ⟨_⟩); rw [h] at this; simp at this; rw [this]
set_option maxHeartbeats 4000000 in
set_option maxRecDepth 100000 in
theorem AnyI.calls (N : Int) (S : ByteArray) (w : World) (hT : Tabs w) (h : value_Check.f 1 N S = some true) :
  Calls Tryd.prog 9 #[.agg #[.int .i64 1, .int .i64 N, .string S]] w fun e w' => e = .returned (.iface 3 (.int .i64 N)) ∧ Below w.heap.size w w' := by
 have hu := Tryd.underlying26
 have HB := Aside0.mk (Below.refl w.heap.size w)
 have HT := Aside0.mk hT
 have A2 := Aside0.mk h
 clear hT h
 go_enter Tryd.func9, Tryd.ntmps9
 go_wp2_with (first | ((with_reducible refine gate_dst (N := 1) rfl ?_); refine boxB 1 #[.int .i64 1, .int .i64 N, .string S] 26 HB ?_; clear HB; intro gb1 w1 BK1 GW1 GE1 HB; obtain ⟨hc0, hc1, hc2⟩ := cel3 BK1.out) | ((with_reducible refine gate_callee (f := 10) rfl ?_); refine goesA (some 4) Tryd.func10 #[.agg #[.int .i64 1, .int .i64 N, .string S]] ?_; (with_reducible refine (value_Check.calls _ _ _ _ _ ?side1 A2.out).mono ?_); (case side1 => exact Tabs.below HT.out (bwA)); rintro e w2 ⟨rfl, hb⟩; refine ⟨_, rfl, ?_⟩; replace HB := Aside0.mk (below_step (bwA) hb); have x0 := hbC hc0 hb; have x1 := hbC hc1 hb; have x2 := hbC hc2 hb))
 go_ret
 exact ⟨rfl, bwA⟩
set_option maxHeartbeats 4000000 in
set_option maxRecDepth 100000 in
theorem AnyS.calls (N : Int) (S : ByteArray) (w : World) (hT : Tabs w) (h : value_Check.f 2 N S = some true) :
  Calls Tryd.prog 9 #[.agg #[.int .i64 2, .int .i64 N, .string S]] w fun e w' => e = .returned (.iface 9 (.string S)) ∧ Below w.heap.size w w' := by
 have hu := Tryd.underlying26
 have HB := Aside0.mk (Below.refl w.heap.size w)
 have HT := Aside0.mk hT
 have A2 := Aside0.mk h
 clear hT h
 go_enter Tryd.func9, Tryd.ntmps9
 go_wp2_with (first | ((with_reducible refine gate_dst (N := 1) rfl ?_); refine boxB 1 #[.int .i64 2, .int .i64 N, .string S] 26 HB ?_; clear HB; intro gb1 w1 BK1 GW1 GE1 HB; obtain ⟨hc0, hc1, hc2⟩ := cel3 BK1.out) | ((with_reducible refine gate_callee (f := 10) rfl ?_); refine goesA (some 4) Tryd.func10 #[.agg #[.int .i64 2, .int .i64 N, .string S]] ?_; (with_reducible refine (value_Check.calls _ _ _ _ _ ?side1 A2.out).mono ?_); (case side1 => exact Tabs.below HT.out (bwA)); rintro e w2 ⟨rfl, hb⟩; refine ⟨_, rfl, ?_⟩; replace HB := Aside0.mk (below_step (bwA) hb); have x0 := hbC hc0 hb; have x1 := hbC hc1 hb; have x2 := hbC hc2 hb))
 go_ret
 exact ⟨rfl, bwA⟩
set_option maxHeartbeats 4000000 in
set_option maxRecDepth 100000 in
theorem AnyX.calls (N : Int) (S : ByteArray) (w : World) (hT : Tabs w) (h : value_Check.f 3 N S = some true) :
  Calls Tryd.prog 9 #[.agg #[.int .i64 3, .int .i64 N, .string S]] w fun e w' => e = .returned (.iface 4 (.bool (N == 1))) ∧ Below w.heap.size w w' := by
 have hu := Tryd.underlying26
 have HB := Aside0.mk (Below.refl w.heap.size w)
 have HT := Aside0.mk hT
 have A2 := Aside0.mk h
 clear hT h
 go_enter Tryd.func9, Tryd.ntmps9
 go_wp2_with (first | ((with_reducible refine gate_dst (N := 1) rfl ?_); refine boxB 1 #[.int .i64 3, .int .i64 N, .string S] 26 HB ?_; clear HB; intro gb1 w1 BK1 GW1 GE1 HB; obtain ⟨hc0, hc1, hc2⟩ := cel3 BK1.out) | ((with_reducible refine gate_callee (f := 10) rfl ?_); refine goesA (some 4) Tryd.func10 #[.agg #[.int .i64 3, .int .i64 N, .string S]] ?_; (with_reducible refine (value_Check.calls _ _ _ _ _ ?side1 A2.out).mono ?_); (case side1 => exact Tabs.below HT.out (bwA)); rintro e w2 ⟨rfl, hb⟩; refine ⟨_, rfl, ?_⟩; replace HB := Aside0.mk (below_step (bwA) hb); have x0 := hbC hc0 hb; have x1 := hbC hc1 hb; have x2 := hbC hc2 hb))
 go_ret
 exact ⟨rfl, bwA⟩
set_option maxHeartbeats 4000000 in
set_option maxRecDepth 100000 in
theorem AnyB.calls (N : Int) (S : ByteArray) (hs : S.size ≤ 9223372036854775807) (w : World) (hT : Tabs w) (h : value_Check.f 4 N S = some true) :
  Calls Tryd.prog 9 #[.agg #[.int .i64 4, .int .i64 N, .string S]] w fun e w' => (∃ A c, e = .returned (.iface 22 (.slice A S.size c)) ∧ S.size ≤ c ∧ (Kd.int .u8).C w' A S.size (bytesOf S)) ∧ Below w.heap.size w w' := by
 have hu := Tryd.underlying26
 have HB := Aside0.mk (Below.refl w.heap.size w)
 have HT := Aside0.mk hT
 have A2 := Aside0.mk h
 have kb := fun W => Lib.run_convert_string_bytes (P := Tryd.prog) W 9 22 5 S Tryd.underlying9 Tryd.underlying22 Tryd.underlying5
 clear hT h
 go_enter Tryd.func9, Tryd.ntmps9
 go_wp2_with (first | ((with_reducible refine gate_dst (N := 1) rfl ?_); refine boxB 1 #[.int .i64 4, .int .i64 N, .string S] 26 HB ?_; clear HB; intro gb1 w1 BK1 GW1 GE1 HB; obtain ⟨hc0, hc1, hc2⟩ := cel3 BK1.out) | ((with_reducible refine gate_callee (f := 10) rfl ?_); refine goesA (some 4) Tryd.func10 #[.agg #[.int .i64 4, .int .i64 N, .string S]] ?_; (with_reducible refine (value_Check.calls _ _ _ _ _ ?side1 A2.out).mono ?_); (case side1 => exact Tabs.below HT.out (bwA)); rintro e w2 ⟨rfl, hb⟩; refine ⟨_, rfl, ?_⟩; replace HB := Aside0.mk (below_step (bwA) hb); have x0 := hbC hc0 hb; have x1 := hbC hc1 hb; have x2 := hbC hc2 hb))
 go_ret
 exact ⟨⟨_, _, rfl, grownCap_ge _ _ _ _, any_bytes _ _ _ hs⟩, bytes_below0 (bwA) _ _⟩

/-! ### caduceuslaw03_ValueAny: function 4, by hand -/
theorem few_below {S : ByteArray} {r : Bool} {w : World} (h : caduceuslaw03_few.f S = some r) : Calls Tryd.prog 5 #[.string S] w fun e w' => e = .returned (.bool r) ∧ Below w.heap.size w w' :=
 (caduceuslaw03_few.calls S r w h).mono (by rintro e w2 ⟨rfl, ⟨nd, rfl⟩⟩; exact ⟨rfl, pw_below_drewN (Below.refl _ _) nd⟩)
set_option maxHeartbeats 4000000 in
set_option maxRecDepth 100000 in
theorem From0N.calls (w : World) : Calls Tryd.prog 7 #[.nilIface] w fun e w' => e = .returned (.tuple #[.agg #[.int .i64 0, .int .i64 0, .string ⟨#[]⟩], .int .i64 8]) ∧ Below w.heap.size w w' := by
 have hu := Tryd.underlying26
 have hu0 := Tryd.underlying20
 have huT0 := Tryd.underlying3
 have ta0 : ∀ W, (Instr.typeAssert .nilIface 20 3 true).run Tryd.prog W = .ok (.tuple #[.int .i64 0, .bool false]) W := fun W => by simp [Instr.typeAssert, run_underlying hu0, run_underlying huT0, go_sem, Result.andThen]
 have huT1 := Tryd.underlying9
 have ta1 : ∀ W, (Instr.typeAssert .nilIface 20 9 true).run Tryd.prog W = .ok (.tuple #[.string ⟨#[]⟩, .bool false]) W := fun W => by simp [Instr.typeAssert, run_underlying hu0, run_underlying huT1, go_sem, Result.andThen]
 have huT2 := Tryd.underlying4
 have ta2 : ∀ W, (Instr.typeAssert .nilIface 20 4 true).run Tryd.prog W = .ok (.tuple #[.bool false, .bool false]) W := fun W => by simp [Instr.typeAssert, run_underlying hu0, run_underlying huT2, go_sem, Result.andThen]
 have huT3 := Tryd.underlying22
 have ta3 : ∀ W, (Instr.typeAssert .nilIface 20 22 true).run Tryd.prog W = .ok (.tuple #[.slice none 0 0, .bool false]) W := fun W => by simp [Instr.typeAssert, run_underlying hu0, run_underlying huT3, go_sem, Result.andThen]
 go_enter Tryd.func7, Tryd.ntmps7
 go_wp2
 refine bodyPost_ret (results_ct rfl _ _ w.heap.size 26 #[.int .i64 0, .int .i64 0, .string ⟨#[]⟩] (0, 0) _ rfl (blk_below (heap_alloc_new w _) ((Below.refl _ _).alloc (Nat.le_refl _) _)) hu rfl (by kernel_rfl)) rfl ?_
 exact ⟨rfl, ((Below.refl _ w).alloc (Nat.le_refl _) _).alloc (by simp) _⟩
theorem From1I.calls (N : Int) (w : World) (hT : Tabs w) (h : value_Check.f 1 N ⟨#[]⟩ = some true) :
  Calls Tryd.prog 7 #[.iface 3 (.int .i64 N)] w fun e w' => e = .returned (.tuple #[.agg #[.int .i64 1, .int .i64 N, .string ⟨#[]⟩], .int .i64 0]) ∧ Below w.heap.size w w' := From0I.calls N true w hT h
theorem From1S.calls (S : ByteArray) (w : World) (hT : Tabs w) (h : value_Check.f 2 0 S = some true) :
  Calls Tryd.prog 7 #[.iface 9 (.string S)] w fun e w' => e = .returned (.tuple #[.agg #[.int .i64 2, .int .i64 0, .string S], .int .i64 0]) ∧ Below w.heap.size w w' := From0S.calls S true w hT h
theorem From1T.calls  (w : World) (hT : Tabs w) (h : value_Check.f 3 1 ⟨#[]⟩ = some true) :
  Calls Tryd.prog 7 #[.iface 4 (.bool true)] w fun e w' => e = .returned (.tuple #[.agg #[.int .i64 3, .int .i64 1, .string ⟨#[]⟩], .int .i64 0]) ∧ Below w.heap.size w w' := From0T.calls true w hT h
theorem From1F.calls  (w : World) (hT : Tabs w) (h : value_Check.f 3 0 ⟨#[]⟩ = some true) :
  Calls Tryd.prog 7 #[.iface 4 (.bool false)] w fun e w' => e = .returned (.tuple #[.agg #[.int .i64 3, .int .i64 0, .string ⟨#[]⟩], .int .i64 0]) ∧ Below w.heap.size w w' := From0F.calls true w hT h
theorem From1B.calls (A : Option Addr) (c : Nat) (S : ByteArray) (w : World) (hT : Tabs w) (hC : (Kd.int .u8).C w A S.size (bytesOf S)) (h : value_Check.f 4 0 S = some true) :
  Calls Tryd.prog 7 #[.iface 22 (.slice A S.size c)] w fun e w' => e = .returned (.tuple #[.agg #[.int .i64 4, .int .i64 0, .string S], .int .i64 0]) ∧ Below w.heap.size w w' := by
 have := From0B.calls A S.size c (bytesOf S) true w hC hT (by rw [any_str]; exact h)
 rw [any_str] at this
 exact this
theorem cz3 {W w5 : World} {A : Option Addr} {n g : Nat} {l : List Int} (hC : (Kd.int .u8).C W A n l) (hg : g = W.heap.size) (hb : Below W.heap.size W w5) (u v x : Value) : (Kd.int .u8).C (((w5.setCell ⟨g, 0, none⟩ u).setCell ⟨g, 1, none⟩ v).setCell ⟨g, 2, none⟩ x) A n l :=
 Kd.C_below hC (((hb.setCell (p := ⟨g, 0, none⟩) (Nat.le_of_eq hg.symm) u).setCell (p := ⟨g, 1, none⟩) (Nat.le_of_eq hg.symm) v).setCell (p := ⟨g, 2, none⟩) (Nat.le_of_eq hg.symm) x)
theorem AnyT.calls (w : World) (hT : Tabs w) (h : value_Check.f 3 1 ⟨#[]⟩ = some true) : Calls Tryd.prog 9 #[.agg #[.int .i64 3, .int .i64 1, .string ⟨#[]⟩]] w fun e w' => e = .returned (.iface 4 (.bool true)) ∧ Below w.heap.size w w' := AnyX.calls 1 ⟨#[]⟩ w hT h
theorem AnyF.calls (w : World) (hT : Tabs w) (h : value_Check.f 3 0 ⟨#[]⟩ = some true) : Calls Tryd.prog 9 #[.agg #[.int .i64 3, .int .i64 0, .string ⟨#[]⟩]] w fun e w' => e = .returned (.iface 4 (.bool false)) ∧ Below w.heap.size w w' := AnyX.calls 0 ⟨#[]⟩ w hT h
set_option maxHeartbeats 8000000 in
set_option maxRecDepth 100000 in
theorem Va0.calls (k : Nat) (K N : Int) (S : ByteArray) (b : Bool) (w : World) (hT : Tabs w) (h1 : caduceuslaw03_few.f S = some false) (h2 : value_Check.f K N S = some b) (h3 : caduceuslaw03_awake.f k = some true) :
  Calls Tryd.prog 4 #[.agg #[.int .i64 K, .int .i64 N, .string S]] w fun e w' => e = .returned (.bool true) ∧ Below w.heap.size w w' := by
 have hu := Tryd.underlying26
 have hu0 := Tryd.underlying20
 have HB := Aside0.mk (Below.refl w.heap.size w)
 have HT := Aside0.mk hT
 have A1 := Aside0.mk h1
 have A2 := Aside0.mk h2
 have A3 := Aside0.mk h3
 clear hT h1 h2 h3
 go_enter Tryd.func4, Tryd.ntmps4
 go_wp2_with (first | ((with_reducible refine gate_dst (N := 1) rfl ?_); refine boxA 1 #[.int .i64 K, .int .i64 N, .string S] 26 ?_; intro gb1 hg w1 hbox hb; have BK1 := Aside0.mk hbox; have GW1 := Aside0.mk (hgW hg : w.heap.size ≤ gb1); replace HB := Aside0.mk (below_step (bwA) hb); clear hg hbox; obtain ⟨x0, x1, x2⟩ := cel3 BK1.out) | ((with_reducible refine gate_callee (f := 5) rfl ?_); refine goesA (some 16) Tryd.func5 #[.string S] ?_; (with_reducible refine (few_below A1.out).mono ?_); rintro e w2 ⟨rfl, hb⟩; refine ⟨_, rfl, ?_⟩; replace BK1 := Aside0.mk (bkB BK1 hb); clear x0 x1 x2; obtain ⟨x0, x1, x2⟩ := cel3 BK1.out; replace HB := Aside0.mk (below_step (bwA) hb)) | ((with_reducible refine gate_callee (f := 6) rfl ?_); refine goesA (some 18) Tryd.func6 #[] ?_; (with_reducible refine (caduceuslaw03_awake.calls _ _ _ ?side1 A3.out).mono ?_); (case side1 => exact Tabs.below HT.out (bwA)); rintro e w2 ⟨rfl, hb⟩; refine ⟨_, rfl, ?_⟩; replace HB := Aside0.mk (below_step (bwA) hb)))
 go_ret
 exact ⟨endA, bwA⟩
set_option maxHeartbeats 8000000 in
set_option maxRecDepth 100000 in
theorem VaN.calls (k : Nat) (K N : Int) (S : ByteArray) (w : World) (hT : Tabs w) (h1 : caduceuslaw03_few.f S = some true) (h2 : value_Check.f K N S = some false) (h3 : caduceuslaw03_awake.f k = some true) :
  Calls Tryd.prog 4 #[.agg #[.int .i64 K, .int .i64 N, .string S]] w fun e w' => e = .returned (.bool true) ∧ Below w.heap.size w w' := by
 have hu := Tryd.underlying26
 have hu0 := Tryd.underlying20
 have HB := Aside0.mk (Below.refl w.heap.size w)
 have HT := Aside0.mk hT
 have A1 := Aside0.mk h1
 have A2 := Aside0.mk h2
 have A3 := Aside0.mk h3
 clear hT h1 h2 h3
 go_enter Tryd.func4, Tryd.ntmps4
 go_wp2_with (first | ((with_reducible refine gate_dst (N := 1) rfl ?_); refine boxA 1 #[.int .i64 K, .int .i64 N, .string S] 26 ?_; intro gb1 hg w1 hbox hb; have BK1 := Aside0.mk hbox; have GW1 := Aside0.mk (hgW hg : w.heap.size ≤ gb1); replace HB := Aside0.mk (below_step (bwA) hb); clear hg hbox; obtain ⟨x0, x1, x2⟩ := cel3 BK1.out) | ((with_reducible refine gate_callee (f := 5) rfl ?_); refine goesA (some 16) Tryd.func5 #[.string S] ?_; (with_reducible refine (few_below A1.out).mono ?_); rintro e w2 ⟨rfl, hb⟩; refine ⟨_, rfl, ?_⟩; replace BK1 := Aside0.mk (bkB BK1 hb); clear x0 x1 x2; obtain ⟨x0, x1, x2⟩ := cel3 BK1.out; replace HB := Aside0.mk (below_step (bwA) hb)) | ((with_reducible refine gate_callee (f := 9) rfl ?_); refine goesA (some 20) Tryd.func9 #[.agg #[.int .i64 K, .int .i64 N, .string S]] ?_; (with_reducible refine (AnyN.calls _ _ _ _ ?side1 A2.out).mono ?_); (case side1 => exact Tabs.below HT.out (bwA)); rintro e w2 ⟨rfl, hb⟩; refine ⟨_, rfl, ?_⟩; replace BK1 := Aside0.mk (bkB BK1 hb); clear x0 x1 x2; obtain ⟨x0, x1, x2⟩ := cel3 BK1.out; replace HB := Aside0.mk (below_step (bwA) hb)) | ((with_reducible refine gate_callee (f := 7) rfl ?_); refine goesA (some 23) Tryd.func7 #[.nilIface] ?_; (with_reducible refine (From0N.calls _).mono ?_); rintro e w2 ⟨rfl, hb⟩; refine ⟨_, rfl, ?_⟩; replace BK1 := Aside0.mk (bkB BK1 hb); clear x0 x1 x2; obtain ⟨x0, x1, x2⟩ := cel3 BK1.out; replace HB := Aside0.mk (below_step (bwA) hb)) | ((with_reducible refine gate_dst (N := 4) rfl ?_); refine boxA 4 #[.int .i64 0, .int .i64 0, .string ⟨#[]⟩] 26 ?_; intro gb4 hg w5 hbox hb; have NE := (hgL hg BK1 : gb1 ≠ gb4); have GW4 := Aside0.mk (hgW hg : w.heap.size ≤ gb4); replace BK1 := Aside0.mk (bkB BK1 hb); replace HB := Aside0.mk (below_step (bwA) hb); obtain ⟨z0, z1, z2⟩ := cel3 hbox; obtain ⟨f0, f1, f2⟩ := frz3 hbox; clear hg x0 x1 x2; have BK4 := Aside0.mk (show (((w5.setCell ⟨gb4, 0, none⟩ (.int .i64 0)).setCell ⟨gb4, 1, none⟩ (.int .i64 0)).setCell ⟨gb4, 2, none⟩ (.string ⟨#[]⟩)).heap[gb4]? = some (.cells #[.int .i64 0, .int .i64 0, .string ⟨#[]⟩] 26 (0, 0)) from blk_put (blk_put (blk_put hbox 0 (.int .i64 0) rfl) 1 (.int .i64 0) rfl) 2 (.string ⟨#[]⟩) rfl); replace BK1 := Aside0.mk (show (((w5.setCell ⟨gb4, 0, none⟩ (.int .i64 0)).setCell ⟨gb4, 1, none⟩ (.int .i64 0)).setCell ⟨gb4, 2, none⟩ (.string ⟨#[]⟩)).heap[gb1]? = some (.cells #[.int .i64 K, .int .i64 N, .string S] 26 (0, 0)) from blk_far (blk_far (blk_far BK1.out NE (.int .i64 0)) NE (.int .i64 0)) NE (.string ⟨#[]⟩)); obtain ⟨y0, y1, y2⟩ := cel3 BK4.out; obtain ⟨x0, x1, x2⟩ := cel3 BK1.out; clear hbox NE hb) | ((with_reducible refine gate_callee (f := 10) rfl ?_); refine goesA (some 27) Tryd.func10 #[.agg #[.int .i64 K, .int .i64 N, .string S]] ?_; (with_reducible refine (value_Check.calls _ _ _ _ _ ?side1 A2.out).mono ?_); (case side1 => exact Tabs.below HT.out (bwA)); rintro e w2 ⟨rfl, hb⟩; refine ⟨_, rfl, ?_⟩; replace BK1 := Aside0.mk (bkB BK1 hb); clear x0 x1 x2; obtain ⟨x0, x1, x2⟩ := cel3 BK1.out; replace BK4 := Aside0.mk (bkB BK4 hb); clear y0 y1 y2; obtain ⟨y0, y1, y2⟩ := cel3 BK4.out; replace HB := Aside0.mk (below_step (bwA) hb)) | ((with_reducible refine gate_callee (f := 6) rfl ?_); refine goesA (some 29) Tryd.func6 #[] ?_; (with_reducible refine (caduceuslaw03_awake.calls _ _ _ ?side1 A3.out).mono ?_); (case side1 => exact Tabs.below HT.out (bwA)); rintro e w2 ⟨rfl, hb⟩; refine ⟨_, rfl, ?_⟩; replace BK1 := Aside0.mk (bkB BK1 hb); clear x0 x1 x2; obtain ⟨x0, x1, x2⟩ := cel3 BK1.out; replace BK4 := Aside0.mk (bkB BK4 hb); clear y0 y1 y2; obtain ⟨y0, y1, y2⟩ := cel3 BK4.out; replace HB := Aside0.mk (below_step (bwA) hb)))
 go_ret
 exact ⟨endA, bwA⟩
set_option maxHeartbeats 8000000 in
set_option maxRecDepth 100000 in
theorem VaI.calls (k : Nat) (N : Int) (w : World) (hT : Tabs w) (h1 : caduceuslaw03_few.f ⟨#[]⟩ = some true) (h2 : value_Check.f 1 N ⟨#[]⟩ = some true) (h3 : caduceuslaw03_awake.f k = some true) :
  Calls Tryd.prog 4 #[.agg #[.int .i64 1, .int .i64 N, .string ⟨#[]⟩]] w fun e w' => e = .returned (.bool true) ∧ Below w.heap.size w w' := by
 have hu := Tryd.underlying26
 have hu0 := Tryd.underlying20
 have huT0 := Tryd.underlying3
 have ta0 : ∀ W, (Instr.typeAssert (.iface 3 (.int .i64 N)) 20 3 true).run Tryd.prog W = .ok (.tuple #[.int .i64 N, .bool true]) W := fun W => by simp [Instr.typeAssert, run_underlying hu0, run_underlying huT0, go_sem, Result.andThen]
 have huT1 := Tryd.underlying9
 have ta1 : ∀ W, (Instr.typeAssert (.iface 3 (.int .i64 N)) 20 9 true).run Tryd.prog W = .ok (.tuple #[.string ⟨#[]⟩, .bool false]) W := fun W => by simp [Instr.typeAssert, run_underlying hu0, run_underlying huT1, go_sem, Result.andThen]
 have huT2 := Tryd.underlying4
 have ta2 : ∀ W, (Instr.typeAssert (.iface 3 (.int .i64 N)) 20 4 true).run Tryd.prog W = .ok (.tuple #[.bool false, .bool false]) W := fun W => by simp [Instr.typeAssert, run_underlying hu0, run_underlying huT2, go_sem, Result.andThen]
 have huT3 := Tryd.underlying22
 have ta3 : ∀ W, (Instr.typeAssert (.iface 3 (.int .i64 N)) 20 22 true).run Tryd.prog W = .ok (.tuple #[.slice none 0 0, .bool false]) W := fun W => by simp [Instr.typeAssert, run_underlying hu0, run_underlying huT3, go_sem, Result.andThen]
 have HB := Aside0.mk (Below.refl w.heap.size w)
 have HT := Aside0.mk hT
 have A1 := Aside0.mk h1
 have A2 := Aside0.mk h2
 have A3 := Aside0.mk h3
 clear hT h1 h2 h3
 go_enter Tryd.func4, Tryd.ntmps4
 go_wp2_with (first | ((with_reducible refine gate_dst (N := 1) rfl ?_); refine boxA 1 #[.int .i64 1, .int .i64 N, .string ⟨#[]⟩] 26 ?_; intro gb1 hg w1 hbox hb; have BK1 := Aside0.mk hbox; have GW1 := Aside0.mk (hgW hg : w.heap.size ≤ gb1); replace HB := Aside0.mk (below_step (bwA) hb); clear hg hbox; obtain ⟨x0, x1, x2⟩ := cel3 BK1.out) | ((with_reducible refine gate_callee (f := 5) rfl ?_); refine goesA (some 16) Tryd.func5 #[.string ⟨#[]⟩] ?_; (with_reducible refine (few_below A1.out).mono ?_); rintro e w2 ⟨rfl, hb⟩; refine ⟨_, rfl, ?_⟩; replace BK1 := Aside0.mk (bkB BK1 hb); clear x0 x1 x2; obtain ⟨x0, x1, x2⟩ := cel3 BK1.out; replace HB := Aside0.mk (below_step (bwA) hb)) | ((with_reducible refine gate_callee (f := 9) rfl ?_); refine goesA (some 20) Tryd.func9 #[.agg #[.int .i64 1, .int .i64 N, .string ⟨#[]⟩]] ?_; (with_reducible refine (AnyI.calls _ _ _ ?side1 A2.out).mono ?_); (case side1 => exact Tabs.below HT.out (bwA)); rintro e w2 ⟨rfl, hb⟩; refine ⟨_, rfl, ?_⟩; replace BK1 := Aside0.mk (bkB BK1 hb); clear x0 x1 x2; obtain ⟨x0, x1, x2⟩ := cel3 BK1.out; replace HB := Aside0.mk (below_step (bwA) hb)) | ((with_reducible refine gate_callee (f := 7) rfl ?_); refine goesA (some 23) Tryd.func7 #[(.iface 3 (.int .i64 N))] ?_; (with_reducible refine (From1I.calls _ _ ?side1 A2.out).mono ?_); (case side1 => exact Tabs.below HT.out (bwA)); rintro e w2 ⟨rfl, hb⟩; refine ⟨_, rfl, ?_⟩; replace BK1 := Aside0.mk (bkB BK1 hb); clear x0 x1 x2; obtain ⟨x0, x1, x2⟩ := cel3 BK1.out; replace HB := Aside0.mk (below_step (bwA) hb)) | ((with_reducible refine gate_dst (N := 4) rfl ?_); refine boxA 4 #[.int .i64 0, .int .i64 0, .string ⟨#[]⟩] 26 ?_; intro gb4 hg w5 hbox hb; have NE := (hgL hg BK1 : gb1 ≠ gb4); have GW4 := Aside0.mk (hgW hg : w.heap.size ≤ gb4); replace BK1 := Aside0.mk (bkB BK1 hb); replace HB := Aside0.mk (below_step (bwA) hb); obtain ⟨z0, z1, z2⟩ := cel3 hbox; obtain ⟨f0, f1, f2⟩ := frz3 hbox; clear hg x0 x1 x2; have BK4 := Aside0.mk (show (((w5.setCell ⟨gb4, 0, none⟩ (.int .i64 1)).setCell ⟨gb4, 1, none⟩ (.int .i64 N)).setCell ⟨gb4, 2, none⟩ (.string ⟨#[]⟩)).heap[gb4]? = some (.cells #[.int .i64 1, .int .i64 N, .string ⟨#[]⟩] 26 (0, 0)) from blk_put (blk_put (blk_put hbox 0 (.int .i64 1) rfl) 1 (.int .i64 N) rfl) 2 (.string ⟨#[]⟩) rfl); replace BK1 := Aside0.mk (show (((w5.setCell ⟨gb4, 0, none⟩ (.int .i64 1)).setCell ⟨gb4, 1, none⟩ (.int .i64 N)).setCell ⟨gb4, 2, none⟩ (.string ⟨#[]⟩)).heap[gb1]? = some (.cells #[.int .i64 1, .int .i64 N, .string ⟨#[]⟩] 26 (0, 0)) from blk_far (blk_far (blk_far BK1.out NE (.int .i64 1)) NE (.int .i64 N)) NE (.string ⟨#[]⟩)); obtain ⟨y0, y1, y2⟩ := cel3 BK4.out; obtain ⟨x0, x1, x2⟩ := cel3 BK1.out; clear hbox NE hb) | ((with_reducible refine gate_callee (f := 10) rfl ?_); refine goesA (some 27) Tryd.func10 #[.agg #[.int .i64 1, .int .i64 N, .string ⟨#[]⟩]] ?_; (with_reducible refine (value_Check.calls _ _ _ _ _ ?side1 A2.out).mono ?_); (case side1 => exact Tabs.below HT.out (bwA)); rintro e w2 ⟨rfl, hb⟩; refine ⟨_, rfl, ?_⟩; replace BK1 := Aside0.mk (bkB BK1 hb); clear x0 x1 x2; obtain ⟨x0, x1, x2⟩ := cel3 BK1.out; replace BK4 := Aside0.mk (bkB BK4 hb); clear y0 y1 y2; obtain ⟨y0, y1, y2⟩ := cel3 BK4.out; replace HB := Aside0.mk (below_step (bwA) hb)) | ((with_reducible refine gate_callee (f := 6) rfl ?_); refine goesA (some 67) Tryd.func6 #[] ?_; (with_reducible refine (caduceuslaw03_awake.calls _ _ _ ?side1 A3.out).mono ?_); (case side1 => exact Tabs.below HT.out (bwA)); rintro e w2 ⟨rfl, hb⟩; refine ⟨_, rfl, ?_⟩; replace BK1 := Aside0.mk (bkB BK1 hb); clear x0 x1 x2; obtain ⟨x0, x1, x2⟩ := cel3 BK1.out; replace BK4 := Aside0.mk (bkB BK4 hb); clear y0 y1 y2; obtain ⟨y0, y1, y2⟩ := cel3 BK4.out; replace HB := Aside0.mk (below_step (bwA) hb)))
 go_ret
 exact ⟨endA, bwA⟩
set_option maxHeartbeats 8000000 in
set_option maxRecDepth 100000 in
theorem VaS.calls (k : Nat) (S : ByteArray) (w : World) (hT : Tabs w) (h1 : caduceuslaw03_few.f S = some true) (h2 : value_Check.f 2 0 S = some true) (h3 : caduceuslaw03_awake.f k = some true) :
  Calls Tryd.prog 4 #[.agg #[.int .i64 2, .int .i64 0, .string S]] w fun e w' => e = .returned (.bool true) ∧ Below w.heap.size w w' := by
 have hu := Tryd.underlying26
 have hu0 := Tryd.underlying20
 have huT0 := Tryd.underlying3
 have ta0 : ∀ W, (Instr.typeAssert (.iface 9 (.string S)) 20 3 true).run Tryd.prog W = .ok (.tuple #[.int .i64 0, .bool false]) W := fun W => by simp [Instr.typeAssert, run_underlying hu0, run_underlying huT0, go_sem, Result.andThen]
 have huT1 := Tryd.underlying9
 have ta1 : ∀ W, (Instr.typeAssert (.iface 9 (.string S)) 20 9 true).run Tryd.prog W = .ok (.tuple #[.string S, .bool true]) W := fun W => by simp [Instr.typeAssert, run_underlying hu0, run_underlying huT1, go_sem, Result.andThen]
 have huT2 := Tryd.underlying4
 have ta2 : ∀ W, (Instr.typeAssert (.iface 9 (.string S)) 20 4 true).run Tryd.prog W = .ok (.tuple #[.bool false, .bool false]) W := fun W => by simp [Instr.typeAssert, run_underlying hu0, run_underlying huT2, go_sem, Result.andThen]
 have huT3 := Tryd.underlying22
 have ta3 : ∀ W, (Instr.typeAssert (.iface 9 (.string S)) 20 22 true).run Tryd.prog W = .ok (.tuple #[.slice none 0 0, .bool false]) W := fun W => by simp [Instr.typeAssert, run_underlying hu0, run_underlying huT3, go_sem, Result.andThen]
 have HB := Aside0.mk (Below.refl w.heap.size w)
 have HT := Aside0.mk hT
 have A1 := Aside0.mk h1
 have A2 := Aside0.mk h2
 have A3 := Aside0.mk h3
 clear hT h1 h2 h3
 go_enter Tryd.func4, Tryd.ntmps4
 go_wp2_with (first | ((with_reducible refine gate_dst (N := 1) rfl ?_); refine boxA 1 #[.int .i64 2, .int .i64 0, .string S] 26 ?_; intro gb1 hg w1 hbox hb; have BK1 := Aside0.mk hbox; have GW1 := Aside0.mk (hgW hg : w.heap.size ≤ gb1); replace HB := Aside0.mk (below_step (bwA) hb); clear hg hbox; obtain ⟨x0, x1, x2⟩ := cel3 BK1.out) | ((with_reducible refine gate_callee (f := 5) rfl ?_); refine goesA (some 16) Tryd.func5 #[.string S] ?_; (with_reducible refine (few_below A1.out).mono ?_); rintro e w2 ⟨rfl, hb⟩; refine ⟨_, rfl, ?_⟩; replace BK1 := Aside0.mk (bkB BK1 hb); clear x0 x1 x2; obtain ⟨x0, x1, x2⟩ := cel3 BK1.out; replace HB := Aside0.mk (below_step (bwA) hb)) | ((with_reducible refine gate_callee (f := 9) rfl ?_); refine goesA (some 20) Tryd.func9 #[.agg #[.int .i64 2, .int .i64 0, .string S]] ?_; (with_reducible refine (AnyS.calls _ _ _ ?side1 A2.out).mono ?_); (case side1 => exact Tabs.below HT.out (bwA)); rintro e w2 ⟨rfl, hb⟩; refine ⟨_, rfl, ?_⟩; replace BK1 := Aside0.mk (bkB BK1 hb); clear x0 x1 x2; obtain ⟨x0, x1, x2⟩ := cel3 BK1.out; replace HB := Aside0.mk (below_step (bwA) hb)) | ((with_reducible refine gate_callee (f := 7) rfl ?_); refine goesA (some 23) Tryd.func7 #[(.iface 9 (.string S))] ?_; (with_reducible refine (From1S.calls _ _ ?side1 A2.out).mono ?_); (case side1 => exact Tabs.below HT.out (bwA)); rintro e w2 ⟨rfl, hb⟩; refine ⟨_, rfl, ?_⟩; replace BK1 := Aside0.mk (bkB BK1 hb); clear x0 x1 x2; obtain ⟨x0, x1, x2⟩ := cel3 BK1.out; replace HB := Aside0.mk (below_step (bwA) hb)) | ((with_reducible refine gate_dst (N := 4) rfl ?_); refine boxA 4 #[.int .i64 0, .int .i64 0, .string ⟨#[]⟩] 26 ?_; intro gb4 hg w5 hbox hb; have NE := (hgL hg BK1 : gb1 ≠ gb4); have GW4 := Aside0.mk (hgW hg : w.heap.size ≤ gb4); replace BK1 := Aside0.mk (bkB BK1 hb); replace HB := Aside0.mk (below_step (bwA) hb); obtain ⟨z0, z1, z2⟩ := cel3 hbox; obtain ⟨f0, f1, f2⟩ := frz3 hbox; clear hg x0 x1 x2; have BK4 := Aside0.mk (show (((w5.setCell ⟨gb4, 0, none⟩ (.int .i64 2)).setCell ⟨gb4, 1, none⟩ (.int .i64 0)).setCell ⟨gb4, 2, none⟩ (.string S)).heap[gb4]? = some (.cells #[.int .i64 2, .int .i64 0, .string S] 26 (0, 0)) from blk_put (blk_put (blk_put hbox 0 (.int .i64 2) rfl) 1 (.int .i64 0) rfl) 2 (.string S) rfl); replace BK1 := Aside0.mk (show (((w5.setCell ⟨gb4, 0, none⟩ (.int .i64 2)).setCell ⟨gb4, 1, none⟩ (.int .i64 0)).setCell ⟨gb4, 2, none⟩ (.string S)).heap[gb1]? = some (.cells #[.int .i64 2, .int .i64 0, .string S] 26 (0, 0)) from blk_far (blk_far (blk_far BK1.out NE (.int .i64 2)) NE (.int .i64 0)) NE (.string S)); obtain ⟨y0, y1, y2⟩ := cel3 BK4.out; obtain ⟨x0, x1, x2⟩ := cel3 BK1.out; clear hbox NE hb) | ((with_reducible refine gate_callee (f := 10) rfl ?_); refine goesA (some 27) Tryd.func10 #[.agg #[.int .i64 2, .int .i64 0, .string S]] ?_; (with_reducible refine (value_Check.calls _ _ _ _ _ ?side1 A2.out).mono ?_); (case side1 => exact Tabs.below HT.out (bwA)); rintro e w2 ⟨rfl, hb⟩; refine ⟨_, rfl, ?_⟩; replace BK1 := Aside0.mk (bkB BK1 hb); clear x0 x1 x2; obtain ⟨x0, x1, x2⟩ := cel3 BK1.out; replace BK4 := Aside0.mk (bkB BK4 hb); clear y0 y1 y2; obtain ⟨y0, y1, y2⟩ := cel3 BK4.out; replace HB := Aside0.mk (below_step (bwA) hb)) | ((with_reducible refine gate_callee (f := 6) rfl ?_); refine goesA (some 88) Tryd.func6 #[] ?_; (with_reducible refine (caduceuslaw03_awake.calls _ _ _ ?side1 A3.out).mono ?_); (case side1 => exact Tabs.below HT.out (bwA)); rintro e w2 ⟨rfl, hb⟩; refine ⟨_, rfl, ?_⟩; replace BK1 := Aside0.mk (bkB BK1 hb); clear x0 x1 x2; obtain ⟨x0, x1, x2⟩ := cel3 BK1.out; replace BK4 := Aside0.mk (bkB BK4 hb); clear y0 y1 y2; obtain ⟨y0, y1, y2⟩ := cel3 BK4.out; replace HB := Aside0.mk (below_step (bwA) hb)))
 go_ret
 exact ⟨endA, bwA⟩
set_option maxHeartbeats 8000000 in
set_option maxRecDepth 100000 in
theorem VaT.calls (k : Nat)  (w : World) (hT : Tabs w) (h1 : caduceuslaw03_few.f ⟨#[]⟩ = some true) (h2 : value_Check.f 3 1 ⟨#[]⟩ = some true) (h3 : caduceuslaw03_awake.f k = some true) :
  Calls Tryd.prog 4 #[.agg #[.int .i64 3, .int .i64 1, .string ⟨#[]⟩]] w fun e w' => e = .returned (.bool true) ∧ Below w.heap.size w w' := by
 have hu := Tryd.underlying26
 have hu0 := Tryd.underlying20
 have huT0 := Tryd.underlying3
 have ta0 : ∀ W, (Instr.typeAssert (.iface 4 (.bool true)) 20 3 true).run Tryd.prog W = .ok (.tuple #[.int .i64 0, .bool false]) W := fun W => by simp [Instr.typeAssert, run_underlying hu0, run_underlying huT0, go_sem, Result.andThen]
 have huT1 := Tryd.underlying9
 have ta1 : ∀ W, (Instr.typeAssert (.iface 4 (.bool true)) 20 9 true).run Tryd.prog W = .ok (.tuple #[.string ⟨#[]⟩, .bool false]) W := fun W => by simp [Instr.typeAssert, run_underlying hu0, run_underlying huT1, go_sem, Result.andThen]
 have huT2 := Tryd.underlying4
 have ta2 : ∀ W, (Instr.typeAssert (.iface 4 (.bool true)) 20 4 true).run Tryd.prog W = .ok (.tuple #[.bool true, .bool true]) W := fun W => by simp [Instr.typeAssert, run_underlying hu0, run_underlying huT2, go_sem, Result.andThen]
 have huT3 := Tryd.underlying22
 have ta3 : ∀ W, (Instr.typeAssert (.iface 4 (.bool true)) 20 22 true).run Tryd.prog W = .ok (.tuple #[.slice none 0 0, .bool false]) W := fun W => by simp [Instr.typeAssert, run_underlying hu0, run_underlying huT3, go_sem, Result.andThen]
 have HB := Aside0.mk (Below.refl w.heap.size w)
 have HT := Aside0.mk hT
 have A1 := Aside0.mk h1
 have A2 := Aside0.mk h2
 have A3 := Aside0.mk h3
 clear hT h1 h2 h3
 go_enter Tryd.func4, Tryd.ntmps4
 go_wp2_with (first | ((with_reducible refine gate_dst (N := 1) rfl ?_); refine boxA 1 #[.int .i64 3, .int .i64 1, .string ⟨#[]⟩] 26 ?_; intro gb1 hg w1 hbox hb; have BK1 := Aside0.mk hbox; have GW1 := Aside0.mk (hgW hg : w.heap.size ≤ gb1); replace HB := Aside0.mk (below_step (bwA) hb); clear hg hbox; obtain ⟨x0, x1, x2⟩ := cel3 BK1.out) | ((with_reducible refine gate_callee (f := 5) rfl ?_); refine goesA (some 16) Tryd.func5 #[.string ⟨#[]⟩] ?_; (with_reducible refine (few_below A1.out).mono ?_); rintro e w2 ⟨rfl, hb⟩; refine ⟨_, rfl, ?_⟩; replace BK1 := Aside0.mk (bkB BK1 hb); clear x0 x1 x2; obtain ⟨x0, x1, x2⟩ := cel3 BK1.out; replace HB := Aside0.mk (below_step (bwA) hb)) | ((with_reducible refine gate_callee (f := 9) rfl ?_); refine goesA (some 20) Tryd.func9 #[.agg #[.int .i64 3, .int .i64 1, .string ⟨#[]⟩]] ?_; (with_reducible refine (AnyT.calls _ ?side1 A2.out).mono ?_); (case side1 => exact Tabs.below HT.out (bwA)); rintro e w2 ⟨rfl, hb⟩; refine ⟨_, rfl, ?_⟩; replace BK1 := Aside0.mk (bkB BK1 hb); clear x0 x1 x2; obtain ⟨x0, x1, x2⟩ := cel3 BK1.out; replace HB := Aside0.mk (below_step (bwA) hb)) | ((with_reducible refine gate_callee (f := 7) rfl ?_); refine goesA (some 23) Tryd.func7 #[(.iface 4 (.bool true))] ?_; (with_reducible refine (From1T.calls _ ?side1 A2.out).mono ?_); (case side1 => exact Tabs.below HT.out (bwA)); rintro e w2 ⟨rfl, hb⟩; refine ⟨_, rfl, ?_⟩; replace BK1 := Aside0.mk (bkB BK1 hb); clear x0 x1 x2; obtain ⟨x0, x1, x2⟩ := cel3 BK1.out; replace HB := Aside0.mk (below_step (bwA) hb)) | ((with_reducible refine gate_dst (N := 4) rfl ?_); refine boxA 4 #[.int .i64 0, .int .i64 0, .string ⟨#[]⟩] 26 ?_; intro gb4 hg w5 hbox hb; have NE := (hgL hg BK1 : gb1 ≠ gb4); have GW4 := Aside0.mk (hgW hg : w.heap.size ≤ gb4); replace BK1 := Aside0.mk (bkB BK1 hb); replace HB := Aside0.mk (below_step (bwA) hb); obtain ⟨z0, z1, z2⟩ := cel3 hbox; obtain ⟨f0, f1, f2⟩ := frz3 hbox; clear hg x0 x1 x2; have BK4 := Aside0.mk (show (((w5.setCell ⟨gb4, 0, none⟩ (.int .i64 3)).setCell ⟨gb4, 1, none⟩ (.int .i64 1)).setCell ⟨gb4, 2, none⟩ (.string ⟨#[]⟩)).heap[gb4]? = some (.cells #[.int .i64 3, .int .i64 1, .string ⟨#[]⟩] 26 (0, 0)) from blk_put (blk_put (blk_put hbox 0 (.int .i64 3) rfl) 1 (.int .i64 1) rfl) 2 (.string ⟨#[]⟩) rfl); replace BK1 := Aside0.mk (show (((w5.setCell ⟨gb4, 0, none⟩ (.int .i64 3)).setCell ⟨gb4, 1, none⟩ (.int .i64 1)).setCell ⟨gb4, 2, none⟩ (.string ⟨#[]⟩)).heap[gb1]? = some (.cells #[.int .i64 3, .int .i64 1, .string ⟨#[]⟩] 26 (0, 0)) from blk_far (blk_far (blk_far BK1.out NE (.int .i64 3)) NE (.int .i64 1)) NE (.string ⟨#[]⟩)); obtain ⟨y0, y1, y2⟩ := cel3 BK4.out; obtain ⟨x0, x1, x2⟩ := cel3 BK1.out; clear hbox NE hb) | ((with_reducible refine gate_callee (f := 10) rfl ?_); refine goesA (some 27) Tryd.func10 #[.agg #[.int .i64 3, .int .i64 1, .string ⟨#[]⟩]] ?_; (with_reducible refine (value_Check.calls _ _ _ _ _ ?side1 A2.out).mono ?_); (case side1 => exact Tabs.below HT.out (bwA)); rintro e w2 ⟨rfl, hb⟩; refine ⟨_, rfl, ?_⟩; replace BK1 := Aside0.mk (bkB BK1 hb); clear x0 x1 x2; obtain ⟨x0, x1, x2⟩ := cel3 BK1.out; replace BK4 := Aside0.mk (bkB BK4 hb); clear y0 y1 y2; obtain ⟨y0, y1, y2⟩ := cel3 BK4.out; replace HB := Aside0.mk (below_step (bwA) hb)) | ((with_reducible refine gate_callee (f := 6) rfl ?_); refine goesA (some 109) Tryd.func6 #[] ?_; (with_reducible refine (caduceuslaw03_awake.calls _ _ _ ?side1 A3.out).mono ?_); (case side1 => exact Tabs.below HT.out (bwA)); rintro e w2 ⟨rfl, hb⟩; refine ⟨_, rfl, ?_⟩; replace BK1 := Aside0.mk (bkB BK1 hb); clear x0 x1 x2; obtain ⟨x0, x1, x2⟩ := cel3 BK1.out; replace BK4 := Aside0.mk (bkB BK4 hb); clear y0 y1 y2; obtain ⟨y0, y1, y2⟩ := cel3 BK4.out; replace HB := Aside0.mk (below_step (bwA) hb)))
 go_ret
 exact ⟨endA, bwA⟩
set_option maxHeartbeats 8000000 in
set_option maxRecDepth 100000 in
theorem VaF.calls (k : Nat)  (w : World) (hT : Tabs w) (h1 : caduceuslaw03_few.f ⟨#[]⟩ = some true) (h2 : value_Check.f 3 0 ⟨#[]⟩ = some true) (h3 : caduceuslaw03_awake.f k = some true) :
  Calls Tryd.prog 4 #[.agg #[.int .i64 3, .int .i64 0, .string ⟨#[]⟩]] w fun e w' => e = .returned (.bool true) ∧ Below w.heap.size w w' := by
 have hu := Tryd.underlying26
 have hu0 := Tryd.underlying20
 have huT0 := Tryd.underlying3
 have ta0 : ∀ W, (Instr.typeAssert (.iface 4 (.bool false)) 20 3 true).run Tryd.prog W = .ok (.tuple #[.int .i64 0, .bool false]) W := fun W => by simp [Instr.typeAssert, run_underlying hu0, run_underlying huT0, go_sem, Result.andThen]
 have huT1 := Tryd.underlying9
 have ta1 : ∀ W, (Instr.typeAssert (.iface 4 (.bool false)) 20 9 true).run Tryd.prog W = .ok (.tuple #[.string ⟨#[]⟩, .bool false]) W := fun W => by simp [Instr.typeAssert, run_underlying hu0, run_underlying huT1, go_sem, Result.andThen]
 have huT2 := Tryd.underlying4
 have ta2 : ∀ W, (Instr.typeAssert (.iface 4 (.bool false)) 20 4 true).run Tryd.prog W = .ok (.tuple #[.bool false, .bool true]) W := fun W => by simp [Instr.typeAssert, run_underlying hu0, run_underlying huT2, go_sem, Result.andThen]
 have huT3 := Tryd.underlying22
 have ta3 : ∀ W, (Instr.typeAssert (.iface 4 (.bool false)) 20 22 true).run Tryd.prog W = .ok (.tuple #[.slice none 0 0, .bool false]) W := fun W => by simp [Instr.typeAssert, run_underlying hu0, run_underlying huT3, go_sem, Result.andThen]
 have HB := Aside0.mk (Below.refl w.heap.size w)
 have HT := Aside0.mk hT
 have A1 := Aside0.mk h1
 have A2 := Aside0.mk h2
 have A3 := Aside0.mk h3
 clear hT h1 h2 h3
 go_enter Tryd.func4, Tryd.ntmps4
 go_wp2_with (first | ((with_reducible refine gate_dst (N := 1) rfl ?_); refine boxA 1 #[.int .i64 3, .int .i64 0, .string ⟨#[]⟩] 26 ?_; intro gb1 hg w1 hbox hb; have BK1 := Aside0.mk hbox; have GW1 := Aside0.mk (hgW hg : w.heap.size ≤ gb1); replace HB := Aside0.mk (below_step (bwA) hb); clear hg hbox; obtain ⟨x0, x1, x2⟩ := cel3 BK1.out) | ((with_reducible refine gate_callee (f := 5) rfl ?_); refine goesA (some 16) Tryd.func5 #[.string ⟨#[]⟩] ?_; (with_reducible refine (few_below A1.out).mono ?_); rintro e w2 ⟨rfl, hb⟩; refine ⟨_, rfl, ?_⟩; replace BK1 := Aside0.mk (bkB BK1 hb); clear x0 x1 x2; obtain ⟨x0, x1, x2⟩ := cel3 BK1.out; replace HB := Aside0.mk (below_step (bwA) hb)) | ((with_reducible refine gate_callee (f := 9) rfl ?_); refine goesA (some 20) Tryd.func9 #[.agg #[.int .i64 3, .int .i64 0, .string ⟨#[]⟩]] ?_; (with_reducible refine (AnyF.calls _ ?side1 A2.out).mono ?_); (case side1 => exact Tabs.below HT.out (bwA)); rintro e w2 ⟨rfl, hb⟩; refine ⟨_, rfl, ?_⟩; replace BK1 := Aside0.mk (bkB BK1 hb); clear x0 x1 x2; obtain ⟨x0, x1, x2⟩ := cel3 BK1.out; replace HB := Aside0.mk (below_step (bwA) hb)) | ((with_reducible refine gate_callee (f := 7) rfl ?_); refine goesA (some 23) Tryd.func7 #[(.iface 4 (.bool false))] ?_; (with_reducible refine (From1F.calls _ ?side1 A2.out).mono ?_); (case side1 => exact Tabs.below HT.out (bwA)); rintro e w2 ⟨rfl, hb⟩; refine ⟨_, rfl, ?_⟩; replace BK1 := Aside0.mk (bkB BK1 hb); clear x0 x1 x2; obtain ⟨x0, x1, x2⟩ := cel3 BK1.out; replace HB := Aside0.mk (below_step (bwA) hb)) | ((with_reducible refine gate_dst (N := 4) rfl ?_); refine boxA 4 #[.int .i64 0, .int .i64 0, .string ⟨#[]⟩] 26 ?_; intro gb4 hg w5 hbox hb; have NE := (hgL hg BK1 : gb1 ≠ gb4); have GW4 := Aside0.mk (hgW hg : w.heap.size ≤ gb4); replace BK1 := Aside0.mk (bkB BK1 hb); replace HB := Aside0.mk (below_step (bwA) hb); obtain ⟨z0, z1, z2⟩ := cel3 hbox; obtain ⟨f0, f1, f2⟩ := frz3 hbox; clear hg x0 x1 x2; have BK4 := Aside0.mk (show (((w5.setCell ⟨gb4, 0, none⟩ (.int .i64 3)).setCell ⟨gb4, 1, none⟩ (.int .i64 0)).setCell ⟨gb4, 2, none⟩ (.string ⟨#[]⟩)).heap[gb4]? = some (.cells #[.int .i64 3, .int .i64 0, .string ⟨#[]⟩] 26 (0, 0)) from blk_put (blk_put (blk_put hbox 0 (.int .i64 3) rfl) 1 (.int .i64 0) rfl) 2 (.string ⟨#[]⟩) rfl); replace BK1 := Aside0.mk (show (((w5.setCell ⟨gb4, 0, none⟩ (.int .i64 3)).setCell ⟨gb4, 1, none⟩ (.int .i64 0)).setCell ⟨gb4, 2, none⟩ (.string ⟨#[]⟩)).heap[gb1]? = some (.cells #[.int .i64 3, .int .i64 0, .string ⟨#[]⟩] 26 (0, 0)) from blk_far (blk_far (blk_far BK1.out NE (.int .i64 3)) NE (.int .i64 0)) NE (.string ⟨#[]⟩)); obtain ⟨y0, y1, y2⟩ := cel3 BK4.out; obtain ⟨x0, x1, x2⟩ := cel3 BK1.out; clear hbox NE hb) | ((with_reducible refine gate_callee (f := 10) rfl ?_); refine goesA (some 27) Tryd.func10 #[.agg #[.int .i64 3, .int .i64 0, .string ⟨#[]⟩]] ?_; (with_reducible refine (value_Check.calls _ _ _ _ _ ?side1 A2.out).mono ?_); (case side1 => exact Tabs.below HT.out (bwA)); rintro e w2 ⟨rfl, hb⟩; refine ⟨_, rfl, ?_⟩; replace BK1 := Aside0.mk (bkB BK1 hb); clear x0 x1 x2; obtain ⟨x0, x1, x2⟩ := cel3 BK1.out; replace BK4 := Aside0.mk (bkB BK4 hb); clear y0 y1 y2; obtain ⟨y0, y1, y2⟩ := cel3 BK4.out; replace HB := Aside0.mk (below_step (bwA) hb)) | ((with_reducible refine gate_callee (f := 6) rfl ?_); refine goesA (some 109) Tryd.func6 #[] ?_; (with_reducible refine (caduceuslaw03_awake.calls _ _ _ ?side1 A3.out).mono ?_); (case side1 => exact Tabs.below HT.out (bwA)); rintro e w2 ⟨rfl, hb⟩; refine ⟨_, rfl, ?_⟩; replace BK1 := Aside0.mk (bkB BK1 hb); clear x0 x1 x2; obtain ⟨x0, x1, x2⟩ := cel3 BK1.out; replace BK4 := Aside0.mk (bkB BK4 hb); clear y0 y1 y2; obtain ⟨y0, y1, y2⟩ := cel3 BK4.out; replace HB := Aside0.mk (below_step (bwA) hb)))
 go_ret
 exact ⟨endA, bwA⟩
set_option maxHeartbeats 8000000 in
set_option maxRecDepth 100000 in
theorem VaB.calls (k : Nat) (S : ByteArray) (w : World) (hT : Tabs w) (hs : S.size ≤ 9223372036854775807) (h1 : caduceuslaw03_few.f S = some true) (h2 : value_Check.f 4 0 S = some true) (h3 : caduceuslaw03_awake.f k = some true) :
  Calls Tryd.prog 4 #[.agg #[.int .i64 4, .int .i64 0, .string S]] w fun e w' => e = .returned (.bool true) ∧ Below w.heap.size w w' := by
 have hu := Tryd.underlying26
 have hu0 := Tryd.underlying20
 have huT0 := Tryd.underlying3
 have ta0 : ∀ (A : Option Addr) (c : Nat) W, (Instr.typeAssert (.iface 22 (.slice A S.size c)) 20 3 true).run Tryd.prog W = .ok (.tuple #[.int .i64 0, .bool false]) W := fun A c W => by simp [Instr.typeAssert, run_underlying hu0, run_underlying huT0, go_sem, Result.andThen]
 have huT1 := Tryd.underlying9
 have ta1 : ∀ (A : Option Addr) (c : Nat) W, (Instr.typeAssert (.iface 22 (.slice A S.size c)) 20 9 true).run Tryd.prog W = .ok (.tuple #[.string ⟨#[]⟩, .bool false]) W := fun A c W => by simp [Instr.typeAssert, run_underlying hu0, run_underlying huT1, go_sem, Result.andThen]
 have huT2 := Tryd.underlying4
 have ta2 : ∀ (A : Option Addr) (c : Nat) W, (Instr.typeAssert (.iface 22 (.slice A S.size c)) 20 4 true).run Tryd.prog W = .ok (.tuple #[.bool false, .bool false]) W := fun A c W => by simp [Instr.typeAssert, run_underlying hu0, run_underlying huT2, go_sem, Result.andThen]
 have huT3 := Tryd.underlying22
 have ta3 : ∀ (A : Option Addr) (c : Nat) W, (Instr.typeAssert (.iface 22 (.slice A S.size c)) 20 22 true).run Tryd.prog W = .ok (.tuple #[.slice A S.size c, .bool true]) W := fun A c W => by simp [Instr.typeAssert, run_underlying hu0, run_underlying huT3, go_sem, Result.andThen]
 have HB := Aside0.mk (Below.refl w.heap.size w)
 have HT := Aside0.mk hT
 have A1 := Aside0.mk h1
 have A2 := Aside0.mk h2
 have A3 := Aside0.mk h3
 have HS := Aside0.mk hs
 clear hs
 clear hT h1 h2 h3
 go_enter Tryd.func4, Tryd.ntmps4
 go_wp2_with (first | ((with_reducible refine gate_dst (N := 1) rfl ?_); refine boxA 1 #[.int .i64 4, .int .i64 0, .string S] 26 ?_; intro gb1 hg w1 hbox hb; have BK1 := Aside0.mk hbox; have GW1 := Aside0.mk (hgW hg : w.heap.size ≤ gb1); replace HB := Aside0.mk (below_step (bwA) hb); clear hg hbox; obtain ⟨x0, x1, x2⟩ := cel3 BK1.out) | ((with_reducible refine gate_callee (f := 5) rfl ?_); refine goesA (some 16) Tryd.func5 #[.string S] ?_; (with_reducible refine (few_below A1.out).mono ?_); rintro e w2 ⟨rfl, hb⟩; refine ⟨_, rfl, ?_⟩; replace BK1 := Aside0.mk (bkB BK1 hb); clear x0 x1 x2; obtain ⟨x0, x1, x2⟩ := cel3 BK1.out; replace HB := Aside0.mk (below_step (bwA) hb)) | ((with_reducible refine gate_callee (f := 9) rfl ?_); refine goesA (some 20) Tryd.func9 #[.agg #[.int .i64 4, .int .i64 0, .string S]] ?_; (with_reducible refine (AnyB.calls _ _ HS.out _ ?side1 A2.out).mono ?_); (case side1 => exact Tabs.below HT.out (bwA)); rintro e w2 ⟨⟨A, c, rfl, hA, hC⟩, hb⟩; refine ⟨_, rfl, ?_⟩; replace BK1 := Aside0.mk (bkB BK1 hb); clear x0 x1 x2; obtain ⟨x0, x1, x2⟩ := cel3 BK1.out; replace HB := Aside0.mk (below_step (bwA) hb); have HA := Aside0.mk hA; clear hA; have HCC := Aside0.mk hC; clear hC; specialize ta0 A c; specialize ta1 A c; specialize ta2 A c; specialize ta3 A c) | ((with_reducible refine gate_callee (f := 7) rfl ?_); refine goesA (some 23) Tryd.func7 #[(.iface 22 (.slice A S.size c))] ?_; (with_reducible refine (From1B.calls _ _ _ _ ?side1 HCC.out A2.out).mono ?_); (case side1 => exact Tabs.below HT.out (bwA)); rintro e w2 ⟨rfl, hb⟩; refine ⟨_, rfl, ?_⟩; replace BK1 := Aside0.mk (bkB BK1 hb); clear x0 x1 x2; obtain ⟨x0, x1, x2⟩ := cel3 BK1.out; replace HCC := Aside0.mk (Kd.C_below HCC.out hb); replace HB := Aside0.mk (below_step (bwA) hb)) | ((with_reducible refine gate_dst (N := 4) rfl ?_); refine boxA 4 #[.int .i64 0, .int .i64 0, .string ⟨#[]⟩] 26 ?_; intro gb4 hg w5 hbox hb; have NE := (hgL hg BK1 : gb1 ≠ gb4); have GW4 := Aside0.mk (hgW hg : w.heap.size ≤ gb4); replace BK1 := Aside0.mk (bkB BK1 hb); have HCCz := cz3 HCC.out hg hb (.int .i64 4) (.int .i64 0) (.string S); clear HCC; replace HB := Aside0.mk (below_step (bwA) hb); obtain ⟨z0, z1, z2⟩ := cel3 hbox; obtain ⟨f0, f1, f2⟩ := frz3 hbox; clear hg x0 x1 x2; have BK4 := Aside0.mk (show (((w5.setCell ⟨gb4, 0, none⟩ (.int .i64 4)).setCell ⟨gb4, 1, none⟩ (.int .i64 0)).setCell ⟨gb4, 2, none⟩ (.string S)).heap[gb4]? = some (.cells #[.int .i64 4, .int .i64 0, .string S] 26 (0, 0)) from blk_put (blk_put (blk_put hbox 0 (.int .i64 4) rfl) 1 (.int .i64 0) rfl) 2 (.string S) rfl); replace BK1 := Aside0.mk (show (((w5.setCell ⟨gb4, 0, none⟩ (.int .i64 4)).setCell ⟨gb4, 1, none⟩ (.int .i64 0)).setCell ⟨gb4, 2, none⟩ (.string S)).heap[gb1]? = some (.cells #[.int .i64 4, .int .i64 0, .string S] 26 (0, 0)) from blk_far (blk_far (blk_far BK1.out NE (.int .i64 4)) NE (.int .i64 0)) NE (.string S)); obtain ⟨y0, y1, y2⟩ := cel3 BK4.out; obtain ⟨x0, x1, x2⟩ := cel3 BK1.out; clear hbox NE hb) | ((with_reducible refine gate_callee (f := 10) rfl ?_); refine goesA (some 27) Tryd.func10 #[.agg #[.int .i64 4, .int .i64 0, .string S]] ?_; (with_reducible refine (value_Check.calls _ _ _ _ _ ?side1 A2.out).mono ?_); (case side1 => exact Tabs.below HT.out (bwA)); rintro e w2 ⟨rfl, hb⟩; refine ⟨_, rfl, ?_⟩; replace BK1 := Aside0.mk (bkB BK1 hb); clear x0 x1 x2; obtain ⟨x0, x1, x2⟩ := cel3 BK1.out; replace BK4 := Aside0.mk (bkB BK4 hb); clear y0 y1 y2; obtain ⟨y0, y1, y2⟩ := cel3 BK4.out; have HCC := Aside0.mk (Kd.C_below HCCz hb); clear HCCz; replace HB := Aside0.mk (below_step (bwA) hb)) | ((with_reducible refine gate_callee (f := 6) rfl ?_); refine goesA (some 129) Tryd.func6 #[] ?_; (with_reducible refine (caduceuslaw03_awake.calls _ _ _ ?side1 A3.out).mono ?_); (case side1 => exact Tabs.below HT.out (bwA)); rintro e w2 ⟨rfl, hb⟩; refine ⟨_, rfl, ?_⟩; replace BK1 := Aside0.mk (bkB BK1 hb); clear x0 x1 x2; obtain ⟨x0, x1, x2⟩ := cel3 BK1.out; replace BK4 := Aside0.mk (bkB BK4 hb); clear y0 y1 y2; obtain ⟨y0, y1, y2⟩ := cel3 BK4.out; replace HCC := Aside0.mk (Kd.C_below HCC.out hb); have hcv := Kd.C_string (P := Tryd.prog) (c := c) Tryd.underlying22 Tryd.underlying5 Tryd.underlying9 HCC.out; rw [any_str] at hcv; replace HB := Aside0.mk (below_step (bwA) hb)))
 go_ret
 exact ⟨endA, bwA⟩
theorem any_nil (S : ByteArray) (h : (S.toList == ([] : List UInt8)) = true) : S = ⟨#[]⟩ := by
 have h1 : S.toList = [] := eq_of_beq h
 rw [ByteArray.toList_eq] at h1
 cases S with
 | mk d => 
  have : d = #[] := Array.toList_inj.1 h1
  rw [this]
theorem any_kinds (K N : Int) (S : ByteArray) (h : value_Check.f K N S = some true) :
  (K = 1 ∧ S = ⟨#[]⟩) ∨ (K = 2 ∧ N = 0) ∨ (K = 3 ∧ N = 0 ∧ S = ⟨#[]⟩) ∨ (K = 3 ∧ N = 1 ∧ S = ⟨#[]⟩) ∨ (K = 4 ∧ N = 0 ∧ S.size ≤ 200) := by
 unfold value_Check.f at h
 by_cases k1 : K = 1
 ·rw [if_pos k1] at h
  split at h
  ·split at h
   ·exact .inl ⟨k1, any_nil S (Option.some.inj h)⟩
   ·simp at h
  ·simp at h
 ·rw [if_neg k1] at h
  by_cases k2 : K = 2
  ·rw [if_pos k2] at h
   split at h
   ·rename_i hn; exact .inr (.inl ⟨k2, hn⟩)
   ·simp at h
  ·rw [if_neg k2] at h
   by_cases k3 : K = 3
   ·rw [if_pos k3] at h
    split at h
    ·rename_i hn; exact .inr (.inr (.inl ⟨k3, hn, any_nil S (Option.some.inj h)⟩))
    ·split at h
     ·rename_i hn; exact .inr (.inr (.inr (.inl ⟨k3, hn, any_nil S (Option.some.inj h)⟩)))
     ·simp at h
   ·rw [if_neg k3] at h
    by_cases k4 : K = 4
    ·rw [if_pos k4] at h
     split at h
     ·rename_i hn
      have := of_decide_eq_true (Option.some.inj h)
      exact .inr (.inr (.inr (.inr ⟨k4, hn, by omega⟩)))
     ·simp at h
    ·rw [if_neg k4] at h; simp at h
def caduceuslaw03_ValueAny.f (k : Nat) (a0_0 : Int) (a0_1 : Int) (a0_2 : ByteArray) : Option (Bool) := (caduceuslaw03_few.f a0_2).bind fun _ => (value_Check.f a0_0 a0_1 a0_2).bind fun _ => (caduceuslaw03_awake.f k).bind fun t => if t = true then some true else none
theorem caduceuslaw03_ValueAny.mono : ∀ a0 a1 a2 k, LeO (caduceuslaw03_ValueAny.f k a0 a1 a2) (caduceuslaw03_ValueAny.f (k + 1) a0 a1 a2) := by
 intro a0 a1 a2 k
 unfold caduceuslaw03_ValueAny.f
 repeat' (with_reducible first | exact caduceuslaw03_awake.mono _ | exact LeO.refl _ | exact LeO.none _ | refine LeO.ite ?_ ?_ | refine LeO.bind ?_ (fun _ => ?_))
theorem caduceuslaw03_ValueAny.calls (k : Nat) (a0_0 : Int) (a0_1 : Int) (a0_2 : ByteArray) (r : Bool) (w : World) (hT : Tabs w) (h : caduceuslaw03_ValueAny.f k a0_0 a0_1 a0_2 = some r) :
  Calls Tryd.prog 4 #[.agg #[.int .i64 a0_0, .int .i64 a0_1, .string a0_2]] w fun e w' => e = .returned (.bool r) ∧ Below w.heap.size w w' := by
 unfold caduceuslaw03_ValueAny.f at h
 obtain ⟨c, hc, h⟩ := Option.bind_eq_some_iff.1 h
 obtain ⟨b, hb, h⟩ := Option.bind_eq_some_iff.1 h
 obtain ⟨t, ht, h⟩ := Option.bind_eq_some_iff.1 h
 cases t with
 | false => rw [if_neg (by decide)] at h; simp at h
 | true =>
  rw [if_pos rfl] at h
  obtain rfl := Option.some.inj h
  cases c with
  | false => exact Va0.calls k _ _ _ b w hT hc hb ht
  | true =>
   cases b with
   | false => exact VaN.calls k _ _ _ w hT hc hb ht
   | true =>
    rcases any_kinds _ _ _ hb with ⟨rfl, rfl⟩ | ⟨rfl, rfl⟩ | ⟨rfl, rfl, rfl⟩ | ⟨rfl, rfl, rfl⟩ | ⟨rfl, rfl, hs⟩
    ·exact VaI.calls k _ w hT hc hb ht
    ·exact VaS.calls k _ w hT hc hb ht
    ·exact VaF.calls k w hT hc hb ht
    ·exact VaT.calls k w hT hc hb ht
    ·exact VaB.calls k _ w hT (by omega) hc hb ht

end Go.Proofs.YtlejenoibblhnaaDoor.A
