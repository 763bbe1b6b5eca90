-- By drv.py, the session's own driver round the kit's print: the machine's side of the laws, function by function. Not trusted: Lean checks it.
import Derived.Test.YtkdndabpaajkaaaGreatDoorAx0
import Derived.Test.YtkdndabpaajkaaaGreatDoorAx9
import Derived.Test.YtkdndabpaajkaaaGreatDoorAx11
import Derived.Test.YtkdndabpaajkaaaGreatDoorAx14
namespace Go.Proofs.YtkdndabpaajkaaaGreatDoor.A
open Go.RowKit Go.Proofs.YtkdndabpaajkaaaGreatDoorW.PrintWords Go.Proofs.YtkdndabpaajkaaaGreatDoorW.PrintLast Go.Proofs.YtkdndabpaajkaaaGreatDoorW.PrintMore
attribute [local go_sem] max2_int min2_int max_two min_two max_three min_three max_four min_four   -- for this text's walks alone
set_option linter.unusedVariables false
set_option linter.unusedSimpArgs false

/-! ### event_ParseID: function 66 -/
def event_ParseID.f (k : Nat) (a0 : ByteArray) : Option (Int × Int × Int × Int) := (strings_Split.f a0 (⟨#[46]⟩ : ByteArray)).bind fun t182 => (if (t182.length : Int) = 3 then (if 0 < (t182.length : Int) then ((event_number.f k (rdOf ByteArray.empty t182 0)).bind fun t186 => (if 1 < (t182.length : Int) then ((event_number.f k (rdOf ByteArray.empty t182 1)).bind fun t188 => (if 2 < (t182.length : Int) then ((event_number.f k (rdOf ByteArray.empty t182 2)).bind fun t190 => (if a0.toList = ([] : List UInt8) then (some (0, 0, 0, 3)) else ((event_ShowID.f t186 t188 t190).bind fun t192 => (if t192.toList = a0.toList then (some (t186, t188, t190, 0)) else (some (0, 0, 0, 3)))))) else (none))) else (none))) else (none)) else (some (0, 0, 0, 3)))
theorem event_ParseID.mono : ∀ a0 k, LeO (event_ParseID.f k a0) (event_ParseID.f (k + 1) a0) := by
 intro a0 k
 unfold event_ParseID.f
 repeat' (with_reducible first | exact event_number.mono _ _ | exact LeO.refl _ | exact LeO.none _ | refine LeO.ite ?_ ?_ | refine LeO.bind ?_ (fun _ => ?_))
def event_ParseID.T4 : Bool × List (List Nat × List Nat) := (true, [([], []), ([0], [0]), ([1], [1]), ([2], [2]), ([], []), ([4], [4]), ([5], [5]), ([6, 3], [6]), ([], []), ([8], [8]), ([9], [9]), ([10, 7], [10]), ([3, 7, 11], [3, 7, 11]), ([], []), ([13, 12, 11, 0, 1, 2, 3, 4, 5, 6, 7, 8, 9, 10, 11, 12, 13], [12, 13])])
def event_ParseID.B4 : List Nat := [0, 1, 3, 7, 0, 16, 48, 127, 0, 256, 768, 2047, 4095, 0, 16383]
theorem event_ParseID.tab4 : rtab .any (opsOf Tryz.f66 4) = event_ParseID.T4 := by kernel_rfl
theorem event_ParseID.bits4 : waitsOk event_ParseID.T4.2 event_ParseID.B4 = true := by kernel_rfl
set_option maxHeartbeats 8000000 in
set_option maxRecDepth 100000 in
theorem event_ParseID.calls (k : Nat) (a0 : ByteArray) (r1 : Int) (r2 : Int) (r3 : Int) (r4 : Int) (w : World) (hT : Tabs w) (h : event_ParseID.f k a0 = some (r1, r2, r3, r4)) :
  Calls Tryz.prog 66 #[.string a0] w fun e w' => e = .returned (.tuple #[.agg #[.int .i64 r1, .int .i64 r2, .int .i64 r3], .int .i64 r4]) ∧ Below w.heap.size w w' := by
 have hu25 := Tryz.underlying25
 have HB := Aside0.mk (Below.refl w.heap.size w)
 unfold event_ParseID.f at h
 have H := h
 clear h
 have HT := Aside0.mk hT
 clear hT
 replace H := Option.bind_eq_some_iff.mp H
 obtain ⟨t182, A20, H⟩ := H
 replace H : (if (t182.length : Int) = 3 then (if 0 < (t182.length : Int) then ((event_number.f k (rdOf ByteArray.empty t182 0)).bind fun t186 => (if 1 < (t182.length : Int) then ((event_number.f k (rdOf ByteArray.empty t182 1)).bind fun t188 => (if 2 < (t182.length : Int) then ((event_number.f k (rdOf ByteArray.empty t182 2)).bind fun t190 => (if a0.toList = ([] : List UInt8) then (some (0, 0, 0, 3)) else ((event_ShowID.f t186 t188 t190).bind fun t192 => (if t192.toList = a0.toList then (some (t186, t188, t190, 0)) else (some (0, 0, 0, 3)))))) else (none))) else (none))) else (none)) else (some (0, 0, 0, 3))) = some (r1, r2, r3, r4) := H
 have A2 := Aside0.mk A20
 clear A20
 revert H; refine itR ?L7p ?L7n
 case' L7p =>
  intro c3 H
  obtain ⟨c3b0, c3b1⟩ := fcE c3
  clear c3
  replace H := itN H
  obtain ⟨c4, H⟩ := H
  have c4b0 := decide_eq_true c4
  have c4b1 : decide (0 < t182.length) = true := decide_eq_true (by omega)
  clear c4
  replace H := bnA H
  obtain ⟨t186, A5, H⟩ := H
  replace H := itN H
  obtain ⟨c6, H⟩ := H
  have c6b0 := decide_eq_true c6
  have c6b1 : decide (1 < t182.length) = true := decide_eq_true (by omega)
  clear c6
  replace H := bnA H
  obtain ⟨t188, A7, H⟩ := H
  replace H := itN H
  obtain ⟨c8, H⟩ := H
  have c8b0 := decide_eq_true c8
  have c8b1 : decide (2 < t182.length) = true := decide_eq_true (by omega)
  clear c8
  replace H := bnA H
  obtain ⟨t190, A9, H⟩ := H
  revert H; refine itR ?L8p ?L8n
  case' L8p =>
   intro c10 H
   obtain ⟨c10b0, c10b1⟩ := fcE c10
   clear c10
   simp only [Option.some.injEq, Prod.mk.injEq] at H
   obtain ⟨rfl, rfl, rfl, rfl⟩ := H
   have M1 := True.intro
   have M2 := True.intro
  case' L8n =>
   intro c10 H
   obtain ⟨c10b0, c10b1⟩ := fcN c10
   replace H := bnA H
   obtain ⟨t192, A11, H⟩ := H
   revert H; refine itR ?L9p ?L9n
   case' L9p =>
    intro c12 H
    obtain ⟨c12b0, c12b1⟩ := fcE c12
    clear c12
    simp only [Option.some.injEq, Prod.mk.injEq] at H
    obtain ⟨rfl, rfl, rfl, rfl⟩ := H
    have M1 := True.intro
    have M3 := True.intro
    have M4 := True.intro
   case' L9n =>
    intro c12 H
    obtain ⟨c12b0, c12b1⟩ := fcN c12
    simp only [Option.some.injEq, Prod.mk.injEq] at H
    obtain ⟨rfl, rfl, rfl, rfl⟩ := H
    have M1 := True.intro
    have M3 := True.intro
    have M5 := True.intro
 case' L7n =>
  intro c3 H
  obtain ⟨c3b0, c3b1⟩ := fcN c3
  simp only [Option.some.injEq, Prod.mk.injEq] at H
  obtain ⟨rfl, rfl, rfl, rfl⟩ := H
  have M6 := True.intro
 all_goals
  case _ =>
   go_enter Tryz.func66, Tryz.ntmps66
   go_wp2_with (first | ((with_reducible refine gate_dst (N := 2) rfl ?_); refine boxA 2 #[.int .i64 0, .int .i64 0, .int .i64 0] 25 ?_; intro gb181 hg w101 hbox hb; have BK181 := Aside0.mk (hbox); have GW181 := Aside0.mk (hgW hg : w.heap.size ≤ gb181); have GE181 := Aside0.mk (hgW hg : w.heap.size ≤ gb181); replace HB := Aside0.mk (below_step (bwA) hb); clear hb hbox hg) | ((with_reducible refine gate_callee (f := 135) rfl ?_); refine goesA (some 7) Tryz.func135 #[.string a0, .string (⟨#[46]⟩ : ByteArray)] ?_; (with_reducible refine (strings_Split.calls _ _ _ _ ?side1 A2.out).mono ?_); (case side1 => exact Tabs.below HT.out (bwA)); rintro e w102 ⟨v183, rfl, ho0, hb⟩; refine ⟨_, rfl, ?_⟩; have HO184 := Aside0.mk (Kd.R_lower ho0 (below_size (bwA))); replace BK181 := Aside0.mk (bkB BK181 hb); replace HB := Aside0.mk (below_step (bwA) hb); (try clear hb); (try clear ho0); obtain ⟨Ao103, co103, eo103⟩ := Kd.R_slice HO184.out; subst eo103; apply stopA; (case other => exact True.intro)))
   case _ =>
    first
     | clear M1
       (try go_wp2_with (fail))
       replace HO184 := Aside0.mk (Kd.R_drew HO184.out)
       replace BK181 := Aside0.mk (blk_drew BK181.out)
       replace HB := Aside0.mk (below_drew1 HB.out)
       have p185 : 0 ≤ (0 : Int) := (by omega)
       have q185 : 0 < (t182.length : Int) := odA
       obtain ⟨ad185, e185, hx185_0⟩ := Kd.at_string (Kd.R_reads' HO184.out).2.2 0 p185 q185
       cases e185
       have qi185 : (0 < t182.length) = True := eq_true (by omega)
       (try rw [show ((0 : Int)).toNat = 0 from rfl] at hx185_0)
       (try rw [Addr.add_zero'] at hx185_0)
       replace p185 := eq_true p185
       replace q185 := eq_true q185
       have p187 : 0 ≤ (1 : Int) := (by omega)
       have q187 : 1 < (t182.length : Int) := odA
       obtain ⟨ad187, e187, hx187_0⟩ := Kd.at_string (Kd.R_reads' HO184.out).2.2 1 p187 q187
       obtain rfl : ad185 = ad187 := (by injection e187)
       (try simp only [show (1 : Int).toNat = 1 from rfl, Nat.reduceMul, Nat.reduceEqDiff, Go.Addr.add, ↓reduceIte] at hx187_0)
       have qi187 : (1 < t182.length) = True := eq_true (by omega)
       (try rw [show ((1 : Int)).toNat = 1 from rfl] at hx187_0)
       replace p187 := eq_true p187
       replace q187 := eq_true q187
       have p189 : 0 ≤ (2 : Int) := (by omega)
       have q189 : 2 < (t182.length : Int) := odA
       obtain ⟨ad189, e189, hx189_0⟩ := Kd.at_string (Kd.R_reads' HO184.out).2.2 2 p189 q189
       obtain rfl : ad185 = ad189 := (by injection e189)
       (try simp only [show (2 : Int).toNat = 2 from rfl, Nat.reduceMul, Nat.reduceEqDiff, Go.Addr.add, ↓reduceIte] at hx189_0)
       have qi189 : (2 < t182.length) = True := eq_true (by omega)
       (try rw [show ((2 : Int)).toNat = 2 from rfl] at hx189_0)
       replace p189 := eq_true p189
       replace q189 := eq_true q189
       refine start_ (n := 15) (S := fun w' => w'.cell? ad185 = some (.string (rdOf ByteArray.empty t182 0)) ∧ w'.cell? ⟨ad185.block, ad185.off + 1, none⟩ = some (.string (rdOf ByteArray.empty t182 1)) ∧ w'.cell? ⟨ad185.block, ad185.off + 2, none⟩ = some (.string (rdOf ByteArray.empty t182 2))) (ds := []) (mkB 15 0) (by kernel_rfl) rfl rfl ⟨hx185_0, hx187_0, hx189_0⟩ (fun hHeld => ?_); refine with_tabW event_ParseID.tab4 event_ParseID.bits4 (fun HT_ HW_ => ?_)
       generalize w102.drew = w104 at HO184 BK181 HB hx185_0 hx187_0 hx189_0 hHeld ⊢
       refine pureA 0 (some 12) (mkB 15 1) ?_
       refine pureA 1 (some 13) (mkB 15 3) ?_
       refine pureA 4 (some 16) (mkB 15 19) ?_
       refine pureA 5 (some 17) (mkB 15 51) ?_
       refine pureA 8 (some 20) (mkB 15 307) ?_
       refine pureA 9 (some 21) (mkB 15 819) ?_
       refine takeA 2 (some 14) (mkB 15 823) ?_ rfl (Or.inl ⟨by rfl, by rintro w' ⟨s0, s1, s2⟩; go_simp; with_reducible rfl⟩)
       refine takeA 6 (some 18) (mkB 15 887) ?_ rfl (Or.inl ⟨by rfl, by rintro w' ⟨s0, s1, s2⟩; go_simp; with_reducible rfl⟩)
       refine takeA 10 (some 22) (mkB 15 1911) ?_ rfl (Or.inl ⟨by rfl, by rintro w' ⟨s0, s1, s2⟩; go_simp; with_reducible rfl⟩)
       refine join_ (σ := Nat) 1 (mkB 15 16383) (fun s_ => [(15, .int .i64 t186), (19, .int .i64 t188), (23, .int .i64 t190), (5, .pointer (some ⟨s_, 0, none⟩)), (24, .agg #[.int .i64 t186, .int .i64 t188, .int .i64 t190])]) (fun s_ w' => (w'.cell? ad185 = some (.string (rdOf ByteArray.empty t182 0)) ∧ w'.cell? ⟨ad185.block, ad185.off + 1, none⟩ = some (.string (rdOf ByteArray.empty t182 1)) ∧ w'.cell? ⟨ad185.block, ad185.off + 2, none⟩ = some (.string (rdOf ByteArray.empty t182 2))) ∧ (Kd.R Kd.string 9 w' w.heap.size (fun _ => True) (.slice (some ad185) t182.length co103) t182) ∧ (w'.heap[gb181]? = some (.cells #[.int .i64 0, .int .i64 0, .int .i64 0] 25 (0, 0))) ∧ (w'.heap[s_]? = some (.cells #[.int .i64 0, .int .i64 0, .int .i64 0] 25 (0, 0))) ∧ (w.heap.size ≤ s_) ∧ (w.heap.size ≤ s_) ∧ (gb181 ≠ s_) ∧ (s_ ≠ gb181) ∧ (Below w.heap.size w w')) ?_ ?_
       rotate_left
       ·intro hCont
        refine two_ (i := 3) (j := 13) (Ni := some 15) (Nj := some 5) (mkB 15 1919) (mkB 15 10103) rfl rfl rfl rfl (two_of HT_.out (by kernel_rfl)) (by decide) (by decide) (fun K hK => ?_) (fun K hK => ?_)
        ·skip
         refine goesS Tryz.func136 #[.string (rdOf ByteArray.empty t182 0)] ?_
         with_reducible refine (event_number.calls _ _ _ _ A5.out).mono ?_
         rintro e w' ⟨rfl, ⟨nd, rfl⟩⟩
         refine ⟨_, rfl, ?_⟩
         refine hK.out _ _ ⟨hHeld.1, hHeld.2.1, hHeld.2.2⟩ (fun hHeld => ?_)
         clear hK K
         refine normA ?_
         refine two_ (i := 7) (j := 13) (Ni := some 19) (Nj := some 5) (mkB 15 2047) (mkB 15 10111) rfl rfl rfl rfl (two_of HT_.out (by kernel_rfl)) (by decide) (by decide) (fun K hK => ?_) (fun K hK => ?_)
         ·skip
          refine goesS Tryz.func136 #[.string (rdOf ByteArray.empty t182 1)] ?_
          with_reducible refine (event_number.calls _ _ _ _ A7.out).mono ?_
          rintro e w' ⟨rfl, ⟨nd, rfl⟩⟩
          refine ⟨_, rfl, ?_⟩
          refine hK.out _ _ ⟨hHeld.1, hHeld.2.1, hHeld.2.2⟩ (fun hHeld => ?_)
          clear hK K
          refine normA ?_
          refine two_ (i := 11) (j := 13) (Ni := some 23) (Nj := some 5) (mkB 15 4095) (mkB 15 10239) rfl rfl rfl rfl (two_of HT_.out (by kernel_rfl)) (by decide) (by decide) (fun K hK => ?_) (fun K hK => ?_)
          ·skip
           refine goesS Tryz.func136 #[.string (rdOf ByteArray.empty t182 2)] ?_
           with_reducible refine (event_number.calls _ _ _ _ A9.out).mono ?_
           rintro e w' ⟨rfl, ⟨nd, rfl⟩⟩
           refine ⟨_, rfl, ?_⟩
           refine hK.out _ _ ⟨hHeld.1, hHeld.2.1, hHeld.2.2⟩ (fun hHeld => ?_)
           clear hK K
           refine normA ?_
           refine pureA 12 (some 24) (mkB 15 8191) ?_
           refine oneA 13 (some 5) (mkB 15 16383) (fun K hK => ?_)
           refine boxS 5 #[.int .i64 0, .int .i64 0, .int .i64 0] 25 ?_
           intro gb191 hg w105 hbox hb
           have HS0_ := hbC hHeld.1 hb
           have HS1_ := hbC hHeld.2.1 hb
           have HS2_ := hbC hHeld.2.2 hb
           have BK191 := Aside0.mk (hbox)
           have GW191 := Aside0.mk (hgW hg : w.heap.size ≤ gb191)
           have GE191 := Aside0.mk (hgW hg : w.heap.size ≤ gb191)
           have NB181_191 := Aside0.mk (hgL hg BK181 : gb181 ≠ gb191)
           have NB191_181 := Aside0.mk (hgG hg BK181 : gb191 ≠ gb181)
           replace HO184 := Aside0.mk (Kd.R_below (raA HO184.out) hb)
           replace BK181 := Aside0.mk (bkB BK181 hb)
           replace HB := Aside0.mk (below_step (bwA) hb)
           clear hb hbox hg
           refine hK.out _ _ ⟨HS0_, HS1_, HS2_⟩ (fun hHeld => ?_)
           clear hK K
           refine normA ?_
           exact norm_ (by first | (simp only [putAll, Act.put, List.setIfInBounds_toArray, List.set_cons_zero, List.set_cons_succ]; done) | rfl) (hCont (gb191) _ ⟨hHeld, (raA HO184.out), blkA, blkA, GW191.out, GE191.out, NB181_191.out, NB191_181.out, (bwA)⟩)
          ·skip
           refine boxS 5 #[.int .i64 0, .int .i64 0, .int .i64 0] 25 ?_
           intro gb191 hg w105 hbox hb
           have HS0_ := hbC hHeld.1 hb
           have HS1_ := hbC hHeld.2.1 hb
           have HS2_ := hbC hHeld.2.2 hb
           have BK191 := Aside0.mk (hbox)
           have GW191 := Aside0.mk (hgW hg : w.heap.size ≤ gb191)
           have GE191 := Aside0.mk (hgW hg : w.heap.size ≤ gb191)
           have NB181_191 := Aside0.mk (hgL hg BK181 : gb181 ≠ gb191)
           have NB191_181 := Aside0.mk (hgG hg BK181 : gb191 ≠ gb181)
           replace HO184 := Aside0.mk (Kd.R_below (raA HO184.out) hb)
           replace BK181 := Aside0.mk (bkB BK181 hb)
           replace HB := Aside0.mk (below_step (bwA) hb)
           clear hb hbox hg
           refine hK.out _ _ ⟨HS0_, HS1_, HS2_⟩ (fun hHeld => ?_)
           clear hK K
           refine normA ?_
           refine oneA 11 (some 23) (mkB 15 12287) (fun K hK => ?_)
           refine goesS Tryz.func136 #[.string (rdOf ByteArray.empty t182 2)] ?_
           with_reducible refine (event_number.calls _ _ _ _ A9.out).mono ?_
           rintro e w' ⟨rfl, ⟨nd, rfl⟩⟩
           refine ⟨_, rfl, ?_⟩
           refine hK.out _ _ ⟨hHeld.1, hHeld.2.1, hHeld.2.2⟩ (fun hHeld => ?_)
           clear hK K
           refine normA ?_
           refine pureA 12 (some 24) (mkB 15 16383) ?_
           exact norm_ (by first | (simp only [putAll, Act.put, List.setIfInBounds_toArray, List.set_cons_zero, List.set_cons_succ]; done) | rfl) (hCont (gb191) _ ⟨hHeld, (raA HO184.out), blkA, blkA, GW191.out, GE191.out, NB181_191.out, NB191_181.out, (bwA)⟩)
         ·skip
          refine boxS 5 #[.int .i64 0, .int .i64 0, .int .i64 0] 25 ?_
          intro gb191 hg w105 hbox hb
          have HS0_ := hbC hHeld.1 hb
          have HS1_ := hbC hHeld.2.1 hb
          have HS2_ := hbC hHeld.2.2 hb
          have BK191 := Aside0.mk (hbox)
          have GW191 := Aside0.mk (hgW hg : w.heap.size ≤ gb191)
          have GE191 := Aside0.mk (hgW hg : w.heap.size ≤ gb191)
          have NB181_191 := Aside0.mk (hgL hg BK181 : gb181 ≠ gb191)
          have NB191_181 := Aside0.mk (hgG hg BK181 : gb191 ≠ gb181)
          replace HO184 := Aside0.mk (Kd.R_below (raA HO184.out) hb)
          replace BK181 := Aside0.mk (bkB BK181 hb)
          replace HB := Aside0.mk (below_step (bwA) hb)
          clear hb hbox hg
          refine hK.out _ _ ⟨HS0_, HS1_, HS2_⟩ (fun hHeld => ?_)
          clear hK K
          refine normA ?_
          refine oneA 7 (some 19) (mkB 15 10239) (fun K hK => ?_)
          refine goesS Tryz.func136 #[.string (rdOf ByteArray.empty t182 1)] ?_
          with_reducible refine (event_number.calls _ _ _ _ A7.out).mono ?_
          rintro e w' ⟨rfl, ⟨nd, rfl⟩⟩
          refine ⟨_, rfl, ?_⟩
          refine hK.out _ _ ⟨hHeld.1, hHeld.2.1, hHeld.2.2⟩ (fun hHeld => ?_)
          clear hK K
          refine normA ?_
          refine oneA 11 (some 23) (mkB 15 12287) (fun K hK => ?_)
          refine goesS Tryz.func136 #[.string (rdOf ByteArray.empty t182 2)] ?_
          with_reducible refine (event_number.calls _ _ _ _ A9.out).mono ?_
          rintro e w' ⟨rfl, ⟨nd, rfl⟩⟩
          refine ⟨_, rfl, ?_⟩
          refine hK.out _ _ ⟨hHeld.1, hHeld.2.1, hHeld.2.2⟩ (fun hHeld => ?_)
          clear hK K
          refine normA ?_
          refine pureA 12 (some 24) (mkB 15 16383) ?_
          exact norm_ (by first | (simp only [putAll, Act.put, List.setIfInBounds_toArray, List.set_cons_zero, List.set_cons_succ]; done) | rfl) (hCont (gb191) _ ⟨hHeld, (raA HO184.out), blkA, blkA, GW191.out, GE191.out, NB181_191.out, NB191_181.out, (bwA)⟩)
        ·skip
         refine boxS 5 #[.int .i64 0, .int .i64 0, .int .i64 0] 25 ?_
         intro gb191 hg w105 hbox hb
         have HS0_ := hbC hHeld.1 hb
         have HS1_ := hbC hHeld.2.1 hb
         have HS2_ := hbC hHeld.2.2 hb
         have BK191 := Aside0.mk (hbox)
         have GW191 := Aside0.mk (hgW hg : w.heap.size ≤ gb191)
         have GE191 := Aside0.mk (hgW hg : w.heap.size ≤ gb191)
         have NB181_191 := Aside0.mk (hgL hg BK181 : gb181 ≠ gb191)
         have NB191_181 := Aside0.mk (hgG hg BK181 : gb191 ≠ gb181)
         replace HO184 := Aside0.mk (Kd.R_below (raA HO184.out) hb)
         replace BK181 := Aside0.mk (bkB BK181 hb)
         replace HB := Aside0.mk (below_step (bwA) hb)
         clear hb hbox hg
         refine hK.out _ _ ⟨HS0_, HS1_, HS2_⟩ (fun hHeld => ?_)
         clear hK K
         refine normA ?_
         refine oneA 3 (some 15) (mkB 15 10111) (fun K hK => ?_)
         refine goesS Tryz.func136 #[.string (rdOf ByteArray.empty t182 0)] ?_
         with_reducible refine (event_number.calls _ _ _ _ A5.out).mono ?_
         rintro e w' ⟨rfl, ⟨nd, rfl⟩⟩
         refine ⟨_, rfl, ?_⟩
         refine hK.out _ _ ⟨hHeld.1, hHeld.2.1, hHeld.2.2⟩ (fun hHeld => ?_)
         clear hK K
         refine normA ?_
         refine oneA 7 (some 19) (mkB 15 10239) (fun K hK => ?_)
         refine goesS Tryz.func136 #[.string (rdOf ByteArray.empty t182 1)] ?_
         with_reducible refine (event_number.calls _ _ _ _ A7.out).mono ?_
         rintro e w' ⟨rfl, ⟨nd, rfl⟩⟩
         refine ⟨_, rfl, ?_⟩
         refine hK.out _ _ ⟨hHeld.1, hHeld.2.1, hHeld.2.2⟩ (fun hHeld => ?_)
         clear hK K
         refine normA ?_
         refine oneA 11 (some 23) (mkB 15 12287) (fun K hK => ?_)
         refine goesS Tryz.func136 #[.string (rdOf ByteArray.empty t182 2)] ?_
         with_reducible refine (event_number.calls _ _ _ _ A9.out).mono ?_
         rintro e w' ⟨rfl, ⟨nd, rfl⟩⟩
         refine ⟨_, rfl, ?_⟩
         refine hK.out _ _ ⟨hHeld.1, hHeld.2.1, hHeld.2.2⟩ (fun hHeld => ?_)
         clear hK K
         refine normA ?_
         refine pureA 12 (some 24) (mkB 15 16383) ?_
         exact norm_ (by first | (simp only [putAll, Act.put, List.setIfInBounds_toArray, List.set_cons_zero, List.set_cons_succ]; done) | rfl) (hCont (gb191) _ ⟨hHeld, (raA HO184.out), blkA, blkA, GW191.out, GE191.out, NB181_191.out, NB191_181.out, (bwA)⟩)
       rintro gb191 w106 ⟨hS_, h0_, h1_, h2_, h3_, h4_, h5_, h6_, h7_⟩
       have n0_ : Aside0 (Kd.R Kd.string 9 w106 w.heap.size (fun _ => True) (.slice (some ad185) t182.length co103) t182) := ⟨h0_⟩
       have n1_ : Aside0 (w106.heap[gb181]? = some (.cells #[.int .i64 0, .int .i64 0, .int .i64 0] 25 (0, 0))) := ⟨h1_⟩
       have n2_ : Aside0 (w106.heap[gb191]? = some (.cells #[.int .i64 0, .int .i64 0, .int .i64 0] 25 (0, 0))) := ⟨h2_⟩
       have n3_ : Aside0 (w.heap.size ≤ gb191) := ⟨h3_⟩
       have n4_ : Aside0 (w.heap.size ≤ gb191) := ⟨h4_⟩
       have n5_ : Aside0 (gb181 ≠ gb191) := ⟨h5_⟩
       have n6_ : Aside0 (gb191 ≠ gb181) := ⟨h6_⟩
       have n7_ : Aside0 (Below w.heap.size w w106) := ⟨h7_⟩
       clear HO184
       clear BK181
       clear HB
       clear h0_ h1_ h2_ h3_ h4_ h5_ h6_ h7_
       have HO184 := n0_
       have BK181 := n1_
       have BK191 := n2_
       have GW191 := n3_
       have GE191 := n4_
       have NB181_191 := n5_
       have NB191_181 := n6_
       have HB := n7_
       clear n0_ n1_ n2_ n3_ n4_ n5_ n6_ n7_
       have hHeld : w106.cell? ad185 = some (.string (rdOf ByteArray.empty t182 0)) ∧ w106.cell? ⟨ad185.block, ad185.off + 1, none⟩ = some (.string (rdOf ByteArray.empty t182 1)) ∧ w106.cell? ⟨ad185.block, ad185.off + 2, none⟩ = some (.string (rdOf ByteArray.empty t182 2)) := hS_
       refine norm_ (a' := ?_) ?_ ?_
       rotate_left
       ·simp only [putAll, Act.put, List.setIfInBounds_toArray, List.set_cons_zero, List.set_cons_succ]
        rfl
       refine oneA 14 (none) (mkB 15 32767) (fun K hK => ?_)
       have hs107 : w106.cell? ⟨gb191, 0, none⟩ = some (.int .i64 0) := (blk_cell BK191.out 0).trans rfl
       have hfs107 := blk_frozen BK191.out 0
       have hns107_0 := NB181_191.out
       have hms107_0 := NB191_181.out
       have hs108 : w106.cell? ⟨gb191, 1, none⟩ = some (.int .i64 0) := (blk_cell BK191.out 1).trans rfl
       have hfs108 := blk_frozen BK191.out 1
       have hns108_0 := NB181_191.out
       have hms108_0 := NB191_181.out
       have hs109 : w106.cell? ⟨gb191, 2, none⟩ = some (.int .i64 0) := (blk_cell BK191.out 2).trans rfl
       have hfs109 := blk_frozen BK191.out 2
       have hns109_0 := NB181_191.out
       have hms109_0 := NB191_181.out
       refine skip_ (w1 := ?_) (by rfl) rfl ?_ ?_
       rotate_left
       ·go_simp
        rfl
       have nz0_ := Aside0.mk (Kd.own_blk (Kd.R_ne HO184.out BK191.out (by decide)))
       refine hK.out _ _ ⟨far3 nz0_.out hHeld.1, far3 nz0_.out hHeld.2.1, far3 nz0_.out hHeld.2.2⟩ (fun hHeld => ?_)
       clear hK K
       refine done_ (done_of HT_.out (by kernel_rfl)) ?_
       first
        | clear M2
          have hnb110 := NB181_191.out
          have hnc110 := NB191_181.out
          have hcz111_0 := celA BK181.out 0 (.int .i64 0)
          have hcz111_1 := celA BK181.out 1 (.int .i64 0)
          have hcz111_2 := celA BK181.out 2 (.int .i64 0)
          have hfz111_0 := blk_frozen BK181.out 0
          have hfz111_1 := blk_frozen BK181.out 1
          have hfz111_2 := blk_frozen BK181.out 2
          try go_wp2
          refine bodyPost_ret (results_ct rfl _ _ gb181 25 #[.int .i64 0, .int .i64 0, .int .i64 0] (0, 0) _ rfl (by refine blkP (cs := #[.int .i64 0, .int .i64 0, .int .i64 0]) ?_ 2 _; refine blkP (cs := #[.int .i64 0, .int .i64 0, .int .i64 0]) ?_ 1 _; refine blkP (cs := #[.int .i64 0, .int .i64 0, .int .i64 0]) ?_ 0 _; (with_reducible repeat (first | refine blk_drewN ?_ _ | refine blk_drew ?_ | refine blk_alloc ?_ _)); refine blk_far ?_ NB181_191.out _; (with_reducible repeat (first | refine blk_drewN ?_ _ | refine blk_drew ?_ | refine blk_alloc ?_ _)); refine blk_far ?_ NB181_191.out _; (with_reducible repeat (first | refine blk_drewN ?_ _ | refine blk_drew ?_ | refine blk_alloc ?_ _)); refine blk_far ?_ NB181_191.out _; (with_reducible repeat (first | refine blk_drewN ?_ _ | refine blk_drew ?_ | refine blk_alloc ?_ _)); exact BK181.out) Tryz.underlying25 rfl (by kernel_rfl)) rfl ?_
          exact ⟨endA, bwA⟩
        | clear M3
          have hnb110 := NB191_181.out
          have hnc110 := NB181_191.out
          have hcz111_0 := celA BK191.out 0 (.int .i64 0)
          have hcz111_1 := celA BK191.out 1 (.int .i64 0)
          have hcz111_2 := celA BK191.out 2 (.int .i64 0)
          have hfz111_0 := blk_frozen BK191.out 0
          have hfz111_1 := blk_frozen BK191.out 1
          have hfz111_2 := blk_frozen BK191.out 2
          go_wp2_with (first | (go_at_call 56; (with_reducible refine (event_ShowID.calls _ _ _ _ _ ?side1 A11.out).mono ?_); (case side1 => exact Tabs.below HT.out (bwA)); rintro e w112 ⟨rfl, hb⟩; replace HO184 := Aside0.mk (Kd.R_below (raA (Kd.R_mono (Kd.R_far (p := ⟨gb191, 2, none⟩) (Kd.R_far (p := ⟨gb191, 1, none⟩) (Kd.R_far (p := ⟨gb191, 0, none⟩) (Kd.R_types HO184.out BK191.out (by decide)) (fun _ hk => hk.2) (.int .i64 t186)) (fun _ hk => hk.2) (.int .i64 t188)) (fun _ hk => hk.2) (.int .i64 t190)) (fun _ h_ => h_.1))) hb); replace BK181 := Aside0.mk (blk_below (g := gb181) (o := .cells #[.int .i64 0, .int .i64 0, .int .i64 0] 25 (0, 0)) (by (with_reducible repeat (first | refine blk_drewN ?_ _ | refine blk_drew ?_ | refine blk_alloc ?_ _)); refine blk_far ?_ NB181_191.out _; (with_reducible repeat (first | refine blk_drewN ?_ _ | refine blk_drew ?_ | refine blk_alloc ?_ _)); refine blk_far ?_ NB181_191.out _; (with_reducible repeat (first | refine blk_drewN ?_ _ | refine blk_drew ?_ | refine blk_alloc ?_ _)); refine blk_far ?_ NB181_191.out _; (with_reducible repeat (first | refine blk_drewN ?_ _ | refine blk_drew ?_ | refine blk_alloc ?_ _)); exact BK181.out) hb); replace BK191 := Aside0.mk (blk_below (g := gb191) (o := .cells #[.int .i64 t186, .int .i64 t188, .int .i64 t190] 25 (0, 0)) (by refine blkP (cs := #[.int .i64 t186, .int .i64 t188, .int .i64 0]) ?_ 2 _; refine blkP (cs := #[.int .i64 t186, .int .i64 0, .int .i64 0]) ?_ 1 _; refine blkP (cs := #[.int .i64 0, .int .i64 0, .int .i64 0]) ?_ 0 _; (with_reducible repeat (first | refine blk_drewN ?_ _ | refine blk_drew ?_ | refine blk_alloc ?_ _)); exact BK191.out) hb); replace HB := Aside0.mk (below_step (bwA) hb); (try clear hb); apply stopA; (case other => exact True.intro)))
          case _ =>
           first
            | clear M4
              have hcz113_0 := celA BK191.out 0 (.int .i64 t186)
              have hcz113_1 := celA BK191.out 1 (.int .i64 t188)
              have hcz113_2 := celA BK191.out 2 (.int .i64 t190)
              have hfz113_0 := blk_frozen BK191.out 0
              have hfz113_1 := blk_frozen BK191.out 1
              have hfz113_2 := blk_frozen BK191.out 2
              have hcz114_0 := celA BK181.out 0 (.int .i64 0)
              have hcz114_1 := celA BK181.out 1 (.int .i64 0)
              have hcz114_2 := celA BK181.out 2 (.int .i64 0)
              have hfz114_0 := blk_frozen BK181.out 0
              have hfz114_1 := blk_frozen BK181.out 1
              have hfz114_2 := blk_frozen BK181.out 2
              (try go_wp2_with (fail))
              refine bodyPost_ret (results_ct rfl _ _ gb181 25 #[.int .i64 t186, .int .i64 t188, .int .i64 t190] (0, 0) _ rfl (by refine blkP (cs := #[.int .i64 t186, .int .i64 t188, .int .i64 0]) ?_ 2 _; refine blkP (cs := #[.int .i64 t186, .int .i64 0, .int .i64 0]) ?_ 1 _; refine blkP (cs := #[.int .i64 0, .int .i64 0, .int .i64 0]) ?_ 0 _; (with_reducible repeat (first | refine blk_drewN ?_ _ | refine blk_drew ?_ | refine blk_alloc ?_ _)); exact BK181.out) Tryz.underlying25 rfl (by kernel_rfl)) rfl ?_
              exact ⟨endA, bwA⟩
            | clear M5
              have hcz113_0 := celA BK181.out 0 (.int .i64 0)
              have hcz113_1 := celA BK181.out 1 (.int .i64 0)
              have hcz113_2 := celA BK181.out 2 (.int .i64 0)
              have hfz113_0 := blk_frozen BK181.out 0
              have hfz113_1 := blk_frozen BK181.out 1
              have hfz113_2 := blk_frozen BK181.out 2
              (try go_wp2_with (fail))
              refine bodyPost_ret (results_ct rfl _ _ gb181 25 #[.int .i64 0, .int .i64 0, .int .i64 0] (0, 0) _ rfl (by refine blkP (cs := #[.int .i64 0, .int .i64 0, .int .i64 0]) ?_ 2 _; refine blkP (cs := #[.int .i64 0, .int .i64 0, .int .i64 0]) ?_ 1 _; refine blkP (cs := #[.int .i64 0, .int .i64 0, .int .i64 0]) ?_ 0 _; (with_reducible repeat (first | refine blk_drewN ?_ _ | refine blk_drew ?_ | refine blk_alloc ?_ _)); exact BK181.out) Tryz.underlying25 rfl (by kernel_rfl)) rfl ?_
              exact ⟨endA, bwA⟩
     | clear M6
       have hcz104_0 := celA BK181.out 0 (.int .i64 0)
       have hcz104_1 := celA BK181.out 1 (.int .i64 0)
       have hcz104_2 := celA BK181.out 2 (.int .i64 0)
       have hfz104_0 := blk_frozen BK181.out 0
       have hfz104_1 := blk_frozen BK181.out 1
       have hfz104_2 := blk_frozen BK181.out 2
       (try go_wp2_with (fail))
       refine bodyPost_ret (results_ct rfl _ _ gb181 25 #[.int .i64 0, .int .i64 0, .int .i64 0] (0, 0) _ rfl (by refine blkP (cs := #[.int .i64 0, .int .i64 0, .int .i64 0]) ?_ 2 _; refine blkP (cs := #[.int .i64 0, .int .i64 0, .int .i64 0]) ?_ 1 _; refine blkP (cs := #[.int .i64 0, .int .i64 0, .int .i64 0]) ?_ 0 _; (with_reducible repeat (first | refine blk_drewN ?_ _ | refine blk_drew ?_ | refine blk_alloc ?_ _)); exact BK181.out) Tryz.underlying25 rfl (by kernel_rfl)) rfl ?_
       exact ⟨endA, bwA⟩
end Go.Proofs.YtkdndabpaajkaaaGreatDoor.A
