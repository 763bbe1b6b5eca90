import Derived.Test.YtkdndabpaajkaaaGreatDoorAx0
import Derived.Test.YtkdndabpaajkaaaGreatDoorAx6
import Derived.Test.YtkdndabpaajkaaaGreatDoorAx7
namespace Go.Proofs.YtkdndabpaajkaaaGreatDoor.A
open Go.RowKit Go.Proofs.YtkdndabpaajkaaaGreatDoorW.PrintWords Go.Proofs.YtkdndabpaajkaaaGreatDoorW.PrintLast Go.Proofs.YtkdndabpaajkaaaGreatDoorW.PrintMore
attribute [local go_sem] max2_int min2_int max_two min_two max_three min_three max_four min_four   -- for this text's walks alone
set_option linter.unusedVariables false
set_option linter.unusedSimpArgs false
set_option maxHeartbeats 8000000
set_option maxRecDepth 100000
def schema_Attrs.l0 : Nat → List (S76) → List (S76) → Int → Int → Option (Bool)
 | 0, _, _, _, _ => none
 | k + 1, x0, x5, x6, x7 => if x7 < x6 then (if 0 ≤ x7 then (if x7 < (x5.length : Int) then ((schema_simple.f k ((rd_T76 x5 x7).f0)).bind fun t144 => (if t144 = true then ((value_Check.f ((rd_T76 x5 x7).f1.f0) ((rd_T76 x5 x7).f1.f1) ((rd_T76 x5 x7).f1.f2)).bind fun t145 => (if t145 = true then (if x7 > 0 then (if 0 ≤ (wrap64 (x7 - 1)) then (if (wrap64 (x7 - 1)) < (x0.length : Int) then ((name_Compare.f k ((rd_T76 x0 (wrap64 (x7 - 1))).f0) ((rd_T76 x5 x7).f0)).bind fun t147 => (if t147 ≥ 0 then (some false) else (schema_Attrs.l0 k x0 x5 x6 (wrap64 (x7 + 1))))) else (none)) else (none)) else (schema_Attrs.l0 k x0 x5 x6 (wrap64 (x7 + 1)))) else (some false))) else (some false))) else (none)) else (none)) else (some (decide ((x0.length : Int) ≤ 24)))
def schema_Attrs.f (k : Nat) (l0 : List (S76)) : Option (Bool) := schema_Attrs.l0 k l0 l0 (l0.length : Int) 0
theorem schema_Attrs.mono_l : ∀ k, (∀ y0 y1 y2 y3, LeO (schema_Attrs.l0 k y0 y1 y2 y3) (schema_Attrs.l0 (k + 1) y0 y1 y2 y3))
 | 0 => fun _ _ _ _ r h => by simp [schema_Attrs.l0] at h
 | k + 1 => by
  have ih0 := schema_Attrs.mono_l k
  ·intro y0 y1 y2 y3
   unfold schema_Attrs.l0
   repeat' (with_reducible first | exact ih0 _ _ _ _ | exact name_Compare.mono _ _ _ | exact schema_simple.mono _ _ | exact LeO.refl _ | exact LeO.none _ | refine LeO.ite ?_ ?_ | refine LeO.bind ?_ (fun _ => ?_))
theorem schema_Attrs.mono : ∀ a0 k, LeO (schema_Attrs.f k a0) (schema_Attrs.f (k + 1) a0) := by
 intro a0 k; have ih0 := schema_Attrs.mono_l k; unfold schema_Attrs.f
 repeat' (with_reducible first | exact ih0 _ _ _ _ | exact name_Compare.mono _ _ _ | exact schema_simple.mono _ _ | exact LeO.refl _ | exact LeO.none _ | refine LeO.ite ?_ ?_ | refine LeO.bind ?_ (fun _ => ?_))
def schema_Attrs.T4 : Bool × List (List Nat × List Nat) := (true, [([], []), ([0], [0]), ([1], [1]), ([2], [2]), ([3, 2], [3]), ([4], [4]), ([5, 4], [4, 5]), ([6, 4, 4], [4, 6]), ([7, 4], [4, 7]), ([4, 8], [4, 8]), ([9, 7], [9]), ([10], [10]), ([11, 10], [10, 11]), ([12, 10, 10], [10, 12]), ([13], [13]), ([13], [13]), ([15, 13], [13, 15]), ([14, 16, 13], [13, 14, 16]), ([17, 13], [13, 17]), ([18, 13], [13, 18]), ([13], [13]), ([20, 13], [13, 20]), ([19, 21, 13, 13], [13, 19, 21]), ([22, 13], [13, 22]), ([13, 23, 10], [10, 13, 23]), ([10, 24], [10, 24])])
def schema_Attrs.B4 : List Nat := [0, 1, 3, 7, 15, 31, 63, 127, 255, 511, 1023, 2047, 4095, 8191, 16383, 16383, 49151, 131071, 262143, 524287, 16383, 1064959, 4194303, 8388607, 16777215, 33554431]
theorem schema_Attrs.tab4 : rtab .any (opsOf Tryz.f111 4) = schema_Attrs.T4 := by kernel_rfl
theorem schema_Attrs.bits4 : waitsOk schema_Attrs.T4.2 schema_Attrs.B4 = true := by kernel_rfl
theorem schema_Attrs.calls (k : Nat) (A0 : Option Addr) (c0 : Nat) (l0 : List (S76)) (r : Bool) (w : World) (hr0 : Kd.C k76 w A0 l0.length l0) (hc0 : l0.length ≤ c0) (hT : Tabs w) (h : schema_Attrs.f k l0 = some r) :
  Calls Tryz.prog 111 #[.slice A0 l0.length c0] w fun e w' => e = .returned (.bool r) ∧ Below w.heap.size w w' := by
 have hu76 := Tryz.underlying76; have hu74 := Tryz.underlying74; have HR0 := aM hr0; have HC0 := aM hc0; clear hr0 hc0; have HB := aM (Below.refl w.heap.size w); unfold schema_Attrs.f at h; have H := h; clear h; have HT := aM hT; clear hT; have H' := aM H; clear H; go_enter Tryz.func111, Tryz.ntmps111; go_wp2
 go_loopg [7] k (fun kq v7 w' => ∃ (x7_1 : Int), v7 = .int .i64 x7_1 ∧ Aside0 (schema_Attrs.l0 kq l0 l0 (l0.length : Int) x7_1 = some r) ∧ Aside0 (kq ≤ k) ∧ Aside0 (Below w.heap.size w w'))
 case atStart => exact ⟨(0), (endS), H', ⟨Nat.le_refl _⟩, ⟨bwA⟩⟩
 case round =>
  clear H'; (try clear c1); (try clear p2); (try clear c11); obtain ⟨x7_1, rfl, HA, HK1, HB⟩ := hrel
  cases gk with
  | zero => exact absurd HA.out (by simp [schema_Attrs.l0])
  | succ k1 =>
   have H := HA.out; clear HA; simp only [schema_Attrs.l0] at H; revert H; refine itR ?L9p ?L9n
   case' L9p =>
    intro c101 H; have c101b0 := dT c101; clear c101; replace H := itN H; obtain ⟨c102, H⟩ := H; have c102b0 := dT c102; clear c102; replace H := itN H; obtain ⟨c103, H⟩ := H; have c103b0 := dT c103; clear c103; replace H := bnA H; obtain ⟨t144, A104, H⟩ := H; revert H; refine itR ?L10p ?L10n
    case' L10p =>
     intro c105 H; subst c105; replace H := bnA H; obtain ⟨t145, A106, H⟩ := H; revert H; refine itR ?L11p ?L11n
     case' L11p =>
      intro c107 H; subst c107; revert H; refine itR ?L12p ?L12n
      case' L12p =>
       intro c108 H; have c108b0 := gtT c108; clear c108; obtain ⟨ji109, hji109⟩ : ∃ j_ : Int, (wrap64 (x7_1 - 1)) = j_ := ⟨_, rfl⟩; replace H : (if 0 ≤ (ji109) then (if (ji109) < (l0.length : Int) then ((name_Compare.f k1 ((rd_T76 l0 (ji109)).f0) ((rd_T76 l0 x7_1).f0)).bind fun t147 => (if t147 ≥ 0 then (some false) else (schema_Attrs.l0 k1 l0 l0 (l0.length : Int) (wrap64 (x7_1 + 1))))) else (none)) else (none)) = some r := by first | (rw [hji109] at H; exact H) | (simp only [hji109] at H ⊢; exact H)
       (try rw [hji109] at A104)
       (try rw [hji109] at A106)
       have hji109w : (IntKind.i64.wrap (x7_1 - 1)) = ji109 := (i64_w _).trans hji109; replace H := itN H; obtain ⟨c110, H⟩ := H; have c110b0 := dT c110; clear c110; replace H := itN H; obtain ⟨c111, H⟩ := H; have c111b0 := dT c111; clear c111; replace H := bnA H; obtain ⟨t147, A112, H⟩ := H; revert H; refine itR ?L13p ?L13n
       case' L13p =>
        intro c113 H; have c113b0 := geT c113; clear c113; obtain rfl := sI H; have M1 := trivial; have M2 := trivial
       case' L13n =>
        intro c113 H; have c113b0 := geF c113; clear c113; have H' := aM H; clear H; have M1 := trivial; have M3 := trivial
      case' L12n =>
       intro c108 H; have c108b0 := gtF c108; clear c108; have H' := aM H; clear H; have M4 := trivial; have M5 := trivial; have M6 := trivial
     case' L11n =>
      intro c107 H; replace c107 := Bool.eq_false_iff.mpr c107; subst c107; obtain rfl := sI H; have M4 := trivial; have M5 := trivial; have M7 := trivial
    case' L10n =>
     intro c105 H; replace c105 := Bool.eq_false_iff.mpr c105; subst c105; obtain rfl := sI H; have M4 := trivial; have M8 := trivial
   case' L9n =>
    intro c101 H; have c101b0 := dF c101; clear c101; obtain rfl := sI H; go_wp2; go_ret; exact ⟨endA, bwA⟩
   all_goals
    case _ =>
     have p142 : 0 ≤ (x7_1 : Int) := odA; have q142 : x7_1 < (l0.length : Int) := odA; obtain ⟨ad142, e142, hx142_0, hx142_1, hx142_2, hx142_3⟩ := at_T76 HR0.out x7_1 p142 q142
     cases e142
     replace hx142_0 := crA hx142_0; replace hx142_1 := crA hx142_1; replace hx142_2 := crA hx142_2; replace hx142_3 := crA hx142_3; replace p142 := eq_true p142; replace q142 := eq_true q142; (try go_wp2_with (first | ((with_reducible refine gate_dst (N := 4) rfl ?_); refine boxB 4 #[.string (⟨#[]⟩ : ByteArray), .int .i64 0, .int .i64 0, .string (⟨#[]⟩ : ByteArray)] 76 HB ?_; clear HB; intro gb143 w201 BK143 GW143 GE143 HB; obtain ⟨hcz202_0, hcz202_1, hcz202_2, hcz202_3⟩ := cel4 BK143.out; obtain ⟨hfz202_0, hfz202_1, hfz202_2, hfz202_3⟩ := frz4 BK143.out))); have n0_ : Aside0 (((((w201.setCell ⟨gb143, 0, none⟩ (.string ((rd_T76 l0 x7_1).f0))).setCell ⟨gb143, 1, none⟩ (.int .i64 ((rd_T76 l0 x7_1).f1.f0))).setCell ⟨gb143, 2, none⟩ (.int .i64 ((rd_T76 l0 x7_1).f1.f1))).setCell ⟨gb143, 3, none⟩ (.string ((rd_T76 l0 x7_1).f1.f2))).heap[gb143]? = some (.cells #[.string ((rd_T76 l0 x7_1).f0), .int .i64 ((rd_T76 l0 x7_1).f1.f0), .int .i64 ((rd_T76 l0 x7_1).f1.f1), .string ((rd_T76 l0 x7_1).f1.f2)] 76 (0, 0))) := ⟨blkZ⟩; have n1_ : Aside0 (Below w.heap.size w ((((w201.setCell ⟨gb143, 0, none⟩ (.string ((rd_T76 l0 x7_1).f0))).setCell ⟨gb143, 1, none⟩ (.int .i64 ((rd_T76 l0 x7_1).f1.f0))).setCell ⟨gb143, 2, none⟩ (.int .i64 ((rd_T76 l0 x7_1).f1.f1))).setCell ⟨gb143, 3, none⟩ (.string ((rd_T76 l0 x7_1).f1.f2)))) := ⟨bwA⟩
     (try clear BK143)
     (try clear HB)
     generalize ((((w201.setCell ⟨gb143, 0, none⟩ (.string ((rd_T76 l0 x7_1).f0))).setCell ⟨gb143, 1, none⟩ (.int .i64 ((rd_T76 l0 x7_1).f1.f0))).setCell ⟨gb143, 2, none⟩ (.int .i64 ((rd_T76 l0 x7_1).f1.f1))).setCell ⟨gb143, 3, none⟩ (.string ((rd_T76 l0 x7_1).f1.f2))) = w203 at n0_ n1_ ⊢
     have BK143 := n0_; have HB := n1_; clear n0_ n1_; replace BK143 := aM (blk_drew BK143.out); replace HB := aM (below_drew1 HB.out)
     first
      | clear M1
        have p146 : 0 ≤ ((ji109) : Int) := odA; have q146 : (ji109) < (l0.length : Int) := odA; obtain ⟨ad146, e146, hx146_0, hx146_1, hx146_2, hx146_3⟩ := at_T76 HR0.out (ji109) p146 q146; have hw146_3 := hx146_3; have hw146_2 := hx146_2; have hw146_1 := hx146_1; have hw146_0 := hx146_0; obtain rfl : ad142 = ad146 := (by injection e146); replace hx146_0 := crA hx146_0; replace hx146_1 := crA hx146_1; replace hx146_2 := crA hx146_2; replace hx146_3 := crA hx146_3; replace p146 := eq_true p146; replace q146 := eq_true q146; refine start_ (n := 26) (S := fun w' => w'.cell? ⟨gb143, 0, none⟩ = some (.string ((rd_T76 l0 x7_1).f0)) ∧ w'.cell? ⟨gb143, 1, none⟩ = some (.int .i64 ((rd_T76 l0 x7_1).f1.f0)) ∧ w'.cell? ⟨gb143, 2, none⟩ = some (.int .i64 ((rd_T76 l0 x7_1).f1.f1)) ∧ w'.cell? ⟨gb143, 3, none⟩ = some (.string ((rd_T76 l0 x7_1).f1.f2)) ∧ w'.cell? (ad142.add (((ji109)).toNat * 4)) = some (.string ((rd_T76 l0 (ji109)).f0)) ∧ w'.cell? ⟨(ad142.add (((ji109)).toNat * 4)).block, (ad142.add (((ji109)).toNat * 4)).off + 1, none⟩ = some (.int .i64 ((rd_T76 l0 (ji109)).f1.f0)) ∧ w'.cell? ⟨(ad142.add (((ji109)).toNat * 4)).block, (ad142.add (((ji109)).toNat * 4)).off + 2, none⟩ = some (.int .i64 ((rd_T76 l0 (ji109)).f1.f1)) ∧ w'.cell? ⟨(ad142.add (((ji109)).toNat * 4)).block, (ad142.add (((ji109)).toNat * 4)).off + 3, none⟩ = some (.string ((rd_T76 l0 (ji109)).f1.f2))) (ds := []) (mkB 26 0) (by kernel_rfl) rfl rfl ⟨(blk_cell BK143.out 0).trans rfl, (blk_cell BK143.out 1).trans rfl, (blk_cell BK143.out 2).trans rfl, (blk_cell BK143.out 3).trans rfl, crA hw146_0, crA hw146_1, crA hw146_2, crA hw146_3⟩ (fun hHeld => ?_); refine with_tabW schema_Attrs.tab4 schema_Attrs.bits4 (fun HT_ HW_ => ?_)
        generalize w203.drew = w204 at BK143 HB hx146_0 hx146_1 hx146_2 hx146_3 hHeld ⊢
        refine pureA 0 (some 12) (mkB 26 1) ?_; refine takeA 1 (some 13) (mkB 26 3) ?_ rfl (Or.inl ⟨by rfl, by rintro w' ⟨s0, s1, s2, s3, s4, s5, s6, s7⟩; go_simp; with_reducible rfl⟩); refine oneA 2 (some 14) (mkB 26 7) (fun K hK => ?_); refine goesS Tryz.func176 #[.string ((rd_T76 l0 x7_1).f0)] ?_
        with_reducible refine (schema_simple.calls _ _ _ _ ?side1 A104.out).mono ?_
        (case side1 => exact Tabs.below HT.out (bwA))
        rintro e w205 ⟨rfl, hb⟩; refine ⟨_, rfl, ?_⟩; replace BK143 := aM (bkB BK143 hb); replace HB := aM (below_step (bwA) hb)
        (try clear hb)
        refine hK.out _ _ ⟨(blk_cell BK143.out 0).trans rfl, (blk_cell BK143.out 1).trans rfl, (blk_cell BK143.out 2).trans rfl, (blk_cell BK143.out 3).trans rfl, crA hw146_0, crA hw146_1, crA hw146_2, crA hw146_3⟩ (fun hHeld => ?_); clear hK K; refine normA ?_; refine pureA 3 (some 15) (mkB 26 15) ?_; refine pureA 4 (some 16) (mkB 26 31) ?_; refine pureA 5 (some 17) (mkB 26 63) ?_; refine takeA 6 (some 18) (mkB 26 127) ?_ rfl (Or.inl ⟨by rfl, by rintro w' ⟨s0, s1, s2, s3, s4, s5, s6, s7⟩; go_simp; with_reducible rfl⟩); refine oneA 7 (some 19) (mkB 26 255) (fun K hK => ?_); refine goesS Tryz.func177 #[.agg #[.int .i64 ((rd_T76 l0 x7_1).f1.f0), .int .i64 ((rd_T76 l0 x7_1).f1.f1), .string ((rd_T76 l0 x7_1).f1.f2)]] ?_
        with_reducible refine (value_Check.calls _ _ _ _ _ ?side1 A106.out).mono ?_
        (case side1 => exact Tabs.below HT.out (bwA))
        rintro e w206 ⟨rfl, hb⟩; refine ⟨_, rfl, ?_⟩; replace BK143 := aM (bkB BK143 hb); replace HB := aM (below_step (bwA) hb)
        (try clear hb)
        refine hK.out _ _ ⟨(blk_cell BK143.out 0).trans rfl, (blk_cell BK143.out 1).trans rfl, (blk_cell BK143.out 2).trans rfl, (blk_cell BK143.out 3).trans rfl, crA hw146_0, crA hw146_1, crA hw146_2, crA hw146_3⟩ (fun hHeld => ?_); clear hK K; refine normA ?_; refine pureA 8 (some 20) (mkB 26 511) ?_; refine pureA 9 (some 21) (mkB 26 1023) ?_; refine pureA 10 (some 22) (mkB 26 2047) ?_; refine pureA 11 (some 23) (mkB 26 4095) ?_; refine pureA 12 (some 24) (mkB 26 8191) ?_; refine pureA 13 (some 25) (mkB 26 16383) ?_; refine pureA 14 (some 26) (mkB 26 32767) ?_; refine pureA 15 (some 27) (mkB 26 65535) ?_; refine pureA 16 (some 28) (mkB 26 131071) ?_; refine pureA 17 (some 29) (mkB 26 262143) ?_; refine pureA 18 (some 30) (mkB 26 524287) ?_; refine pureA 20 (some 32) (mkB 26 1572863) ?_; refine takeA 19 (some 31) (mkB 26 2097151) ?_ rfl (Or.inl ⟨by rfl, by rintro w' ⟨s0, s1, s2, s3, s4, s5, s6, s7⟩; go_simp; with_reducible rfl⟩); refine takeA 21 (some 33) (mkB 26 4194303) ?_ rfl (Or.inl ⟨by rfl, by rintro w' ⟨s0, s1, s2, s3, s4, s5, s6, s7⟩; go_simp; with_reducible rfl⟩); refine oneA 22 (some 34) (mkB 26 8388607) (fun K hK => ?_); refine goes_ Tryz.func86 (by kernel_rfl) rfl #[.string ((rd_T76 l0 (ji109)).f0), .string ((rd_T76 l0 x7_1).f0)] (by rfl) rfl rfl (by (try simp only [List.map_toArray, List.map_cons, List.map_nil]); first | done | (simp only [hji109]; rfl) | rfl | (simp only [List.length_drop, List.length_take]; rfl)) ?_
        with_reducible refine (name_Compare.calls _ _ _ _ _ ?side1 A112.out).mono ?_
        (case side1 => exact Tabs.below HT.out (bwA))
        rintro e w207 ⟨rfl, hb⟩; refine ⟨_, rfl, ?_⟩; replace BK143 := aM (bkB BK143 hb); replace HB := aM (below_step (bwA) hb)
        (try clear hb)
        refine hK.out _ _ ⟨(blk_cell BK143.out 0).trans rfl, (blk_cell BK143.out 1).trans rfl, (blk_cell BK143.out 2).trans rfl, (blk_cell BK143.out 3).trans rfl, crA hw146_0, crA hw146_1, crA hw146_2, crA hw146_3⟩ (fun hHeld => ?_); clear hK K; refine normA ?_; refine pureA 23 (some 35) (mkB 26 16777215) ?_; refine pureA 24 (some 36) (mkB 26 33554431) ?_; refine pureA 25 (some 37) (mkB 26 67108863) ?_; refine done_ (done_of HT_.out (by kernel_rfl)) ?_; try go_wp2
        first
         | clear M2
           go_ret; exact ⟨by first | rfl | (rw [ne_nil_b]; (first | done | rfl)) | (simp [errW_none, errW_some] <;> rfl) | (simp only [← hji109]; first | rfl | (simp [errW_none, errW_some] <;> rfl)) | (simp [*, errW_none, errW_some] <;> rfl), bwA⟩
         | clear M3
           go_roundg k1
           case measure => have := HK1.out; omega
           case rel => exact ⟨(wrap64 (x7_1 + 1)), (endS), H', ⟨by have := HK1.out; omega⟩, ⟨bwA⟩⟩
      | clear M4
        refine start_ (n := 26) (S := fun w' => w'.cell? ⟨gb143, 0, none⟩ = some (.string ((rd_T76 l0 x7_1).f0)) ∧ w'.cell? ⟨gb143, 1, none⟩ = some (.int .i64 ((rd_T76 l0 x7_1).f1.f0)) ∧ w'.cell? ⟨gb143, 2, none⟩ = some (.int .i64 ((rd_T76 l0 x7_1).f1.f1)) ∧ w'.cell? ⟨gb143, 3, none⟩ = some (.string ((rd_T76 l0 x7_1).f1.f2))) (ds := []) (mkB 26 0) (by kernel_rfl) rfl rfl ⟨(blk_cell BK143.out 0).trans rfl, (blk_cell BK143.out 1).trans rfl, (blk_cell BK143.out 2).trans rfl, (blk_cell BK143.out 3).trans rfl⟩ (fun hHeld => ?_); refine with_tabW schema_Attrs.tab4 schema_Attrs.bits4 (fun HT_ HW_ => ?_)
        generalize w203.drew = w204 at BK143 HB hHeld ⊢
        refine pureA 0 (some 12) (mkB 26 1) ?_; refine takeA 1 (some 13) (mkB 26 3) ?_ rfl (Or.inl ⟨by rfl, by rintro w' ⟨s0, s1, s2, s3⟩; go_simp; with_reducible rfl⟩); refine oneA 2 (some 14) (mkB 26 7) (fun K hK => ?_); refine goesS Tryz.func176 #[.string ((rd_T76 l0 x7_1).f0)] ?_
        with_reducible refine (schema_simple.calls _ _ _ _ ?side1 A104.out).mono ?_
        (case side1 => exact Tabs.below HT.out (bwA))
        rintro e w205 ⟨rfl, hb⟩; refine ⟨_, rfl, ?_⟩; replace BK143 := aM (bkB BK143 hb); replace HB := aM (below_step (bwA) hb)
        (try clear hb)
        refine hK.out _ _ ⟨(blk_cell BK143.out 0).trans rfl, (blk_cell BK143.out 1).trans rfl, (blk_cell BK143.out 2).trans rfl, (blk_cell BK143.out 3).trans rfl⟩ (fun hHeld => ?_); clear hK K; refine normA ?_; refine pureA 3 (some 15) (mkB 26 15) ?_; refine pureA 4 (some 16) (mkB 26 31) ?_
        first
         | clear M5
           refine pureA 5 (some 17) (mkB 26 63) ?_; refine takeA 6 (some 18) (mkB 26 127) ?_ rfl (Or.inl ⟨by rfl, by rintro w' ⟨s0, s1, s2, s3⟩; go_simp; with_reducible rfl⟩); refine oneA 7 (some 19) (mkB 26 255) (fun K hK => ?_); refine goesS Tryz.func177 #[.agg #[.int .i64 ((rd_T76 l0 x7_1).f1.f0), .int .i64 ((rd_T76 l0 x7_1).f1.f1), .string ((rd_T76 l0 x7_1).f1.f2)]] ?_
           with_reducible refine (value_Check.calls _ _ _ _ _ ?side1 A106.out).mono ?_
           (case side1 => exact Tabs.below HT.out (bwA))
           rintro e w206 ⟨rfl, hb⟩; refine ⟨_, rfl, ?_⟩; replace BK143 := aM (bkB BK143 hb); replace HB := aM (below_step (bwA) hb)
           (try clear hb)
           refine hK.out _ _ ⟨(blk_cell BK143.out 0).trans rfl, (blk_cell BK143.out 1).trans rfl, (blk_cell BK143.out 2).trans rfl, (blk_cell BK143.out 3).trans rfl⟩ (fun hHeld => ?_); clear hK K; refine normA ?_; refine pureA 8 (some 20) (mkB 26 511) ?_; refine pureA 9 (some 21) (mkB 26 1023) ?_; refine pureA 10 (some 22) (mkB 26 2047) ?_
           first
            | clear M6
              refine pureA 11 (some 23) (mkB 26 4095) ?_; refine pureA 12 (some 24) (mkB 26 8191) ?_; refine pureA 13 (some 25) (mkB 26 16383) ?_; refine pureU 14 (some 26) (mkB 26 32767) ?_; refine pureU 15 (some 27) (mkB 26 65535) ?_; refine pureU 16 (some 28) (mkB 26 131071) ?_; refine pureU 17 (some 29) (mkB 26 262143) ?_; refine pureU 18 (some 30) (mkB 26 524287) ?_; refine pureU 19 (some 31) (mkB 26 1048575) ?_; refine pureU 20 (some 32) (mkB 26 2097151) ?_; refine pureU 21 (some 33) (mkB 26 4194303) ?_; refine pureU 22 (some 34) (mkB 26 8388607) ?_; refine pureU 23 (some 35) (mkB 26 16777215) ?_; refine pureA 24 (some 36) (mkB 26 33554431) ?_; refine pureA 25 (some 37) (mkB 26 67108863) ?_; refine done_ (done_of HT_.out (by kernel_rfl)) ?_; try go_wp2
              go_roundg k1
              case measure => have := HK1.out; omega
              case rel => exact ⟨(wrap64 (x7_1 + 1)), (endS), H', ⟨by have := HK1.out; omega⟩, ⟨bwA⟩⟩
            | clear M7
              refine pureU 11 (some 23) (mkB 26 4095) ?_; refine pureU 12 (some 24) (mkB 26 8191) ?_; refine pureU 13 (some 25) (mkB 26 16383) ?_; refine pureU 14 (some 26) (mkB 26 32767) ?_; refine pureU 15 (some 27) (mkB 26 65535) ?_; refine pureU 16 (some 28) (mkB 26 131071) ?_; refine pureU 17 (some 29) (mkB 26 262143) ?_; refine pureU 18 (some 30) (mkB 26 524287) ?_; refine pureU 19 (some 31) (mkB 26 1048575) ?_; refine pureU 20 (some 32) (mkB 26 2097151) ?_; refine pureU 21 (some 33) (mkB 26 4194303) ?_; refine pureU 22 (some 34) (mkB 26 8388607) ?_; refine pureU 23 (some 35) (mkB 26 16777215) ?_; refine pureU 24 (some 36) (mkB 26 33554431) ?_; refine pureA 25 (some 37) (mkB 26 67108863) ?_; refine done_ (done_of HT_.out (by kernel_rfl)) ?_; (try go_wp2); go_ret; exact ⟨endA, bwA⟩
         | clear M8
           refine pureU 5 (some 17) (mkB 26 63) ?_; refine pureU 6 (some 18) (mkB 26 127) ?_; refine pureU 7 (some 19) (mkB 26 255) ?_; refine pureU 8 (some 20) (mkB 26 511) ?_; refine pureA 9 (some 21) (mkB 26 1023) ?_; refine pureA 10 (some 22) (mkB 26 2047) ?_; refine pureU 11 (some 23) (mkB 26 4095) ?_; refine pureU 12 (some 24) (mkB 26 8191) ?_; refine pureU 13 (some 25) (mkB 26 16383) ?_; refine pureU 14 (some 26) (mkB 26 32767) ?_; refine pureU 15 (some 27) (mkB 26 65535) ?_; refine pureU 16 (some 28) (mkB 26 131071) ?_; refine pureU 17 (some 29) (mkB 26 262143) ?_; refine pureU 18 (some 30) (mkB 26 524287) ?_; refine pureU 19 (some 31) (mkB 26 1048575) ?_; refine pureU 20 (some 32) (mkB 26 2097151) ?_; refine pureU 21 (some 33) (mkB 26 4194303) ?_; refine pureU 22 (some 34) (mkB 26 8388607) ?_; refine pureU 23 (some 35) (mkB 26 16777215) ?_; refine pureU 24 (some 36) (mkB 26 33554431) ?_; refine pureA 25 (some 37) (mkB 26 67108863) ?_; refine done_ (done_of HT_.out (by kernel_rfl)) ?_; (try go_wp2); go_ret; exact ⟨endA, bwA⟩
def event_Check.f (k : Nat) (a0_0 : Int) (a0_1 : Int) (a0_2 : Int) (a0_3 : ByteArray) (l0_4 : List (S76)) : Option (Bool) := (forest_IsID.f a0_0 a0_1 a0_2).bind fun t149 => (if t149 = true then ((name_Check.f k a0_3).bind fun t150 => (if t150 = 0 then ((schema_Attrs.f k l0_4).bind fun t151 => (some t151)) else (some false))) else (some false))
theorem event_Check.mono : ∀ a0 a1 a2 a3 a4 k, LeO (event_Check.f k a0 a1 a2 a3 a4) (event_Check.f (k + 1) a0 a1 a2 a3 a4) := by
 intro a0 a1 a2 a3 a4 k; unfold event_Check.f
 repeat' (with_reducible first | exact name_Check.mono _ _ | exact schema_Attrs.mono _ _ | exact LeO.refl _ | exact LeO.none _ | refine LeO.ite ?_ ?_ | refine LeO.bind ?_ (fun _ => ?_))
theorem event_Check.calls (k : Nat) (a0_0 : Int) (a0_1 : Int) (a0_2 : Int) (a0_3 : ByteArray) (A0_4 : Option Addr) (c0_4 : Nat) (l0_4 : List (S76)) (r : Bool) (w : World) (hr0_4 : Kd.C k76 w A0_4 l0_4.length l0_4) (hc0_4 : l0_4.length ≤ c0_4) (hT : Tabs w) (h : event_Check.f k a0_0 a0_1 a0_2 a0_3 l0_4 = some r) :
  Calls Tryz.prog 46 #[.agg #[.int .i64 a0_0, .int .i64 a0_1, .int .i64 a0_2, .string a0_3, .slice A0_4 l0_4.length c0_4]] w fun e w' => e = .returned (.bool r) ∧ Below w.heap.size w w' := by
 have hu66 := Tryz.underlying66; have hu25 := Tryz.underlying25; have HR0_4 := aM hr0_4; have HC0_4 := aM hc0_4; clear hr0_4 hc0_4; have HB := aM (Below.refl w.heap.size w); unfold event_Check.f at h; have H := h; clear h; have HT := aM hT; clear hT; replace H := bnA H; obtain ⟨t149, A2, H⟩ := H; revert H; refine itR ?L5p ?L5n
 case' L5p =>
  intro c3 H; subst c3; replace H := bnA H; obtain ⟨t150, A4, H⟩ := H; revert H; refine itQ ?L6p ?L6n
  case' L6p =>
   rintro ⟨c5b0, c5b1⟩ H; replace H := bnA H; obtain ⟨t151, A6, H⟩ := H; obtain rfl := sI H; have M1 := trivial; have M2 := trivial
  case' L6n =>
   rintro ⟨c5b0, c5b1⟩ c5 H; obtain rfl := sI H; have M1 := trivial; have M3 := trivial
 case' L5n =>
  intro c3 H; replace c3 := Bool.eq_false_iff.mpr c3; subst c3; obtain rfl := sI H; have M4 := trivial
 all_goals
  case _ =>
   go_enter Tryz.func46, Tryz.ntmps46; go_wp2_with (first | ((with_reducible refine gate_dst (N := 1) rfl ?_); refine boxB 1 #[.int .i64 a0_0, .int .i64 a0_1, .int .i64 a0_2, .string a0_3, .slice A0_4 l0_4.length c0_4] 66 HB ?_; clear HB; intro gb148 w101 BK148 GW148 GE148 HB; obtain ⟨hcz102_0, hcz102_1, hcz102_2, hcz102_3, hcz102_4⟩ := cel5 BK148.out; obtain ⟨hfz102_0, hfz102_1, hfz102_2, hfz102_3, hfz102_4⟩ := frz5 BK148.out) | ((with_reducible refine gate_callee (f := 73) rfl ?_); refine goesA (some 5) Tryz.func73 #[.agg #[.int .i64 a0_0, .int .i64 a0_1, .int .i64 a0_2]] ?_; (with_reducible refine (forest_IsID.calls _ _ _ _ _ A2.out).mono ?_); rintro e w103 ⟨rfl, hb⟩; refine ⟨_, rfl, ?_⟩; replace BK148 := aM (bkB BK148 hb); replace HB := aM (below_step (bwA) hb); (try clear hb); apply stopA; (case other => exact trivial)))
   case _ =>
    first
     | clear M1
       obtain ⟨hcz104_0, hcz104_1, hcz104_2, hcz104_3, hcz104_4⟩ := cel5 BK148.out; obtain ⟨hfz104_0, hfz104_1, hfz104_2, hfz104_3, hfz104_4⟩ := frz5 BK148.out; go_wp2_with (first | (go_at_call 68; (with_reducible refine (name_Check.calls _ _ _ _ ?side1 A4.out).mono ?_); (case side1 => exact Tabs.below HT.out (bwA)); rintro e w105 ⟨rfl, hb⟩; replace BK148 := aM (bkB BK148 hb); replace HB := aM (below_step (bwA) hb); (try clear hb); apply stopA; (case other => exact trivial)))
       case _ =>
        first
         | clear M2
           obtain ⟨hcz106_0, hcz106_1, hcz106_2, hcz106_3, hcz106_4⟩ := cel5 BK148.out; obtain ⟨hfz106_0, hfz106_1, hfz106_2, hfz106_3, hfz106_4⟩ := frz5 BK148.out; (try go_wp2_with (first | (go_at_call 111; (with_reducible refine (schema_Attrs.calls _ _ _ _ _ _ ?side1 ?side2 ?side3 A6.out).mono ?_); (case side1 => repeat (first | exact (Kd.C_below HR0_4.out HB.out) | (with_reducible refine Kd.C_alloc ?_ _) | (with_reducible refine Kd.C_drewN ?_ _) | (with_reducible refine Kd.C_drew ?_))); (case side2 => exact HC0_4.out); (case side3 => exact Tabs.below HT.out (bwA)); rintro e w107 ⟨rfl, hb⟩; replace BK148 := aM (bkB BK148 hb); replace HB := aM (below_step (bwA) hb); (try clear hb)))); go_ret; exact ⟨endA, bwA⟩
         | clear M3
           (try go_wp2_with (fail))
           go_ret; exact ⟨endA, bwA⟩
     | clear M4
       (try go_wp2_with (fail))
       go_ret; exact ⟨endA, bwA⟩
end Go.Proofs.YtkdndabpaajkaaaGreatDoor.A
