import Derived.Test.YtkdndabpaajkaaaGreatDoorAx0
import Derived.Test.YtkdndabpaajkaaaGreatDoorAx13
import Derived.Test.YtkdndabpaajkaaaGreatDoorAx17
namespace Go.Proofs.YtkdndabpaajkaaaGreatDoor.A
open Go.RowKit Go.Proofs.YtkdndabpaajkaaaGreatDoorW.PrintWords Go.Proofs.YtkdndabpaajkaaaGreatDoorW.PrintLast Go.Proofs.YtkdndabpaajkaaaGreatDoorW.PrintMore
attribute [local go_sem] max2_int min2_int max_two min_two max_three min_three max_four min_four   -- for this text's walks alone
set_option linter.unusedVariables false
set_option linter.unusedSimpArgs false
set_option maxHeartbeats 8000000
set_option maxRecDepth 100000
def R06_ShowID.f (k : Nat) (a0_0 : Int) (a0_1 : Int) (a0_2 : Int) : Option (ByteArray) := (R05_IsID.f a0_0 a0_1 a0_2).bind fun t427 => (if t427 = true then ((R03_Digits.f k a0_0).bind fun t428 => (if t428.size + 1 ≤ 9223372036854775807 then ((R03_Digits.f k a0_1).bind fun t429 => (if (t428 ++ (⟨#[46]⟩ : ByteArray)).size + t429.size ≤ 9223372036854775807 then (if ((t428 ++ (⟨#[46]⟩ : ByteArray)) ++ t429).size + 1 ≤ 9223372036854775807 then ((R03_Digits.f k a0_2).bind fun t430 => (if (((t428 ++ (⟨#[46]⟩ : ByteArray)) ++ t429) ++ (⟨#[46]⟩ : ByteArray)).size + t430.size ≤ 9223372036854775807 then (some ((((t428 ++ (⟨#[46]⟩ : ByteArray)) ++ t429) ++ (⟨#[46]⟩ : ByteArray)) ++ t430)) else (none))) else (none)) else (none))) else (none))) else (some (⟨#[]⟩ : ByteArray)))
theorem R06_ShowID.mono : ∀ a0 a1 a2 k, LeO (R06_ShowID.f k a0 a1 a2) (R06_ShowID.f (k + 1) a0 a1 a2) := by
 intro a0 a1 a2 k; unfold R06_ShowID.f
 repeat' (with_reducible first | exact R03_Digits.mono _ _ | exact LeO.refl _ | exact LeO.none _ | refine LeO.ite ?_ ?_ | refine LeO.bind ?_ (fun _ => ?_))
def R06_ShowID.T3 : Bool × List (List Nat × List Nat) := (true, [([], []), ([0], [0]), ([1], [1]), ([2], [2]), ([], []), ([4], [4]), ([5, 2], [5]), ([3, 6], [3, 6]), ([7], [7]), ([], []), ([9], [9]), ([10, 6], [10]), ([8, 11], [8, 11]), ([12, 11, 0, 1, 2, 3, 4, 5, 6, 7, 8, 9, 10, 11, 12], [12])])
def R06_ShowID.B3 : List Nat := [0, 1, 3, 7, 0, 16, 55, 127, 255, 0, 512, 1655, 4095, 8191]
theorem R06_ShowID.tab3 : rtab .any (opsOf Tryz.f57 3) = R06_ShowID.T3 := by kernel_rfl
theorem R06_ShowID.bits3 : waitsOk R06_ShowID.T3.2 R06_ShowID.B3 = true := by kernel_rfl
theorem R06_ShowID.calls (k : Nat) (a0_0 : Int) (a0_1 : Int) (a0_2 : Int) (r : ByteArray) (w : World) (h : R06_ShowID.f k a0_0 a0_1 a0_2 = some r) :
  Calls Tryz.prog 57 #[.agg #[.int .i64 a0_0, .int .i64 a0_1, .int .i64 a0_2]] w fun e w' => e = .returned (.string r) ∧ Below w.heap.size w w' := by
 have hu36 := Tryz.underlying36; have HB := aM (Below.refl w.heap.size w); unfold R06_ShowID.f at h; have H := h; clear h; replace H := bnA H; obtain ⟨t427, A2, H⟩ := H; revert H; refine itR ?L3p ?L3n
 case' L3p =>
  intro c3 H; subst c3; replace H := bnA H; obtain ⟨t428, A4, H⟩ := H; replace H := itN H; obtain ⟨c5, H⟩ := H; have c5b0 := eq_true c5; have c5b1 := dT c5; (try have c5b2 : (9223372036854775807 < t428.size + 1) = False := eq_false (Nat.not_lt.2 c5)); replace H := bnA H; obtain ⟨t429, A6, H⟩ := H; replace H := itN H; obtain ⟨c7, H⟩ := H; have c7b0 := eq_true c7; have c7b1 := dT c7; (try have c7b2 : (9223372036854775807 < (t428 ++ (⟨#[46]⟩ : ByteArray)).size + t429.size) = False := eq_false (Nat.not_lt.2 c7)); (try have c7b3 : (9223372036854775807 < t428.size + 1 + t429.size) = False := eq_false (by have zz_ := c7; simp only [ByteArray.size_append] at zz_; have zy0_ : (⟨#[46]⟩ : ByteArray).size = 1 := rfl; omega)); replace H := itN H; obtain ⟨c8, H⟩ := H; have c8b0 := eq_true c8; have c8b1 := dT c8; (try have c8b2 : (9223372036854775807 < ((t428 ++ (⟨#[46]⟩ : ByteArray)) ++ t429).size + 1) = False := eq_false (Nat.not_lt.2 c8)); (try have c8b3 : (9223372036854775807 < t428.size + 1 + t429.size + 1) = False := eq_false (by have zz_ := c8; simp only [ByteArray.size_append] at zz_; have zy0_ : (⟨#[46]⟩ : ByteArray).size = 1 := rfl; omega)); replace H := bnA H; obtain ⟨t430, A9, H⟩ := H; replace H := itN H; obtain ⟨c10, H⟩ := H; have c10b0 := eq_true c10; have c10b1 := dT c10; (try have c10b2 : (9223372036854775807 < (((t428 ++ (⟨#[46]⟩ : ByteArray)) ++ t429) ++ (⟨#[46]⟩ : ByteArray)).size + t430.size) = False := eq_false (Nat.not_lt.2 c10)); (try have c10b3 : (9223372036854775807 < t428.size + 1 + t429.size + 1 + t430.size) = False := eq_false (by have zz_ := c10; simp only [ByteArray.size_append] at zz_; have zy0_ : (⟨#[46]⟩ : ByteArray).size = 1 := rfl; have zy1_ : (⟨#[46]⟩ : ByteArray).size = 1 := rfl; omega)); obtain rfl := sI H; have M1 := trivial
 case' L3n =>
  intro c3 H; replace c3 := Bool.eq_false_iff.mpr c3; subst c3; obtain rfl := sI H; have M2 := trivial
 all_goals
  case _ =>
   go_enter Tryz.func57, Tryz.ntmps57; try go_wp2_with (first | ((with_reducible refine gate_dst (N := 1) rfl ?_); refine boxB 1 #[.int .i64 a0_0, .int .i64 a0_1, .int .i64 a0_2] 36 HB ?_; clear HB; intro gb426 w101 BK426 GW426 GE426 HB; obtain ⟨hcz102_0, hcz102_1, hcz102_2⟩ := cel3 BK426.out; obtain ⟨hfz102_0, hfz102_1, hfz102_2⟩ := frz3 BK426.out) | ((with_reducible refine gate_callee (f := 80) rfl ?_); refine goesA (some 4) Tryz.func80 #[.agg #[.int .i64 a0_0, .int .i64 a0_1, .int .i64 a0_2]] ?_; (with_reducible refine (R05_IsID.calls _ _ _ _ _ A2.out).mono ?_); rintro e w103 ⟨rfl, hb⟩; refine ⟨_, rfl, ?_⟩; replace BK426 := aM (bkB BK426 hb); replace HB := aM (below_step (bwA) hb); (try clear hb)))
   first
    | clear M1
      replace BK426 := aM (blk_drew BK426.out); replace HB := aM (below_drew1 HB.out); refine start_ (n := 14) (S := fun w' => w'.cell? ⟨gb426, 0, none⟩ = some (.int .i64 a0_0) ∧ w'.cell? ⟨gb426, 1, none⟩ = some (.int .i64 a0_1) ∧ w'.cell? ⟨gb426, 2, none⟩ = some (.int .i64 a0_2)) (ds := []) (mkB 14 0) (by kernel_rfl) rfl rfl (ce3 BK426.out) (fun hHeld => ?_); refine with_tabW R06_ShowID.tab3 R06_ShowID.bits3 (fun HT_ HW_ => ?_)
      generalize w103.drew = w104 at BK426 HB hHeld ⊢
      refine pureA 0 (some 6) (mkB 14 1) ?_; refine pureA 4 (some 10) (mkB 14 17) ?_; refine pureA 9 (some 15) (mkB 14 529) ?_; refine takeA 1 (some 7) (mkB 14 531) ?_ rfl (Or.inl ⟨by rfl, by rintro w' ⟨s0, s1, s2⟩; go_simp; with_reducible rfl⟩); refine takeA 5 (some 11) (mkB 14 563) ?_ rfl (Or.inl ⟨by rfl, by rintro w' ⟨s0, s1, s2⟩; go_simp; with_reducible rfl⟩); refine takeA 10 (some 16) (mkB 14 1587) ?_ rfl (Or.inl ⟨by rfl, by rintro w' ⟨s0, s1, s2⟩; go_simp; with_reducible rfl⟩); refine oneA 2 (some 8) (mkB 14 1591) (fun K hK => ?_); refine goesS Tryz.func122 #[.int .i64 a0_0] ?_
      with_reducible refine (R03_Digits.calls _ _ _ _ A4.out).mono ?_
      rintro e w105 ⟨rfl, hb⟩; refine ⟨_, rfl, ?_⟩; replace BK426 := aM (bkB BK426 hb); replace HB := aM (below_step (bwA) hb)
      (try clear hb)
      refine hK.out _ _ (ce3 BK426.out) (fun hHeld => ?_); clear hK K; refine normA ?_; refine pureA 3 (some 9) (mkB 14 1599) ?_; refine oneA 6 (some 12) (mkB 14 1663) (fun K hK => ?_); refine goesS Tryz.func122 #[.int .i64 a0_1] ?_
      with_reducible refine (R03_Digits.calls _ _ _ _ A6.out).mono ?_
      rintro e w106 ⟨rfl, hb⟩; refine ⟨_, rfl, ?_⟩; replace BK426 := aM (bkB BK426 hb); replace HB := aM (below_step (bwA) hb)
      (try clear hb)
      refine hK.out _ _ (ce3 BK426.out) (fun hHeld => ?_); clear hK K; refine normA ?_; refine pureA 7 (some 13) (mkB 14 1791) ?_; refine pureA 8 (some 14) (mkB 14 2047) ?_; refine oneA 11 (some 17) (mkB 14 4095) (fun K hK => ?_); refine goesS Tryz.func122 #[.int .i64 a0_2] ?_
      with_reducible refine (R03_Digits.calls _ _ _ _ A9.out).mono ?_
      rintro e w107 ⟨rfl, hb⟩; refine ⟨_, rfl, ?_⟩; replace BK426 := aM (bkB BK426 hb); replace HB := aM (below_step (bwA) hb)
      (try clear hb)
      refine hK.out _ _ (ce3 BK426.out) (fun hHeld => ?_); clear hK K; refine normA ?_; refine pureA 12 (some 18) (mkB 14 8191) ?_; refine pureA 13 (some 2) (mkB 14 16383) ?_; refine done_ (done_of HT_.out (by kernel_rfl)) ?_; (try go_wp2); go_ret; exact ⟨endA, bwA⟩
    | clear M2
      go_ret; exact ⟨endA, bwA⟩
def R03_Hex.f (a0 : Int) : Option (ByteArray) := if a0 < 10 then (some (strOfNums (([(wrap64 (48 + a0)) % 256] : List Int)))) else (some (strOfNums (([(wrap64 (87 + a0)) % 256] : List Int))))
theorem R03_Hex.calls (a0 : Int) (r : ByteArray) (w : World) (h : R03_Hex.f a0 = some r) :
  Calls Tryz.prog 181 #[.int .i64 a0] w fun e w' => e = .returned (.string r) ∧ Below w.heap.size w w' := by
 have HB := aM (Below.refl w.heap.size w); unfold R03_Hex.f at h; have H := h; clear h; revert H; refine itR ?L3p ?L3n
 case' L3p =>
  intro c2 H; have c2b0 := dT c2; clear c2
  first | ((with_reducible replace H := bsG H); obtain ⟨y431, Ny431, H⟩ := H) | (obtain ⟨y431, hy431⟩ : ∃ y_ : List Int, y_ = (([(wrap64 (48 + a0)) % 256] : List Int)) := ⟨_, rfl⟩; rw [← hy431] at H; have Ny431 := aM hy431; clear hy431)
  obtain rfl := sI H; have M1 := trivial
 case' L3n =>
  intro c2 H; have c2b0 := dF c2; clear c2
  first | ((with_reducible replace H := bsG H); obtain ⟨y434, Ny434, H⟩ := H) | (obtain ⟨y434, hy434⟩ : ∃ y_ : List Int, y_ = (([(wrap64 (87 + a0)) % 256] : List Int)) := ⟨_, rfl⟩; rw [← hy434] at H; have Ny434 := aM hy434; clear hy434)
  obtain rfl := sI H; have M2 := trivial
 all_goals
  case _ =>
   go_enter Tryz.func181, Tryz.ntmps181
   first
    | clear M1
      (try go_wp2_with (first | ((with_reducible refine gate_dst (N := 8) rfl ?_); refine Kd.R_lit (Kd.int .u8) _ 5 ?hg (N := 8) ?hd (xs := ([(wrap64 (48 + a0)) % 256] : List Int)) (inner := [.int .u8 ((wrap64 (48 + a0)) % 256)]) (ok := fun _ => True) (okp := fun _ => True) ?hr ?hp (fun _ hk => hk) trivial (Below.refl _ _) (Nat.le_refl _) (by simp) ?_; (case hd => rfl); (case hg => rfl); (case hr => first | (go_simp; done) | (go_simp; rfl)); (case hp => exact (Reps.one (show Kd.M (Kd.int .u8) _ _ _ ((wrap64 (48 + a0)) % 256) [.int .u8 ((wrap64 (48 + a0)) % 256)] from rfl) (Reps.none _ _))); intro v432 w101 ho102 hb hg_ hnew_; clear hg_ hnew_; (first | rw [← Ny431.out] at ho102 | (simp only [Int.reduceToNat] at ho102; rw [← Ny431.out] at ho102)); have HO433 := aM (Kd.R_lower ho102 (below_size (bwA))); replace HB := aM (below_step (bwA) hb); clear hb ho102; have hcv103 := own_string (P := Tryz.prog) Tryz.underlying160 Tryz.underlying5 Tryz.underlying9 (Kd.own_of_R HO433.out)))); go_ret; exact ⟨endA, bwA⟩
    | clear M2
      (try go_wp2_with (first | ((with_reducible refine gate_dst (N := 13) rfl ?_); refine Kd.R_lit (Kd.int .u8) _ 5 ?hg (N := 13) ?hd (xs := ([(wrap64 (87 + a0)) % 256] : List Int)) (inner := [.int .u8 ((wrap64 (87 + a0)) % 256)]) (ok := fun _ => True) (okp := fun _ => True) ?hr ?hp (fun _ hk => hk) trivial (Below.refl _ _) (Nat.le_refl _) (by simp) ?_; (case hd => rfl); (case hg => rfl); (case hr => first | (go_simp; done) | (go_simp; rfl)); (case hp => exact (Reps.one (show Kd.M (Kd.int .u8) _ _ _ ((wrap64 (87 + a0)) % 256) [.int .u8 ((wrap64 (87 + a0)) % 256)] from rfl) (Reps.none _ _))); intro v435 w101 ho102 hb hg_ hnew_; clear hg_ hnew_; (first | rw [← Ny434.out] at ho102 | (simp only [Int.reduceToNat] at ho102; rw [← Ny434.out] at ho102)); have HO436 := aM (Kd.R_lower ho102 (below_size (bwA))); replace HB := aM (below_step (bwA) hb); clear hb ho102; have hcv103 := own_string (P := Tryz.prog) Tryz.underlying160 Tryz.underlying5 Tryz.underlying9 (Kd.own_of_R HO436.out)))); go_ret; exact ⟨endA, bwA⟩
mutual
def R03_escape.j0 : Nat → Int → Bool → Option (ByteArray)
 | 0, _, _ => none
 | k + 1, x0, x18 => if x18 = true then ((R03_Hex.f x0).bind fun t437 => (if 3 + t437.size ≤ 9223372036854775807 then (if ((⟨#[92, 117, 123]⟩ : ByteArray) ++ t437).size + 1 ≤ 9223372036854775807 then (some (((⟨#[92, 117, 123]⟩ : ByteArray) ++ t437) ++ (⟨#[125]⟩ : ByteArray))) else (none)) else (none))) else (if x0 ≥ 16 then (if x0 < 32 then (R03_escape.j1 k x0 true) else (R03_escape.j1 k x0 (x0 == 127))) else (R03_escape.j1 k x0 (x0 == 127)))
def R03_escape.j1 : Nat → Int → Bool → Option (ByteArray)
 | 0, _, _ => none
 | k + 1, x0, x32 => if x32 = true then ((R03_Hex.f (wrap64 (Int.tdiv x0 16))).bind fun t438 => (if 3 + t438.size ≤ 9223372036854775807 then ((R03_Hex.f (Int.tmod x0 16)).bind fun t439 => (if ((⟨#[92, 117, 123]⟩ : ByteArray) ++ t438).size + t439.size ≤ 9223372036854775807 then (if (((⟨#[92, 117, 123]⟩ : ByteArray) ++ t438) ++ t439).size + 1 ≤ 9223372036854775807 then (some ((((⟨#[92, 117, 123]⟩ : ByteArray) ++ t438) ++ t439) ++ (⟨#[125]⟩ : ByteArray))) else (none)) else (none))) else (none))) else ((R02_Bytes.f x0).bind fun t440 => (some t440))
end
def R03_escape.f (k : Nat) (a0 : Int) : Option (ByteArray) := if a0 = 34 then (some (⟨#[92, 34]⟩ : ByteArray)) else (if a0 = 92 then (some (⟨#[92, 92]⟩ : ByteArray)) else (if a0 = 10 then (some (⟨#[92, 110]⟩ : ByteArray)) else (if a0 = 9 then (some (⟨#[92, 116]⟩ : ByteArray)) else (if a0 = 13 then (some (⟨#[92, 114]⟩ : ByteArray)) else (if a0 ≥ 0 then (R03_escape.j0 k a0 (decide (a0 < 16))) else (R03_escape.j0 k a0 false))))))
theorem R03_escape.mono_l : ∀ k, (∀ y0 y1, LeO (R03_escape.j0 k y0 y1) (R03_escape.j0 (k + 1) y0 y1)) ∧ (∀ y0 y1, LeO (R03_escape.j1 k y0 y1) (R03_escape.j1 (k + 1) y0 y1))
 | 0 => ⟨fun _ _ r h => by simp [R03_escape.j0] at h, fun _ _ r h => by simp [R03_escape.j1] at h⟩
 | k + 1 => by
  obtain ⟨ih0, ih1⟩ := R03_escape.mono_l k; refine ⟨?_, ?_⟩
  all_goals intros
  all_goals first | unfold R03_escape.j0 | unfold R03_escape.j1
  all_goals repeat' (with_reducible first | exact ih0 _ _ | exact ih1 _ _ | exact LeO.refl _ | exact LeO.none _ | refine LeO.ite ?_ ?_ | refine LeO.bind ?_ (fun _ => ?_))
theorem R03_escape.mono : ∀ a0 k, LeO (R03_escape.f k a0) (R03_escape.f (k + 1) a0) := by
 intro a0 k; obtain ⟨ih0, ih1⟩ := R03_escape.mono_l k; unfold R03_escape.f
 repeat' (with_reducible first | exact ih0 _ _ | exact ih1 _ _ | exact LeO.refl _ | exact LeO.none _ | refine LeO.ite ?_ ?_ | refine LeO.bind ?_ (fun _ => ?_))
theorem R03_escape.calls (k : Nat) (a0 : Int) (r : ByteArray) (w : World) (h : R03_escape.f k a0 = some r) :
  Calls Tryz.prog 182 #[.int .i64 a0] w fun e w' => e = .returned (.string r) ∧ Below w.heap.size w w' := by
 have HB := aM (Below.refl w.heap.size w); unfold R03_escape.f at h; have H := h; clear h; revert H; refine itQ ?L17p ?L17n
 case' L17p =>
  rintro ⟨c2b0, c2b1⟩ H; obtain rfl := sI H; have M15 := trivial
 case' L17n =>
  rintro ⟨c2b0, c2b1⟩ c2 H; revert H; refine itQ ?L18p ?L18n
  case' L18p =>
   rintro ⟨c3b0, c3b1⟩ H; obtain rfl := sI H; have M15 := trivial
  case' L18n =>
   rintro ⟨c3b0, c3b1⟩ c3 H; revert H; refine itQ ?L19p ?L19n
   case' L19p =>
    rintro ⟨c4b0, c4b1⟩ H; obtain rfl := sI H; have M15 := trivial
   case' L19n =>
    rintro ⟨c4b0, c4b1⟩ c4 H; revert H; refine itQ ?L20p ?L20n
    case' L20p =>
     rintro ⟨c5b0, c5b1⟩ H; obtain rfl := sI H; have M15 := trivial
    case' L20n =>
     rintro ⟨c5b0, c5b1⟩ c5 H; revert H; refine itQ ?L21p ?L21n
     case' L21p =>
      rintro ⟨c6b0, c6b1⟩ H; obtain rfl := sI H; have M15 := trivial
     case' L21n =>
      rintro ⟨c6b0, c6b1⟩ c6 H; have HC101 := aM H; clear H; have M16 := trivial
 all_goals
  case _ =>
   go_enter Tryz.func182, Tryz.ntmps182
   first
    | clear M15
      go_wp2; go_ret; exact ⟨endA, bwA⟩
    | clear M16
      go_upto_region 11 with (fail); go_cut [18] (fun v18 wc => ∃ (kq : Nat) (x18_100 : Bool), v18 = .bool x18_100 ∧ Aside0 (R03_escape.j0 kq a0 x18_100 = some r) ∧ Aside0 (kq ≤ k) ∧ Aside0 (Below w.heap.size w wc))
      case first =>
       have H := HC101.out; clear HC101; revert H; refine itR ?L3p ?L3n
       case' L3p =>
        intro c102 H; have c102b0 := geT c102; clear c102
        (first | rw [c102b0] | (simp only [i64_w, i32_w]; rw [c102b0]) | skip)
        have H' := aM H; clear H; have M1 := trivial
       case' L3n =>
        intro c102 H; have c102b0 := geF c102; clear c102
        (first | rw [c102b0] | (simp only [i64_w, i32_w]; rw [c102b0]) | skip)
        have H' := aM H; clear H; have M2 := trivial
       all_goals
        case _ =>
         go_wp2
         go_meet
         first
          | clear M1
            case rel => exact ⟨_, (decide (a0 < 16)), (endS), H', ⟨by first | omega | exact Nat.le_refl _⟩, ⟨bwA⟩⟩
          | clear M2
            case rel => exact ⟨_, (false), (endS), H', ⟨by first | omega | exact Nat.le_refl _⟩, ⟨bwA⟩⟩
      case rest =>
       clear HC101; (try clear c1); (try clear c2); (try clear c2b0); (try clear c2b1); (try clear p2); (try clear c3); (try clear c3b0); (try clear c3b1); (try clear c4); (try clear c4b0); (try clear c4b1); (try clear c5); (try clear c5b0); (try clear c5b1); (try clear c6); (try clear c6b0); (try clear c6b1); (try clear c10); (try clear c18); obtain ⟨kq, x18_100, rfl, HA, HJ100, HB⟩ := hcut
       cases kq with
       | zero => exact absurd HA.out (by simp [R03_escape.j0])
       | succ kj100 =>
        have H := HA.out; clear HA; simp only [R03_escape.j0] at H; revert H; refine itR ?L9p ?L9n
        case' L9p =>
         intro c102 H; subst c102; replace H := bnA H; obtain ⟨t437, A103, H⟩ := H; replace H := itN H; obtain ⟨c104, H⟩ := H; have c104b0 := eq_true c104; have c104b1 := dT c104; (try have c104b2 : (9223372036854775807 < 3 + t437.size) = False := eq_false (Nat.not_lt.2 c104)); replace H := itN H; obtain ⟨c105, H⟩ := H; have c105b0 := eq_true c105; have c105b1 := dT c105; (try have c105b2 : (9223372036854775807 < ((⟨#[92, 117, 123]⟩ : ByteArray) ++ t437).size + 1) = False := eq_false (Nat.not_lt.2 c105)); (try have c105b3 : (9223372036854775807 < 3 + t437.size + 1) = False := eq_false (by have zz_ := c105; simp only [ByteArray.size_append] at zz_; have zy0_ : (⟨#[92, 117, 123]⟩ : ByteArray).size = 3 := rfl; omega)); obtain rfl := sI H; (try go_wp2_with (first | ((with_reducible refine gate_callee (f := 181) rfl ?_); refine goesA (some 20) Tryz.func181 #[.int .i64 a0] ?_; (with_reducible refine (R03_Hex.calls _ _ _ A103.out).mono ?_); rintro e w201 ⟨rfl, hb⟩; refine ⟨_, rfl, ?_⟩; replace HB := aM (below_step (bwA) hb); (try clear hb)))); go_ret; exact ⟨endA, bwA⟩
        case' L9n =>
         intro c102 H; replace c102 := Bool.eq_false_iff.mpr c102; subst c102; have HC201 := aM H; clear H; go_upto_region 13 with (fail); go_cut [32] (fun v32 wc => ∃ (kq : Nat) (x32_200 : Bool), v32 = .bool x32_200 ∧ Aside0 (R03_escape.j1 kq a0 x32_200 = some r) ∧ Aside0 (kq ≤ kj100) ∧ Aside0 (Below w.heap.size w wc))
         case first =>
          have H := HC201.out; clear HC201; revert H; refine itR ?L12p ?L12n
          case' L12p =>
           intro c202 H; have c202b0 := geT c202; clear c202
           (first | rw [c202b0] | (simp only [i64_w, i32_w]; rw [c202b0]) | skip)
           revert H; refine itR ?L13p ?L13n
           case' L13p =>
            intro c203 H; have c203b0 := dT c203; clear c203; have H' := aM H; clear H; have M10 := trivial
           case' L13n =>
            intro c203 H; have c203b0 := dF c203; clear c203; have H' := aM H; clear H; have M11 := trivial
          case' L12n =>
           intro c202 H; have c202b0 := geF c202; clear c202
           (first | rw [c202b0] | (simp only [i64_w, i32_w]; rw [c202b0]) | skip)
           have H' := aM H; clear H; have M11 := trivial
          all_goals
           case _ =>
            go_wp2
            go_meet
            first
             | clear M10
               case rel => exact ⟨_, (true), (endS), H', ⟨by have := HJ100.out; first | omega | exact Nat.le_refl _⟩, ⟨bwA⟩⟩
             | clear M11
               case rel => exact ⟨_, ((a0 == 127)), (endS), H', ⟨by have := HJ100.out; first | omega | exact Nat.le_refl _⟩, ⟨bwA⟩⟩
         case rest =>
          clear HC201; (try clear c1); (try clear c2); (try clear c2b0); (try clear c2b1); (try clear p2); (try clear c3); (try clear c3b0); (try clear c3b1); (try clear c4); (try clear c4b0); (try clear c4b1); (try clear c5); (try clear c5b0); (try clear c5b1); (try clear c6); (try clear c6b0); (try clear c6b1); (try clear c10); (try clear c18); (try clear c20); (try clear c102); (try clear c102b0); (try clear c104); (try clear c104b0); (try clear c104b1); (try clear c104b2); (try clear c105); (try clear c105b0); (try clear c105b1); (try clear c105b2); (try clear c181); (try clear c182); (try clear p2); obtain ⟨kq, x32_200, rfl, HA, HJ200, HB⟩ := hcut
          cases kq with
          | zero => exact absurd HA.out (by simp [R03_escape.j1])
          | succ kj200 =>
           have H := HA.out; clear HA; simp only [R03_escape.j1] at H; revert H; refine itR ?L14p ?L14n
           case' L14p =>
            intro c202 H; subst c202; replace H := bnA H; obtain ⟨t438, A203, H⟩ := H; replace H := itN H; obtain ⟨c204, H⟩ := H; have c204b0 := eq_true c204; have c204b1 := dT c204; (try have c204b2 : (9223372036854775807 < 3 + t438.size) = False := eq_false (Nat.not_lt.2 c204)); replace H := bnA H; obtain ⟨t439, A205, H⟩ := H; replace H := itN H; obtain ⟨c206, H⟩ := H; have c206b0 := eq_true c206; have c206b1 := dT c206; (try have c206b2 : (9223372036854775807 < ((⟨#[92, 117, 123]⟩ : ByteArray) ++ t438).size + t439.size) = False := eq_false (Nat.not_lt.2 c206)); (try have c206b3 : (9223372036854775807 < 3 + t438.size + t439.size) = False := eq_false (by have zz_ := c206; simp only [ByteArray.size_append] at zz_; have zy0_ : (⟨#[92, 117, 123]⟩ : ByteArray).size = 3 := rfl; omega)); replace H := itN H; obtain ⟨c207, H⟩ := H; have c207b0 := eq_true c207; have c207b1 := dT c207; (try have c207b2 : (9223372036854775807 < (((⟨#[92, 117, 123]⟩ : ByteArray) ++ t438) ++ t439).size + 1) = False := eq_false (Nat.not_lt.2 c207)); (try have c207b3 : (9223372036854775807 < 3 + t438.size + t439.size + 1) = False := eq_false (by have zz_ := c207; simp only [ByteArray.size_append] at zz_; have zy0_ : (⟨#[92, 117, 123]⟩ : ByteArray).size = 3 := rfl; omega)); obtain rfl := sI H; (try go_wp2_with (first | ((with_reducible refine gate_callee (f := 181) rfl ?_); refine goesA (some 35) Tryz.func181 #[.int .i64 (wrap64 (Int.tdiv a0 16))] ?_; (with_reducible refine (R03_Hex.calls _ _ _ A203.out).mono ?_); rintro e w301 ⟨rfl, hb⟩; refine ⟨_, rfl, ?_⟩; replace HB := aM (below_step (bwA) hb); (try clear hb)) | ((with_reducible refine gate_callee (f := 181) rfl ?_); refine goesA (some 39) Tryz.func181 #[.int .i64 (Int.tmod a0 16)] ?_; (with_reducible refine (R03_Hex.calls _ _ _ A205.out).mono ?_); rintro e w302 ⟨rfl, hb⟩; refine ⟨_, rfl, ?_⟩; replace HB := aM (below_step (bwA) hb); (try clear hb)))); go_ret; exact ⟨endA, bwA⟩
           case' L14n =>
            intro c202 H; replace c202 := Bool.eq_false_iff.mpr c202; subst c202; replace H := bnA H; obtain ⟨t440, A203, H⟩ := H; obtain rfl := sI H; (try go_wp2_with (first | ((with_reducible refine gate_callee (f := 217) rfl ?_); refine goesA (some 43) Tryz.func217 #[.int .i64 a0] ?_; (with_reducible refine (R02_Bytes.calls _ _ _ A203.out).mono ?_); rintro e w301 ⟨rfl, hb⟩; refine ⟨_, rfl, ?_⟩; replace HB := aM (below_step (bwA) hb); (try clear hb)))); go_ret; exact ⟨endA, bwA⟩
end Go.Proofs.YtkdndabpaajkaaaGreatDoor.A
