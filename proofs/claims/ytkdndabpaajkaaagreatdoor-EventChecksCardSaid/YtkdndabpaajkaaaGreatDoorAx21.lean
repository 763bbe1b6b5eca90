import Derived.Test.YtkdndabpaajkaaaGreatDoorAx0
import Derived.Test.YtkdndabpaajkaaaGreatDoorAx20
namespace Go.Proofs.YtkdndabpaajkaaaGreatDoor.A
open Go.RowKit Go.Proofs.YtkdndabpaajkaaaGreatDoorW.PrintWords Go.Proofs.YtkdndabpaajkaaaGreatDoorW.PrintLast Go.Proofs.YtkdndabpaajkaaaGreatDoorW.PrintMore
attribute [local go_sem] max2_int min2_int max_two min_two max_three min_three max_four min_four   -- for this text's walks alone
set_option linter.unusedVariables false
set_option linter.unusedSimpArgs false
set_option maxHeartbeats 8000000
set_option maxRecDepth 100000
def quic_one.f (k : Nat) (a0_0 : Int) (a0_1 : Int) (a0_2 : ByteArray) : Option (ByteArray × Bool) := if a0_0 = 1 then ((quic_Num.f k a0_1).bind fun t471 => (if a0_1 ≥ 0 then (if a0_1 ≤ 4611686018427387903 then (some (t471, (a0_2.toList == ([] : List UInt8)))) else (some (t471, false))) else (some (t471, false)))) else (if a0_0 = 2 then ((quic_Whole.f k a0_1).bind fun t472 => ((quic_whole.f a0_1).bind fun t473 => (if t473 = true then (some (t472, (a0_2.toList == ([] : List UInt8)))) else (some (t472, false))))) else (if a0_0 = 3 then ((some (([(Go.bits .and .i64 a0_1 1) % 256] : List Int) : List Int)).bind fun y474 => (if a0_1 = 0 then (some (strOfNums y474, (a0_2.toList == ([] : List UInt8)))) else (if a0_1 = 1 then (some (strOfNums y474, (a0_2.toList == ([] : List UInt8)))) else (some (strOfNums y474, false))))) else (if a0_0 = 4 then ((quic_text.f k a0_2).bind fun t477 => (if (a0_2.size : Int) ≤ 65536 then (some (t477, (a0_1 == 0))) else (some (t477, false)))) else (some ((⟨#[]⟩ : ByteArray), false)))))
theorem quic_one.mono : ∀ a0 a1 a2 k, LeO (quic_one.f k a0 a1 a2) (quic_one.f (k + 1) a0 a1 a2) := by
 intro a0 a1 a2 k; unfold quic_one.f
 repeat' (with_reducible first | exact quic_Num.mono _ _ | exact quic_Whole.mono _ _ | exact quic_text.mono _ _ | exact LeO.refl _ | exact LeO.none _ | refine LeO.ite ?_ ?_ | refine LeO.bind ?_ (fun _ => ?_))
def quic_one.T3 : Bool × List (List Nat × List Nat) := (true, [([], []), ([0], [0]), ([1], [1]), ([], []), ([3], [3]), ([4], [4]), ([5, 2], [5]), ([6], [6]), ([7, 6], [6, 7]), ([8, 6], [6, 8]), ([6, 9], [6, 9]), ([10, 6], [10]), ([11], [11]), ([12, 11], [11, 12]), ([13, 11], [11, 13]), ([11, 14], [11, 14]), ([2, 11, 0, 1, 2], [2]), ([15, 16, 0, 1, 2, 3, 4, 5, 6, 7, 8, 9, 10, 11, 12, 13, 14, 15, 16], [15])])
def quic_one.B3 : List Nat := [0, 1, 3, 0, 8, 24, 63, 127, 255, 511, 1023, 2047, 4095, 8191, 16383, 32767, 4095, 131071]
theorem quic_one.tab3 : rtab .any (opsOf Tryz.f169 3) = quic_one.T3 := by kernel_rfl
theorem quic_one.bits3 : waitsOk quic_one.T3.2 quic_one.B3 = true := by kernel_rfl
def quic_one.T5 : Bool × List (List Nat × List Nat) := (true, [([], []), ([0], [0]), ([1], [1]), ([], []), ([3], [3]), ([4, 2], [4]), ([5, 5], [5]), ([6], [6]), ([7, 6], [6, 7]), ([8, 6], [6, 8]), ([6, 9], [6, 9]), ([2, 6, 0, 1, 2], [2]), ([10, 11, 0, 1, 2, 3, 4, 5, 6, 7, 8, 9, 10, 11], [10])])
def quic_one.B5 : List Nat := [0, 1, 3, 0, 8, 31, 63, 127, 255, 511, 1023, 127, 4095]
theorem quic_one.tab5 : rtab .any (opsOf Tryz.f169 5) = quic_one.T5 := by kernel_rfl
theorem quic_one.bits5 : waitsOk quic_one.T5.2 quic_one.B5 = true := by kernel_rfl
def quic_one.T7 : Bool × List (List Nat × List Nat) := (true, [([], []), ([0], [0]), ([1], [1]), ([2], [2]), ([3], [3]), ([4], [4]), ([], []), ([6], [6]), ([7], [7]), ([8], [8]), ([9], [9]), ([10, 9], [9, 10]), ([11, 9], [9, 11]), ([9, 12], [9, 12]), ([13, 9], [13]), ([14], [14]), ([15, 14], [14, 15]), ([16, 14], [14, 16]), ([14, 17], [14, 17]), ([5, 14, 0, 1, 2, 3, 4, 5], [5]), ([18, 19, 0, 1, 2, 3, 4, 5, 6, 7, 8, 9, 10, 11, 12, 13, 14, 15, 16, 17, 18, 19], [18])])
def quic_one.B7 : List Nat := [0, 1, 3, 7, 15, 31, 0, 64, 192, 448, 960, 1984, 4032, 8128, 16320, 32704, 65472, 131008, 262080, 32767, 1048575]
theorem quic_one.tab7 : rtab .any (opsOf Tryz.f169 7) = quic_one.T7 := by kernel_rfl
theorem quic_one.bits7 : waitsOk quic_one.T7.2 quic_one.B7 = true := by kernel_rfl
def quic_one.T9 : Bool × List (List Nat × List Nat) := (true, [([], []), ([0], [0]), ([1], [1]), ([], []), ([3], [3]), ([4], [4]), ([5], [5]), ([6, 2], [6]), ([7], [7]), ([8, 7], [7, 8]), ([9, 7], [7, 9]), ([7, 10], [7, 10]), ([2, 7, 0, 1, 2], [2]), ([11, 12, 0, 1, 2, 3, 4, 5, 6, 7, 8, 9, 10, 11, 12], [11])])
def quic_one.B9 : List Nat := [0, 1, 3, 0, 8, 24, 56, 127, 255, 511, 1023, 2047, 255, 8191]
theorem quic_one.tab9 : rtab .any (opsOf Tryz.f169 9) = quic_one.T9 := by kernel_rfl
theorem quic_one.bits9 : waitsOk quic_one.T9.2 quic_one.B9 = true := by kernel_rfl
theorem quic_one.calls (k : Nat) (a0_0 : Int) (a0_1 : Int) (a0_2 : ByteArray) (r1 : ByteArray) (r2 : Bool) (w : World) (h : quic_one.f k a0_0 a0_1 a0_2 = some (r1, r2)) :
  Calls Tryz.prog 169 #[.agg #[.int .i64 a0_0, .int .i64 a0_1, .string a0_2]] w fun e w' => e = .returned (.tuple #[.string r1, .bool r2]) ∧ Below w.heap.size w w' := by
 have hu147 := Tryz.underlying147; have HB := aM (Below.refl w.heap.size w); unfold quic_one.f at h; have H := h; clear h; revert H; refine itQ ?L19p ?L19n
 case' L19p =>
  rintro ⟨c2b0, c2b1⟩ H; replace H := bnA H; obtain ⟨t471, A3, H⟩ := H; revert H; refine itR ?L20p ?L20n
  case' L20p =>
   intro c4 H; have c4b0 := geT c4; clear c4; revert H; refine itR ?L21p ?L21n
   case' L21p =>
    intro c5 H; have c5b0 := dT c5; clear c5; obtain ⟨rfl, rfl⟩ := sJ2 H; have M1 := trivial; have M2 := trivial; have M3 := trivial; have M4 := trivial
   case' L21n =>
    intro c5 H; have c5b0 := dF c5; clear c5; obtain ⟨rfl, rfl⟩ := sJ2 H; have M1 := trivial; have M2 := trivial; have M3 := trivial; have M5 := trivial
  case' L20n =>
   intro c4 H; have c4b0 := geF c4; clear c4; obtain ⟨rfl, rfl⟩ := sJ2 H; have M1 := trivial; have M2 := trivial; have M6 := trivial
 case' L19n =>
  rintro ⟨c2b0, c2b1⟩ c2 H; revert H; refine itQ ?L22p ?L22n
  case' L22p =>
   rintro ⟨c3b0, c3b1⟩ H; replace H := bnA H; obtain ⟨t472, A4, H⟩ := H; replace H := bnA H; obtain ⟨t473, A5, H⟩ := H; revert H; refine itR ?L23p ?L23n
   case' L23p =>
    intro c6 H; subst c6; obtain ⟨rfl, rfl⟩ := sJ2 H; have M1 := trivial; have M7 := trivial; have M8 := trivial
   case' L23n =>
    intro c6 H; replace c6 := Bool.eq_false_iff.mpr c6; subst c6; obtain ⟨rfl, rfl⟩ := sJ2 H; have M1 := trivial; have M7 := trivial; have M9 := trivial
  case' L22n =>
   rintro ⟨c3b0, c3b1⟩ c3 H; revert H; refine itQ ?L24p ?L24n
   case' L24p =>
    rintro ⟨c4b0, c4b1⟩ H
    first | ((with_reducible replace H := bsG H); obtain ⟨y474, Ny474, H⟩ := H) | (obtain ⟨y474, hy474⟩ : ∃ y_ : List Int, y_ = (([(Go.bits .and .i64 a0_1 1) % 256] : List Int)) := ⟨_, rfl⟩; rw [← hy474] at H; have Ny474 := aM hy474; clear hy474)
    revert H; refine itQ ?L25p ?L25n
    case' L25p =>
     rintro ⟨c5b0, c5b1⟩ H; obtain ⟨rfl, rfl⟩ := sJ2 H; have M1 := trivial; have M10 := trivial; have M11 := trivial
    case' L25n =>
     rintro ⟨c5b0, c5b1⟩ c5 H; revert H; refine itQ ?L26p ?L26n
     case' L26p =>
      rintro ⟨c6b0, c6b1⟩ H; obtain ⟨rfl, rfl⟩ := sJ2 H; have M1 := trivial; have M10 := trivial; have M12 := trivial; have M13 := trivial
     case' L26n =>
      rintro ⟨c6b0, c6b1⟩ c6 H; obtain ⟨rfl, rfl⟩ := sJ2 H; have M1 := trivial; have M10 := trivial; have M12 := trivial; have M14 := trivial
   case' L24n =>
    rintro ⟨c4b0, c4b1⟩ c4 H; revert H; refine itQ ?L27p ?L27n
    case' L27p =>
     rintro ⟨c5b0, c5b1⟩ H; replace H := bnA H; obtain ⟨t477, A6, H⟩ := H; revert H; refine itR ?L28p ?L28n
     case' L28p =>
      intro c7 H; have c7b0 := dT c7; have c7b1 : decide (a0_2.size ≤ 65536) = true := dT (by omega); clear c7; obtain ⟨rfl, rfl⟩ := sJ2 H; have M1 := trivial; have M15 := trivial; have M16 := trivial
     case' L28n =>
      intro c7 H; have c7b0 := dF c7; have c7b1 : decide (a0_2.size ≤ 65536) = false := dF (by omega); clear c7; obtain ⟨rfl, rfl⟩ := sJ2 H; have M1 := trivial; have M15 := trivial; have M17 := trivial
    case' L27n =>
     rintro ⟨c5b0, c5b1⟩ c5 H; obtain ⟨rfl, rfl⟩ := sJ2 H; have M18 := trivial
 all_goals
  case _ =>
   go_enter Tryz.func169, Tryz.ntmps169; try go_wp2_with (first | ((with_reducible refine gate_dst (N := 1) rfl ?_); refine boxB 1 #[.int .i64 a0_0, .int .i64 a0_1, .string a0_2] 147 HB ?_; clear HB; intro gb470 w101 BK470 GW470 GE470 HB; obtain ⟨hcz102_0, hcz102_1, hcz102_2⟩ := cel3 BK470.out; obtain ⟨hfz102_0, hfz102_1, hfz102_2⟩ := frz3 BK470.out))
   first
    | clear M1
      replace BK470 := aM (blk_drew BK470.out); replace HB := aM (below_drew1 HB.out)
      first
       | clear M2
         refine start_ (n := 18) (S := fun w' => w'.cell? ⟨gb470, 0, none⟩ = some (.int .i64 a0_0) ∧ w'.cell? ⟨gb470, 1, none⟩ = some (.int .i64 a0_1) ∧ w'.cell? ⟨gb470, 2, none⟩ = some (.string a0_2)) (ds := []) (mkB 18 0) (by kernel_rfl) rfl rfl (ce3 BK470.out) (fun hHeld => ?_); refine with_tabW quic_one.tab3 quic_one.bits3 (fun HT_ HW_ => ?_)
         generalize w101.drew = w103 at BK470 HB hHeld ⊢
         refine pureA 0 (some 8) (mkB 18 1) ?_; refine pureA 3 (some 11) (mkB 18 9) ?_; refine takeA 1 (some 9) (mkB 18 11) ?_ rfl (Or.inl ⟨by rfl, by rintro w' ⟨s0, s1, s2⟩; go_simp; with_reducible rfl⟩); refine takeA 4 (some 12) (mkB 18 27) ?_ rfl (Or.inl ⟨by rfl, by rintro w' ⟨s0, s1, s2⟩; go_simp; with_reducible rfl⟩); refine pureA 5 (some 13) (mkB 18 59) ?_; refine oneA 2 (some 10) (mkB 18 63) (fun K hK => ?_); refine goesS Tryz.func105 #[.int .i64 a0_1] ?_
         with_reducible refine (quic_Num.calls _ _ _ _ A3.out).mono ?_
         rintro e w104 ⟨rfl, hb⟩; refine ⟨_, rfl, ?_⟩; replace BK470 := aM (bkB BK470 hb); replace HB := aM (below_step (bwA) hb)
         (try clear hb)
         refine hK.out _ _ (ce3 BK470.out) (fun hHeld => ?_); clear hK K; refine normA ?_; refine pureA 6 (some 14) (mkB 18 127) ?_
         first
          | clear M3
            refine pureA 7 (some 15) (mkB 18 255) ?_; refine takeA 8 (some 16) (mkB 18 511) ?_ rfl (Or.inl ⟨by rfl, by rintro w' ⟨s0, s1, s2⟩; go_simp; with_reducible rfl⟩); refine pureA 9 (some 17) (mkB 18 1023) ?_; refine pureA 10 (some 18) (mkB 18 2047) ?_; refine pureA 11 (some 19) (mkB 18 4095) ?_
            first
             | clear M4
               refine pureA 12 (some 20) (mkB 18 8191) ?_; refine pureA 16 (some 2) (mkB 18 73727) ?_; refine takeA 13 (some 21) (mkB 18 81919) ?_ rfl (Or.inl ⟨by rfl, by rintro w' ⟨s0, s1, s2⟩; go_simp; with_reducible rfl⟩); refine pureA 14 (some 22) (mkB 18 98303) ?_; refine pureA 15 (some 23) (mkB 18 131071) ?_; refine pureA 17 (some 3) (mkB 18 262143) ?_; refine done_ (done_of HT_.out (by kernel_rfl)) ?_; try go_wp2
               go_ret2
               exact ⟨endA, bwA⟩
             | clear M5
               refine pureU 12 (some 20) (mkB 18 8191) ?_; refine pureU 13 (some 21) (mkB 18 16383) ?_; refine pureU 14 (some 22) (mkB 18 32767) ?_; refine pureA 15 (some 23) (mkB 18 65535) ?_; refine pureA 16 (some 2) (mkB 18 131071) ?_; refine pureA 17 (some 3) (mkB 18 262143) ?_; refine done_ (done_of HT_.out (by kernel_rfl)) ?_; try go_wp2
               go_ret2
               exact ⟨endA, bwA⟩
          | clear M6
            refine pureU 7 (some 15) (mkB 18 255) ?_; refine pureU 8 (some 16) (mkB 18 511) ?_; refine pureU 9 (some 17) (mkB 18 1023) ?_; refine pureA 10 (some 18) (mkB 18 2047) ?_; refine pureA 11 (some 19) (mkB 18 4095) ?_; refine pureU 12 (some 20) (mkB 18 8191) ?_; refine pureU 13 (some 21) (mkB 18 16383) ?_; refine pureU 14 (some 22) (mkB 18 32767) ?_; refine pureA 15 (some 23) (mkB 18 65535) ?_; refine pureA 16 (some 2) (mkB 18 131071) ?_; refine pureA 17 (some 3) (mkB 18 262143) ?_; refine done_ (done_of HT_.out (by kernel_rfl)) ?_; try go_wp2
            go_ret2
            exact ⟨endA, bwA⟩
       | clear M7
         refine start_ (n := 13) (S := fun w' => w'.cell? ⟨gb470, 0, none⟩ = some (.int .i64 a0_0) ∧ w'.cell? ⟨gb470, 1, none⟩ = some (.int .i64 a0_1) ∧ w'.cell? ⟨gb470, 2, none⟩ = some (.string a0_2)) (ds := []) (mkB 13 0) (by kernel_rfl) rfl rfl (ce3 BK470.out) (fun hHeld => ?_); refine with_tabW quic_one.tab5 quic_one.bits5 (fun HT_ HW_ => ?_)
         generalize w101.drew = w103 at BK470 HB hHeld ⊢
         refine pureA 0 (some 26) (mkB 13 1) ?_; refine pureA 3 (some 29) (mkB 13 9) ?_; refine takeA 1 (some 27) (mkB 13 11) ?_ rfl (Or.inl ⟨by rfl, by rintro w' ⟨s0, s1, s2⟩; go_simp; with_reducible rfl⟩); refine takeA 4 (some 30) (mkB 13 27) ?_ rfl (Or.inl ⟨by rfl, by rintro w' ⟨s0, s1, s2⟩; go_simp; with_reducible rfl⟩); refine oneA 2 (some 28) (mkB 13 31) (fun K hK => ?_); refine goesS Tryz.func221 #[.int .i64 a0_1] ?_
         with_reducible refine (quic_Whole.calls _ _ _ _ A4.out).mono ?_
         rintro e w104 ⟨rfl, hb⟩; refine ⟨_, rfl, ?_⟩; replace BK470 := aM (bkB BK470 hb); replace HB := aM (below_step (bwA) hb)
         (try clear hb)
         refine hK.out _ _ (ce3 BK470.out) (fun hHeld => ?_); clear hK K; refine normA ?_; refine oneA 5 (some 31) (mkB 13 63) (fun K hK => ?_); refine goesS Tryz.func222 #[.int .i64 a0_1] ?_
         with_reducible refine (quic_whole.calls _ _ _ A5.out).mono ?_
         rintro e w' ⟨rfl, ⟨nd, rfl⟩⟩; refine ⟨_, rfl, ?_⟩; refine hK.out _ _ (ce3 BK470.out) (fun hHeld => ?_); clear hK K; refine normA ?_; refine pureA 6 (some 32) (mkB 13 127) ?_
         first
          | clear M8
            refine pureA 7 (some 33) (mkB 13 255) ?_; refine pureA 11 (some 2) (mkB 13 2303) ?_; refine takeA 8 (some 34) (mkB 13 2559) ?_ rfl (Or.inl ⟨by rfl, by rintro w' ⟨s0, s1, s2⟩; go_simp; with_reducible rfl⟩); refine pureA 9 (some 35) (mkB 13 3071) ?_; refine pureA 10 (some 36) (mkB 13 4095) ?_; refine pureA 12 (some 3) (mkB 13 8191) ?_; refine done_ (done_of HT_.out (by kernel_rfl)) ?_; try go_wp2
            go_ret2
            exact ⟨endA, bwA⟩
          | clear M9
            refine pureU 7 (some 33) (mkB 13 255) ?_; refine pureU 8 (some 34) (mkB 13 511) ?_; refine pureU 9 (some 35) (mkB 13 1023) ?_; refine pureA 10 (some 36) (mkB 13 2047) ?_; refine pureA 11 (some 2) (mkB 13 4095) ?_; refine pureA 12 (some 3) (mkB 13 8191) ?_; refine done_ (done_of HT_.out (by kernel_rfl)) ?_; try go_wp2
            go_ret2
            exact ⟨endA, bwA⟩
       | clear M10
         refine start_ (n := 21) (S := fun w' => w'.cell? ⟨gb470, 0, none⟩ = some (.int .i64 a0_0) ∧ w'.cell? ⟨gb470, 1, none⟩ = some (.int .i64 a0_1) ∧ w'.cell? ⟨gb470, 2, none⟩ = some (.string a0_2)) (ds := []) (mkB 21 0) (by kernel_rfl) rfl rfl (ce3 BK470.out) (fun hHeld => ?_); refine with_tabW quic_one.tab7 quic_one.bits7 (fun HT_ HW_ => ?_)
         generalize w101.drew = w103 at BK470 HB hHeld ⊢
         refine pureA 0 (some 39) (mkB 21 1) ?_; refine pureA 6 (some 45) (mkB 21 65) ?_; refine takeA 1 (some 40) (mkB 21 67) ?_ rfl (Or.inl ⟨by rfl, by rintro w' ⟨s0, s1, s2⟩; go_simp; with_reducible rfl⟩); refine pureA 2 (some 41) (mkB 21 71) ?_; refine pureA 3 (some 42) (mkB 21 79) ?_; refine takeA 7 (some 46) (mkB 21 207) ?_ rfl (Or.inl ⟨by rfl, by rintro w' ⟨s0, s1, s2⟩; go_simp; with_reducible rfl⟩); refine pureA 8 (some 47) (mkB 21 463) ?_; refine pureA 9 (some 48) (mkB 21 975) ?_
         first
          | clear M11
            refine pureU 10 (some 49) (mkB 21 1999) ?_; refine pureU 11 (some 50) (mkB 21 4047) ?_; refine pureU 12 (some 51) (mkB 21 8143) ?_; refine pureA 13 (some 52) (mkB 21 16335) ?_; refine pureA 14 (some 53) (mkB 21 32719) ?_; refine pureA 15 (some 54) (mkB 21 65487) ?_; refine takeA 16 (some 55) (mkB 21 131023) ?_ rfl (Or.inl ⟨by rfl, by rintro w' ⟨s0, s1, s2⟩; go_simp; with_reducible rfl⟩); refine pureA 17 (some 56) (mkB 21 262095) ?_; refine pureA 18 (some 57) (mkB 21 524239) ?_; refine oneA 4 (some 43) (mkB 21 524255) (fun K hK => ?_); refine Kd.R_lit_step (Kd.int .u8) _ 5 ?hg (N := 43) ?hd (xs := ([(Go.bits .and .i64 a0_1 1) % 256] : List Int)) (inner := [.int .u8 ((Go.bits .and .i64 a0_1 1) % 256)]) (ok := fun _ => True) (okp := fun _ => True) ?hr ?hp (fun _ hk => hk) trivial (Below.refl _ _) (Nat.le_refl _) (by simp) ?_; (case hd => rfl); (case hg => rfl); (case hr => first | (go_simp; done) | (go_simp; rfl)); (case hp => exact (Reps.one (show Kd.M (Kd.int .u8) _ _ _ ((Go.bits .and .i64 a0_1 1) % 256) [.int .u8 ((Go.bits .and .i64 a0_1 1) % 256)] from rfl) (Reps.none _ _)))
            intro v475 w104 ho105 hb hg_ hnew_; clear hg_ hnew_
            (first | rw [← Ny474.out] at ho105 | (simp only [Int.reduceToNat] at ho105; rw [← Ny474.out] at ho105))
            have HO476 := aM (Kd.R_lower ho105 (below_size (bwA))); replace BK470 := aM (bkB BK470 hb); replace HB := aM (below_step (bwA) hb); clear hb ho105; refine hK.out _ _ (ce3 BK470.out) (fun hHeld => ?_); clear hK K; refine normA ?_; refine oneA 5 (some 44) (mkB 21 524287) (fun K hK => ?_); have hcv106 := own_string (P := Tryz.prog) Tryz.underlying160 Tryz.underlying5 Tryz.underlying9 (Kd.own_of_R HO476.out); refine value_ (w1 := ?_) (v := ?_) (by rfl) rfl ?_ ?_; rotate_left 2
            ·go_simp
             constructor
             ·rfl
             ·rfl
            clear hcv106; refine hK.out _ _ (ce3 BK470.out) (fun hHeld => ?_); clear hK K; refine normA ?_; refine pureA 19 (some 2) (mkB 21 1048575) ?_; refine pureA 20 (some 3) (mkB 21 2097151) ?_; refine done_ (done_of HT_.out (by kernel_rfl)) ?_; try go_wp2
            go_ret2
            exact ⟨endA, bwA⟩
          | clear M12
            refine pureA 10 (some 49) (mkB 21 1999) ?_; refine takeA 11 (some 50) (mkB 21 4047) ?_ rfl (Or.inl ⟨by rfl, by rintro w' ⟨s0, s1, s2⟩; go_simp; with_reducible rfl⟩); refine pureA 12 (some 51) (mkB 21 8143) ?_; refine pureA 13 (some 52) (mkB 21 16335) ?_; refine pureA 14 (some 53) (mkB 21 32719) ?_
            first
             | clear M13
               refine pureA 15 (some 54) (mkB 21 65487) ?_; refine takeA 16 (some 55) (mkB 21 131023) ?_ rfl (Or.inl ⟨by rfl, by rintro w' ⟨s0, s1, s2⟩; go_simp; with_reducible rfl⟩); refine pureA 17 (some 56) (mkB 21 262095) ?_; refine pureA 18 (some 57) (mkB 21 524239) ?_; refine oneA 4 (some 43) (mkB 21 524255) (fun K hK => ?_); refine Kd.R_lit_step (Kd.int .u8) _ 5 ?hg (N := 43) ?hd (xs := ([(Go.bits .and .i64 a0_1 1) % 256] : List Int)) (inner := [.int .u8 ((Go.bits .and .i64 a0_1 1) % 256)]) (ok := fun _ => True) (okp := fun _ => True) ?hr ?hp (fun _ hk => hk) trivial (Below.refl _ _) (Nat.le_refl _) (by simp) ?_; (case hd => rfl); (case hg => rfl); (case hr => first | (go_simp; done) | (go_simp; rfl)); (case hp => exact (Reps.one (show Kd.M (Kd.int .u8) _ _ _ ((Go.bits .and .i64 a0_1 1) % 256) [.int .u8 ((Go.bits .and .i64 a0_1 1) % 256)] from rfl) (Reps.none _ _)))
               intro v475 w104 ho105 hb hg_ hnew_; clear hg_ hnew_
               (first | rw [← Ny474.out] at ho105 | (simp only [Int.reduceToNat] at ho105; rw [← Ny474.out] at ho105))
               have HO476 := aM (Kd.R_lower ho105 (below_size (bwA))); replace BK470 := aM (bkB BK470 hb); replace HB := aM (below_step (bwA) hb); clear hb ho105; refine hK.out _ _ (ce3 BK470.out) (fun hHeld => ?_); clear hK K; refine normA ?_; refine oneA 5 (some 44) (mkB 21 524287) (fun K hK => ?_); have hcv106 := own_string (P := Tryz.prog) Tryz.underlying160 Tryz.underlying5 Tryz.underlying9 (Kd.own_of_R HO476.out); refine value_ (w1 := ?_) (v := ?_) (by rfl) rfl ?_ ?_; rotate_left 2
               ·go_simp
                constructor
                ·rfl
                ·rfl
               clear hcv106; refine hK.out _ _ (ce3 BK470.out) (fun hHeld => ?_); clear hK K; refine normA ?_; refine pureA 19 (some 2) (mkB 21 1048575) ?_; refine pureA 20 (some 3) (mkB 21 2097151) ?_; refine done_ (done_of HT_.out (by kernel_rfl)) ?_; try go_wp2
               go_ret2
               exact ⟨endA, bwA⟩
             | clear M14
               refine pureU 15 (some 54) (mkB 21 65487) ?_; refine pureU 16 (some 55) (mkB 21 131023) ?_; refine pureU 17 (some 56) (mkB 21 262095) ?_; refine pureA 18 (some 57) (mkB 21 524239) ?_; refine oneA 4 (some 43) (mkB 21 524255) (fun K hK => ?_); refine Kd.R_lit_step (Kd.int .u8) _ 5 ?hg (N := 43) ?hd (xs := ([(Go.bits .and .i64 a0_1 1) % 256] : List Int)) (inner := [.int .u8 ((Go.bits .and .i64 a0_1 1) % 256)]) (ok := fun _ => True) (okp := fun _ => True) ?hr ?hp (fun _ hk => hk) trivial (Below.refl _ _) (Nat.le_refl _) (by simp) ?_; (case hd => rfl); (case hg => rfl); (case hr => first | (go_simp; done) | (go_simp; rfl)); (case hp => exact (Reps.one (show Kd.M (Kd.int .u8) _ _ _ ((Go.bits .and .i64 a0_1 1) % 256) [.int .u8 ((Go.bits .and .i64 a0_1 1) % 256)] from rfl) (Reps.none _ _)))
               intro v475 w104 ho105 hb hg_ hnew_; clear hg_ hnew_
               (first | rw [← Ny474.out] at ho105 | (simp only [Int.reduceToNat] at ho105; rw [← Ny474.out] at ho105))
               have HO476 := aM (Kd.R_lower ho105 (below_size (bwA))); replace BK470 := aM (bkB BK470 hb); replace HB := aM (below_step (bwA) hb); clear hb ho105; refine hK.out _ _ (ce3 BK470.out) (fun hHeld => ?_); clear hK K; refine normA ?_; refine oneA 5 (some 44) (mkB 21 524287) (fun K hK => ?_); have hcv106 := own_string (P := Tryz.prog) Tryz.underlying160 Tryz.underlying5 Tryz.underlying9 (Kd.own_of_R HO476.out); refine value_ (w1 := ?_) (v := ?_) (by rfl) rfl ?_ ?_; rotate_left 2
               ·go_simp
                constructor
                ·rfl
                ·rfl
               clear hcv106; refine hK.out _ _ (ce3 BK470.out) (fun hHeld => ?_); clear hK K; refine normA ?_; refine pureA 19 (some 2) (mkB 21 1048575) ?_; refine pureA 20 (some 3) (mkB 21 2097151) ?_; refine done_ (done_of HT_.out (by kernel_rfl)) ?_; try go_wp2
               go_ret2
               exact ⟨endA, bwA⟩
       | clear M15
         refine start_ (n := 14) (S := fun w' => w'.cell? ⟨gb470, 0, none⟩ = some (.int .i64 a0_0) ∧ w'.cell? ⟨gb470, 1, none⟩ = some (.int .i64 a0_1) ∧ w'.cell? ⟨gb470, 2, none⟩ = some (.string a0_2)) (ds := []) (mkB 14 0) (by kernel_rfl) rfl rfl (ce3 BK470.out) (fun hHeld => ?_); refine with_tabW quic_one.tab9 quic_one.bits9 (fun HT_ HW_ => ?_)
         generalize w101.drew = w103 at BK470 HB hHeld ⊢
         refine pureA 0 (some 60) (mkB 14 1) ?_; refine pureA 3 (some 63) (mkB 14 9) ?_; refine takeA 1 (some 61) (mkB 14 11) ?_ rfl (Or.inl ⟨by rfl, by rintro w' ⟨s0, s1, s2⟩; go_simp; with_reducible rfl⟩); refine takeA 4 (some 64) (mkB 14 27) ?_ rfl (Or.inl ⟨by rfl, by rintro w' ⟨s0, s1, s2⟩; go_simp; with_reducible rfl⟩); refine pureA 5 (some 65) (mkB 14 59) ?_; refine pureA 6 (some 66) (mkB 14 123) ?_; refine oneA 2 (some 62) (mkB 14 127) (fun K hK => ?_); refine goesS Tryz.func168 #[.string a0_2] ?_
         with_reducible refine (quic_text.calls _ _ _ _ A6.out).mono ?_
         rintro e w104 ⟨rfl, hb⟩; refine ⟨_, rfl, ?_⟩; replace BK470 := aM (bkB BK470 hb); replace HB := aM (below_step (bwA) hb)
         (try clear hb)
         refine hK.out _ _ (ce3 BK470.out) (fun hHeld => ?_); clear hK K; refine normA ?_; refine pureA 7 (some 67) (mkB 14 255) ?_
         first
          | clear M16
            refine pureA 8 (some 68) (mkB 14 511) ?_; refine pureA 12 (some 2) (mkB 14 4607) ?_; refine takeA 9 (some 69) (mkB 14 5119) ?_ rfl (Or.inl ⟨by rfl, by rintro w' ⟨s0, s1, s2⟩; go_simp; with_reducible rfl⟩); refine pureA 10 (some 70) (mkB 14 6143) ?_; refine pureA 11 (some 71) (mkB 14 8191) ?_; refine pureA 13 (some 3) (mkB 14 16383) ?_; refine done_ (done_of HT_.out (by kernel_rfl)) ?_; try go_wp2
            go_ret2
            exact ⟨endA, bwA⟩
          | clear M17
            refine pureU 8 (some 68) (mkB 14 511) ?_; refine pureU 9 (some 69) (mkB 14 1023) ?_; refine pureU 10 (some 70) (mkB 14 2047) ?_; refine pureA 11 (some 71) (mkB 14 4095) ?_; refine pureA 12 (some 2) (mkB 14 8191) ?_; refine pureA 13 (some 3) (mkB 14 16383) ?_; refine done_ (done_of HT_.out (by kernel_rfl)) ?_; try go_wp2
            go_ret2
            exact ⟨endA, bwA⟩
    | clear M18
      go_ret2
      exact ⟨endA, bwA⟩
end Go.Proofs.YtkdndabpaajkaaaGreatDoor.A
