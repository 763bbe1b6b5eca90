import Derived.Test.YtkdndabpaajkaaaGreatDoorAx0
import Derived.Test.YtkdndabpaajkaaaGreatDoorAx12
import Derived.Test.YtkdndabpaajkaaaGreatDoorAx14
import Derived.Test.YtkdndabpaajkaaaGreatDoorAx16
import Derived.Test.YtkdndabpaajkaaaGreatDoorAx17
import Derived.Test.YtkdndabpaajkaaaGreatDoorAx18
namespace Go.Proofs.YtkdndabpaajkaaaGreatDoor.A
open Go.RowKit Go.Proofs.YtkdndabpaajkaaaGreatDoorW.PrintWords Go.Proofs.YtkdndabpaajkaaaGreatDoorW.PrintLast Go.Proofs.YtkdndabpaajkaaaGreatDoorW.PrintMore
attribute [local go_sem] max2_int min2_int max_two min_two max_three min_three max_four min_four   -- for this text's walks alone
set_option linter.unusedVariables false
set_option linter.unusedSimpArgs false
set_option maxHeartbeats 8000000
set_option maxRecDepth 100000
mutual
def R03_Show.j0 : Nat → Bool → Int → Int → ByteArray → Option (ByteArray)
 | 0, _, _, _, _ => none
 | k + 1, x18, x442000, x442001, x442002 => if x18 = true then ((R03_Digits.f k (wrap64 (-x442001))).bind fun t443 => (if 1 + t443.size ≤ 9223372036854775807 then (some ((⟨#[45]⟩ : ByteArray) ++ t443)) else (none))) else (if x442000 = 1 then ((R03_Digits.f k x442001).bind fun t444 => (some t444)) else (if x442000 = 3 then (R03_Show.j1 k (x442001 == 1) x442000 x442001 x442002) else (R03_Show.j1 k false x442000 x442001 x442002)))
def R03_Show.j1 : Nat → Bool → Int → Int → ByteArray → Option (ByteArray)
 | 0, _, _, _, _ => none
 | k + 1, x37, x442000, x442001, x442002 => if x37 = true then (some (⟨#[116, 114, 117, 101]⟩ : ByteArray)) else (if x442000 = 3 then (some (⟨#[102, 97, 108, 115, 101]⟩ : ByteArray)) else (if x442000 = 4 then (R03_Show.l0 k (⟨#[120, 39]⟩ : ByteArray) 0 x442000 x442001 x442002) else ((R02_Runes.f k x442002).bind fun t447 => (R03_Show.l1 k t447 (⟨#[34]⟩ : ByteArray) 0))))
def R03_Show.l0 : Nat → ByteArray → Int → Int → Int → ByteArray → Option (ByteArray)
 | 0, _, _, _, _, _ => none
 | k + 1, x3, x4, x442000, x442001, x442002 => if x4 < (x442002.size : Int) then (if 0 ≤ x4 then ((R03_Hex.f (wrap64 (Int.tdiv (wrap64 (bt x442002 x4)) 16))).bind fun t445 => (if x3.size + t445.size ≤ 9223372036854775807 then ((R03_Hex.f (Int.tmod (wrap64 (bt x442002 x4)) 16)).bind fun t446 => (if (x3 ++ t445).size + t446.size ≤ 9223372036854775807 then (R03_Show.l0 k ((x3 ++ t445) ++ t446) (wrap64 (x4 + 1)) x442000 x442001 x442002) else (none))) else (none))) else (none)) else (if x3.size + 1 ≤ 9223372036854775807 then (some (x3 ++ (⟨#[39]⟩ : ByteArray))) else (none))
def R03_Show.l1 : Nat → List Int → ByteArray → Int → Option (ByteArray)
 | 0, _, _, _ => none
 | k + 1, x5, x6, x7 => if x7 < (x5.length : Int) then (if 0 ≤ x7 then ((R03_escape.f k (rd x5 x7)).bind fun t451 => (if x6.size + t451.size ≤ 9223372036854775807 then (R03_Show.l1 k x5 (x6 ++ t451) (wrap64 (x7 + 1))) else (none))) else (none)) else (if x6.size + 1 ≤ 9223372036854775807 then (some (x6 ++ (⟨#[34]⟩ : ByteArray))) else (none))
end
def R03_Show.f (k : Nat) (a0_0 : Int) (a0_1 : Int) (a0_2 : ByteArray) : Option (ByteArray) := (R03_Check.f k a0_0 a0_1 a0_2).bind fun t442 => (if t442 = true then (if a0_0 = 1 then (R03_Show.j0 k (decide (a0_1 < 0)) a0_0 a0_1 a0_2) else (R03_Show.j0 k false a0_0 a0_1 a0_2)) else (some (⟨#[]⟩ : ByteArray)))
theorem R03_Show.mono_l : ∀ k, (∀ y0 y1 y2 y3, LeO (R03_Show.j0 k y0 y1 y2 y3) (R03_Show.j0 (k + 1) y0 y1 y2 y3)) ∧ (∀ y0 y1 y2 y3, LeO (R03_Show.j1 k y0 y1 y2 y3) (R03_Show.j1 (k + 1) y0 y1 y2 y3)) ∧ (∀ y0 y1 y2 y3 y4, LeO (R03_Show.l0 k y0 y1 y2 y3 y4) (R03_Show.l0 (k + 1) y0 y1 y2 y3 y4)) ∧ (∀ y0 y1 y2, LeO (R03_Show.l1 k y0 y1 y2) (R03_Show.l1 (k + 1) y0 y1 y2))
 | 0 => ⟨fun _ _ _ _ r h => by simp [R03_Show.j0] at h, fun _ _ _ _ r h => by simp [R03_Show.j1] at h, fun _ _ _ _ _ r h => by simp [R03_Show.l0] at h, fun _ _ _ r h => by simp [R03_Show.l1] at h⟩
 | k + 1 => by
  obtain ⟨ih0, ih1, ih2, ih3⟩ := R03_Show.mono_l k; refine ⟨?_, ?_, ?_, ?_⟩
  all_goals intros
  all_goals first | unfold R03_Show.j0 | unfold R03_Show.j1 | unfold R03_Show.l0 | unfold R03_Show.l1
  all_goals repeat' (with_reducible first | exact ih0 _ _ _ _ | exact ih1 _ _ _ _ | exact ih2 _ _ _ _ _ | exact ih3 _ _ _ | exact R02_Runes.mono _ _ | exact R03_Check.mono _ _ _ _ | exact R03_Digits.mono _ _ | exact R03_escape.mono _ _ | exact LeO.refl _ | exact LeO.none _ | refine LeO.ite ?_ ?_ | refine LeO.bind ?_ (fun _ => ?_))
theorem R03_Show.mono : ∀ a0 a1 a2 k, LeO (R03_Show.f k a0 a1 a2) (R03_Show.f (k + 1) a0 a1 a2) := by
 intro a0 a1 a2 k; obtain ⟨ih0, ih1, ih2, ih3⟩ := R03_Show.mono_l k; unfold R03_Show.f
 repeat' (with_reducible first | exact ih0 _ _ _ _ | exact ih1 _ _ _ _ | exact ih2 _ _ _ _ _ | exact ih3 _ _ _ | exact R02_Runes.mono _ _ | exact R03_Check.mono _ _ _ _ | exact R03_Digits.mono _ _ | exact R03_escape.mono _ _ | exact LeO.refl _ | exact LeO.none _ | refine LeO.ite ?_ ?_ | refine LeO.bind ?_ (fun _ => ?_))
def R03_Show.T16 : Bool × List (List Nat × List Nat) := (true, [([], []), ([], []), ([1], [1]), ([], []), ([2, 3], [2, 3]), ([4], [4]), ([5], [5]), ([6], [6]), ([0, 7], [0, 7]), ([], []), ([9], [9]), ([], []), ([10, 11], [10, 11]), ([12], [12]), ([13], [13]), ([14, 7], [14]), ([8, 15], [8, 15]), ([16, 15, 0, 1, 2, 3, 4, 5, 6, 7, 8, 9, 10, 11, 12, 13, 14, 15, 16], [0, 16])])
def R03_Show.B16 : List Nat := [0, 0, 2, 0, 14, 30, 62, 126, 255, 0, 512, 0, 3584, 7680, 15872, 32510, 65535, 131071]
theorem R03_Show.tab16 : rtab .any (opsOf Tryz.f117 16) = R03_Show.T16 := by kernel_rfl
theorem R03_Show.bits16 : waitsOk R03_Show.T16.2 R03_Show.B16 = true := by kernel_rfl
theorem R03_Show.calls (k : Nat) (a0_0 : Int) (a0_1 : Int) (a0_2 : ByteArray) (r : ByteArray) (w : World) (h : R03_Show.f k a0_0 a0_1 a0_2 = some r) :
  Calls Tryz.prog 117 #[.agg #[.int .i64 a0_0, .int .i64 a0_1, .string a0_2]] w fun e w' => e = .returned (.string r) ∧ Below w.heap.size w w' := by
 have hu138 := Tryz.underlying138; have HB := aM (Below.refl w.heap.size w); unfold R03_Show.f at h; have H := h; clear h; replace H := bnA H; obtain ⟨t442, A2, H⟩ := H; revert H; refine itR ?L42p ?L42n
 case' L42p =>
  intro c3 H; subst c3; have HC101 := aM H; clear H; have M40 := trivial
 case' L42n =>
  intro c3 H; replace c3 := Bool.eq_false_iff.mpr c3; subst c3; obtain rfl := sI H; have M41 := trivial
 all_goals
  case _ =>
   go_enter Tryz.func117, Tryz.ntmps117
   first
    | clear M40
      go_upto_region 3 with (first | ((with_reducible refine gate_dst (N := 1) rfl ?_); refine boxA 1 #[.int .i64 a0_0, .int .i64 a0_1, .string a0_2] 138 ?_; intro gb441 hg w102 hbox hb; have n0_ := aM (below_step (bwA) hb); have n1_ := aM (hbox); have n2_ := aM (hgW hg : w.heap.size ≤ gb441); have n3_ := aM (hgW hg : w.heap.size ≤ gb441); clear HB; have HB := n0_; have BK441 := n1_; have GW441 := n2_; have GE441 := n3_; clear n0_ n1_ n2_ n3_; clear hb hbox hg; have hcz103_0 := celA BK441.out 0 (.int .i64 a0_0); have hcz103_1 := celA BK441.out 1 (.int .i64 a0_1); have hcz103_2 := celA BK441.out 2 (.string a0_2); have hfz103_0 := blk_frozen BK441.out 0; have hfz103_1 := blk_frozen BK441.out 1; have hfz103_2 := blk_frozen BK441.out 2) | ((with_reducible refine gate_callee (f := 129) rfl ?_); refine goesA (some 9) Tryz.func129 #[.agg #[.int .i64 a0_0, .int .i64 a0_1, .string a0_2]] ?_; (with_reducible refine (R03_Check.calls _ _ _ _ _ _ A2.out).mono ?_); rintro e w104 ⟨rfl, hb⟩; refine ⟨_, rfl, ?_⟩; have n0_ := aM (bkB BK441 hb); have n1_ := aM (below_step (bwA) hb); clear BK441; clear HB; have BK441 := n0_; have HB := n1_; clear n0_ n1_; (try clear hb); (try clear hb2); (try clear hk); (try clear hi)))
      (try simp only [Act.put, List.setIfInBounds_toArray, List.set_cons_zero, List.set_cons_succ])
      go_cut [18] (fun v18 wc => ∃ (kq : Nat) (x18_100 : Bool), v18 = .bool x18_100 ∧ Aside0 (R03_Show.j0 kq x18_100 a0_0 a0_1 a0_2 = some r) ∧ Aside0 (kq ≤ k) ∧ Aside0 (wc.heap[gb441]? = some (.cells #[.int .i64 a0_0, .int .i64 a0_1, .string a0_2] 138 (0, 0))) ∧ Aside0 (Below w.heap.size w wc))
      case first =>
       have H := HC101.out; clear HC101; revert H; refine itQ ?L3p ?L3n
       case' L3p =>
        rintro ⟨c105b0, c105b1⟩ H
        (first | rw [c105b0] | (simp only [i64_w, i32_w]; rw [c105b0]) | skip)
        have H' := aM H; clear H; have M1 := trivial
       case' L3n =>
        rintro ⟨c105b0, c105b1⟩ c105 H
        (first | rw [c105b0] | (simp only [i64_w, i32_w]; rw [c105b0]) | skip)
        have H' := aM H; clear H; have M2 := trivial
       all_goals
        case _ =>
         obtain ⟨hcz201_0, hcz201_1, hcz201_2⟩ := cel3 BK441.out; obtain ⟨hfz201_0, hfz201_1, hfz201_2⟩ := frz3 BK441.out; go_wp2
         go_meet
         first
          | clear M1
            case rel => exact ⟨_, (decide (a0_1 < 0)), (endS), H', ⟨by first | omega | exact Nat.le_refl _⟩, ⟨blkZ⟩, ⟨bwA⟩⟩
          | clear M2
            case rel => exact ⟨_, (false), (endS), H', ⟨by first | omega | exact Nat.le_refl _⟩, ⟨blkZ⟩, ⟨bwA⟩⟩
      case rest =>
       clear HC101; (try clear c1); (try clear p2); (try clear c3); (try clear c10); (try clear c11); (try clear c12); (try clear hcz103_0); (try clear hcz103_1); (try clear hcz103_2); (try clear hcz201_0); (try clear hcz201_1); (try clear hcz201_2); (try clear hfz103_0); (try clear hfz103_1); (try clear hfz103_2); (try clear hfz201_0); (try clear hfz201_1); (try clear hfz201_2); obtain ⟨kq, x18_100, rfl, HA, HJ100, BK441, HB⟩ := hcut
       cases kq with
       | zero => exact absurd HA.out (by simp [R03_Show.j0])
       | succ kj100 =>
        have H := HA.out; clear HA; simp only [R03_Show.j0] at H; revert H; refine itR ?L22p ?L22n
        case' L22p =>
         intro c105 H; subst c105; replace H := bnA H; obtain ⟨t443, A106, H⟩ := H; replace H := itN H; obtain ⟨c107, H⟩ := H; have c107b0 := eq_true c107; have c107b1 := dT c107; (try have c107b2 : (9223372036854775807 < 1 + t443.size) = False := eq_false (Nat.not_lt.2 c107)); obtain rfl := sI H; have M20 := trivial
        case' L22n =>
         intro c105 H; replace c105 := Bool.eq_false_iff.mpr c105; subst c105; revert H; refine itQ ?L23p ?L23n
         case' L23p =>
          rintro ⟨c106b0, c106b1⟩ H; replace H := bnA H; obtain ⟨t444, A107, H⟩ := H; obtain rfl := sI H; have M21 := trivial
         case' L23n =>
          rintro ⟨c106b0, c106b1⟩ c106 H; have HC201 := aM H; clear H; obtain ⟨hcz202_0, hcz202_1, hcz202_2⟩ := cel3 BK441.out; obtain ⟨hfz202_0, hfz202_1, hfz202_2⟩ := frz3 BK441.out; go_upto_region 7 with (fail); go_cut [37] (fun v37 wc => ∃ (kq : Nat) (x37_200 : Bool), v37 = .bool x37_200 ∧ Aside0 (R03_Show.j1 kq x37_200 a0_0 a0_1 a0_2 = some r) ∧ Aside0 (kq ≤ kj100) ∧ Aside0 (wc.heap[gb441]? = some (.cells #[.int .i64 a0_0, .int .i64 a0_1, .string a0_2] 138 (0, 0))) ∧ Aside0 (Below w.heap.size w wc))
          case first =>
           have H := HC201.out; clear HC201; revert H; refine itQ ?L26p ?L26n
           case' L26p =>
            rintro ⟨c203b0, c203b1⟩ H
            (first | rw [c203b0] | (simp only [i64_w, i32_w]; rw [c203b0]) | skip)
            have H' := aM H; clear H; have M24 := trivial
           case' L26n =>
            rintro ⟨c203b0, c203b1⟩ c203 H
            (first | rw [c203b0] | (simp only [i64_w, i32_w]; rw [c203b0]) | skip)
            have H' := aM H; clear H; have M25 := trivial
           all_goals
            case _ =>
             obtain ⟨hcz301_0, hcz301_1, hcz301_2⟩ := cel3 BK441.out; obtain ⟨hfz301_0, hfz301_1, hfz301_2⟩ := frz3 BK441.out; go_wp2
             go_meet
             first
              | clear M24
                case rel => exact ⟨_, ((a0_1 == 1)), (endS), H', ⟨by have := HJ100.out; first | omega | exact Nat.le_refl _⟩, ⟨blkZ⟩, ⟨bwA⟩⟩
              | clear M25
                case rel => exact ⟨_, (false), (endS), H', ⟨by have := HJ100.out; first | omega | exact Nat.le_refl _⟩, ⟨blkZ⟩, ⟨bwA⟩⟩
          case rest =>
           clear HC201; (try clear c1); (try clear c2); (try clear p2); (try clear c3); (try clear p6); (try clear c10); (try clear c11); (try clear c12); (try clear c20); (try clear p64); (try clear c105); (try clear c105b0); (try clear c105b1); (try clear c106); (try clear c106b0); (try clear c106b1); (try clear c107); (try clear c107b0); (try clear c107b1); (try clear c107b2); (try clear c117); (try clear c122); (try clear c129); (try clear hcz103_0); (try clear hcz103_1); (try clear hcz103_2); (try clear hcz201_0); (try clear hcz201_1); (try clear hcz201_2); (try clear hcz202_0); (try clear hcz202_1); (try clear hcz202_2); (try clear hcz301_0); (try clear hcz301_1); (try clear hcz301_2); (try clear hfz103_0); (try clear hfz103_1); (try clear hfz103_2); (try clear hfz201_0); (try clear hfz201_1); (try clear hfz201_2); (try clear hfz202_0); (try clear hfz202_1); (try clear hfz202_2); (try clear hfz301_0); (try clear hfz301_1); (try clear hfz301_2); (try clear p2); obtain ⟨kq, x37_200, rfl, HA, HJ200, BK441, HB⟩ := hcut
           cases kq with
           | zero => exact absurd HA.out (by simp [R03_Show.j1])
           | succ kj200 =>
            have H := HA.out; clear HA; simp only [R03_Show.j1] at H; revert H; refine itR ?L37p ?L37n
            case' L37p =>
             intro c203 H; subst c203; obtain rfl := sI H; go_wp2; go_ret; exact ⟨endA, bwA⟩
            case' L37n =>
             intro c203 H; replace c203 := Bool.eq_false_iff.mpr c203; subst c203; revert H; refine itQ ?L38p ?L38n
             case' L38p =>
              rintro ⟨c204b0, c204b1⟩ H; obtain rfl := sI H; have M33 := trivial; have M34 := trivial
             case' L38n =>
              rintro ⟨c204b0, c204b1⟩ c204 H; revert H; refine itQ ?L39p ?L39n
              case' L39p =>
               rintro ⟨c205b0, c205b1⟩ H; have H' := aM H; clear H; have M33 := trivial; have M35 := trivial
              case' L39n =>
               rintro ⟨c205b0, c205b1⟩ c205 H; replace H := bnA H; obtain ⟨t447, A206, H⟩ := H; have H' := aM H; clear H; have M36 := trivial
            all_goals
             case _ =>
              obtain ⟨hcz301_0, hcz301_1, hcz301_2⟩ := cel3 BK441.out; obtain ⟨hfz301_0, hfz301_1, hfz301_2⟩ := frz3 BK441.out
              first
               | clear M33
                 go_wp2
                 first
                  | clear M34
                    go_ret; exact ⟨endA, bwA⟩
                  | clear M35
                    go_loopg [3, 4] kj200 (fun kq v3 v4 w' => ∃ (x3_3 : ByteArray) (x4_3 : Int), v3 = .string x3_3 ∧ v4 = .int .i64 x4_3 ∧ Aside0 (R03_Show.l0 kq x3_3 x4_3 a0_0 a0_1 a0_2 = some r) ∧ Aside0 (kq ≤ kj200) ∧ Aside0 (w'.heap[gb441]? = some (.cells #[.int .i64 a0_0, .int .i64 a0_1, .string a0_2] 138 (0, 0))) ∧ Aside0 (Below w.heap.size w w'))
                    case atStart => exact ⟨((⟨#[120, 39]⟩ : ByteArray)), (0), (endS), (endS), H', ⟨Nat.le_refl _⟩, ⟨blkZ⟩, ⟨bwA⟩⟩
                    case round =>
                     clear H'; (try clear c1); (try clear c2); (try clear p2); (try clear c3); (try clear p6); (try clear c10); (try clear c11); (try clear c12); (try clear c20); (try clear p64); (try clear c105); (try clear c105b0); (try clear c105b1); (try clear c106); (try clear c106b0); (try clear c106b1); (try clear c107); (try clear c107b0); (try clear c107b1); (try clear c107b2); (try clear c117); (try clear c122); (try clear c129); (try clear c203); (try clear c203b0); (try clear c203b1); (try clear c204); (try clear c204b0); (try clear c204b1); (try clear c205); (try clear c205b0); (try clear c205b1); (try clear hcz103_0); (try clear hcz103_1); (try clear hcz103_2); (try clear hcz201_0); (try clear hcz201_1); (try clear hcz201_2); (try clear hcz202_0); (try clear hcz202_1); (try clear hcz202_2); (try clear hcz301_0); (try clear hcz301_1); (try clear hcz301_2); (try clear hfz103_0); (try clear hfz103_1); (try clear hfz103_2); (try clear hfz201_0); (try clear hfz201_1); (try clear hfz201_2); (try clear hfz202_0); (try clear hfz202_1); (try clear hfz202_2); (try clear hfz301_0); (try clear hfz301_1); (try clear hfz301_2); (try clear p2); (try clear p6); (try clear p64); obtain ⟨x3_3, x4_3, rfl, rfl, HA, HK3, BK441, HB⟩ := hrel
                     cases gk with
                     | zero => exact absurd HA.out (by simp [R03_Show.l0])
                     | succ k3 =>
                      have H := HA.out; clear HA; simp only [R03_Show.l0] at H; revert H; refine itR ?L29p ?L29n
                      case' L29p =>
                       intro c302 H; have c302b0 := dT c302; clear c302; replace H := itN H; obtain ⟨c303, H⟩ := H; have c303b0 := dT c303; clear c303; replace H := bnA H; obtain ⟨t445, A305, H⟩ := H; replace H := itN H; obtain ⟨c306, H⟩ := H; have c306b0 := eq_true c306; have c306b1 := dT c306; (try have c306b2 : (9223372036854775807 < x3_3.size + t445.size) = False := eq_false (Nat.not_lt.2 c306)); replace H := bnA H; obtain ⟨t446, A308, H⟩ := H; replace H := itN H; obtain ⟨c309, H⟩ := H; have c309b0 := eq_true c309; have c309b1 := dT c309; (try have c309b2 : (9223372036854775807 < (x3_3 ++ t445).size + t446.size) = False := eq_false (Nat.not_lt.2 c309)); (try have c309b3 : (9223372036854775807 < x3_3.size + t445.size + t446.size) = False := eq_false (by have zz_ := c309; simp only [ByteArray.size_append] at zz_; skip; omega)); have H' := aM H; clear H; have M27 := trivial
                      case' L29n =>
                       intro c302 H; have c302b0 := dF c302; clear c302; replace H := itN H; obtain ⟨c303, H⟩ := H; have c303b0 := eq_true c303; have c303b1 := dT c303; (try have c303b2 : (9223372036854775807 < x3_3.size + 1) = False := eq_false (Nat.not_lt.2 c303)); obtain rfl := sI H; have M28 := trivial
                      all_goals
                       case _ =>
                        obtain ⟨hcz401_0, hcz401_1, hcz401_2⟩ := cel3 BK441.out; obtain ⟨hfz401_0, hfz401_1, hfz401_2⟩ := frz3 BK441.out
                        first
                         | clear M27
                           (try go_wp2); replace BK441 := aM (blk_drew BK441.out); replace HB := aM (below_drew1 HB.out); have p304 : 0 ≤ (x4_3 : Int) := odA; have q304 : x4_3 < (a0_2.size : Int) := odA; have hx304 := bt_at a0_2 x4_3; replace p304 := eq_true p304; replace q304 := eq_true q304; have p307 : 0 ≤ (x4_3 : Int) := odA; have q307 : x4_3 < (a0_2.size : Int) := odA; have hx307 := bt_at a0_2 x4_3; replace p307 := eq_true p307; replace q307 := eq_true q307; refine start_ (n := 18) (S := fun w' => w'.cell? ⟨gb441, 0, none⟩ = some (.int .i64 a0_0) ∧ w'.cell? ⟨gb441, 1, none⟩ = some (.int .i64 a0_1) ∧ w'.cell? ⟨gb441, 2, none⟩ = some (.string a0_2)) (ds := []) (mkB 18 0) (by kernel_rfl) rfl rfl (ce3 BK441.out) (fun hHeld => ?_); refine with_tabW R03_Show.tab16 R03_Show.bits16 (fun HT_ HW_ => ?_)
                           generalize wr.drew = w402 at BK441 HB hHeld ⊢
                           refine pureA 0 (some 51) (mkB 18 1) ?_; refine pureA 1 (some 52) (mkB 18 3) ?_; refine pureA 3 (some 54) (mkB 18 11) ?_; refine pureA 9 (some 60) (mkB 18 523) ?_; refine pureA 11 (some 62) (mkB 18 2571) ?_; refine takeA 2 (some 53) (mkB 18 2575) ?_ rfl (Or.inl ⟨by rfl, by rintro w' ⟨s0, s1, s2⟩; go_simp; with_reducible rfl⟩); refine takeA 4 (some 55) (mkB 18 2591) ?_ rfl (Or.inl ⟨by rfl, by rintro w' ⟨s0, s1, s2⟩; go_simp; with_reducible rfl⟩); refine pureA 5 (some 56) (mkB 18 2623) ?_; refine pureA 6 (some 57) (mkB 18 2687) ?_; refine takeA 10 (some 61) (mkB 18 3711) ?_ rfl (Or.inl ⟨by rfl, by rintro w' ⟨s0, s1, s2⟩; go_simp; with_reducible rfl⟩); refine takeA 12 (some 63) (mkB 18 7807) ?_ rfl (Or.inl ⟨by rfl, by rintro w' ⟨s0, s1, s2⟩; go_simp; with_reducible rfl⟩); refine pureA 13 (some 64) (mkB 18 15999) ?_; refine pureA 14 (some 65) (mkB 18 32383) ?_; refine oneA 7 (some 58) (mkB 18 32511) (fun K hK => ?_); refine goesS Tryz.func181 #[.int .i64 (wrap64 (Int.tdiv (wrap64 (bt a0_2 x4_3)) 16))] ?_
                           with_reducible refine (R03_Hex.calls _ _ _ A305.out).mono ?_
                           rintro e w403 ⟨rfl, hb⟩; refine ⟨_, rfl, ?_⟩; replace BK441 := aM (bkB BK441 hb); replace HB := aM (below_step (bwA) hb)
                           (try clear hb)
                           refine hK.out _ _ (ce3 BK441.out) (fun hHeld => ?_); clear hK K; refine normA ?_; refine pureA 8 (some 59) (mkB 18 32767) ?_; refine oneA 15 (some 66) (mkB 18 65535) (fun K hK => ?_); refine goesS Tryz.func181 #[.int .i64 (Int.tmod (wrap64 (bt a0_2 x4_3)) 16)] ?_
                           with_reducible refine (R03_Hex.calls _ _ _ A308.out).mono ?_
                           rintro e w404 ⟨rfl, hb⟩; refine ⟨_, rfl, ?_⟩; replace BK441 := aM (bkB BK441 hb); replace HB := aM (below_step (bwA) hb)
                           (try clear hb)
                           refine hK.out _ _ (ce3 BK441.out) (fun hHeld => ?_); clear hK K; refine normA ?_; refine pureA 16 (some 67) (mkB 18 131071) ?_; refine pureA 17 (some 3) (mkB 18 262143) ?_; refine done_ (done_of HT_.out (by kernel_rfl)) ?_; try go_wp2
                           go_roundg k3
                           case measure => have := HJ100.out; have := HJ200.out; have := HK3.out; omega
                           case rel => exact ⟨((x3_3 ++ t445) ++ t446), (wrap64 (x4_3 + 1)), (endS), (endS), H', ⟨by have := HJ100.out; have := HJ200.out; have := HK3.out; omega⟩, ⟨blkZ⟩, ⟨bwA⟩⟩
                         | clear M28
                           go_wp2; go_ret; exact ⟨endA, bwA⟩
               | clear M36
                 try go_wp2_with (first | ((with_reducible refine gate_callee (f := 142) rfl ?_); refine goesA (some 72) Tryz.func142 #[.string a0_2] ?_; (with_reducible refine (R02_Runes.calls _ _ _ _ A206.out).mono ?_); rintro e w302 ⟨v448, rfl, ho0, hb⟩; refine ⟨_, rfl, ?_⟩; have HO449 := aM (Kd.R_lower ho0 (below_size (bwA))); replace BK441 := aM (bkB BK441 hb); replace HB := aM (below_step (bwA) hb); (try clear hb); (try clear ho0)))
                 go_loopg [6, 7] kj200 (fun kq v6 v7 w' => ∃ (x6_3 : ByteArray) (x7_3 : Int), v6 = .string x6_3 ∧ v7 = .int .i64 x7_3 ∧ Aside0 (R03_Show.l1 kq t447 x6_3 x7_3 = some r) ∧ Aside0 (kq ≤ kj200) ∧ Aside0 (Kd.R (Kd.int .i64) 3 w' w.heap.size (fun _ => True) v448 t447) ∧ Aside0 (w'.heap[gb441]? = some (.cells #[.int .i64 a0_0, .int .i64 a0_1, .string a0_2] 138 (0, 0))) ∧ Aside0 (Below w.heap.size w w'))
                 case atStart => exact ⟨((⟨#[34]⟩ : ByteArray)), (0), (endS), (endS), H', ⟨Nat.le_refl _⟩, ⟨by (with_reducible repeat (first | apply Kd.R_alloc | apply Kd.R_drewN | apply Kd.R_drew)); exact HO449.out⟩, ⟨blkZ⟩, ⟨bwA⟩⟩
                 case round =>
                  clear H'; (try clear c1); (try clear c2); (try clear p2); (try clear c3); (try clear p3); (try clear q3); (try clear hx3); (try clear p6); (try clear c10); (try clear c11); (try clear c12); (try clear c14); (try clear c18); (try clear c20); (try clear c30); (try clear p30); (try clear q30); (try clear hx30); (try clear p64); (try clear c105); (try clear c105b0); (try clear c105b1); (try clear c106); (try clear c106b0); (try clear c106b1); (try clear c107); (try clear c107b0); (try clear c107b1); (try clear c107b2); (try clear c117); (try clear c122); (try clear c129); (try clear c142); (try clear c181); (try clear c203); (try clear c203b0); (try clear c203b1); (try clear c204); (try clear c204b0); (try clear c204b1); (try clear c205); (try clear c205b0); (try clear c205b1); (try clear c302); (try clear c302b0); (try clear hcz103_0); (try clear hcz103_1); (try clear hcz103_2); (try clear hcz201_0); (try clear hcz201_1); (try clear hcz201_2); (try clear hcz202_0); (try clear hcz202_1); (try clear hcz202_2); (try clear hcz301_0); (try clear hcz301_1); (try clear hcz301_2); (try clear hcz401_0); (try clear hcz401_1); (try clear hcz401_2); (try clear hfz103_0); (try clear hfz103_1); (try clear hfz103_2); (try clear hfz201_0); (try clear hfz201_1); (try clear hfz201_2); (try clear hfz202_0); (try clear hfz202_1); (try clear hfz202_2); (try clear hfz301_0); (try clear hfz301_1); (try clear hfz301_2); (try clear hfz401_0); (try clear hfz401_1); (try clear hfz401_2); (try clear p2); (try clear p304); (try clear p307); (try clear p6); (try clear p64); (try clear q304); (try clear q307); obtain ⟨x6_3, x7_3, rfl, rfl, HA, HK3, HO_5, BK441, HB⟩ := hrel
                  cases gk with
                  | zero => exact absurd HA.out (by simp [R03_Show.l1])
                  | succ k3 =>
                   have H := HA.out; clear HA; simp only [R03_Show.l1] at H; revert H; refine itR ?L32p ?L32n
                   case' L32p =>
                    intro c303 H; have c303b0 := dT c303; clear c303; replace H := itN H; obtain ⟨c304, H⟩ := H; have c304b0 := dT c304; clear c304; replace H := bnA H; obtain ⟨t451, A305, H⟩ := H; replace H := itN H; obtain ⟨c306, H⟩ := H; have c306b0 := eq_true c306; have c306b1 := dT c306; (try have c306b2 : (9223372036854775807 < x6_3.size + t451.size) = False := eq_false (Nat.not_lt.2 c306)); have H' := aM H; clear H; have M30 := trivial
                   case' L32n =>
                    intro c303 H; have c303b0 := dF c303; clear c303; replace H := itN H; obtain ⟨c304, H⟩ := H; have c304b0 := eq_true c304; have c304b1 := dT c304; (try have c304b2 : (9223372036854775807 < x6_3.size + 1) = False := eq_false (Nat.not_lt.2 c304)); obtain rfl := sI H; have M31 := trivial
                   all_goals
                    case _ =>
                     obtain ⟨Ao401, co401, eo401⟩ := Kd.R_slice HO_5.out; subst eo401
                     first
                      | clear M30
                        have p450 : 0 ≤ (x7_3 : Int) := odA; have q450 : x7_3 < (t447.length : Int) := odA; obtain ⟨ad450, e450, hx450_0⟩ := Kd.at_int (Kd.R_reads' HO_5.out).2.2 x7_3 p450 q450
                        cases e450
                        replace p450 := eq_true p450; replace q450 := eq_true q450; try go_wp2_with (first | ((with_reducible refine gate_callee (f := 182) rfl ?_); refine goesA (some 84) Tryz.func182 #[.int .i64 (rd t447 x7_3)] ?_; (with_reducible refine (R03_escape.calls _ _ _ _ A305.out).mono ?_); rintro e w402 ⟨rfl, hb⟩; refine ⟨_, rfl, ?_⟩; replace HO_5 := aM (Kd.R_below (raA HO_5.out) hb); replace BK441 := aM (bkB BK441 hb); replace HB := aM (below_step (bwA) hb); (try clear hb)))
                        go_roundg k3
                        case measure => have := HJ100.out; have := HJ200.out; have := HK3.out; omega
                        case rel => exact ⟨(x6_3 ++ t451), (wrap64 (x7_3 + 1)), (endS), (endS), H', ⟨by have := HJ100.out; have := HJ200.out; have := HK3.out; omega⟩, ⟨by (with_reducible repeat (first | apply Kd.R_alloc | apply Kd.R_drewN | apply Kd.R_drew)); exact HO_5.out⟩, ⟨blkZ⟩, ⟨bwA⟩⟩
                      | clear M31
                        go_wp2; go_ret; exact ⟨endA, bwA⟩
        all_goals
         case _ =>
          obtain ⟨hcz201_0, hcz201_1, hcz201_2⟩ := cel3 BK441.out; obtain ⟨hfz201_0, hfz201_1, hfz201_2⟩ := frz3 BK441.out; go_wp2_with (first | ((with_reducible refine gate_callee (f := 122) rfl ?_); apply stopA; (case other => exact trivial)))
          case _ =>
           first
            | clear M20
              refine goesA (some 22) Tryz.func122 #[.int .i64 (wrap64 (-a0_1))] ?_
              (with_reducible refine (R03_Digits.calls _ _ _ _ A106.out).mono ?_)
              rintro e w202 ⟨rfl, hb⟩; refine ⟨_, rfl, ?_⟩; replace BK441 := aM (bkB BK441 hb); replace HB := aM (below_step (bwA) hb)
              (try clear hb)
              (try go_wp2_with (fail))
              go_ret; exact ⟨endA, bwA⟩
            | clear M21
              refine goesA (some 29) Tryz.func122 #[.int .i64 a0_1] ?_
              (with_reducible refine (R03_Digits.calls _ _ _ _ A107.out).mono ?_)
              rintro e w202 ⟨rfl, hb⟩; refine ⟨_, rfl, ?_⟩; replace BK441 := aM (bkB BK441 hb); replace HB := aM (below_step (bwA) hb)
              (try clear hb)
              (try go_wp2_with (fail))
              go_ret; exact ⟨endA, bwA⟩
    | clear M41
      (try go_wp2_with (first | ((with_reducible refine gate_dst (N := 1) rfl ?_); refine boxB 1 #[.int .i64 a0_0, .int .i64 a0_1, .string a0_2] 138 HB ?_; clear HB; intro gb441 w101 BK441 GW441 GE441 HB; obtain ⟨hcz102_0, hcz102_1, hcz102_2⟩ := cel3 BK441.out; obtain ⟨hfz102_0, hfz102_1, hfz102_2⟩ := frz3 BK441.out) | ((with_reducible refine gate_callee (f := 129) rfl ?_); refine goesA (some 9) Tryz.func129 #[.agg #[.int .i64 a0_0, .int .i64 a0_1, .string a0_2]] ?_; (with_reducible refine (R03_Check.calls _ _ _ _ _ _ A2.out).mono ?_); rintro e w103 ⟨rfl, hb⟩; refine ⟨_, rfl, ?_⟩; replace BK441 := aM (bkB BK441 hb); replace HB := aM (below_step (bwA) hb); (try clear hb)))); go_ret; exact ⟨endA, bwA⟩
def R06_Show.l0 : Nat → ByteArray → Int → Int → Int → Int → ByteArray → List (S140) → Option (ByteArray)
 | 0, _, _, _, _, _, _, _ => none
 | k + 1, x3, x4, x453000, x453001, x453002, x453003, x453004 => if x4 < (x453004.length : Int) then (if x3.size + 1 ≤ 9223372036854775807 then (if 0 ≤ x4 then (if (x3 ++ (⟨#[32]⟩ : ByteArray)).size + ((rd_T140 x453004 x4).f0).size ≤ 9223372036854775807 then (if ((x3 ++ (⟨#[32]⟩ : ByteArray)) ++ ((rd_T140 x453004 x4).f0)).size + 1 ≤ 9223372036854775807 then ((R03_Show.f k ((rd_T140 x453004 x4).f1.f0) ((rd_T140 x453004 x4).f1.f1) ((rd_T140 x453004 x4).f1.f2)).bind fun t457 => (if (((x3 ++ (⟨#[32]⟩ : ByteArray)) ++ ((rd_T140 x453004 x4).f0)) ++ (⟨#[61]⟩ : ByteArray)).size + t457.size ≤ 9223372036854775807 then (R06_Show.l0 k ((((x3 ++ (⟨#[32]⟩ : ByteArray)) ++ ((rd_T140 x453004 x4).f0)) ++ (⟨#[61]⟩ : ByteArray)) ++ t457) (wrap64 (x4 + 1)) x453000 x453001 x453002 x453003 x453004) else (none))) else (none)) else (none)) else (none)) else (none)) else (some x3)
def R06_Show.f (k : Nat) (a0_0 : Int) (a0_1 : Int) (a0_2 : Int) (a0_3 : ByteArray) (l0_4 : List (S140)) : Option (ByteArray) := (R06_Check.f k a0_0 a0_1 a0_2 a0_3 l0_4).bind fun t453 => (if t453 = true then ((R06_ShowID.f k a0_0 a0_1 a0_2).bind fun t454 => (if t454.size + 1 ≤ 9223372036854775807 then (if (t454 ++ (⟨#[32]⟩ : ByteArray)).size + a0_3.size ≤ 9223372036854775807 then (R06_Show.l0 k ((t454 ++ (⟨#[32]⟩ : ByteArray)) ++ a0_3) 0 a0_0 a0_1 a0_2 a0_3 l0_4) else (none)) else (none))) else (some (⟨#[]⟩ : ByteArray)))
theorem R06_Show.mono_l : ∀ k, (∀ y0 y1 y2 y3 y4 y5 y6, LeO (R06_Show.l0 k y0 y1 y2 y3 y4 y5 y6) (R06_Show.l0 (k + 1) y0 y1 y2 y3 y4 y5 y6))
 | 0 => fun _ _ _ _ _ _ _ r h => by simp [R06_Show.l0] at h
 | k + 1 => by
  have ih0 := R06_Show.mono_l k
  ·intro y0 y1 y2 y3 y4 y5 y6
   unfold R06_Show.l0
   repeat' (with_reducible first | exact ih0 _ _ _ _ _ _ _ | exact R03_Show.mono _ _ _ _ | exact R06_Check.mono _ _ _ _ _ _ | exact R06_ShowID.mono _ _ _ _ | exact LeO.refl _ | exact LeO.none _ | refine LeO.ite ?_ ?_ | refine LeO.bind ?_ (fun _ => ?_))
theorem R06_Show.mono : ∀ a0 a1 a2 a3 a4 k, LeO (R06_Show.f k a0 a1 a2 a3 a4) (R06_Show.f (k + 1) a0 a1 a2 a3 a4) := by
 intro a0 a1 a2 a3 a4 k; have ih0 := R06_Show.mono_l k; unfold R06_Show.f
 repeat' (with_reducible first | exact ih0 _ _ _ _ _ _ _ | exact R03_Show.mono _ _ _ _ | exact R06_Check.mono _ _ _ _ _ _ | exact R06_ShowID.mono _ _ _ _ | exact LeO.refl _ | exact LeO.none _ | refine LeO.ite ?_ ?_ | refine LeO.bind ?_ (fun _ => ?_))
def R06_Show.T3 : Bool × List (List Nat × List Nat) := (true, [([], []), ([0], [0]), ([1], [1]), ([2], [2]), ([], []), ([4], [4]), ([3, 5], [3, 5]), ([6, 2, 0, 1, 2, 3, 4, 5, 6], [6])])
def R06_Show.B3 : List Nat := [0, 1, 3, 7, 0, 16, 63, 127]
theorem R06_Show.tab3 : rtab .any (opsOf Tryz.f53 3) = R06_Show.T3 := by kernel_rfl
theorem R06_Show.bits3 : waitsOk R06_Show.T3.2 R06_Show.B3 = true := by kernel_rfl
def R06_Show.T7 : Bool × List (List Nat × List Nat) := (true, [([], []), ([0], [0]), ([], []), ([2], [2]), ([], []), ([3, 4], [3, 4]), ([5], [5]), ([6], [6]), ([1, 7], [1, 7]), ([8], [8]), ([], []), ([10], [10]), ([], []), ([11, 12], [11, 12]), ([13], [13]), ([14], [14]), ([15], [15]), ([9, 16], [9, 16]), ([17, 16, 0, 1, 2, 3, 4, 5, 6, 7, 8, 9, 10, 11, 12, 13, 14, 15, 16, 17], [0, 17])])
def R06_Show.B7 : List Nat := [0, 1, 0, 4, 0, 28, 60, 124, 255, 511, 0, 1024, 0, 7168, 15360, 31744, 64512, 131071, 262143]
theorem R06_Show.tab7 : rtab .any (opsOf Tryz.f53 7) = R06_Show.T7 := by kernel_rfl
theorem R06_Show.bits7 : waitsOk R06_Show.T7.2 R06_Show.B7 = true := by kernel_rfl
theorem R06_Show.calls (k : Nat) (a0_0 : Int) (a0_1 : Int) (a0_2 : Int) (a0_3 : ByteArray) (A0_4 : Option Addr) (c0_4 : Nat) (l0_4 : List (S140)) (r : ByteArray) (w : World) (hr0_4 : Kd.C k140 w A0_4 l0_4.length l0_4) (hc0_4 : l0_4.length ≤ c0_4) (h : R06_Show.f k a0_0 a0_1 a0_2 a0_3 l0_4 = some r) :
  Calls Tryz.prog 53 #[.agg #[.int .i64 a0_0, .int .i64 a0_1, .int .i64 a0_2, .string a0_3, .slice A0_4 l0_4.length c0_4]] w fun e w' => e = .returned (.string r) ∧ Below w.heap.size w w' := by
 have hu86 := Tryz.underlying86; have hu36 := Tryz.underlying36; have hu138 := Tryz.underlying138; have HR0_4 := aM hr0_4; have HC0_4 := aM hc0_4; clear hr0_4 hc0_4; have HB := aM (Below.refl w.heap.size w); unfold R06_Show.f at h; have H := h; clear h; replace H := bnA H; obtain ⟨t453, A2, H⟩ := H; revert H; refine itR ?L6p ?L6n
 case' L6p =>
  intro c3 H; subst c3; replace H := bnA H; obtain ⟨t454, A4, H⟩ := H; replace H := itN H; obtain ⟨c5, H⟩ := H; have c5b0 := eq_true c5; have c5b1 := dT c5; (try have c5b2 : (9223372036854775807 < t454.size + 1) = False := eq_false (Nat.not_lt.2 c5)); replace H := itN H; obtain ⟨c6, H⟩ := H; have c6b0 := eq_true c6; have c6b1 := dT c6; (try have c6b2 : (9223372036854775807 < (t454 ++ (⟨#[32]⟩ : ByteArray)).size + a0_3.size) = False := eq_false (Nat.not_lt.2 c6)); (try have c6b3 : (9223372036854775807 < t454.size + 1 + a0_3.size) = False := eq_false (by have zz_ := c6; simp only [ByteArray.size_append] at zz_; have zy0_ : (⟨#[32]⟩ : ByteArray).size = 1 := rfl; omega)); have H' := aM H; clear H; have M4 := trivial
 case' L6n =>
  intro c3 H; replace c3 := Bool.eq_false_iff.mpr c3; subst c3; obtain rfl := sI H; have M5 := trivial
 all_goals
  case _ =>
   go_enter Tryz.func53, Tryz.ntmps53; try go_wp2_with (first | ((with_reducible refine gate_dst (N := 1) rfl ?_); refine boxB 1 #[.int .i64 a0_0, .int .i64 a0_1, .int .i64 a0_2, .string a0_3, .slice A0_4 l0_4.length c0_4] 86 HB ?_; clear HB; intro gb452 w101 BK452 GW452 GE452 HB; obtain ⟨hcz102_0, hcz102_1, hcz102_2, hcz102_3, hcz102_4⟩ := cel5 BK452.out; obtain ⟨hfz102_0, hfz102_1, hfz102_2, hfz102_3, hfz102_4⟩ := frz5 BK452.out) | ((with_reducible refine gate_callee (f := 47) rfl ?_); refine goesA (some 6) Tryz.func47 #[.agg #[.int .i64 a0_0, .int .i64 a0_1, .int .i64 a0_2, .string a0_3, .slice A0_4 l0_4.length c0_4]] ?_; (with_reducible refine (R06_Check.calls _ _ _ _ _ _ _ _ _ _ ?side1 ?side2 A2.out).mono ?_); (case side1 => repeat (first | exact (Kd.C_below HR0_4.out HB.out) | (with_reducible refine Kd.C_alloc ?_ _) | (with_reducible refine Kd.C_drewN ?_ _) | (with_reducible refine Kd.C_drew ?_))); (case side2 => exact HC0_4.out); rintro e w103 ⟨rfl, hb⟩; refine ⟨_, rfl, ?_⟩; replace BK452 := aM (bkB BK452 hb); replace HB := aM (below_step (bwA) hb); (try clear hb)))
   first
    | clear M4
      replace BK452 := aM (blk_drew BK452.out); replace HB := aM (below_drew1 HB.out); refine start_ (n := 8) (S := fun w' => w'.cell? ⟨gb452, 0, none⟩ = some (.int .i64 a0_0) ∧ w'.cell? ⟨gb452, 1, none⟩ = some (.int .i64 a0_1) ∧ w'.cell? ⟨gb452, 2, none⟩ = some (.int .i64 a0_2) ∧ w'.cell? ⟨gb452, 3, none⟩ = some (.string a0_3) ∧ w'.cell? ⟨gb452, 4, none⟩ = some (.slice A0_4 l0_4.length c0_4)) (ds := []) (mkB 8 0) (by kernel_rfl) rfl rfl (ce5 BK452.out) (fun hHeld => ?_); refine with_tabW R06_Show.tab3 R06_Show.bits3 (fun HT_ HW_ => ?_)
      generalize w103.drew = w104 at BK452 HB hHeld ⊢
      refine pureA 0 (some 8) (mkB 8 1) ?_; refine pureA 4 (some 12) (mkB 8 17) ?_; refine takeA 1 (some 9) (mkB 8 19) ?_ rfl (Or.inl ⟨by rfl, by rintro w' ⟨s0, s1, s2, s3, s4⟩; go_simp; with_reducible rfl⟩); refine takeA 5 (some 13) (mkB 8 51) ?_ rfl (Or.inl ⟨by rfl, by rintro w' ⟨s0, s1, s2, s3, s4⟩; go_simp; with_reducible rfl⟩); refine oneA 2 (some 10) (mkB 8 55) (fun K hK => ?_); refine goesS Tryz.func57 #[.agg #[.int .i64 a0_0, .int .i64 a0_1, .int .i64 a0_2]] ?_
      with_reducible refine (R06_ShowID.calls _ _ _ _ _ _ A4.out).mono ?_
      rintro e w105 ⟨rfl, hb⟩; refine ⟨_, rfl, ?_⟩; replace BK452 := aM (bkB BK452 hb); replace HB := aM (below_step (bwA) hb)
      (try clear hb)
      refine hK.out _ _ (ce5 BK452.out) (fun hHeld => ?_); clear hK K; refine normA ?_; refine pureA 3 (some 11) (mkB 8 63) ?_; refine pureA 6 (some 14) (mkB 8 127) ?_; refine pureA 7 (some 3) (mkB 8 255) ?_; refine done_ (done_of HT_.out (by kernel_rfl)) ?_; try go_wp2
      go_loopg [3, 4] k (fun kq v3 v4 w' => ∃ (x3_1 : ByteArray) (x4_1 : Int), v3 = .string x3_1 ∧ v4 = .int .i64 x4_1 ∧ Aside0 (R06_Show.l0 kq x3_1 x4_1 a0_0 a0_1 a0_2 a0_3 l0_4 = some r) ∧ Aside0 (kq ≤ k) ∧ Aside0 (w'.heap[gb452]? = some (.cells #[.int .i64 a0_0, .int .i64 a0_1, .int .i64 a0_2, .string a0_3, (.slice A0_4 l0_4.length c0_4)] 86 (0, 0))) ∧ Aside0 (Below w.heap.size w w'))
      case atStart => exact ⟨((t454 ++ (⟨#[32]⟩ : ByteArray)) ++ a0_3), (0), (endS), (endS), H', ⟨Nat.le_refl _⟩, ⟨blkZ⟩, ⟨bwA⟩⟩
      case round =>
       clear H'; (try clear p2); (try clear c3); (try clear c4); (try clear c5); (try clear c5b0); (try clear c5b1); (try clear c5b2); (try clear c6); (try clear c6b0); (try clear c6b1); (try clear c6b2); (try clear c47); (try clear c53); (try clear c57); (try clear hcz102_0); (try clear hcz102_1); (try clear hcz102_2); (try clear hcz102_3); (try clear hcz102_4); (try clear hfz102_0); (try clear hfz102_1); (try clear hfz102_2); (try clear hfz102_3); (try clear hfz102_4); obtain ⟨x3_1, x4_1, rfl, rfl, HA, HK1, BK452, HB⟩ := hrel
       cases gk with
       | zero => exact absurd HA.out (by simp [R06_Show.l0])
       | succ k1 =>
        have H := HA.out; clear HA; simp only [R06_Show.l0] at H; revert H; refine itR ?L3p ?L3n
        case' L3p =>
         intro c106 H; have c106b0 := dT c106; clear c106; replace H := itN H; obtain ⟨c107, H⟩ := H; have c107b0 := eq_true c107; have c107b1 := dT c107; (try have c107b2 : (9223372036854775807 < x3_1.size + 1) = False := eq_false (Nat.not_lt.2 c107)); replace H := itN H; obtain ⟨c108, H⟩ := H; have c108b0 := dT c108; clear c108; replace H := itN H; obtain ⟨c109, H⟩ := H; have c109b0 := eq_true c109; have c109b1 := dT c109; (try have c109b2 : (9223372036854775807 < (x3_1 ++ (⟨#[32]⟩ : ByteArray)).size + ((rd_T140 l0_4 x4_1).f0).size) = False := eq_false (Nat.not_lt.2 c109)); (try have c109b3 : (9223372036854775807 < x3_1.size + 1 + (rd_T140 l0_4 x4_1).f0.size) = False := eq_false (by have zz_ := c109; simp only [ByteArray.size_append] at zz_; have zy0_ : (⟨#[32]⟩ : ByteArray).size = 1 := rfl; omega)); replace H := itN H; obtain ⟨c110, H⟩ := H; have c110b0 := eq_true c110; have c110b1 := dT c110; (try have c110b2 : (9223372036854775807 < ((x3_1 ++ (⟨#[32]⟩ : ByteArray)) ++ ((rd_T140 l0_4 x4_1).f0)).size + 1) = False := eq_false (Nat.not_lt.2 c110)); (try have c110b3 : (9223372036854775807 < x3_1.size + 1 + (rd_T140 l0_4 x4_1).f0.size + 1) = False := eq_false (by have zz_ := c110; simp only [ByteArray.size_append] at zz_; have zy0_ : (⟨#[32]⟩ : ByteArray).size = 1 := rfl; omega)); replace H := bnA H; obtain ⟨t457, A111, H⟩ := H; replace H := itN H; obtain ⟨c112, H⟩ := H; have c112b0 := eq_true c112; have c112b1 := dT c112; (try have c112b2 : (9223372036854775807 < (((x3_1 ++ (⟨#[32]⟩ : ByteArray)) ++ ((rd_T140 l0_4 x4_1).f0)) ++ (⟨#[61]⟩ : ByteArray)).size + t457.size) = False := eq_false (Nat.not_lt.2 c112)); (try have c112b3 : (9223372036854775807 < x3_1.size + 1 + (rd_T140 l0_4 x4_1).f0.size + 1 + t457.size) = False := eq_false (by have zz_ := c112; simp only [ByteArray.size_append] at zz_; have zy0_ : (⟨#[32]⟩ : ByteArray).size = 1 := rfl; have zy1_ : (⟨#[61]⟩ : ByteArray).size = 1 := rfl; omega)); have H' := aM H; clear H; have M1 := trivial
        case' L3n =>
         intro c106 H; have c106b0 := dF c106; clear c106; obtain rfl := sI H; have M2 := trivial
        all_goals
         case _ =>
          obtain ⟨hcz201_0, hcz201_1, hcz201_2, hcz201_3, hcz201_4⟩ := cel5 BK452.out; obtain ⟨hfz201_0, hfz201_1, hfz201_2, hfz201_3, hfz201_4⟩ := frz5 BK452.out
          first
           | clear M1
             (try go_wp2); replace BK452 := aM (blk_drew BK452.out); replace HB := aM (below_drew1 HB.out); have p455 : 0 ≤ (x4_1 : Int) := odA; have q455 : x4_1 < (l0_4.length : Int) := odA; obtain ⟨ad455, e455, hx455_0, hx455_1, hx455_2, hx455_3⟩ := at_T140 HR0_4.out x4_1 p455 q455; have hw455_3 := hx455_3; have hw455_2 := hx455_2; have hw455_1 := hx455_1; have hw455_0 := hx455_0
             cases e455
             replace hx455_0 := crA hx455_0; replace hx455_1 := crA hx455_1; replace hx455_2 := crA hx455_2; replace hx455_3 := crA hx455_3; replace p455 := eq_true p455; replace q455 := eq_true q455; have p456 : 0 ≤ (x4_1 : Int) := odA; have q456 : x4_1 < (l0_4.length : Int) := odA; obtain ⟨ad456, e456, hx456_0, hx456_1, hx456_2, hx456_3⟩ := at_T140 HR0_4.out x4_1 p456 q456; have hw456_3 := hx456_3; have hw456_2 := hx456_2; have hw456_1 := hx456_1; have hw456_0 := hx456_0; obtain rfl : ad455 = ad456 := (by injection e456); replace hx456_0 := crA hx456_0; replace hx456_1 := crA hx456_1; replace hx456_2 := crA hx456_2; replace hx456_3 := crA hx456_3; replace p456 := eq_true p456; replace q456 := eq_true q456; refine start_ (n := 19) (S := fun w' => w'.cell? ⟨gb452, 0, none⟩ = some (.int .i64 a0_0) ∧ w'.cell? ⟨gb452, 1, none⟩ = some (.int .i64 a0_1) ∧ w'.cell? ⟨gb452, 2, none⟩ = some (.int .i64 a0_2) ∧ w'.cell? ⟨gb452, 3, none⟩ = some (.string a0_3) ∧ w'.cell? ⟨gb452, 4, none⟩ = some (.slice (some ad455) l0_4.length c0_4) ∧ w'.cell? (ad455.add ((x4_1).toNat * 4)) = some (.string ((rd_T140 l0_4 x4_1).f0)) ∧ w'.cell? ⟨(ad455.add ((x4_1).toNat * 4)).block, (ad455.add ((x4_1).toNat * 4)).off + 1, none⟩ = some (.int .i64 ((rd_T140 l0_4 x4_1).f1.f0)) ∧ w'.cell? ⟨(ad455.add ((x4_1).toNat * 4)).block, (ad455.add ((x4_1).toNat * 4)).off + 2, none⟩ = some (.int .i64 ((rd_T140 l0_4 x4_1).f1.f1)) ∧ w'.cell? ⟨(ad455.add ((x4_1).toNat * 4)).block, (ad455.add ((x4_1).toNat * 4)).off + 3, none⟩ = some (.string ((rd_T140 l0_4 x4_1).f1.f2)) ∧ w'.cell? (ad455.add ((x4_1).toNat * 4)) = some (.string ((rd_T140 l0_4 x4_1).f0)) ∧ w'.cell? ⟨(ad455.add ((x4_1).toNat * 4)).block, (ad455.add ((x4_1).toNat * 4)).off + 1, none⟩ = some (.int .i64 ((rd_T140 l0_4 x4_1).f1.f0)) ∧ w'.cell? ⟨(ad455.add ((x4_1).toNat * 4)).block, (ad455.add ((x4_1).toNat * 4)).off + 2, none⟩ = some (.int .i64 ((rd_T140 l0_4 x4_1).f1.f1)) ∧ w'.cell? ⟨(ad455.add ((x4_1).toNat * 4)).block, (ad455.add ((x4_1).toNat * 4)).off + 3, none⟩ = some (.string ((rd_T140 l0_4 x4_1).f1.f2))) (ds := []) (mkB 19 0) (by kernel_rfl) rfl rfl ⟨(blk_cell BK452.out 0).trans rfl, (blk_cell BK452.out 1).trans rfl, (blk_cell BK452.out 2).trans rfl, (blk_cell BK452.out 3).trans rfl, (blk_cell BK452.out 4).trans rfl, crA hw455_0, crA hw455_1, crA hw455_2, crA hw455_3, crA hw456_0, crA hw456_1, crA hw456_2, crA hw456_3⟩ (fun hHeld => ?_); refine with_tabW R06_Show.tab7 R06_Show.bits7 (fun HT_ HW_ => ?_)
             generalize wr.drew = w202 at BK452 HB hx455_0 hx455_1 hx455_2 hx455_3 hx456_0 hx456_1 hx456_2 hx456_3 hHeld ⊢
             refine pureA 0 (some 22) (mkB 19 1) ?_; refine pureA 1 (some 23) (mkB 19 3) ?_; refine pureA 2 (some 24) (mkB 19 7) ?_; refine pureA 4 (some 26) (mkB 19 23) ?_; refine pureA 10 (some 32) (mkB 19 1047) ?_; refine pureA 12 (some 34) (mkB 19 5143) ?_; refine takeA 3 (some 25) (mkB 19 5151) ?_ rfl (Or.inl ⟨by rfl, by rintro w' ⟨s0, s1, s2, s3, s4, s5, s6, s7, s8, s9, s10, s11, s12⟩; go_simp; with_reducible rfl⟩); refine pureA 5 (some 27) (mkB 19 5183) ?_; refine pureA 6 (some 28) (mkB 19 5247) ?_; refine takeA 7 (some 29) (mkB 19 5375) ?_ rfl (Or.inl ⟨by rfl, by rintro w' ⟨s0, s1, s2, s3, s4, s5, s6, s7, s8, s9, s10, s11, s12⟩; go_simp; with_reducible rfl⟩); refine pureA 8 (some 30) (mkB 19 5631) ?_; refine pureA 9 (some 31) (mkB 19 6143) ?_; refine takeA 11 (some 33) (mkB 19 8191) ?_ rfl (Or.inl ⟨by rfl, by rintro w' ⟨s0, s1, s2, s3, s4, s5, s6, s7, s8, s9, s10, s11, s12⟩; go_simp; with_reducible rfl⟩); refine pureA 13 (some 35) (mkB 19 16383) ?_; refine pureA 14 (some 36) (mkB 19 32767) ?_; refine takeA 15 (some 37) (mkB 19 65535) ?_ rfl (Or.inl ⟨by rfl, by rintro w' ⟨s0, s1, s2, s3, s4, s5, s6, s7, s8, s9, s10, s11, s12⟩; go_simp; with_reducible rfl⟩); refine oneA 16 (some 38) (mkB 19 131071) (fun K hK => ?_); refine goesS Tryz.func117 #[.agg #[.int .i64 ((rd_T140 l0_4 x4_1).f1.f0), .int .i64 ((rd_T140 l0_4 x4_1).f1.f1), .string ((rd_T140 l0_4 x4_1).f1.f2)]] ?_
             with_reducible refine (R03_Show.calls _ _ _ _ _ _ A111.out).mono ?_
             rintro e w203 ⟨rfl, hb⟩; refine ⟨_, rfl, ?_⟩; replace BK452 := aM (bkB BK452 hb); replace HB := aM (below_step (bwA) hb)
             (try clear hb)
             refine hK.out _ _ ⟨(blk_cell BK452.out 0).trans rfl, (blk_cell BK452.out 1).trans rfl, (blk_cell BK452.out 2).trans rfl, (blk_cell BK452.out 3).trans rfl, (blk_cell BK452.out 4).trans rfl, crA hw455_0, crA hw455_1, crA hw455_2, crA hw455_3, crA hw456_0, crA hw456_1, crA hw456_2, crA hw456_3⟩ (fun hHeld => ?_); clear hK K; refine normA ?_; refine pureA 17 (some 39) (mkB 19 262143) ?_; refine pureA 18 (some 3) (mkB 19 524287) ?_; refine done_ (done_of HT_.out (by kernel_rfl)) ?_; try go_wp2
             go_roundg k1
             case measure => have := HK1.out; omega
             case rel => exact ⟨((((x3_1 ++ (⟨#[32]⟩ : ByteArray)) ++ ((rd_T140 l0_4 x4_1).f0)) ++ (⟨#[61]⟩ : ByteArray)) ++ t457), (wrap64 (x4_1 + 1)), (endS), (endS), H', ⟨by have := HK1.out; omega⟩, ⟨blkZ⟩, ⟨bwA⟩⟩
           | clear M2
             go_wp2; go_ret; exact ⟨endA, bwA⟩
    | clear M5
      go_ret; exact ⟨endA, bwA⟩
end Go.Proofs.YtkdndabpaajkaaaGreatDoor.A
