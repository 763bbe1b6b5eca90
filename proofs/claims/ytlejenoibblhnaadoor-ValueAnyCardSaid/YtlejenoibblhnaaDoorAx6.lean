-- By drv.py, the session's own driver round the kit's print: the machine's side of the laws, function by function. Not trusted: Lean checks it.
import Derived.Test.YtlejenoibblhnaaDoorAx0
import Derived.Test.YtlejenoibblhnaaDoorAx2
namespace Go.Proofs.YtlejenoibblhnaaDoor.A
open Go.RowKit Go.Proofs.YtlejenoibblhnaaDoorW.PrintWords Go.Proofs.YtlejenoibblhnaaDoorW.PrintLast Go.Proofs.YtlejenoibblhnaaDoorW.PrintMore
attribute [local go_sem] max2_int min2_int max_two min_two max_three min_three max_four min_four   -- for this text's walks alone
set_option linter.unusedVariables false
set_option linter.unusedSimpArgs false

/-! ### value_bytes: function 25 -/
mutual
def value_bytes.l0 : Nat → ByteArray → List Int → Option (Int × Int × ByteArray × ByteArray × Int)
 | 0, _, _ => none
 | k + 1, x0, x5 => if x0.toList = ([] : List UInt8) then (value_bytes.j1 k x0 x5 false) else (if 0 < (x0.size : Int) then (value_bytes.j1 k x0 x5 ((bt x0 0) != 39)) else (none))
def value_bytes.j1 : Nat → ByteArray → List Int → Bool → Option (Int × Int × ByteArray × ByteArray × Int)
 | 0, _, _, _ => none
 | k + 1, x0, x5, x14 => if x14 = true then (if (x0.size : Int) < 2 then (value_bytes.j2 k x0 x5 true) else (if 0 < (x0.size : Int) then ((value_digit.f (bt x0 0)).bind fun t115 => (if t115 < 0 then (value_bytes.j2 k x0 x5 true) else (if 1 < (x0.size : Int) then ((value_digit.f (bt x0 1)).bind fun t116 => (value_bytes.j2 k x0 x5 (decide (t116 < 0)))) else (none)))) else (none))) else (if x0.toList = ([] : List UInt8) then (some (0, 0, (⟨#[]⟩ : ByteArray), (⟨#[]⟩ : ByteArray), 3)) else (if (x5.length : Int) > 200 then (some (0, 0, (⟨#[]⟩ : ByteArray), (⟨#[]⟩ : ByteArray), 2)) else (if 1 ≤ (x0.size : Int) then (some (4, 0, strOfNums x5, x0.extract 1 x0.size, 0)) else (none))))
def value_bytes.j2 : Nat → ByteArray → List Int → Bool → Option (Int × Int × ByteArray × ByteArray × Int)
 | 0, _, _, _ => none
 | k + 1, x0, x5, x31 => if x31 = true then (some (0, 0, (⟨#[]⟩ : ByteArray), (⟨#[]⟩ : ByteArray), 3)) else (if 0 < (x0.size : Int) then ((value_digit.f (bt x0 0)).bind fun t117 => (if 1 < (x0.size : Int) then ((value_digit.f (bt x0 1)).bind fun t118 => (if x5.length < 140737488355328 then (if 2 ≤ (x0.size : Int) then (value_bytes.l0 k (x0.extract 2 x0.size) (x5 ++ [(Go.bits .or .i64 (wrap64 (t117 * 16)) t118) % 256])) else (none)) else (none))) else (none))) else (none))
end
def value_bytes.f (k : Nat) (a0 : ByteArray) : Option (Int × Int × ByteArray × ByteArray × Int) := if 2 ≤ (a0.size : Int) then (value_bytes.l0 k (a0.extract 2 a0.size) ([] : List Int)) else (none)
theorem value_bytes.mono_l : ∀ k, (∀ y0 y1, LeO (value_bytes.l0 k y0 y1) (value_bytes.l0 (k + 1) y0 y1)) ∧ (∀ y0 y1 y2, LeO (value_bytes.j1 k y0 y1 y2) (value_bytes.j1 (k + 1) y0 y1 y2)) ∧ (∀ y0 y1 y2, LeO (value_bytes.j2 k y0 y1 y2) (value_bytes.j2 (k + 1) y0 y1 y2))
 | 0 => ⟨fun _ _ r h => by simp [value_bytes.l0] at h, fun _ _ _ r h => by simp [value_bytes.j1] at h, fun _ _ _ r h => by simp [value_bytes.j2] at h⟩
 | k + 1 => by
  obtain ⟨ih0, ih1, ih2⟩ := value_bytes.mono_l k
  refine ⟨?_, ?_, ?_⟩
  all_goals intros
  all_goals first | unfold value_bytes.l0 | unfold value_bytes.j1 | unfold value_bytes.j2
  all_goals repeat' (with_reducible first | exact ih0 _ _ | exact ih1 _ _ _ | exact ih2 _ _ _ | exact LeO.refl _ | exact LeO.none _ | refine LeO.ite ?_ ?_ | refine LeO.bind ?_ (fun _ => ?_))
theorem value_bytes.mono : ∀ a0 k, LeO (value_bytes.f k a0) (value_bytes.f (k + 1) a0) := by
 intro a0 k
 obtain ⟨ih0, ih1, ih2⟩ := value_bytes.mono_l k
 unfold value_bytes.f
 repeat' (with_reducible first | exact ih0 _ _ | exact ih1 _ _ _ | exact ih2 _ _ _ | exact LeO.refl _ | exact LeO.none _ | refine LeO.ite ?_ ?_ | refine LeO.bind ?_ (fun _ => ?_))
def value_bytes.T7 : Bool × List (List Nat × List Nat) := (true, [([], []), ([], []), ([1], [1]), ([2], [2]), ([3], [3]), ([], []), ([5], [5]), ([6, 3], [6]), ([4, 7], [4, 7]), ([8], [8]), ([9], [9]), ([0, 10, 7], [0, 10]), ([11, 11, 0, 1, 2, 3, 4, 5, 6, 7, 8, 9, 10, 11], [0, 11])])
def value_bytes.B7 : List Nat := [0, 0, 2, 6, 14, 0, 32, 110, 254, 510, 1022, 2047, 4095]
theorem value_bytes.tab7 : rtab .any (opsOf Tryd.f25 7) = value_bytes.T7 := by kernel_rfl
theorem value_bytes.bits7 : waitsOk value_bytes.T7.2 value_bytes.B7 = true := by kernel_rfl
def value_bytes.T12 : Bool × List (List Nat × List Nat) := (true, [([], []), ([0], [0]), ([1], [1]), ([], []), ([3], [3]), ([2, 0, 1, 2], [2]), ([4, 5, 0, 1, 2, 3, 4, 5], [4]), ([6, 0, 1, 2, 3, 4, 5, 6], [])])
def value_bytes.B12 : List Nat := [0, 1, 3, 0, 8, 7, 63, 127]
theorem value_bytes.tab12 : rtab .any (opsOf Tryd.f25 12) = value_bytes.T12 := by kernel_rfl
theorem value_bytes.bits12 : waitsOk value_bytes.T12.2 value_bytes.B12 = true := by kernel_rfl
set_option maxHeartbeats 8000000 in
set_option maxRecDepth 100000 in
theorem value_bytes.calls (k : Nat) (a0 : ByteArray) (r1 : Int) (r2 : Int) (r3 : ByteArray) (r4 : ByteArray) (r5 : Int) (w : World) (h : value_bytes.f k a0 = some (r1, r2, r3, r4, r5)) :
  Calls Tryd.prog 25 #[.string a0] w fun e w' => e = .returned (.tuple #[.agg #[.int .i64 r1, .int .i64 r2, .string r3], .string r4, .int .i64 r5]) ∧ Below w.heap.size w w' := by
 have hu26 := Tryd.underlying26
 have HB := Aside0.mk (Below.refl w.heap.size w)
 unfold value_bytes.f at h
 have H := h
 clear h
 replace H := itN H
 obtain ⟨c2, H⟩ := H
 have c2b0 := eq_true c2
 have c2b1 := decide_eq_true c2
 clear c2
 have H' := Aside0.mk H
 clear H
 go_enter Tryd.func25, Tryd.ntmps25
 try go_wp2_with (first | ((with_reducible refine gate_dst (N := 2) rfl ?_); refine boxB 2 #[.int .i64 0, .int .i64 0, .string (⟨#[]⟩ : ByteArray)] 26 HB ?_; clear HB; intro gb114 w101 BK114 GW114 GE114 HB))
 go_loopg [0, 5] k (fun kq v0 v5 w' => ∃ (x0_1 : ByteArray) (x5_1 : List Int) (x115000_1 : Int) (x115001_1 : Int) (x115002_1 : ByteArray), v0 = .string x0_1 ∧ Aside0 (value_bytes.l0 kq x0_1 x5_1 = some (r1, r2, r3, r4, r5)) ∧ Aside0 (kq ≤ k) ∧ Aside0 (Kd.R (Kd.int .u8) 5 w' w.heap.size (fun _ => True) v5 x5_1) ∧ Aside0 (w'.heap[gb114]? = some (.cells #[.int .i64 x115000_1, .int .i64 x115001_1, .string x115002_1] 26 (0, 0))) ∧ Aside0 (Below w.heap.size w w'))
 case atStart => exact ⟨(a0.extract 2 a0.size), (([] : List Int)), (0), (0), ((⟨#[]⟩ : ByteArray)), (endS), H', ⟨Nat.le_refl _⟩, ⟨by first | exact Kd.R_nil _ _ _ _ _ | exact Kd.N_nil _ _ _ _ _ | exact Kd.V_nil _ _ _ _ _ | exact Kd.Q_nil _ _ _ _ _ | exact Kd.S_nil _ _ _ _ _⟩, ⟨blkZ⟩, ⟨bwA⟩⟩
 case round =>
  clear H'
  try clear c2
  try clear c2b0
  try clear c2b1
  try clear p2
  try clear c25
  obtain ⟨x0_1, x5_1, x115000_1, x115001_1, x115002_1, rfl, HA, HK1, HO_5, BK114, HB⟩ := hrel
  cases gk with
  | zero => exact absurd HA.out (by simp [value_bytes.l0])
  | succ k1 =>
   have H := HA.out
   clear HA
   simp only [value_bytes.l0] at H
   have HC201 := Aside0.mk H
   clear H
   go_upto_region 3 with (fail)
   go_cut [14] (fun v14 wc => ∃ (kq : Nat) (x14_200 : Bool), v14 = .bool x14_200 ∧ Aside0 (value_bytes.j1 kq x0_1 x5_1 x14_200 = some (r1, r2, r3, r4, r5)) ∧ Aside0 (kq ≤ k1) ∧ Aside0 (Kd.R (Kd.int .u8) 5 wc w.heap.size (fun _ => True) u5 x5_1) ∧ Aside0 (wc.heap[gb114]? = some (.cells #[.int .i64 x115000_1, .int .i64 x115001_1, .string x115002_1] 26 (0, 0))) ∧ Aside0 (Below w.heap.size w wc))
   case first =>
    have H := HC201.out
    clear HC201
    revert H; refine itQ ?L17p ?L17n
    case' L17p =>
     rintro ⟨c202b0, c202b1⟩ H
     (first | rw [c202b0] | (simp only [i64_w, i32_w]; rw [c202b0]) | skip)
     have H' := Aside0.mk H
     clear H
     go_wp2
     go_meet
     case rel => exact ⟨_, (false), (endS), H', ⟨by have := HK1.out; first | omega | exact Nat.le_refl _⟩, ⟨by (with_reducible repeat (first | apply Kd.R_alloc | apply Kd.R_drewN | apply Kd.R_drew)); exact HO_5.out⟩, ⟨blkZ⟩, ⟨bwA⟩⟩
    case' L17n =>
     rintro ⟨c202b0, c202b1⟩ c202 H
     (first | rw [c202b0] | (simp only [i64_w, i32_w]; rw [c202b0]) | skip)
     replace H := itN H
     obtain ⟨c203, H⟩ := H
     have c203b0 := decide_eq_true c203
     have c203b1 : decide (0 < x0_1.size) = true := decide_eq_true (by omega)
     clear c203
     have H' := Aside0.mk H
     clear H
     have p204 : 0 ≤ (0 : Int) := (by omega)
     have q204 : 0 < x0_1.size := (by have : (0 : Int) < (x0_1.size : Int) := odA; omega)
     have hx204 : ∀ h : 0 < x0_1.size, ((x0_1[0]'h).toNat : Int) = bt x0_1 0 := bt_at x0_1 0
     clear p204
     have qi204 : (0 < (x0_1.size : Int)) = True := eq_true (odA)
     replace q204 := eq_true q204
     go_wp2
     go_meet
     case rel => exact ⟨_, (((bt x0_1 0) != 39)), (endS), H', ⟨by have := HK1.out; first | omega | exact Nat.le_refl _⟩, ⟨by (with_reducible repeat (first | apply Kd.R_alloc | apply Kd.R_drewN | apply Kd.R_drew)); exact HO_5.out⟩, ⟨blkZ⟩, ⟨bwA⟩⟩
   case rest =>
    clear HC201
    try clear c2
    try clear c2b0
    try clear c2b1
    try clear p2
    try clear q2
    try clear hx2
    try clear qi2
    try clear c20
    try clear p20
    try clear q20
    try clear hx20
    try clear qi20
    try clear c25
    try clear p2
    try clear p204
    try clear q204
    obtain ⟨kq, x14_200, rfl, HA, HJ200, HO_5, BK114, HB⟩ := hcut
    cases kq with
    | zero => exact absurd HA.out (by simp [value_bytes.j1])
    | succ kj200 =>
     have H := HA.out
     clear HA
     simp only [value_bytes.j1] at H
     revert H; refine itR ?L25p ?L25n
     case' L25p =>
      intro c202 H
      subst c202
      have HC301 := Aside0.mk H
      clear H
      go_upto_region 5 with (fail)
      go_cut [31] (fun v31 wc => ∃ (kq : Nat) (x31_300 : Bool), v31 = .bool x31_300 ∧ Aside0 (value_bytes.j2 kq x0_1 x5_1 x31_300 = some (r1, r2, r3, r4, r5)) ∧ Aside0 (kq ≤ kj200) ∧ Aside0 (Kd.R (Kd.int .u8) 5 wc w.heap.size (fun _ => True) u5 x5_1) ∧ Aside0 (wc.heap[gb114]? = some (.cells #[.int .i64 x115000_1, .int .i64 x115001_1, .string x115002_1] 26 (0, 0))) ∧ Aside0 (Below w.heap.size w wc))
      case first =>
       have H := HC301.out
       clear HC301
       revert H; refine itR ?L28p ?L28n
       case' L28p =>
        intro c302 H
        have c302b0 := decide_eq_true c302
        have c302b1 : decide (x0_1.size < 2) = true := decide_eq_true (by omega)
        clear c302
        (first | rw [c302b0] | (simp only [i64_w, i32_w]; rw [c302b0]) | skip)
        have H' := Aside0.mk H
        clear H
        go_wp2
        go_meet
        case rel => exact ⟨_, (true), (endS), H', ⟨by have := HK1.out; have := HJ200.out; first | omega | exact Nat.le_refl _⟩, ⟨by (with_reducible repeat (first | apply Kd.R_alloc | apply Kd.R_drewN | apply Kd.R_drew)); exact HO_5.out⟩, ⟨blkZ⟩, ⟨bwA⟩⟩
       case' L28n =>
        intro c302 H
        have c302b0 := decide_eq_false c302
        have c302b1 : decide (x0_1.size < 2) = false := decide_eq_false (by omega)
        clear c302
        (first | rw [c302b0] | (simp only [i64_w, i32_w]; rw [c302b0]) | skip)
        replace H := itN H
        obtain ⟨c303, H⟩ := H
        have c303b0 := decide_eq_true c303
        have c303b1 : decide (0 < x0_1.size) = true := decide_eq_true (by omega)
        clear c303
        replace H := bnA H
        obtain ⟨t115, A305, H⟩ := H
        revert H; refine itR ?L29p ?L29n
        case' L29p =>
         intro c306 H
         have c306b0 := decide_eq_true c306
         clear c306
         have H' := Aside0.mk H
         clear H
         have M26 := True.intro
        case' L29n =>
         intro c306 H
         have c306b0 := decide_eq_false c306
         clear c306
         replace H := itN H
         obtain ⟨c307, H⟩ := H
         have c307b0 := decide_eq_true c307
         have c307b1 : decide (1 < x0_1.size) = true := decide_eq_true (by omega)
         clear c307
         replace H := bnA H
         obtain ⟨t116, A309, H⟩ := H
         have H' := Aside0.mk H
         clear H
         have M27 := True.intro
       all_goals
        case _ =>
         have p304 : 0 ≤ (0 : Int) := (by omega)
         have q304 : 0 < x0_1.size := (by have : (0 : Int) < (x0_1.size : Int) := odA; omega)
         have hx304 : ∀ h : 0 < x0_1.size, ((x0_1[0]'h).toNat : Int) = bt x0_1 0 := bt_at x0_1 0
         clear p304
         have qi304 : (0 < (x0_1.size : Int)) = True := eq_true (odA)
         replace q304 := eq_true q304
         go_wp2_with (first | (go_at_call 39; (with_reducible refine (value_digit.calls _ _ _ A305.out).mono ?_); rintro e w' ⟨rfl, ⟨nd, rfl⟩⟩; apply stopA; (case other => exact True.intro)))
         case _ =>
          first
           | clear M26
             (try go_wp2_with (fail))
             go_meet
             case rel => exact ⟨_, (true), (endS), H', ⟨by have := HK1.out; have := HJ200.out; first | omega | exact Nat.le_refl _⟩, ⟨by (with_reducible repeat (first | apply Kd.R_alloc | apply Kd.R_drewN | apply Kd.R_drew)); exact HO_5.out⟩, ⟨blkZ⟩, ⟨bwA⟩⟩
           | clear M27
             have p308 : 0 ≤ (1 : Int) := (by omega)
             have q308 : 1 < x0_1.size := (by have : (1 : Int) < (x0_1.size : Int) := odA; omega)
             have hx308 : ∀ h : 1 < x0_1.size, ((x0_1[1]'h).toNat : Int) = bt x0_1 1 := bt_at x0_1 1
             clear p308
             have qi308 : (1 < (x0_1.size : Int)) = True := eq_true (odA)
             replace q308 := eq_true q308
             try go_wp2_with (first | (go_at_call 39; (with_reducible refine (value_digit.calls _ _ _ A309.out).mono ?_); rintro e w' ⟨rfl, ⟨nd, rfl⟩⟩))
             go_meet
             case rel => exact ⟨_, (decide (t116 < 0)), (endS), H', ⟨by have := HK1.out; have := HJ200.out; first | omega | exact Nat.le_refl _⟩, ⟨by (with_reducible repeat (first | apply Kd.R_alloc | apply Kd.R_drewN | apply Kd.R_drew)); exact HO_5.out⟩, ⟨blkZ⟩, ⟨bwA⟩⟩
      case rest =>
       clear HC301
       try clear c2
       try clear c2b0
       try clear c2b1
       try clear p2
       try clear q2
       try clear hx2
       try clear qi2
       try clear c3
       try clear p3
       try clear q3
       try clear hx3
       try clear qi3
       try clear c20
       try clear p20
       try clear q20
       try clear hx20
       try clear qi20
       try clear c25
       try clear c30
       try clear p30
       try clear q30
       try clear hx30
       try clear qi30
       try clear c202
       try clear c202b0
       try clear c202b1
       try clear c203
       try clear c203b0
       try clear c203b1
       try clear p204
       try clear q204
       try clear hx204
       try clear qi204
       try clear p2
       try clear p20
       try clear p204
       try clear p304
       try clear p308
       try clear q2
       try clear q20
       try clear q204
       try clear q304
       try clear q308
       obtain ⟨kq, x31_300, rfl, HA, HJ300, HO_5, BK114, HB⟩ := hcut
       cases kq with
       | zero => exact absurd HA.out (by simp [value_bytes.j2])
       | succ kj300 =>
        have H := HA.out
        clear HA
        simp only [value_bytes.j2] at H
        revert H; refine itR ?L30p ?L30n
        case' L30p =>
         intro c302 H
         subst c302
         obtain ⟨rfl, rfl, rfl, rfl, rfl⟩ := sJ5 H
         obtain ⟨hcz401_0, hcz401_1, hcz401_2⟩ := cel3 BK114.out
         obtain ⟨hfz401_0, hfz401_1, hfz401_2⟩ := frz3 BK114.out
         go_wp2
         refine bodyPost_ret (results_ctt rfl _ _ gb114 26 #[.int .i64 0, .int .i64 0, .string (⟨#[]⟩ : ByteArray)] (0, 0) _ rfl blkZ Tryd.underlying26 rfl (by kernel_rfl)) rfl ?_
         exact ⟨endA, bwA⟩
        case' L30n =>
         intro c302 H
         replace c302 := Bool.eq_false_iff.mpr c302
         subst c302
         replace H := itN H
         obtain ⟨c303, H⟩ := H
         have c303b0 := decide_eq_true c303
         have c303b1 : decide (0 < x0_1.size) = true := decide_eq_true (by omega)
         clear c303
         replace H := bnA H
         obtain ⟨t117, A305, H⟩ := H
         replace H := itN H
         obtain ⟨c306, H⟩ := H
         have c306b0 := decide_eq_true c306
         have c306b1 : decide (1 < x0_1.size) = true := decide_eq_true (by omega)
         clear c306
         replace H := bnA H
         obtain ⟨t118, A308, H⟩ := H
         replace H := itN H
         obtain ⟨c309, H⟩ := H
         have LMc309 := Aside0.mk c309
         clear c309
         first | ((with_reducible replace H := bsG H); obtain ⟨y119, Ny119, H⟩ := H) | (obtain ⟨y119, hy119⟩ : ∃ y_ : List Int, y_ = (x5_1 ++ [(Go.bits .or .i64 (wrap64 (t117 * 16)) t118) % 256]) := ⟨_, rfl⟩; rw [← hy119] at H; have Ny119 := Aside0.mk hy119; clear hy119)
         replace H := itN H
         obtain ⟨c310, H⟩ := H
         have c310b0 := eq_true c310
         have c310b1 := decide_eq_true c310
         clear c310
         have H' := Aside0.mk H
         clear H
         try go_wp2
         replace HO_5 := Aside0.mk (Kd.R_drew HO_5.out)
         replace BK114 := Aside0.mk (blk_drew BK114.out)
         replace HB := Aside0.mk (below_drew1 HB.out)
         have p304 : 0 ≤ (0 : Int) := (by omega)
         have q304 : 0 < x0_1.size := (by have : (0 : Int) < (x0_1.size : Int) := odA; omega)
         have hx304 : ∀ h : 0 < x0_1.size, ((x0_1[0]'h).toNat : Int) = bt x0_1 0 := bt_at x0_1 0
         clear p304
         have qi304 : (0 < (x0_1.size : Int)) = True := eq_true (odA)
         replace q304 := eq_true q304
         have p307 : 0 ≤ (1 : Int) := (by omega)
         have q307 : 1 < x0_1.size := (by have : (1 : Int) < (x0_1.size : Int) := odA; omega)
         have hx307 : ∀ h : 1 < x0_1.size, ((x0_1[1]'h).toNat : Int) = bt x0_1 1 := bt_at x0_1 1
         clear p307
         have qi307 : (1 < (x0_1.size : Int)) = True := eq_true (odA)
         replace q307 := eq_true q307
         refine start_ (n := 13) (S := fun w' => True) (ds := []) (mkB 13 0) (by kernel_rfl) rfl rfl trivial (fun hHeld => ?_); refine with_tabW value_bytes.tab7 value_bytes.bits7 (fun HT_ HW_ => ?_)
         generalize wc.drew = w401 at HO_5 BK114 HB hHeld ⊢
         refine pureA 0 (some 33) (mkB 13 1) ?_
         refine pureA 1 (some 34) (mkB 13 3) ?_
         refine pureA 5 (some 38) (mkB 13 35) ?_
         refine take_ (i := 2) (N := some 35) (v := ?_) (a' := ?_) (mkB 13 39) rfl rfl (take_ofW HT_.out HW_.out (by kernel_rfl)) (fun _ _ _ h => h) (Or.inl ⟨by rfl, ?_⟩) hHeld ?_ ?_
         rotate_left
         ·intro w' _
          go_simp
          with_reducible rfl
         rotate_left
         ·simp only [Act.put, List.setIfInBounds_toArray, List.set_cons_zero, List.set_cons_succ, i64_w, i32_w]
          rfl
         refine take_ (i := 6) (N := some 39) (v := ?_) (a' := ?_) (mkB 13 103) rfl rfl (take_ofW HT_.out HW_.out (by kernel_rfl)) (fun _ _ _ h => h) (Or.inl ⟨by rfl, ?_⟩) hHeld ?_ ?_
         rotate_left
         ·intro w' _
          go_simp
          with_reducible rfl
         rotate_left
         ·simp only [Act.put, List.setIfInBounds_toArray, List.set_cons_zero, List.set_cons_succ, i64_w, i32_w]
          rfl
         refine oneA 3 (some 36) (mkB 13 111) (fun K hK => ?_)
         refine goesS Tryd.func39 #[.int .u8 (bt x0_1 0)] ?_
         with_reducible refine (value_digit.calls _ _ _ A305.out).mono ?_
         rintro e w' ⟨rfl, ⟨nd, rfl⟩⟩
         refine ⟨_, rfl, ?_⟩
         refine hK.out _ _ trivial (fun hHeld => ?_)
         clear hK K
         refine normA ?_
         refine pureA 4 (some 37) (mkB 13 127) ?_
         refine oneA 7 (some 40) (mkB 13 255) (fun K hK => ?_)
         refine goesS Tryd.func39 #[.int .u8 (bt x0_1 1)] ?_
         with_reducible refine (value_digit.calls _ _ _ A308.out).mono ?_
         rintro e w' ⟨rfl, ⟨nd, rfl⟩⟩
         refine ⟨_, rfl, ?_⟩
         refine hK.out _ _ trivial (fun hHeld => ?_)
         clear hK K
         refine normA ?_
         refine pureA 8 (some 41) (mkB 13 511) ?_
         refine pureA 9 (some 42) (mkB 13 1023) ?_
         refine oneA 10 (some 43) (mkB 13 2047) (fun K hK => ?_)
         refine value_ (w1 := ?_) (v := ?_) (by rfl) rfl ?_ ?_
         rotate_left 2
         ·go_simp
          constructor
          ·rfl
          ·rfl
         refine hK.out _ _ trivial (fun hHeld => ?_)
         clear hK K
         refine normA ?_
         refine oneA 11 (some 44) (mkB 13 4095) (fun K hK => ?_)
         refine Kd.R_append_step (Kd.int .u8) (w0 := w) w.heap.size (by rfl) (.tmp 33) (.tmp 43) 22 5 (.int .u8 0) 1 rfl Tryd.underlying22 info5 rfl (by decide) (by omega) u5 x5_1 ((Go.bits .or .i64 (wrap64 (t117 * 16)) t118) % 256) [.int .u8 ((Go.bits .or .i64 (wrap64 (t117 * 16)) t118) % 256)] (fun _ => True) (fun _ => False) rfl rfl ?aP (fun _ hk => hk.elim) ?aF ?aO ?aB ?aS ?aL ?_
         (case aP => exact rfl)
         (case aB => exact (bwA))
         (case aF => exact (fun _ _ => trivial))
         (case aO => exact (raA HO_5.out))
         (case aS => exact (below_size (bwA)))
         (case aL => have := LMc309.out; omega)
         intro v120 w402 ho hb hg hat
         rw [← Ny119.out] at ho
         have n0_ := Aside0.mk (blk_grown (g := gb114) (o := .cells #[.int .i64 x115000_1, .int .i64 x115001_1, .string x115002_1] 26 (0, 0)) blkA hg (Kd.R_ne HO_5.out BK114.out (by decide)))
         have n1_ := Aside0.mk (hb)
         have n2_ := Aside0.mk (ho)
         clear BK114
         clear HB
         clear HO_5
         have BK114 := n0_
         have HB := n1_
         have HO121 := n2_
         clear n0_ n1_ n2_
         clear ho hb hg hat
         refine hK.out _ _ trivial (fun hHeld => ?_)
         clear hK K
         refine normA ?_
         refine pureA 12 (some 5) (mkB 13 8191) ?_
         refine done_ (done_of HT_.out (by kernel_rfl)) ?_
         try go_wp2
         go_roundg kj300
         case measure => have := HK1.out; have := HJ200.out; have := HJ300.out; omega
         case rel => exact ⟨(x0_1.extract 2 x0_1.size), (y119), (x115000_1), (x115001_1), (x115002_1), (endS), H', ⟨by have := HK1.out; have := HJ200.out; have := HJ300.out; omega⟩, ⟨by (with_reducible repeat (first | apply Kd.R_alloc | apply Kd.R_drewN | apply Kd.R_drew)); exact HO121.out⟩, ⟨blkZ⟩, ⟨bwA⟩⟩
     case' L25n =>
      intro c202 H
      replace c202 := Bool.eq_false_iff.mpr c202
      subst c202
      revert H; refine itQ ?L31p ?L31n
      case' L31p =>
       rintro ⟨c203b0, c203b1⟩ H
       obtain ⟨rfl, rfl, rfl, rfl, rfl⟩ := sJ5 H
       obtain ⟨hcz301_0, hcz301_1, hcz301_2⟩ := cel3 BK114.out
       obtain ⟨hfz301_0, hfz301_1, hfz301_2⟩ := frz3 BK114.out
       go_wp2
       refine bodyPost_ret (results_ctt rfl _ _ gb114 26 #[.int .i64 0, .int .i64 0, .string (⟨#[]⟩ : ByteArray)] (0, 0) _ rfl blkZ Tryd.underlying26 rfl (by kernel_rfl)) rfl ?_
       exact ⟨endA, bwA⟩
      case' L31n =>
       rintro ⟨c203b0, c203b1⟩ c203 H
       revert H; refine itR ?L32p ?L32n
       case' L32p =>
        intro c204 H
        have c204b0 := gtT c204
        have c204b1 : decide (200 < x5_1.length) = true := decide_eq_true (by omega)
        clear c204
        obtain ⟨rfl, rfl, rfl, rfl, rfl⟩ := sJ5 H
        have M23 := True.intro
       case' L32n =>
        intro c204 H
        have c204b0 := gtF c204
        have c204b1 : decide (200 < x5_1.length) = false := decide_eq_false (by omega)
        clear c204
        replace H := itN H
        obtain ⟨c205, H⟩ := H
        have c205b0 := eq_true c205
        have c205b1 := decide_eq_true c205
        clear c205
        obtain ⟨rfl, rfl, rfl, rfl, rfl⟩ := sJ5 H
        have M24 := True.intro
     all_goals
      case _ =>
       obtain ⟨Ao301, co301, eo301⟩ := Kd.R_slice HO_5.out
       subst eo301
       first
        | clear M23
          obtain ⟨hcz302_0, hcz302_1, hcz302_2⟩ := cel3 BK114.out
          obtain ⟨hfz302_0, hfz302_1, hfz302_2⟩ := frz3 BK114.out
          go_wp2
          refine bodyPost_ret (results_ctt rfl _ _ gb114 26 #[.int .i64 0, .int .i64 0, .string (⟨#[]⟩ : ByteArray)] (0, 0) _ rfl blkZ Tryd.underlying26 rfl (by kernel_rfl)) rfl ?_
          exact ⟨endA, bwA⟩
        | clear M24
          try go_wp2
          replace HO_5 := Aside0.mk (Kd.R_drew HO_5.out)
          replace BK114 := Aside0.mk (blk_drew BK114.out)
          replace HB := Aside0.mk (below_drew1 HB.out)
          have hcv303 := own_string (P := Tryd.prog) Tryd.underlying22 Tryd.underlying5 Tryd.underlying9 (Kd.own_of_R HO_5.out)
          have hc0 := fun j => blk_cell (w := wc) BK114.out j
          have hf0 := fun j => blk_frozen (w := wc) BK114.out j
          have HB := Aside0.mk (show Below w.heap.size w wc from ⟨HB.out.os, HB.out.tape, HB.out.output, HB.out.size, HB.out.block⟩)
          go_region_with (fail)
          try go_wp2
          refine bodyPost_ret (results_ctt rfl _ _ gb114 26 #[.int .i64 4, .int .i64 0, .string (strOfNums x5_1)] (0, 0) _ rfl blkZ Tryd.underlying26 rfl (by kernel_rfl)) rfl ?_
          exact ⟨endA, bwA⟩
end Go.Proofs.YtlejenoibblhnaaDoor.A
