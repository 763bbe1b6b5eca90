import Derived.Test.YtkdndabpaajkaaaGreatDoorAx0
namespace Go.Proofs.YtkdndabpaajkaaaGreatDoor.A
open Go.RowKit Go.Proofs.YtkdndabpaajkaaaGreatDoorW.PrintWords Go.Proofs.YtkdndabpaajkaaaGreatDoorW.PrintLast Go.Proofs.YtkdndabpaajkaaaGreatDoorW.PrintMore
attribute [local go_sem] max2_int min2_int max_two min_two max_three min_three max_four min_four   -- for this text's walks alone
set_option linter.unusedVariables false
set_option linter.unusedSimpArgs false
set_option maxHeartbeats 8000000
set_option maxRecDepth 100000
def quic_Size.j0 : Nat → Int → Int → Bool → Option (Int)
 | 0, _, _, _ => none
 | k + 1, x0, x3, x4 => if x4 = true then (some 0) else (if x0 ≥ 1073741824 then (some (wrap64 ((wrap64 ((wrap64 (x3 * 2)) * 2)) * 2))) else (if x0 ≥ 16384 then (some (wrap64 ((wrap64 (x3 * 2)) * 2))) else (if x0 ≥ 64 then (some (wrap64 (x3 * 2))) else (some x3))))
def quic_Size.f (k : Nat) (a0 : Int) : Option (Int) := if a0 < 0 then (quic_Size.j0 k a0 1 true) else (quic_Size.j0 k a0 1 (decide (a0 > 4611686018427387903)))
theorem quic_Size.mono_l : ∀ k, (∀ y0 y1 y2, LeO (quic_Size.j0 k y0 y1 y2) (quic_Size.j0 (k + 1) y0 y1 y2))
 | 0 => fun _ _ _ r h => by simp [quic_Size.j0] at h
 | k + 1 => by
  have ih0 := quic_Size.mono_l k
  ·intro y0 y1 y2
   unfold quic_Size.j0
   repeat' (with_reducible first | exact ih0 _ _ _ | exact LeO.refl _ | exact LeO.none _ | refine LeO.ite ?_ ?_ | refine LeO.bind ?_ (fun _ => ?_))
theorem quic_Size.mono : ∀ a0 k, LeO (quic_Size.f k a0) (quic_Size.f (k + 1) a0) := by
 intro a0 k; have ih0 := quic_Size.mono_l k; unfold quic_Size.f
 repeat' (with_reducible first | exact ih0 _ _ _ | exact LeO.refl _ | exact LeO.none _ | refine LeO.ite ?_ ?_ | refine LeO.bind ?_ (fun _ => ?_))
theorem quic_Size.calls (k : Nat) (a0 : Int) (r : Int) (w : World) (h : quic_Size.f k a0 = some r) :
  Calls Tryz.prog 171 #[.int .i64 a0] w fun e w' => e = .returned (.int .i64 r) ∧ Drawn0 w w' := by
 unfold quic_Size.f at h; have H := h; clear h; have HC101 := aM H; clear H; go_enter Tryz.func171, Tryz.ntmps171; go_upto_region 2 with (fail); go_cut [4] (fun v4 wc => ∃ (kq : Nat) (x4_100 : Bool), v4 = .bool x4_100 ∧ Aside0 (quic_Size.j0 kq a0 1 x4_100 = some r) ∧ Aside0 (kq ≤ k) ∧ Drawn0 w wc)
 case first =>
  have H := HC101.out; clear HC101; revert H; refine itR ?L3p ?L3n
  case' L3p =>
   intro c102 H; have c102b0 := dT c102; clear c102
   (first | rw [c102b0] | (simp only [i64_w, i32_w]; rw [c102b0]) | skip)
   have H' := aM H; clear H; have M1 := trivial
  case' L3n =>
   intro c102 H; have c102b0 := dF c102; clear c102
   (first | rw [c102b0] | (simp only [i64_w, i32_w]; rw [c102b0]) | skip)
   have H' := aM H; clear H; have M2 := trivial
  all_goals
   case _ =>
    go_wp2
    go_meet
    first
     | clear M1
       case rel => exact ⟨_, (true), (endS), H', ⟨by first | omega | exact Nat.le_refl _⟩, drA⟩
     | clear M2
       case rel => exact ⟨_, (decide (a0 > 4611686018427387903)), (endS), H', ⟨by first | omega | exact Nat.le_refl _⟩, drA⟩
 case rest =>
  clear HC101; (try clear c1); (try clear p2); (try clear c10); (try clear c17); obtain ⟨kq, x4_100, rfl, HA, HJ100, ⟨mc100, rfl⟩⟩ := hcut
  cases kq with
  | zero => exact absurd HA.out (by simp [quic_Size.j0])
  | succ kj100 =>
   have H := HA.out; clear HA; simp only [quic_Size.j0] at H; revert H; refine itR ?L4p ?L4n
   case' L4p =>
    intro c102 H; subst c102; obtain rfl := sI H
   case' L4n =>
    intro c102 H; replace c102 := Bool.eq_false_iff.mpr c102; subst c102; revert H; refine itR ?L5p ?L5n
    case' L5p =>
     intro c103 H; have c103b0 := geT c103; clear c103; obtain rfl := sI H
    case' L5n =>
     intro c103 H; have c103b0 := geF c103; clear c103; revert H; refine itR ?L6p ?L6n
     case' L6p =>
      intro c104 H; have c104b0 := geT c104; clear c104; obtain rfl := sI H
     case' L6n =>
      intro c104 H; have c104b0 := geF c104; clear c104; revert H; refine itR ?L7p ?L7n
      case' L7p =>
       intro c105 H; have c105b0 := geT c105; clear c105; obtain rfl := sI H
      case' L7n =>
       intro c105 H; have c105b0 := geF c105; clear c105; obtain rfl := sI H
   all_goals
    case _ =>
     go_wp2; go_ret; exact ⟨endS, drA⟩
def quic_class.l0 : Nat → Int → Int → Option (Int)
 | 0, _, _ => none
 | k + 1, x0, x3 => if x0 > 1 then (quic_class.l0 k (wrap64 (Int.tdiv x0 2)) (wrap64 (x3 + 1))) else (some x3)
def quic_class.f (k : Nat) (a0 : Int) : Option (Int) := quic_class.l0 k a0 0
theorem quic_class.mono_l : ∀ k, (∀ y0 y1, LeO (quic_class.l0 k y0 y1) (quic_class.l0 (k + 1) y0 y1))
 | 0 => fun _ _ r h => by simp [quic_class.l0] at h
 | k + 1 => by
  have ih0 := quic_class.mono_l k
  ·intro y0 y1
   unfold quic_class.l0
   repeat' (with_reducible first | exact ih0 _ _ | exact LeO.refl _ | exact LeO.none _ | refine LeO.ite ?_ ?_ | refine LeO.bind ?_ (fun _ => ?_))
theorem quic_class.mono : ∀ a0 k, LeO (quic_class.f k a0) (quic_class.f (k + 1) a0) := by
 intro a0 k; have ih0 := quic_class.mono_l k; unfold quic_class.f
 repeat' (with_reducible first | exact ih0 _ _ | exact LeO.refl _ | exact LeO.none _ | refine LeO.ite ?_ ?_ | refine LeO.bind ?_ (fun _ => ?_))
theorem quic_class.calls (k : Nat) (a0 : Int) (r : Int) (w : World) (h : quic_class.f k a0 = some r) :
  Calls Tryz.prog 172 #[.int .i64 a0] w fun e w' => e = .returned (.int .i64 r) ∧ Drawn0 w w' := by
 unfold quic_class.f at h; have H := h; clear h; have H' := aM H; clear H; go_enter Tryz.func172, Tryz.ntmps172; go_wp2
 go_loopg [0, 3] k (fun kq v0 v3 w' => ∃ (x0_1 : Int) (x3_1 : Int), v0 = .int .i64 x0_1 ∧ v3 = .int .i64 x3_1 ∧ Aside0 (quic_class.l0 kq x0_1 x3_1 = some r) ∧ Aside0 (kq ≤ k) ∧ Drawn0 w w')
 case atStart => exact ⟨(a0), (0), (endS), (endS), H', ⟨Nat.le_refl _⟩, drA⟩
 case round =>
  clear H'; (try clear c1); (try clear p2); (try clear c17); obtain ⟨x0_1, x3_1, rfl, rfl, HA, HK1, ⟨m1, rfl⟩⟩ := hrel
  cases gk with
  | zero => exact absurd HA.out (by simp [quic_class.l0])
  | succ k1 =>
   have H := HA.out; clear HA; simp only [quic_class.l0] at H
   by_cases c101 : x0_1 > 1
   ·rw [if_pos c101] at H
    have c101b0 : decide (1 < x0_1) = true := dT c101; clear c101; have H' := aM H; clear H; go_wp2
    go_roundg k1
    case measure => have := HK1.out; omega
    case rel => exact ⟨(wrap64 (Int.tdiv x0_1 2)), (wrap64 (x3_1 + 1)), (endS), (endS), H', ⟨by have := HK1.out; omega⟩, drA⟩
   ·rw [if_neg c101] at H
    have c101b0 : decide (1 < x0_1) = false := dF c101; clear c101; obtain rfl := sI H; go_wp2; go_ret; exact ⟨endS, drA⟩
def quic_Num.l0 : Nat → Int → Int → List Int → Int → Int → Option (ByteArray)
 | 0, _, _, _, _, _ => none
 | k + 1, x0, x3, x4, x12, x13 => if x13 < x12 then (if 0 ≤ (wrap64 (8 * x13)) then (if 0 ≤ (wrap64 ((wrap64 (x3 - 1)) - x13)) then (if (wrap64 ((wrap64 (x3 - 1)) - x13)) < (x4.length : Int) then (quic_Num.l0 k x0 x3 (x4.set ((wrap64 ((wrap64 (x3 - 1)) - x13)) : Int).toNat ((shr .i64 x0 (wrap64 (8 * x13))) % 256)) x12 (wrap64 (x13 + 1))) else (none)) else (none)) else (none)) else (if 0 < (x4.length : Int) then ((quic_class.f k x3).bind fun t464 => (some (strOfNums (x4.set (0 : Int).toNat (Go.bits .or .u8 (rd x4 0) ((wrap64 (t464 * 64)) % 256)))))) else (none))
def quic_Num.f (k : Nat) (a0 : Int) : Option (ByteArray) := (quic_Size.f k a0).bind fun t458 => (if t458 = 0 then (some (⟨#[]⟩ : ByteArray)) else (if 0 ≤ t458 then (if (t458 : Int).toNat ≤ 281474976710656 then (quic_Num.l0 k a0 t458 (List.replicate (t458 : Int).toNat 0) t458 0) else (none)) else (none)))
theorem quic_Num.mono_l : ∀ k, (∀ y0 y1 y2 y3 y4, LeO (quic_Num.l0 k y0 y1 y2 y3 y4) (quic_Num.l0 (k + 1) y0 y1 y2 y3 y4))
 | 0 => fun _ _ _ _ _ r h => by simp [quic_Num.l0] at h
 | k + 1 => by
  have ih0 := quic_Num.mono_l k
  ·intro y0 y1 y2 y3 y4
   unfold quic_Num.l0
   repeat' (with_reducible first | exact ih0 _ _ _ _ _ | exact quic_Size.mono _ _ | exact quic_class.mono _ _ | exact LeO.refl _ | exact LeO.none _ | refine LeO.ite ?_ ?_ | refine LeO.bind ?_ (fun _ => ?_))
theorem quic_Num.mono : ∀ a0 k, LeO (quic_Num.f k a0) (quic_Num.f (k + 1) a0) := by
 intro a0 k; have ih0 := quic_Num.mono_l k; unfold quic_Num.f
 repeat' (with_reducible first | exact ih0 _ _ _ _ _ | exact quic_Size.mono _ _ | exact quic_class.mono _ _ | exact LeO.refl _ | exact LeO.none _ | refine LeO.ite ?_ ?_ | refine LeO.bind ?_ (fun _ => ?_))
def quic_Num.T10 : Bool × List (List Nat × List Nat) := (true, [([], []), ([0], [0]), ([1], [1]), ([], []), ([3], [3]), ([4], [4]), ([5], [5]), ([2, 6], [2, 6]), ([0, 0, 1, 2, 3, 4, 5, 6, 7], [0]), ([8, 7, 4, 0, 1, 2, 3, 4, 5, 6, 7], [7, 8])])
def quic_Num.B10 : List Nat := [0, 1, 3, 0, 8, 24, 56, 127, 255, 511]
theorem quic_Num.tab10 : rtab .any (opsOf Tryz.f105 10) = quic_Num.T10 := by kernel_rfl
theorem quic_Num.bits10 : waitsOk quic_Num.T10.2 quic_Num.B10 = true := by kernel_rfl
theorem quic_Num.calls (k : Nat) (a0 : Int) (r : ByteArray) (w : World) (h : quic_Num.f k a0 = some r) :
  Calls Tryz.prog 105 #[.int .i64 a0] w fun e w' => e = .returned (.string r) ∧ Below w.heap.size w w' := by
 have HB := aM (Below.refl w.heap.size w); unfold quic_Num.f at h; have H := h; clear h; replace H := bnA H; obtain ⟨t458, A2, H⟩ := H; revert H; refine itQ ?L4p ?L4n
 case' L4p =>
  rintro ⟨c3b0, c3b1⟩ H; obtain rfl := sI H; have M2 := trivial
 case' L4n =>
  rintro ⟨c3b0, c3b1⟩ c3 H; replace H := itN H; obtain ⟨c4, H⟩ := H; have c4b0 := eq_true c4; have c4b1 := dT c4; clear c4; replace H := itN H; obtain ⟨c5, H⟩ := H; have c5b0 := eq_true c5; have c5b1 := dT c5; clear c5
  first | ((with_reducible replace H := bsG H); obtain ⟨y459, Ny459, H⟩ := H) | (obtain ⟨y459, hy459⟩ : ∃ y_ : List Int, y_ = (List.replicate (t458 : Int).toNat 0) := ⟨_, rfl⟩; rw [← hy459] at H; have Ny459 := aM hy459; clear hy459)
  have H' := aM H; clear H; have M3 := trivial
 all_goals
  case _ =>
   go_enter Tryz.func105, Tryz.ntmps105; go_wp2_with (first | ((with_reducible refine gate_callee (f := 171) rfl ?_); refine goesA (some 7) Tryz.func171 #[.int .i64 a0] ?_; (with_reducible refine (quic_Size.calls _ _ _ _ A2.out).mono ?_); rintro e w' ⟨rfl, ⟨nd, rfl⟩⟩; refine ⟨_, rfl, ?_⟩; apply stopA; (case other => exact trivial)))
   case _ =>
    first
     | clear M2
       (try go_wp2_with (fail))
       go_ret; exact ⟨endA, bwA⟩
     | clear M3
       try go_wp2_with (first | ((with_reducible refine gate_dst (N := 11) rfl ?_); refine Kd.R_make (Kd.int .u8) _ 5 rfl (N := 11) rfl 160 _ _ rfl t458 rfl rfl Tryz.underlying160 (.int .u8 0) 1 info5 rfl (by decide) (by omega) 0 (ok := fun _ => True) (okp := fun _ => True) rfl (fun _ hk => hk) trivial (odA) (Nat.le_trans (Nat.mul_le_mul_right _ (odA : t458.toNat ≤ 281474976710656)) (by omega)) (Below.refl _ _) (Nat.le_refl _) ?_; intro v460 w101 ho102 hb hg_ hnew_; clear hg_ hnew_; (first | rw [← Ny459.out] at ho102 | (simp only [Int.reduceToNat] at ho102; rw [← Ny459.out] at ho102)); have HO461 := aM (Kd.R_lower ho102 (below_size (bwA))); replace HB := aM (below_step (bwA) hb); clear hb ho102))
       go_loopg [13] k (fun kq v13 w' => ∃ (x4_1 : List Int) (x13_1 : Int), v13 = .int .i64 x13_1 ∧ Aside0 (quic_Num.l0 kq a0 t458 x4_1 t458 x13_1 = some r) ∧ Aside0 (kq ≤ k) ∧ Aside0 (Kd.R (Kd.int .u8) 5 w' w.heap.size (fun _ => True) v460 x4_1) ∧ Aside0 (Below w.heap.size w w'))
       case atStart => exact ⟨(y459), (0), (endS), H', ⟨Nat.le_refl _⟩, ⟨by (with_reducible repeat (first | apply Kd.R_alloc | apply Kd.R_drewN | apply Kd.R_drew)); exact HO461.out⟩, ⟨bwA⟩⟩
       case round =>
        clear H'; (try clear c1); (try clear p2); (try clear c3); (try clear c3b0); (try clear c3b1); (try clear c4); (try clear c4b0); (try clear c4b1); (try clear c5); (try clear c5b0); (try clear c5b1); (try clear c10); (try clear c17); obtain ⟨x4_1, x13_1, rfl, HA, HK1, HO_4, HB⟩ := hrel
        cases gk with
        | zero => exact absurd HA.out (by simp [quic_Num.l0])
        | succ k1 =>
         have H := HA.out; clear HA; simp only [quic_Num.l0] at H; revert H; refine itR ?L1p ?L1n
         case' L1p =>
          intro c103 H; have c103b0 := dT c103; clear c103; obtain ⟨ji104, hji104⟩ : ∃ j_ : Int, (wrap64 (8 * x13_1)) = j_ := ⟨_, rfl⟩; replace H : (if 0 ≤ (ji104) then (if 0 ≤ (wrap64 ((wrap64 (t458 - 1)) - x13_1)) then (if (wrap64 ((wrap64 (t458 - 1)) - x13_1)) < (x4_1.length : Int) then (quic_Num.l0 k1 a0 t458 (x4_1.set ((wrap64 ((wrap64 (t458 - 1)) - x13_1)) : Int).toNat ((shr .i64 a0 (ji104)) % 256)) t458 (wrap64 (x13_1 + 1))) else (none)) else (none)) else (none)) = some r := by first | (rw [hji104] at H; exact H) | (simp only [hji104] at H ⊢; exact H)
          have hji104w : (IntKind.i64.wrap (8 * x13_1)) = ji104 := (i64_w _).trans hji104; replace H := itN H; obtain ⟨c105, H⟩ := H; have c105b0 := eq_true c105; have c105b1 := dT c105; clear c105; obtain ⟨ji106, hji106⟩ : ∃ j_ : Int, (shr .i64 a0 (ji104)) = j_ := ⟨_, rfl⟩; replace H : (if 0 ≤ (wrap64 ((wrap64 (t458 - 1)) - x13_1)) then (if (wrap64 ((wrap64 (t458 - 1)) - x13_1)) < (x4_1.length : Int) then (quic_Num.l0 k1 a0 t458 (x4_1.set ((wrap64 ((wrap64 (t458 - 1)) - x13_1)) : Int).toNat ((ji106) % 256)) t458 (wrap64 (x13_1 + 1))) else (none)) else (none)) = some r := by first | (rw [hji106] at H; exact H) | (simp only [hji106] at H ⊢; exact H)
          have hji106_ : (a0 / 2 ^ min (ji104).toNat 64) = ji106 := hji106; have hji106z : (ji104) ≤ 64 → (a0 / 2 ^ (ji104).toNat) = ji106 := shr_small hji106; obtain ⟨ji107, hji107⟩ : ∃ j_ : Int, (wrap64 ((wrap64 (t458 - 1)) - x13_1)) = j_ := ⟨_, rfl⟩; replace H : (if 0 ≤ (ji107) then (if (ji107) < (x4_1.length : Int) then (quic_Num.l0 k1 a0 t458 (x4_1.set ((ji107) : Int).toNat ((ji106) % 256)) t458 (wrap64 (x13_1 + 1))) else (none)) else (none)) = some r := by first | (rw [hji107] at H; exact H) | (simp only [hji107] at H ⊢; exact H)
          have hji107w : (IntKind.i64.wrap ((wrap64 (t458 - 1)) - x13_1)) = ji107 := (i64_w _).trans hji107; replace H := itN H; obtain ⟨c108, H⟩ := H; have c108b0 := dT c108; clear c108; replace H := itN H; obtain ⟨c109, H⟩ := H; have c109b0 := dT c109; clear c109
          first | ((with_reducible replace H := bsG H); obtain ⟨y462, Ny462, H⟩ := H) | (obtain ⟨y462, hy462⟩ : ∃ y_ : List Int, y_ = (x4_1.set ((ji107) : Int).toNat ((ji106) % 256)) := ⟨_, rfl⟩; rw [← hy462] at H; have Ny462 := aM hy462; clear hy462)
          have H' := aM H; clear H; have p110 : 0 ≤ ((ji107) : Int) := odA; have q110 : ((ji107) : Int) < ((x4_1.length : Int) : Int) := odA; obtain ⟨go110, co110, eo110, gb110, gl110, cl110, HG110⟩ := Kd.R_form HO_4.out (by omega)
          (first | cases eo110 | (injection eo110 with ea_ en_ ec_; (first | subst ea_ | (injection ea_ with ea_; subst ea_)); subst ec_; clear en_))
          have GB110 := aM gb110; have GG110 := aM HG110; clear gb110 gl110 HG110; obtain ⟨hx110_0, hf110_0⟩ := Kd.R_celln 0 HO_4.out ((ji107) : Int) p110 q110; replace p110 := eq_true p110; replace q110 := eq_true q110; have HP201 := Kd.R_putg HO_4.out ((ji107) : Int) ((ji106) % 256); try go_wp2_with (first | ((with_reducible refine gate_store (t := 5) (p := 26) rfl ?_); refine store_event (t := 5) (p := 26) (v := ?vo1_) (w1 := (wr.setCell ⟨go110, ((ji107) : Int).toNat, none⟩ (.int .u8 ((ji106) % 256)))) ?hg ?ho ?hn ?hr ?_; (case ho => rfl); (case hg => rfl); (case hn => rfl); (case hr => first | (go_simp; done) | (go_simp; rfl)); intro w202 hw; have hg : wr.grownBy w202 (some go110) := (by rw [hw]; exact HP201.2); have hp_ : Kd.R (Kd.int .u8) 5 w202 w.heap.size (fun _ => True) (.slice (some ⟨go110, 0, none⟩) x4_1.length co110) y462 := (by rw [hw, Ny462.out]; exact HP201.1); clear HP201; replace HO_4 := aM (hp_); replace HB := aM ((by rw [hw]; exact below_set (HB.out) GB110.out : Below w.heap.size w w202)); clear hg hw hp_))
          go_roundg k1
          case measure => have := HK1.out; omega
          case rel => exact ⟨(y462), (wrap64 (x13_1 + 1)), (endS), H', ⟨by have := HK1.out; omega⟩, ⟨by (with_reducible repeat (first | apply Kd.R_alloc | apply Kd.R_drewN | apply Kd.R_drew)); exact HO_4.out⟩, ⟨bwA⟩⟩
         case' L1n =>
          intro c103 H; have c103b0 := dF c103; clear c103; replace H := itN H; obtain ⟨c104, H⟩ := H; have c104b0 := dT c104; have c104b1 : decide (0 < x4_1.length) = true := dT (by omega); clear c104; replace H := bnA H; obtain ⟨t464, A105, H⟩ := H
          first | ((with_reducible replace H := bsG H); obtain ⟨y465, Ny465, H⟩ := H) | (obtain ⟨y465, hy465⟩ : ∃ y_ : List Int, y_ = (x4_1.set (0 : Int).toNat (Go.bits .or .u8 (rd x4_1 0) ((wrap64 (t464 * 64)) % 256))) := ⟨_, rfl⟩; rw [← hy465] at H; have Ny465 := aM hy465; clear hy465)
          obtain rfl := sI H; (try go_wp2); replace HO_4 := aM (Kd.R_drew HO_4.out); replace HB := aM (below_drew1 HB.out); obtain ⟨Ao202, co202, eo202⟩ := Kd.R_slice HO_4.out
          (first | subst eo202 | (injection eo202 with f1_ f2_ f3_; have f4_ := f1_.symm; have f5_ := f3_.symm; clear f1_ f2_ f3_; subst f4_; subst f5_))
          have p463 : 0 ≤ (0 : Int) := (by omega); have q463 : 0 < (x4_1.length : Int) := odA; obtain ⟨ad463, e463, hx463_0⟩ := Kd.at_int (Kd.R_reads' HO_4.out).2.2 0 p463 q463
          cases e463
          have qi463 : (0 < x4_1.length) = True := eq_true (by omega)
          (try rw [show ((0 : Int)).toNat = 0 from rfl] at hx463_0)
          (try rw [Addr.add_zero'] at hx463_0)
          replace p463 := eq_true p463; replace q463 := eq_true q463; refine start_ (n := 10) (S := fun w' => w'.cell? ad463 = some (.int .u8 (rd x4_1 0))) (ds := [9]) (mkB 10 0) (by kernel_rfl) rfl rfl (hx463_0) (fun hHeld => ?_); refine with_tabW quic_Num.tab10 quic_Num.bits10 (fun HT_ HW_ => ?_)
          generalize wr.drew = w201 at HO_4 HB hx463_0 hHeld ⊢
          refine pureA 0 (some 28) (mkB 10 1) ?_; refine pureA 1 (some 29) (mkB 10 3) ?_; refine pureA 3 (some 31) (mkB 10 11) ?_; refine takeA 2 (some 30) (mkB 10 15) ?_ rfl (Or.inl ⟨by rfl, by intro w' s0; go_simp; with_reducible rfl⟩); refine oneA 4 (some 32) (mkB 10 31) (fun K hK => ?_); refine goesS Tryz.func172 #[.int .i64 t458] ?_
          with_reducible refine (quic_class.calls _ _ _ _ A105.out).mono ?_
          rintro e w' ⟨rfl, ⟨nd, rfl⟩⟩; refine ⟨_, rfl, ?_⟩; have p106 : 0 ≤ (0 : Int) := (by omega); have q106 : (0 : Int) < ((x4_1.length : Int) : Int) := odA; have qi106 : (0 < x4_1.length) = True := eq_true (by omega); obtain ⟨go106, co106, eo106, gb106, gl106, cl106, HG106⟩ := Kd.R_form HO_4.out (by omega)
          (first | cases eo106 | (injection eo106 with ea_ en_ ec_; (first | subst ea_ | (injection ea_ with ea_; subst ea_)); subst ec_; clear en_))
          have GB106 := aM gb106; have GG106 := aM HG106; clear gb106 gl106 HG106
          (first | simp only [add_plain] at hx463_0 | skip)
          obtain ⟨hx106_0, hf106_0⟩ := Kd.R_celln 0 HO_4.out (0 : Int) p106 q106
          (try rw [show ((0 : Int)).toNat = 0 from rfl] at hx106_0)
          (try simp only [Nat.reduceMul, Nat.zero_mul, Nat.zero_add, Nat.reduceAdd] at hx106_0)
          (try rw [show ((0 : Int)).toNat = 0 from rfl] at hf106_0)
          (try simp only [Nat.reduceMul, Nat.zero_mul, Nat.zero_add, Nat.reduceAdd] at hf106_0)
          replace p106 := eq_true p106; replace q106 := eq_true q106; have HP203 := Kd.R_putn HO_4.out (0 : Int) (Go.bits .or .u8 (rd x4_1 0) ((wrap64 (t464 * 64)) % 256)); rw [← Ny465.out] at HP203; have HQ203 := aM HP203; clear HP203; refine hK.out _ _ (hHeld) (fun hHeld => ?_); clear hK K; refine normA ?_; refine pureA 5 (some 33) (mkB 10 63) ?_; refine pureA 6 (some 34) (mkB 10 127) ?_; refine pureA 7 (some 35) (mkB 10 255) ?_; refine pureA 8 (some 36) (mkB 10 511) ?_; refine last_ (i := 9) (N := none) (mkB 10 1023) rfl rfl (one_of HT_.out (by kernel_rfl)) (by decide) (fun K hK => ?_); refine skip_ (w1 := ?_) (by rfl) rfl ?_ ?_; rotate_left
          ·go_simp
           rfl
          refine hK.out _ _ ?_; clear hK K; refine done_ (done_of HT_.out (by kernel_rfl)) ?_; have hcv204 := own_string (P := Tryz.prog) (w := (w201.drewN nd).setCell ⟨go106, 0, none⟩ (.int .u8 (Go.bits .or .u8 (rd x4_1 0) (IntKind.u8.wrap (wrap64 (t464 * 64)))))) Tryz.underlying160 Tryz.underlying5 Tryz.underlying9 (Kd.own_of_R (Kd.R_move HQ203.out (fun k _ => rfl))); (try go_wp2); go_ret; exact ⟨endA, bwA⟩
def quic_text.f (k : Nat) (a0 : ByteArray) : Option (ByteArray) := (quic_Num.f k (a0.size : Int)).bind fun t466 => (if t466.size + a0.size ≤ 9223372036854775807 then (some (t466 ++ a0)) else (none))
theorem quic_text.mono : ∀ a0 k, LeO (quic_text.f k a0) (quic_text.f (k + 1) a0) := by
 intro a0 k; unfold quic_text.f
 repeat' (with_reducible first | exact quic_Num.mono _ _ | exact LeO.refl _ | exact LeO.none _ | refine LeO.ite ?_ ?_ | refine LeO.bind ?_ (fun _ => ?_))
theorem quic_text.calls (k : Nat) (a0 : ByteArray) (r : ByteArray) (w : World) (h : quic_text.f k a0 = some r) :
  Calls Tryz.prog 168 #[.string a0] w fun e w' => e = .returned (.string r) ∧ Below w.heap.size w w' := by
 have HB := aM (Below.refl w.heap.size w); unfold quic_text.f at h; have H := h; clear h; replace H := bnA H; obtain ⟨t466, A2, H⟩ := H; replace H := itN H; obtain ⟨c3, H⟩ := H; have c3b0 := eq_true c3; have c3b1 := dT c3; (try have c3b2 : (9223372036854775807 < t466.size + a0.size) = False := eq_false (Nat.not_lt.2 c3)); obtain rfl := sI H; go_enter Tryz.func168, Tryz.ntmps168; (try go_wp2_with (first | ((with_reducible refine gate_callee (f := 105) rfl ?_); refine goesA (some 5) Tryz.func105 #[.int .i64 (a0.size : Int)] ?_; (with_reducible refine (quic_Num.calls _ _ _ _ A2.out).mono ?_); rintro e w101 ⟨rfl, hb⟩; refine ⟨_, rfl, ?_⟩; replace HB := aM (below_step (bwA) hb); (try clear hb)))); go_ret; exact ⟨endA, bwA⟩
def quic_whole.f (a0 : Int) : Option (Bool) := if a0 ≥ (-2305843009213693952) then (some (decide (a0 ≤ 2305843009213693951))) else (some false)
theorem quic_whole.calls (a0 : Int) (r : Bool) (w : World) (h : quic_whole.f a0 = some r) :
  Calls Tryz.prog 222 #[.int .i64 a0] w fun e w' => e = .returned (.bool r) ∧ Drawn0 w w' := by
 unfold quic_whole.f at h; have H := h; clear h; revert H; refine itR ?L1p ?L1n
 case' L1p =>
  intro c2 H; have c2b0 := geT c2; clear c2; obtain rfl := sI H
 case' L1n =>
  intro c2 H; have c2b0 := geF c2; clear c2; obtain rfl := sI H
 all_goals
  case _ =>
   go_enter Tryz.func222, Tryz.ntmps222; go_wp2; go_ret; exact ⟨endS, drA⟩
def quic_fold.f (a0 : Int) : Option (Int) := if a0 < 0 then (some (wrap64 ((wrap64 ((-2) * a0)) - 1))) else (some (wrap64 (2 * a0)))
theorem quic_fold.calls (a0 : Int) (r : Int) (w : World) (h : quic_fold.f a0 = some r) :
  Calls Tryz.prog 244 #[.int .i64 a0] w fun e w' => e = .returned (.int .i64 r) ∧ Drawn0 w w' := by
 unfold quic_fold.f at h; have H := h; clear h; revert H; refine itR ?L1p ?L1n
 case' L1p =>
  intro c2 H; have c2b0 := dT c2; clear c2; obtain rfl := sI H
 case' L1n =>
  intro c2 H; have c2b0 := dF c2; clear c2; obtain rfl := sI H
 all_goals
  case _ =>
   go_enter Tryz.func244, Tryz.ntmps244; go_wp2; go_ret; exact ⟨endS, drA⟩
def quic_Whole.f (k : Nat) (a0 : Int) : Option (ByteArray) := (quic_whole.f a0).bind fun t467 => (if t467 = true then ((quic_fold.f a0).bind fun t468 => ((quic_Num.f k t468).bind fun t469 => (some t469))) else (some (⟨#[]⟩ : ByteArray)))
theorem quic_Whole.mono : ∀ a0 k, LeO (quic_Whole.f k a0) (quic_Whole.f (k + 1) a0) := by
 intro a0 k; unfold quic_Whole.f
 repeat' (with_reducible first | exact quic_Num.mono _ _ | exact LeO.refl _ | exact LeO.none _ | refine LeO.ite ?_ ?_ | refine LeO.bind ?_ (fun _ => ?_))
theorem quic_Whole.calls (k : Nat) (a0 : Int) (r : ByteArray) (w : World) (h : quic_Whole.f k a0 = some r) :
  Calls Tryz.prog 221 #[.int .i64 a0] w fun e w' => e = .returned (.string r) ∧ Below w.heap.size w w' := by
 have HB := aM (Below.refl w.heap.size w); unfold quic_Whole.f at h; have H := h; clear h; replace H := bnA H; obtain ⟨t467, A2, H⟩ := H; revert H; refine itR ?L3p ?L3n
 case' L3p =>
  intro c3 H; subst c3; replace H := bnA H; obtain ⟨t468, A4, H⟩ := H; replace H := bnA H; obtain ⟨t469, A5, H⟩ := H; obtain rfl := sI H; have M1 := trivial
 case' L3n =>
  intro c3 H; replace c3 := Bool.eq_false_iff.mpr c3; subst c3; obtain rfl := sI H; have M2 := trivial
 all_goals
  case _ =>
   go_enter Tryz.func221, Tryz.ntmps221; go_wp2_with (first | ((with_reducible refine gate_callee (f := 222) rfl ?_); refine goesA (some 4) Tryz.func222 #[.int .i64 a0] ?_; (with_reducible refine (quic_whole.calls _ _ _ A2.out).mono ?_); rintro e w' ⟨rfl, ⟨nd, rfl⟩⟩; refine ⟨_, rfl, ?_⟩; apply stopA; (case other => exact trivial)))
   case _ =>
    first
     | clear M1
       (try go_wp2_with (first | ((with_reducible refine gate_callee (f := 244) rfl ?_); refine goesA (some 7) Tryz.func244 #[.int .i64 a0] ?_; (with_reducible refine (quic_fold.calls _ _ _ A4.out).mono ?_); rintro e w' ⟨rfl, ⟨nd, rfl⟩⟩; refine ⟨_, rfl, ?_⟩) | ((with_reducible refine gate_callee (f := 105) rfl ?_); refine goesA (some 8) Tryz.func105 #[.int .i64 t468] ?_; (with_reducible refine (quic_Num.calls _ _ _ _ A5.out).mono ?_); rintro e w101 ⟨rfl, hb⟩; refine ⟨_, rfl, ?_⟩; replace HB := aM (below_step (bwA) hb); (try clear hb)))); go_ret; exact ⟨endA, bwA⟩
     | clear M2
       (try go_wp2_with (fail))
       go_ret; exact ⟨endA, bwA⟩
end Go.Proofs.YtkdndabpaajkaaaGreatDoor.A
