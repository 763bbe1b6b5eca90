-- By drv.py, the session's own driver round the kit's print: the machine's side of the laws, function by function. Not trusted: Lean checks it.
import Derived.Test.YtoajlmmkkcelgaaGreatDoorAx0
import Derived.Test.YtoajlmmkkcelgaaGreatDoorAx17
namespace Go.Proofs.YtoajlmmkkcelgaaGreatDoor.A
open Go.RowKit Go.Proofs.YtoajlmmkkcelgaaGreatDoorW.PrintWords Go.Proofs.YtoajlmmkkcelgaaGreatDoorW.PrintLast Go.Proofs.YtoajlmmkkcelgaaGreatDoorW.PrintMore
attribute [local go_sem] max2_int min2_int max_two min_two max_three min_three max_four min_four   -- for this text's walks alone
set_option linter.unusedVariables false
set_option linter.unusedSimpArgs false

/-! ### caduceusref01_Num: function 23 -/
mutual
def caduceusref01_Num.l0 : Nat → Int → Int → List Int → Int → Option (ByteArray)
 | 0, _, _, _, _ => none
 | k + 1, x0, x3, x4, x5 => if x5 ≥ 0 then (if 0 ≤ (IntKind.u64.wrap (wrap64 (8 * x5))) then (if x4.length < 140737488355328 then (caduceusref01_Num.l0 k x0 x3 (x4 ++ [(shr .u64 (IntKind.u64.wrap (x0)) (IntKind.u64.wrap (wrap64 (8 * x5)))) % 256]) (wrap64 (x5 - 1))) else (none)) else (none)) else (if x3 = 2 then (if 0 < (x4.length : Int) then (caduceusref01_Num.j1 k x3 (x4.set (0 : Int).toNat (((rd x4 0) + 64) % 256))) else (none)) else (caduceusref01_Num.j1 k x3 x4))
def caduceusref01_Num.j1 : Nat → Int → List Int → Option (ByteArray)
 | 0, _, _ => none
 | k + 1, x3, x4 => if x3 = 4 then (if 0 < (x4.length : Int) then ((some (x4.set (0 : Int).toNat (((rd x4 0) + 128) % 256) : List Int)).bind fun y325 => (if x3 = 8 then (some (strOfNums (y325.set (0 : Int).toNat (((rd y325 0) + 192) % 256)))) else (some (strOfNums y325)))) else (none)) else (if x3 = 8 then (if 0 < (x4.length : Int) then (some (strOfNums (x4.set (0 : Int).toNat (((rd x4 0) + 192) % 256)))) else (none)) else (some (strOfNums x4)))
end
def caduceusref01_Num.f (k : Nat) (a0 : Int) : Option (ByteArray) := (caduceusref01_Size.f k a0).bind fun t318 => (caduceusref01_Num.l0 k a0 t318 ([] : List Int) (wrap64 (t318 - 1)))
theorem caduceusref01_Num.mono_l : ∀ k, (∀ y0 y1 y2 y3, LeO (caduceusref01_Num.l0 k y0 y1 y2 y3) (caduceusref01_Num.l0 (k + 1) y0 y1 y2 y3)) ∧ (∀ y0 y1, LeO (caduceusref01_Num.j1 k y0 y1) (caduceusref01_Num.j1 (k + 1) y0 y1))
 | 0 => ⟨fun _ _ _ _ r h => by simp [caduceusref01_Num.l0] at h, fun _ _ r h => by simp [caduceusref01_Num.j1] at h⟩
 | k + 1 => by
  obtain ⟨ih0, ih1⟩ := caduceusref01_Num.mono_l k
  refine ⟨?_, ?_⟩
  all_goals intros
  all_goals first | unfold caduceusref01_Num.l0 | unfold caduceusref01_Num.j1
  all_goals repeat' first
   | (with_reducible exact ih0 _ _ _ _)
   | (with_reducible exact ih1 _ _)
   | (with_reducible exact caduceusref01_Size.mono _ _)
   | (with_reducible exact LeO.refl _)
   | (with_reducible exact LeO.none _)
   | (with_reducible refine LeO.ite ?_ ?_)
   | (with_reducible refine LeO.bind ?_ (fun _ => ?_))
   | exact ih0 _ _ _ _
   | exact ih1 _ _
   | exact caduceusref01_Size.mono _ _
   | exact LeO.none _
   | refine LeO.ite ?_ ?_
   | refine LeO.bind ?_ (fun _ => ?_)
theorem caduceusref01_Num.mono : ∀ a0 k, LeO (caduceusref01_Num.f k a0) (caduceusref01_Num.f (k + 1) a0) := by
 intro a0 k
 obtain ⟨ih0, ih1⟩ := caduceusref01_Num.mono_l k
 unfold caduceusref01_Num.f
 repeat' first
   | (with_reducible exact ih0 _ _ _ _)
   | (with_reducible exact ih1 _ _)
   | (with_reducible exact caduceusref01_Size.mono _ _)
   | (with_reducible exact LeO.refl _)
   | (with_reducible exact LeO.none _)
   | (with_reducible refine LeO.ite ?_ ?_)
   | (with_reducible refine LeO.bind ?_ (fun _ => ?_))
   | exact ih0 _ _ _ _
   | exact ih1 _ _
   | exact caduceusref01_Size.mono _ _
   | exact LeO.none _
   | refine LeO.ite ?_ ?_
   | refine LeO.bind ?_ (fun _ => ?_)
set_option maxHeartbeats 8000000 in
set_option maxRecDepth 100000 in
theorem caduceusref01_Num.calls (k : Nat) (a0 : Int) (r : ByteArray) (w : World) (h : caduceusref01_Num.f k a0 = some r) :
  Calls Tryz.prog 23 #[.int .i64 a0] w fun e w' => e = .returned (.string r) ∧ Below w.heap.size w w' := by
 have HB := Aside0.mk (Below.refl w.heap.size w)
 have H : ((caduceusref01_Size.f k a0).bind fun t318 => (caduceusref01_Num.l0 k a0 t318 ([] : List Int) (wrap64 (t318 - 1)))) = some r := h
 clear h
 replace H := Option.bind_eq_some_iff.mp H
 obtain ⟨t318, A20, H⟩ := H
 replace H : (caduceusref01_Num.l0 k a0 t318 ([] : List Int) (wrap64 (t318 - 1))) = some r := H
 have A2 := Aside0.mk A20
 clear A20
 have H' := Aside0.mk H
 clear H
 go_enter Tryz.func23, Tryz.ntmps23
 go_wp2_with (first | ((with_reducible refine gate_callee (f := 37) rfl ?_); refine goesA (some 7) Tryz.func37 #[.int .i64 a0] ?_; (with_reducible refine (caduceusref01_Size.calls k a0 t318 _ A2.out).mono ?_); rintro e w' ⟨rfl, ⟨nd, rfl⟩⟩; refine ⟨_, rfl, ?_⟩))
 go_loopg [4, 5] k (fun kq v4 v5 w' => ∃ (x4_1 : List Int) (x5_1 : Int), v5 = .int .i64 x5_1 ∧ Aside0 (caduceusref01_Num.l0 kq a0 t318 x4_1 x5_1 = some r) ∧ Aside0 (kq ≤ k) ∧ Aside0 (Kd.R (Kd.int .u8) 5 w' w.heap.size (fun _ => True) v4 x4_1) ∧ Aside0 (Below w.heap.size w w'))
 case atStart => exact ⟨(([] : List Int)), (wrap64 (t318 - 1)), (by first | rfl | (simp; done) | (simp [*]; done)), H', ⟨Nat.le_refl _⟩, ⟨by first | exact Kd.R_nil _ _ _ _ _ | exact Kd.N_nil _ _ _ _ _ | exact Kd.V_nil _ _ _ _ _ | exact Kd.Q_nil _ _ _ _ _ | exact Kd.S_nil _ _ _ _ _⟩, ⟨by repeat (first | (with_reducible first | exact HB.out | apply below_alloc | apply pw_below_drewN | apply below_drew1) | exact HB.out)⟩⟩
 case round =>
  clear H'
  try clear c2
  try clear p2
  obtain ⟨x4_1, x5_1, rfl, HA, HK1, HO_4, HB⟩ := hrel
  cases gk with
  | zero => exact absurd HA.out (by simp [caduceusref01_Num.l0])
  | succ k1 =>
   have H := HA.out
   clear HA
   simp only [caduceusref01_Num.l0] at H
   by_cases c3 : x5_1 ≥ 0
   ·rw [if_pos c3] at H
    have c3b0 : decide (0 ≤ x5_1) = true := decide_eq_true c3
    clear c3
    obtain ⟨ji4, hji4⟩ : ∃ j_ : Int, (IntKind.u64.wrap (wrap64 (8 * x5_1))) = j_ := ⟨_, rfl⟩
    replace H : (if 0 ≤ (ji4) then (if x4_1.length < 140737488355328 then (caduceusref01_Num.l0 k1 a0 t318 (x4_1 ++ [(shr .u64 (IntKind.u64.wrap (a0)) (ji4)) % 256]) (wrap64 (x5_1 - 1))) else (none)) else (none)) = some r := by first | (rw [hji4] at H; exact H) | (simp only [hji4] at H ⊢; exact H)
    by_cases c5 : 0 ≤ (ji4)
    ·rw [if_pos c5] at H
     have c5b0 := eq_true c5
     have c5b1 : decide (0 ≤ (ji4)) = true := decide_eq_true c5
     clear c5
     obtain ⟨ji6, hji6⟩ : ∃ j_ : Int, (shr .u64 (IntKind.u64.wrap (a0)) (ji4)) = j_ := ⟨_, rfl⟩
     replace H : (if x4_1.length < 140737488355328 then (caduceusref01_Num.l0 k1 a0 t318 (x4_1 ++ [(ji6) % 256]) (wrap64 (x5_1 - 1))) else (none)) = some r := by first | (rw [hji6] at H; exact H) | (simp only [hji6] at H ⊢; exact H)
     have hji6_ : ((IntKind.u64.wrap (a0)) / 2 ^ min (ji4).toNat 64) = ji6 := hji6
     have hji6z : (ji4) ≤ 64 → ((IntKind.u64.wrap (a0)) / 2 ^ (ji4).toNat) = ji6 := shr_small hji6
     by_cases c7 : x4_1.length < 140737488355328
     ·rw [if_pos c7] at H
      have LMc7 := Aside0.mk c7
      clear c7
      obtain ⟨y319, hy319⟩ : ∃ y_ : List Int, y_ = (x4_1 ++ [(ji6) % 256]) := ⟨_, rfl⟩
      replace H : (caduceusref01_Num.l0 k1 a0 t318 y319 (wrap64 (x5_1 - 1))) = some r := by first | (rw [hy319]; with_reducible exact H) | (have H2_ := (Option.bind_some _ _).symm.trans H; rw [hy319]; with_reducible exact H2_) | (have H2_ := (Option.bind_some _ _).symm.trans H; with_reducible exact H2_) | with_reducible exact H | (rw [hy319]; exact H) | exact H
      have Ny319 := Aside0.mk hy319
      clear hy319
      have H' := Aside0.mk H
      clear H
      go_wp2_with (first | ((with_reducible refine gate_builtin (b := .append) (xs := #[.tmp 14, .tmp 22]) rfl ?_); at_builtin; refine Kd.R_append (Kd.int .u8) (w0 := w) w.heap.size rfl (.tmp 14) (.tmp 22) 44 5 (.int .u8 0) 1 rfl Tryz.underlying44 info5 rfl (by decide) (by omega) u4 x4_1 ((ji6) % 256) [.int .u8 ((ji6) % 256)] (fun _ => True) (fun _ => False) rfl rfl ?aP (fun _ hk => hk.elim) ?aF ?aO ?aB ?aS ?aL ?_; (case aP => exact rfl); (case aB => exact bwA); (case aF => exact (fun _ _ => trivial)); (case aO => exact (by (with_reducible repeat (first | apply Kd.R_alloc | apply Kd.R_drewN | apply Kd.R_drew)); exact HO_4.out)); (case aS => exact (below_size bwA)); (case aL => have := LMc7.out; omega); intro v320 w8 ho hb hg hat; rw [← Ny319.out] at ho; have n0_ := Aside0.mk (hb); have n1_ := Aside0.mk (ho); clear HB; clear HO_4; have HB := n0_; have HO321 := n1_; clear n0_ n1_; clear ho hb hg hat))
      go_roundg k1
      case measure => have := HK1.out; omega
      case rel => exact ⟨(y319), (wrap64 (x5_1 - 1)), (by first | rfl | (simp; done) | (simp [*]; done)), H', ⟨by have := HK1.out; omega⟩, ⟨by (with_reducible repeat (first | apply Kd.R_alloc | apply Kd.R_drewN | apply Kd.R_drew)); exact HO321.out⟩, ⟨by repeat (first | (with_reducible first | exact HB.out | apply below_alloc | apply pw_below_drewN | apply below_drew1) | exact HB.out)⟩⟩
     ·rw [if_neg c7] at H
      exact absurd H (by simp)
    ·rw [if_neg c5] at H
     exact absurd H (by simp)
   ·rw [if_neg c3] at H
    have c3b0 : decide (0 ≤ x5_1) = false := decide_eq_false c3
    clear c3
    have HC9 := Aside0.mk H
    clear H
    go_upto_if 25 with (fail)
    go_cut [] (fun wc => ∃ (kq : Nat) (x4_8 : List Int), Aside0 (caduceusref01_Num.j1 kq t318 x4_8 = some r) ∧ Aside0 (kq ≤ k1) ∧ Aside0 (Kd.R (Kd.int .u8) 5 wc w.heap.size (fun _ => True) u4 x4_8) ∧ Aside0 (Below w.heap.size w wc))
    case first =>
     have H := HC9.out
     clear HC9
     by_cases c10 : t318 = 2
     ·rw [if_pos c10] at H
      have c10b0 : (t318 == 2) = true := beq_iff_eq.mpr c10
      have c10b1 : (t318 != 2) = false := bne_eq_false_iff_eq.mpr c10
      clear c10
      (first | rw [c10b0] | (simp only [i64_w, i32_w]; rw [c10b0]) | skip)
      by_cases c11 : 0 < (x4_1.length : Int)
      ·rw [if_pos c11] at H
       have c11b0 : decide (0 < (x4_1.length : Int)) = true := decide_eq_true c11
       have c11b1 : decide (0 < x4_1.length) = true := decide_eq_true (by omega)
       clear c11
       obtain ⟨y323, hy323⟩ : ∃ y_ : List Int, y_ = (x4_1.set (0 : Int).toNat (((rd x4_1 0) + 64) % 256)) := ⟨_, rfl⟩
       replace H : (caduceusref01_Num.j1 k1 t318 y323) = some r := by first | (rw [hy323]; with_reducible exact H) | (have H2_ := (Option.bind_some _ _).symm.trans H; rw [hy323]; with_reducible exact H2_) | (have H2_ := (Option.bind_some _ _).symm.trans H; with_reducible exact H2_) | with_reducible exact H | (rw [hy323]; exact H) | exact H
       have Ny323 := Aside0.mk hy323
       clear hy323
       have H' := Aside0.mk H
       clear H
       obtain ⟨Ao13, co13, eo13⟩ := Kd.R_slice HO_4.out
       subst eo13
       have p322 : 0 ≤ (0 : Int) := (by omega)
       have q322 : 0 < (x4_1.length : Int) := of_decide_eq_true (by first | (with_reducible assumption) | assumption)
       obtain ⟨ad322, e322, hx322_0⟩ := Kd.at_int (Kd.R_reads' HO_4.out).2.2 0 p322 q322
       cases e322
       have qi322 : (0 < x4_1.length) = True := eq_true (by omega)
       (try rw [show ((0 : Int)).toNat = 0 from rfl] at hx322_0)
       (try rw [Addr.add_zero'] at hx322_0)
       replace p322 := eq_true p322
       replace q322 := eq_true q322
       have p12 : 0 ≤ (0 : Int) := (by omega)
       have q12 : (0 : Int) < ((x4_1.length : Int) : Int) := of_decide_eq_true (by first | (with_reducible assumption) | assumption)
       have qi12 : (0 < x4_1.length) = True := eq_true (by omega)
       obtain ⟨go12, co12, eo12, gb12, gl12, cl12, HG12⟩ := Kd.R_form HO_4.out (by omega)
       (first | cases eo12 | (injection eo12 with ea_ en_ ec_; (first | subst ea_ | (injection ea_ with ea_; subst ea_)); subst ec_; clear en_))
       have GB12 := Aside0.mk gb12
       have GG12 := Aside0.mk HG12
       clear gb12 gl12 HG12
       (first | simp only [add_plain] at hx322_0 | skip)
       obtain ⟨hx12_0, hf12_0⟩ := Kd.R_celln 0 HO_4.out (0 : Int) p12 q12
       (try rw [show ((0 : Int)).toNat = 0 from rfl] at hx12_0)
       (try simp only [Nat.reduceMul, Nat.zero_mul, Nat.zero_add, Nat.reduceAdd] at hx12_0)
       (try rw [show ((0 : Int)).toNat = 0 from rfl] at hf12_0)
       (try simp only [Nat.reduceMul, Nat.zero_mul, Nat.zero_add, Nat.reduceAdd] at hf12_0)
       replace p12 := eq_true p12
       replace q12 := eq_true q12
       have HP14 := Kd.R_putg HO_4.out (0 : Int) (((rd x4_1 0) + 64) % 256)
       go_wp2_with (first | ((with_reducible refine gate_store (t := 5) (p := 31) rfl ?_); refine store_event (t := 5) (p := 31) (v := ?vo_w15) (w1 := (wr.setCell ⟨go12, (0 : Int).toNat, none⟩ (.int .u8 (((rd x4_1 0) + 64) % 256)))) ?hg ?ho ?hn ?hr ?_; (case ho => rfl); (case hg => rfl); (case hn => rfl); (case hr => first | (go_simp; done) | (go_simp; rfl)); intro w15 hw; have hg : wr.grownBy w15 (some go12) := (by rw [hw]; exact HP14.2); have hp_ : Kd.R (Kd.int .u8) 5 w15 w.heap.size (fun _ => True) (.slice (some ⟨go12, 0, none⟩) x4_1.length co13) y323 := (by rw [hw, Ny323.out]; exact HP14.1); clear HP14; have n0_ := Aside0.mk (hp_); have n1_ := Aside0.mk ((by rw [hw]; exact below_set (HB.out) GB12.out : Below w.heap.size w w15)); clear HO_4; clear HB; have HO_4 := n0_; have HB := n1_; clear n0_ n1_; clear hg hw hp_))
       go_meet
       case rel => exact ⟨_, (y323), H', ⟨by have := HK1.out; first | omega | exact Nat.le_refl _⟩, ⟨by (with_reducible repeat (first | apply Kd.R_alloc | apply Kd.R_drewN | apply Kd.R_drew)); exact HO_4.out⟩, ⟨by repeat (first | (with_reducible first | exact HB.out | apply below_alloc | apply pw_below_drewN | apply below_drew1) | exact HB.out)⟩⟩
      ·rw [if_neg c11] at H
       exact absurd H (by simp)
     ·rw [if_neg c10] at H
      have c10b0 : (t318 == 2) = false := beq_eq_false_iff_ne.mpr c10
      have c10b1 : (t318 != 2) = true := bne_iff_ne.mpr c10
      (first | rw [c10b0] | (simp only [i64_w, i32_w]; rw [c10b0]) | skip)
      have H' := Aside0.mk H
      clear H
      go_wp2
      go_meet
      case rel => exact ⟨_, (x4_1), H', ⟨by have := HK1.out; first | omega | exact Nat.le_refl _⟩, ⟨by (with_reducible repeat (first | apply Kd.R_alloc | apply Kd.R_drewN | apply Kd.R_drew)); exact HO_4.out⟩, ⟨by repeat (first | (with_reducible first | exact HB.out | apply below_alloc | apply pw_below_drewN | apply below_drew1) | exact HB.out)⟩⟩
    case rest =>
     clear HC9
     try clear c1
     try clear p1
     try clear q1
     try clear hx1
     try clear qi1
     try clear hf1
     try clear c2
     try clear p2
     try clear c3
     try clear c3b0
     try clear p3
     try clear q3
     try clear hx3
     try clear qi3
     try clear c5
     try clear c5b0
     try clear c5b1
     try clear p6
     try clear c7
     try clear c10
     try clear c10b0
     try clear c10b1
     try clear c11
     try clear c11b0
     try clear c11b1
     try clear p12
     try clear q12
     try clear hx12
     try clear qi12
     try clear hf12
     try clear hx12_0
     try clear hx322_0
     try clear p12
     try clear p2
     try clear p322
     try clear q12
     try clear q322
     obtain ⟨kq, x4_8, HA, HJ8, HO_4, HB⟩ := hcut
     cases kq with
     | zero => exact absurd HA.out (by simp [caduceusref01_Num.j1])
     | succ kj8 =>
      have H := HA.out
      clear HA
      simp only [caduceusref01_Num.j1] at H
      by_cases c16 : t318 = 4
      ·rw [if_pos c16] at H
       have c16b0 : (t318 == 4) = true := beq_iff_eq.mpr c16
       have c16b1 : (t318 != 4) = false := bne_eq_false_iff_eq.mpr c16
       clear c16
       by_cases c17 : 0 < (x4_8.length : Int)
       ·rw [if_pos c17] at H
        have c17b0 : decide (0 < (x4_8.length : Int)) = true := decide_eq_true c17
        have c17b1 : decide (0 < x4_8.length) = true := decide_eq_true (by omega)
        clear c17
        obtain ⟨y325, hy325⟩ : ∃ y_ : List Int, y_ = (x4_8.set (0 : Int).toNat (((rd x4_8 0) + 128) % 256)) := ⟨_, rfl⟩
        replace H : (if t318 = 8 then (some (strOfNums (y325.set (0 : Int).toNat (((rd y325 0) + 192) % 256)))) else (some (strOfNums y325))) = some r := by first | (rw [hy325]; with_reducible exact H) | (have H2_ := (Option.bind_some _ _).symm.trans H; rw [hy325]; with_reducible exact H2_) | (have H2_ := (Option.bind_some _ _).symm.trans H; with_reducible exact H2_) | with_reducible exact H | (rw [hy325]; exact H) | exact H
        have Ny325 := Aside0.mk hy325
        clear hy325
        by_cases c19 : t318 = 8
        ·rw [if_pos c19] at H
         have c19b0 : (t318 == 8) = true := beq_iff_eq.mpr c19
         have c19b1 : (t318 != 8) = false := bne_eq_false_iff_eq.mpr c19
         clear c19
         obtain ⟨y327, hy327⟩ : ∃ y_ : List Int, y_ = (y325.set (0 : Int).toNat (((rd y325 0) + 192) % 256)) := ⟨_, rfl⟩
         replace H : (some (strOfNums y327)) = some r := by first | (rw [hy327]; with_reducible exact H) | (have H2_ := (Option.bind_some _ _).symm.trans H; rw [hy327]; with_reducible exact H2_) | (have H2_ := (Option.bind_some _ _).symm.trans H; with_reducible exact H2_) | with_reducible exact H | (rw [hy327]; exact H) | exact H
         have Ny327 := Aside0.mk hy327
         clear hy327
         obtain rfl := Option.some.inj H
         obtain ⟨Ao21, co21, eo21⟩ := Kd.R_slice HO_4.out
         subst eo21
         have p324 : 0 ≤ (0 : Int) := (by omega)
         have q324 : 0 < (x4_8.length : Int) := of_decide_eq_true (by first | (with_reducible assumption) | assumption)
         obtain ⟨ad324, e324, hx324_0⟩ := Kd.at_int (Kd.R_reads' HO_4.out).2.2 0 p324 q324
         cases e324
         have qi324 : (0 < x4_8.length) = True := eq_true (by omega)
         (try rw [show ((0 : Int)).toNat = 0 from rfl] at hx324_0)
         (try rw [Addr.add_zero'] at hx324_0)
         replace p324 := eq_true p324
         replace q324 := eq_true q324
         have p18 : 0 ≤ (0 : Int) := (by omega)
         have q18 : (0 : Int) < ((x4_8.length : Int) : Int) := of_decide_eq_true (by first | (with_reducible assumption) | assumption)
         have qi18 : (0 < x4_8.length) = True := eq_true (by omega)
         obtain ⟨go18, co18, eo18, gb18, gl18, cl18, HG18⟩ := Kd.R_form HO_4.out (by omega)
         (first | cases eo18 | (injection eo18 with ea_ en_ ec_; (first | subst ea_ | (injection ea_ with ea_; subst ea_)); subst ec_; clear en_))
         have GB18 := Aside0.mk gb18
         have GG18 := Aside0.mk HG18
         clear gb18 gl18 HG18
         (first | simp only [add_plain] at hx324_0 | skip)
         obtain ⟨hx18_0, hf18_0⟩ := Kd.R_celln 0 HO_4.out (0 : Int) p18 q18
         (try rw [show ((0 : Int)).toNat = 0 from rfl] at hx18_0)
         (try simp only [Nat.reduceMul, Nat.zero_mul, Nat.zero_add, Nat.reduceAdd] at hx18_0)
         (try rw [show ((0 : Int)).toNat = 0 from rfl] at hf18_0)
         (try simp only [Nat.reduceMul, Nat.zero_mul, Nat.zero_add, Nat.reduceAdd] at hf18_0)
         replace p18 := eq_true p18
         replace q18 := eq_true q18
         have HP22 := Kd.R_putg HO_4.out (0 : Int) (((rd x4_8 0) + 128) % 256)
         go_wp2_with (first | ((with_reducible refine gate_store (t := 5) (p := 39) rfl ?_); refine store_event (t := 5) (p := 39) (v := ?vo_w23) (w1 := (wc.setCell ⟨go18, (0 : Int).toNat, none⟩ (.int .u8 (((rd x4_8 0) + 128) % 256)))) ?hg ?ho ?hn ?hr ?_; (case ho => rfl); (case hg => rfl); (case hn => rfl); (case hr => first | (go_simp; done) | (go_simp; rfl)); intro w23 hw; have hg : wc.grownBy w23 (some go18) := (by rw [hw]; exact HP22.2); have hp_ : Kd.R (Kd.int .u8) 5 w23 w.heap.size (fun _ => True) (.slice (some ⟨go18, 0, none⟩) x4_8.length co21) y325 := (by rw [hw, Ny325.out]; exact HP22.1); clear HP22; have n0_ := Aside0.mk (hp_); have n1_ := Aside0.mk ((by rw [hw]; exact below_set (HB.out) GB18.out : Below w.heap.size w w23)); clear HO_4; clear HB; have HO_4 := n0_; have HB := n1_; clear n0_ n1_; clear hg hw hp_; have p326 : 0 ≤ (0 : Int) := (by omega); have q326 : 0 < (y325.length : Int) := (by have h_ : (0 : Int) < ((x4_8.length : Int) : Int) := of_decide_eq_true (by first | (with_reducible assumption) | assumption); first | (have e_ := (Kd.R_reads' HO_4.out).1; omega) | simpa only [Ny325.out, List.length_set] using h_); have ql326 : ((0 : Int) < ((x4_8.length : Int) : Int)) = True := eq_true (of_decide_eq_true (by first | (with_reducible assumption) | assumption)); (try have qn326 : (0 < x4_8.length) = True := eq_true (by have h_ : (0 : Int) < ((x4_8.length : Int) : Int) := of_decide_eq_true (by first | (with_reducible assumption) | assumption); omega)); obtain ⟨ad326, e326, hx326_0⟩ := Kd.at_int (Kd.R_reads' HO_4.out).2.2 0 p326 q326; obtain rfl : (⟨go18, 0, none⟩ : Addr) = ad326 := (by injection e326); (first | simp only [add_plain] at hx326_0 | simp only [add_at] at hx326_0 | simp only [Addr.add, Nat.zero_add] at hx326_0 | skip); have qi326 : (0 < y325.length) = True := eq_true (by omega); (try rw [show ((0 : Int)).toNat = 0 from rfl] at hx326_0); (try rw [Addr.add_zero'] at hx326_0); replace p326 := eq_true p326; replace q326 := eq_true q326; have p20 : 0 ≤ (0 : Int) := (by omega); have q20 : (0 : Int) < ((x4_8.length : Int) : Int) := of_decide_eq_true (by first | (with_reducible assumption) | assumption); have qi20 : (0 < x4_8.length) = True := eq_true (by omega); obtain ⟨hx20_0, hf20_0⟩ := Kd.R_celln 0 HO_4.out (0 : Int) p20 q20; (try rw [show ((0 : Int)).toNat = 0 from rfl] at hx20_0); (try simp only [Nat.reduceMul, Nat.zero_mul, Nat.zero_add, Nat.reduceAdd] at hx20_0); (try rw [show ((0 : Int)).toNat = 0 from rfl] at hf20_0); (try simp only [Nat.reduceMul, Nat.zero_mul, Nat.zero_add, Nat.reduceAdd] at hf20_0); replace p20 := eq_true p20; replace q20 := eq_true q20; obtain ⟨hy24_, hz24_⟩ := Kd.R_celln 0 HO_4.out (0 : Int) (by omega) (of_decide_eq_true (by first | (with_reducible assumption) | assumption)); (try simp only [Int.reduceToNat, Int.toNat_zero, Int.toNat_ofNat, Nat.reduceMul, Nat.zero_mul, Nat.zero_add] at hy24_ hz24_); (try rw [show ((0 : Int)).toNat = 0 from rfl] at hy24_); (try rw [show ((0 : Int)).toNat = 0 from rfl] at hz24_); have HP24 := Kd.R_putg HO_4.out (0 : Int) (((rd y325 0) + 192) % 256)) | ((with_reducible refine gate_store (t := 5) (p := 47) rfl ?_); refine store_event (t := 5) (p := 47) (v := ?vo_w25) (w1 := (w23.setCell ⟨go18, (0 : Int).toNat, none⟩ (.int .u8 (((rd y325 0) + 192) % 256)))) ?hg ?ho ?hn ?hr ?_; (case ho => rfl); (case hg => rfl); (case hn => rfl); (case hr => first | (go_simp; done) | (go_simp; rfl)); intro w25 hw; have hg : w23.grownBy w25 (some go18) := (by rw [hw]; exact HP24.2); have hp_ : Kd.R (Kd.int .u8) 5 w25 w.heap.size (fun _ => True) (.slice (some ⟨go18, 0, none⟩) x4_8.length co21) y327 := (by rw [hw, Ny327.out]; exact HP24.1); clear HP24; have n0_ := Aside0.mk (hp_); have n1_ := Aside0.mk ((by rw [hw]; exact below_set (HB.out) GB18.out : Below w.heap.size w w25)); clear HO_4; clear HB; have HO_4 := n0_; have HB := n1_; clear n0_ n1_; clear hg hw hp_; have hcv26 := own_string (P := Tryz.prog) Tryz.underlying44 Tryz.underlying5 Tryz.underlying9 (Kd.own_of_R HO_4.out)))
         go_ret
         exact ⟨by first | rfl | (simp [errW_none, errW_some] <;> rfl) | (simp [*, errW_none, errW_some] <;> rfl), by repeat (first | (with_reducible first | exact HB.out | apply below_alloc | apply pw_below_drewN | apply below_drew1) | exact HB.out)⟩
        ·rw [if_neg c19] at H
         have c19b0 : (t318 == 8) = false := beq_eq_false_iff_ne.mpr c19
         have c19b1 : (t318 != 8) = true := bne_iff_ne.mpr c19
         obtain rfl := Option.some.inj H
         obtain ⟨Ao27, co27, eo27⟩ := Kd.R_slice HO_4.out
         subst eo27
         have p324 : 0 ≤ (0 : Int) := (by omega)
         have q324 : 0 < (x4_8.length : Int) := of_decide_eq_true (by first | (with_reducible assumption) | assumption)
         obtain ⟨ad324, e324, hx324_0⟩ := Kd.at_int (Kd.R_reads' HO_4.out).2.2 0 p324 q324
         cases e324
         have qi324 : (0 < x4_8.length) = True := eq_true (by omega)
         (try rw [show ((0 : Int)).toNat = 0 from rfl] at hx324_0)
         (try rw [Addr.add_zero'] at hx324_0)
         replace p324 := eq_true p324
         replace q324 := eq_true q324
         have p18 : 0 ≤ (0 : Int) := (by omega)
         have q18 : (0 : Int) < ((x4_8.length : Int) : Int) := of_decide_eq_true (by first | (with_reducible assumption) | assumption)
         have qi18 : (0 < x4_8.length) = True := eq_true (by omega)
         obtain ⟨go18, co18, eo18, gb18, gl18, cl18, HG18⟩ := Kd.R_form HO_4.out (by omega)
         (first | cases eo18 | (injection eo18 with ea_ en_ ec_; (first | subst ea_ | (injection ea_ with ea_; subst ea_)); subst ec_; clear en_))
         have GB18 := Aside0.mk gb18
         have GG18 := Aside0.mk HG18
         clear gb18 gl18 HG18
         (first | simp only [add_plain] at hx324_0 | skip)
         obtain ⟨hx18_0, hf18_0⟩ := Kd.R_celln 0 HO_4.out (0 : Int) p18 q18
         (try rw [show ((0 : Int)).toNat = 0 from rfl] at hx18_0)
         (try simp only [Nat.reduceMul, Nat.zero_mul, Nat.zero_add, Nat.reduceAdd] at hx18_0)
         (try rw [show ((0 : Int)).toNat = 0 from rfl] at hf18_0)
         (try simp only [Nat.reduceMul, Nat.zero_mul, Nat.zero_add, Nat.reduceAdd] at hf18_0)
         replace p18 := eq_true p18
         replace q18 := eq_true q18
         have HP28 := Kd.R_putg HO_4.out (0 : Int) (((rd x4_8 0) + 128) % 256)
         go_wp2_with (first | ((with_reducible refine gate_store (t := 5) (p := 39) rfl ?_); refine store_event (t := 5) (p := 39) (v := ?vo_w29) (w1 := (wc.setCell ⟨go18, (0 : Int).toNat, none⟩ (.int .u8 (((rd x4_8 0) + 128) % 256)))) ?hg ?ho ?hn ?hr ?_; (case ho => rfl); (case hg => rfl); (case hn => rfl); (case hr => first | (go_simp; done) | (go_simp; rfl)); intro w29 hw; have hg : wc.grownBy w29 (some go18) := (by rw [hw]; exact HP28.2); have hp_ : Kd.R (Kd.int .u8) 5 w29 w.heap.size (fun _ => True) (.slice (some ⟨go18, 0, none⟩) x4_8.length co27) y325 := (by rw [hw, Ny325.out]; exact HP28.1); clear HP28; have n0_ := Aside0.mk (hp_); have n1_ := Aside0.mk ((by rw [hw]; exact below_set (HB.out) GB18.out : Below w.heap.size w w29)); clear HO_4; clear HB; have HO_4 := n0_; have HB := n1_; clear n0_ n1_; clear hg hw hp_; have hcv30 := own_string (P := Tryz.prog) Tryz.underlying44 Tryz.underlying5 Tryz.underlying9 (Kd.own_of_R HO_4.out)))
         go_ret
         exact ⟨by first | rfl | (simp [errW_none, errW_some] <;> rfl) | (simp [*, errW_none, errW_some] <;> rfl), by repeat (first | (with_reducible first | exact HB.out | apply below_alloc | apply pw_below_drewN | apply below_drew1) | exact HB.out)⟩
       ·rw [if_neg c17] at H
        exact absurd H (by simp)
      ·rw [if_neg c16] at H
       have c16b0 : (t318 == 4) = false := beq_eq_false_iff_ne.mpr c16
       have c16b1 : (t318 != 4) = true := bne_iff_ne.mpr c16
       by_cases c31 : t318 = 8
       ·rw [if_pos c31] at H
        have c31b0 : (t318 == 8) = true := beq_iff_eq.mpr c31
        have c31b1 : (t318 != 8) = false := bne_eq_false_iff_eq.mpr c31
        clear c31
        by_cases c32 : 0 < (x4_8.length : Int)
        ·rw [if_pos c32] at H
         have c32b0 : decide (0 < (x4_8.length : Int)) = true := decide_eq_true c32
         have c32b1 : decide (0 < x4_8.length) = true := decide_eq_true (by omega)
         clear c32
         obtain ⟨y329, hy329⟩ : ∃ y_ : List Int, y_ = (x4_8.set (0 : Int).toNat (((rd x4_8 0) + 192) % 256)) := ⟨_, rfl⟩
         replace H : (some (strOfNums y329)) = some r := by first | (rw [hy329]; with_reducible exact H) | (have H2_ := (Option.bind_some _ _).symm.trans H; rw [hy329]; with_reducible exact H2_) | (have H2_ := (Option.bind_some _ _).symm.trans H; with_reducible exact H2_) | with_reducible exact H | (rw [hy329]; exact H) | exact H
         have Ny329 := Aside0.mk hy329
         clear hy329
         obtain rfl := Option.some.inj H
         obtain ⟨Ao34, co34, eo34⟩ := Kd.R_slice HO_4.out
         subst eo34
         have p328 : 0 ≤ (0 : Int) := (by omega)
         have q328 : 0 < (x4_8.length : Int) := of_decide_eq_true (by first | (with_reducible assumption) | assumption)
         obtain ⟨ad328, e328, hx328_0⟩ := Kd.at_int (Kd.R_reads' HO_4.out).2.2 0 p328 q328
         cases e328
         have qi328 : (0 < x4_8.length) = True := eq_true (by omega)
         (try rw [show ((0 : Int)).toNat = 0 from rfl] at hx328_0)
         (try rw [Addr.add_zero'] at hx328_0)
         replace p328 := eq_true p328
         replace q328 := eq_true q328
         have p33 : 0 ≤ (0 : Int) := (by omega)
         have q33 : (0 : Int) < ((x4_8.length : Int) : Int) := of_decide_eq_true (by first | (with_reducible assumption) | assumption)
         have qi33 : (0 < x4_8.length) = True := eq_true (by omega)
         obtain ⟨go33, co33, eo33, gb33, gl33, cl33, HG33⟩ := Kd.R_form HO_4.out (by omega)
         (first | cases eo33 | (injection eo33 with ea_ en_ ec_; (first | subst ea_ | (injection ea_ with ea_; subst ea_)); subst ec_; clear en_))
         have GB33 := Aside0.mk gb33
         have GG33 := Aside0.mk HG33
         clear gb33 gl33 HG33
         (first | simp only [add_plain] at hx328_0 | skip)
         obtain ⟨hx33_0, hf33_0⟩ := Kd.R_celln 0 HO_4.out (0 : Int) p33 q33
         (try rw [show ((0 : Int)).toNat = 0 from rfl] at hx33_0)
         (try simp only [Nat.reduceMul, Nat.zero_mul, Nat.zero_add, Nat.reduceAdd] at hx33_0)
         (try rw [show ((0 : Int)).toNat = 0 from rfl] at hf33_0)
         (try simp only [Nat.reduceMul, Nat.zero_mul, Nat.zero_add, Nat.reduceAdd] at hf33_0)
         replace p33 := eq_true p33
         replace q33 := eq_true q33
         have HP35 := Kd.R_putg HO_4.out (0 : Int) (((rd x4_8 0) + 192) % 256)
         go_wp2_with (first | ((with_reducible refine gate_store (t := 5) (p := 47) rfl ?_); refine store_event (t := 5) (p := 47) (v := ?vo_w36) (w1 := (wc.setCell ⟨go33, (0 : Int).toNat, none⟩ (.int .u8 (((rd x4_8 0) + 192) % 256)))) ?hg ?ho ?hn ?hr ?_; (case ho => rfl); (case hg => rfl); (case hn => rfl); (case hr => first | (go_simp; done) | (go_simp; rfl)); intro w36 hw; have hg : wc.grownBy w36 (some go33) := (by rw [hw]; exact HP35.2); have hp_ : Kd.R (Kd.int .u8) 5 w36 w.heap.size (fun _ => True) (.slice (some ⟨go33, 0, none⟩) x4_8.length co34) y329 := (by rw [hw, Ny329.out]; exact HP35.1); clear HP35; have n0_ := Aside0.mk (hp_); have n1_ := Aside0.mk ((by rw [hw]; exact below_set (HB.out) GB33.out : Below w.heap.size w w36)); clear HO_4; clear HB; have HO_4 := n0_; have HB := n1_; clear n0_ n1_; clear hg hw hp_; have hcv37 := own_string (P := Tryz.prog) Tryz.underlying44 Tryz.underlying5 Tryz.underlying9 (Kd.own_of_R HO_4.out)))
         go_ret
         exact ⟨by first | rfl | (simp [errW_none, errW_some] <;> rfl) | (simp [*, errW_none, errW_some] <;> rfl), by repeat (first | (with_reducible first | exact HB.out | apply below_alloc | apply pw_below_drewN | apply below_drew1) | exact HB.out)⟩
        ·rw [if_neg c32] at H
         exact absurd H (by simp)
       ·rw [if_neg c31] at H
        have c31b0 : (t318 == 8) = false := beq_eq_false_iff_ne.mpr c31
        have c31b1 : (t318 != 8) = true := bne_iff_ne.mpr c31
        obtain rfl := Option.some.inj H
        have hcv38 := own_string (P := Tryz.prog) Tryz.underlying44 Tryz.underlying5 Tryz.underlying9 (Kd.own_of_R HO_4.out)
        go_wp2
        go_ret
        exact ⟨by first | rfl | (simp [errW_none, errW_some] <;> rfl) | (simp [*, errW_none, errW_some] <;> rfl), by repeat (first | (with_reducible first | exact HB.out | apply below_alloc | apply pw_below_drewN | apply below_drew1) | exact HB.out)⟩

/-! ### caduceusref01_MayWhole: function 38 -/
def caduceusref01_MayWhole.f (a0 : Int) : Option (Bool) := if a0 ≥ (-2305843009213693952) then (some (decide (a0 ≤ 2305843009213693951))) else (some false)
set_option maxHeartbeats 8000000 in
set_option maxRecDepth 100000 in
theorem caduceusref01_MayWhole.calls (a0 : Int) (r : Bool) (w : World) (h : caduceusref01_MayWhole.f a0 = some r) :
  Calls Tryz.prog 38 #[.int .i64 a0] w fun e w' => e = .returned (.bool r) ∧ Drawn0 w w' := by
 have H : (if a0 ≥ (-2305843009213693952) then (some (decide (a0 ≤ 2305843009213693951))) else (some false)) = some r := h
 clear h
 by_cases c2 : a0 ≥ (-2305843009213693952)
 ·rw [if_pos c2] at H
  have c2b0 : decide ((-2305843009213693952) ≤ a0) = true := decide_eq_true c2
  clear c2
  obtain rfl := Option.some.inj H
  go_enter Tryz.func38, Tryz.ntmps38
  go_wp2
  go_ret
  exact ⟨by first | rfl | (simp; done) | (simp [*]; done) | (simp [wrap64]; done), by repeat (first | exact Drawn0.refl _ | apply Drawn0.step)⟩
 ·rw [if_neg c2] at H
  have c2b0 : decide ((-2305843009213693952) ≤ a0) = false := decide_eq_false c2
  clear c2
  obtain rfl := Option.some.inj H
  go_enter Tryz.func38, Tryz.ntmps38
  go_wp2
  go_ret
  exact ⟨by first | rfl | (simp; done) | (simp [*]; done) | (simp [wrap64]; done), by repeat (first | exact Drawn0.refl _ | apply Drawn0.step)⟩

/-! ### caduceusref01_Whole: function 24 -/
def caduceusref01_Whole.f (k : Nat) (a0 : Int) : Option (ByteArray) := (caduceusref01_MayWhole.f a0).bind fun t330 => (if t330 = true then (if a0 ≥ 0 then ((caduceusref01_Num.f k (wrap64 (a0 + a0))).bind fun t331 => (some t331)) else ((caduceusref01_Num.f k (wrap64 ((wrap64 ((wrap64 (-a0)) - a0)) - 1))).bind fun t332 => (some t332))) else (some (⟨#[]⟩ : ByteArray)))
theorem caduceusref01_Whole.mono : ∀ a0 k, LeO (caduceusref01_Whole.f k a0) (caduceusref01_Whole.f (k + 1) a0) := by
 intro a0 k
 unfold caduceusref01_Whole.f
 repeat' first
   | (with_reducible exact caduceusref01_Num.mono _ _)
   | (with_reducible exact LeO.refl _)
   | (with_reducible exact LeO.none _)
   | (with_reducible refine LeO.ite ?_ ?_)
   | (with_reducible refine LeO.bind ?_ (fun _ => ?_))
   | exact caduceusref01_Num.mono _ _
   | exact LeO.none _
   | refine LeO.ite ?_ ?_
   | refine LeO.bind ?_ (fun _ => ?_)
set_option maxHeartbeats 8000000 in
set_option maxRecDepth 100000 in
theorem caduceusref01_Whole.calls (k : Nat) (a0 : Int) (r : ByteArray) (w : World) (h : caduceusref01_Whole.f k a0 = some r) :
  Calls Tryz.prog 24 #[.int .i64 a0] w fun e w' => e = .returned (.string r) ∧ Below w.heap.size w w' := by
 have HB := Aside0.mk (Below.refl w.heap.size w)
 have H : ((caduceusref01_MayWhole.f a0).bind fun t330 => (if t330 = true then (if a0 ≥ 0 then ((caduceusref01_Num.f k (wrap64 (a0 + a0))).bind fun t331 => (some t331)) else ((caduceusref01_Num.f k (wrap64 ((wrap64 ((wrap64 (-a0)) - a0)) - 1))).bind fun t332 => (some t332))) else (some (⟨#[]⟩ : ByteArray)))) = some r := h
 clear h
 replace H := Option.bind_eq_some_iff.mp H
 obtain ⟨t330, A20, H⟩ := H
 replace H : (if t330 = true then (if a0 ≥ 0 then ((caduceusref01_Num.f k (wrap64 (a0 + a0))).bind fun t331 => (some t331)) else ((caduceusref01_Num.f k (wrap64 ((wrap64 ((wrap64 (-a0)) - a0)) - 1))).bind fun t332 => (some t332))) else (some (⟨#[]⟩ : ByteArray))) = some r := H
 have A2 := Aside0.mk A20
 clear A20
 by_cases c3 : t330 = true
 ·subst c3
  have H1 : (if a0 ≥ 0 then ((caduceusref01_Num.f k (wrap64 (a0 + a0))).bind fun t331 => (some t331)) else ((caduceusref01_Num.f k (wrap64 ((wrap64 ((wrap64 (-a0)) - a0)) - 1))).bind fun t332 => (some t332))) = some r := by rw [if_pos rfl] at H; exact H
  clear H
  have H := H1
  clear H1
  by_cases c4 : a0 ≥ 0
  ·rw [if_pos c4] at H
   have c4b0 : decide (0 ≤ a0) = true := decide_eq_true c4
   clear c4
   replace H := Option.bind_eq_some_iff.mp H
   obtain ⟨t331, A50, H⟩ := H
   replace H : (some t331) = some r := H
   have A5 := Aside0.mk A50
   clear A50
   obtain rfl := Option.some.inj H
   go_enter Tryz.func24, Tryz.ntmps24
   go_wp2_with (first | ((with_reducible refine gate_callee (f := 38) rfl ?_); refine goesA (some 4) Tryz.func38 #[.int .i64 a0] ?_; (with_reducible refine (caduceusref01_MayWhole.calls a0 true _ A2.out).mono ?_); rintro e w' ⟨rfl, ⟨nd, rfl⟩⟩; refine ⟨_, rfl, ?_⟩) | ((with_reducible refine gate_callee (f := 23) rfl ?_); refine goesA (some 11) Tryz.func23 #[.int .i64 (wrap64 (a0 + a0))] ?_; (with_reducible refine (caduceusref01_Num.calls k (wrap64 (a0 + a0)) t331 _ A5.out).mono ?_); rintro e w6 ⟨rfl, hb⟩; refine ⟨_, rfl, ?_⟩; have n0_ := Aside0.mk (below_step bwA hb); clear HB; have HB := n0_; clear n0_; (try clear hb); (try clear hb2); (try clear hk); (try clear hi)))
   go_ret
   exact ⟨by first | rfl | (simp [errW_none, errW_some] <;> rfl) | (simp [*, errW_none, errW_some] <;> rfl), by repeat (first | (with_reducible first | exact HB.out | apply below_alloc | apply pw_below_drewN | apply below_drew1) | exact HB.out)⟩
  ·rw [if_neg c4] at H
   have c4b0 : decide (0 ≤ a0) = false := decide_eq_false c4
   clear c4
   replace H := Option.bind_eq_some_iff.mp H
   obtain ⟨t332, A70, H⟩ := H
   replace H : (some t332) = some r := H
   have A7 := Aside0.mk A70
   clear A70
   obtain rfl := Option.some.inj H
   go_enter Tryz.func24, Tryz.ntmps24
   go_wp2_with (first | ((with_reducible refine gate_callee (f := 38) rfl ?_); refine goesA (some 4) Tryz.func38 #[.int .i64 a0] ?_; (with_reducible refine (caduceusref01_MayWhole.calls a0 true _ A2.out).mono ?_); rintro e w' ⟨rfl, ⟨nd, rfl⟩⟩; refine ⟨_, rfl, ?_⟩) | ((with_reducible refine gate_callee (f := 23) rfl ?_); refine goesA (some 17) Tryz.func23 #[.int .i64 (wrap64 ((wrap64 ((wrap64 (-a0)) - a0)) - 1))] ?_; (with_reducible refine (caduceusref01_Num.calls k (wrap64 ((wrap64 ((wrap64 (-a0)) - a0)) - 1)) t332 _ A7.out).mono ?_); rintro e w8 ⟨rfl, hb⟩; refine ⟨_, rfl, ?_⟩; have n0_ := Aside0.mk (below_step bwA hb); clear HB; have HB := n0_; clear n0_; (try clear hb); (try clear hb2); (try clear hk); (try clear hi)))
   go_ret
   exact ⟨by first | rfl | (simp [errW_none, errW_some] <;> rfl) | (simp [*, errW_none, errW_some] <;> rfl), by repeat (first | (with_reducible first | exact HB.out | apply below_alloc | apply pw_below_drewN | apply below_drew1) | exact HB.out)⟩
 ·replace c3 := Bool.eq_false_iff.mpr c3
  subst c3
  have H1 : (some (⟨#[]⟩ : ByteArray)) = some r := by rw [if_neg (show ¬ (false = true) by decide)] at H; exact H
  clear H
  have H := H1
  clear H1
  obtain rfl := Option.some.inj H
  go_enter Tryz.func24, Tryz.ntmps24
  go_wp2_with (first | ((with_reducible refine gate_callee (f := 38) rfl ?_); refine goesA (some 4) Tryz.func38 #[.int .i64 a0] ?_; (with_reducible refine (caduceusref01_MayWhole.calls a0 false _ A2.out).mono ?_); rintro e w' ⟨rfl, ⟨nd, rfl⟩⟩; refine ⟨_, rfl, ?_⟩))
  go_ret
  exact ⟨by first | rfl | (simp [errW_none, errW_some] <;> rfl) | (simp [*, errW_none, errW_some] <;> rfl), by repeat (first | (with_reducible first | exact HB.out | apply below_alloc | apply pw_below_drewN | apply below_drew1) | exact HB.out)⟩

end Go.Proofs.YtoajlmmkkcelgaaGreatDoor.A
