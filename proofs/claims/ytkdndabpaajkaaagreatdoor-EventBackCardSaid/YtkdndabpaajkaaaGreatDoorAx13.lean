-- By drv.py, the session's own driver round the kit's print: the machine's side of the laws, function by function. Not trusted: Lean checks it.
import Derived.Test.YtkdndabpaajkaaaGreatDoorAx0
import Derived.Test.YtkdndabpaajkaaaGreatDoorAx9
import Derived.Test.YtkdndabpaajkaaaGreatDoorAx11
import Derived.Test.YtkdndabpaajkaaaGreatDoorAx12
namespace Go.Proofs.YtkdndabpaajkaaaGreatDoor.A
open Go.RowKit Go.Proofs.YtkdndabpaajkaaaGreatDoorW.PrintWords Go.Proofs.YtkdndabpaajkaaaGreatDoorW.PrintLast Go.Proofs.YtkdndabpaajkaaaGreatDoorW.PrintMore
attribute [local go_sem] max2_int min2_int max_two min_two max_three min_three max_four min_four   -- for this text's walks alone
set_option linter.unusedVariables false
set_option linter.unusedSimpArgs false

/-! ### value_hexed: function 180 -/
def value_hexed.l0 : Nat → ByteArray → List Int → Int → Int → Option (ByteArray)
 | 0, _, _, _, _ => none
 | k + 1, x0, x3, x8, x9 => if x9 < x8 then (if 0 ≤ x9 then (if x9 < (x0.size : Int) then (if 0 ≤ ((bt x0 x9) / 16) then (if ((bt x0 x9) / 16) < 16 then (if 0 ≤ (Go.bits .and .u8 (bt x0 x9) 15) then (if (Go.bits .and .u8 (bt x0 x9) 15) < 16 then ((some (([bt (⟨#[48, 49, 50, 51, 52, 53, 54, 55, 56, 57, 97, 98, 99, 100, 101, 102]⟩ : ByteArray) ((bt x0 x9) / 16), bt (⟨#[48, 49, 50, 51, 52, 53, 54, 55, 56, 57, 97, 98, 99, 100, 101, 102]⟩ : ByteArray) (Go.bits .and .u8 (bt x0 x9) 15)] : List Int) : List Int)).bind fun y166 => (if x3.length + y166.length < 140737488355328 then (value_hexed.l0 k x0 (x3 ++ y166) x8 (wrap64 (x9 + 1))) else (none))) else (none)) else (none)) else (none)) else (none)) else (none)) else (none)) else (if x3.length < 140737488355328 then (some (strOfNums (x3 ++ [39]))) else (none))
def value_hexed.f (k : Nat) (a0 : ByteArray) : Option (ByteArray) := value_hexed.l0 k a0 (([120, 39] : List Int)) (a0.size : Int) 0
theorem value_hexed.mono_l : ∀ k, (∀ y0 y1 y2 y3, LeO (value_hexed.l0 k y0 y1 y2 y3) (value_hexed.l0 (k + 1) y0 y1 y2 y3))
 | 0 => fun _ _ _ _ r h => by simp [value_hexed.l0] at h
 | k + 1 => by
  have ih0 := value_hexed.mono_l k
  ·intro y0 y1 y2 y3
   unfold value_hexed.l0
   repeat' (with_reducible first | exact ih0 _ _ _ _ | exact LeO.refl _ | exact LeO.none _ | refine LeO.ite ?_ ?_ | refine LeO.bind ?_ (fun _ => ?_))
theorem value_hexed.mono : ∀ a0 k, LeO (value_hexed.f k a0) (value_hexed.f (k + 1) a0) := by
 intro a0 k
 have ih0 := value_hexed.mono_l k
 unfold value_hexed.f
 repeat' (with_reducible first | exact ih0 _ _ _ _ | exact LeO.refl _ | exact LeO.none _ | refine LeO.ite ?_ ?_ | refine LeO.bind ?_ (fun _ => ?_))
def value_hexed.T5 : Bool × List (List Nat × List Nat) := (true, [([], []), ([], []), ([], []), ([1, 2], [1, 2]), ([3], [3]), ([4], [4]), ([], []), ([], []), ([6, 7], [6, 7]), ([8], [8]), ([9], [9]), ([5, 10], [5, 10]), ([0, 11], [0, 11]), ([12, 12, 0, 1, 2, 3, 4, 5, 6, 7, 8, 9, 10, 11, 12], [0, 12])])
def value_hexed.B5 : List Nat := [0, 0, 0, 6, 14, 30, 0, 0, 192, 448, 960, 2046, 4095, 8191]
theorem value_hexed.tab5 : rtab .any (opsOf Tryz.f180 5) = value_hexed.T5 := by kernel_rfl
theorem value_hexed.bits5 : waitsOk value_hexed.T5.2 value_hexed.B5 = true := by kernel_rfl
set_option maxHeartbeats 8000000 in
set_option maxRecDepth 100000 in
theorem value_hexed.calls (k : Nat) (a0 : ByteArray) (r : ByteArray) (w : World) (h : value_hexed.f k a0 = some r) :
  Calls Tryz.prog 180 #[.string a0] w fun e w' => e = .returned (.string r) ∧ Below w.heap.size w w' := by
 have HB := Aside0.mk (Below.refl w.heap.size w)
 unfold value_hexed.f at h
 have H := h
 clear h
 obtain ⟨y163, hy163⟩ : ∃ y_ : List Int, y_ = (([120, 39] : List Int)) := ⟨_, rfl⟩
 replace H : (value_hexed.l0 k a0 y163 (a0.size : Int) 0) = some r := by first | (rw [hy163]; with_reducible exact H) | (have H2_ := (Option.bind_some _ _).symm.trans H; rw [hy163]; with_reducible exact H2_) | (have H2_ := (Option.bind_some _ _).symm.trans H; with_reducible exact H2_) | with_reducible exact H | (rw [hy163]; exact H) | exact H
 have Ny163 := Aside0.mk hy163
 clear hy163
 have H' := Aside0.mk H
 clear H
 go_enter Tryz.func180, Tryz.ntmps180
 have kc := fun (W : World) (C : Array Value) (n c : Nat) => Lib.run_convert_bytes_const (P := Tryz.prog) W 160 5 C n c Tryz.underlying160 Tryz.underlying5
 go_wp2
 go_loopg [3, 9] k (fun kq v3 v9 w' => ∃ (x3_1 : List Int) (x9_1 : Int), v9 = .int .i64 x9_1 ∧ Aside0 (value_hexed.l0 kq a0 x3_1 (a0.size : Int) x9_1 = some r) ∧ Aside0 (kq ≤ k) ∧ Aside0 (HxR w' w.heap.size (fun _ => True) v3 x3_1) ∧ Aside0 (Below w.heap.size w w'))
 case atStart => exact ⟨[120, 39], (0), (endS), (by have h_ := H'; rw [Ny163.out] at h_; exact h_), ⟨Nat.le_refl _⟩, ⟨.inr ⟨w.heap.size, rfl, Nat.le_refl _, by simp, trivial, fun j u hj => (Lib.cell_of_heap (heap_alloc_new w _) j).trans (by rw [← hj]; rcases j with _ | _ | j <;> rfl)⟩⟩, ⟨(below_alloc (Below.refl _ _) _)⟩⟩
 case round =>
  clear H'
  try clear c1
  try clear p2
  try clear c18
  obtain ⟨x3_1, x9_1, rfl, HA, HK1, HO_3, HB⟩ := hrel
  cases gk with
  | zero => exact absurd HA.out (by simp [value_hexed.l0])
  | succ k1 =>
   have H := HA.out
   clear HA
   simp only [value_hexed.l0] at H
   revert H; refine itR ?L1p ?L1n
   case' L1p =>
    intro c103 H
    have c103b0 := decide_eq_true c103
    clear c103
    replace H := itN H
    obtain ⟨c104, H⟩ := H
    have c104b0 := decide_eq_true c104
    clear c104
    replace H := itN H
    obtain ⟨c105, H⟩ := H
    have c105b0 := decide_eq_true c105
    clear c105
    obtain ⟨ji107, hji107⟩ : ∃ j_ : Int, ((bt a0 x9_1) / 16) = j_ := ⟨_, rfl⟩
    replace H : (if 0 ≤ (ji107) then (if (ji107) < 16 then (if 0 ≤ (Go.bits .and .u8 (bt a0 x9_1) 15) then (if (Go.bits .and .u8 (bt a0 x9_1) 15) < 16 then ((some (([bt (⟨#[48, 49, 50, 51, 52, 53, 54, 55, 56, 57, 97, 98, 99, 100, 101, 102]⟩ : ByteArray) (ji107), bt (⟨#[48, 49, 50, 51, 52, 53, 54, 55, 56, 57, 97, 98, 99, 100, 101, 102]⟩ : ByteArray) (Go.bits .and .u8 (bt a0 x9_1) 15)] : List Int) : List Int)).bind fun y166 => (if x3_1.length + y166.length < 140737488355328 then (value_hexed.l0 k1 a0 (x3_1 ++ y166) (a0.size : Int) (wrap64 (x9_1 + 1))) else (none))) else (none)) else (none)) else (none)) else (none)) = some r := by first | (rw [hji107] at H; exact H) | (simp only [hji107] at H ⊢; exact H)
    replace H := itN H
    obtain ⟨c108, H⟩ := H
    have c108b0 := decide_eq_true c108
    clear c108
    replace H := itN H
    obtain ⟨c109, H⟩ := H
    have c109b0 := decide_eq_true c109
    clear c109
    replace H := itN H
    obtain ⟨c112, H⟩ := H
    have c112b0 := decide_eq_true c112
    clear c112
    replace H := itN H
    obtain ⟨c113, H⟩ := H
    have c113b0 := decide_eq_true c113
    clear c113
    obtain ⟨y166, hy166⟩ : ∃ y_ : List Int, y_ = (([bt (⟨#[48, 49, 50, 51, 52, 53, 54, 55, 56, 57, 97, 98, 99, 100, 101, 102]⟩ : ByteArray) (ji107), bt (⟨#[48, 49, 50, 51, 52, 53, 54, 55, 56, 57, 97, 98, 99, 100, 101, 102]⟩ : ByteArray) (Go.bits .and .u8 (bt a0 x9_1) 15)] : List Int)) := ⟨_, rfl⟩
    replace H : (if x3_1.length + y166.length < 140737488355328 then (value_hexed.l0 k1 a0 (x3_1 ++ y166) (a0.size : Int) (wrap64 (x9_1 + 1))) else (none)) = some r := by first | (rw [hy166]; with_reducible exact H) | (have H2_ := (Option.bind_some _ _).symm.trans H; rw [hy166]; with_reducible exact H2_) | (have H2_ := (Option.bind_some _ _).symm.trans H; with_reducible exact H2_) | with_reducible exact H | (rw [hy166]; exact H) | exact H
    have Ny166 := Aside0.mk hy166
    clear hy166
    replace H := itN H
    obtain ⟨c115, H⟩ := H
    have LMc115 := Aside0.mk c115
    clear c115
    obtain ⟨y169, hy169⟩ : ∃ y_ : List Int, y_ = (x3_1 ++ y166) := ⟨_, rfl⟩
    replace H : (value_hexed.l0 k1 a0 y169 (a0.size : Int) (wrap64 (x9_1 + 1))) = some r := by first | (rw [hy169]; with_reducible exact H) | (have H2_ := (Option.bind_some _ _).symm.trans H; rw [hy169]; with_reducible exact H2_) | (have H2_ := (Option.bind_some _ _).symm.trans H; with_reducible exact H2_) | with_reducible exact H | (rw [hy169]; exact H) | exact H
    have Ny169 := Aside0.mk hy169
    clear hy169
    have H' := Aside0.mk H
    clear H
    try go_wp2
    replace HO_3 := Aside0.mk (HxR.drew HO_3.out)
    replace HB := Aside0.mk (below_drew1 HB.out)
    have p106 : 0 ≤ (x9_1 : Int) := odA
    have q106 : x9_1 < (a0.size : Int) := odA
    have hx106 := bt_at a0 x9_1
    replace p106 := eq_true p106
    replace q106 := eq_true q106
    have p110 : 0 ≤ ((ji107) : Int) := odA
    have q110 : (ji107) < (16 : Int) := odA
    have hx110 := bt_at (⟨#[48, 49, 50, 51, 52, 53, 54, 55, 56, 57, 97, 98, 99, 100, 101, 102]⟩ : ByteArray) (ji107)
    replace p110 := eq_true p110
    replace q110 := eq_true q110
    have p111 : 0 ≤ (x9_1 : Int) := odA
    have q111 : x9_1 < (a0.size : Int) := odA
    have hx111 := bt_at a0 x9_1
    replace p111 := eq_true p111
    replace q111 := eq_true q111
    have p114 : 0 ≤ ((Go.bits .and .u8 (bt a0 x9_1) 15) : Int) := odA
    have q114 : (Go.bits .and .u8 (bt a0 x9_1) 15) < (16 : Int) := odA
    have hx114 := bt_at (⟨#[48, 49, 50, 51, 52, 53, 54, 55, 56, 57, 97, 98, 99, 100, 101, 102]⟩ : ByteArray) (Go.bits .and .u8 (bt a0 x9_1) 15)
    replace p114 := eq_true p114
    replace q114 := eq_true q114
    refine start_ (n := 14) (S := fun w' => True) (ds := []) (mkB 14 0) (by kernel_rfl) rfl rfl trivial (fun hHeld => ?_); refine with_tabW value_hexed.tab5 value_hexed.bits5 (fun HT_ HW_ => ?_)
    generalize wr.drew = w201 at HO_3 HB hHeld ⊢
    refine pureA 0 (some 12) (mkB 14 1) ?_
    refine pureA 1 (some 13) (mkB 14 3) ?_
    refine pureA 2 (some 14) (mkB 14 7) ?_
    refine pureA 6 (some 18) (mkB 14 71) ?_
    refine pureA 7 (some 19) (mkB 14 199) ?_
    refine take_ (i := 3) (N := some 15) (v := ?_) (a' := ?_) (mkB 14 207) rfl rfl (take_ofW HT_.out HW_.out (by kernel_rfl)) (fun _ _ _ h => h) (Or.inl ⟨by rfl, ?_⟩) hHeld ?_ ?_
    rotate_left
    ·intro w' _
     go_simp
     with_reducible rfl
    rotate_left
    ·simp only [Act.put, List.setIfInBounds_toArray, List.set_cons_zero, List.set_cons_succ, i64_w, i32_w]
     rfl
    refine pureA 4 (some 16) (mkB 14 223) ?_
    refine take_ (i := 5) (N := some 17) (v := ?_) (a' := ?_) (mkB 14 255) rfl rfl (take_ofW HT_.out HW_.out (by kernel_rfl)) (fun _ _ _ h => h) (Or.inl ⟨by rfl, ?_⟩) hHeld ?_ ?_
    rotate_left
    ·intro w' _
     go_simp
     with_reducible rfl
    rotate_left
    ·simp only [Act.put, List.setIfInBounds_toArray, List.set_cons_zero, List.set_cons_succ, i64_w, i32_w]
     rfl
    refine take_ (i := 8) (N := some 20) (v := ?_) (a' := ?_) (mkB 14 511) rfl rfl (take_ofW HT_.out HW_.out (by kernel_rfl)) (fun _ _ _ h => h) (Or.inl ⟨by rfl, ?_⟩) hHeld ?_ ?_
    rotate_left
    ·intro w' _
     go_simp
     with_reducible rfl
    rotate_left
    ·simp only [Act.put, List.setIfInBounds_toArray, List.set_cons_zero, List.set_cons_succ, i64_w, i32_w]
     rfl
    refine pureA 9 (some 21) (mkB 14 1023) ?_
    refine take_ (i := 10) (N := some 22) (v := ?_) (a' := ?_) (mkB 14 2047) rfl rfl (take_ofW HT_.out HW_.out (by kernel_rfl)) (fun _ _ _ h => h) (Or.inl ⟨by rfl, ?_⟩) hHeld ?_ ?_
    rotate_left
    ·intro w' _
     go_simp
     with_reducible rfl
    rotate_left
    ·simp only [Act.put, List.setIfInBounds_toArray, List.set_cons_zero, List.set_cons_succ, i64_w, i32_w]
     rfl
    refine oneA 11 (some 23) (mkB 14 4095) (fun K hK => ?_)
    refine Kd.R_lit_step (Kd.int .u8) _ 5 ?hg (N := 23) ?hd (xs := ([bt (⟨#[48, 49, 50, 51, 52, 53, 54, 55, 56, 57, 97, 98, 99, 100, 101, 102]⟩ : ByteArray) (ji107), bt (⟨#[48, 49, 50, 51, 52, 53, 54, 55, 56, 57, 97, 98, 99, 100, 101, 102]⟩ : ByteArray) (Go.bits .and .u8 (bt a0 x9_1) 15)] : List Int)) (inner := [.int .u8 (bt (⟨#[48, 49, 50, 51, 52, 53, 54, 55, 56, 57, 97, 98, 99, 100, 101, 102]⟩ : ByteArray) (ji107)), .int .u8 (bt (⟨#[48, 49, 50, 51, 52, 53, 54, 55, 56, 57, 97, 98, 99, 100, 101, 102]⟩ : ByteArray) (Go.bits .and .u8 (bt a0 x9_1) 15))]) (ok := fun _ => True) (okp := fun _ => True) ?hr ?hp (fun _ hk => hk) trivial (Below.refl _ _) (Nat.le_refl _) (by simp) ?_; (case hd => rfl); (case hg => rfl); (case hr => first | (go_simp; done) | (go_simp; rfl)); (case hp => exact (Reps.one (show Kd.M (Kd.int .u8) _ _ _ (bt (⟨#[48, 49, 50, 51, 52, 53, 54, 55, 56, 57, 97, 98, 99, 100, 101, 102]⟩ : ByteArray) (ji107)) [.int .u8 (bt (⟨#[48, 49, 50, 51, 52, 53, 54, 55, 56, 57, 97, 98, 99, 100, 101, 102]⟩ : ByteArray) (ji107))] from rfl) (Reps.one (show Kd.M (Kd.int .u8) _ _ _ (bt (⟨#[48, 49, 50, 51, 52, 53, 54, 55, 56, 57, 97, 98, 99, 100, 101, 102]⟩ : ByteArray) (Go.bits .and .u8 (bt a0 x9_1) 15)) [.int .u8 (bt (⟨#[48, 49, 50, 51, 52, 53, 54, 55, 56, 57, 97, 98, 99, 100, 101, 102]⟩ : ByteArray) (Go.bits .and .u8 (bt a0 x9_1) 15))] from rfl) (Reps.none _ _))))
    intro v167 w202 ho203 hb hg_ hnew_
    clear hg_ hnew_
    (first | rw [← Ny166.out] at ho203 | (simp only [Int.reduceToNat] at ho203; rw [← Ny166.out] at ho203))
    have HO168 := Aside0.mk (Kd.R_lower (Kd.R_new' ho203 (HxR.lt (by (with_reducible repeat (first | apply HxR.alloc | apply HxR.drewN | apply HxR.drew)); exact HO_3.out))) (below_size (bwA)))
    replace HO_3 := Aside0.mk (HxR.elder' (by (with_reducible repeat (first | apply HxR.alloc | apply HxR.drewN | apply HxR.drew)); exact HO_3.out) (Kd.R_base ho203) hb)
    replace HB := Aside0.mk (below_step (bwA) hb)
    clear hb ho203
    obtain ⟨Ao205, co205, eo205⟩ := Kd.R_slice HO168.out
    (first | subst eo205 | (injection eo205 with f1_ f2_ f3_; have f4_ := f1_.symm; have f5_ := f3_.symm; clear f1_ f2_ f3_; subst f4_; subst f5_))
    refine hK.out _ _ trivial (fun hHeld => ?_)
    clear hK K
    refine normA ?_
    refine oneA 12 (some 24) (mkB 14 8191) (fun K hK => ?_)
    refine HxR.append_rows_step (w0 := w) w.heap.size (by rfl) (.tmp 12) (.tmp 23) 160 rfl Tryz.underlying160 info5 u3 x3_1 y166 _ _ _ (fun k_ => some k_ ≠ (.slice Ao205 y166.length co205 : Value).ownBlock) rfl rfl ?aO ?aR (by rw [Ny166.out]; exact Nat.zero_lt_succ _) ?aF ?aB ?aS ?aL ?_
    (case aR => repeat (first | exact (Kd.R_reads' HO168.out).2.2 | (with_reducible refine Kd.C_alloc ?_ _) | (with_reducible refine Kd.C_drewN ?_ _) | (with_reducible refine Kd.C_drew ?_)))
    (case aB => exact (bwA))
    (case aF => exact (fun k_ hk => Kd.fresh' (Kd.R_lt (raA HO168.out)) k_ hk))
    (case aO => exact (by (with_reducible repeat (first | apply HxR.alloc | apply HxR.drewN | apply HxR.drew)); exact HxR.mono HO_3.out (fun _ hk => hk.2)))
    (case aS => exact (below_size (bwA)))
    (case aL => have := LMc115.out; omega)
    intro v170 w204 ho hb hg hat
    rw [← Ny169.out] at ho
    have n0_ := Aside0.mk (Kd.R_after (ok := (fun _ => True)) (raA HO168.out) hg hat)
    have n1_ := Aside0.mk (hb)
    have n2_ := Aside0.mk (ho)
    clear HO168
    clear HB
    clear HO_3
    have HO168 := n0_
    have HB := n1_
    have HO171 := n2_
    clear n0_ n1_ n2_
    clear ho hb hg hat
    refine hK.out _ _ trivial (fun hHeld => ?_)
    clear hK K
    refine normA ?_
    refine pureA 13 (some 3) (mkB 14 16383) ?_
    refine done_ (done_of HT_.out (by kernel_rfl)) ?_
    try go_wp2
    go_roundg k1
    case measure => have := HK1.out; omega
    case rel => exact ⟨(y169), (wrap64 (x9_1 + 1)), (endS), H', ⟨by have := HK1.out; omega⟩, ⟨.inl (raA (Kd.R_mono HO171.out (fun _ hk => trivial)))⟩, ⟨bwA⟩⟩
   case' L1n =>
    intro c103 H
    have c103b0 := decide_eq_false c103
    clear c103
    replace H := itN H
    obtain ⟨c104, H⟩ := H
    have LMc104 := Aside0.mk c104
    clear c104
    obtain ⟨y172, hy172⟩ : ∃ y_ : List Int, y_ = (x3_1 ++ [39]) := ⟨_, rfl⟩
    replace H : (some (strOfNums y172)) = some r := by first | (rw [hy172]; with_reducible exact H) | (have H2_ := (Option.bind_some _ _).symm.trans H; rw [hy172]; with_reducible exact H2_) | (have H2_ := (Option.bind_some _ _).symm.trans H; with_reducible exact H2_) | with_reducible exact H | (rw [hy172]; exact H) | exact H
    have Ny172 := Aside0.mk hy172
    clear hy172
    obtain rfl := Option.some.inj H
    try go_wp2_with (first | ((with_reducible refine gate_builtin (b := .append) (xs := #[.tmp 26, .tmp 27]) rfl ?_); at_builtin; refine HxR.append_list (w0 := w) w.heap.size rfl (.tmp 26) (.tmp 27) 160 rfl Tryz.underlying160 info5 u3 x3_1 39 (fun _ => True) rfl rfl ?aO ?aF ?aB ?aS ?aL ?_; (case aB => exact (bwA)); (case aF => exact (fun _ _ => trivial)); (case aO => exact (by (with_reducible repeat (first | apply HxR.alloc | apply HxR.drewN | apply HxR.drew)); exact HO_3.out)); (case aS => exact (below_size (bwA))); (case aL => have := LMc104.out; omega); intro v173 w201 ho hb; rw [← Ny172.out] at ho; have n0_ := Aside0.mk (hb); have n1_ := Aside0.mk (ho); clear HB; clear HO_3; have HB := n0_; have HO174 := n1_; clear n0_ n1_; clear ho hb; have hcv202 := own_string (P := Tryz.prog) Tryz.underlying160 Tryz.underlying5 Tryz.underlying9 (Kd.own_of_R HO174.out)))
    go_ret
    exact ⟨endA, bwA⟩
/-! ### value_Show: function 116 -/
def value_Show.f (k : Nat) (a0_0 : Int) (a0_1 : Int) (a0_2 : ByteArray) : Option (ByteArray) := (value_Check.f a0_0 a0_1 a0_2).bind fun t176 => (if t176 = true then (if a0_0 = 1 then ((strconv_Itoa.f a0_1).bind fun t177 => (some t177)) else (if a0_0 = 2 then ((value_quoted.f a0_2).bind fun t178 => (some t178)) else (if a0_0 = 3 then ((strconv_FormatBool_179.f (a0_1 == 1)).bind fun t179 => (some t179)) else ((value_hexed.f k a0_2).bind fun t180 => (some t180))))) else (some (⟨#[]⟩ : ByteArray)))
theorem value_Show.mono : ∀ a0 a1 a2 k, LeO (value_Show.f k a0 a1 a2) (value_Show.f (k + 1) a0 a1 a2) := by
 intro a0 a1 a2 k
 unfold value_Show.f
 repeat' (with_reducible first | exact value_hexed.mono _ _ | exact LeO.refl _ | exact LeO.none _ | refine LeO.ite ?_ ?_ | refine LeO.bind ?_ (fun _ => ?_))
set_option maxHeartbeats 8000000 in
set_option maxRecDepth 100000 in
theorem value_Show.calls (k : Nat) (a0_0 : Int) (a0_1 : Int) (a0_2 : ByteArray) (r : ByteArray) (w : World) (hT : Tabs w) (h : value_Show.f k a0_0 a0_1 a0_2 = some r) :
  Calls Tryz.prog 116 #[.agg #[.int .i64 a0_0, .int .i64 a0_1, .string a0_2]] w fun e w' => e = .returned (.string r) ∧ Below w.heap.size w w' := by
 have hu74 := Tryz.underlying74
 have HB := Aside0.mk (Below.refl w.heap.size w)
 unfold value_Show.f at h
 have H := h
 clear h
 have HT := Aside0.mk hT
 clear hT
 replace H := Option.bind_eq_some_iff.mp H
 obtain ⟨t176, A20, H⟩ := H
 replace H : (if t176 = true then (if a0_0 = 1 then ((strconv_Itoa.f a0_1).bind fun t177 => (some t177)) else (if a0_0 = 2 then ((value_quoted.f a0_2).bind fun t178 => (some t178)) else (if a0_0 = 3 then ((strconv_FormatBool_179.f (a0_1 == 1)).bind fun t179 => (some t179)) else ((value_hexed.f k a0_2).bind fun t180 => (some t180))))) else (some (⟨#[]⟩ : ByteArray))) = some r := H
 have A2 := Aside0.mk A20
 clear A20
 revert H; refine itR ?L7p ?L7n
 case' L7p =>
  intro c3 H
  subst c3
  revert H; refine itR ?L8p ?L8n
  case' L8p =>
   intro c4 H
   obtain ⟨c4b0, c4b1⟩ := fcE c4
   clear c4
   replace H := bnA H
   obtain ⟨t177, A5, H⟩ := H
   obtain rfl := Option.some.inj H
   have M1 := True.intro
   have M2 := True.intro
  case' L8n =>
   intro c4 H
   obtain ⟨c4b0, c4b1⟩ := fcN c4
   revert H; refine itR ?L9p ?L9n
   case' L9p =>
    intro c5 H
    obtain ⟨c5b0, c5b1⟩ := fcE c5
    clear c5
    replace H := bnA H
    obtain ⟨t178, A6, H⟩ := H
    obtain rfl := Option.some.inj H
    have M1 := True.intro
    have M3 := True.intro
   case' L9n =>
    intro c5 H
    obtain ⟨c5b0, c5b1⟩ := fcN c5
    revert H; refine itR ?L10p ?L10n
    case' L10p =>
     intro c6 H
     obtain ⟨c6b0, c6b1⟩ := fcE c6
     clear c6
     replace H := bnA H
     obtain ⟨t179, A7, H⟩ := H
     obtain rfl := Option.some.inj H
     have M1 := True.intro
     have M4 := True.intro
    case' L10n =>
     intro c6 H
     obtain ⟨c6b0, c6b1⟩ := fcN c6
     replace H := bnA H
     obtain ⟨t180, A7, H⟩ := H
     obtain rfl := Option.some.inj H
     have M1 := True.intro
     have M5 := True.intro
 case' L7n =>
  intro c3 H
  replace c3 := Bool.eq_false_iff.mpr c3
  subst c3
  obtain rfl := Option.some.inj H
  have M6 := True.intro
 all_goals
  case _ =>
   go_enter Tryz.func116, Tryz.ntmps116
   go_wp2_with (first | ((with_reducible refine gate_dst (N := 1) rfl ?_); refine boxA 1 #[.int .i64 a0_0, .int .i64 a0_1, .string a0_2] 74 ?_; intro gb175 hg w101 hbox hb; have BK175 := Aside0.mk (hbox); have GW175 := Aside0.mk (hgW hg : w.heap.size ≤ gb175); have GE175 := Aside0.mk (hgW hg : w.heap.size ≤ gb175); replace HB := Aside0.mk (below_step (bwA) hb); clear hb hbox hg; have hcz102_0 := celA BK175.out 0 (.int .i64 a0_0); have hcz102_1 := celA BK175.out 1 (.int .i64 a0_1); have hcz102_2 := celA BK175.out 2 (.string a0_2); have hfz102_0 := blk_frozen BK175.out 0; have hfz102_1 := blk_frozen BK175.out 1; have hfz102_2 := blk_frozen BK175.out 2) | ((with_reducible refine gate_callee (f := 177) rfl ?_); refine goesA (some 4) Tryz.func177 #[.agg #[.int .i64 a0_0, .int .i64 a0_1, .string a0_2]] ?_; (with_reducible refine (value_Check.calls _ _ _ _ _ ?side1 A2.out).mono ?_); (case side1 => exact Tabs.below HT.out (bwA)); rintro e w103 ⟨rfl, hb⟩; refine ⟨_, rfl, ?_⟩; replace BK175 := Aside0.mk (bkB BK175 hb); replace HB := Aside0.mk (below_step (bwA) hb); (try clear hb); apply stopA; (case other => exact True.intro)))
   case _ =>
    first
     | clear M1
       have hcz104_0 := celA BK175.out 0 (.int .i64 a0_0)
       have hcz104_1 := celA BK175.out 1 (.int .i64 a0_1)
       have hcz104_2 := celA BK175.out 2 (.string a0_2)
       have hfz104_0 := blk_frozen BK175.out 0
       have hfz104_1 := blk_frozen BK175.out 1
       have hfz104_2 := blk_frozen BK175.out 2
       first
        | clear M2
          try go_wp2_with (first | ((with_reducible refine gate_callee (f := 121) rfl ?_); refine goesA (some 12) Tryz.func121 #[.int .i64 a0_1] ?_; (with_reducible refine (strconv_Itoa.calls _ _ _ ?side1 A5.out).mono ?_); (case side1 => exact Tabs.below HT.out (bwA)); rintro e w105 ⟨rfl, hb⟩; refine ⟨_, rfl, ?_⟩; replace BK175 := Aside0.mk (bkB BK175 hb); replace HB := Aside0.mk (below_step (bwA) hb); (try clear hb)))
          go_ret
          exact ⟨endA, bwA⟩
        | clear M3
          try go_wp2_with (first | ((with_reducible refine gate_callee (f := 178) rfl ?_); refine goesA (some 17) Tryz.func178 #[.string a0_2] ?_; (with_reducible refine (value_quoted.calls _ _ _ ?side1 A6.out).mono ?_); (case side1 => exact Tabs.below HT.out (bwA)); rintro e w105 ⟨rfl, hb⟩; refine ⟨_, rfl, ?_⟩; replace BK175 := Aside0.mk (bkB BK175 hb); replace HB := Aside0.mk (below_step (bwA) hb); (try clear hb)))
          go_ret
          exact ⟨endA, bwA⟩
        | clear M4
          try go_wp2_with (first | ((with_reducible refine gate_callee (f := 179) rfl ?_); refine goesA (some 23) Tryz.func179 #[.bool (a0_1 == 1)] ?_; (with_reducible refine (strconv_FormatBool_179.calls _ _ _ A7.out).mono ?_); rintro e w' ⟨rfl, ⟨nd, rfl⟩⟩; refine ⟨_, rfl, ?_⟩))
          go_ret
          exact ⟨endA, bwA⟩
        | clear M5
          try go_wp2_with (first | ((with_reducible refine gate_callee (f := 180) rfl ?_); refine goesA (some 26) Tryz.func180 #[.string a0_2] ?_; (with_reducible refine (value_hexed.calls _ _ _ _ A7.out).mono ?_); rintro e w105 ⟨rfl, hb⟩; refine ⟨_, rfl, ?_⟩; replace BK175 := Aside0.mk (bkB BK175 hb); replace HB := Aside0.mk (below_step (bwA) hb); (try clear hb)))
          go_ret
          exact ⟨endA, bwA⟩
     | clear M6
       (try go_wp2_with (fail))
       go_ret
       exact ⟨endA, bwA⟩
end Go.Proofs.YtkdndabpaajkaaaGreatDoor.A
