-- By drv.py, the session's own driver round the kit's print: the machine's side of the laws, function by function. Not trusted: Lean checks it.
import Derived.Test.YtlejenoibblhnaaDoorAx0
import Derived.Test.YtlejenoibblhnaaDoorAx2
import Derived.Test.YtlejenoibblhnaaDoorAx4
namespace Go.Proofs.YtlejenoibblhnaaDoor.A
open Go.RowKit Go.Proofs.YtlejenoibblhnaaDoorW.PrintWords Go.Proofs.YtlejenoibblhnaaDoorW.PrintLast Go.Proofs.YtlejenoibblhnaaDoorW.PrintMore
attribute [local go_sem] max2_int min2_int max_two min_two max_three min_three max_four min_four   -- for this text's walks alone
set_option linter.unusedVariables false
set_option linter.unusedSimpArgs false

/-! ### value_next: function 35 -/
mutual
def value_next.j0 : Nat → ByteArray → Int → Int → Bool → Option (Int × Int)
 | 0, _, _, _, _ => none
 | k + 1, x0, x4, x5, x16 => if x16 = true then (some (0, 0)) else (if x4 = 92 then (if 1 ≤ (x0.size : Int) then ((value_escaped.f k (x0.extract 1 x0.size)).bind fun bt109 => (if bt109.2 = 0 then (some (0, 0)) else (value_next.j1 k x0 bt109.1 (wrap64 (bt109.2 + 1))))) else (none)) else (value_next.j1 k x0 x4 x5))
def value_next.j1 : Nat → ByteArray → Int → Int → Option (Int × Int)
 | 0, _, _, _ => none
 | k + 1, x0, x4, x5 => (value_escape.f x4).bind fun t111 => ((strings_HasPrefix.f x0 t111).bind fun t112 => (if t112 = true then ((value_escape.f x4).bind fun t113 => (if (t113.size : Int) = x5 then (some (x4, x5)) else (some (0, 0)))) else (some (0, 0))))
end
def value_next.f (k : Nat) (a0 : ByteArray) : Option (Int × Int) := (utf8_DecodeRuneInString.f a0).bind fun bt107 => (if bt107.1 = 65533 then (value_next.j0 k a0 bt107.1 bt107.2 (decide (bt107.2 < 2))) else (value_next.j0 k a0 bt107.1 bt107.2 false))
theorem value_next.mono_l : ∀ k, (∀ y0 y1 y2 y3, LeO (value_next.j0 k y0 y1 y2 y3) (value_next.j0 (k + 1) y0 y1 y2 y3)) ∧ (∀ y0 y1 y2, LeO (value_next.j1 k y0 y1 y2) (value_next.j1 (k + 1) y0 y1 y2))
 | 0 => ⟨fun _ _ _ _ r h => by simp [value_next.j0] at h, fun _ _ _ r h => by simp [value_next.j1] at h⟩
 | k + 1 => by
  obtain ⟨ih0, ih1⟩ := value_next.mono_l k
  refine ⟨?_, ?_⟩
  all_goals intros
  all_goals first | unfold value_next.j0 | unfold value_next.j1
  all_goals repeat' (with_reducible first | exact ih0 _ _ _ _ | exact ih1 _ _ _ | exact value_escaped.mono _ _ | exact LeO.refl _ | exact LeO.none _ | refine LeO.ite ?_ ?_ | refine LeO.bind ?_ (fun _ => ?_))
theorem value_next.mono : ∀ a0 k, LeO (value_next.f k a0) (value_next.f (k + 1) a0) := by
 intro a0 k
 obtain ⟨ih0, ih1⟩ := value_next.mono_l k
 unfold value_next.f
 repeat' (with_reducible first | exact ih0 _ _ _ _ | exact ih1 _ _ _ | exact value_escaped.mono _ _ | exact LeO.refl _ | exact LeO.none _ | refine LeO.ite ?_ ?_ | refine LeO.bind ?_ (fun _ => ?_))
set_option maxHeartbeats 8000000 in
set_option maxRecDepth 100000 in
theorem value_next.calls (k : Nat) (a0 : ByteArray) (r1 : Int) (r2 : Int) (w : World) (hT : Tabs w) (h : value_next.f k a0 = some (r1, r2)) :
  Calls Tryd.prog 35 #[.string a0] w fun e w' => e = .returned (.tuple #[.int .i32 r1, .int .i64 r2]) ∧ Below w.heap.size w w' := by
 have HB := Aside0.mk (Below.refl w.heap.size w)
 unfold value_next.f at h
 have H := h
 clear h
 have HT := Aside0.mk hT
 clear hT
 replace H := bnA H
 obtain ⟨⟨t107, t108⟩, A2, H⟩ := H
 dsimp only at H
 have HC101 := Aside0.mk H
 clear H
 go_enter Tryd.func35, Tryd.ntmps35
 go_upto_region 2 with (first | ((with_reducible refine gate_callee (f := 49) rfl ?_); refine goesA (some 8) Tryd.func49 #[.string a0] ?_; (with_reducible refine (utf8_DecodeRuneInString.calls _ _ _ _ ?side1 A2.out).mono ?_); (case side1 => exact Tabs.below HT.out (bwA)); rintro e w102 ⟨rfl, hb⟩; refine ⟨_, rfl, ?_⟩; have n0_ := Aside0.mk (below_step (bwA) hb); clear HB; have HB := n0_; clear n0_; (try clear hb); (try clear hb2); (try clear hk); (try clear hi)))
 (try simp only [Act.put, List.setIfInBounds_toArray, List.set_cons_zero, List.set_cons_succ])
 go_cut [16] (fun v16 wc => ∃ (kq : Nat) (x16_100 : Bool), v16 = .bool x16_100 ∧ Aside0 (value_next.j0 kq a0 t107 t108 x16_100 = some (r1, r2)) ∧ Aside0 (kq ≤ k) ∧ Aside0 (Below w.heap.size w wc))
 case first =>
  have H := HC101.out
  clear HC101
  revert H; refine itQ ?L3p ?L3n
  case' L3p =>
   rintro ⟨c103b0, c103b1⟩ H
   (first | rw [c103b0] | (simp only [i64_w, i32_w]; rw [c103b0]) | skip)
   have H' := Aside0.mk H
   clear H
   have M1 := True.intro
  case' L3n =>
   rintro ⟨c103b0, c103b1⟩ c103 H
   (first | rw [c103b0] | (simp only [i64_w, i32_w]; rw [c103b0]) | skip)
   have H' := Aside0.mk H
   clear H
   have M2 := True.intro
  all_goals
   case _ =>
    go_wp2
    go_meet
    first
     | clear M1
       case rel => exact ⟨_, (decide (t108 < 2)), (endS), H', ⟨by first | omega | exact Nat.le_refl _⟩, ⟨bwA⟩⟩
     | clear M2
       case rel => exact ⟨_, (false), (endS), H', ⟨by first | omega | exact Nat.le_refl _⟩, ⟨bwA⟩⟩
 case rest =>
  clear HC101
  try clear c1
  try clear p2
  try clear c3
  try clear c4
  try clear c10
  try clear c35
  try clear c49
  obtain ⟨kq, x16_100, rfl, HA, HJ100, HB⟩ := hcut
  cases kq with
  | zero => exact absurd HA.out (by simp [value_next.j0])
  | succ kj100 =>
   have H := HA.out
   clear HA
   simp only [value_next.j0] at H
   revert H; refine itR ?L12p ?L12n
   case' L12p =>
    intro c103 H
    subst c103
    obtain ⟨rfl, rfl⟩ := sJ2 H
    go_wp2
    go_ret2
    exact ⟨endA, bwA⟩
   case' L12n =>
    intro c103 H
    replace c103 := Bool.eq_false_iff.mpr c103
    subst c103
    have HC201 := Aside0.mk H
    clear H
    go_upto_if 18 with (fail)
    go_cut [4, 5] (fun v4 v5 wc => ∃ (kq : Nat) (x4_200 : Int) (x5_200 : Int), v4 = .int .i32 x4_200 ∧ v5 = .int .i64 x5_200 ∧ Aside0 (value_next.j1 kq a0 x4_200 x5_200 = some (r1, r2)) ∧ Aside0 (kq ≤ kj100) ∧ Aside0 (Below w.heap.size w wc))
    case first =>
     have H := HC201.out
     clear HC201
     revert H; refine itQ ?L15p ?L15n
     case' L15p =>
      rintro ⟨c202b0, c202b1⟩ H
      (first | rw [c202b0] | (simp only [i64_w, i32_w]; rw [c202b0]) | skip)
      replace H := itN H
      obtain ⟨c203, H⟩ := H
      have c203b0 := eq_true c203
      have c203b1 := decide_eq_true c203
      clear c203
      replace H := bnA H
      obtain ⟨⟨t109, t110⟩, A204, H⟩ := H
      dsimp only at H
      revert H; refine itQ ?L16p ?L16n
      case' L16p =>
       rintro ⟨c205b0, c205b1⟩ H
       obtain ⟨rfl, rfl⟩ := sJ2 H
       have M13 := True.intro
      case' L16n =>
       rintro ⟨c205b0, c205b1⟩ c205 H
       have H' := Aside0.mk H
       clear H
       have M14 := True.intro
     case' L15n =>
      rintro ⟨c202b0, c202b1⟩ c202 H
      (first | rw [c202b0] | (simp only [i64_w, i32_w]; rw [c202b0]) | skip)
      have H' := Aside0.mk H
      clear H
      go_wp2
      go_meet
      case rel => exact ⟨_, (t107), (t108), (endS), (endS), H', ⟨by have := HJ100.out; first | omega | exact Nat.le_refl _⟩, ⟨bwA⟩⟩
     all_goals
      case _ =>
       try go_wp2_with (first | ((with_reducible refine gate_callee (f := 50) rfl ?_); refine goesA (some 22) Tryd.func50 #[.string (a0.extract 1 a0.size)] ?_; (with_reducible refine (value_escaped.calls _ _ _ _ _ A204.out).mono ?_); rintro e w' ⟨rfl, ⟨nd, rfl⟩⟩; refine ⟨_, rfl, ?_⟩))
       first
        | clear M13
          go_ret2
          exact ⟨endA, bwA⟩
        | clear M14
          go_meet
          case rel => exact ⟨_, (t109), (wrap64 (t110 + 1)), (endS), (endS), H', ⟨by have := HJ100.out; first | omega | exact Nat.le_refl _⟩, ⟨bwA⟩⟩
    case rest =>
     clear HC201
     try clear c1
     try clear c2
     try clear p2
     try clear c3
     try clear c4
     try clear c5
     try clear p6
     try clear c10
     try clear c20
     try clear c35
     try clear c49
     try clear c50
     try clear p64
     try clear c103
     try clear c103b0
     try clear c103b1
     try clear p2
     obtain ⟨kq, x4_200, x5_200, rfl, rfl, HA, HJ200, HB⟩ := hcut
     cases kq with
     | zero => exact absurd HA.out (by simp [value_next.j1])
     | succ kj200 =>
      have H := HA.out
      clear HA
      simp only [value_next.j1] at H
      replace H := bnA H
      obtain ⟨t111, A202, H⟩ := H
      replace H := bnA H
      obtain ⟨t112, A203, H⟩ := H
      revert H; refine itR ?L19p ?L19n
      case' L19p =>
       intro c204 H
       subst c204
       replace H := bnA H
       obtain ⟨t113, A205, H⟩ := H
       revert H; refine itQ ?L20p ?L20n
       case' L20p =>
        rintro ⟨c206b0, c206b1⟩ H
        obtain ⟨rfl, rfl⟩ := sJ2 H
        have M17 := True.intro
       case' L20n =>
        rintro ⟨c206b0, c206b1⟩ c206 H
        obtain ⟨rfl, rfl⟩ := sJ2 H
        have M17 := True.intro
      case' L19n =>
       intro c204 H
       replace c204 := Bool.eq_false_iff.mpr c204
       subst c204
       obtain ⟨rfl, rfl⟩ := sJ2 H
       have M18 := True.intro
      all_goals
       case _ =>
        go_wp2_with (first | ((with_reducible refine gate_callee (f := 31) rfl ?_); refine goesA (some 31) Tryd.func31 #[.int .i32 x4_200] ?_; (with_reducible refine (value_escape.calls _ _ _ ?side1 A202.out).mono ?_); (case side1 => exact Tabs.below HT.out (bwA)); rintro e w301 ⟨rfl, hb⟩; refine ⟨_, rfl, ?_⟩; replace HB := Aside0.mk (below_step (bwA) hb); (try clear hb)) | ((with_reducible refine gate_callee (f := 24) rfl ?_); refine goesA (some 32) Tryd.func24 #[.string a0, .string t111] ?_; (with_reducible refine (strings_HasPrefix.calls _ _ _ _ A203.out).mono ?_); rintro e w' ⟨rfl, ⟨nd, rfl⟩⟩; refine ⟨_, rfl, ?_⟩; apply stopA; (case other => exact True.intro)))
        case _ =>
         first
          | clear M17
            try go_wp2_with (first | (go_at_call 31; (with_reducible refine (value_escape.calls _ _ _ ?side1 A205.out).mono ?_); (case side1 => exact Tabs.below HT.out (bwA)); rintro e w302 ⟨rfl, hb⟩; replace HB := Aside0.mk (below_step (bwA) hb); (try clear hb)))
            go_ret2
            exact ⟨endA, bwA⟩
          | clear M18
            (try go_wp2_with (fail))
            go_ret2
            exact ⟨endA, bwA⟩
/-! ### value_text: function 23, by hand -/
def value_text.go (k : Nat) : Nat → ByteArray → List UInt8 → Option (Int × Int × ByteArray × ByteArray × Int)
 | 0, _, _ => none
 | f + 1, s, acc =>
  if s.size = 0 then some (0, 0, ⟨#[]⟩, ⟨#[]⟩, 3)
  else if bt s 0 = 34 then (if acc.length > 200 then some (0, 0, ⟨#[]⟩, ⟨#[]⟩, 2) else some (2, 0, ⟨acc.toArray⟩, s.extract 1 s.size, 0))
  else (value_next.f k s).bind fun cn => if cn.2 = 0 then some (0, 0, ⟨#[]⟩, ⟨#[]⟩, 3)
   else if 0 ≤ cn.2 ∧ cn.2 ≤ s.size ∧ -2147483648 ≤ cn.1 ∧ cn.1 ≤ 2147483647 then value_text.go k f (s.extract cn.2.toNat s.size) (acc ++ Lib.encodeRune cn.1) else none
def value_text.f (k : Nat) (a0 : ByteArray) : Option (Int × Int × ByteArray × ByteArray × Int) :=
 if 1 ≤ a0.size ∧ a0.size ≤ 1099511627776 then value_text.go k k (a0.extract 1 a0.size) [] else none
theorem value_text.mono_go (k : Nat) : ∀ f s acc, LeO (value_text.go k f s acc) (value_text.go (k + 1) (f + 1) s acc)
 | 0, _, _ => fun r h => by simp [value_text.go] at h
 | f + 1, s, acc => by
  unfold value_text.go
  repeat' first
   | (with_reducible exact LeO.refl _)
   | (with_reducible exact LeO.none _)
   | (with_reducible exact value_next.mono _ _)
   | exact value_text.mono_go k f _ _
   | (with_reducible refine LeO.ite ?_ ?_)
   | (with_reducible refine LeO.bind ?_ (fun _ => ?_))
theorem value_text.mono : ∀ a0 k, LeO (value_text.f k a0) (value_text.f (k + 1) a0) := by
 intro a0 k
 unfold value_text.f
 repeat' (with_reducible first | exact value_text.mono_go k k _ _ | exact LeO.refl _ | exact LeO.none _ | refine LeO.ite ?_ ?_ | refine LeO.bind ?_ (fun _ => ?_))
set_option maxHeartbeats 4000000 in
set_option maxRecDepth 100000 in
theorem value_text.calls (k : Nat) (a0 : ByteArray) (r1 : Int) (r2 : Int) (r3 : ByteArray) (r4 : ByteArray) (r5 : Int) (w : World) (hT : Tabs w) (h : value_text.f k a0 = some (r1, r2, r3, r4, r5)) :
  Calls Tryd.prog 23 #[.string a0] w fun e w' => e = .returned (.tuple #[.agg #[.int .i64 r1, .int .i64 r2, .string r3], .string r4, .int .i64 r5]) ∧ Below w.heap.size w w' := by
 unfold value_text.f at h
 split at h
 ·rename_i hs
  obtain ⟨hs0, hs1⟩ := hs
  have hs0z : (1 : Int) ≤ (a0.size : Int) := by omega
  have H := Lib.hid h
  clear h
  have hu := Tryd.underlying26
  have hez : (a0.extract 1 a0.size).size ≤ a0.size := by simp
  go_enter Tryd.func23, Tryd.ntmps23
  go_wp2_with fail
  obtain ⟨w1, hw1⟩ : ∃ w1, w1 = w.alloc (.cells #[.int .i64 0, .int .i64 0, .string ⟨#[]⟩] 26) := ⟨_, rfl⟩
  have hz1 : w1.heap.size = w.heap.size + 1 := by rw [hw1]; simp
  have hv1 : w1.heap[w.heap.size]? = some (.cells #[.int .i64 0, .int .i64 0, .string ⟨#[]⟩] 26 (0, 0)) := by rw [hw1]; exact heap_alloc_new w _
  have hb1 : Below w.heap.size w w1 := by rw [hw1]; exact (Below.refl _ w).alloc (Nat.le_refl _) _
  rw [← hw1]
  clear hw1
  have I0 := Lib.IsBuilderF.of (Lib.fresh_isBuilder 57 5 w1)
  rw [hz1] at I0
  go_loopg [0] k (fun gk s0 wx => ∃ (t : ByteArray) (acc : List UInt8), s0 = .string t ∧ Lib.IsBuilderF 57 5 (w.heap.size + 1) (w.heap.size + 1) (Lib.byteCells acc) wx ∧ Below (w.heap.size + 1) w1 wx ∧ Hid (value_text.go k gk t acc = some (r1, r2, r3, r4, r5)) ∧ acc.length + 4 * t.size ≤ 4398046511104 ∧ t.size ≤ 1099511627776)
  case atStart => exact ⟨_, [], rfl, I0, (Below.refl _ w1).alloc (by omega) _, H, by simp; omega, by omega⟩
  case round =>
   obtain ⟨t, acc, rfl, hI, hbw, HG, hal, hts⟩ := hrel
   have hvx : wr.heap[w.heap.size]? = some (.cells #[.int .i64 0, .int .i64 0, .string ⟨#[]⟩] 26 (0, 0)) := (hbw.block _ (by omega)).trans hv1
   have hszx : w.heap.size + 1 ≤ wr.heap.size := by have := hbw.size; omega
   have hbx : Below w.heap.size w wr := hb1.trans (hbw.mono (by omega))
   cases gk with
   | zero => exact absurd HG.out (by simp [value_text.go])
   | succ g =>
    have hgo := HG.out
    clear HG hu
    unfold value_text.go at hgo
    by_cases ht0 : t.size = 0
    ·rw [if_pos ht0] at hgo
     have hgo := Option.some.inj hgo
     simp only [Prod.mk.injEq] at hgo
     obtain ⟨rfl, rfl, rfl, rfl, rfl⟩ := hgo
     obtain rfl : t = ⟨#[]⟩ := by
      cases t with | mk d => simp only [ByteArray.size] at ht0; rw [Array.eq_empty_of_size_eq_zero ht0]
     clear hI hal hts ht0
     have c0 := fun j => Lib.cell_of_heap hvx j
     have f0 := fun j => Lib.frozen_of_heap hvx j
     go_wp2_with fail
     refine bodyPost_ret (results_ctt rfl _ _ w.heap.size 26 _ (0, 0) _ rfl (vput3 hvx _ _ _) Tryd.underlying26 rfl (by kernel_rfl)) rfl ?_
     exact ⟨rfl, bput3 hbx (Nat.le_refl _) _ _ _⟩
    ·rw [if_neg ht0] at hgo
     have hpos : 0 < t.size := by omega
     have hposz : (0 : Int) < (t.size : Int) := by omega
     obtain ⟨ch, hch⟩ : ∃ ch : Int, bt t 0 = ch := ⟨_, rfl⟩
     have hchr : 0 ≤ ch ∧ ch ≤ 255 := hch ▸ bt_range t 0
     have hcb : ((t[0]'hpos).toNat : Int) = ch := by rw [← hch]; exact bt_at t 0 hpos
     rw [hch] at hgo
     clear hch
     have hne1 := toList_ne hpos
     have hne2 : t.toList.isEmpty = false := by rw [Bool.eq_false_iff]; simpa using hne1
     have c0 := fun j => Lib.cell_of_heap hvx j
     have f0 := fun j => Lib.frozen_of_heap hvx j
     by_cases hq : ch = 34
     ·rw [if_pos hq] at hgo
      subst hq
      by_cases hl : acc.length > 200
      ·rw [if_pos hl] at hgo
       have hgo := Option.some.inj hgo
       simp only [Prod.mk.injEq] at hgo
       obtain ⟨rfl, rfl, rfl, rfl, rfl⟩ := hgo
       have b1 : decide (((Lib.byteCells acc).length : Int) > 200) = true := decide_eq_true (by rw [Lib.byteCells_length]; omega)
       go_wp2_with fail
       refine (Tryd.Builder_Len_f _ _ _ _ hI).mono ?_
       rintro e W2 ⟨rfl, rfl⟩
       go_wp2
       refine bodyPost_ret (results_ctt rfl _ _ w.heap.size 26 _ (0, 0) _ rfl (vput3 hvx _ _ _) Tryd.underlying26 rfl (by kernel_rfl)) rfl ?_
       exact ⟨rfl, bput3 hbx (Nat.le_refl _) _ _ _⟩
      ·rw [if_neg hl] at hgo
       have hgo := Option.some.inj hgo
       simp only [Prod.mk.injEq] at hgo
       obtain ⟨rfl, rfl, rfl, rfl, rfl⟩ := hgo
       have b1 : decide (((Lib.byteCells acc).length : Int) > 200) = false := decide_eq_false (by rw [Lib.byteCells_length]; omega)
       go_wp2_with fail
       refine (Tryd.Builder_Len_f _ _ _ _ hI).mono ?_
       rintro e W2 ⟨rfl, rfl⟩
       have cS := fun (W : World) (hW : W.heap = W2.heap) => Tryd.Builder_String_any_k (w.heap.size + 1) (w.heap.size + 1) acc W (builderF_heap hI hW) (by rw [hW]; exact hszx)
       go_wp2_with fail
       go_region_with (go_at_call 32; refine (cS _ ?_).mono ?_; exact rfl; rintro e W3 ⟨rfl, _, b3, _⟩; have hv3 := (b3.block w.heap.size (by omega)).trans hvx; have c3 := fun j => Lib.cell_of_heap hv3 j; have f3 := fun j => Lib.frozen_of_heap hv3 j)
       all_goals
        have b4 := b3.mono (Nat.le_succ w.heap.size)
        have hb3 : Below w.heap.size w W3 := (below_drew hbx).trans b4
        go_wp2
        refine bodyPost_ret (results_ctt rfl _ _ w.heap.size 26 _ (0, 0) _ rfl (vput3 hv3 _ _ _) Tryd.underlying26 rfl (by kernel_rfl)) rfl ?_
        exact ⟨rfl, bput3 hb3 (Nat.le_refl _) _ _ _⟩
     ·rw [if_neg hq] at hgo
      have bq : (ch == 34) = false := beq_eq_false_iff_ne.2 hq
      have bq2 : (ch != 34) = true := bne_iff_ne.2 hq
      obtain ⟨⟨c, n⟩, hcn, hgo⟩ := Option.bind_eq_some_iff.1 hgo
      have cN := fun W hW => value_next.calls k t c n W hW hcn
      have hTx : Tabs wr := hT.below hbx
      simp only at hgo
      have HC := Lib.hid hcn
      clear hcn
      go_wp2_with fail
      refine (cN _ hTx).mono ?_
      rintro e W2 ⟨rfl, hb2⟩
      have hI2 := builderF_below hI hb2
      have hv2 := (hb2.block w.heap.size (by omega)).trans hvx
      have hbx2 : Below w.heap.size w W2 := hbx.trans (hb2.mono (by omega))
      have hbw2 : Below (w.heap.size + 1) w1 W2 := hbw.trans (hb2.mono (by omega))
      have hsz2 : w.heap.size + 1 ≤ W2.heap.size := Nat.le_trans hszx hb2.size
      have c2 := fun j => Lib.cell_of_heap hv2 j
      have f2 := fun j => Lib.frozen_of_heap hv2 j
      clear c0 f0 cN hI hbw hvx hbx hTx
      by_cases hn0 : n = 0
      ·subst hn0
       rw [if_pos rfl] at hgo
       have hgo := Option.some.inj hgo
       simp only [Prod.mk.injEq] at hgo
       obtain ⟨rfl, rfl, rfl, rfl, rfl⟩ := hgo
       go_wp2
       refine bodyPost_ret (results_ctt rfl _ _ w.heap.size 26 _ (0, 0) _ rfl (vput3 hv2 _ _ _) Tryd.underlying26 rfl (by kernel_rfl)) rfl ?_
       exact ⟨rfl, bput3 hbx2 (Nat.le_refl _) _ _ _⟩
      ·rw [if_neg hn0] at hgo
       have bn : (n == 0) = false := beq_eq_false_iff_ne.2 hn0
       split at hgo
       ·rename_i hr
        obtain ⟨hr1, hr2, hr3, hr4⟩ := hr
        have HGO := Lib.hid hgo
        have hn1 : 1 ≤ n := by omega
        clear hgo hn0
        go_wp2_with fail
        refine (Tryd.Bld_WriteRune _ _ _ c hr3 hr4 _ hI2 (by rw [Lib.byteCells_length]; omega) hsz2).mono ?_
        rintro e W3 ⟨rfl, h1, b3, k3⟩
        go_wp2
        go_roundg g
        case measure => omega
        case rel =>
         have hl4 := Lib.runeCells_le c
         rw [Lib.runeCells_length] at hl4
         have hex : (t.extract n.toNat t.size).size = t.size - n.toNat := by simp
         refine ⟨_, acc ++ Lib.encodeRune c, rfl, ?_, hbw2.trans b3, HGO, ?_, ?_⟩
         ·rw [Lib.byteCells_append, Lib.byteCells_encodeRune]; exact Or.inr h1
         ·rw [List.length_append, hex]; omega
         ·rw [hex]; omega
       ·cases hgo
 ·cases h
end Go.Proofs.YtlejenoibblhnaaDoor.A
