-- By drv.py, the session's own driver round the kit's print: the machine's side of the laws, function by function. Not trusted: Lean checks it.
import Derived.Test.YtoajlmmkkcelgaaGreatDoorProg
import Derived.Below
import Derived.Deep.Draws
import Derived.Deep.AppendLies
import Derived.Maps.AppendAt
import Derived.OwnWalk
import Derived.Laws.BytesArg
import Derived.Laws.MakeOwn
import Derived.Laws.OwnMore
import Derived.Deep.OwnRows
import Derived.Tactics
import Derived.Lib.ConvBytes
import Derived.Laws.Slices
import Derived.WalkKit
import Derived.KernelRfl
import Derived.RowKit3
import Derived.Deep.LoopGhost
import Derived.Deep.QuietTactic
import Derived.BigQuiet
import Derived.WideLaws
import Derived.Deep.DeepCutAuto
import Derived.Deep.CutBlock
import Derived.Deep.RegionHeld3
import Derived.Laws.Rows
import Derived.Lib.AppendStr
import Derived.ArgAppend
import Derived.Laws.IdiomCopy
import Derived.OrdersHeld
import Derived.Laws.BitsLemmas
import Derived.RowKit
import Derived.ArgAppend
import Derived.Lib.SlBytesConst
import Derived.Test.YtoajlmmkkcelgaaGreatDoorShelf
import Derived.Lib.QuietBelow
import Derived.Lib.AppendIntMem
import Derived.Lib.AtoiErrMem
import Derived.BigCall
import Derived.Deep.RegionWith
import Derived.Lib.TrimU
import Derived.Laws.Cover1
import Derived.Laws.Runes
import Derived.Laws.Cover4
import Derived.Test.YtoajlmmkkcelgaaGreatDoorWWords
import Derived.Test.YtoajlmmkkcelgaaGreatDoorWLast
import Derived.Test.YtoajlmmkkcelgaaGreatDoorWTab
import Derived.Test.YtoajlmmkkcelgaaGreatDoorWQPut
import Derived.Test.YtoajlmmkkcelgaaGreatDoorWApart
import Derived.Test.YtoajlmmkkcelgaaGreatDoorWArr
import Derived.Test.YtoajlmmkkcelgaaGreatDoorWZeros
import Derived.Test.YtoajlmmkkcelgaaGreatDoorWFoot
import Derived.Test.YtoajlmmkkcelgaaGreatDoorWKept
import Derived.Test.YtoajlmmkkcelgaaGreatDoorWShare
import Derived.Test.YtoajlmmkkcelgaaGreatDoorWN
import Derived.Test.YtoajlmmkkcelgaaGreatDoorWRepsOne
import Derived.Test.YtoajlmmkkcelgaaGreatDoorWGuard
import Derived.Test.YtoajlmmkkcelgaaGreatDoorWNEv
import Derived.Test.YtoajlmmkkcelgaaGreatDoorWMore
namespace Go.Proofs.YtoajlmmkkcelgaaGreatDoor.A
open Go.RowKit Go.Proofs.YtoajlmmkkcelgaaGreatDoorW.PrintWords Go.Proofs.YtoajlmmkkcelgaaGreatDoorW.PrintLast Go.Proofs.YtoajlmmkkcelgaaGreatDoorW.PrintMore
attribute [local go_sem] max2_int min2_int max_two min_two max_three min_three max_four min_four   -- for this text's walks alone
set_option linter.unusedVariables false
set_option linter.unusedSimpArgs false



def errW : Option Int → Value
 | none => .nilIface
 | some c => .iface 0 (.int .i64 c)
theorem errW_none : errW none = .nilIface := rfl
theorem errW_some (c : Int) : errW (some c) = .iface 0 (.int .i64 c) := rfl

theorem far1 {w : World} {a : Addr} {g : Nat} {r : Option Value} {i0 : Nat} {u0 : Value} (h : a.block ≠ g) (k : w.cell? a = r) : (w.setCell ⟨g, i0, none⟩ u0).cell? a = r := ((cell_far (p := ⟨g, i0, none⟩) h u0).trans k)
theorem far2 {w : World} {a : Addr} {g : Nat} {r : Option Value} {i0 : Nat} {u0 : Value} {i1 : Nat} {u1 : Value} (h : a.block ≠ g) (k : w.cell? a = r) : ((w.setCell ⟨g, i0, none⟩ u0).setCell ⟨g, i1, none⟩ u1).cell? a = r := ((cell_far (p := ⟨g, i1, none⟩) h u1).trans ((cell_far (p := ⟨g, i0, none⟩) h u0).trans k))
theorem far3 {w : World} {a : Addr} {g : Nat} {r : Option Value} {i0 : Nat} {u0 : Value} {i1 : Nat} {u1 : Value} {i2 : Nat} {u2 : Value} (h : a.block ≠ g) (k : w.cell? a = r) : (((w.setCell ⟨g, i0, none⟩ u0).setCell ⟨g, i1, none⟩ u1).setCell ⟨g, i2, none⟩ u2).cell? a = r := ((cell_far (p := ⟨g, i2, none⟩) h u2).trans ((cell_far (p := ⟨g, i1, none⟩) h u1).trans ((cell_far (p := ⟨g, i0, none⟩) h u0).trans k)))
theorem far4 {w : World} {a : Addr} {g : Nat} {r : Option Value} {i0 : Nat} {u0 : Value} {i1 : Nat} {u1 : Value} {i2 : Nat} {u2 : Value} {i3 : Nat} {u3 : Value} (h : a.block ≠ g) (k : w.cell? a = r) : ((((w.setCell ⟨g, i0, none⟩ u0).setCell ⟨g, i1, none⟩ u1).setCell ⟨g, i2, none⟩ u2).setCell ⟨g, i3, none⟩ u3).cell? a = r := ((cell_far (p := ⟨g, i3, none⟩) h u3).trans ((cell_far (p := ⟨g, i2, none⟩) h u2).trans ((cell_far (p := ⟨g, i1, none⟩) h u1).trans ((cell_far (p := ⟨g, i0, none⟩) h u0).trans k))))
theorem far5 {w : World} {a : Addr} {g : Nat} {r : Option Value} {i0 : Nat} {u0 : Value} {i1 : Nat} {u1 : Value} {i2 : Nat} {u2 : Value} {i3 : Nat} {u3 : Value} {i4 : Nat} {u4 : Value} (h : a.block ≠ g) (k : w.cell? a = r) : (((((w.setCell ⟨g, i0, none⟩ u0).setCell ⟨g, i1, none⟩ u1).setCell ⟨g, i2, none⟩ u2).setCell ⟨g, i3, none⟩ u3).setCell ⟨g, i4, none⟩ u4).cell? a = r := ((cell_far (p := ⟨g, i4, none⟩) h u4).trans ((cell_far (p := ⟨g, i3, none⟩) h u3).trans ((cell_far (p := ⟨g, i2, none⟩) h u2).trans ((cell_far (p := ⟨g, i1, none⟩) h u1).trans ((cell_far (p := ⟨g, i0, none⟩) h u0).trans k)))))
theorem far6 {w : World} {a : Addr} {g : Nat} {r : Option Value} {i0 : Nat} {u0 : Value} {i1 : Nat} {u1 : Value} {i2 : Nat} {u2 : Value} {i3 : Nat} {u3 : Value} {i4 : Nat} {u4 : Value} {i5 : Nat} {u5 : Value} (h : a.block ≠ g) (k : w.cell? a = r) : ((((((w.setCell ⟨g, i0, none⟩ u0).setCell ⟨g, i1, none⟩ u1).setCell ⟨g, i2, none⟩ u2).setCell ⟨g, i3, none⟩ u3).setCell ⟨g, i4, none⟩ u4).setCell ⟨g, i5, none⟩ u5).cell? a = r := ((cell_far (p := ⟨g, i5, none⟩) h u5).trans ((cell_far (p := ⟨g, i4, none⟩) h u4).trans ((cell_far (p := ⟨g, i3, none⟩) h u3).trans ((cell_far (p := ⟨g, i2, none⟩) h u2).trans ((cell_far (p := ⟨g, i1, none⟩) h u1).trans ((cell_far (p := ⟨g, i0, none⟩) h u0).trans k))))))
theorem bwA {w W : World} (h : Below w.heap.size w W := by repeat (first | (with_reducible first | exact HB.out | apply below_alloc | apply pw_below_drewN | apply below_drew1 | refine below_set ?_ (Aside0.out (by with_reducible assumption))) | exact HB.out)) : Below w.heap.size w W := h
theorem blkA {w : World} {g : Nat} {o : Obj} (h : w.heap[g]? = some o := by (with_reducible repeat (first | refine blk_drewN ?_ _ | refine blk_drew ?_ | refine blk_alloc ?_ _)); exact Aside0.out (by with_reducible assumption)) : w.heap[g]? = some o := h
section
variable {P : Program} {ops : Array Oper} {Q : Exit → Act → World → Prop}
theorem goesA {rest : List Oper} {oi : Oper} {a : Act} {w : World} (N : Option Tmp) {f : FuncId} {fn : Func} {ao : Array Operand} {ts : Array TypeId} (hf : P.funcs[f]? = some fn) (args : Array Value)
  (h : Calls P f args w fun e w' => ∃ v, e = .returned v ∧ wpList P ops Q rest (a.put N v) w') (hd : oi.dst = N := by rfl) (hg : oi.guard = none := by rfl) (hname : (fn.name == "runtime.NumGoroutine") = false := by kernel_rfl) (hb : fn.body.isSome = true := by rfl)
  (hop : oi.op = .call { callee := .value (.func f), args := ao, argTypes := ts } := by rfl) (hargs : ao.map a.eval = args := by (try simp only [List.map_toArray, List.map_cons, List.map_nil]); first | done | rfl | (simp only [List.length_drop, List.length_take]; rfl)) : wpList P ops Q (oi :: rest) a w :=
 goesL_ N hd hg hf hname hb args hop hargs h
end
/-- A row of bytes that is one's own, or a full one that is only read. -/
def HxR (W : World) (base : Nat) (ok : Nat → Prop) (v : Value) (xs : List Int) : Prop :=
 Kd.R (Kd.int .u8) 5 W base ok v xs ∨ ∃ g, v = .slice (some ⟨g, 0, none⟩) xs.length xs.length ∧ base ≤ g ∧ g < W.heap.size ∧ ok g ∧ ∀ j u, (nums .u8 xs)[j]? = some u → W.cell? ⟨g, j, none⟩ = some u
theorem HxR.below {W w1 : World} {base : Nat} {ok : Nat → Prop} {v : Value} {xs : List Int} (h : HxR W base ok v xs) (hb : Below W.heap.size W w1) : HxR w1 base ok v xs := by
 rcases h with h | ⟨g, h1, h2, h3, h4, h5⟩
 ·exact .inl (Kd.R_below h hb)
 ·exact .inr ⟨g, h1, h2, Nat.lt_of_lt_of_le h3 hb.size, h4, fun j u hj => (hb.cell (p := ⟨g, j, none⟩) h3).trans (h5 j u hj)⟩
theorem HxR.drew {W : World} {base : Nat} {ok : Nat → Prop} {v : Value} {xs : List Int} (h : HxR W base ok v xs) : HxR W.drew base ok v xs := h.below (below_drew (Below.refl _ _))
theorem HxR.drewN {W : World} {base : Nat} {ok : Nat → Prop} {v : Value} {xs : List Int} (h : HxR W base ok v xs) (m : Nat) : HxR (W.drewN m) base ok v xs := h.below (pw_below_drewN (Below.refl _ _) m)
theorem HxR.alloc {W : World} {base : Nat} {ok : Nat → Prop} {v : Value} {xs : List Int} (h : HxR W base ok v xs) (o : Obj) : HxR (W.alloc o) base ok v xs := h.below (below_alloc (Below.refl _ _) o)
theorem HxR.mono {W : World} {base : Nat} {ok ok' : Nat → Prop} {v : Value} {xs : List Int} (h : HxR W base ok v xs) (hk : ∀ k, ok k → ok' k) : HxR W base ok' v xs := by
 rcases h with h | ⟨g, h1, h2, h3, h4, h5⟩
 ·exact .inl (Kd.R_mono h hk)
 ·exact .inr ⟨g, h1, h2, h3, hk g h4, h5⟩
theorem HxR.lt {W : World} {base : Nat} {ok : Nat → Prop} {v : Value} {xs : List Int} (h : HxR W base ok v xs) : ∀ k, v.ownBlock = some k → k < W.heap.size := by
 rcases h with h | ⟨g, rfl, h2, h3, h4, h5⟩
 ·exact Kd.R_lt h
 ·intro k hk
  have : g = k := by simpa [Value.ownBlock] using hk
  omega
theorem HxR.elder' {W w1 : World} {base : Nat} {ok : Nat → Prop} {u v : Value} {xs : List Int} (h : HxR W base ok u xs) (hbase : ∀ k, v.ownBlock = some k → W.heap.size ≤ k) (hb : Below W.heap.size W w1) : HxR w1 base (fun k => ok k ∧ some k ≠ v.ownBlock) u xs := by
 rcases h with h | ⟨g, h1, h2, h3, h4, h5⟩
 ·exact .inl (Kd.R_elder' h hbase hb)
 ·exact .inr ⟨g, h1, h2, Nat.lt_of_lt_of_le h3 hb.size, ⟨h4, fun he => by have := hbase g he.symm; omega⟩, fun j u hj => (hb.cell (p := ⟨g, j, none⟩) h3).trans (h5 j u hj)⟩
theorem cells_of_C {W : World} {A : Option Addr} {m : Nat} {ys : List Int} (h : Kd.C (Kd.int .u8) W A m ys) (hm : 0 < m) : ∃ ad, A = some ad ∧ ys.length = m ∧ ∀ j u, (nums .u8 ys)[j]? = some u → W.cell? (ad.add j) = some u := by
 have hl : ys.length = m := h.1
 obtain ⟨ad, c, e, _, _, _⟩ := Kd.C_get h (0 : Int) 0 (by omega) (by omega)
 refine ⟨ad, e, hl, fun j u hj => ?_⟩
 have hjl : j < ys.length := by
  have := (List.getElem?_eq_some_iff.1 hj).1
  simpa [nums] using this
 obtain ⟨ad', c', e', hc1, hK, hcell⟩ := Kd.C_get h (0 : Int) (j : Int) (by omega) (by omega)
 obtain rfl : ad = ad' := Option.some.inj (e.symm.trans e')
 have hu : u = .int .u8 (ys.getD j 0) := by
  simp only [nums, List.getElem?_map, List.getElem?_eq_getElem hjl, Option.map_some, Option.some.injEq] at hj
  rw [← hj, List.getD_eq_getElem?_getD, List.getElem?_eq_getElem hjl]; rfl
 have hK' : c' = [.int .u8 (ys.getD (j : Int).toNat 0)] := hK
 have := hcell 0 u (by rw [hK', Int.toNat_natCast, hu]; rfl)
 rw [Int.toNat_natCast] at this
 have e1 : j * (Kd.int .u8).sz + 0 = j := by show j * 1 + 0 = j; omega
 rwa [e1] at this
theorem HxR.run_append {P : Program} {w0 W : World} {g : Nat} {xs ys : List Int} (t ty e : TypeId) (ht : P.underlying t = some (.slice e)) (hinfo : (P.info? e).map (fun i => (i.zero, i.size, i.bytes)) = some (some (.int .u8 0), 1, 1))
  (base : Nat) (ok : Nat → Prop) (h2 : base ≤ g) (h3 : g < W.heap.size) (h5 : ∀ j u, (nums .u8 xs)[j]? = some u → W.cell? ⟨g, j, none⟩ = some u)
  (ad : Addr) (c : Nat) (hm : 0 < ys.length) (hys : ∀ j u, (nums .u8 ys)[j]? = some u → W.cell? (ad.add j) = some u) (hfresh : ∀ k, W.heap.size ≤ k → ok k) (HB : Below base w0 W) (hbase : base ≤ W.heap.size) (hl : xs.length + ys.length ≤ 140737488355328) :
  ∃ v1 w1, (Builtin.append_ #[t, t] ty #[.slice (some ⟨g, 0, none⟩) xs.length xs.length, .slice (some ad) ys.length c]).run P W = .ok v1 w1 ∧ Kd.R (Kd.int .u8) e w1 base ok v1 (xs ++ ys) ∧ Below base w0 w1 ∧ W.grownBy w1 (some g) ∧ ∃ b, v1.ownBlock = some b ∧ W.heap.size ≤ b := by
 obtain ⟨i0, hi, hzz⟩ := Option.map_eq_some_iff.1 hinfo
 simp only [Prod.mk.injEq] at hzz
 obtain ⟨hz0, hz1, hz2⟩ := hzz
 obtain ⟨v1, w1, hr, hown, hg⟩ := run_append_arg_grows (P := P) W t ty e i0 (.int .u8 0) 1 1 ht hi hz0 hz1 hz2 rfl (by omega) ⟨g, 0, none⟩ xs.length xs.length (nums .u8 xs) (by simp [nums]) (fun j u hj => by
   have hadd : (⟨g, 0, none⟩ : Addr).add j = ⟨g, j, none⟩ := by unfold Addr.add; split <;> simp_all
   rw [hadd]; exact h5 j u hj) ad ys.length c (nums .u8 ys) (by simp [nums]) hys (by omega) (by simp only [maxLen]; omega) (by omega)
 obtain ⟨g', cap, rfl, hb', _⟩ := hown.form (by omega)
 have hg2 : W.grownBy w1 (some g) := ⟨hg.os, hg.tape, hg.output, hg.size, fun k hk _ => hg.block k hk (by simp)⟩
 refine ⟨_, w1, hr, ?_, HB.grown hg hbase (fun k hk => by cases hk), hg2, g', rfl, hb'⟩
 have hown2 : w1.ownsRow base e 1 (.slice (some ⟨g', 0, none⟩) (xs.length + ys.length) cap) (xs ++ ys).length (encs (Value.int .u8) (xs ++ ys)) := by
  have e1 : encs (Value.int .u8) (xs ++ ys) = nums .u8 xs ++ nums .u8 ys := by simp [encs, nums]
  rw [e1, List.length_append]
  exact own_weaken hown hbase
 refine Kd.R_of_own (h1 := fun _ => rfl) hown2 (fun k hk => hfresh k ?_)
 have : g' = k := by simpa [Value.ownBlock] using hk
 omega
section
variable {P : Program} {ops : Array Oper} {rest : List Oper} {o : Oper} {a : Act} {Q : Exit → Act → World → Prop} {Kc : Act → World → Prop}
theorem HxR.append_rows_step {w0 W : World} (base : Nat) (hw : Region.wanted o (yielded ops a.tmps) = true) (s x : Operand) (t : TypeId)
  (ho : o.op = .call { callee := .builtin .append, args := #[s, x], argTypes := #[t, t] })
  (ht : P.underlying t = some (.slice 5)) (hinfo : (P.info? 5).map (fun i => (i.zero, i.size, i.bytes)) = some (some (.int .u8 0), 1, 1))
  (v : Value) (xs ys : List Int) (A : Option Addr) (m c : Nat) (ok : Nat → Prop) (hs : a.eval s = v) (hx : a.eval x = .slice A m c)
  (HO : HxR W base ok v xs) (HR : Kd.C (Kd.int .u8) W A m ys) (hm : 0 < m) (hfresh : ∀ k, W.heap.size ≤ k → ok k)
  (HB : Below base w0 W) (hbase : base ≤ W.heap.size) (hl : (xs.length + m) * 1 ≤ 140737488355328)
  (h : ∀ v1 w1, Kd.R (Kd.int .u8) 5 w1 base ok v1 (xs ++ ys) → Below base w0 w1 → W.grownBy w1 v.ownBlock → (v1.ownBlock = v.ownBlock ∨ ∃ b, v1.ownBlock = some b ∧ W.heap.size ≤ b) → Kc (a.put o.dst v1) w1) :
  if Region.wanted o (yielded ops a.tmps) = true then Oper.wp P o a W Kc Q else Kc (a.put o.dst undef) W := by
 rcases HO with HO | ⟨g, rfl, h2, h3, h4, h5⟩
 ·exact Kd.R_append_rows_step (Kd.int .u8) base hw s x t 5 (.int .u8 0) 1 ho ht hinfo rfl (by decide) (by omega) v xs ys A m c ok (fun _ => False) hs hx HO HR (fun _ _ h => h) (fun _ h => h.elim) hfresh HB hbase hl h
 ·obtain ⟨ad, rfl, hyl, hys⟩ := cells_of_C HR hm
  subst hyl
  obtain ⟨v1, w1, hr, hR, hB, hG, hat⟩ := HxR.run_append (P := P) t o.type 5 ht hinfo base ok h2 h3 h5 ad c hm hys hfresh HB hbase (by omega)
  rw [if_pos hw]
  unfold Oper.wp execOp
  simp only [ho, resolve, invoke, builtin, Sem.run_bind, Sem.run_pure, Result.andThen_ok, List.map_toArray, List.map_cons, List.map_nil, hs, hx, hr]
  exact h v1 w1 hR hB hG (.inr hat)
theorem HxR.append_list {w0 W : World} (base : Nat) (hgd : o.guard = none) (s x : Operand) (t : TypeId)
  (ho : o.op = .call { callee := .builtin .append, args := #[s, x], argTypes := #[t, t] })
  (ht : P.underlying t = some (.slice 5)) (hinfo : (P.info? 5).map (fun i => (i.zero, i.size, i.bytes)) = some (some (.int .u8 0), 1, 1))
  (v : Value) (xs : List Int) (p : Int) (ok : Nat → Prop) (hs : a.eval s = v) (hx : a.eval x = .slice (some ⟨W.heap.size, 0, none⟩) 1 1)
  (HO : HxR W base ok v xs) (hfresh : ∀ k, W.heap.size ≤ k → ok k) (HB : Below base w0 W) (hbase : base ≤ W.heap.size) (hl : (xs.length + 1) * 1 ≤ 140737488355328)
  (h : ∀ v1 w1, Kd.R (Kd.int .u8) 5 w1 base ok v1 (xs ++ [p]) → Below base w0 w1 → wpList P ops Q rest (a.put o.dst v1) w1) :
  wpList P ops Q (o :: rest) a (W.alloc (.cells #[.int .u8 p] 5)) := by
 rcases HO with HO | ⟨g, rfl, h2, h3, h4, h5⟩
 ·exact Kd.R_append (Kd.int .u8) base hgd s x t 5 (.int .u8 0) 1 ho ht hinfo rfl (by decide) (by omega) v xs p [.int .u8 p] ok (fun _ => False) hs hx rfl (fun _ h => h.elim) hfresh HO HB hbase hl (fun v1 w1 h1 h2 _ _ => h v1 w1 h1 h2)
 ·have hz : (W.alloc (.cells #[.int .u8 p] 5)).heap.size = W.heap.size + 1 := by simp
  obtain ⟨v1, w1, hr, hR, hB, _, _⟩ := HxR.run_append (P := P) (W := W.alloc (.cells #[.int .u8 p] 5)) (xs := xs) (ys := [p]) t o.type 5 ht hinfo base ok h2 (by omega) (fun j u hj => by
    have := (below_alloc (Below.refl _ W) (.cells #[.int .u8 p] 5)).cell (p := ⟨g, j, none⟩) h3
    exact this.trans (h5 j u hj)) ⟨W.heap.size, 0, none⟩ 1 (by simp) (by
     have := World.news_of_block (cs := #[.int .u8 p]) (t := 5) (fr := (0, 0)) (heap_alloc_new W (.cells #[.int .u8 p] 5))
     exact this) (fun k hk => hfresh k (by omega)) (HB.alloc hbase _) (by omega) (by simp; omega)
  refine wpList_plain hgd fun _ hK => ?_
  unfold Oper.wp execOp
  have hr2 : (Builtin.append_ #[t, t] o.type #[.slice (some ⟨g, 0, none⟩) xs.length xs.length, .slice (some ⟨W.heap.size, 0, none⟩) 1 1]).run P (W.alloc (.cells #[.int .u8 p] 5)) = .ok v1 w1 := hr
  simp only [ho, resolve, invoke, builtin, Sem.run_bind, Sem.run_pure, Result.andThen_ok, List.map_toArray, List.map_cons, List.map_nil, hs, hx, hr2]
  exact hK _ _ (h v1 w1 hR hB)
end

/-- What the walks ask of memory: Go's own tables stand as their initialisers lay them. -/
structure Tabs (w : World) : Prop where
 u8 : Lib.Utf8Tabs 0 1 w
 tz : TabAt 6 Lib.deBruijn64tab w
 pow : Lib.TabIs Tryz.prog w "internal/strconv.uint64pow10" .u64 Lib.pow10Tab
theorem gPow : Tryz.prog.globalNamed "internal/strconv.uint64pow10" = some 2 := by kernel_rfl
theorem tabAt_lt {g : Nat} {l : List Nat} {w : World} (h : TabAt g l w) (hl : 0 < l.length) : g < w.heap.size := World.block_lt_of_cell? w _ (h 0 hl)
theorem tabAt_below {g : Nat} {l : List Nat} {w w1 : World} (h : TabAt g l w) (hb : Below w.heap.size w w1) : TabAt g l w1 := fun j hj => (hb.cell (p := ⟨g, j, none⟩) (World.block_lt_of_cell? w _ (h j hj))).trans (h j hj)
theorem pow_below {w w1 : World} (h : Lib.TabIs Tryz.prog w "internal/strconv.uint64pow10" .u64 Lib.pow10Tab) (hb : Below w.heap.size w w1) : Lib.TabIs Tryz.prog w1 "internal/strconv.uint64pow10" .u64 Lib.pow10Tab := by
 unfold Lib.TabIs World.var? at h ⊢
 rw [gPow] at h ⊢
 simp only [Option.bind_some] at h ⊢
 rcases Nat.lt_or_ge 2 w.heap.size with h' | h'
 ·rw [hb.block _ h']; exact h
 ·simp [Array.getElem?_eq_none h'] at h
theorem Tabs.below {w w1 : World} (h : Tabs w) (hb : Below w.heap.size w w1) : Tabs w1 where
 u8 := Utf8Tabs_below h.u8 hb
 tz := tabAt_below h.tz hb
 pow := pow_below h.pow hb
theorem below_of_drewN {w w1 : World} (h : ∃ n, w1 = w.drewN n) : Below w.heap.size w w1 := by
 obtain ⟨n, rfl⟩ := h
 exact pw_below_drewN (Below.refl _ _) n

def hexd (n : Int) : Int := if n < 10 then 48 + n else 87 + n
def hexStr (n : Int) : ByteArray := if n < 16 then strOfNums [hexd n] else strOfNums [hexd (n / 16), hexd (n % 16)]
def escB (c : Int) : ByteArray :=
 if c = 34 ∨ c = 92 then (⟨#[92]⟩ : ByteArray) ++ Utf8.encode c else if c = 10 then ⟨#[92, 110]⟩ else if c = 9 then ⟨#[92, 116]⟩ else if c = 13 then ⟨#[92, 114]⟩
 else if c < 32 ∨ c = 127 then (⟨#[92, 117, 123]⟩ : ByteArray) ++ hexStr c ++ (⟨#[125]⟩ : ByteArray) else Utf8.encode c
theorem hexStr_size (c : Int) : (hexStr c).size ≤ 2 := by
 unfold hexStr
 split <;> simp [strOfNums, ByteArray.size]
theorem encode_le4 (c : Int) : (Utf8.encode c).size ≤ 4 := encode_size_le c

theorem builderF_below {T e : TypeId} {B b : Nat} {bs : List Value} {w w1 : World} (h : Lib.IsBuilderF T e B b bs w) (hb : Below w.heap.size w w1) : Lib.IsBuilderF T e B b bs w1 := by
 have key : ∀ p, Lib.BuilderAtF T e B b p bs w → Lib.BuilderAtF T e B b p bs w1 := by
  rintro p ⟨hB, v, hbk, hown, hne⟩
  have hlt : b < w.heap.size := (Array.getElem?_eq_some_iff.1 hbk).1
  exact ⟨hB, v, (hb.block b hlt).trans hbk, hown.kept (grown_of_below hb none) (by cases v.ownBlock <;> simp), hne⟩
 exact h.elim (fun x => .inl (key _ x)) (fun x => .inr (key _ x))
theorem builderF_heap {T e : TypeId} {B b : Nat} {bs : List Value} {w w1 : World} (h : Lib.IsBuilderF T e B b bs w) (hb : w1.heap = w.heap) : Lib.IsBuilderF T e B b bs w1 := by
 have key : ∀ p, Lib.BuilderAtF T e B b p bs w → Lib.BuilderAtF T e B b p bs w1 := by
  rintro p ⟨hB, v, hbk, hown, hne⟩
  refine ⟨hB, v, by rw [hb]; exact hbk, ⟨hown.1, ?_⟩, hne⟩
  rw [hb]
  exact hown.2
 exact h.elim (fun x => .inl (key _ x)) (fun x => .inr (key _ x))
theorem heap_below {w w1 : World} {k : Nat} {o : Obj} (h : w.heap[k]? = some o) (hb : Below w.heap.size w w1) : w1.heap[k]? = some o :=
 (hb.block k (Array.getElem?_eq_some_iff.1 h).1).trans h
theorem toList_ne {t : ByteArray} (h : 0 < t.size) : ¬ (t.toList = []) := by
 intro e1
 have := data_length t
 rw [← ByteArray.toList_eq, e1] at this
 simp at this
 omega
theorem vput3 {w : World} {g : Nat} {T : TypeId} {x y z : Value} (h : w.heap[g]? = some (.cells #[x, y, z] T (0, 0))) (a b c : Value) :
  (((w.setCell ⟨g, 0, none⟩ a).setCell ⟨g, 1, none⟩ b).setCell ⟨g, 2, none⟩ c).heap[g]? = some (.cells #[a, b, c] T (0, 0)) :=
 blk_put (blk_put (blk_put h 0 a rfl) 1 b rfl) 2 c rfl
theorem bput3 {w W : World} {g B : Nat} (h : Below B w W) (hg : B ≤ g) (a b c : Value) : Below B w (((W.setCell ⟨g, 0, none⟩ a).setCell ⟨g, 1, none⟩ b).setCell ⟨g, 2, none⟩ c) :=
 ((h.setCell (p := ⟨g, 0, none⟩) hg a).setCell (p := ⟨g, 1, none⟩) hg b).setCell (p := ⟨g, 2, none⟩) hg c
theorem strCells_mk (s : ByteArray) : Lib.strCells s = Lib.byteCells s.data.toList := by
 simp [Lib.strCells, Lib.byteCells]

theorem info3 : (Tryz.prog.info? 3).map (fun i => (i.zero, i.size, i.bytes)) = some (some (.int .i64 0), 1, 8) := by kernel_rfl
theorem info5 : (Tryz.prog.info? 5).map (fun i => (i.zero, i.size, i.bytes)) = some (some (.int .u8 0), 1, 1) := by kernel_rfl
theorem info9 : (Tryz.prog.info? 9).map (fun i => (i.zero, i.size, i.bytes)) = some (some (.string ⟨#[]⟩), 1, 16) := by kernel_rfl
theorem info40 : (Tryz.prog.info? 40).map (fun i => (i.zero, i.size, i.bytes)) = some (some (.agg #[(.int .i64 0), (.int .i64 0), (.string ⟨#[]⟩)]), 3, 32) := by kernel_rfl
-- the values' own types
/-! #### struct type 23 -/
structure S23 where
 f0 : Int
 f1 : Int
 f2 : ByteArray
def z23 : S23 := ⟨(0 : Int), (0 : Int), (⟨#[]⟩ : ByteArray)⟩
def k23 : Kd S23 := Kd.iso (Kd.pair (Kd.int .i64) (Kd.pair (Kd.int .i64) Kd.string)) (fun x : S23 => (x.f0, x.f1, x.f2))
theorem k23_open {w : World} {x : S23} {cs : List Value} (h : k23.K w x cs) : cs = [.int .i64 x.f0, .int .i64 x.f1, .string x.f2] := by
 obtain ⟨_, _, rfl, rfl, ⟨_, _, rfl, rfl, rfl⟩⟩ := h
 exact rfl
theorem k23_openM {w : World} {base : Nat} {ok : Nat → Prop} {x : S23} {cs : List Value} (h : k23.M w base ok x cs) : cs = [.int .i64 x.f0, .int .i64 x.f1, .string x.f2] := by
 obtain ⟨_, _, rfl, rfl, ⟨_, _, rfl, rfl, rfl⟩⟩ := h
 exact rfl
theorem k23_mk (w : World) (x : S23)  : k23.K w x [.int .i64 x.f0, .int .i64 x.f1, .string x.f2] := ⟨[.int .i64 x.f0], [.int .i64 x.f1, .string x.f2], rfl, rfl, ⟨[.int .i64 x.f1], [.string x.f2], rfl, rfl, rfl⟩⟩
theorem k23_mkM (w : World) (base : Nat) (ok : Nat → Prop) (x : S23)  : k23.M w base ok x [.int .i64 x.f0, .int .i64 x.f1, .string x.f2] := ⟨[.int .i64 x.f0], [.int .i64 x.f1, .string x.f2], rfl, rfl, ⟨[.int .i64 x.f1], [.string x.f2], rfl, rfl, rfl⟩⟩
def rd_T23 (xs : List S23) (i : Int) : S23 := xs.getD i.toNat z23
theorem at_T23 {w : World} {A : Option Addr} {n : Nat} {xs : List S23} (h : Kd.C k23 w A n xs) (i : Int) (h0 : 0 ≤ i) (h1 : i < n) : ∃ ad , A = some ad ∧ w.cell? (ad.add (i.toNat * 3)) = some (.int .i64 (rd_T23 xs i).f0) ∧ w.cell? ⟨(ad.add (i.toNat * 3)).block, (ad.add (i.toNat * 3)).off + 1, none⟩ = some (.int .i64 (rd_T23 xs i).f1) ∧ w.cell? ⟨(ad.add (i.toNat * 3)).block, (ad.add (i.toNat * 3)).off + 2, none⟩ = some (.string (rd_T23 xs i).f2) := by
 obtain ⟨ad, c, e, _, hK, hc0⟩ := Kd.C_get h z23 i h0 h1
 have hc : ∀ j u, c[j]? = some u → w.cell? (ad.add (i.toNat * 3 + j)) = some u := hc0
 obtain rfl := k23_open hK
 exact ⟨ad, e, hc 0 _ rfl, by rw [← add_field _ _ 1 (by omega)]; exact hc 1 _ rfl, by rw [← add_field _ _ 2 (by omega)]; exact hc 2 _ rfl⟩

/-! #### struct type 40 -/
structure S40 where
 f0 : Int
 f1 : Int
 f2 : ByteArray
def z40 : S40 := ⟨(0 : Int), (0 : Int), (⟨#[]⟩ : ByteArray)⟩
def k40 : Kd S40 := Kd.iso (Kd.pair (Kd.int .i64) (Kd.pair (Kd.int .i64) Kd.string)) (fun x : S40 => (x.f0, x.f1, x.f2))
theorem k40_open {w : World} {x : S40} {cs : List Value} (h : k40.K w x cs) : cs = [.int .i64 x.f0, .int .i64 x.f1, .string x.f2] := by
 obtain ⟨_, _, rfl, rfl, ⟨_, _, rfl, rfl, rfl⟩⟩ := h
 exact rfl
theorem k40_openM {w : World} {base : Nat} {ok : Nat → Prop} {x : S40} {cs : List Value} (h : k40.M w base ok x cs) : cs = [.int .i64 x.f0, .int .i64 x.f1, .string x.f2] := by
 obtain ⟨_, _, rfl, rfl, ⟨_, _, rfl, rfl, rfl⟩⟩ := h
 exact rfl
theorem k40_mk (w : World) (x : S40)  : k40.K w x [.int .i64 x.f0, .int .i64 x.f1, .string x.f2] := ⟨[.int .i64 x.f0], [.int .i64 x.f1, .string x.f2], rfl, rfl, ⟨[.int .i64 x.f1], [.string x.f2], rfl, rfl, rfl⟩⟩
theorem k40_mkM (w : World) (base : Nat) (ok : Nat → Prop) (x : S40)  : k40.M w base ok x [.int .i64 x.f0, .int .i64 x.f1, .string x.f2] := ⟨[.int .i64 x.f0], [.int .i64 x.f1, .string x.f2], rfl, rfl, ⟨[.int .i64 x.f1], [.string x.f2], rfl, rfl, rfl⟩⟩
def rd_T40 (xs : List S40) (i : Int) : S40 := xs.getD i.toNat z40
theorem at_T40 {w : World} {A : Option Addr} {n : Nat} {xs : List S40} (h : Kd.C k40 w A n xs) (i : Int) (h0 : 0 ≤ i) (h1 : i < n) : ∃ ad , A = some ad ∧ w.cell? (ad.add (i.toNat * 3)) = some (.int .i64 (rd_T40 xs i).f0) ∧ w.cell? ⟨(ad.add (i.toNat * 3)).block, (ad.add (i.toNat * 3)).off + 1, none⟩ = some (.int .i64 (rd_T40 xs i).f1) ∧ w.cell? ⟨(ad.add (i.toNat * 3)).block, (ad.add (i.toNat * 3)).off + 2, none⟩ = some (.string (rd_T40 xs i).f2) := by
 obtain ⟨ad, c, e, _, hK, hc0⟩ := Kd.C_get h z40 i h0 h1
 have hc : ∀ j u, c[j]? = some u → w.cell? (ad.add (i.toNat * 3 + j)) = some u := hc0
 obtain rfl := k40_open hK
 exact ⟨ad, e, hc 0 _ rfl, by rw [← add_field _ _ 1 (by omega)]; exact hc 1 _ rfl, by rw [← add_field _ _ 2 (by omega)]; exact hc 2 _ rfl⟩

def rd_L7 (xs : List (List S40)) (i : Int) : (List S40) := xs.getD i.toNat ([] : List S40)
theorem at_L7 {w : World} {A : Option Addr} {n : Nat} {xs : List (List S40)} (h : Kd.C (Kd.slice 40 k40) w A n xs) (i : Int) (h0 : 0 ≤ i) (h1 : i < n) : ∃ ad A0 c0, A = some ad ∧ w.cell? (ad.add i.toNat) = some (.slice A0 (rd_L7 xs i).length c0) ∧ (rd_L7 xs i).length ≤ c0 ∧ k40.C w A0 (rd_L7 xs i).length (rd_L7 xs i) := by
 obtain ⟨ad, c, e, _, hK, hc0⟩ := Kd.C_get h ([] : List S40) i h0 h1
 have hc : ∀ j u, c[j]? = some u → w.cell? (ad.add (i.toNat * 1 + j)) = some u := hc0
 obtain ⟨A0, c0, rfl, l0, g0⟩ := hK
 exact ⟨ad, A0, c0, e, by have hq := hc 0 _ rfl; rwa [Nat.mul_one, Nat.add_zero] at hq, l0, g0⟩

end Go.Proofs.YtoajlmmkkcelgaaGreatDoor.A
