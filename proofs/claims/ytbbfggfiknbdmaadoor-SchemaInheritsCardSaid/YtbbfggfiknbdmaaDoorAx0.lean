-- By drv.py, the session's own driver round the kit's print: the machine's side of the laws, function by function. Not trusted: Lean checks it.
import Derived.Test.YtbbfggfiknbdmaaDoorProg
import Derived.Below
import Derived.Deep.Draws
import Derived.Deep.AppendLies
import Derived.Maps.AppendAt
import Derived.OwnWalk
import Derived.Laws.BytesArg
import Derived.Laws.MakeOwn
import Derived.Laws.OwnMore
import Derived.Deep.OwnRows
import Derived.Tactics
import Derived.Lib.ConvBytes
import Derived.Laws.Slices
import Derived.WalkKit
import Derived.KernelRfl
import Derived.RowKit3
import Derived.Deep.LoopGhost
import Derived.Deep.QuietTactic
import Derived.BigQuiet
import Derived.WideLaws
import Derived.Deep.DeepCutAuto
import Derived.Deep.CutBlock
import Derived.Deep.RegionHeld3
import Derived.Laws.Rows
import Derived.Lib.AppendStr
import Derived.ArgAppend
import Derived.Laws.IdiomCopy
import Derived.OrdersHeld
import Derived.Laws.BitsLemmas
import Derived.RowKit
import Derived.ArgAppend
import Derived.Lib.SlBytesConst
import Derived.Test.YtbbfggfiknbdmaaDoorShelf
import Derived.Lib.QuietBelow
import Derived.Lib.AppendIntMem
import Derived.Lib.AtoiErrMem
import Derived.BigCall
import Derived.Deep.RegionWith
import Derived.Lib.TrimU
import Derived.Laws.Cover1
import Derived.Laws.IdiomStrings
import Derived.Shelf.SlicesQ.IndexFunc
import Derived.Laws.Runes
import Derived.Laws.Cover4
import Derived.Test.YtbbfggfiknbdmaaDoorWWords
import Derived.Test.YtbbfggfiknbdmaaDoorWLast
import Derived.Test.YtbbfggfiknbdmaaDoorWTab
import Derived.Test.YtbbfggfiknbdmaaDoorWQPut
import Derived.Test.YtbbfggfiknbdmaaDoorWApart
import Derived.Test.YtbbfggfiknbdmaaDoorWArr
import Derived.Test.YtbbfggfiknbdmaaDoorWZeros
import Derived.Test.YtbbfggfiknbdmaaDoorWFoot
import Derived.Test.YtbbfggfiknbdmaaDoorWKept
import Derived.Test.YtbbfggfiknbdmaaDoorWShare
import Derived.Test.YtbbfggfiknbdmaaDoorWN
import Derived.Test.YtbbfggfiknbdmaaDoorWEqStruct
import Derived.Test.YtbbfggfiknbdmaaDoorWRepsOne
import Derived.Test.YtbbfggfiknbdmaaDoorWGuard
import Derived.Test.YtbbfggfiknbdmaaDoorWNEv
import Derived.Test.YtbbfggfiknbdmaaDoorWMore
namespace Go.Proofs.YtbbfggfiknbdmaaDoor.A
open Go.RowKit Go.Proofs.YtbbfggfiknbdmaaDoorW.PrintWords Go.Proofs.YtbbfggfiknbdmaaDoorW.PrintLast Go.Proofs.YtbbfggfiknbdmaaDoorW.PrintMore
attribute [local go_sem] max2_int min2_int max_two min_two max_three min_three max_four min_four   -- for this text's walks alone
set_option linter.unusedVariables false
set_option linter.unusedSimpArgs false



def errW : Option Int → Value
 | none => .nilIface
 | some c => .iface 0 (.int .i64 c)
theorem errW_none : errW none = .nilIface := rfl
theorem errW_some (c : Int) : errW (some c) = .iface 0 (.int .i64 c) := rfl

theorem far1 {w : World} {a : Addr} {g : Nat} {r : Option Value} {i0 : Nat} {u0 : Value} (h : a.block ≠ g) (k : w.cell? a = r) : (w.setCell ⟨g, i0, none⟩ u0).cell? a = r := ((cell_far (p := ⟨g, i0, none⟩) h u0).trans k)
theorem far2 {w : World} {a : Addr} {g : Nat} {r : Option Value} {i0 : Nat} {u0 : Value} {i1 : Nat} {u1 : Value} (h : a.block ≠ g) (k : w.cell? a = r) : ((w.setCell ⟨g, i0, none⟩ u0).setCell ⟨g, i1, none⟩ u1).cell? a = r := ((cell_far (p := ⟨g, i1, none⟩) h u1).trans ((cell_far (p := ⟨g, i0, none⟩) h u0).trans k))
theorem far3 {w : World} {a : Addr} {g : Nat} {r : Option Value} {i0 : Nat} {u0 : Value} {i1 : Nat} {u1 : Value} {i2 : Nat} {u2 : Value} (h : a.block ≠ g) (k : w.cell? a = r) : (((w.setCell ⟨g, i0, none⟩ u0).setCell ⟨g, i1, none⟩ u1).setCell ⟨g, i2, none⟩ u2).cell? a = r := ((cell_far (p := ⟨g, i2, none⟩) h u2).trans ((cell_far (p := ⟨g, i1, none⟩) h u1).trans ((cell_far (p := ⟨g, i0, none⟩) h u0).trans k)))
theorem far4 {w : World} {a : Addr} {g : Nat} {r : Option Value} {i0 : Nat} {u0 : Value} {i1 : Nat} {u1 : Value} {i2 : Nat} {u2 : Value} {i3 : Nat} {u3 : Value} (h : a.block ≠ g) (k : w.cell? a = r) : ((((w.setCell ⟨g, i0, none⟩ u0).setCell ⟨g, i1, none⟩ u1).setCell ⟨g, i2, none⟩ u2).setCell ⟨g, i3, none⟩ u3).cell? a = r := ((cell_far (p := ⟨g, i3, none⟩) h u3).trans ((cell_far (p := ⟨g, i2, none⟩) h u2).trans ((cell_far (p := ⟨g, i1, none⟩) h u1).trans ((cell_far (p := ⟨g, i0, none⟩) h u0).trans k))))
theorem far5 {w : World} {a : Addr} {g : Nat} {r : Option Value} {i0 : Nat} {u0 : Value} {i1 : Nat} {u1 : Value} {i2 : Nat} {u2 : Value} {i3 : Nat} {u3 : Value} {i4 : Nat} {u4 : Value} (h : a.block ≠ g) (k : w.cell? a = r) : (((((w.setCell ⟨g, i0, none⟩ u0).setCell ⟨g, i1, none⟩ u1).setCell ⟨g, i2, none⟩ u2).setCell ⟨g, i3, none⟩ u3).setCell ⟨g, i4, none⟩ u4).cell? a = r := ((cell_far (p := ⟨g, i4, none⟩) h u4).trans ((cell_far (p := ⟨g, i3, none⟩) h u3).trans ((cell_far (p := ⟨g, i2, none⟩) h u2).trans ((cell_far (p := ⟨g, i1, none⟩) h u1).trans ((cell_far (p := ⟨g, i0, none⟩) h u0).trans k)))))
theorem far6 {w : World} {a : Addr} {g : Nat} {r : Option Value} {i0 : Nat} {u0 : Value} {i1 : Nat} {u1 : Value} {i2 : Nat} {u2 : Value} {i3 : Nat} {u3 : Value} {i4 : Nat} {u4 : Value} {i5 : Nat} {u5 : Value} (h : a.block ≠ g) (k : w.cell? a = r) : ((((((w.setCell ⟨g, i0, none⟩ u0).setCell ⟨g, i1, none⟩ u1).setCell ⟨g, i2, none⟩ u2).setCell ⟨g, i3, none⟩ u3).setCell ⟨g, i4, none⟩ u4).setCell ⟨g, i5, none⟩ u5).cell? a = r := ((cell_far (p := ⟨g, i5, none⟩) h u5).trans ((cell_far (p := ⟨g, i4, none⟩) h u4).trans ((cell_far (p := ⟨g, i3, none⟩) h u3).trans ((cell_far (p := ⟨g, i2, none⟩) h u2).trans ((cell_far (p := ⟨g, i1, none⟩) h u1).trans ((cell_far (p := ⟨g, i0, none⟩) h u0).trans k))))))
theorem bwA {w W : World} (h : Below w.heap.size w W := by repeat (first | (with_reducible first | exact HB.out | apply below_alloc | apply pw_below_drewN | apply below_drew1 | refine below_set ?_ (Aside0.out (by with_reducible assumption))) | exact HB.out)) : Below w.heap.size w W := h
theorem blkA {w : World} {g : Nat} {o : Obj} (h : w.heap[g]? = some o := by (with_reducible repeat (first | refine blk_drewN ?_ _ | refine blk_drew ?_ | refine blk_alloc ?_ _)); exact Aside0.out (by with_reducible assumption)) : w.heap[g]? = some o := h
section
variable {P : Program} {ops : Array Oper} {Q : Exit → Act → World → Prop}
theorem goesA {rest : List Oper} {oi : Oper} {a : Act} {w : World} (N : Option Tmp) {f : FuncId} {fn : Func} {ao : Array Operand} {ts : Array TypeId} (hf : P.funcs[f]? = some fn) (args : Array Value)
    (h : Calls P f args w fun e w' => ∃ v, e = .returned v ∧ wpList P ops Q rest (a.put N v) w') (hd : oi.dst = N := by rfl) (hg : oi.guard = none := by rfl) (hname : (fn.name == "runtime.NumGoroutine") = false := by kernel_rfl) (hb : fn.body.isSome = true := by rfl)
    (hop : oi.op = .call { callee := .value (.func f), args := ao, argTypes := ts } := by rfl) (hargs : ao.map a.eval = args := by (try simp only [List.map_toArray, List.map_cons, List.map_nil]); first | done | rfl | (simp only [List.length_drop, List.length_take]; rfl)) : wpList P ops Q (oi :: rest) a w :=
  goesL_ N hd hg hf hname hb args hop hargs h
end
theorem endA {p : Prop} (h : p := by first | rfl | (rw [ne_nil_b]; (first | done | rfl)) | (simp [errW_none, errW_some] <;> rfl) | (simp [*, errW_none, errW_some] <;> rfl)) : p := h
theorem endS {p : Prop} (h : p := by first | rfl | (simp; done) | (simp [*]; done) | (simp [wrap64]; done)) : p := h
theorem drA {p : Prop} (h : p := by repeat (first | exact Drawn0.refl _ | apply Drawn0.step)) : p := h
theorem odA {p : Prop} [Decidable p] (h : decide p = true := by first | (with_reducible assumption) | assumption) : p := of_decide_eq_true h
theorem crA {w W : World} {p : Addr} {v : Value} (h : w.cell? p = some v) (hb : Below w.heap.size w W := by exact HB.out) : W.cell? p = some v := (hb.cell (World.block_lt_of_cell? w _ h)).trans h
def mkB (n b : Nat) : Array Bool := ((List.range n).map fun i => b.testBit i).toArray
section
variable {P : Program} {md : Region.Mode} {ops : Array Oper} {Q : Exit → Act → World → Prop} {S : World → Prop} {ds : List Nat}
theorem pureA {oi : Oper} {v : Value} {fuel : Nat} {l : Array Bool} {a a' : Act} {w : World} (i : Nat) (N : Option Tmp) (l' : Array Bool) (h : wpAnyLast P md ops Q S ds fuel l' a' w)
    (hi : ops[i]? = some oi := by rfl) (hN : oi.dst = N := by rfl) (hc : anyB md ops l l' i = true := by exact any_of HT_.out (by kernel_rfl)) (hQ : ∀ c a w, Q (.panic c) (a.put oi.dst v) w → Q (.panic c) a w := by exact fun _ _ _ h => h)
    (hy : Yields P ops oi v a := by refine Or.inl ⟨by rfl, ?_⟩; intro w'; go_simp; with_reducible rfl) (ha : a.put N v = a' := by simp only [Act.put, List.setIfInBounds_toArray, List.set_cons_zero, List.set_cons_succ, i64_w, i32_w]; rfl) : wpAnyLast P md ops Q S ds (fuel + 1) l a w := pure_ l' hi hN hc hQ hy ha h
theorem pureU {oi : Oper} {fuel : Nat} {l : Array Bool} {a a' : Act} {w : World} (i : Nat) (N : Option Tmp) (l' : Array Bool) (h : wpAnyLast P md ops Q S ds fuel l' a' w)
    (hi : ops[i]? = some oi := by rfl) (hN : oi.dst = N := by rfl) (hc : anyB md ops l l' i = true := by exact any_of HT_.out (by kernel_rfl)) (hQ : ∀ c a w, Q (.panic c) (a.put oi.dst undef) w → Q (.panic c) a w := by exact fun _ _ _ h => h)
    (hy : Yields P ops oi undef a := by exact Or.inr ⟨by rfl, rfl⟩) (ha : a.put N undef = a' := by simp only [Act.put, List.setIfInBounds_toArray, List.set_cons_zero, List.set_cons_succ, i64_w, i32_w]; rfl) : wpAnyLast P md ops Q S ds (fuel + 1) l a w := pure_ l' hi hN hc hQ hy ha h
theorem takeA {oi : Oper} {v : Value} {fuel : Nat} {l : Array Bool} {a a' : Act} {w : World} (i : Nat) (N : Option Tmp) (l' : Array Bool) (h : wpAnyLast P md ops Q S ds fuel l' a' w)
    (hi : ops[i]? = some oi) (hy : YieldsIf P ops S oi v a) (hN : oi.dst = N := by rfl) (hc : takeB md ops ds l l' i = true := by exact take_ofW HT_.out HW_.out (by kernel_rfl)) (hQ : ∀ c a w, Q (.panic c) (a.put oi.dst v) w → Q (.panic c) a w := by exact fun _ _ _ h => h)
    (hS : S w := by exact hHeld) (ha : a.put N v = a' := by simp only [Act.put, List.setIfInBounds_toArray, List.set_cons_zero, List.set_cons_succ, i64_w, i32_w]; rfl) : wpAnyLast P md ops Q S ds (fuel + 1) l a w := take_ l' hi hN hc hQ hy hS ha h
theorem oneA {oi : Oper} {fuel : Nat} {l : Array Bool} {a : Act} {w : World} (i : Nat) (N : Option Tmp) (l' : Array Bool)
    (h : ∀ K : Act → World → Prop, Shut (∀ a' w', S w' → (S w' → wpAnyLast P md ops Q S ds fuel l' a' w') → K a' w') → if Region.wanted oi (yielded ops a.tmps) = true then Oper.wp P oi a w K Q else K (a.put N undef) w)
    (hi : ops[i]? = some oi := by rfl) (hN : oi.dst = N := by rfl) (hc : readyB md ops l l' i = true := by exact one_of HT_.out (by kernel_rfl)) (hd : i ∉ ds := by decide) : wpAnyLast P md ops Q S ds (fuel + 1) l a w := one_ l' hi hN hc hd h
theorem normA {fuel : Nat} {l : Array Bool} {a a' : Act} {w : World} (h : wpAnyLast P md ops Q S ds fuel l a' w) (ha : a = a' := by (show Act.put _ _ _ = _); simp only [Act.put, List.setIfInBounds_toArray, List.set_cons_zero, List.set_cons_succ, i64_w, i32_w]; rfl) : wpAnyLast P md ops Q S ds fuel l a w := norm_ ha h
end
/-- What the walks ask of memory: Go's own tables stand as their initialisers lay them. -/
structure Tabs (w : World) : Prop where
 u8 : Lib.Utf8Tabs 0 1 w
 ml : ∃ m, w.cell? ⟨2, 0, none⟩ = some (.int .i64 m)
theorem ml_below {w w1 : World} (h : ∃ m, w.cell? ⟨2, 0, none⟩ = some (.int .i64 m)) (hb : Below w.heap.size w w1) : ∃ m, w1.cell? ⟨2, 0, none⟩ = some (.int .i64 m) := by
 obtain ⟨m, hm⟩ := h
 exact ⟨m, (hb.cell (p := ⟨2, 0, none⟩) (World.block_lt_of_cell? w _ hm)).trans hm⟩
theorem Tabs.below {w w1 : World} (h : Tabs w) (hb : Below w.heap.size w w1) : Tabs w1 where
 u8 := Utf8Tabs_below h.u8 hb
 ml := ml_below h.ml hb
theorem ne_nil_b (l : List UInt8) : (l != ([] : List UInt8)) = !l.isEmpty := by cases l <;> rfl
theorem below_of_drewN {w w1 : World} (h : ∃ n, w1 = w.drewN n) : Below w.heap.size w w1 := by
 obtain ⟨n, rfl⟩ := h
 exact pw_below_drewN (Below.refl _ _) n
theorem Kd.C_addr {α : Type} {d : Kd α} {w : World} {A : Option Addr} {n : Nat} {xs : List α} (h : d.C w A n xs) (hn : 0 < n) (hd : 0 < d.sz) : ∃ b o, A = some ⟨b, o, none⟩ ∧ b < w.heap.size ∧ ∀ (j : Nat) (p : α), xs[j]? = some p → ∃ cs : List Value, cs.length = d.sz ∧ d.K w p cs ∧ ∀ (i : Nat) (u : Value), cs[i]? = some u → w.cell? ⟨b, o + j * d.sz + i, none⟩ = some u := by
 obtain ⟨⟨b, o, s⟩, rfl, hc⟩ := h.2.2 hn
 have hl : 0 < xs.length := by have := h.1; omega
 obtain ⟨cs, c1, c2, c3⟩ := hc 0 xs[0] (List.getElem?_eq_getElem hl)
 have h0 := c3 0 (cs[0]'(by omega)) (List.getElem?_eq_getElem (by omega))
 rw [Nat.zero_mul, Nat.add_zero, show (⟨b, o, s⟩ : Addr).add 0 = ⟨b, o, s⟩ from rfl] at h0
 have hs : s = none := by
  cases s with
  | none => rfl
  | some x =>
   unfold World.cell? at h0
   cases hb : w.heap[b]? with
   | none => rw [hb] at h0; cases h0
   | some q => rw [hb] at h0; cases q <;> simp at h0
 subst hs
 have hb : b < w.heap.size := World.block_lt_of_cell? w _ h0
 refine ⟨b, o, rfl, hb, fun j p hj => ?_⟩
 obtain ⟨cs, c1, c2, c3⟩ := hc j p hj
 refine ⟨cs, c1, c2, fun i u hu => ?_⟩
 have := c3 i u hu
 rw [← this]
 congr 1
 unfold Addr.add
 split
 ·rename_i e; rw [show o + j * d.sz + i = o by omega]
 ·rw [Nat.add_assoc]

theorem own_runes {P : Program} {w : World} {base n : Nat} {e' src dst e : TypeId} {v : Value} {xs : List Int} (hs : P.underlying src = some (.slice e)) (he : P.underlying e = some (.int .i32)) (hd : P.underlying dst = some .string)
  (h : w.ownsRow base e' 1 v n (nums .i32 xs)) : (convert src dst v).run P w = .ok (.string (runesBytes xs)) w := by
 have hl : xs.length = n := by have := h.1; simp [nums] at this; exact this
 rcases h.2 with ⟨rfl, rfl⟩ | ⟨g, cap, cur, rfl, _⟩
 ·obtain rfl : xs = [] := List.eq_nil_of_length_eq_zero hl
  exact run_convert_runes_nil w src dst e 0 0 hs he hd
 ·have := run_convert_runes w src dst e ⟨g, 0, none⟩ n cap xs (by omega) hs he hd (fun j hj => by
   have hc := h.cells (g := g) rfl j (.int .i32 (xs.getD j 0)) (by simp [nums, List.getElem?_eq_getElem (show j < xs.length by omega), List.getD_eq_getElem?_getD])
   exact hc)
  rwa [List.take_of_length_le (by omega)] at this

def runesI (s : ByteArray) : Nat → Nat → List Int
 | 0, _ => []
 | b + 1, i => if i < s.size then ((Utf8.decode s i).1 : Int) :: runesI s b (i + (Utf8.decode s i).2) else []
theorem runesI_conv (s : ByteArray) : ∀ (b i : Nat) (acc : Array Value), Conv.runesFrom s b i acc = acc ++ ((runesI s b i).map (Value.int .i32)).toArray
 | 0, i, acc => by simp [Conv.runesFrom, runesI]
 | b + 1, i, acc => by
  rw [Conv.runesFrom, runesI]
  by_cases h : i < s.size
  ·rw [if_pos h, if_pos h]
   show Conv.runesFrom s b (i + (Utf8.decode s i).2) (acc.push (.int .i32 (Int.ofNat (Utf8.decode s i).1))) = _
   rw [runesI_conv s b]
   simp
  ·rw [if_neg h, if_neg h]; simp
theorem runesI_len (s : ByteArray) : ∀ (b i : Nat), (runesI s b i).length ≤ b
 | 0, i => Nat.le_refl _
 | b + 1, i => by
  rw [runesI]
  split
  ·rw [List.length_cons]; exact Nat.succ_le_succ (runesI_len s b _)
  ·exact Nat.zero_le _
theorem run_runes {P : Program} (src dst e : TypeId) (s : ByteArray) (hs : P.underlying src = some .string) (hd : P.underlying dst = some (.slice e)) (he : P.underlying e = some (.int .i32)) (hz : s.size ≤ 1099511627776) :
  ∃ (cap : World → Nat) (cells : World → Array Value), (∀ W, (convert src dst (.string s)).run P W = .ok (.slice (some ⟨W.heap.size, 0, none⟩) (runesI s s.size 0).length (cap W)) (W.drew.alloc (.cells (cells W) e))) ∧
   ∀ W, (runesI s s.size 0).length ≤ cap W ∧ Kd.C (Kd.int .i32) (W.drew.alloc (.cells (cells W) e)) (some ⟨W.heap.size, 0, none⟩) (runesI s s.size 0).length (runesI s s.size 0) := by
 have hl := runesI_len s s.size 0
 have e0 : Conv.runesFrom s s.size 0 #[] = ((runesI s s.size 0).map (Value.int .i32)).toArray := by rw [runesI_conv]; simp
 have hn : (Conv.runesFrom s s.size 0 #[]).size = (runesI s s.size 0).length := by rw [e0]; simp
 refine ⟨fun W => grownCap W (Conv.runesFrom s s.size 0 #[]).size 0 e, fun W => Conv.runesFrom s s.size 0 #[] ++ Array.replicate (grownCap W (Conv.runesFrom s s.size 0 #[]).size 0 e - (Conv.runesFrom s s.size 0 #[]).size) (.int .i32 0), fun W => ?_, fun W => ⟨?_, ?_⟩⟩
 ·rw [run_runes_of_string W src dst e s hs hd he (by rw [hn]; omega), hn]
 ·rw [← hn]; exact grownCap_ge W _ 0 e
 ·refine ⟨rfl, by omega, fun _ => ⟨_, rfl, fun j p hj => ⟨[.int .i32 p], rfl, rfl, fun i u hu => ?_⟩⟩⟩
  obtain ⟨rfl, rfl⟩ : i = 0 ∧ Value.int .i32 p = u := by
   match i, hu with
   | 0, hu => exact ⟨rfl, Option.some.inj hu⟩
  have hjl := (List.getElem?_eq_some_iff.1 hj).1
  rw [Addr.add_lit]
  refine (Lib.cell_of_heap (heap_alloc_new W.drew _) _).trans ?_
  show (Conv.runesFrom s s.size 0 #[] ++ _)[0 + (j * 1 + 0)]? = _
  rw [show 0 + (j * 1 + 0) = j by omega, Array.getElem?_append_left (by rw [hn]; exact hjl), e0]
  simp [hj]

/-- Where the first element stands of which p holds; -1: none. -/
def idxK {α : Type} (p : α → Option Bool) : List α → Nat → Option Int
 | [], _ => some (-1)
 | x :: xs, i => (p x).bind fun b => if b = true then some (i : Int) else idxK p xs (i + 1)
theorem idxK_in {α : Type} (p : α → Option Bool) : ∀ (xs : List α) (i : Nat) (r : Int), idxK p xs i = some r → r = -1 ∨ ((i : Int) ≤ r ∧ r < (i + xs.length : Nat))
 | [], i, r, h => .inl (Option.some.inj h).symm
 | x :: xs, i, r, h => by
  rw [idxK] at h
  obtain ⟨b, _, h⟩ := Option.bind_eq_some_iff.1 h
  cases b with
  | true =>
   rw [if_pos rfl] at h
   obtain rfl := Option.some.inj h
   exact .inr ⟨Int.le_refl _, by rw [List.length_cons]; omega⟩
  | false =>
   rw [if_neg (by decide)] at h
   rcases idxK_in p xs (i + 1) r h with h | h
   ·exact .inl h
   ·exact .inr ⟨by omega, by rw [List.length_cons]; omega⟩


set_option maxHeartbeats 4000000 in
theorem idxField {α : Type} [Inhabited α] (d : Kd α) (hd : 0 < d.sz) (zE : ∀ w, (Go.sizeOf 35).run Tryd.prog w = .ok d.sz w) (p : α → Option Bool) (g : Nat) (lb : Array Value) (eg : ∀ args w, (callFunc g args).run Tryd.prog w = .ok (.enter g args) w) (A : Option Addr) (n c : Nat) (zs : List α) (r : Int) (w : World)
  (hp : ∀ (W : World) (x : α) (cs : List Value) (b : Bool), p x = some b → Below w.heap.size w W → d.K W x cs → Calls Tryd.prog g (#[.agg cs.toArray] ++ lb) W fun e w' => e = .returned (.bool b) ∧ Below w.heap.size w w')
  (hC : d.C w A n zs) (hr : idxK p zs 0 = some r) :
  Calls Tryd.prog 30 #[.slice A n c, .func (.func g) #[] lb] w fun e w' => e = .returned (.int .i64 r) ∧ Below w.heap.size w w' := by
 have hz := hC.1
 have hbig := hC.2.1
 rcases Nat.eq_zero_or_pos n with h0 | hn
 ·subst h0
  obtain rfl : zs = [] := List.eq_nil_of_length_eq_zero hz
  obtain rfl : (-1 : Int) = r := Option.some.inj hr
  clear hp hC hz hbig hr zE
  go_enter Tryd.func30, Tryd.ntmps30
  go_wp2
  go_loopg [5, 8] 0 (fun _ _ s8 wr => s8 = .int .i64 0 ∧ wr = w)
  case atStart => exact ⟨rfl, rfl⟩
  case round =>
   obtain ⟨rfl, rfl⟩ := hrel
   go_wp2
   go_ret
   exact ⟨rfl, Below.refl _ _⟩
 obtain ⟨b, off, rfl, hb, hc⟩ := Kd.C_addr hC hn hd
 have hrow : ∀ j, j < n → ∃ cs : List Value, (∀ W : World, Below w.heap.size w W → d.K W zs[j]! cs) ∧ ∀ W : World, Below w.heap.size w W → Sem.run Tryd.prog (loadCellsFrom ⟨b, off + j * d.sz, none⟩ 0 d.sz #[]) W = .ok cs.toArray W := fun j hj => by
  have hjz : j < zs.length := by omega
  obtain ⟨cs, c1, c2, c3⟩ := hc j zs[j] (List.getElem?_eq_getElem hjz)
  refine ⟨cs, fun W hW => ?_, fun W hW => run_loadCellsFrom_list _ _ _ cs d.sz c1 (fun i v hi => ?_)⟩
  ·rw [getElem!_pos zs j hjz]; exact d.K_below hW c2
  ·rw [Addr.add_lit, hW.cell (p := ⟨b, off + j * d.sz + i, none⟩) hb]
   exact c3 i v hi
 clear hc hC
 have HR := Aside0.mk hr
 have HZ := Aside0.mk hz
 clear hr hz
 go_enter Tryd.func30, Tryd.ntmps30
 go_wp2
 go_loopg [5, 8] n (fun gg _ s8 wr => ∃ kk : Nat, kk ≤ n ∧ n - kk ≤ gg ∧ s8 = .int .i64 kk ∧ Aside (Below w.heap.size w wr) ∧ Aside (idxK p (zs.drop kk) kk = some r))
 case atStart => exact ⟨0, Nat.zero_le _, by omega, rfl, Below.refl _ w, by have := HR.out; exact this⟩
 case round =>
  obtain ⟨kk, hkk, hg, rfl, BW, A⟩ := hrel
  have hz := HZ.out
  by_cases hlt : kk < n
  ·have hltz : (kk : Int) < (n : Int) := by omega
   have hjz : kk < zs.length := by omega
   obtain ⟨cs, k1, k2⟩ := hrow kk hlt
   have l2 := k2 wr BW.out
   have hA := A.out
   rw [List.drop_eq_getElem_cons hjz, idxK] at hA
   have hKy : d.K wr zs[kk] cs := by have := k1 wr BW.out; rwa [getElem!_pos zs kk hjz] at this
   generalize zs[kk] = y at hA hKy
   obtain ⟨q, hq, hA⟩ := Option.bind_eq_some_iff.1 hA
   have hcall := hp wr y cs q hq BW.out hKy
   clear hrow hp k1 k2 hz hjz hq hKy
   cases q with
   | true =>
    rw [if_pos rfl] at hA
    obtain rfl := Option.some.inj hA
    go_wp2_with (go_at_fn g; refine hcall.mono ?_; rintro e w' ⟨rfl, hb'⟩)
    go_ret
    exact ⟨rfl, hb'⟩
   | false =>
    rw [if_neg (by decide)] at hA
    have HA := Aside0.mk hA
    clear hA A
    go_wp2_with (go_at_fn g; refine hcall.mono ?_; rintro e w' ⟨rfl, hb'⟩)
    go_roundg (n - (kk + 1))
    case measure => omega
    case rel => exact ⟨kk + 1, by omega, by omega, by go_num, hb', HA.out⟩
  ·have hltz : ¬ (kk : Int) < (n : Int) := by omega
   have : kk = n := by omega
   subst this
   have hA := A.out
   rw [List.drop_of_length_le (by omega), idxK] at hA
   obtain rfl := Option.some.inj hA
   clear hA A hz
   go_wp2
   go_ret
   exact ⟨rfl, BW.out⟩

set_option maxHeartbeats 4000000 in
theorem hasField {α : Type} [Inhabited α] (d : Kd α) (hd : 0 < d.sz) (zE : ∀ w, (Go.sizeOf 35).run Tryd.prog w = .ok d.sz w) (p : α → Option Bool) (g : Nat) (lb : Array Value) (eg : ∀ args w, (callFunc g args).run Tryd.prog w = .ok (.enter g args) w) (A : Option Addr) (n c : Nat) (zs : List α) (r : Int) (w : World)
  (hp : ∀ (W : World) (x : α) (cs : List Value) (b : Bool), p x = some b → Below w.heap.size w W → d.K W x cs → Calls Tryd.prog g (#[.agg cs.toArray] ++ lb) W fun e w' => e = .returned (.bool b) ∧ Below w.heap.size w w')
  (hC : d.C w A n zs) (hr : idxK p zs 0 = some r) :
  Calls Tryd.prog 19 #[.slice A n c, .func (.func g) #[] lb] w fun e w' => e = .returned (.bool (decide (0 ≤ r))) ∧ Below w.heap.size w w' := by
 have hcon := idxField d hd zE p g lb eg A n c zs r w hp hC hr
 clear hp hC hr zE
 go_enter Tryd.func19, Tryd.ntmps19
 go_wp2_with (go_at_call 30; refine hcon.mono ?_; rintro e w' ⟨rfl, hb'⟩)
 go_ret
 exact ⟨rfl, hb'⟩


set_option maxHeartbeats 4000000 in
theorem idxAttr {α : Type} [Inhabited α] (d : Kd α) (hd : 0 < d.sz) (zE : ∀ w, (Go.sizeOf 41).run Tryd.prog w = .ok d.sz w) (p : α → Option Bool) (g : Nat) (lb : Array Value) (eg : ∀ args w, (callFunc g args).run Tryd.prog w = .ok (.enter g args) w) (A : Option Addr) (n c : Nat) (zs : List α) (r : Int) (w : World)
  (hp : ∀ (W : World) (x : α) (cs : List Value) (b : Bool), p x = some b → Below w.heap.size w W → d.K W x cs → Calls Tryd.prog g (#[.agg cs.toArray] ++ lb) W fun e w' => e = .returned (.bool b) ∧ Below w.heap.size w w')
  (hC : d.C w A n zs) (hr : idxK p zs 0 = some r) :
  Calls Tryd.prog 40 #[.slice A n c, .func (.func g) #[] lb] w fun e w' => e = .returned (.int .i64 r) ∧ Below w.heap.size w w' := by
 have hz := hC.1
 have hbig := hC.2.1
 rcases Nat.eq_zero_or_pos n with h0 | hn
 ·subst h0
  obtain rfl : zs = [] := List.eq_nil_of_length_eq_zero hz
  obtain rfl : (-1 : Int) = r := Option.some.inj hr
  clear hp hC hz hbig hr zE
  go_enter Tryd.func40, Tryd.ntmps40
  go_wp2
  go_loopg [5, 8] 0 (fun _ _ s8 wr => s8 = .int .i64 0 ∧ wr = w)
  case atStart => exact ⟨rfl, rfl⟩
  case round =>
   obtain ⟨rfl, rfl⟩ := hrel
   go_wp2
   go_ret
   exact ⟨rfl, Below.refl _ _⟩
 obtain ⟨b, off, rfl, hb, hc⟩ := Kd.C_addr hC hn hd
 have hrow : ∀ j, j < n → ∃ cs : List Value, (∀ W : World, Below w.heap.size w W → d.K W zs[j]! cs) ∧ ∀ W : World, Below w.heap.size w W → Sem.run Tryd.prog (loadCellsFrom ⟨b, off + j * d.sz, none⟩ 0 d.sz #[]) W = .ok cs.toArray W := fun j hj => by
  have hjz : j < zs.length := by omega
  obtain ⟨cs, c1, c2, c3⟩ := hc j zs[j] (List.getElem?_eq_getElem hjz)
  refine ⟨cs, fun W hW => ?_, fun W hW => run_loadCellsFrom_list _ _ _ cs d.sz c1 (fun i v hi => ?_)⟩
  ·rw [getElem!_pos zs j hjz]; exact d.K_below hW c2
  ·rw [Addr.add_lit, hW.cell (p := ⟨b, off + j * d.sz + i, none⟩) hb]
   exact c3 i v hi
 clear hc hC
 have HR := Aside0.mk hr
 have HZ := Aside0.mk hz
 clear hr hz
 go_enter Tryd.func40, Tryd.ntmps40
 go_wp2
 go_loopg [5, 8] n (fun gg _ s8 wr => ∃ kk : Nat, kk ≤ n ∧ n - kk ≤ gg ∧ s8 = .int .i64 kk ∧ Aside (Below w.heap.size w wr) ∧ Aside (idxK p (zs.drop kk) kk = some r))
 case atStart => exact ⟨0, Nat.zero_le _, by omega, rfl, Below.refl _ w, by have := HR.out; exact this⟩
 case round =>
  obtain ⟨kk, hkk, hg, rfl, BW, A⟩ := hrel
  have hz := HZ.out
  by_cases hlt : kk < n
  ·have hltz : (kk : Int) < (n : Int) := by omega
   have hjz : kk < zs.length := by omega
   obtain ⟨cs, k1, k2⟩ := hrow kk hlt
   have l2 := k2 wr BW.out
   have hA := A.out
   rw [List.drop_eq_getElem_cons hjz, idxK] at hA
   have hKy : d.K wr zs[kk] cs := by have := k1 wr BW.out; rwa [getElem!_pos zs kk hjz] at this
   generalize zs[kk] = y at hA hKy
   obtain ⟨q, hq, hA⟩ := Option.bind_eq_some_iff.1 hA
   have hcall := hp wr y cs q hq BW.out hKy
   clear hrow hp k1 k2 hz hjz hq hKy
   cases q with
   | true =>
    rw [if_pos rfl] at hA
    obtain rfl := Option.some.inj hA
    go_wp2_with (go_at_fn g; refine hcall.mono ?_; rintro e w' ⟨rfl, hb'⟩)
    go_ret
    exact ⟨rfl, hb'⟩
   | false =>
    rw [if_neg (by decide)] at hA
    have HA := Aside0.mk hA
    clear hA A
    go_wp2_with (go_at_fn g; refine hcall.mono ?_; rintro e w' ⟨rfl, hb'⟩)
    go_roundg (n - (kk + 1))
    case measure => omega
    case rel => exact ⟨kk + 1, by omega, by omega, by go_num, hb', HA.out⟩
  ·have hltz : ¬ (kk : Int) < (n : Int) := by omega
   have : kk = n := by omega
   subst this
   have hA := A.out
   rw [List.drop_of_length_le (by omega), idxK] at hA
   obtain rfl := Option.some.inj hA
   clear hA A hz
   go_wp2
   go_ret
   exact ⟨rfl, BW.out⟩

theorem builderF_below {T e : TypeId} {B b : Nat} {bs : List Value} {w w1 : World} (h : Lib.IsBuilderF T e B b bs w) (hb : Below w.heap.size w w1) : Lib.IsBuilderF T e B b bs w1 := by
 have key : ∀ p, Lib.BuilderAtF T e B b p bs w → Lib.BuilderAtF T e B b p bs w1 := by
  rintro p ⟨hB, v, hbk, hown, hne⟩
  have hlt : b < w.heap.size := (Array.getElem?_eq_some_iff.1 hbk).1
  exact ⟨hB, v, (hb.block b hlt).trans hbk, hown.kept (grown_of_below hb none) (by cases v.ownBlock <;> simp), hne⟩
 exact h.elim (fun x => .inl (key _ x)) (fun x => .inr (key _ x))
theorem builderF_heap {T e : TypeId} {B b : Nat} {bs : List Value} {w w1 : World} (h : Lib.IsBuilderF T e B b bs w) (hb : w1.heap = w.heap) : Lib.IsBuilderF T e B b bs w1 := by
 have key : ∀ p, Lib.BuilderAtF T e B b p bs w → Lib.BuilderAtF T e B b p bs w1 := by
  rintro p ⟨hB, v, hbk, hown, hne⟩
  refine ⟨hB, v, by rw [hb]; exact hbk, ⟨hown.1, ?_⟩, hne⟩
  rw [hb]
  exact hown.2
 exact h.elim (fun x => .inl (key _ x)) (fun x => .inr (key _ x))
theorem heap_below {w w1 : World} {k : Nat} {o : Obj} (h : w.heap[k]? = some o) (hb : Below w.heap.size w w1) : w1.heap[k]? = some o :=
 (hb.block k (Array.getElem?_eq_some_iff.1 h).1).trans h
theorem toList_ne {t : ByteArray} (h : 0 < t.size) : ¬ (t.toList = []) := by
 intro e1
 have := data_length t
 rw [← ByteArray.toList_eq, e1] at this
 simp at this
 omega
theorem vput3 {w : World} {g : Nat} {T : TypeId} {x y z : Value} (h : w.heap[g]? = some (.cells #[x, y, z] T (0, 0))) (a b c : Value) :
  (((w.setCell ⟨g, 0, none⟩ a).setCell ⟨g, 1, none⟩ b).setCell ⟨g, 2, none⟩ c).heap[g]? = some (.cells #[a, b, c] T (0, 0)) :=
 blk_put (blk_put (blk_put h 0 a rfl) 1 b rfl) 2 c rfl
theorem bput3 {w W : World} {g B : Nat} (h : Below B w W) (hg : B ≤ g) (a b c : Value) : Below B w (((W.setCell ⟨g, 0, none⟩ a).setCell ⟨g, 1, none⟩ b).setCell ⟨g, 2, none⟩ c) :=
 ((h.setCell (p := ⟨g, 0, none⟩) hg a).setCell (p := ⟨g, 1, none⟩) hg b).setCell (p := ⟨g, 2, none⟩) hg c
theorem strCells_mk (s : ByteArray) : Lib.strCells s = Lib.byteCells s.data.toList := by
 simp [Lib.strCells, Lib.byteCells]

theorem info9 : (Tryd.prog.info? 9).map (fun i => (i.zero, i.size, i.bytes)) = some (some (.string ⟨#[]⟩), 1, 16) := by kernel_rfl
theorem info35 : (Tryd.prog.info? 35).map (fun i => (i.zero, i.size, i.bytes)) = some (some (.agg #[(.string ⟨#[]⟩), (.int .i64 0), (.bool false)]), 3, 32) := by kernel_rfl
theorem info41 : (Tryd.prog.info? 41).map (fun i => (i.zero, i.size, i.bytes)) = some (some (.agg #[(.string ⟨#[]⟩), (.int .i64 0), (.int .i64 0), (.string ⟨#[]⟩)]), 4, 48) := by kernel_rfl
theorem info49 : (Tryd.prog.info? 49).map (fun i => (i.zero, i.size, i.bytes)) = some (some (.agg #[(.string ⟨#[]⟩), (.int .i64 0), (.bool false)]), 3, 32) := by kernel_rfl
-- the values' own types
/-! #### struct type 35 -/
structure S35 where
 f0 : ByteArray
 f1 : Int
 f2 : Bool
def z35 : S35 := ⟨(⟨#[]⟩ : ByteArray), (0 : Int), false⟩
def k35 : Kd S35 := Kd.iso (Kd.pair Kd.string (Kd.pair (Kd.int .i64) Kd.bool)) (fun x : S35 => (x.f0, x.f1, x.f2))
theorem k35_open {w : World} {x : S35} {cs : List Value} (h : k35.K w x cs) : cs = [.string x.f0, .int .i64 x.f1, .bool x.f2] := by
 obtain ⟨_, _, rfl, rfl, ⟨_, _, rfl, rfl, rfl⟩⟩ := h
 exact rfl
theorem k35_openM {w : World} {base : Nat} {ok : Nat → Prop} {x : S35} {cs : List Value} (h : k35.M w base ok x cs) : cs = [.string x.f0, .int .i64 x.f1, .bool x.f2] := by
 obtain ⟨_, _, rfl, rfl, ⟨_, _, rfl, rfl, rfl⟩⟩ := h
 exact rfl
theorem k35_mk (w : World) (x : S35)  : k35.K w x [.string x.f0, .int .i64 x.f1, .bool x.f2] := ⟨[.string x.f0], [.int .i64 x.f1, .bool x.f2], rfl, rfl, ⟨[.int .i64 x.f1], [.bool x.f2], rfl, rfl, rfl⟩⟩
theorem k35_mkM (w : World) (base : Nat) (ok : Nat → Prop) (x : S35)  : k35.M w base ok x [.string x.f0, .int .i64 x.f1, .bool x.f2] := ⟨[.string x.f0], [.int .i64 x.f1, .bool x.f2], rfl, rfl, ⟨[.int .i64 x.f1], [.bool x.f2], rfl, rfl, rfl⟩⟩
def rd_T35 (xs : List S35) (i : Int) : S35 := xs.getD i.toNat z35
theorem at_T35 {w : World} {A : Option Addr} {n : Nat} {xs : List S35} (h : Kd.C k35 w A n xs) (i : Int) (h0 : 0 ≤ i) (h1 : i < n) : ∃ ad , A = some ad ∧ w.cell? (ad.add (i.toNat * 3)) = some (.string (rd_T35 xs i).f0) ∧ w.cell? ⟨(ad.add (i.toNat * 3)).block, (ad.add (i.toNat * 3)).off + 1, none⟩ = some (.int .i64 (rd_T35 xs i).f1) ∧ w.cell? ⟨(ad.add (i.toNat * 3)).block, (ad.add (i.toNat * 3)).off + 2, none⟩ = some (.bool (rd_T35 xs i).f2) := by
 obtain ⟨ad, c, e, _, hK, hc0⟩ := Kd.C_get h z35 i h0 h1
 have hc : ∀ j u, c[j]? = some u → w.cell? (ad.add (i.toNat * 3 + j)) = some u := hc0
 obtain rfl := k35_open hK
 exact ⟨ad, e, hc 0 _ rfl, by rw [← add_field _ _ 1 (by omega)]; exact hc 1 _ rfl, by rw [← add_field _ _ 2 (by omega)]; exact hc 2 _ rfl⟩

/-! #### struct type 39 -/
structure S39 where
 f0 : Int
 f1 : Int
 f2 : ByteArray
def z39 : S39 := ⟨(0 : Int), (0 : Int), (⟨#[]⟩ : ByteArray)⟩
def k39 : Kd S39 := Kd.iso (Kd.pair (Kd.int .i64) (Kd.pair (Kd.int .i64) Kd.string)) (fun x : S39 => (x.f0, x.f1, x.f2))
theorem k39_open {w : World} {x : S39} {cs : List Value} (h : k39.K w x cs) : cs = [.int .i64 x.f0, .int .i64 x.f1, .string x.f2] := by
 obtain ⟨_, _, rfl, rfl, ⟨_, _, rfl, rfl, rfl⟩⟩ := h
 exact rfl
theorem k39_openM {w : World} {base : Nat} {ok : Nat → Prop} {x : S39} {cs : List Value} (h : k39.M w base ok x cs) : cs = [.int .i64 x.f0, .int .i64 x.f1, .string x.f2] := by
 obtain ⟨_, _, rfl, rfl, ⟨_, _, rfl, rfl, rfl⟩⟩ := h
 exact rfl
theorem k39_mk (w : World) (x : S39)  : k39.K w x [.int .i64 x.f0, .int .i64 x.f1, .string x.f2] := ⟨[.int .i64 x.f0], [.int .i64 x.f1, .string x.f2], rfl, rfl, ⟨[.int .i64 x.f1], [.string x.f2], rfl, rfl, rfl⟩⟩
theorem k39_mkM (w : World) (base : Nat) (ok : Nat → Prop) (x : S39)  : k39.M w base ok x [.int .i64 x.f0, .int .i64 x.f1, .string x.f2] := ⟨[.int .i64 x.f0], [.int .i64 x.f1, .string x.f2], rfl, rfl, ⟨[.int .i64 x.f1], [.string x.f2], rfl, rfl, rfl⟩⟩
def rd_T39 (xs : List S39) (i : Int) : S39 := xs.getD i.toNat z39
theorem at_T39 {w : World} {A : Option Addr} {n : Nat} {xs : List S39} (h : Kd.C k39 w A n xs) (i : Int) (h0 : 0 ≤ i) (h1 : i < n) : ∃ ad , A = some ad ∧ w.cell? (ad.add (i.toNat * 3)) = some (.int .i64 (rd_T39 xs i).f0) ∧ w.cell? ⟨(ad.add (i.toNat * 3)).block, (ad.add (i.toNat * 3)).off + 1, none⟩ = some (.int .i64 (rd_T39 xs i).f1) ∧ w.cell? ⟨(ad.add (i.toNat * 3)).block, (ad.add (i.toNat * 3)).off + 2, none⟩ = some (.string (rd_T39 xs i).f2) := by
 obtain ⟨ad, c, e, _, hK, hc0⟩ := Kd.C_get h z39 i h0 h1
 have hc : ∀ j u, c[j]? = some u → w.cell? (ad.add (i.toNat * 3 + j)) = some u := hc0
 obtain rfl := k39_open hK
 exact ⟨ad, e, hc 0 _ rfl, by rw [← add_field _ _ 1 (by omega)]; exact hc 1 _ rfl, by rw [← add_field _ _ 2 (by omega)]; exact hc 2 _ rfl⟩

/-! #### struct type 41 -/
structure S41 where
 f0 : ByteArray
 f1 : S39
def z41 : S41 := ⟨(⟨#[]⟩ : ByteArray), z39⟩
def k41 : Kd S41 := Kd.iso (Kd.pair Kd.string k39) (fun x : S41 => (x.f0, x.f1))
theorem k41_open {w : World} {x : S41} {cs : List Value} (h : k41.K w x cs) : cs = [.string x.f0, .int .i64 x.f1.f0, .int .i64 x.f1.f1, .string x.f1.f2] := by
 obtain ⟨_, _, rfl, rfl, s1⟩ := h
 obtain rfl := k39_open s1
 exact rfl
theorem k41_openM {w : World} {base : Nat} {ok : Nat → Prop} {x : S41} {cs : List Value} (h : k41.M w base ok x cs) : cs = [.string x.f0, .int .i64 x.f1.f0, .int .i64 x.f1.f1, .string x.f1.f2] := by
 obtain ⟨_, _, rfl, rfl, s1⟩ := h
 obtain rfl := k39_openM s1
 exact rfl
theorem k41_mk (w : World) (x : S41)  : k41.K w x [.string x.f0, .int .i64 x.f1.f0, .int .i64 x.f1.f1, .string x.f1.f2] := ⟨[.string x.f0], [.int .i64 x.f1.f0, .int .i64 x.f1.f1, .string x.f1.f2], rfl, rfl, (k39_mk w x.f1 )⟩
theorem k41_mkM (w : World) (base : Nat) (ok : Nat → Prop) (x : S41)  : k41.M w base ok x [.string x.f0, .int .i64 x.f1.f0, .int .i64 x.f1.f1, .string x.f1.f2] := ⟨[.string x.f0], [.int .i64 x.f1.f0, .int .i64 x.f1.f1, .string x.f1.f2], rfl, rfl, (k39_mkM w base ok x.f1 )⟩
def rd_T41 (xs : List S41) (i : Int) : S41 := xs.getD i.toNat z41
theorem at_T41 {w : World} {A : Option Addr} {n : Nat} {xs : List S41} (h : Kd.C k41 w A n xs) (i : Int) (h0 : 0 ≤ i) (h1 : i < n) : ∃ ad , A = some ad ∧ w.cell? (ad.add (i.toNat * 4)) = some (.string (rd_T41 xs i).f0) ∧ w.cell? ⟨(ad.add (i.toNat * 4)).block, (ad.add (i.toNat * 4)).off + 1, none⟩ = some (.int .i64 (rd_T41 xs i).f1.f0) ∧ w.cell? ⟨(ad.add (i.toNat * 4)).block, (ad.add (i.toNat * 4)).off + 2, none⟩ = some (.int .i64 (rd_T41 xs i).f1.f1) ∧ w.cell? ⟨(ad.add (i.toNat * 4)).block, (ad.add (i.toNat * 4)).off + 3, none⟩ = some (.string (rd_T41 xs i).f1.f2) := by
 obtain ⟨ad, c, e, _, hK, hc0⟩ := Kd.C_get h z41 i h0 h1
 have hc : ∀ j u, c[j]? = some u → w.cell? (ad.add (i.toNat * 4 + j)) = some u := hc0
 obtain rfl := k41_open hK
 exact ⟨ad, e, hc 0 _ rfl, by rw [← add_field _ _ 1 (by omega)]; exact hc 1 _ rfl, by rw [← add_field _ _ 2 (by omega)]; exact hc 2 _ rfl, by rw [← add_field _ _ 3 (by omega)]; exact hc 3 _ rfl⟩

def rd_L6 (xs : List (List ByteArray)) (i : Int) : (List ByteArray) := xs.getD i.toNat ([] : List ByteArray)
theorem at_L6 {w : World} {A : Option Addr} {n : Nat} {xs : List (List ByteArray)} (h : Kd.C (Kd.slice 9 Kd.string) w A n xs) (i : Int) (h0 : 0 ≤ i) (h1 : i < n) : ∃ ad A0 c0, A = some ad ∧ w.cell? (ad.add i.toNat) = some (.slice A0 (rd_L6 xs i).length c0) ∧ (rd_L6 xs i).length ≤ c0 ∧ Kd.string.C w A0 (rd_L6 xs i).length (rd_L6 xs i) := by
 obtain ⟨ad, c, e, _, hK, hc0⟩ := Kd.C_get h ([] : List ByteArray) i h0 h1
 have hc : ∀ j u, c[j]? = some u → w.cell? (ad.add (i.toNat * 1 + j)) = some u := hc0
 obtain ⟨A0, c0, rfl, l0, g0⟩ := hK
 exact ⟨ad, A0, c0, e, by have hq := hc 0 _ rfl; rwa [Nat.mul_one, Nat.add_zero] at hq, l0, g0⟩

def rd_L8 (xs : List (List S35)) (i : Int) : (List S35) := xs.getD i.toNat ([] : List S35)
theorem at_L8 {w : World} {A : Option Addr} {n : Nat} {xs : List (List S35)} (h : Kd.C (Kd.slice 35 k35) w A n xs) (i : Int) (h0 : 0 ≤ i) (h1 : i < n) : ∃ ad A0 c0, A = some ad ∧ w.cell? (ad.add i.toNat) = some (.slice A0 (rd_L8 xs i).length c0) ∧ (rd_L8 xs i).length ≤ c0 ∧ k35.C w A0 (rd_L8 xs i).length (rd_L8 xs i) := by
 obtain ⟨ad, c, e, _, hK, hc0⟩ := Kd.C_get h ([] : List S35) i h0 h1
 have hc : ∀ j u, c[j]? = some u → w.cell? (ad.add (i.toNat * 1 + j)) = some u := hc0
 obtain ⟨A0, c0, rfl, l0, g0⟩ := hK
 exact ⟨ad, A0, c0, e, by have hq := hc 0 _ rfl; rwa [Nat.mul_one, Nat.add_zero] at hq, l0, g0⟩

def rd_L9 (xs : List (List (List S35))) (i : Int) : (List (List S35)) := xs.getD i.toNat ([] : List (List S35))
theorem at_L9 {w : World} {A : Option Addr} {n : Nat} {xs : List (List (List S35))} (h : Kd.C (Kd.slice 22 (Kd.slice 35 k35)) w A n xs) (i : Int) (h0 : 0 ≤ i) (h1 : i < n) : ∃ ad A0 c0, A = some ad ∧ w.cell? (ad.add i.toNat) = some (.slice A0 (rd_L9 xs i).length c0) ∧ (rd_L9 xs i).length ≤ c0 ∧ (Kd.slice 35 k35).C w A0 (rd_L9 xs i).length (rd_L9 xs i) := by
 obtain ⟨ad, c, e, _, hK, hc0⟩ := Kd.C_get h ([] : List (List S35)) i h0 h1
 have hc : ∀ j u, c[j]? = some u → w.cell? (ad.add (i.toNat * 1 + j)) = some u := hc0
 obtain ⟨A0, c0, rfl, l0, g0⟩ := hK
 exact ⟨ad, A0, c0, e, by have hq := hc 0 _ rfl; rwa [Nat.mul_one, Nat.add_zero] at hq, l0, g0⟩

def rd_L10 (xs : List (List S41)) (i : Int) : (List S41) := xs.getD i.toNat ([] : List S41)
theorem at_L10 {w : World} {A : Option Addr} {n : Nat} {xs : List (List S41)} (h : Kd.C (Kd.slice 41 k41) w A n xs) (i : Int) (h0 : 0 ≤ i) (h1 : i < n) : ∃ ad A0 c0, A = some ad ∧ w.cell? (ad.add i.toNat) = some (.slice A0 (rd_L10 xs i).length c0) ∧ (rd_L10 xs i).length ≤ c0 ∧ k41.C w A0 (rd_L10 xs i).length (rd_L10 xs i) := by
 obtain ⟨ad, c, e, _, hK, hc0⟩ := Kd.C_get h ([] : List S41) i h0 h1
 have hc : ∀ j u, c[j]? = some u → w.cell? (ad.add (i.toNat * 1 + j)) = some u := hc0
 obtain ⟨A0, c0, rfl, l0, g0⟩ := hK
 exact ⟨ad, A0, c0, e, by have hq := hc 0 _ rfl; rwa [Nat.mul_one, Nat.add_zero] at hq, l0, g0⟩

/-! #### struct type 49 -/
structure S49 where
 f0 : ByteArray
 f1 : Int
 f2 : Bool
def z49 : S49 := ⟨(⟨#[]⟩ : ByteArray), (0 : Int), false⟩
def k49 : Kd S49 := Kd.iso (Kd.pair Kd.string (Kd.pair (Kd.int .i64) Kd.bool)) (fun x : S49 => (x.f0, x.f1, x.f2))
theorem k49_open {w : World} {x : S49} {cs : List Value} (h : k49.K w x cs) : cs = [.string x.f0, .int .i64 x.f1, .bool x.f2] := by
 obtain ⟨_, _, rfl, rfl, ⟨_, _, rfl, rfl, rfl⟩⟩ := h
 exact rfl
theorem k49_openM {w : World} {base : Nat} {ok : Nat → Prop} {x : S49} {cs : List Value} (h : k49.M w base ok x cs) : cs = [.string x.f0, .int .i64 x.f1, .bool x.f2] := by
 obtain ⟨_, _, rfl, rfl, ⟨_, _, rfl, rfl, rfl⟩⟩ := h
 exact rfl
theorem k49_mk (w : World) (x : S49)  : k49.K w x [.string x.f0, .int .i64 x.f1, .bool x.f2] := ⟨[.string x.f0], [.int .i64 x.f1, .bool x.f2], rfl, rfl, ⟨[.int .i64 x.f1], [.bool x.f2], rfl, rfl, rfl⟩⟩
theorem k49_mkM (w : World) (base : Nat) (ok : Nat → Prop) (x : S49)  : k49.M w base ok x [.string x.f0, .int .i64 x.f1, .bool x.f2] := ⟨[.string x.f0], [.int .i64 x.f1, .bool x.f2], rfl, rfl, ⟨[.int .i64 x.f1], [.bool x.f2], rfl, rfl, rfl⟩⟩
def rd_T49 (xs : List S49) (i : Int) : S49 := xs.getD i.toNat z49
theorem at_T49 {w : World} {A : Option Addr} {n : Nat} {xs : List S49} (h : Kd.C k49 w A n xs) (i : Int) (h0 : 0 ≤ i) (h1 : i < n) : ∃ ad , A = some ad ∧ w.cell? (ad.add (i.toNat * 3)) = some (.string (rd_T49 xs i).f0) ∧ w.cell? ⟨(ad.add (i.toNat * 3)).block, (ad.add (i.toNat * 3)).off + 1, none⟩ = some (.int .i64 (rd_T49 xs i).f1) ∧ w.cell? ⟨(ad.add (i.toNat * 3)).block, (ad.add (i.toNat * 3)).off + 2, none⟩ = some (.bool (rd_T49 xs i).f2) := by
 obtain ⟨ad, c, e, _, hK, hc0⟩ := Kd.C_get h z49 i h0 h1
 have hc : ∀ j u, c[j]? = some u → w.cell? (ad.add (i.toNat * 3 + j)) = some u := hc0
 obtain rfl := k49_open hK
 exact ⟨ad, e, hc 0 _ rfl, by rw [← add_field _ _ 1 (by omega)]; exact hc 1 _ rfl, by rw [← add_field _ _ 2 (by omega)]; exact hc 2 _ rfl⟩

end Go.Proofs.YtbbfggfiknbdmaaDoor.A
