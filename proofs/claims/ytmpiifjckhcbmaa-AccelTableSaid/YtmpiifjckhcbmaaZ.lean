/- Small laws by which the walks of this claim are told shorter. -/
import Derived.Test.YtmpiifjckhcbmaaWWords
import Derived.Test.YtmpiifjckhcbmaaWLast
import Derived.Test.YtmpiifjckhcbmaaWTab
import Derived.Test.YtmpiifjckhcbmaaWFour
import Derived.Test.YtmpiifjckhcbmaaWQPut
import Derived.Test.YtmpiifjckhcbmaaWApart
import Derived.Test.YtmpiifjckhcbmaaWArr
import Derived.Test.YtmpiifjckhcbmaaWZeros
import Derived.Test.YtmpiifjckhcbmaaWFoot
import Derived.Test.YtmpiifjckhcbmaaWKept
import Derived.Test.YtmpiifjckhcbmaaWShare
import Derived.Test.YtmpiifjckhcbmaaWN
import Derived.Test.YtmpiifjckhcbmaaWFootNe
import Derived.Test.YtmpiifjckhcbmaaWAt
import Derived.Test.YtmpiifjckhcbmaaWEqStruct
import Derived.Test.YtmpiifjckhcbmaaWRepsOne
import Derived.Test.YtmpiifjckhcbmaaWInv
import Derived.Test.YtmpiifjckhcbmaaWInvWords
import Derived.Test.YtmpiifjckhcbmaaWGuard
import Derived.Test.YtmpiifjckhcbmaaWNEv
import Derived.Test.YtmpiifjckhcbmaaWMore
import Derived.Below
import Derived.Deep.Draws
import Derived.Deep.AppendLies
import Derived.Maps.AppendAt
import Derived.OwnWalk
import Derived.Laws.BytesArg
import Derived.Laws.MakeOwn
import Derived.Laws.OwnMore
import Derived.Deep.OwnRows
import Derived.Tactics
import Derived.Lib.ConvBytes
import Derived.Laws.Slices
import Derived.WalkKit
import Derived.KernelRfl
import Derived.RowKit3
import Derived.Deep.LoopGhost
import Derived.Deep.QuietTactic
import Derived.BigQuiet
import Derived.WideLaws
import Derived.Deep.DeepCutAuto
import Derived.Deep.CutBlock
import Derived.Deep.RegionHeld3
import Derived.Laws.Rows
import Derived.Lib.AppendStr
import Derived.ArgAppend
import Derived.Laws.IdiomCopy
import Derived.OrdersHeld
import Derived.Laws.BitsLemmas
import Derived.RowKit
namespace Go.Proofs.Ytmpiifjckhcbmaa.Z
open Go Go.RowKit Go.Proofs.YtmpiifjckhcbmaaW.PrintWords Go.Proofs.YtmpiifjckhcbmaaW.PrintLast Go.Proofs.YtmpiifjckhcbmaaW.PrintMore
set_option linter.unusedVariables false
/-- What a block holds in a world that was drawn from, made larger, or stored into, as the goal tells it. -/
theorem zk {W0 W : World} {g : Nat} {o0 o : Obj} (h : Aside0 (W0.heap[g]? = some o0)) (t : W0.heap[g]? = some o0 → W.heap[g]? = some o := by intro h; repeat (first | (with_reducible first | exact h | refine blk_drewN ?_ _ | refine blk_drew ?_ | refine blk_alloc ?_ _ | apply blk_put | refine Eq.trans (Below.heap_setCell _ _ _ _ (Aside0.out (by assumption))) ?_) | (show Array.setIfInBounds _ _ _ = _; rfl))) : W.heap[g]? = some o := t h.out
theorem zkp {W0 W : World} {g : Nat} {o0 o : Obj} (h : Aside0 (W0.heap[g]? = some o0)) (t : W0.heap[g]? = some o0 → W.heap[g]? = some o := by intro h; repeat (first | (with_reducible first | exact h | refine blk_drewN ?_ _ | refine blk_drew ?_ | refine blk_alloc ?_ _ | apply blk_put | refine Eq.trans (Below.heap_setCell _ _ _ _ (Aside0.out (by assumption))) ?_) | (show Array.setIfInBounds _ _ _ = _; rfl))) : W.heap[g]? = some o := t h.out
/-- What lies below stays. -/
theorem zb {w W0 W : World} (h : Aside0 (Below w.heap.size w W0)) (t : Below w.heap.size w W0 → Below w.heap.size w W := by intro h; repeat (first | (with_reducible first | exact h | apply below_alloc | apply pw_below_drewN | apply below_drew1 | refine below_set ?_ (Aside0.out (by assumption))) | exact h)) : Below w.heap.size w W := t h.out
theorem zkb {W0 W W1 : World} {g : Nat} {o : Obj} (h : Aside0 (W0.heap[g]? = some o)) (hb : Below W.heap.size W W1) (t : Aside0 (W0.heap[g]? = some o) → W.heap[g]? = some o := by intro h; exact zk h) : Aside0 (W1.heap[g]? = some o) := ⟨blk_below (t h) hb⟩
theorem zkbo {W0 W W1 : World} {g : Nat} {o0 o : Obj} (h : Aside0 (W0.heap[g]? = some o0)) (hb : Below W.heap.size W W1) (t : Aside0 (W0.heap[g]? = some o0) → W.heap[g]? = some o := by intro h; exact zk h) : Aside0 (W1.heap[g]? = some o) := ⟨blk_below (t h) hb⟩
theorem zbs {w W0 W W1 : World} (h : Aside0 (Below w.heap.size w W0)) (hb : Below W.heap.size W W1) (t : Aside0 (Below w.heap.size w W0) → Below w.heap.size w W := by intro h; exact zb h) : Aside0 (Below w.heap.size w W1) := ⟨below_step (t h) hb⟩
theorem zge {w W0 W : World} {g : Nat} (hg : g = W.heap.size) (h : Aside0 (Below w.heap.size w W0)) (t : Aside0 (Below w.heap.size w W0) → Below w.heap.size w W := by intro h; exact zb h) : Aside0 (w.heap.size ≤ g) := ⟨by rw [hg]; exact below_size (t h)⟩
theorem znl {W0 W : World} {g g' : Nat} {o : Obj} (hg : g = W.heap.size) (h : Aside0 (W0.heap[g']? = some o)) (t : Aside0 (W0.heap[g']? = some o) → W.heap[g']? = some o := by intro h; exact zk h) : Aside0 (g' ≠ g) := ⟨by rw [hg]; exact Nat.ne_of_lt (blk_lt (t h))⟩
theorem zng {W0 W : World} {g g' : Nat} {o : Obj} (hg : g = W.heap.size) (h : Aside0 (W0.heap[g']? = some o)) (t : Aside0 (W0.heap[g']? = some o) → W.heap[g']? = some o := by intro h; exact zk h) : Aside0 (g ≠ g') := ⟨by rw [hg]; exact Nat.ne_of_gt (blk_lt (t h))⟩
theorem zc2 {W : World} {g : Nat} {t : TypeId} {a b : Value} (h : Aside0 (W.heap[g]? = some (.cells #[a, b] t (0, 0)))) : W.cell? ⟨g, 0, none⟩ = some a ∧ W.cell? ⟨g, 1, none⟩ = some b ∧ W.frozen? ⟨g, 0, none⟩ = false ∧ W.frozen? ⟨g, 1, none⟩ = false :=
  ⟨(blk_cell h.out 0).trans rfl, (blk_cell h.out 1).trans rfl, blk_frozen h.out 0, blk_frozen h.out 1⟩
theorem zc3 {W : World} {g : Nat} {t : TypeId} {a b c : Value} (h : Aside0 (W.heap[g]? = some (.cells #[a, b, c] t (0, 0)))) : W.cell? ⟨g, 0, none⟩ = some a ∧ W.cell? ⟨g, 1, none⟩ = some b ∧ W.cell? ⟨g, 2, none⟩ = some c ∧ W.frozen? ⟨g, 0, none⟩ = false ∧ W.frozen? ⟨g, 1, none⟩ = false ∧ W.frozen? ⟨g, 2, none⟩ = false :=
  ⟨(blk_cell h.out 0).trans rfl, (blk_cell h.out 1).trans rfl, (blk_cell h.out 2).trans rfl, blk_frozen h.out 0, blk_frozen h.out 1, blk_frozen h.out 2⟩
theorem zc4 {W : World} {g : Nat} {t : TypeId} {a b c d : Value} (h : Aside0 (W.heap[g]? = some (.cells #[a, b, c, d] t (0, 0)))) : W.cell? ⟨g, 0, none⟩ = some a ∧ W.cell? ⟨g, 1, none⟩ = some b ∧ W.cell? ⟨g, 2, none⟩ = some c ∧ W.cell? ⟨g, 3, none⟩ = some d ∧ W.frozen? ⟨g, 0, none⟩ = false ∧ W.frozen? ⟨g, 1, none⟩ = false ∧ W.frozen? ⟨g, 2, none⟩ = false ∧ W.frozen? ⟨g, 3, none⟩ = false :=
  ⟨(blk_cell h.out 0).trans rfl, (blk_cell h.out 1).trans rfl, (blk_cell h.out 2).trans rfl, (blk_cell h.out 3).trans rfl, blk_frozen h.out 0, blk_frozen h.out 1, blk_frozen h.out 2, blk_frozen h.out 3⟩
section
variable {P : Program} {ops : Array Oper} {Q : Exit → Act → World → Prop} {md : Region.Mode} {S : World → Prop} {ds : List Nat}
/-- A box is made. -/
theorem zbox {o : Oper} {rest : List Oper} {a : Act} {W : World} {N : Tmp} {cs : Array Value} {t : TypeId}
    (h : ∀ g, g = W.heap.size → ∀ w1, w1.heap[g]? = some (.cells cs t (0, 0)) → Below W.heap.size W w1 → wpList P ops Q rest (a.put o.dst (.pointer (some ⟨g, 0, none⟩))) w1)
    (hd : o.dst = some N := by rfl) (hgd : o.guard = none := by rfl)
    (hrun : (execOp a.eval o).run P W = .ok (.value (.pointer (some ⟨W.heap.size, 0, none⟩))) (W.alloc (.cells cs t (0, 0))) := by first | (go_simp; done) | (go_simp; rfl)) : wpList P ops Q (o :: rest) a W :=
  box_event hgd hd hrun h
/-- A call in a plain region. -/
theorem zgo {rest : List Oper} {oi : Oper} {a : Act} {w : World} (N : Option Tmp) {f : FuncId} {fn : Func} {as : Array Operand} {ts : Array TypeId} (hf : P.funcs[f]? = some fn) (args : Array Value)
    (h : Calls P f args w fun e w' => ∃ v, e = .returned v ∧ wpList P ops Q rest (a.put N v) w')
    (hd : oi.dst = N := by rfl) (hg : oi.guard = none := by rfl) (hname : (fn.name == "runtime.NumGoroutine") = false := by kernel_rfl) (hb : fn.body.isSome = true := by rfl)
    (hop : oi.op = .call { callee := .value (.func f), args := as, argTypes := ts } := by rfl)
    (hargs : as.map a.eval = args := by (try simp only [List.map_toArray, List.map_cons, List.map_nil]); first | done | rfl | (simp only [List.length_drop, List.length_take]; rfl)) : wpList P ops Q (oi :: rest) a w :=
  goesL_ N hd hg hf hname hb args hop hargs h
theorem zpure_ {i : Nat} {N : Option Tmp} {oi : Oper} {v : Value} {fuel : Nat} {l : Array Bool} {a : Act} {w : World} (l' : Array Bool) (hc : anyB md ops l l' i = true) {a' : Act}
    (h : wpAnyLast P md ops Q S ds fuel l' a' w) (hi : ops[i]? = some oi := by rfl) (hN : oi.dst = N := by rfl)
    (hQ : ∀ c a w, Q (.panic c) (a.put oi.dst v) w → Q (.panic c) a w := by exact fun _ _ _ h => h)
    (hy : Yields P ops oi v a := by exact Or.inl ⟨by rfl, by intro w'; go_simp; with_reducible rfl⟩)
    (ha : a.put N v = a' := by simp only [Act.put, List.setIfInBounds_toArray, List.set_cons_zero, List.set_cons_succ, i64_w, i32_w]; rfl) : wpAnyLast P md ops Q S ds (fuel + 1) l a w :=
  pure_ l' hi hN hc hQ hy ha h
theorem ztake_ {i : Nat} {N : Option Tmp} {oi : Oper} {v : Value} {fuel : Nat} {l : Array Bool} {a : Act} {w : World} (l' : Array Bool) (hi : ops[i]? = some oi) (hc : takeB md ops ds l l' i = true) (hS : S w) (hy : YieldsIf P ops S oi v a) {a' : Act}
    (h : wpAnyLast P md ops Q S ds fuel l' a' w) (hN : oi.dst = N := by rfl)
    (hQ : ∀ c a w, Q (.panic c) (a.put oi.dst v) w → Q (.panic c) a w := by exact fun _ _ _ h => h)
    (ha : a.put N v = a' := by simp only [Act.put, List.setIfInBounds_toArray, List.set_cons_zero, List.set_cons_succ, i64_w, i32_w]; rfl) : wpAnyLast P md ops Q S ds (fuel + 1) l a w :=
  take_ l' hi hN hc hQ hy hS ha h
end
end Go.Proofs.Ytmpiifjckhcbmaa.Z
