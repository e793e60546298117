/- Contracts (7): rational numbers, the statements' tools, the law. -/
import Derived.Test.YtlnjemhkijkaoaaGl6
open Nat (reduceEqDiff reduceAdd)
set_option maxHeartbeats 4000000
set_option linter.unusedSimpArgs false
set_option linter.unusedVariables false
namespace Go.Ev.Gl
variable {fns : T AFn}

/-! ## The library's functions on slices of ints -/
theorem isNaN_spec {S : St} {a : Int} (H : Has fns) : wpf fns (.fn 35 [] []) [.int .i64 a] S fun r S' => r = .bool false ∧ S' = S := by
  refine wpf_fn H.f35 (by simp) ?_
  simp only [↓stU, stD, reduceEqDiff, ↓reduceIte]
  refine wsr ?_
  simp only [↓stU, stD, reduceEqDiff, ↓reduceIte]
  refine wsr ?_
  simp only [↓stU, stD, reduceEqDiff, ↓reduceIte, decide_eq_false (show ¬ a ≠ a from fun h => h rfl)]
  refine wpc_ret ?_
  simp only [↓stU, stD, reduceEqDiff, ↓reduceIte]
end Go.Ev.Gl

namespace Go.Ev.Gl
variable {fns : T AFn}

/-! ## Information sets -/
end Go.Ev.Gl

namespace Go.Ev.Gl
variable {fns : T AFn}

/-! ## The error of a game -/
/-! ### a store into a cell, some blocks not laid yet -/
theorem stc {S : St} {b p : Nat} {w : AV} {cs : List AV} {o : Bool} {sz : Nat} (h : S.h.get b = some (.cells cs o sz)) (hp : p < cs.length) : xStV (.ptr b p) 1 [w] S = some (.undef, ⟨S.h.set b (some (.cells (cs.set p w) o sz)), S.nx⟩) := by
  have hput : put cs p [w] = some (cs.set p w) := by
    rw [put_eq, if_pos (by simp; omega)]
    congr 1
    rw [List.set_eq_take_append_cons_drop, if_pos hp]
    simp
  simp only [xStV, storeN, h, osel_some, storeB, hput]
  rfl
end Go.Ev.Gl

namespace Go.Ev.Gl
variable {fns : T AFn}

/-! ## A game walked -/
theorem lg3_0 {h : T AB} {b : Nat} {x0 x1 x2 : AV} {o : Bool} {s : Nat} (hb : h.get b = some (.cells [x0, x1, x2] o s)) : qLdV (.ptr b (0 + 0)) false 1 h = some x0 := ldc hb rfl
theorem lg3_1 {h : T AB} {b : Nat} {x0 x1 x2 : AV} {o : Bool} {s : Nat} (hb : h.get b = some (.cells [x0, x1, x2] o s)) : qLdV (.ptr b (0 + 1)) false 1 h = some x1 := ldc hb rfl
theorem lg3_a {h : T AB} {b : Nat} {x0 x1 x2 : AV} {o : Bool} {s : Nat} (hb : h.get b = some (.cells [x0, x1, x2] o s)) : qLdV (.ptr b 0) true 3 h = some (.agg [x0, x1, x2]) := ldall hb rfl
end Go.Ev.Gl

namespace Go.Ev.Gl
variable {fns : T AFn}

/-! ## Form and Parents -/
end Go.Ev.Gl

namespace Go.Ev.Gl
variable {fns : T AFn}

/-! ## Many slices that grow -/
theorem src1 {S : St} {t : Nat} {x : AV} {o : Bool} {sz : Nat} (h : S.h.get t = some (.cells [x] o sz)) : srcCells (.sl t 0 1 1 false) S.h 1 1 = some [x] := by
  show osel (cellsAt S.h t) (fun cs => cut cs 0 (1 * 1)) = _
  unfold cellsAt
  rw [h]
  rfl
theorem ldrow {h : T AB} {b p : Nat} {cs : List AV} {x : AV} {o : Bool} {s : Nat} (hb : h.get b = some (.cells cs o s)) (hj : cs[p]? = some x) : qLdV (.ptr b p) false 1 h = some x := by
  have := ldc (j := p) hb hj
  rw [Nat.zero_add] at this
  exact this
end Go.Ev.Gl

namespace Go.Ev.Gl
variable {fns : T AFn}

/-! ## The reference's sets -/
/-- a slice as an element -/
def SlE (S : St) (cs : List AV) (l : List Int) : Prop := ∃ a, cs = [a] ∧ IsSl .i64 S a l
theorem firm_sl : Firm SlE := fun ⟨a, h, h1⟩ hs => ⟨a, h, h1.same hs⟩
theorem GrW.blk {k n c : Nat} {S0 S : St} {v : AV} {cs : List AV} (h : GrW k S0 S v n cs) (hc : blkOf v = some c) : S0.nx ≤ c ∧ c < S.nx ∧ S.h.get c = some (.cells cs true k) := by
  rcases h with ⟨rfl, _⟩ | ⟨b, rfl, h1, h2, h3, h4⟩
  · cases hc
  · cases hc; exact ⟨h1, h2, h3⟩
end Go.Ev.Gl

namespace Go.Ev.Gl
variable {fns : T AFn}

/-! ## The reference's Form -/
end Go.Ev.Gl

namespace Go.Ev.Gl
variable {fns : T AFn}

/-! ## The reference's Form, in whole -/
end Go.Ev.Gl
