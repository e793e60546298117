/- Contracts (6): rational numbers, the statements' tools, the law. -/
import Derived.Test.YtlnjemhkijkaoaaGl5
set_option maxHeartbeats 4000000
set_option linter.unusedSimpArgs false
set_option linter.unusedVariables false
namespace Go.Ev.Gl
variable {fns : T AFn}

/-! ## Games, plain -/
structure PNode where
  kind : Int
  player : Int
  info : Int
  next : List Int
  weights : List Int
  pay : List Int
structure PInfo where
  player : Int
  actions : Int
structure PGame where
  players : Int
  nodes : List PNode
  infos : List PInfo
/-! ### in memory -/
/-! ### blocks of cells -/
theorem ldc {h : T AB} {b j : Nat} {cs : List AV} {x : AV} {o : Bool} {s : Nat} (hb : h.get b = some (.cells cs o s)) (hj : cs[j]? = some x) : qLdV (.ptr b (0 + j)) false 1 h = some x := by
  simp only [qLdV, loadV, bsel_false, load1, cellsAt, hb, osel_some, cellsOfB, nth_eq, Nat.zero_add, hj]
theorem ldall {h : T AB} {b n : Nat} {cs : List AV} {o : Bool} {s : Nat} (hb : h.get b = some (.cells cs o s)) (hn : cs.length = n) : qLdV (.ptr b 0) true n h = some (.agg cs) := by
  subst hn
  simp only [qLdV, loadV, bsel_true, loadN, cellsAt, hb, osel_some, cellsOfB]
  unfold cut
  rw [takeL_eq, dropL_eq, List.drop_zero, if_pos (Nat.le_refl _), List.take_length]
  rfl
section
variable {h : T AB} {b : Nat} {x0 x1 x2 x3 x4 x5 : AV} {o : Bool} {s : Nat}
end
section
variable {k : Nat} {α : Type} {E : St → List AV → α → Prop} {S : St} {v : AV} {l : List α}
/-- an element: as a whole, by its fields -/
theorem IsSlG.at (h : IsSlG k E S v l) (hk : 0 < k) {i : Nat} {a : α} (hi : l[i]? = some a) : ∃ e b p, iaddrV (.slice k) v i = some (.ptr b p) ∧ b < S.nx ∧ e.length = k ∧ E S e a ∧ qLdV (.ptr b p) true k S.h = some (.agg e) ∧ ∀ j x, e[j]? = some x → qLdV (.ptr b (p + j)) false 1 S.h = some x := by
  obtain ⟨e, b, p, h1, h2, h3, h4, cs, h5, h6⟩ := h.get hi
  have hlt := (List.getElem?_eq_some_iff.1 hi).1
  refine ⟨e, b, p, by rw [← h1]; exact h.iaddr hlt, h2, h3, h4, ?_, fun j x hj => ?_⟩
  · simp only [qLdV, loadV, bsel_true, loadN, h5, osel_some]
    have hcut : cut cs p k = some e := by
      have hle : p + k ≤ cs.length := by
        have := h6 (k - 1) (e[k - 1]'(by omega)) (List.getElem?_eq_getElem (by omega))
        have := (List.getElem?_eq_some_iff.1 this).1
        omega
      unfold cut
      rw [takeL_eq, dropL_eq, if_pos (by rw [List.length_drop]; omega)]
      congr 1
      refine List.ext_getElem (by rw [List.length_take, List.length_drop]; omega) fun j j1 j2 => ?_
      have := h6 j e[j] (List.getElem?_eq_getElem j2)
      rw [List.getElem_take, List.getElem_drop]
      exact (List.getElem?_eq_some_iff.1 this).2
    rw [hcut, osel_some]
  · simp only [qLdV, loadV, bsel_false, load1, h5, osel_some, nth_eq]
    exact h6 j x hj
end
end Go.Ev.Gl

namespace Go.Ev.Gl
variable {fns : T AFn}

/-! ## The reference's error of a node -/
end Go.Ev.Gl
namespace Go.Ev.Gl
variable {fns : T AFn}

/-! ## The program's error of a node -/
theorem IsSl.self {k : IntKind} {S : St} {v : AV} {l : List Int} (h : IsSl k S v l) : sameV v v = true := by
  rcases h with ⟨_, h | h⟩ | ⟨b, off, cap, o, cs, rfl, _⟩
  · subst h; rfl
  · subst h; rfl
  · exact same_sl ..
section
variable {S : St} {wb : Nat} {ps : Int} {n i p d l : AV} {ni : Nat} {cs : List AV} {x : PNode}
end
end Go.Ev.Gl
namespace Go.Ev.Gl
variable {fns : T AFn}

section
variable {S : St} {wb : Nat} {ps : Int} {n i p d l : AV} {ni : Nat} {cs : List AV} {x : PNode}
end
end Go.Ev.Gl

namespace Go.Ev.Gl
variable {fns : T AFn}

/-! ## Trees in preorder, plain -/
end Go.Ev.Gl

namespace Go.Ev.Gl
variable {fns : T AFn}

end Go.Ev.Gl

namespace Go.Ev.Gl
variable {fns : T AFn}

/-! ## Rows of ints in blocks of their own -/
def cells64 (l : List Int) : List AV := l.map (AV.int .i64)
theorem ldSame {S S' : St} (h : Same S S') {b p n : Nat} {agg : Bool} (hb : b < S.nx) : qLdV (.ptr b p) agg n S'.h = qLdV (.ptr b p) agg n S.h := by
  have e := cellsAt_same h hb
  simp only [qLdV, loadV, loadN, load1, e]
theorem row_sl {S : St} {b N sz : Nat} {l : List Int} {o : Bool} (h : S.h.get b = some (.cells (cells64 l) o sz)) (hb : b < S.nx) (hl : l.length = N) : IsSl .i64 S (.sl b 0 N N false) l := by
  subst hl
  refine .inr ⟨b, 0, l.length, false, cells64 l, rfl, Nat.le_refl _, hb, by unfold cellsAt; rw [h]; rfl, fun i x hi => ?_⟩
  rw [Nat.zero_add]
  unfold cells64
  rw [List.getElem?_map, hi]
  rfl
/-! ### what a walk leaves in a row -/
end Go.Ev.Gl

namespace Go.Ev.Gl
variable {fns : T AFn}

/-! ## The program's walk -/
end Go.Ev.Gl
