import Derived.Test.YtoojnpjgnnpllaaGl12
set_option maxHeartbeats 4000000
set_option linter.unusedSimpArgs false
set_option linter.unusedVariables false
namespace Go.Ev.Gl
variable {fns : T cA}
section
variable {h : Ev.T AB} {b : Nat} {x0 x1 : AV} {o : Bool} {s : Nat}
theorem aIU (hb : h.get b = some (.cells [x0, x1] o s)) : fK (.ptr b (0 + 0)) false 1 h = some x0 := ldc hb rfl
theorem aGK (hb : h.get b = some (.cells [x0, x1] o s)) : fK (.ptr b (0 + 1)) false 1 h = some x1 := ldc hb rfl
end
theorem aE2 {L : List (List Int)} {i : Nat} (h : i < L.length) : L[i]? = some (L.getD i []) := by
 rw [List.getD_eq_getElem?_getD, List.getElem?_eq_getElem h]; rfl
end Go.Ev.Gl
namespace Go.Ev.Gl
variable {fns : T cA}
section
variable {M : Nat} {g : bG} {pr : Nat → Nat}
end
end Go.Ev.Gl
namespace Go.Ev.Gl
variable {fns : T cA}
end Go.Ev.Gl
namespace Go.Ev.Gl
variable {fns : T cA}
theorem aJO {l : List Int} {j : Nat} (h : j < l.length) : l.getD j 0 ∈ l := by
 rw [List.getD_eq_getElem?_getD, List.getElem?_eq_getElem h]; exact List.getElem_mem h
end Go.Ev.Gl
namespace Go.Ev.Gl
variable {fns : T cA}
end Go.Ev.Gl
namespace Go.Ev.Gl
variable {fns : T cA}
end Go.Ev.Gl
namespace Go.Ev.Gl
variable {fns : T cA}
end Go.Ev.Gl
