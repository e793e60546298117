import Derived.Test.YtoojnpjgnnpllaaGl12
set_option maxHeartbeats 16000000
set_option linter.unusedSimpArgs false
set_option linter.unusedVariables false
namespace Go.Ev.Gl
variable {fns : T eJ}
section
variable {h : Ev.T AB} {b : Nat} {x0 x1 : AV} {o : Bool} {s : Nat}
theorem aI0 (hb : h.get b = some (.cells [x0, x1] o s)) : fH (.ptr b (0 + 0)) false 1 h = some x0 := ldc hb rfl
theorem aGy (hb : h.get b = some (.cells [x0, x1] o s)) : fH (.ptr b (0 + 1)) false 1 h = some x1 := ldc hb rfl
end
theorem aAU {L : List (List Int)} {i : Nat} (h : i < L.length) : L[i]? = some (L.getD i []) := by
 rw [Ac, Ab h]; rfl
section
variable {M : Nat} {g : bF} {pr : Nat → Nat}
end
theorem aJh {l : List Int} {j : Nat} (h : j < l.length) : l.getD j 0 ∈ l := by
 rw [Ac, Ab h]; exact Bt h
end Go.Ev.Gl
