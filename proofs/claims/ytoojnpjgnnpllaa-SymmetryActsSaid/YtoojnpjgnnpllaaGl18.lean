import Derived.Test.YtoojnpjgnnpllaaGl17
set_option maxHeartbeats 4000000
set_option linter.unusedSimpArgs false
set_option linter.unusedVariables false
namespace Go.Ev.Gl
variable {fns : T cA}
end Go.Ev.Gl
namespace Go.Ev.Gl
variable {fns : T cA}
section
variable {g : bG} {b : Int} {L : List (List Int)} {v : AV}
end
end Go.Ev.Gl
namespace Go.Ev.Gl
variable {fns : T cA}
section
variable {g : bG} {b : Int} {L : List (List Int)} {pr W : Nat → Nat} {M : Nat}
end
end Go.Ev.Gl
namespace Go.Ev.Gl
variable {fns : T cA}
end Go.Ev.Gl
namespace Go.Ev.Gl
variable {fns : T cA}
end Go.Ev.Gl
namespace Go.Ev.Gl
variable {fns : T cA}
section
variable {g : bG} {b : Int} {L : List (List Int)} {pr W : Nat → Nat} {z : Nat}
end
end Go.Ev.Gl
namespace Go.Ev.Gl
variable {fns : T cA}
end Go.Ev.Gl
namespace Go.Ev.Gl
variable {fns : T cA}
theorem aHU {n j : Nat} (h : j < n) : (List.replicate n (0 : Int)).getD j 0 = 0 := by
 rw [List.getD_eq_getElem?_getD, List.getElem?_replicate, if_pos h]
 rfl
theorem uI {l m : List Int} (h : l.length = m.length) (hg : ∀ j, j < l.length → l.getD j 0 = m.getD j 0) : l = m := by
 refine List.ext_getElem h fun j h1 h2 => ?_
 have := hg j h1
 rw [List.getD_eq_getElem?_getD, List.getD_eq_getElem?_getD, List.getElem?_eq_getElem h1, List.getElem?_eq_getElem h2] at this
 exact this
end Go.Ev.Gl
