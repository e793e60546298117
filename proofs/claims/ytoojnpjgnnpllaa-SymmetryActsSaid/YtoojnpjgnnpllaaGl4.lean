import Derived.Test.YtoojnpjgnnpllaaGl3
set_option maxHeartbeats 4000000
set_option linter.unusedSimpArgs false
set_option linter.unusedVariables false
namespace Go.Ev.Gl
variable {fns : T cA}
end Go.Ev.Gl
namespace Go.Ev.Gl
variable {fns : T cA}
end Go.Ev.Gl
namespace Go.Ev.Gl
variable {fns : T cA}
end Go.Ev.Gl
namespace Go.Ev.Gl
variable {fns : T cA}
end Go.Ev.Gl
namespace Go.Ev.Gl
variable {fns : T cA}
theorem aF6 (b : Bool) (l : List cH) (F : Fr) (h : T AB) : gP (.minmax b l) F h = lU b (cT l F) := rfl
end Go.Ev.Gl
namespace Go.Ev.Gl
variable {fns : T cA}
end Go.Ev.Gl
namespace Go.Ev.Gl
variable {fns : T cA}
theorem xQ {W : Nat → Prop} {h0 : T AB} {base i : Nat} {l : List AO} {F : Fr} {S : St} {ps : List gI} {last : Option Nat} {Q : Fr → St → List gI → Prop} {d : Option Nat} {m t size bytes : Nat} {s x : cH} {r : AV} {S1 : St} (h : kI last m = true) (he : fV bytes size (s.val F) (x.val F) ⟨(cE m ps S.h).2, S.nx⟩ = some (r, S1)) (ho : aFc W base ⟨(cE m ps S.h).2, S.nx⟩ S1) (hr : fH fns W h0 base l (i + 1) (cG d F r) S1 (cE m ps S.h).1 (some i) Q) : fH fns W h0 base (⟨d, .x (.app t size bytes s x), none, m⟩ :: l) i F S ps last Q := by
 unfold fH; rw [if_pos (show dW none F = true from rfl)]; exact ⟨h, _, S1, fun call => he, ho, hr⟩
end Go.Ev.Gl
namespace Go.Ev.Gl
variable {fns : T cA}
theorem uB {t z : Nat} {zs : List AV} {F : Fr} {id : Nat} : sN (.bslice t z 0 zs []) F id = some (.sl id 0 0 0 false, .cells [] false 0) := rfl
end Go.Ev.Gl
namespace Go.Ev.Gl
variable {fns : T cA}
end Go.Ev.Gl
namespace Go.Ev.Gl
variable {fns : T cA}
end Go.Ev.Gl
namespace Go.Ev.Gl
variable {fns : T cA}
end Go.Ev.Gl
namespace Go.Ev.Gl
variable {fns : T cA}
end Go.Ev.Gl
namespace Go.Ev.Gl
variable {fns : T cA}
section
variable {S : St} {a b : AV} {E : Int} {p q : Rat}
end
end Go.Ev.Gl
namespace Go.Ev.Gl
variable {fns : T cA}
section
variable {S : St} {a b : AV} {E : Int} {p q : Rat}
end
end Go.Ev.Gl
