import Derived.Test.YtoojnpjgnnpllaaGl3
set_option maxHeartbeats 16000000
set_option linter.unusedSimpArgs false
set_option linter.unusedVariables false
namespace Go.Ev.Gl
variable {fns : T eJ}
theorem aBE (b : Bool) (l : List cK) (F : Fr) (h : T AB) : gR (.minmax b l) F h = lM b (cW l F) := rfl
theorem wN {W : Nat → Prop} {h0 : T AB} {base i : Nat} {l : List AO} {F : Fr} {S : St} {ps : List gL} {last : Option Nat} {Q : Fr → St → List gL → Prop} {d : Option Nat} {m t size bytes : Nat} {s x : cK} {r : AV} {S1 : St} (h : jX last m = true) (he : gF bytes size (s.val F) (x.val F) ⟨(cD m ps S.h).2, S.nx⟩ = some (r, S1)) (ho : aEL W base ⟨(cD m ps S.h).2, S.nx⟩ S1) (hr : fJ fns W h0 base l (i + 1) (cJ d F r) S1 (cD m ps S.h).1 (some i) Q) : fJ fns W h0 base (⟨d, .x (.app t size bytes s x), none, m⟩ :: l) i F S ps last Q := by
 unfold fJ; rw [if_pos (show eH none F = true from rfl)]; exact ⟨h, _, S1, fun call => he, ho, hr⟩
theorem qC {t z : Nat} {zs : List AV} {F : Fr} {id : Nat} : rO (.bslice t z 0 zs []) F id = some (.sl id 0 0 0 false, .cells [] false 0) := rfl
section
variable {S : St} {a b : AV} {E : Int} {p q : Rat}
end
section
variable {S : St} {a b : AV} {E : Int} {p q : Rat}
end
end Go.Ev.Gl
