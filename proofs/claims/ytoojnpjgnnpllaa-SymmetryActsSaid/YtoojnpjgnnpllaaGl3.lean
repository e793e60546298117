import Derived.Test.YtoojnpjgnnpllaaGl2
set_option maxHeartbeats 4000000
set_option linter.unusedSimpArgs false
set_option linter.unusedVariables false
namespace Go.Ev.Gl
variable {fns : T cA}
end Go.Ev.Gl
namespace Go.Ev.Gl
variable {fns : T cA}
end Go.Ev.Gl
namespace Go.Ev.Gl
variable {fns : T cA}
end Go.Ev.Gl
namespace Go.Ev.Gl
variable {fns : T cA}
section
variable {W : Nat → Prop} {h0 : T AB} {base : Nat} {d : Option Nat} {m i : Nat} {l : List AO} {F : Fr} {S : St} {last : Option Nat} {Q : Fr → St → List gI → Prop}
theorem cR {j id : Nat} {bl : AB} {h : T AB} (ht : Nat.testBit m j = true) : cE m [⟨j, id, bl⟩] h = ([], h.set id (some bl)) := by
 unfold cE
 rw [show Nat.testBit m (gI.mk j id bl).i = true from ht, aG]
 rfl
theorem aBV {f : cH} {args : List cH} {j id : Nat} {bl : AB} (ht : Nat.testBit m j = true) (h : kI last m = true) (hw : ∀ S2, dH id S S2 → S2.nx = S.nx → S2.h.get id = some bl → iQ fns (f.val F) (cT args F) S2 fun v S1 => Same S2 S1 ∧ fH fns W h0 base l (i + 1) (cG d F v) S1 [] (some i) Q) : fH fns W h0 base (⟨d, .x (.call f args), none, m⟩ :: l) i F S [⟨j, id, bl⟩] last Q := by
 refine aCP h ?_
 rw [cR ht]
 exact hw ⟨S.h.set id (some bl), S.nx⟩ ((dH.refl id S).put _) rfl (by simp only; rw [T.get_set, if_pos rfl])
end
end Go.Ev.Gl
namespace Go.Ev.Gl
variable {fns : T cA}
end Go.Ev.Gl
namespace Go.Ev.Gl
variable {fns : T cA}
theorem kH {d m : Nat} {a : tE} {l : List AO} {F : Fr} {S : St} {Q : Fr → St → Prop} {v : AV} {bl : AB} (he : sN a F S.nx = some (v, bl)) (h : ∀ S1, Same S S1 → S1.nx = S.nx + 1 → S1.h.get S.nx = some bl → qX fns l (cG (some d) F v) S1 Q) : qX fns (⟨some d, .a a, none, m⟩ :: l) F S Q := by
 rw [aAm]
 refine ⟨(v, bl), he, h _ (Same.alloc S _) rfl ?_⟩
 simp only
 rw [T.get_set, if_pos rfl]
end Go.Ev.Gl
namespace Go.Ev.Gl
variable {fns : T cA}
theorem oC (W : Nat → Prop) {ops : List AO} {A : bT} {S : St} {Q : Out → bT → St → Prop} (h : ∀ S1, Same S S1 → S1.h = S.h → S1.nx = S.nx + ops.length → fH fns W S.h S.nx ops 0 A.F S1 [] none fun F S' ps => Q .normal ⟨F, A.inr⟩ ⟨(cE (2 ^ ops.length - 1) ps S'.h).2, S'.nx⟩) : lZ fns (.drw ops) A S Q := yS W (h _ (Same.nx S _) rfl rfl)
end Go.Ev.Gl
namespace Go.Ev.Gl
variable {fns : T cA}
end Go.Ev.Gl
namespace Go.Ev.Gl
variable {fns : T cA}
end Go.Ev.Gl
namespace Go.Ev.Gl
variable {fns : T cA}
end Go.Ev.Gl
namespace Go.Ev.Gl
variable {fns : T cA}
end Go.Ev.Gl
namespace Go.Ev.Gl
variable {fns : T cA}
end Go.Ev.Gl
namespace Go.Ev.Gl
variable {fns : T cA}
end Go.Ev.Gl
