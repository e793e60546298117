import Derived.Test.YtoojnpjgnnpllaaGl2
set_option maxHeartbeats 16000000
set_option linter.unusedSimpArgs false
set_option linter.unusedVariables false
namespace Go.Ev.Gl
variable {fns : T eJ}
section
variable {W : Nat → Prop} {h0 : T AB} {base : Nat} {d : Option Nat} {m i : Nat} {l : List AO} {F : Fr} {S : St} {last : Option Nat} {Q : Fr → St → List gL → Prop}
theorem cR {j id : Nat} {bl : AB} {h : T AB} (ht : Nat.testBit m j = true) : cD m [⟨j, id, bl⟩] h = ([], h.set id (some bl)) := by
 unfold cD
 rw [show Nat.testBit m (gL.mk j id bl).i = true from ht, aF]
 rfl
theorem aBn {f : cK} {args : List cK} {j id : Nat} {bl : AB} (ht : Nat.testBit m j = true) (h : jX last m = true) (hw : ∀ S2, cU id S S2 → S2.nx = S.nx → S2.h.get id = some bl → iM fns (f.val F) (cW args F) S2 fun v S1 => Same S2 S1 ∧ fJ fns W h0 base l (i + 1) (cJ d F v) S1 [] (some i) Q) : fJ fns W h0 base (⟨d, .x (.call f args), none, m⟩ :: l) i F S [⟨j, id, bl⟩] last Q := by
 refine aCn h ?_
 rw [cR ht]
 exact hw ⟨S.h.set id (some bl), S.nx⟩ ((cU.refl id S).put _) rfl (by simp only; rw [T.get_set, if_pos rfl])
end
theorem iO {d m : Nat} {a : sG} {l : List AO} {F : Fr} {S : St} {Q : Fr → St → Prop} {v : AV} {bl : AB} (he : rO a F S.nx = some (v, bl)) (h : ∀ S1, Same S S1 → S1.nx = S.nx + 1 → S1.h.get S.nx = some bl → qM fns l (cJ (some d) F v) S1 Q) : qM fns (⟨some d, .a a, none, m⟩ :: l) F S Q := by
 rw [yF]
 refine ⟨(v, bl), he, h _ (Same.alloc S _) rfl ?_⟩
 simp only
 rw [T.get_set, if_pos rfl]
theorem nJ (W : Nat → Prop) {ops : List AO} {A : bT} {S : St} {Q : Out → bT → St → Prop} (h : ∀ S1, Same S S1 → S1.h = S.h → S1.nx = S.nx + ops.length → fJ fns W S.h S.nx ops 0 A.F S1 [] none fun F S' ps => Q .normal ⟨F, A.inr⟩ ⟨(cD (2 ^ ops.length - 1) ps S'.h).2, S'.nx⟩) : kH fns (.drw ops) A S Q := wJ W (h _ (Same.nx S _) rfl rfl)
theorem aGQ {S S' : St} (h1 : S'.h = S.h) (h2 : S.nx ≤ S'.nx) : Same S S' := ⟨h2, fun _ _ => by rw [h1]⟩
end Go.Ev.Gl
