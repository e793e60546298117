/- Contracts (3): rational numbers, the statements' tools, the law. -/
import Derived.Test.YtlnjemhkijkaoaaGl2
set_option maxHeartbeats 4000000
set_option linter.unusedSimpArgs false
set_option linter.unusedVariables false
namespace Go.Ev.Gl
variable {fns : T AFn}

end Go.Ev.Gl

namespace Go.Ev.Gl
variable {fns : T AFn}

end Go.Ev.Gl

namespace Go.Ev.Gl
variable {fns : T AFn}

/-! ## Which numbers are valid -/
end Go.Ev.Gl

namespace Go.Ev.Gl
variable {fns : T AFn}

/-! ## How long results are -/
/-! ## A block that is laid late -/
section
variable {W : Nat → Prop} {h0 : T AB} {base : Nat} {d : Option Nat} {m i : Nat} {l : List AO} {F : Fr} {S : St} {last : Option Nat} {Q : Fr → St → List Pend → Prop}
theorem flush_one {j id : Nat} {bl : AB} {h : T AB} (ht : Nat.testBit m j = true) : flush m [⟨j, id, bl⟩] h = ([], h.set id (some bl)) := by
  unfold flush
  rw [show Nat.testBit m (Pend.mk j id bl).i = true from ht, bsel_true]
  rfl
end

/-! ## Structs of two numbers -/
/-! ## The product of a pair -/
end Go.Ev.Gl

namespace Go.Ev.Gl
variable {fns : T AFn}

end Go.Ev.Gl

namespace Go.Ev.Gl
variable {fns : T AFn}

theorem wpo_al {d m : Nat} {a : AlOp} {l : List AO} {F : Fr} {S : St} {Q : Fr → St → Prop} {v : AV} {bl : AB} (he : evA a F S.nx = some (v, bl)) (h : ∀ S1, Same S S1 → S1.nx = S.nx + 1 → S1.h.get S.nx = some bl → wpo fns l (putF (some d) F v) S1 Q) : wpo fns (⟨some d, .a a, none, m⟩ :: l) F S Q := by
  rw [wpo_aE]
  refine ⟨(v, bl), he, h _ (Same.alloc S _) rfl ?_⟩
  simp only
  rw [T.get_set, if_pos rfl]

end Go.Ev.Gl

namespace Go.Ev.Gl
variable {fns : T AFn}

/-! ## The rules, with what lies beyond the last block -/
theorem wpc_drd2 (W : Nat → Prop) {ops : List AO} {A : Act'} {S : St} {Q : Out → Act' → St → Prop} (h : ∀ S1, Same S S1 → S1.h = S.h → S1.nx = S.nx + ops.length → runD fns W S.h S.nx ops 0 A.F S1 [] none fun F S' ps => Q .normal ⟨F, A.inr⟩ ⟨(flush (2 ^ ops.length - 1) ps S'.h).2, S'.nx⟩) : wpc fns (.drw ops) A S Q := wpc_drd W (h _ (Same.nx S _) rfl rfl)

/-! ## Signs -/
end Go.Ev.Gl

namespace Go.Ev.Gl
variable {fns : T AFn}

/-! ## The statements' own tools -/
end Go.Ev.Gl

namespace Go.Ev.Gl
variable {fns : T AFn}

end Go.Ev.Gl

namespace Go.Ev.Gl
variable {fns : T AFn}

end Go.Ev.Gl

namespace Go.Ev.Gl
variable {fns : T AFn}

/-! ## Comparing -/
end Go.Ev.Gl

namespace Go.Ev.Gl
variable {fns : T AFn}

/-! ## The whole numbers below and above -/
end Go.Ev.Gl

namespace Go.Ev.Gl
variable {fns : T AFn}

/-! ## Plain facts on comparing -/
end Go.Ev.Gl
