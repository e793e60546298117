import Derived.Test.YtkklchgmpejobaaGreatDoorGl2
set_option maxHeartbeats 16000000
set_option linter.unusedSimpArgs false
set_option linter.unusedVariables false
namespace Go.Ev.Gl
variable {fns:T cW}
section
variable {W:Nat→Prop}{h0:T AB}{base:Nat}{d:Option Nat}{m i:Nat}{l:List AO}{F:Fr}{S:St}{last:Option Nat}{Q:Fr→St→List jQ→Prop}
theorem cJ{j id:Nat}{bl:AB}{h:T AB}(ht:Nat.testBit m j=true):cA m [⟨j,id,bl⟩] h=([],h.set id (some bl)):=by
 unfold cA;rw[show Nat.testBit m (jQ.mk j id bl).i=true from ht,aP];rfl
theorem aDk{f:cF}{args:List cF}{j id:Nat}{bl:AB}(ht:Nat.testBit m j=true)(h:mE last m=true)(hw:∀S2,bB id S S2→S2.nx=S.nx→S2.h.get id=some bl→fB fns (f.val F) (dF args F) S2 fun v S1=>Same S2 S1∧fS fns W h0 base l (i+1) (cB d F v) S1 [] (some i) Q):fS fns W h0 base (⟨d,.x (.call f args),none,m⟩::l) i F S [⟨j,id,bl⟩] last Q:=by
 refine aB4 h ?_;rw[cJ ht];exact hw ⟨S.h.set id (some bl),S.nx⟩ ((bB.refl id S).put _) rfl (by simp only;rw[T.get_set,if_pos rfl])
end
theorem fE{d m:Nat}{a:vZ}{l:List AO}{F:Fr}{S:St}{Q:Fr→St→Prop}{v:AV}{bl:AB}(he:xL a F S.nx=some (v,bl))(h:∀S1,Same S S1→S1.nx=S.nx+1→S1.h.get S.nx=some bl→uZ fns l (cB (some d) F v) S1 Q):uZ fns (⟨some d,.a a,none,m⟩::l) F S Q:=by
 rw[aBQ];refine⟨(v,bl),he,h _ (Same.alloc S _) rfl ?_⟩;simp only;rw[T.get_set,if_pos rfl]
theorem fP(W:Nat→Prop){ops:List AO}{A:bH}{S:St}{Q:Out→bH→St→Prop}(h:∀S1,Same S S1→S1.h=S.h→S1.nx=S.nx+ops.length→fS fns W S.h S.nx ops 0 A.F S1 [] none fun F S' ps=>Q .normal ⟨F,A.inr⟩ ⟨(cA (2 ^ ops.length - 1) ps S'.h).2,S'.nx⟩):nO fns (.drw ops) A S Q:=aI2 W (h _ (Same.nx S _) rfl rfl)
end Go.Ev.Gl
