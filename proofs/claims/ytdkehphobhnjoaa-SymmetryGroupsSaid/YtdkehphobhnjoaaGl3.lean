import Derived.Test.YtdkehphobhnjoaaGl2
set_option maxHeartbeats 16000000
set_option linter.unusedSimpArgs false
set_option linter.unusedVariables false
namespace Go.Ev.Gl
variable {fns:T dE}
section
variable {W:Nat→Prop}{h0:T AB}{base:Nat}{d:Option Nat}{m i:Nat}{l:List AO}{F:Fr}{S:St}{last:Option Nat}{Q:Fr→St→List iV→Prop}
theorem mU{j id:Nat}{bl:AB}{h:T AB}(ht:Nat.testBit m j=true):cH m [⟨j,id,bl⟩] h=([],h.set id (some bl)):=by
 unfold cH;rw[show Nat.testBit m (iV.mk j id bl).i=true from ht,aQ];rfl
theorem aBr{f:cJ}{args:List cJ}{j id:Nat}{bl:AB}(ht:Nat.testBit m j=true)(h:kV last m=true)(hw:∀S2,bQ id S S2→S2.nx=S.nx→S2.h.get id=some bl→fA fns (f.val F) (cO args F) S2 fun v S1=>Same S2 S1∧fQ fns W h0 base l (i+1) (cD d F v) S1 [] (some i) Q):fQ fns W h0 base (⟨d,.x (.call f args),none,m⟩::l) i F S [⟨j,id,bl⟩] last Q:=by
 refine aC3 h ?_;rw[mU ht];exact hw ⟨S.h.set id (some bl),S.nx⟩ ((bQ.refl id S).put _) rfl (by simp only;rw[T.get_set,if_pos rfl])
end
theorem fX{d m:Nat}{a:uD}{l:List AO}{F:Fr}{S:St}{Q:Fr→St→Prop}{v:AV}{bl:AB}(he:vG a F S.nx=some (v,bl))(h:∀S1,Same S S1→S1.nx=S.nx+1→S1.h.get S.nx=some bl→qL fns l (cD (some d) F v) S1 Q):qL fns (⟨some d,.a a,none,m⟩::l) F S Q:=by
 rw[zW];refine⟨(v,bl),he,h _ (Same.alloc S _) rfl ?_⟩;simp only;rw[T.get_set,if_pos rfl]
theorem qA(W:Nat→Prop){ops:List AO}{A:bH}{S:St}{Q:Out→bH→St→Prop}(h:∀S1,Same S S1→S1.h=S.h→S1.nx=S.nx+ops.length→fQ fns W S.h S.nx ops 0 A.F S1 [] none fun F S' ps=>Q .normal ⟨F,A.inr⟩ ⟨(cH (2 ^ ops.length - 1) ps S'.h).2,S'.nx⟩):mA fns (.drw ops) A S Q:=qS W (h _ (Same.nx S _) rfl rfl)
end Go.Ev.Gl
