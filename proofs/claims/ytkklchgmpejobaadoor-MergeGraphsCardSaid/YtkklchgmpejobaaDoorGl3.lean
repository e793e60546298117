import Derived.Test.YtkklchgmpejobaaDoorGl2
set_option maxHeartbeats 16000000
set_option linter.unusedSimpArgs false
set_option linter.unusedVariables false
namespace Go.Ev.Gl
variable {fns:T cR}
section
variable {W:Nat→Prop}{h0:T AB}{base:Nat}{d:Option Nat}{m i:Nat}{l:List AO}{F:Fr}{S:St}{last:Option Nat}{Q:Fr→St→List iE→Prop}
theorem cD{j id:Nat}{bl:AB}{h:T AB}(ht:Nat.testBit m j=true):bV m [⟨j,id,bl⟩] h=([],h.set id (some bl)):=by
 unfold bV;rw[show Nat.testBit m (iE.mk j id bl).i=true from ht,aM];rfl
theorem aBH{f:cC}{args:List cC}{j id:Nat}{bl:AB}(ht:Nat.testBit m j=true)(h:kF last m=true)(hw:∀S2,bB id S S2→S2.nx=S.nx→S2.h.get id=some bl→fH fns (f.val F) (cM args F) S2 fun v S1=>Same S2 S1∧eS fns W h0 base l (i+1) (bY d F v) S1 [] (some i) Q):eS fns W h0 base (⟨d,.x (.call f args),none,m⟩::l) i F S [⟨j,id,bl⟩] last Q:=by
 refine aAA h ?_;rw[cD ht];exact hw ⟨S.h.set id (some bl),S.nx⟩ ((bB.refl id S).put _) rfl (by simp only;rw[T.get_set,if_pos rfl])
end
theorem fU{d m:Nat}{a:uG}{l:List AO}{F:Fr}{S:St}{Q:Fr→St→Prop}{v:AV}{bl:AB}(he:uP a F S.nx=some (v,bl))(h:∀S1,Same S S1→S1.nx=S.nx+1→S1.h.get S.nx=some bl→qU fns l (bY (some d) F v) S1 Q):qU fns (⟨some d,.a a,none,m⟩::l) F S Q:=by
 rw[aAl];refine⟨(v,bl),he,h _ (Same.alloc S _) rfl ?_⟩;simp only;rw[T.get_set,if_pos rfl]
theorem iN(W:Nat→Prop){ops:List AO}{A:bK}{S:St}{Q:Out→bK→St→Prop}(h:∀S1,Same S S1→S1.h=S.h→S1.nx=S.nx+ops.length→eS fns W S.h S.nx ops 0 A.F S1 [] none fun F S' ps=>Q .normal ⟨F,A.inr⟩ ⟨(bV (2 ^ ops.length - 1) ps S'.h).2,S'.nx⟩):oL fns (.drw ops) A S Q:=aGX W (h _ (Same.nx S _) rfl rfl)
end Go.Ev.Gl
