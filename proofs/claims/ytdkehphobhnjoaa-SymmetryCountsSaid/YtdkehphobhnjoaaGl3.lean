import Derived.Test.YtdkehphobhnjoaaGl2
set_option maxHeartbeats 0
set_option linter.unusedSimpArgs false
set_option linter.unusedVariables false
namespace Go.Ev.Gl
variable {fns:T dU}
section
variable {W:Nat->Prop}{h0:T AB}{base:Nat}{d:Option Nat}{m i:Nat}{l:List AO}{F:Fr}{S:St}{last:Option Nat}{Q:Fr->St->List iH->Prop}
theorem cS{j id:Nat}{bl:AB}{h:T AB}(ht:Nat.testBit m j=true):cO m [⟨j,id,bl⟩] h=([],h.set id (some bl)):=by
 unfold cO;rw[show Nat.testBit m (iH.mk j id bl).i=true from ht,aO];rfl
theorem aC6{f:cU}{args:List cU}{j id:Nat}{bl:AB}(ht:Nat.testBit m j=true)(h:mB last m=true)(hw:∀S2,cC id S S2->S2.nx=S.nx->S2.h.get id=some bl->gH fns (f.val F) (dG args F) S2 fun v S1=>Same S2 S1/\gN fns W h0 base l (i+1) (cR d F v) S1 [] (some i) Q):gN fns W h0 base (⟨d,.x (.call f args),none,m⟩::l) i F S [⟨j,id,bl⟩] last Q:=by
 refine aET h ?_;rw[cS ht];exact hw ⟨S.h.set id (some bl),S.nx⟩ ((cC.refl id S).put _) rfl fq
end
theorem gO{d m:Nat}{a:wY}{l:List AO}{F:Fr}{S:St}{Q:Fr->St->Prop}{v:AV}{bl:AB}(he:sH a F S.nx=some (v,bl))(h:∀S1,Same S S1->S1.nx=S.nx+1->S1.h.get S.nx=some bl->tS fns l (cR (some d) F v) S1 Q):tS fns (⟨some d,.a a,none,m⟩::l) F S Q:=by
 rw[aBK];refine⟨(v,bl),he,h _ (Same.alloc S _) rfl ?_⟩;simp only;rw[dd,if_pos rfl]
theorem qO(W:Nat->Prop){ops:List AO}{A:bS}{S:St}{Q:Out->bS->St->Prop}(h:∀S1,Same S S1->S1.h=S.h->S1.nx=S.nx+ops.length->gN fns W S.h S.nx ops 0 A.F S1 [] none fun F S' ps=>Q .normal ⟨F,A.inr⟩ ⟨(cO (2 ^ ops.length - 1) ps S'.h).2,S'.nx⟩):lU fns (.drw ops) A S Q:=qZ W (h _ (Same.nx S _) rfl rfl)
end Go.Ev.Gl
