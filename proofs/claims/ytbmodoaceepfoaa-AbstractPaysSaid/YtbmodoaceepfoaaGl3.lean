import Derived.Test.YtbmodoaceepfoaaGl2
set_option linter.all false
set_option maxHeartbeats 0
namespace Go.Ev.Gl
variable {fns:T fD}
variable {j:Nat}{bl:AB}{S:St}
section
variable {W:Nat->Prop}{h0:T AB}{base:Nat}{d:Option Nat}{m i:Nat}{l:List AO}{F:Fr}{S:St}{last:Option Nat}{Q:Fr->St->List jD->Prop}
def cK{id:Nat}{h:T AB}(a:Nat.testBit m j=true):cN m [⟨j,id,bl⟩] h=([],h.set id (some bl)):=by
 unfold cN;rw[show Nat.testBit m (jD.mk j id bl).i=true from a,aL];rfl
def aDS{f:cQ}{args:List cQ}{id:Nat}(b:Nat.testBit m j=true)(h:lL last m=true)(c:∀a,cA id S a->a.nx=S.nx->a.h.get id=some bl->iK fns (f.val F) (dV args F) a fun v S1=>jq a S1/\gO fns W h0 base l (i+1) (cT d F v) S1 [] (some i) Q):gO fns W h0 base (⟨d,.x (.call f args),none,m⟩::l) i F S [⟨j,id,bl⟩] last Q:=by
 refine aF2 h ?_;rw[cK b];exact c ⟨S.h.set id (some bl),S.nx⟩ ((cA.refl id S).put _) rfl jh
end
def fQ{d m:Nat}{a:yX}{l:List AO}{F:Fr}{Q:Fr->St->Prop}{v:AV}(b:uI a F S.nx=some (v,bl))(h:∀S1,jq S S1->S1.nx=S.nx+1->S1.h.get S.nx=some bl->vG fns l (cT (some d) F v) S1 Q):vG fns (⟨some d,.a a,none,m⟩::l) F S Q:=by
 rw[aCm];refine⟨(v,bl),b,h _ (jq.alloc S _) rfl ?_⟩;simp only;rw[dx,if_pos rfl]
def pJ(W:Nat->Prop){a:List AO}{A:bO}{Q:Out->bO->St->Prop}(h:∀S1,jq S S1->S1.h=S.h->S1.nx=S.nx+a.length->gO fns W S.h S.nx a 0 A.F S1 [] none fun F S' ps=>Q .normal ⟨F,A.inr⟩ ⟨(cN (2 ^ a.length - 1) ps S'.h).2,S'.nx⟩):jN fns (.drw a) A S Q:=nR W (h _ (jq.nx S _) rfl rfl)
def aLz{S':St}(a:S'.h=S.h)(b:S.nx<=S'.nx):jq S S':=⟨b,fun _ _=>by rw[a]⟩
end Go.Ev.Gl
