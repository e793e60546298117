import Derived.Test.YtoojnpjgnnpllaaGl2
set_option maxHeartbeats 0
set_option linter.unusedSimpArgs false
set_option linter.unusedVariables false
namespace Go.Ev.Gl
variable {fns:T dY}
section
variable {W:Nat->Prop}{h0:T AB}{base:Nat}{d:Option Nat}{m i:Nat}{l:List AO}{F:Fr}{S:St}{last:Option Nat}{Q:Fr->St->List iQ->Prop}
theorem cP{j id:Nat}{bl:AB}{h:T AB}(ht:Nat.testBit m j=true):cJ m [⟨j,id,bl⟩] h=([],h.set id (some bl)):=by
 unfold cJ;rw[show Nat.testBit m (iQ.mk j id bl).i=true from ht,aR];rfl
theorem aEc{f:cO}{args:List cO}{j id:Nat}{bl:AB}(ht:Nat.testBit m j=true)(h:jQ last m=true)(hw:∀S2,bT id S S2->S2.nx=S.nx->S2.h.get id=some bl->fZ fns (f.val F) (dG args F) S2 fun v S1=>Same S2 S1/\fF fns W h0 base l (i+1) (cM d F v) S1 [] (some i) Q):fF fns W h0 base (⟨d,.x (.call f args),none,m⟩::l) i F S [⟨j,id,bl⟩] last Q:=by
 refine aE4 h ?_;rw[cP ht];exact hw ⟨S.h.set id (some bl),S.nx⟩ ((bT.refl id S).put _) rfl fk
end
theorem fN{d m:Nat}{a:wN}{l:List AO}{F:Fr}{S:St}{Q:Fr->St->Prop}{v:AV}{bl:AB}(he:uW a F S.nx=some (v,bl))(h:∀S1,Same S S1->S1.nx=S.nx+1->S1.h.get S.nx=some bl->vL fns l (cM (some d) F v) S1 Q):vL fns (⟨some d,.a a,none,m⟩::l) F S Q:=by
 rw[aBN];refine⟨(v,bl),he,h _ (Same.alloc S _) rfl ?_⟩;simp only;rw[di,if_pos rfl]
theorem nS(W:Nat->Prop){ops:List AO}{A:bG}{S:St}{Q:Out->bG->St->Prop}(h:∀S1,Same S S1->S1.h=S.h->S1.nx=S.nx+ops.length->fF fns W S.h S.nx ops 0 A.F S1 [] none fun F S' ps=>Q .normal ⟨F,A.inr⟩ ⟨(cJ (2 ^ ops.length - 1) ps S'.h).2,S'.nx⟩):iM fns (.drw ops) A S Q:=kJ W (h _ (Same.nx S _) rfl rfl)
def aO5(S:St)(a b:AV)(l m:bg)(k:Nat)(A:bG)(S':St):Prop:=
 A.inr=false/\S'.h=S.h/\S.nx<=S'.nx/\∃i:Nat,i+k=l.length/\aD 0 A.F=a/\aD 1 A.F=b/\aD 5 A.F= .int .i64 (i:Int)/\l.take i=m.take i
theorem aJ0{S S':St}(h1:S'.h=S.h)(h2:S.nx<=S'.nx):Same S S':=⟨h2,fun _ _=>by rw[h1]⟩
end Go.Ev.Gl
