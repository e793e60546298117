import Derived.Test.YtbmodoaceepfoaaGl2
set_option linter.all false
set_option maxHeartbeats 0
namespace Go.Ev.Gl
variable {fns:T eY}
variable {j:Nat}{bl:AB}{S:St}
section
variable {W:Nat->Prop}{h0:T AB}{base:Nat}{d:Option Nat}{m i:Nat}{l:List AO}{F:Fr}{S:St}{last:Option Nat}{Q:Fr->St->List iR->Prop}
def cL{id:Nat}{h:T AB}(a:Nat.testBit m j=true):cP m [⟨j,id,bl⟩] h=([],h.set id (some bl)):=by
 unfold cP;rw[show Nat.testBit m (iR.mk j id bl).i=true from a,aN];rfl
def aDX{f:cT}{args:List cT}{id:Nat}(b:Nat.testBit m j=true)(h:kE last m=true)(c:∀a,cD id S a->a.nx=S.nx->a.h.get id=some bl->iI fns (f.val F) (eF args F) a fun v S1=>Same a S1/\gF fns W h0 base l (i+1) (cU d F v) S1 [] (some i) Q):gF fns W h0 base (⟨d,.x (.call f args),none,m⟩::l) i F S [⟨j,id,bl⟩] last Q:=by
 refine aFX h ?_;rw[cL b];exact c ⟨S.h.set id (some bl),S.nx⟩ ((cD.refl id S).put _) rfl jd
end
def fW{d m:Nat}{a:zD}{l:List AO}{F:Fr}{Q:Fr->St->Prop}{v:AV}(b:uH a F S.nx=some (v,bl))(h:∀S1,Same S S1->S1.nx=S.nx+1->S1.h.get S.nx=some bl->vT fns l (cU (some d) F v) S1 Q):vT fns (⟨some d,.a a,none,m⟩::l) F S Q:=by
 rw[aCn];refine⟨(v,bl),b,h _ (Same.alloc S _) rfl ?_⟩;simp only;rw[ef,if_pos rfl]
def sJ(W:Nat->Prop){a:List AO}{A:bO}{Q:Out->bO->St->Prop}(h:∀S1,Same S S1->S1.h=S.h->S1.nx=S.nx+a.length->gF fns W S.h S.nx a 0 A.F S1 [] none fun F b ps=>Q .normal ⟨F,A.inr⟩ ⟨(cP (2 ^ a.length - 1) ps b.h).2,b.nx⟩):jP fns (.drw a) A S Q:=nN W (h _ (Same.nx S _) rfl rfl)
def aSd(S:St)(a b:AV)(l m:ce)(k:Nat)(A:bO)(c:St):Prop:=
 A.inr=false/\c.h=S.h/\S.nx<=c.nx/\∃i:Nat,i+k=l.length/\aC 0 A.F=a/\aC 1 A.F=b/\aC 5 A.F=je (i:Int)/\l.take i=m.take i
def aLf{S':St}(a:S'.h=S.h)(b:S.nx<=S'.nx):Same S S':=⟨b,fun _ _=>by rw[a]⟩
end Go.Ev.Gl
