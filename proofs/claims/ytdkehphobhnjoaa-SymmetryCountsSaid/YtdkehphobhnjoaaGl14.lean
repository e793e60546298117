import Derived.Test.YtdkehphobhnjoaaGl13
set_option maxHeartbeats 0
set_option linter.unusedSimpArgs false
set_option linter.unusedVariables false
namespace Go.Ev.Gl
variable {fns:T dU}
theorem uK{t:Nat}{z r:AV}{x:cU}{F:Fr}{id:Nat}{S:St}{l:bu}(h:bO .i64 S r l)(hx:x.val F=r):sH (.ch t 1 1 [z] [(0,x)]) F id=some (.sl id 0 1 1 false,.cells [r] false 0):=by
 show(bH (eZ (repeatL [z] 1) [(0 * 1,1,x.val F)]) fun cs=>some (AV.sl id 0 1 1 false,AB.cells cs false 0))=_;rw[hx];rcases h with⟨_,rfl | rfl⟩ | ⟨b,off,cap,o,cs,rfl,_⟩<;>rfl
def aAM(S0 X:St)(pv:AV)(cs:b6)(A:bt):Prop:=cs.length=A.length/\∀j,j<A.length->∃r,cs[j]? =some r/\bO .i64 X r (A.getD j [])/\∀c,aX r=some c->S0.nx<=c/\aX pv≠some c
theorem aCB{k:IntKind}{X:St}{v:AV}{l:bu}{c:Nat}(h:bO k X v l)(hc:aX v=some c):c<X.nx:=by
 rcases h with⟨_,rfl | rfl⟩ | ⟨b,off,cap,o,cs,rfl,_,h3,_⟩
 ·cases hc
 ·cases hc
 ·cases hc;exact h3
theorem aAM.push{S0 X Z:St}{pv pv' r:AV}{cs:b6}{A:bt}{l:bu}(h:aAM S0 X pv cs A)(hX:S0.nx<=X.nx)(hn:X.nx<=Z.nx)(hk:∀c,c<X.nx->S0.nx<=c->aX pv≠some c->Z.h.get c=X.h.get c)(hr:bO .i64 Z r l)(hb:∀c,aX r=some c->X.nx<=c/\aX pv'≠some c)(hp:∀c,aX pv'=some c->X.nx<=c):aAM S0 Z pv' (cs++ [r]) (A++ [l]):=by
 refine⟨by simp [h.1],fun j hj=>?_⟩;rw[Ai,Av] at hj;rw[xS];by_cases e:j=A.length
 ·rw[if_pos e,e,<-h.1];exact⟨r,by rw[Am (Ag _),Dn];rfl,hr,fun c hc=>⟨Au hX (hb c hc).1,(hb c hc).2⟩⟩
 ·rw[if_neg e];have⟨r',h1,h2,h3⟩:=h.2 j ay;refine⟨r',by rw[Al (by rw[h.1];omega)];exact h1,fO h2 hn fun c hc=>hk c (aCB h2 hc) (h3 c hc).1 (h3 c hc).2,fun c hc=>⟨(h3 c hc).1,fun e=>?_⟩⟩;have:=hp c e;have:=aCB h2 hc;omega
theorem aAM.is{S0 X:St}{pv:AV}{n:Nat}{cs:b6}{A:bt}(h:aAM S0 X pv cs A)(hg:fX 1 S0 X pv n cs)(hn:n=A.length):aP 1 pF X pv A:=by
 subst hn;rcases hg with⟨rfl,h0,_⟩ | ⟨b,rfl,_,h2,h3,_⟩
 ·exact .inl ⟨Bv.1 h0,.inl rfl⟩
 ·refine .inr ⟨b,0,A.length,true,cs,rfl,Ag _,h2,by unfold cJ;rw[h3];rfl,fun i l hi=>?_⟩;have hlt:=(Aj.1 hi).1;have e:A.getD i []=l:=by rw[Ad,hi];rfl
  have⟨r,h4,h5,_⟩:=h.2 i hlt;rw[e] at h5;refine⟨[r],rfl,fun j x hj=>?_,r,rfl,h5⟩;cases j with
  | zero=>
   cases hj;rw[An,Dm];exact h4
  | succ j=>simp at hj
theorem aKo{L:bt}{i:Nat}(h:i<L.length):L.take (i+1)=L.take i++ [L.getD i []]:=by
 rw[Bx,Ac h,Ad,Ac h];rfl
end Go.Ev.Gl
namespace Go.Ev.Gl
section
variable {P:Program}{σ:Env}{S:St}{w:World}
end
end Go.Ev.Gl
