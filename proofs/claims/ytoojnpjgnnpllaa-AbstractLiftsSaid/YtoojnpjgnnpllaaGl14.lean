import Derived.Test.YtoojnpjgnnpllaaGl13
set_option maxHeartbeats 0
set_option linter.unusedSimpArgs false
set_option linter.unusedVariables false
namespace Go.Ev.Gl
variable {fns:T dY}
theorem aCY{t:Nat}{z r:AV}{x:cO}{F:Fr}{id:Nat}{S:St}{l:ba}(h:bI .i64 S r l)(hx:x.val F=r):uW (.cj t 1 1 [z] [(0,x)]) F id=some (.sl id 0 1 1 false,.cells [r] false 0):=by
 show(bC (eQ (repeatL [z] 1) [(0 * 1,1,x.val F)]) fun cs=>some (AV.sl id 0 1 1 false,AB.cells cs false 0))=_;rw[hx];rcases h with⟨_,rfl | rfl⟩ | ⟨b,off,cap,o,cs,rfl,_⟩<;>rfl
def pO(S0 X:St)(pv:AV)(cs:bf)(A:a9):Prop:=cs.length=A.length/\∀j,j<A.length->∃r,cs[j]? =some r/\bI .i64 X r (A.getD j [])/\∀c,aZ r=some c->S0.nx<=c/\aZ pv≠some c
theorem aJU{k:IntKind}{X:St}{v:AV}{l:ba}{c:Nat}(h:bI k X v l)(hc:aZ v=some c):c<X.nx:=by
 rcases h with⟨_,rfl | rfl⟩ | ⟨b,off,cap,o,cs,rfl,_,h3,_⟩
 ·cases hc
 ·cases hc
 ·cases hc;exact h3
theorem pO.push{S0 X Z:St}{pv pv' r:AV}{cs:bf}{A:a9}{l:ba}(h:pO S0 X pv cs A)(hX:S0.nx<=X.nx)(hn:X.nx<=Z.nx)(hk:∀c,c<X.nx->S0.nx<=c->aZ pv≠some c->Z.h.get c=X.h.get c)(hr:bI .i64 Z r l)(hb:∀c,aZ r=some c->X.nx<=c/\aZ pv'≠some c)(hp:∀c,aZ pv'=some c->X.nx<=c):pO S0 Z pv' (cs++ [r]) (A++ [l]):=by
 refine⟨by simp [h.1],fun j hj=>?_⟩;rw[Ao,Bl] at hj;rw[aBG];by_cases e:j=A.length
 ·rw[if_pos e,e,<-h.1];exact⟨r,by rw[Be (Ag _),Eh];rfl,hr,fun c hc=>⟨Al hX (hb c hc).1,(hb c hc).2⟩⟩
 ·rw[if_neg e];have⟨r',h1,h2,h3⟩:=h.2 j ar;refine⟨r',by rw[Bg (by rw[h.1];omega)];exact h1,eT h2 hn fun c hc=>hk c (aJU h2 hc) (h3 c hc).1 (h3 c hc).2,fun c hc=>⟨(h3 c hc).1,fun e=>?_⟩⟩;have:=hp c e;have:=aJU h2 hc;omega
theorem pO.is{S0 X:St}{pv:AV}{n:Nat}{cs:bf}{A:a9}(h:pO S0 X pv cs A)(hg:fY 1 S0 X pv n cs)(hn:n=A.length):aE 1 iD X pv A:=by
 subst hn;rcases hg with⟨rfl,h0,_⟩ | ⟨b,rfl,_,h2,h3,_⟩
 ·exact .inl ⟨Bu.1 h0,.inl rfl⟩
 ·refine .inr ⟨b,0,A.length,true,cs,rfl,Ag _,h2,by unfold cK;rw[h3];rfl,fun i l hi=>?_⟩;have hlt:=(Ai.1 hi).1;have e:A.getD i []=l:=by rw[Ad,hi];rfl
  have⟨r,h4,h5,_⟩:=h.2 i hlt;rw[e] at h5;refine⟨[r],rfl,fun j x hj=>?_,r,rfl,h5⟩;cases j with
  | zero=>
   cases hj;rw[An,Cr];exact h4
  | succ j=>simp at hj
theorem aKm{L:a9}{i:Nat}(h:i<L.length):L.take (i+1)=L.take i++ [L.getD i []]:=by
 rw[Bn,Ab h,Ad,Ab h];rfl
end Go.Ev.Gl
namespace Go.Ev.Gl
section
variable {P:Program}{σ:Env}{S:St}{w:World}
end
end Go.Ev.Gl
