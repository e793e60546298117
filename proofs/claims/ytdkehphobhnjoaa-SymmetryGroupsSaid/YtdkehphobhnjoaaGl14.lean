import Derived.Test.YtdkehphobhnjoaaGl13
set_option maxHeartbeats 16000000
set_option linter.unusedSimpArgs false
set_option linter.unusedVariables false
namespace Go.Ev.Gl
variable {fns:T dE}
theorem oP{t:Nat}{z r:AV}{x:cJ}{F:Fr}{id:Nat}{S:St}{l:List Int}(h:bN .i64 S r l)(hx:x.val F=r):vG (.bslice t 1 1 [z] [(0,x)]) F id=some (.sl id 0 1 1 false,.cells [r] false 0):=by
 show(aZ (gH (repeatL [z] 1) [(0 * 1,1,x.val F)]) fun cs=>some (AV.sl id 0 1 1 false,AB.cells cs false 0))=_;rw[hx];rcases h with⟨_,rfl | rfl⟩ | ⟨b,off,cap,o,cs,rfl,_⟩<;>rfl
def vO(S0 X:St)(pv:AV)(cs:List AV)(A:List (List Int)):Prop:=cs.length=A.length∧∀j,j<A.length→∃r,cs[j]? =some r∧bN .i64 X r (A.getD j [])∧∀c,cL r=some c→S0.nx≤c∧cL pv≠some c
theorem aA3{k:IntKind}{X:St}{v:AV}{l:List Int}{c:Nat}(h:bN k X v l)(hc:cL v=some c):c<X.nx:=by
 rcases h with⟨_,rfl | rfl⟩ | ⟨b,off,cap,o,cs,rfl,_,h3,_⟩
 ·cases hc
 ·cases hc
 ·cases hc;exact h3
theorem vO.push{S0 X Z:St}{pv pv' r:AV}{cs:List AV}{A:List (List Int)}{l:List Int}(h:vO S0 X pv cs A)(hX:S0.nx≤X.nx)(hn:X.nx≤Z.nx)(hk:∀c,c<X.nx→S0.nx≤c→cL pv≠some c→Z.h.get c=X.h.get c)(hr:bN .i64 Z r l)(hb:∀c,cL r=some c→X.nx≤c∧cL pv'≠some c)(hp:∀c,cL pv'=some c→X.nx≤c):vO S0 Z pv' (cs++ [r]) (A++ [l]):=by
 refine⟨by simp [h.1],fun j hj=>?_⟩;rw[Ak,Bz] at hj;rw[uV];by_cases e:j=A.length
 ·rw[if_pos e,e,←h.1];exact⟨r,by rw[Av (Ah _),Dr];rfl,hr,fun c hc=>⟨Ay hX (hb c hc).1,(hb c hc).2⟩⟩
 ·rw[if_neg e];obtain⟨r',h1,h2,h3⟩:=h.2 j (by omega);refine⟨r',by rw[Ba (by rw[h.1];omega)];exact h1,lT h2 hn fun c hc=>hk c (aA3 h2 hc) (h3 c hc).1 (h3 c hc).2,fun c hc=>⟨(h3 c hc).1,fun e=>?_⟩⟩;have:=hp c e;have:=aA3 h2 hc;omega
theorem vO.is{S0 X:St}{pv:AV}{n:Nat}{cs:List AV}{A:List (List Int)}(h:vO S0 X pv cs A)(hg:jZ 1 S0 X pv n cs)(hn:n=A.length):aN 1 kJ X pv A:=by
 subst hn;rcases hg with⟨rfl,h0,_⟩ | ⟨b,rfl,_,h2,h3,_⟩
 ·exact .inl ⟨Cg.1 h0,.inl rfl⟩
 ·refine .inr ⟨b,0,A.length,true,cs,rfl,Ah _,h2,by unfold cS;rw[h3];rfl,fun i l hi=>?_⟩;have hlt:=(Ai.1 hi).1;have e:A.getD i []=l:=by rw[Ad,hi];rfl
  obtain⟨r,h4,h5,_⟩:=h.2 i hlt;rw[e] at h5;refine⟨[r],rfl,fun j x hj=>?_,r,rfl,h5⟩;cases j with
  | zero=>
   cases hj;rw[An,Dn];exact h4
  | succ j=>simp at hj
theorem aH5{L:List (List Int)}{i:Nat}(h:i<L.length):L.take (i+1)=L.take i++ [L.getD i []]:=by
 rw[Bi,Ac h,Ad,Ac h];rfl
end Go.Ev.Gl
namespace Go.Ev.Gl
section
variable {P:Program}{σ:Env}{S:St}{w:World}
end
end Go.Ev.Gl
