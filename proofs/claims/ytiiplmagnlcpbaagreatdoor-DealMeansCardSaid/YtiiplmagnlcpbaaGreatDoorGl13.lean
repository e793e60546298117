import Derived.Test.YtiiplmagnlcpbaaGreatDoorGl12
set_option linter.unusedSimpArgs false
set_option linter.unusedVariables false
set_option maxHeartbeats 0
namespace Go.Ev.Gl
variable {fns:T dD}
section
variable {h:Ev.T AB}{b:Nat}{x0 x1:AV}{o:Bool}{s:Nat}
theorem aNE(hb:h.get b=some (.cells [x0,x1] o s)):dJ (.ptr b (0+0)) false 1 h=some x0:=ldc hb rfl
theorem aKR(hb:h.get b=some (.cells [x0,x1] o s)):dJ (.ptr b (0+1)) false 1 h=some x1:=ldc hb rfl
end
theorem aIz{L:List (bm)}{i:Nat}(h:i<L.length):L[i]? =some (L.getD i []):=by
 rw[Ae,Ad h];rfl
def wM(M:Nat)(g:bD)(i:Nat):Nat:=if(cj g i).kind=1 then(cj g i).weights.sum.toNat else if(cj g i).kind=2 then M else 1
structure zO(M:Nat)(g:bD)(pr:Nat->Nat):Prop where
 zero:pr 0=1
 kid:∀i,i<g.bw.length->∀k,k<(cj g i).next.length->pr ((cj g i).next.getD k 0).toNat=pr i * wM M g i
theorem aGF(M:Nat){g:bD}(G:jI g):∃pr,zO M g pr:=by
 have key:∀n:Nat,∃pr:Nat->Nat,pr 0=1/\∀i,i<g.bw.length->∀k,k<(cj g i).next.length->(cj g i).next.getD k 0<(n:Int)->pr ((cj g i).next.getD k 0).toNat=pr i * wM M g i:=by
  intro n
  induction n with
  | zero=>exact⟨fun _=>1,rfl,fun i hi k hk h=>by have:=(G.kids i hi k hk).1;omega⟩
  | succ n ih=>
   have⟨pr,h0,h1⟩:=ih;by_cases hn:0<n/\n<g.bw.length
   ·have⟨q,k0,hq,hk0,he⟩:=gB G hn.1 hn.2;refine⟨fun j=>if j=n then pr q * wM M g q else pr j,by simp only;rw[if_neg au];exact h0,fun i hi k hk h=>?_⟩;have hb:=G.kids i hi k hk;simp only;by_cases e:(cj g i).next.getD k 0=(n:Int)
    ·obtain⟨rfl,rfl⟩:=G.only hi hk au hk0 (by rw[e,he]);rw[e,Bd,if_pos rfl,if_neg au]
    ·rw[if_neg au,if_neg au];exact h1 i hi k hk au
   ·refine⟨pr,h0,fun i hi k hk h=>h1 i hi k hk ?_⟩;have hb:=G.kids i hi k hk;omega
 have⟨pr,h0,h1⟩:=key g.bw.length;exact⟨pr,h0,fun i hi k hk=>h1 i hi k hk (G.kids i hi k hk).2⟩
def aNf(M:Nat)(g:bD)(pr:Nat->Nat)(o:Option Nat)(i:Nat):Option Nat:=o.bind fun z=>if(cj g i).kind=3 then zJ z (pr i) else if 1000000000000000<pr i * wM M g i then none else some z
def spF(M:Nat)(g:bD)(pr:Nat->Nat)(n:Nat):Option Nat:=(List.range n).foldl (aNf M g pr) (some 1)
section
variable {M:Nat}{g:bD}{pr:Nat->Nat}
theorem aA9(n:Nat):spF M g pr (n+1)=aNf M g pr (spF M g pr n) n:=by unfold spF;rw[List.range_succ,List.foldl_append];rfl
theorem aQM(hM:1<=M/\M<=1073741824)(G:fH g){i:Nat}(hi:i<g.bw.length):0<wM M g i/\wM M g i<=1073741824000:=by
 unfold wM;split
 ·rename_i h;have⟨h1,h2⟩:=G.small hi h;have:=h1.all;omega
 ·split
  ·omega
  ·omega
theorem zO.pos(P:zO M g pr)(hM:1<=M/\M<=1073741824)(G:fH g):∀ {j:Nat},j<g.bw.length->0<pr j:=by
 intro j
 induction j using Nat.strongRecOn with
 | ind j ih=>
  intro hj;rcases An j with h0 | h0
  ·subst h0;rw[P.zero];exact Nat.one_pos
  ·have⟨q,k,hq,hk,he⟩:=gB G.good h0 hj;have:=P.kid q au k hk;rw[he,Bd] at this;rw[this];exact Ew (ih q hq au) (aQM hM G au).1
theorem aH8(P:zO M g pr)(hM:1<=M/\M<=1073741824)(G:fH g):∀ {n z:Nat},n<=g.bw.length->spF M g pr n=some z->0<z/\z<=1000000000000000/\(∀j,j<n->(cj g j).kind≠3->pr j * wM M g j<=1000000000000000)
 | 0,z,_,h=>by
  have:some 1=some z:=h;cases this;exact⟨au,au,fun j hj=>au⟩
 | n+1,z,hn,h=>by
  rw[aA9] at h;cases h1:spF M g pr n with
  | none=>rw[h1] at h;cases h
  | some y=>
   have⟨a,b,c⟩:=aH8 P hM G (n:=n) au h1;rw[h1] at h;have h:(if(cj g n).kind=3 then zJ y (pr n) else if 1000000000000000<pr n * wM M g n then none else some y)=some z:=h;split at h
   ·rename_i h3;have⟨d,e⟩:=aFR h a (P.pos hM G au);refine⟨d,e,fun j hj hk=>?_⟩;by_cases hjn:j=n
    ·subst hjn;exact absurd h3 hk
    ·exact c j au hk
   ·split at h
    ·cases h
    ·rename_i h3 h4;cases h;refine⟨a,b,fun j hj hk=>?_⟩;by_cases hjn:j=n
     ·subst hjn;omega
     ·exact c j au hk
end
theorem aOq{l:bm}{j:Nat}(h:j<l.length):l.getD j 0∈l:=by
 rw[Ae,Ad h];exact Cv h
theorem aQl{t:Nat}{z r:AV}{x:cP}{F:Fr}{id:Nat}{S:St}{l:bm}(h:cH .i64 S r l)(hx:x.val F=r):tA (.cm t 1 1 [z] [(0,x)]) F id=some (.sl id 0 1 1 false,.cells [r] false 0):=by
 show(aU (eQ (repeatL [z] 1) [(0 * 1,1,x.val F)]) fun cs=>some (AV.sl id 0 1 1 false,AB.cells cs false 0))=_;rw[hx];rcases h with⟨_,rfl | rfl⟩ | ⟨b,off,cap,o,cs,rfl,_⟩<;>rfl
def aKN(S0 X:St)(pv:AV)(cs:bo)(A:List (bm)):Prop:=cs.length=A.length/\∀j,j<A.length->∃r,cs[j]? =some r/\cH .i64 X r (A.getD j [])/\∀c,bP r=some c->S0.nx<=c/\bP pv≠some c
theorem aKP{k:IntKind}{X:St}{v:AV}{l:bm}{c:Nat}(h:cH k X v l)(hc:bP v=some c):c<X.nx:=by
 rcases h with⟨_,rfl | rfl⟩ | ⟨b,off,cap,o,cs,rfl,_,h3,_⟩
 ·cases hc
 ·cases hc
 ·cases hc;exact h3
theorem aKN.push{S0 X Z:St}{pv pv' r:AV}{cs:bo}{A:List (bm)}{l:bm}(h:aKN S0 X pv cs A)(hX:S0.nx<=X.nx)(hn:X.nx<=Z.nx)(hk:∀c,c<X.nx->S0.nx<=c->bP pv≠some c->Z.h.get c=X.h.get c)(hr:cH .i64 Z r l)(hb:∀c,bP r=some c->X.nx<=c/\bP pv'≠some c)(hp:∀c,bP pv'=some c->X.nx<=c):aKN S0 Z pv' (cs++ [r]) (A++ [l]):=by
 refine⟨by simp [h.1],fun j hj=>?_⟩;rw[Aj,Bc] at hj;rw[aMy];by_cases e:j=A.length
 ·rw[if_pos e,e,<-h.1];exact⟨r,by rw[Aq (Af _),Ef];rfl,hr,fun c hc=>⟨Bb hX (hb c hc).1,(hb c hc).2⟩⟩
 ·rw[if_neg e];have⟨r',h1,h2,h3⟩:=h.2 j au;refine⟨r',by rw[Ap (by rw[h.1];omega)];exact h1,mC h2 hn fun c hc=>hk c (aKP h2 hc) (h3 c hc).1 (h3 c hc).2,fun c hc=>⟨(h3 c hc).1,fun e=>?_⟩⟩;have:=hp c e;have:=aKP h2 hc;omega
end Go.Ev.Gl
namespace Go.Ev.Gl
section
variable {P:Program}{σ:Env}{S:St}{w:World}
end
end Go.Ev.Gl
