import Derived.Test.YtbmodoaceepfoaaGl13
set_option linter.all false
set_option maxHeartbeats 0
namespace Go.Ev.Gl
variable {fns:T eY}
variable {r pv:AV}{l:bu}{X S0:St}{cs:cd}{A:bt}
def aDx{t:Nat}{z:AV}{x:cT}{F:Fr}{id:Nat}{S:St}(h:bN .i64 S r l)(a:x.val F=r):uH (.dd t 1 1 [z] [(0,x)]) F id=some (.sl id 0 1 1 false,.cells [r] false 0):=by
 show(bG (eI (repeatL [z] 1) [(0 * 1,1,x.val F)]) fun cs=>some (AV.sl id 0 1 1 false,AB.cells cs false 0))=_;rw[a];rcases h with⟨_,rfl|rfl⟩|⟨b,off,cap,o,cs,rfl,_⟩<;>rfl
def qU(S0 X:St)(pv:AV)(cs:cd)(A:bt):Prop:=cs.length=A.length/\∀j,j<A.length->∃r,cs[j]? =some r/\bN .i64 X r (A.getD j [])/\∀c,aM r=some c->S0.nx<=c/\aM pv≠some c
def aKI{k:IntKind}{v:AV}{c:Nat}(h:bN k X v l)(a:aM v=some c):c<X.nx:=by
 rcases h with⟨_,rfl|rfl⟩|⟨b,off,cap,o,cs,rfl,_,d,_⟩
 .cases a
 .cases a
 .cases a;exact d
def qU.push{Z:St}{pv':AV}(h:qU S0 X pv cs A)(g:S0.nx<=X.nx)(i:X.nx<=Z.nx)(k:∀c,c<X.nx->S0.nx<=c->aM pv≠some c->Z.h.get c=X.h.get c)(m:bN .i64 Z r l)(f:∀c,aM r=some c->X.nx<=c/\aM pv'≠some c)(n:∀c,aM pv'=some c->X.nx<=c):qU S0 Z pv' (cs++ [r]) (A++ [l]):=by
 refine⟨by simp [h.1],fun j o=>?_⟩;rw[Aj,Ba] at o;rw[aCw];by_cases e:j=A.length
 .rw[if_pos e,e,<-h.1];exact⟨r,by rw[Ap (Af _),Dt];rfl,m,fun c a=>⟨Av g (f c a).1,(f c a).2⟩⟩
 .rw[if_neg e];have⟨p,q,b,d⟩:=h.2 j au;refine⟨p,by rw[Ao (by rw[h.1];omega)];exact q,eT b i fun c a=>k c (aKI b a) (d c a).1 (d c a).2,fun c a=>⟨(d c a).1,fun e=>?_⟩⟩;have:=n c e;have:=aKI b a;omega
def qU.is{n:Nat}(h:qU S0 X pv cs A)(f:fP 1 S0 X pv n cs)(g:n=A.length):aG 1 nK X pv A:=by
 subst g;rcases f with⟨rfl,k,_⟩|⟨b,rfl,_,m,o,_⟩
 .exact .inl ⟨Bo.1 k,.inl rfl⟩
 .refine .inr ⟨b,0,A.length,true,cs,rfl,Af _,m,by unfold cI;rw[o];rfl,fun i l hi=>?_⟩;have a:=(Ai.1 hi).1;have e:A.getD i []=l:=by rw[Ad,hi];rfl
  have⟨r,p,c,_⟩:=h.2 i a;rw[e] at c;refine⟨[r],rfl,fun j x d=>?_,r,rfl,c⟩;cases j with
  | zero=>
   cases d;rw[Am,Dm];exact p
  | succ j=>simp at d
def aLy{L:bt}{i:Nat}(h:i<L.length):L.take (i+1)=L.take i++ [L.getD i []]:=by
 rw[Bx,Ab h,Ad,Ab h];rfl
end Go.Ev.Gl
