import Derived.Test.YtbmodoaceepfoaaGl13
set_option linter.all false
set_option maxHeartbeats 0
namespace Go.Ev.Gl
variable {r pv:AV}{l:bt}{X S0:St}{cs:bu}{A:bo}
def aBD{t:Nat}{z:AV}{x:cQ}{F:Fr}{id:Nat}{S:St}(h:bN .i64 S r l)(a:x.val F=r):uI (.c7 t 1 1 [z] [(0,x)]) F id=some (.sl id 0 1 1 false,.cells [r] false 0):=by
 show(bD (eO (repeatL [z] 1) [(0 * 1,1,x.val F)]) fun cs=>some (AV.sl id 0 1 1 false,AB.cells cs false 0))=_;rw[a];rcases h with⟨_,rfl|rfl⟩|⟨b,off,cap,o,cs,rfl,_⟩<;>rfl
def qJ(S0 X:St)(pv:AV)(cs:bu)(A:bo):Prop:=cs.length=A.length/\∀j,j<A.length->∃r,cs[j]? =some r/\bN .i64 X r (A.getD j [])/\∀c,aN r=some c->S0.nx<=c/\aN pv≠some c
def aK0{k:IntKind}{v:AV}{c:Nat}(h:bN k X v l)(a:aN v=some c):c<X.nx:=by
 rcases h with⟨_,rfl|rfl⟩|⟨b,off,cap,o,cs,rfl,_,d,_⟩
 .cases a
 .cases a
 .cases a;exact d
def qJ.push{Z:St}{pv':AV}(h:qJ S0 X pv cs A)(g:S0.nx<=X.nx)(i:X.nx<=Z.nx)(k:∀c,c<X.nx->S0.nx<=c->aN pv≠some c->Z.h.get c=X.h.get c)(m:bN .i64 Z r l)(f:∀c,aN r=some c->X.nx<=c/\aN pv'≠some c)(n:∀c,aN pv'=some c->X.nx<=c):qJ S0 Z pv' (cs++ [r]) (A++ [l]):=by
 refine⟨by simp [h.1],fun j o=>?_⟩;rw[Ai,Ax] at o;rw[aCv];by_cases e:j=A.length
 .rw[if_pos e,e,<-h.1];exact⟨r,by rw[Ao (Af _),Dv];rfl,m,fun c a=>⟨Aq g (f c a).1,(f c a).2⟩⟩
 .rw[if_neg e];have⟨p,q,b,d⟩:=h.2 j au;refine⟨p,by rw[Ak (by rw[h.1];omega)];exact q,eH b i fun c a=>k c (aK0 b a) (d c a).1 (d c a).2,fun c a=>⟨(d c a).1,fun e=>?_⟩⟩;have:=n c e;have:=aK0 b a;omega
def qJ.is{n:Nat}(h:qJ S0 X pv cs A)(f:fC 1 S0 X pv n cs)(g:n=A.length):aE 1 nM X pv A:=by
 subst g;rcases f with⟨rfl,k,_⟩|⟨b,rfl,_,m,o,_⟩
 .exact .inl ⟨Bj.1 k,.inl rfl⟩
 .refine .inr ⟨b,0,A.length,true,cs,rfl,Af _,m,by unfold cG;rw[o];rfl,fun i l hi=>?_⟩;have a:=(Aj.1 hi).1;have e:A.getD i []=l:=by rw[Ad,hi];rfl
  have⟨r,p,c,_⟩:=h.2 i a;rw[e] at c;refine⟨[r],rfl,fun j x d=>?_,r,rfl,c⟩;cases j with
  | zero=>
   cases d;rw[An,Ec];exact p
  | succ j=>simp at d
def aLR{L:bo}{i:Nat}(h:i<L.length):L.take (i+1)=L.take i++ [L.getD i []]:=by
 rw[Cc,Ab h,Ad,Ab h];rfl
end Go.Ev.Gl
