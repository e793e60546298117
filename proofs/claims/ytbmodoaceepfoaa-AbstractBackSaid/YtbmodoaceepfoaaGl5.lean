import Derived.Test.YtbmodoaceepfoaaGl4
set_option linter.all false
set_option maxHeartbeats 0
namespace Go.Ev.Gl
variable {fns:T eY}
variable {x v:AV}{n:Nat}{S0 S:St}{cs:cd}
def aRi{z0 z1:AV}{x y:cT}{F:Fr}{h:T AB}(a:(x.val F).cells=some [x.val F])(c:(y.val F).cells=some [y.val F]):gO (.build [z0,z1] [(0,1,x),(1,1,y)]) F h=some (.agg [x.val F,y.val F]):=by
 show(bG (eI [z0,z1] (dJ F [(0,1,x),(1,1,y)])) fun cs=>some (AV.agg cs))=_;simp only[dJ,eI,a,c,aH];rfl
def aK7(e:sR){a b:Int}(d:b≠0):nH .rem e (je a) (je b)=some (je (a.tmod b)):=by
 show fH .rem .i64 a .i64 b=_;unfold fH;rw[show iA .rem=false from rfl,aU,fO,aN];show aNw .i64 a b=_;unfold aNw;split
 .rename_i m n;have c:Nat.beq n 0=false:=by
   rw[Cj];intro h;rw[Bl] at h;subst h;exact d rfl
  rw[c,aU];rfl
 .have c:ieq b (.ofNat 0)=false:=by
   rw[Cj];intro h;rw[jG] at h;exact d (by simpa using h)
  rw[c,aU]
def bE(x:cT)(F:Fr)(h:T AB):gO (.cw x) F h=xF (x.val F):=rfl
def bP(x:cT):eE (.cw x)=false:=rfl
def bF(b o:Nat):xF (.ptr b o)=some (.ptr b o):=rfl
def aCg{y:AV}(a:cO x x=true)(c:cO y y=true):cO (.agg [x,y]) (.agg [x,y])=true:=by
 simp only[cO,kK,a,c,aN]
def aM:AV->Option Nat
 | .sl b _ _ _ _=>some b
 | _=>none
def fP(k:Nat)(S0 S:St)(v:AV)(n:Nat)(cs:cd):Prop:=
 (v= .ct/\n=0/\cs= [])\/∃b,v= .sl b 0 n n true/\S0.nx<=b/\b<S.nx/\S.h.get b=some (.cells cs true k)/\cs.length=n * k
def fP.step{k:Nat}{a:St}(h:fP k S0 S v n cs)(c:Same S a):fP k S0 a v n cs:=by
 rcases h with h|⟨b,e,f,d,g,i⟩
 .exact .inl h
 .exact .inr ⟨b,e,f,Ae d c.1,(c.2 b d).trans g,i⟩
def fP.len{k:Nat}(h:fP k S0 S v n cs):kR v=some (je ((n:Nat):Int)):=by
 rcases h with⟨rfl,rfl,_⟩|⟨b,rfl,_⟩<;>rfl
def fP.app{k m bytes:Nat}{new:cd}(h:fP k S0 S v n cs)(d:Same S0 S)(l:mP x=some m)(p:eU x S.h k m=some new)(q:new.length=m * k)(C:0<m)(r:n+m<=room)(g:(n+m) * bytes<=room):
  ∃v' f,gG bytes k v x S=some (v',f)/\fP k S0 f v' (n+m) (cs++new)/\Same S0 f/\S.nx<=f.nx/\∀c,c<S.nx->aM v≠some c->f.h.get c=S.h.get c:=by
 rcases h with⟨rfl,rfl,rfl⟩|⟨b,rfl,t,D,u,a⟩
 .refine⟨.sl S.nx 0 m m true,⟨S.h.set S.nx (some (.cells new true k)),S.nx+1⟩,?_,.inr ⟨S.nx,by rw[Am],d.1,by simp,?_,by rw[Am];exact q⟩,d.trans (Same.alloc S _),by simp,fun c a _=>(Same.alloc S _).2 c a⟩
  .show(bG (mP x) fun j=>bG (eU x S.h k j) fun new=>aAA .ct bytes k j new S)=_;rw[l,aH,p,aH];show qS bytes k m new S=_;unfold qS;rw[show Nat.beq m 0=false from Cj.2 fun e=>by rw[Bl] at e;omega,aU,Ak au,aN,Ak (by rw[Am] at g;exact g),aN];rfl
  .simp only;rw[ef,if_pos rfl];rfl
 .refine⟨.sl S.nx 0 (n+m) (n+m) true,⟨(S.h.set b none).set S.nx (some (.cells (cs++new) true k)),S.nx+1⟩,?_,.inr ⟨S.nx,rfl,d.1,by simp,?_,by rw[Aj,a,q,Du]⟩,⟨Av d.1 (by simp),fun c a=>?_⟩,by simp,fun c a i=>?_⟩
  .show(bG (mP x) fun j=>bG (eU x S.h k j) fun new=>aAA (.sl b 0 n n true) bytes k j new S)=_;rw[l,aH,p,aH];show lR bytes k b 0 n n true m new S=_;unfold lR;have w:Nat.ble (n+m) n=false:=by rw[Cj];intro h;have:=Bc h;omega
   rw[w,aU,Ak r,aN,Ak g,aN,u,aH];have z:cut cs 0 (n * k)=some cs:=by
    unfold cut;rw[iG,iP,Dn,if_pos au,Bd au]
   have A:Nat.beq (0+n * k) (mF cs)=true:=by rw[gD,a,Bl];omega
   have B:Nat.beq k k=true:=Fq k;simp only[xX,z,aH,aN,A,B,grown,fS]
  .simp only;rw[ef,if_pos rfl]
  .simp only;have:=d.1;rw[ef,if_neg au,ef,if_neg au];exact d.2 c a
  .simp only;have:c≠b:=fun e=>i (by rw[e];rfl);rw[ef,if_neg au,ef,if_neg this]
def ia8{b m N i:Nat}{o:Bool}(hi:i<m):eQ (.slice 1) (.sl b 0 m N o) i=some (.ptr b i):=by
 show cC (Nat.blt i m) (some (AV.ptr b (0+i * 1))) none=_;rw[show Nat.blt i m=true from Ak hi,aN];simp
end Go.Ev.Gl
