import Derived.Test.YtbmodoaceepfoaaGl4
set_option linter.all false
set_option maxHeartbeats 0
namespace Go.Ev.Gl
variable {x v:AV}{n:Nat}{S0 S:St}{cs:bu}
def aNF{z0 z1:AV}{x y:cQ}{F:Fr}{h:T AB}(a:(x.val F).cells=some [x.val F])(c:(y.val F).cells=some [y.val F]):iC (.build [z0,z1] [(0,1,x),(1,1,y)]) F h=some (.agg [x.val F,y.val F]):=by
 show(bD (eO [z0,z1] (dN F [(0,1,x),(1,1,y)])) fun cs=>some (AV.agg cs))=_;simp only[dN,eO,a,c,aH];rfl
def aFH(e:tC){a b:Int}(d:b≠0):mL .rem e (jr a) (jr b)=some (jr (a.tmod b)):=by
 show fL .rem .i64 a .i64 b=_;unfold fL;rw[show iE .rem=false from rfl,aR,fH,aL];show aNT .i64 a b=_;unfold aNT;split
 .rename_i m n;have c:Nat.beq n 0=false:=by
   rw[Ck];intro h;rw[Bn] at h;subst h;exact d rfl
  rw[c,aR];rfl
 .have c:ieq b (.ofNat 0)=false:=by
   rw[Ck];intro h;rw[jA] at h;exact d (by simpa using h)
  rw[c,aR]
def zR{y:AV}(a:cI x x=true)(c:cI y y=true):cI (.agg [x,y]) (.agg [x,y])=true:=by
 simp only[cI,kG,a,c,aL]
def aN:AV->Option Nat
 | .sl b _ _ _ _=>some b
 | _=>none
def fC(k:Nat)(S0 S:St)(v:AV)(n:Nat)(cs:bu):Prop:=
 (v= .cr/\n=0/\cs= [])\/∃b,v= .sl b 0 n n true/\S0.nx<=b/\b<S.nx/\S.h.get b=some (.cells cs true k)/\cs.length=n * k
def fC.step{k:Nat}{S':St}(h:fC k S0 S v n cs)(a:jq S S'):fC k S0 S' v n cs:=by
 rcases h with h|⟨b,d,e,c,f,g⟩
 .exact .inl h
 .exact .inr ⟨b,d,e,Ae c a.1,(a.2 b c).trans f,g⟩
def fC.len{k:Nat}(h:fC k S0 S v n cs):lW v=some (jr ((n:Nat):Int)):=by
 rcases h with⟨rfl,rfl,_⟩|⟨b,rfl,_⟩<;>rfl
def fC.app{k m bytes:Nat}{new:bu}(h:fC k S0 S v n cs)(d:jq S0 S)(i:mY x=some m)(l:eS x S.h k m=some new)(p:new.length=m * k)(B:0<m)(q:n+m<=room)(f:(n+m) * bytes<=room):
  ∃v' S',gQ bytes k v x S=some (v',S')/\fC k S0 S' v' (n+m) (cs++new)/\jq S0 S'/\S.nx<=S'.nx/\∀c,c<S.nx->aN v≠some c->S'.h.get c=S.h.get c:=by
 rcases h with⟨rfl,rfl,rfl⟩|⟨b,rfl,r,C,t,a⟩
 .refine⟨.sl S.nx 0 m m true,⟨S.h.set S.nx (some (.cells new true k)),S.nx+1⟩,?_,.inr ⟨S.nx,by rw[An],d.1,by simp,?_,by rw[An];exact p⟩,d.trans (jq.alloc S _),by simp,fun c a _=>(jq.alloc S _).2 c a⟩
  .show(bD (mY x) fun j=>bD (eS x S.h k j) fun new=>aAz .cr bytes k j new S)=_;rw[i,aH,l,aH];show qV bytes k m new S=_;unfold qV;rw[show Nat.beq m 0=false from Ck.2 fun e=>by rw[Bn] at e;omega,aR,Al au,aL,Al (by rw[An] at f;exact f),aL];rfl
  .simp only;rw[dx,if_pos rfl];rfl
 .refine⟨.sl S.nx 0 (n+m) (n+m) true,⟨(S.h.set b none).set S.nx (some (.cells (cs++new) true k)),S.nx+1⟩,?_,.inr ⟨S.nx,rfl,d.1,by simp,?_,by rw[Ai,a,p,Dl]⟩,⟨Aq d.1 (by simp),fun c a=>?_⟩,by simp,fun c a g=>?_⟩
  .show(bD (mY x) fun j=>bD (eS x S.h k j) fun new=>aAz (.sl b 0 n n true) bytes k j new S)=_;rw[i,aH,l,aH];show lP bytes k b 0 n n true m new S=_;unfold lP;have u:Nat.ble (n+m) n=false:=by rw[Ck];intro h;have:=Bd h;omega
   rw[u,aR,Al q,aL,Al f,aL,t,aH];have w:cut cs 0 (n * k)=some cs:=by
    unfold cut;rw[iA,iG,Di,if_pos au,Bh au]
   have z:Nat.beq (0+n * k) (mF cs)=true:=by rw[gJ,a,Bn];omega
   have A:Nat.beq k k=true:=Fx k;simp only[xJ,w,aH,aL,z,A,grown,fT]
  .simp only;rw[dx,if_pos rfl]
  .simp only;have:=d.1;rw[dx,if_neg au,dx,if_neg au];exact d.2 c a
  .simp only;have:c≠b:=fun e=>g (by rw[e];rfl);rw[dx,if_neg au,dx,if_neg this]
def ia8{b m N i:Nat}{o:Bool}(hi:i<m):eY (.slice 1) (.sl b 0 m N o) i=some (.ptr b i):=by
 show bX (Nat.blt i m) (some (AV.ptr b (0+i * 1))) none=_;rw[show Nat.blt i m=true from Al hi,aL];simp
end Go.Ev.Gl
