import Derived.Test.YtoojnpjgnnpllaaGl4
set_option maxHeartbeats 0
set_option linter.unusedSimpArgs false
set_option linter.unusedVariables false
namespace Go.Ev.Gl
end Go.Ev.Gl
namespace Go.Ev.Gl
end Go.Ev.Gl
namespace Go.Ev.Gl
variable {fns:T dY}
theorem aPw{z0 z1:AV}{x y:cO}{F:Fr}{h:T AB}(h1:(x.val F).cells=some [x.val F])(h2:(y.val F).cells=some [y.val F]):gM (.build [z0,z1] [(0,1,x),(1,1,y)]) F h=some (.agg [x.val F,y.val F]):=by
 show(bC (eQ [z0,z1] (eH F [(0,1,x),(1,1,y)])) fun cs=>some (AV.agg cs))=_;simp only[eH,eQ,h1,h2,aL];rfl
theorem bN(x:cO)(F:Fr)(h:T AB):gM (.ch x) F h=vI (x.val F):=rfl
theorem cD(x:cO):dN (.ch x)=false:=rfl
theorem bM(b o:Nat):vI (.ptr b o)=some (.ptr b o):=rfl
section
variable {h:T AB}{b:Nat}{x y:AV}{o:Bool}{s:Nat}
end
theorem aB8{x y:AV}(h1:cE x x=true)(h2:cE y y=true):cE (.agg [x,y]) (.agg [x,y])=true:=by
 simp only[cE,jR,h1,h2,aR]
def aZ:AV->Option Nat
 | .sl b _ _ _ _=>some b
 | _=>none
def fY(k:Nat)(S0 S:St)(v:AV)(n:Nat)(cs:bf):Prop:=
 (v= .bw/\n=0/\cs= [])\/∃b,v= .sl b 0 n n true/\S0.nx<=b/\b<S.nx/\S.h.get b=some (.cells cs true k)/\cs.length=n * k
theorem fY.step{k n:Nat}{S0 S S':St}{v:AV}{cs:bf}(h:fY k S0 S v n cs)(hs:Same S S'):fY k S0 S' v n cs:=by
 rcases h with h | ⟨b,h1,h2,h3,h4,h5⟩
 ·exact .inl h
 ·exact .inr ⟨b,h1,h2,Ae h3 hs.1,(hs.2 b h3).trans h4,h5⟩
theorem fY.len{k n:Nat}{S0 S:St}{v:AV}{cs:bf}(h:fY k S0 S v n cs):jJ v=some (.int .i64 ((n:Nat):Int)):=by
 rcases h with⟨rfl,rfl,_⟩ | ⟨b,rfl,_⟩<;>rfl
theorem fY.app{k n m bytes:Nat}{S0 S:St}{v x:AV}{cs new:bf}(h:fY k S0 S v n cs)(hS:Same S0 S)(hl:mL x=some m)(hs:eY x S.h k m=some new)(hn:new.length=m * k)(hm:0<m)(h1:n+m<=room)(h2:(n+m) * bytes<=room):
  ∃v' S',gP bytes k v x S=some (v',S')/\fY k S0 S' v' (n+m) (cs++new)/\Same S0 S'/\S.nx<=S'.nx/\∀c,c<S.nx->aZ v≠some c->S'.h.get c=S.h.get c:=by
 rcases h with⟨rfl,rfl,rfl⟩ | ⟨b,rfl,hb0,hb,hg,hc⟩
 ·refine⟨.sl S.nx 0 m m true,⟨S.h.set S.nx (some (.cells new true k)),S.nx+1⟩,?_,.inr ⟨S.nx,by rw[An],hS.1,by simp,?_,by rw[An];exact hn⟩,hS.trans (Same.alloc S _),by simp,fun c hc _=>(Same.alloc S _).2 c hc⟩
  ·show(bC (mL x) fun j=>bC (eY x S.h k j) fun new=>aD1 .bw bytes k j new S)=_;rw[hl,aL,hs,aL];show tO bytes k m new S=_;unfold tO;rw[show Nat.beq m 0=false from Ei.2 fun e=>by rw[Bj] at e;omega,bB,Av ar,aR,Av (by rw[An] at h2;exact h2),aR];rfl
  ·simp only;rw[di,if_pos rfl];rfl
 ·refine⟨.sl S.nx 0 (n+m) (n+m) true,⟨(S.h.set b none).set S.nx (some (.cells (cs++new) true k)),S.nx+1⟩,?_,.inr ⟨S.nx,rfl,hS.1,by simp,?_,by rw[Ao,hc,hn,Ec]⟩,⟨Al hS.1 (by simp),fun c hc=>?_⟩,by simp,fun c hc hne=>?_⟩
  ·show(bC (mL x) fun j=>bC (eY x S.h k j) fun new=>aD1 (.sl b 0 n n true) bytes k j new S)=_;rw[hl,aL,hs,aL];show qF bytes k b 0 n n true m new S=_;unfold qF;have e2:Nat.ble (n+m) n=false:=by rw[Ei];intro h;have:=Bd h;omega
   rw[e2,bB,Av h1,aR,Av h2,aR,hg,aL];have e3:cut cs 0 (n * k)=some cs:=by
    unfold cut;rw[iF,iX,Dx,if_pos ar,Bb ar]
   have e4:Nat.beq (0+n * k) (mC cs)=true:=by rw[fS,hc,Bj];omega
   have e5:Nat.beq k k=true:=Nat.beq_refl k;simp only[aCc,e3,aL,aR,e4,e5,grown,gE]
  ·simp only;rw[di,if_pos rfl]
  ·simp only;have:=hS.1;rw[di,if_neg ar,di,if_neg ar];exact hS.2 c hc
  ·simp only;have:c≠b:=fun e=>hne (by rw[e];rfl);rw[di,if_neg ar,di,if_neg this]
theorem ia8{b m N i:Nat}{o:Bool}(hi:i<m):dO (.slice 1) (.sl b 0 m N o) i=some (.ptr b i):=by
 show bQ (Nat.blt i m) (some (AV.ptr b (0+i * 1))) none=_;rw[show Nat.blt i m=true from Av hi,aR];simp
end Go.Ev.Gl
