import Derived.Test.YtoojnpjgnnpllaaGl4
set_option maxHeartbeats 16000000
set_option linter.unusedSimpArgs false
set_option linter.unusedVariables false
namespace Go.Ev.Gl
end Go.Ev.Gl
namespace Go.Ev.Gl
end Go.Ev.Gl
namespace Go.Ev.Gl
variable {fns:T eG}
theorem aN7{z0 z1:AV}{x y:cL}{F:Fr}{h:T AB}(h1:(x.val F).cells=some [x.val F])(h2:(y.val F).cells=some [y.val F]):fV (.build [z0,z1] [(0,1,x),(1,1,y)]) F h=some (.agg [x.val F,y.val F]):=by
 show(aZ (eS [z0,z1] (eB F [(0,1,x),(1,1,y)])) fun cs=>some (AV.agg cs))=_;simp only[eB,eS,h1,h2,aK];rfl
theorem bJ(x:cL)(F:Fr)(h:T AB):fV (.nilchk x) F h=uH (x.val F):=rfl
theorem bX(x:cL):dI (.nilchk x)=false:=rfl
theorem bI(b o:Nat):uH (.ptr b o)=some (.ptr b o):=rfl
section
variable {h:T AB}{b:Nat}{x y:AV}{o:Bool}{s:Nat}
end
theorem wJ{x y:AV}(h1:cC x x=true)(h2:cC y y=true):cC (.agg [x,y]) (.agg [x,y])=true:=by
 simp only[cC,kB,h1,h2,aQ]
def bD:AV→Option Nat
 | .sl b _ _ _ _=>some b
 | _=>none
def fP(k:Nat)(S0 S:St)(v:AV)(n:Nat)(cs:List AV):Prop:=
 (v= .nilsl∧n=0∧cs= [])∨∃b,v= .sl b 0 n n true∧S0.nx≤b∧b<S.nx∧S.h.get b=some (.cells cs true k)∧cs.length=n * k
theorem fP.step{k n:Nat}{S0 S S':St}{v:AV}{cs:List AV}(h:fP k S0 S v n cs)(hs:Same S S'):fP k S0 S' v n cs:=by
 rcases h with h | ⟨b,h1,h2,h3,h4,h5⟩
 ·exact .inl h
 ·exact .inr ⟨b,h1,h2,Ae h3 hs.1,(hs.2 b h3).trans h4,h5⟩
theorem fP.len{k n:Nat}{S0 S:St}{v:AV}{cs:List AV}(h:fP k S0 S v n cs):kO v=some (.int .i64 ((n:Nat):Int)):=by
 rcases h with⟨rfl,rfl,_⟩ | ⟨b,rfl,_⟩<;>rfl
theorem fP.app{k n m bytes:Nat}{S0 S:St}{v x:AV}{cs new:List AV}(h:fP k S0 S v n cs)(hS:Same S0 S)(hl:mO x=some m)(hs:fG x S.h k m=some new)(hn:new.length=m * k)(hm:0<m)(h1:n+m≤room)(h2:(n+m) * bytes≤room):
  ∃v' S',jK bytes k v x S=some (v',S')∧fP k S0 S' v' (n+m) (cs++new)∧Same S0 S'∧S.nx≤S'.nx∧∀c,c<S.nx→bD v≠some c→S'.h.get c=S.h.get c:=by
 rcases h with⟨rfl,rfl,rfl⟩ | ⟨b,rfl,hb0,hb,hg,hc⟩
 ·refine⟨.sl S.nx 0 m m true,⟨S.h.set S.nx (some (.cells new true k)),S.nx+1⟩,?_,.inr ⟨S.nx,by rw[Ao],hS.1,by simp,?_,by rw[Ao];exact hn⟩,hS.trans (Same.alloc S _),by simp,fun c hc _=>(Same.alloc S _).2 c hc⟩
  ·show(aZ (mO x) fun j=>aZ (fG x S.h k j) fun new=>aCN .nilsl bytes k j new S)=_;rw[hl,aK,hs,aK];show rX bytes k m new S=_;unfold rX;rw[show Nat.beq m 0=false from Ef.2 fun e=>by rw[Bh] at e;omega,aW,Au (by omega),aQ,Au (by rw[Ao] at h2;exact h2),aQ];rfl
  ·simp only;rw[T.get_set,if_pos rfl];rfl
 ·refine⟨.sl S.nx 0 (n+m) (n+m) true,⟨(S.h.set b none).set S.nx (some (.cells (cs++new) true k)),S.nx+1⟩,?_,.inr ⟨S.nx,rfl,hS.1,by simp,?_,by rw[Am,hc,hn,Dy]⟩,⟨Ak hS.1 (by simp),fun c hc=>?_⟩,by simp,fun c hc hne=>?_⟩
  ·show(aZ (mO x) fun j=>aZ (fG x S.h k j) fun new=>aCN (.sl b 0 n n true) bytes k j new S)=_;rw[hl,aK,hs,aK];show qS bytes k b 0 n n true m new S=_;unfold qS;have e2:Nat.ble (n+m) n=false:=by rw[Ef];intro h;have:=Az h;omega
   rw[e2,aW,Au h1,aQ,Au h2,aQ,hg,aK];have e3:cut cs 0 (n * k)=some cs:=by
    unfold cut;rw[jE,jZ,Dk,if_pos (by omega),Bb (by omega)]
   have e4:Nat.beq (0+n * k) (lI cs)=true:=by rw[fL,hc,Bh];omega
   have e5:Nat.beq k k=true:=Nat.beq_refl k;simp only[aBh,e3,aK,aQ,e4,e5,grown,fS]
  ·simp only;rw[T.get_set,if_pos rfl]
  ·simp only;have:=hS.1;rw[T.get_set,if_neg (by omega),T.get_set,if_neg (by omega)];exact hS.2 c hc
  ·simp only;have:c≠b:=fun e=>hne (by rw[e];rfl);rw[T.get_set,if_neg (by omega),T.get_set,if_neg this]
theorem ia8{b m N i:Nat}{o:Bool}(hi:i<m):eU (.slice 1) (.sl b 0 m N o) i=some (.ptr b i):=by
 show bN (Nat.blt i m) (some (AV.ptr b (0+i * 1))) none=_;rw[show Nat.blt i m=true from Au hi,aQ];simp
end Go.Ev.Gl
