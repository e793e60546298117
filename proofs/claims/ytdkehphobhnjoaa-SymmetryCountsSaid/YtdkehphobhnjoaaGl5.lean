import Derived.Test.YtdkehphobhnjoaaGl4
set_option maxHeartbeats 0
set_option linter.unusedSimpArgs false
set_option linter.unusedVariables false
namespace Go.Ev.Gl
end Go.Ev.Gl
namespace Go.Ev.Gl
end Go.Ev.Gl
namespace Go.Ev.Gl
variable {fns:T dU}
def iW(l:b9):b6:=l.map fun x=>AV.int .u8 ((x:Nat):Int)
theorem yN(l:b9):(iW l).length=l.length:=by simp [iW]
theorem st8{S:St}{b p w:Nat}{l:b9}{o:Bool}{sz:Nat}(h:S.h.get b=some (.cells (iW l) o sz))(hp:p<l.length):
  mJ (.ptr b p) 1 [.int .u8 ((w:Nat):Int)] S=some (.undef,⟨S.h.set b (some (.cells (iW (l.set p w)) o sz)),S.nx⟩):=by
 have hput:put (iW l) p [AV.int .u8 ((w:Nat):Int)]=some (iW (l.set p w)):=by
  rw[put_eq,if_pos (by rw[yN];simp;omega)];congr 1;unfold iW;rw[List.map_set,List.set_eq_take_append_cons_drop,if_pos (by simp;omega)];simp
 simp only[mJ,pJ,h,aN,vX,hput];rfl
theorem aMt:∀ {l:b9},(∀x∈l,x<=255)->bytesOf (iW l)=some l
 | [],_=>rfl
 | x::l,h=>by
  show cB (Nat.ble x 255) (bH (bytesOf (iW l)) fun r=>some (x::r)) none=_;rw[Ak (h x (Br ..)),aO,aMt fun y hy=>h y (Bj _ hy)];rfl
theorem aIu(x ix:cU)(F:Fr)(h:T AB):gT (.idxStr x ix) F h=bH (fG (ix.val F)) fun i=>pQ (x.val F) i:=rfl
theorem aLj{s:b9}{i:Nat}(h:i<s.length):pQ (.str s) i=some (.int .u8 ((s[i]?.getD 0:Nat):Int)):=by
 show(bH (nth s i) fun b=>some (AV.int .u8 (.ofNat b)))=_;rw[mZ,Ac h,aN];rfl
theorem aEw(x y:cU):dR (.idxStr x y)=false:=rfl
theorem aPN{z0 z1:AV}{x y:cU}{F:Fr}{h:T AB}(h1:(x.val F).cells=some [x.val F])(h2:(y.val F).cells=some [y.val F]):gT (.build [z0,z1] [(0,1,x),(1,1,y)]) F h=some (.agg [x.val F,y.val F]):=by
 show(bH (eZ [z0,z1] (eH F [(0,1,x),(1,1,y)])) fun cs=>some (AV.agg cs))=_;simp only[eH,eZ,h1,h2,aN];rfl
theorem aFb:∀a b:b9,mK a b=decide (a=b)
 | [],[]=>rfl
 | [],b::y=>rfl
 | a::x,[]=>rfl
 | a::x,b::y=>by
  show cB (Nat.beq a b) (mK x y) false=_;rw[aFb x y];by_cases h:a=b
  ·subst h;rw[Fk,aO];simp
  ·rw[show Nat.beq a b=false from Ch.2 fun e=>h (Cp e),aT];simp [h]
theorem aEC(e:qF){a b:Int}(hb:b≠0):iL .rem e (.int .i64 a) (.int .i64 b)=some (.int .i64 (a.tmod b)):=by
 show dJ .rem .i64 a .i64 b=_;unfold dJ;rw[show fI .rem=false from rfl,aT,fT,aO];show aMq .i64 a b=_;unfold aMq;split
 ·rename_i m n;have h0:Nat.beq n 0=false:=by
   rw[Ch];intro h;rw[Bg] at h;subst h;exact hb rfl
  rw[h0,aT];rfl
 ·have h0:ieq b (.ofNat 0)=false:=by
   rw[Ch];intro h;rw[lJ] at h;exact hb (by simpa using h)
  rw[h0,aT]
theorem aY(x:cU)(F:Fr)(h:T AB):gT (.cg x) F h=uT (x.val F):=rfl
theorem bN(x:cU):dR (.cg x)=false:=rfl
theorem bB(b o:Nat):uT (.ptr b o)=some (.ptr b o):=rfl
section
variable {h:T AB}{b:Nat}{x y:AV}{o:Bool}{s:Nat}
end
theorem aKO{x y:AV}(h1:cT x x=true)(h2:cT y y=true):cT (.agg [x,y]) (.agg [x,y])=true:=by
 simp only[cT,nR,h1,h2,aO]
def aX:AV->Option Nat
 | .sl b _ _ _ _=>some b
 | _=>none
def fX(k:Nat)(S0 S:St)(v:AV)(n:Nat)(cs:b6):Prop:=
 (v= .cb/\n=0/\cs= [])\/∃b,v= .sl b 0 n n true/\S0.nx<=b/\b<S.nx/\S.h.get b=some (.cells cs true k)/\cs.length=n * k
theorem fX.step{k n:Nat}{S0 S S':St}{v:AV}{cs:b6}(h:fX k S0 S v n cs)(hs:Same S S'):fX k S0 S' v n cs:=by
 rcases h with h | ⟨b,h1,h2,h3,h4,h5⟩
 ·exact .inl h
 ·exact .inr ⟨b,h1,h2,Ae h3 hs.1,(hs.2 b h3).trans h4,h5⟩
theorem fX.len{k n:Nat}{S0 S:St}{v:AV}{cs:b6}(h:fX k S0 S v n cs):jD v=some (.int .i64 ((n:Nat):Int)):=by
 rcases h with⟨rfl,rfl,_⟩ | ⟨b,rfl,_⟩<;>rfl
theorem fX.app{k n m bytes:Nat}{S0 S:St}{v x:AV}{cs new:b6}(h:fX k S0 S v n cs)(hS:Same S0 S)(hl:mC x=some m)(hs:eE x S.h k m=some new)(hn:new.length=m * k)(hm:0<m)(h1:n+m<=room)(h2:(n+m) * bytes<=room):
  ∃v' S',fN bytes k v x S=some (v',S')/\fX k S0 S' v' (n+m) (cs++new)/\Same S0 S'/\S.nx<=S'.nx/\∀c,c<S.nx->aX v≠some c->S'.h.get c=S.h.get c:=by
 rcases h with⟨rfl,rfl,rfl⟩ | ⟨b,rfl,hb0,hb,hg,hc⟩
 ·refine⟨.sl S.nx 0 m m true,⟨S.h.set S.nx (some (.cells new true k)),S.nx+1⟩,?_,.inr ⟨S.nx,by rw[An],hS.1,by simp,?_,by rw[An];exact hn⟩,hS.trans (Same.alloc S _),by simp,fun c hc _=>(Same.alloc S _).2 c hc⟩
  ·show(bH (mC x) fun j=>bH (eE x S.h k j) fun new=>yA .cb bytes k j new S)=_;rw[hl,aN,hs,aN];show pI bytes k m new S=_;unfold pI;rw[show Nat.beq m 0=false from Ch.2 fun e=>by rw[Bg] at e;omega,aT,Ak ay,aO,Ak (by rw[An] at h2;exact h2),aO];rfl
  ·simp only;rw[dd,if_pos rfl];rfl
 ·refine⟨.sl S.nx 0 (n+m) (n+m) true,⟨(S.h.set b none).set S.nx (some (.cells (cs++new) true k)),S.nx+1⟩,?_,.inr ⟨S.nx,rfl,hS.1,by simp,?_,by rw[Ai,hc,hn,Ec]⟩,⟨Au hS.1 (by simp),fun c hc=>?_⟩,by simp,fun c hc hne=>?_⟩
  ·show(bH (mC x) fun j=>bH (eE x S.h k j) fun new=>yA (.sl b 0 n n true) bytes k j new S)=_;rw[hl,aN,hs,aN];show jK bytes k b 0 n n true m new S=_;unfold jK;have e2:Nat.ble (n+m) n=false:=by rw[Ch];intro h;have:=Ba h;omega
   rw[e2,aT,Ak h1,aO,Ak h2,aO,hg,aN];have e3:cut cs 0 (n * k)=some cs:=by
    unfold cut;rw[fU,fZ,Di,if_pos ay,Bb ay]
   have e4:Nat.beq (0+n * k) (lO cs)=true:=by rw[fL,hc,Bg];omega
   have e5:Nat.beq k k=true:=Fk k;simp only[vJ,e3,aN,aO,e4,e5,grown,fW]
  ·simp only;rw[dd,if_pos rfl]
  ·simp only;have:=hS.1;rw[dd,if_neg ay,dd,if_neg ay];exact hS.2 c hc
  ·simp only;have:c≠b:=fun e=>hne (by rw[e];rfl);rw[dd,if_neg ay,dd,if_neg this]
theorem ia8{b m N i:Nat}{o:Bool}(hi:i<m):fC (.slice 1) (.sl b 0 m N o) i=some (.ptr b i):=by
 show cB (Nat.blt i m) (some (AV.ptr b (0+i * 1))) none=_;rw[show Nat.blt i m=true from Ak hi,aO];simp
theorem aSi{h:T AB}{b m N sz:Nat}{W:b9}{o o':Bool}(hg:h.get b=some (.cells (iW W) o sz))(hm:m<=W.length)(hW:∀x∈W.take m,x<=255):yH .bytesToStr (.sl b 0 m N o') h=some (.str (W.take m)):=by
 show(bH (bH (cJ h b) fun cs=>cut cs 0 m) fun cs=>bH (bytesOf cs) fun s=>some (AV.str s))=_;unfold cJ;rw[hg,aN];show(bH (bH (some (iW W)) fun cs=>cut cs 0 m) _)=_;rw[aN];have hcut:cut (iW W) 0 m=some (iW (W.take m)):=by
  unfold cut;rw[fU,fZ,Di,if_pos (by rw[yN];exact hm)];unfold iW;rw[List.map_take]
 rw[hcut,aN,aMt hW,aN]
end Go.Ev.Gl
