import Derived.Test.YtbmodoaceepfoaaGl5
set_option linter.all false
open Nat renaming reduceEqDiff -> rE, reduceAdd -> rA
set_option maxHeartbeats 0
namespace Go.Ev.Gl
variable {fns:T fD}
variable {h:T AB}{b j n i b4 wb db sz N lb:Nat}{cs:bu}{lo hi ps w:Int}{l P:bt}{S S' S0:St}{v:AV}{α:Type}{E:St->bu->α->Prop}
structure cD where
 jk:Int
 jl:Int
 jj:Int
 ji:bt
 jm:bt
 jn:bt
variable {x:cD}
structure jL where
 jl:Int
 cm:Int
structure aP where
 ch:Int
 ce:List cD
 cg:List jL
variable {g:aP}
def jQ(lo hi:Int)(l:bt):Prop:=∃w∈l,w<lo\/hi<w
instance anyOutDec(lo hi:Int)(l:bt):Decidable (jQ lo hi l):=by unfold jQ;exact inferInstance
def oS(x:cD):Prop:=x.jl≠0\/x.jj≠0\/(0:Int)<(x.jn.length:Int)\/(x.ji.length:Int)<1\/(60:Int)<(x.ji.length:Int)\/(x.jm.length:Int)≠(x.ji.length:Int)
def uV(x:cD):Prop:=(0:Int)<(x.jm.length:Int)\/(0:Int)<(x.jn.length:Int)\/(x.ji.length:Int)<1\/(10:Int)<(x.ji.length:Int)
def oT(ps:Int)(x:cD):Prop:=x.jl≠0\/x.jj≠0\/(0:Int)<(x.ji.length:Int)\/(0:Int)<(x.jm.length:Int)\/(x.jn.length:Int)≠ps
instance badCDec(x:cD):Decidable (oS x):=by unfold oS;exact inferInstance
instance badMDec(x:cD):Decidable (uV x):=by unfold uV;exact inferInstance
instance badEDec(ps:Int)(x:cD):Decidable (oT ps x):=by unfold oT;exact inferInstance
def gS(ps:Int)(ni:Nat)(x:cD):Int:=
 if x.jk=1 then(if oS x then 3 else if jQ 1 1000 x.jm then 2 else 0)
 else if x.jk=2 then(if uV x then 3 else if x.jl<0\/ps - 1<x.jl\/x.jj<0\/(ni:Int) - 1<x.jj then 2 else 0)
 else if x.jk=3 then(if oT ps x then 3 else if jQ (-1000000) 1000000 x.jn then 2 else 0)
 else 3
def bT(S:St)(cs:bu)(x:cD):Prop:=∃a b c,cs= [jr x.jk,jr x.jl,jr x.jj,a,b,c]/\bN .i64 S a x.ji/\bN .i64 S b x.jm/\bN .i64 S c x.jn
def bF:aFq bT:=fun⟨a,b,c,h,f,g,j⟩ e=>⟨a,b,c,h,f.jo e,g.jo e,j.jo e⟩
def cC(_:St)(cs:bu)(x:jL):Prop:=cs= [jr x.jl,jr x.cm]
def bQ:aFq cC:=fun h _=>h
def aRY(S:St)(v:AV)(g:aP):Prop:=∃n i,v= .agg [jr g.ch,n,i]/\aE 6 bT S n g.ce/\aE 2 cC S i g.cg
def zP{x:AV}{o:Bool}{s:Nat}(a:h.get b=some (.cells cs o s))(c:cs[j]? =some x):eE (.ptr b (0+j)) false 1 h=some x:=by
 simp only[eE,qK,aR,nJ,cG,a,aH,nH,qU,An,c]
def mA{o:Bool}{s:Nat}(a:h.get b=some (.cells cs o s))(c:cs.length=n):eE (.ptr b 0) true n h=some (.agg cs):=by
 subst c;simp only[eE,qK,aL,aAi,cG,a,aH,nH];unfold cut;rw[iA,iG,Di,if_pos (Af _),Eo];rfl
section
variable {h:T AB}{b:Nat}{x0 x1 x2 x3 x4 x5:AV}{o:Bool}{s:Nat}
def fF(a:h.get b=some (.cells [x0,x1,x2,x3,x4,x5] o s)):eE (.ptr b (0+0)) false 1 h=some x0:=zP a rfl
def eF(a:h.get b=some (.cells [x0,x1,x2,x3,x4,x5] o s)):eE (.ptr b (0+1)) false 1 h=some x1:=zP a rfl
def dI(a:h.get b=some (.cells [x0,x1,x2,x3,x4,x5] o s)):eE (.ptr b (0+2)) false 1 h=some x2:=zP a rfl
def dD(a:h.get b=some (.cells [x0,x1,x2,x3,x4,x5] o s)):eE (.ptr b (0+3)) false 1 h=some x3:=zP a rfl
def dW(a:h.get b=some (.cells [x0,x1,x2,x3,x4,x5] o s)):eE (.ptr b (0+4)) false 1 h=some x4:=zP a rfl
def fA(a:h.get b=some (.cells [x0,x1,x2,x3,x4,x5] o s)):eE (.ptr b (0+5)) false 1 h=some x5:=zP a rfl
def ldN(a:h.get b=some (.cells [x0,x1,x2,x3,x4,x5] o s)):eE (.ptr b 0) true 6 h=some (.agg [x0,x1,x2,x3,x4,x5]):=mA a rfl
end
section
variable {k:Nat}{α:Type}{E:St->bu->α->Prop}{S:St}{v:AV}{l:List α}
def aE.at(h:aE k E S v l)(A:0<k){a:α}(hi:l[i]? =some a):∃e b p,eY (.slice k) v i=some (.ptr b p)/\b<S.nx/\e.length=k/\E S e a/\eE (.ptr b p) true k S.h=some (.agg e)/\∀j x,e[j]? =some x->eE (.ptr b (p+j)) false 1 S.h=some x:=by
 have⟨e,b,p,q,r,t,u,cs,m,f⟩:=h.get hi;have g:=(Aj.1 hi).1;refine⟨e,b,p,by rw[<-q];exact h.c9 g,r,t,u,?_,fun j x w=>?_⟩
 .simp only[eE,qK,aL,aAi,m,aH];have c:cut cs p k=some e:=by
   have y:p+k<=cs.length:=by
    have:=f (k - 1) (e[k - 1]' au) (Ab au);have:=(Aj.1 this).1;omega
   unfold cut;rw[iA,iG,if_pos (by rw[Cz];omega)];congr 1;refine En (by rw[Bx,Cz];omega) fun j B z=>?_;have:=f j e[j] (Ab z);rw[List.getElem_take,List.getElem_drop];exact(Aj.1 this).2
  rw[c,aH]
 .simp only[eE,qK,aR,nJ,m,aH,qU];exact f j x w
end
def yA(x:cD):Prop:=(0:Int)<(x.jn.length:Int)\/(0:Int)<(x.jm.length:Int)\/(x.ji.length:Int)<1\/(10:Int)<(x.ji.length:Int)
instance badMDec'(x:cD):Decidable (yA x):=by unfold yA;exact inferInstance
def aIs(x:cD):yA x↔uV x:=by unfold uV yA;omega
def aE8(ps:Int)(ni:Nat)(x:cD):Prop:=x.jl<0\/ps<=x.jl\/x.jj<0\/((ni:Nat):Int)<=x.jj
instance badRDec(ps:Int)(ni:Nat)(x:cD):Decidable (aE8 ps ni x):=by unfold aE8;exact inferInstance
def aH7(ps:Int)(ni:Nat)(x:cD):aE8 ps ni x↔(x.jl<0\/ps - 1<x.jl\/x.jj<0\/(ni:Int) - 1<x.jj):=by unfold aE8;omega
def yM(a:i<l.length)(h:¬jQ lo hi (l.take i))(e:¬ (l.getD i 0<lo\/hi<l.getD i 0)):¬jQ lo hi (l.take (i+1)):=by
 rintro⟨w,f,g⟩;rw[Cc,Ab a] at f;rcases Bi.1 f with c|c
 .exact h ⟨w,c,g⟩
 .simp at c;rw[Ad,Ab a] at e;subst c;exact e g
def aAA(a:i<l.length)(c:l.getD i 0<lo\/hi<l.getD i 0):jQ lo hi l:=by
 rw[Ad,Ab a] at c;exact⟨l[i],Bl a,c⟩
def aTh(S:St)(b t:Nat)(lo hi:Int)(l:bt)(k:Nat)(A:bO)(X:St):Prop:=A.inr=false/\X=S/\∃i,i+k=l.length/\¬jQ lo hi (l.take i)/\aA 3 A.F= .ptr b 0/\aA t A.F=jr (i:Int)
def aKp{n i:AV}{ni:Nat}(H:Has fns)(hx:bT S cs x)(ao:ps<=4)(hi:lW i=some (jr ((ni:Nat):Int))):iK fns (.fn 31 [] []) [.agg [jr ps,n,i],.agg cs] S fun r S'=>r=jr (gS ps ni x)/\jq S S':=by
 obtain⟨a,b,c,rfl,hn,hw,hp⟩:=hx;refine cJ H.f31 (by simp) ?_;refine ai ?_;apply bS;refine dC (by refine ai ?_;exact bB _) ?_;intro S1 s1 n1 y;refine dC (by refine ai ?_;exact bB _) ?_;intro P s2 n2 e;refine ai ?_;have q:P.h.get S.nx=js [jr ps,n,i]:=by rw[s2.2 _ au];exact y
 have N:=s1.trans s2;have D:Int.negSucc 999999= -1000000:=rfl;have m:=hn.jo N;have f:=hw.jo N;have g:=hp.jo N;apply fZ;simp only[↓aD,aC,rE,↓reduceIte,aU,aT,fF e];refine aJ (aB (aF ?_));simp only[↓aD,aC,rE,↓reduceIte];unfold gS;have V:∀F:Fr,jN fns (.seq (.reg [oq 4 (.mv (ci 0))]) .ret) ⟨F,false⟩ P (aRB [.t 4] fun r S'=>r=jr 0/\jq S S'):=fun F=>by
  refine bS (ai ?_);refine aS (ai ?_);exact N
 by_cases k1:x.jk=1
 .rw[if_pos k1];refine aM (jf (Ac k1)) ?_;refine aB (aB (aX (Q:=fun o A X=>o= .normal/\A.inr=false/\X=P/\aA 3 A.F= .ptr S1.nx 0/\aA 45 A.F= .bool (decide (oS x))) (aF ?_) ?_))
  .by_cases t:x.jl≠0
   .rw[Ac (show oS x from .inl t)];simp only[↓aD,aC,rE,↓reduceIte,aU,aT,eF e,dI e,dD e,dW e,fA e,mB q,lS q,m.len,f.len,g.len,hi,Ag,Ac t]
   by_cases y:x.jj≠0
   .rw[Ac (show oS x from .inr (.inl y))];simp only[↓aD,aC,rE,↓reduceIte,aU,aT,eF e,dI e,dD e,dW e,fA e,mB q,lS q,m.len,f.len,g.len,hi,Ag,Aa t,Ac y]
   by_cases z:(0:Int)<(x.jn.length:Int)
   .rw[Ac (show oS x from .inr (.inr (.inl z)))];simp only[↓aD,aC,rE,↓reduceIte,aU,aT,eF e,dI e,dD e,dW e,fA e,mB q,lS q,m.len,f.len,g.len,hi,Ag,Aa t,Aa y,Ac z]
   by_cases C:(x.ji.length:Int)<1
   .rw[Ac (show oS x from .inr (.inr (.inr (.inl C))))];simp only[↓aD,aC,rE,↓reduceIte,aU,aT,eF e,dI e,dD e,dW e,fA e,mB q,lS q,m.len,f.len,g.len,hi,Ag,Aa t,Aa y,Aa z,Ac C]
   by_cases R:(60:Int)<(x.ji.length:Int)
   .rw[Ac (show oS x from .inr (.inr (.inr (.inr (.inl R)))))];simp only[↓aD,aC,rE,↓reduceIte,aU,aT,eF e,dI e,dD e,dW e,fA e,mB q,lS q,m.len,f.len,g.len,hi,Ag,Aa t,Aa y,Aa z,Aa C,Ac R]
   by_cases c5:(x.jm.length:Int)≠(x.ji.length:Int)
   .rw[Ac (show oS x from .inr (.inr (.inr (.inr (.inr (c5))))))];simp only[↓aD,aC,rE,↓reduceIte,aU,aT,eF e,dI e,dD e,dW e,fA e,mB q,lS q,m.len,f.len,g.len,hi,Ag,Aa t,Aa y,Aa z,Aa C,Aa R,Ac c5]
   rw[Aa (show ¬oS x by rintro(W|I|J|Y|h4|h5)<;>first | exact t W | exact y I | exact z J | exact C Y | exact R h4 | exact c5 h5)];simp only[↓aD,aC,rE,↓reduceIte,aU,aT,eF e,dI e,dD e,dW e,fA e,mB q,lS q,m.len,f.len,g.len,hi,Ag,Aa t,Aa y,Aa z,Aa C,Aa R,Aa c5]
  rintro o ⟨F,inr⟩ X ⟨rfl,rfl,K,u,B⟩;simp only at u B;rw[K];refine ai ?_
  by_cases bad:oS x
  .rw[if_pos bad];refine aM (jg B (Ac bad)) ?_;refine bS (ai ?_);refine aS (ai ?_);exact N
  rw[if_neg bad];have ac:x.jm.length<=60:=by unfold oS at bad;omega
  refine aK (jg B (Aa bad)) (aG ?_);refine ai ?_
  refine bS (ai ?_);refine aJ (bL (aTh P S1.nx 5 1 1000 x.jm) ?_ x.jm.length _ _ ⟨rfl,rfl,0,au,(by rintro⟨w,h,_⟩;simp at h),ak u,aj⟩);rintro k ⟨F,inr⟩ X ⟨rfl,K,j,an,Z,u,G⟩;simp only at u G;rw[K];apply fZ;simp only[↓aD,aC,rE,↓reduceIte,G,u,aU,aT,dW e,f.len,Ag];by_cases T:j<x.jm.length
  .refine aM i9 (aG ?_);refine ai ?_
   have L:=f.c9 T;have M:=f.ld T;have aa:=yM (lo:=1) (hi:=1000) T Z;have O:=aAA (lo:=1) (hi:=1000) T;generalize x.jm.getD j 0=w at *;have w1:IntKind.i64.wrap ((j:Int)+1)=((j+1:Nat):Int):=by
    rw[wrap_i64 au au];omega
   refine aB (aJ (aB (aX (Q:=fun o A X=>o= .normal/\A.inr=false/\X=P/\aA 3 A.F= .ptr S1.nx 0/\aA 5 A.F=jr (j:Int)/\aA 66 A.F= .bool (decide (w<1\/1000<w))) (aF ?_) ?_)))
   .by_cases I:w<1
    .rw[Ac (show w<1\/1000<w from .inl I)];simp only[↓aD,aC,rE,↓reduceIte,G,u,aU,aT,dW e,aY,L,M,D,Ac I]
    .by_cases J:1000<w
     .rw[Ac (show w<1\/1000<w from .inr J)];simp only[↓aD,aC,rE,↓reduceIte,G,u,aU,aT,dW e,aY,L,M,D,Aa I,Ac J]
     .rw[Aa (au:¬ (w<1\/1000<w))];simp only[↓aD,aC,rE,↓reduceIte,G,u,aU,aT,dW e,aY,L,M,D,Aa I,Aa J]
   rintro o ⟨F,inr⟩ X ⟨rfl,rfl,K,u,G,B⟩;simp only at u G B;rw[K];refine ai ?_
   by_cases U:w<1\/1000<w
   .rw[if_pos (O U)];refine aM (jg B (Ac U)) ?_;refine bS (ai ?_);refine aS (ai ?_);exact N
   .refine aK (jg B (Aa U)) (aG ?_);refine ai ?_
    refine aF (iu G w1 ?_);exact⟨k - 1,au,rfl,rfl,j+1,au,aa U,ak u,aj⟩
  .refine aK i9 (bH ?_);refine ai ?_;have ab:¬jQ 1 1000 x.jm:=by rw[Bh au] at Z;exact Z
   rw[if_neg ab];exact V _
 rw[if_neg k1];refine aK (jf (Aa k1)) ?_;refine bS (ai ?_);by_cases k2:x.jk=2
 .rw[if_pos k2];refine aM (jf (Ac k2)) ?_;refine aB (aB (aX (Q:=fun o A X=>o= .normal/\A.inr=false/\X=P/\aA 2 A.F= .ptr S.nx 0/\aA 3 A.F= .ptr S1.nx 0/\aA 90 A.F= .bool (decide (yA x))) (aF ?_) ?_))
  .by_cases t:(0:Int)<(x.jn.length:Int)
   .rw[Ac (show yA x from .inl t)];simp only[↓aD,aC,rE,↓reduceIte,aU,aT,eF e,dI e,dD e,dW e,fA e,mB q,lS q,m.len,f.len,g.len,hi,Ag,Ac t]
   by_cases y:(0:Int)<(x.jm.length:Int)
   .rw[Ac (show yA x from .inr (.inl y))];simp only[↓aD,aC,rE,↓reduceIte,aU,aT,eF e,dI e,dD e,dW e,fA e,mB q,lS q,m.len,f.len,g.len,hi,Ag,Aa t,Ac y]
   by_cases z:(x.ji.length:Int)<1
   .rw[Ac (show yA x from .inr (.inr (.inl z)))];simp only[↓aD,aC,rE,↓reduceIte,aU,aT,eF e,dI e,dD e,dW e,fA e,mB q,lS q,m.len,f.len,g.len,hi,Ag,Aa t,Aa y,Ac z]
   by_cases C:(10:Int)<(x.ji.length:Int)
   .rw[Ac (show yA x from .inr (.inr (.inr (C))))];simp only[↓aD,aC,rE,↓reduceIte,aU,aT,eF e,dI e,dD e,dW e,fA e,mB q,lS q,m.len,f.len,g.len,hi,Ag,Aa t,Aa y,Aa z,Ac C]
   rw[Aa (show ¬yA x by rintro(W|I|J|Y)<;>first | exact t W | exact y I | exact z J | exact C Y)];simp only[↓aD,aC,rE,↓reduceIte,aU,aT,eF e,dI e,dD e,dW e,fA e,mB q,lS q,m.len,f.len,g.len,hi,Ag,Aa t,Aa y,Aa z,Aa C]
  rintro o ⟨F,inr⟩ X ⟨rfl,rfl,K,p2,u,B⟩;simp only at p2 u B;rw[K];refine ai ?_
  by_cases bad:yA x
  .rw[if_pos ((aIs x).1 bad)];refine aM (jg B (Ac bad)) ?_;refine bS (ai ?_);refine aS (ai ?_);exact N
  rw[if_neg (fun h=>bad ((aIs x).2 h))];refine aK (jg B (Aa bad)) (aG ?_);refine ai ?_
  refine aB (aX (Q:=fun o A X=>o= .normal/\A.inr=false/\X=P/\aA 113 A.F= .bool (decide (aE8 ps ni x))) (aF ?_) ?_)
  .by_cases t:x.jl<0
   .rw[Ac (show aE8 ps ni x from .inl t)];simp only[↓aD,aC,rE,↓reduceIte,aU,aT,eF e,dI e,dD e,dW e,fA e,mB q,lS q,m.len,f.len,g.len,hi,Ag,u,p2,Ac t]
   by_cases y:ps<=x.jl
   .rw[Ac (show aE8 ps ni x from .inr (.inl y))];simp only[↓aD,aC,rE,↓reduceIte,aU,aT,eF e,dI e,dD e,dW e,fA e,mB q,lS q,m.len,f.len,g.len,hi,Ag,u,p2,Aa t,Ac y]
   by_cases z:x.jj<0
   .rw[Ac (show aE8 ps ni x from .inr (.inr (.inl z)))];simp only[↓aD,aC,rE,↓reduceIte,aU,aT,eF e,dI e,dD e,dW e,fA e,mB q,lS q,m.len,f.len,g.len,hi,Ag,u,p2,Aa t,Aa y,Ac z]
   by_cases C:((ni:Nat):Int)<=x.jj
   .rw[Ac (show aE8 ps ni x from .inr (.inr (.inr (C))))];simp only[↓aD,aC,rE,↓reduceIte,aU,aT,eF e,dI e,dD e,dW e,fA e,mB q,lS q,m.len,f.len,g.len,hi,Ag,u,p2,Aa t,Aa y,Aa z,Ac C]
   rw[Aa (show ¬aE8 ps ni x by rintro(W|I|J|Y)<;>first | exact t W | exact y I | exact z J | exact C Y)];simp only[↓aD,aC,rE,↓reduceIte,aU,aT,eF e,dI e,dD e,dW e,fA e,mB q,lS q,m.len,f.len,g.len,hi,Ag,u,p2,Aa t,Aa y,Aa z,Aa C]
  rintro o ⟨F,inr⟩ X ⟨rfl,rfl,K,B⟩;simp only at B;rw[K];refine ai ?_
  by_cases bad:aE8 ps ni x
  .rw[if_pos ((aH7 ps ni x).1 bad)];refine aM (jg B (Ac bad)) ?_;refine bS (ai ?_);refine aS (ai ?_);exact N
  rw[if_neg (fun h=>bad ((aH7 ps ni x).2 h))];refine aK (jg B (Aa bad)) (aG ?_);refine ai ?_;exact V _
 rw[if_neg k2];refine aK (jf (Aa k2)) ?_;refine bS (ai ?_);by_cases k3:x.jk=3
 .rw[if_pos k3];refine aM (jf (Ac k3)) ?_;refine aB (aB (aX (Q:=fun o A X=>o= .normal/\A.inr=false/\X=P/\aA 3 A.F= .ptr S1.nx 0/\aA 143 A.F= .bool (decide (oT ps x))) (aF ?_) ?_))
  .by_cases t:x.jl≠0
   .rw[Ac (show oT ps x from .inl t)];simp only[↓aD,aC,rE,↓reduceIte,aU,aT,eF e,dI e,dD e,dW e,fA e,mB q,lS q,m.len,f.len,g.len,hi,Ag,Ac t]
   by_cases y:x.jj≠0
   .rw[Ac (show oT ps x from .inr (.inl y))];simp only[↓aD,aC,rE,↓reduceIte,aU,aT,eF e,dI e,dD e,dW e,fA e,mB q,lS q,m.len,f.len,g.len,hi,Ag,Aa t,Ac y]
   by_cases z:(0:Int)<(x.ji.length:Int)
   .rw[Ac (show oT ps x from .inr (.inr (.inl z)))];simp only[↓aD,aC,rE,↓reduceIte,aU,aT,eF e,dI e,dD e,dW e,fA e,mB q,lS q,m.len,f.len,g.len,hi,Ag,Aa t,Aa y,Ac z]
   by_cases C:(0:Int)<(x.jm.length:Int)
   .rw[Ac (show oT ps x from .inr (.inr (.inr (.inl C))))];simp only[↓aD,aC,rE,↓reduceIte,aU,aT,eF e,dI e,dD e,dW e,fA e,mB q,lS q,m.len,f.len,g.len,hi,Ag,Aa t,Aa y,Aa z,Ac C]
   by_cases R:(x.jn.length:Int)≠ps
   .rw[Ac (show oT ps x from .inr (.inr (.inr (.inr (R)))))];simp only[↓aD,aC,rE,↓reduceIte,aU,aT,eF e,dI e,dD e,dW e,fA e,mB q,lS q,m.len,f.len,g.len,hi,Ag,Aa t,Aa y,Aa z,Aa C,Ac R]
   rw[Aa (show ¬oT ps x by rintro(W|I|J|Y|h4)<;>first | exact t W | exact y I | exact z J | exact C Y | exact R h4)];simp only[↓aD,aC,rE,↓reduceIte,aU,aT,eF e,dI e,dD e,dW e,fA e,mB q,lS q,m.len,f.len,g.len,hi,Ag,Aa t,Aa y,Aa z,Aa C,Aa R]
  rintro o ⟨F,inr⟩ X ⟨rfl,rfl,K,u,B⟩;simp only at u B;rw[K];refine ai ?_
  by_cases bad:oT ps x
  .rw[if_pos bad];refine aM (jg B (Ac bad)) ?_;refine bS (ai ?_);refine aS (ai ?_);exact N
  rw[if_neg bad];have ac:x.jn.length<=60:=by unfold oT at bad;omega
  refine aK (jg B (Aa bad)) (aG ?_);refine ai ?_
  refine bS (ai ?_);refine aJ (bL (aTh P S1.nx 6 (-1000000) 1000000 x.jn) ?_ x.jn.length _ _ ⟨rfl,rfl,0,au,(by rintro⟨w,h,_⟩;simp at h),ak u,aj⟩);rintro k ⟨F,inr⟩ X ⟨rfl,K,j,an,Z,u,G⟩;simp only at u G;rw[K];apply fZ;simp only[↓aD,aC,rE,↓reduceIte,G,u,aU,aT,fA e,g.len,Ag];by_cases T:j<x.jn.length
  .refine aM i9 (aG ?_);refine ai ?_
   have L:=g.c9 T;have M:=g.ld T;have aa:=yM (lo:=(-1000000)) (hi:=1000000) T Z;have O:=aAA (lo:=(-1000000)) (hi:=1000000) T;generalize x.jn.getD j 0=w at *;have w1:IntKind.i64.wrap ((j:Int)+1)=((j+1:Nat):Int):=by
    rw[wrap_i64 au au];omega
   refine aB (aJ (aB (aX (Q:=fun o A X=>o= .normal/\A.inr=false/\X=P/\aA 3 A.F= .ptr S1.nx 0/\aA 6 A.F=jr (j:Int)/\aA 164 A.F= .bool (decide (w<(-1000000)\/1000000<w))) (aF ?_) ?_)))
   .by_cases I:w<(-1000000)
    .rw[Ac (show w<(-1000000)\/1000000<w from .inl I)];simp only[↓aD,aC,rE,↓reduceIte,G,u,aU,aT,fA e,aY,L,M,D,Ac I]
    .by_cases J:1000000<w
     .rw[Ac (show w<(-1000000)\/1000000<w from .inr J)];simp only[↓aD,aC,rE,↓reduceIte,G,u,aU,aT,fA e,aY,L,M,D,Aa I,Ac J]
     .rw[Aa (au:¬ (w<(-1000000)\/1000000<w))];simp only[↓aD,aC,rE,↓reduceIte,G,u,aU,aT,fA e,aY,L,M,D,Aa I,Aa J]
   rintro o ⟨F,inr⟩ X ⟨rfl,rfl,K,u,G,B⟩;simp only at u G B;rw[K];refine ai ?_
   by_cases U:w<(-1000000)\/1000000<w
   .rw[if_pos (O U)];refine aM (jg B (Ac U)) ?_;refine bS (ai ?_);refine aS (ai ?_);exact N
   .refine aK (jg B (Aa U)) (aG ?_);refine ai ?_
    refine aF (iu G w1 ?_);exact⟨k - 1,au,rfl,rfl,j+1,au,aa U,ak u,aj⟩
  .refine aK i9 (bH ?_);refine ai ?_;have ab:¬jQ (-1000000) 1000000 x.jn:=by rw[Bh au] at Z;exact Z
   rw[if_neg ab];exact V _
 rw[if_neg k3];refine aK (jf (Aa k3)) ?_;refine bS (ai ?_);refine aS (ai ?_);exact N
def bN.self{k:IntKind}(h:bN k S v l):cI v v=true:=by
 rcases h with⟨_,h|h⟩|⟨b,off,cap,o,cs,rfl,_⟩
 .subst h;rfl
 .subst h;rfl
 .exact nQ ..
def aE.self{k:Nat}{l:List α}(h:aE k E S v l):cI v v=true:=by
 rcases h with⟨_,h|h⟩|⟨b,off,cap,o,cs,rfl,_⟩
 .subst h;rfl
 .subst h;rfl
 .exact nQ ..
def aOx{k:IntKind}{z:Int}(a:b<S.nx)(h:S.h.get b=js [.int k z]):bN k S (.sl b 0 1 1 false) [z]:=by
 refine .inr ⟨b,0,1,false,[.int k z],rfl,Af _,a,by unfold cG;rw[h];rfl,fun i x hi=>?_⟩;cases i with
 | zero=>simp at hi;subst hi;rfl
 | succ i=>simp at hi
def aEY{lo hi z:Int}:jQ lo hi [z]↔z<lo\/hi<z:=by
 unfold jQ;simp
def aCa{x0 x1 x2 x3 x4 x5:AV}(a:cI x0 x0=true)(c:cI x1 x1=true)(e:cI x2 x2=true)(f:cI x3 x3=true)(g:cI x4 x4=true)(j:cI x5 x5=true):cI (.agg [x0,x1,x2,x3,x4,x5]) (.agg [x0,x1,x2,x3,x4,x5])=true:=by
 simp only[cI,kG,a,c,e,f,g,j,aL]
def aMs{c:Nat}(H:Has fns)(m:S.h.get c=js [jr lo])(q:S.h.get b4=js [jr hi]):iK fns (.fn 99 [] [.ptr c 0,.ptr b4 0]) [jr w] S fun r S'=>r= .bool (decide (w<lo\/hi<w))/\S'=S:=by
 have e:eE (.ptr c 0) false 1 S.h=some (jr lo):=zP (j:=0) m rfl;have g:eE (.ptr b4 0) false 1 S.h=some (jr hi):=zP (j:=0) q rfl;refine cJ H.f99 (by simp) ?_;refine ai ?_;refine bS (ai ?_);apply bS;by_cases a:w<lo
 .rw[Ac (show w<lo\/hi<w from .inl a)];refine iu e (Ac a) ?_;apply aS;simp only[↓aD,aC,rE,↓reduceIte]
 .by_cases f:hi<w
  .rw[Ac (show w<lo\/hi<w from .inr f)];refine iz e g (Aa a) (Ac f) ?_;apply aS;simp only[↓aD,aC,rE,↓reduceIte]
  .rw[Aa (au:¬ (w<lo\/hi<w))];refine iz e g (Aa a) (Aa f) ?_;apply aS;simp only[↓aD,aC,rE,↓reduceIte]
def aU0(S:St)(v f:AV)(lo hi:Int)(l:bt)(k:Nat)(A:bO)(X:St):Prop:=A.inr=false/\X=S/\∃i,i+k=l.length/\¬jQ lo hi (l.take i)/\aA 0 A.F=v/\aA 1 A.F=f/\aA 7 A.F=jr (l.length:Int)/\aA 8 A.F=jr (i:Int)
def aJ4{g:Nat}(H:Has fns)(I:S.h.get g=js [jr lo])(J:S.h.get b4=js [jr hi])(m:bN .i64 S v l)(G:l.length<=1000000):iK fns (.fn 101 [] []) [v,.fn 99 [] [.ptr g 0,.ptr b4 0]] S fun r S'=>(∃z,r=jr z/\(0<=z↔jQ lo hi l))/\S'=S:=by
 refine cJ H.f101 (by simp) ?_;refine ai ?_;refine bS (ai ?_);refine fZ (iu m.len @Ag ?_);refine aJ (bL (aU0 S v (.fn 99 [] [.ptr g 0,.ptr b4 0]) lo hi l) ?_ l.length _ _ ⟨rfl,rfl,0,au,(by rintro⟨w,h,_⟩;simp at h),aj,aj,aj,aj⟩);rintro k ⟨F,inr⟩ X ⟨rfl,K,j,L,q,t,u,y,c⟩;simp only at t u y c;rw[K];refine bS (iu y c ?_);by_cases e:j<l.length
 .refine aB (aM i9 (aG ?_));refine ai ?_;have A:=m.c9 e;have B:=m.ld e;have C:=yM (lo:=lo) (hi:=hi) e q;have a:=aAA (lo:=lo) (hi:=hi) e;generalize l.getD j 0=w at *;have M:=du j
  refine aB (aJ (aB (aF ?_)));refine io c ?_;apply bS;simp only[↓aD,aC,rE,↓reduceIte,t,u,aY,A,B];refine bJ (ai ?_);refine aW (aMs H I J) ?_;rintro _ Y ⟨rfl,N⟩;rw[N]
  by_cases f:w<lo\/hi<w
  .refine aM (jf (Ac f)) ?_;refine bS (ai ?_);refine aS (ai ?_);exact⟨_,rfl,⟨fun _=>a f,fun _=>au⟩⟩
  .refine aK (jf (Aa f)) (aG ?_);refine ai ?_
   refine aF (iu c M ?_);exact⟨k - 1,au,rfl,rfl,j+1,au,C f,ak t,ak u,ak y,aj⟩
 .refine aB (aK i9 (bH ?_));refine ai ?_;have D:¬jQ lo hi l:=by rw[Bh au] at q;exact q
  refine bS (ai ?_);refine aS (ai ?_);exact⟨_,rfl,⟨fun h=>absurd h az,fun h=>absurd h D⟩⟩
def aKh{c:Nat}(H:Has fns)(e:S.h.get c=js [jr lo])(f:S.h.get b4=js [jr hi])(g:bN .i64 S v l)(a:l.length<=1000000):iK fns (.fn 98 [] []) [v,.fn 99 [] [.ptr c 0,.ptr b4 0]] S fun r S'=>r= .bool (decide (jQ lo hi l))/\S'=S:=by
 refine cJ H.f98 (by simp) ?_;refine ai ?_;refine bS (ai ?_);refine bS (ai ?_);refine bJ (ai ?_);refine aW (aJ4 H e f g a) ?_;rintro _ Y ⟨⟨z,rfl,j⟩,m⟩;rw[m];have q:decide ((0:Int)<=z)=decide (jQ lo hi l):=by rw[Cv,Cu,Cu];exact j
 refine io q ?_;apply aS;simp only[↓aD,aC,rE,↓reduceIte]
def tP(H:Has fns)(f:bN .i64 S v l)(a:l.length<=1000000):iK fns (.fn 95 [] []) [jr lo,jr hi,v] S fun r S'=>r=jr (if jQ lo hi l then 2 else 0)/\jq S S':=by
 refine cJ H.f95 (by simp) ?_;refine ai ?_;apply bS;refine dC (by refine ai ?_;exact cF _ _) ?_;intro S1 s1 q g;refine dC (by refine ai ?_;exact cF _ _) ?_;intro t s2 u j;refine ai ?_;have e:=s1.trans s2;refine fZ (io @aBJ ?_);refine bJ (ai ?_);refine aW (aKh H (by rw[s2.2 _ au];exact g) j (f.jo e) a) ?_;rintro _ Y ⟨rfl,m⟩;rw[m]
 by_cases c:jQ lo hi l
 .rw[if_pos c];refine aM (jf (Ac c)) ?_;refine bS (ai ?_);refine aS (ai ?_);exact e
 .rw[if_neg c];refine aK (jf (Aa c)) (aG ?_);refine ai ?_
  refine bS (ai ?_);refine aS (ai ?_);exact e
def wW(S:St)(wb:Nat)(ps:Int)(n i p d l:AV):Prop:=S.h.get wb=js [jr ps,n,i,p,d,l]/\wb<S.nx
def wW.jo{n i p d l:AV}(h:wW S wb ps n i p d l)(a:jq S S'):wW S' wb ps n i p d l:=⟨(a.2 _ h.2).trans h.1,Ae h.2 a.1⟩
section
variable {S:St}{wb:Nat}{ps:Int}{n i p d l:AV}{ni:Nat}{cs:bu}{x:cD}
def aIz(H:Has fns)(D:bT S cs x):iK fns (.fn 90 [] []) [.ptr wb 0,.agg cs] S fun r S'=>r=jr (if oS x then 3 else if jQ 1 1000 x.jm then 2 else 0)/\jq S S':=by
 obtain⟨a,b,c,rfl,G,I,J⟩:=D;refine cJ H.f90 (by simp) ?_;refine ai ?_;apply bS;refine dC (by refine ai ?_;exact bB _) ?_;intro K s2 W e;refine ai ?_;have g:=G.jo s2;have f:=I.jo s2;have j:=J.jo s2;refine aB (aB (aX (Q:=fun o z X=>o= .normal/\z.inr=false/\X=K/\aA 3 z.F= .ptr S.nx 0/\aA 39 z.F= .bool (decide (oS x))) (aF ?_) ?_))
 .by_cases m:x.jl≠0
  .rw[Ac (show oS x from .inl m)];simp only[↓aD,aC,rE,↓reduceIte,aU,aT,eF e,dI e,dD e,dW e,fA e,g.len,f.len,j.len,Ag,Ac m]
  by_cases q:x.jj≠0
  .rw[Ac (show oS x from .inr (.inl q))];simp only[↓aD,aC,rE,↓reduceIte,aU,aT,eF e,dI e,dD e,dW e,fA e,g.len,f.len,j.len,Ag,Aa m,Ac q]
  by_cases t:(0:Int)<(x.jn.length:Int)
  .rw[Ac (show oS x from .inr (.inr (.inl t)))];simp only[↓aD,aC,rE,↓reduceIte,aU,aT,eF e,dI e,dD e,dW e,fA e,g.len,f.len,j.len,Ag,Aa m,Aa q,Ac t]
  by_cases u:(x.ji.length:Int)<1
  .rw[Ac (show oS x from .inr (.inr (.inr (.inl u))))];simp only[↓aD,aC,rE,↓reduceIte,aU,aT,eF e,dI e,dD e,dW e,fA e,g.len,f.len,j.len,Ag,Aa m,Aa q,Aa t,Ac u]
  by_cases w:(60:Int)<(x.ji.length:Int)
  .rw[Ac (show oS x from .inr (.inr (.inr (.inr (.inl w)))))];simp only[↓aD,aC,rE,↓reduceIte,aU,aT,eF e,dI e,dD e,dW e,fA e,g.len,f.len,j.len,Ag,Aa m,Aa q,Aa t,Aa u,Ac w]
  by_cases y:(x.jm.length:Int)≠(x.ji.length:Int)
  .rw[Ac (show oS x from .inr (.inr (.inr (.inr (.inr (y))))))];simp only[↓aD,aC,rE,↓reduceIte,aU,aT,eF e,dI e,dD e,dW e,fA e,g.len,f.len,j.len,Ag,Aa m,Aa q,Aa t,Aa u,Aa w,Ac y]
  rw[Aa (show ¬oS x by rintro(L|M|N|O|P|R)<;>first | exact m L | exact q M | exact t N | exact u O | exact w P | exact y R)];simp only[↓aD,aC,rE,↓reduceIte,aU,aT,eF e,dI e,dD e,dW e,fA e,g.len,f.len,j.len,Ag,Aa m,Aa q,Aa t,Aa u,Aa w,Aa y]
 rintro o ⟨F,inr⟩ X ⟨rfl,rfl,T,B,A⟩;simp only at B A;rw[T];have U:=s2;refine ai ?_
 by_cases bad:oS x
 .rw[if_pos bad];refine aM (jg A (Ac bad)) ?_;refine bS (ai ?_);refine aS (ai ?_);exact U
 rw[if_neg bad];refine aK (jg A (Aa bad)) (aG ?_);refine ai ?_
 have C:x.jm.length<=60:=by unfold oS at bad;omega
 refine bS (iz B @aU @aT (dW e) ?_);refine bJ (ai ?_);refine aW (tP H f au) ?_;rintro _ Y ⟨rfl,V⟩
 refine aS (ai ?_);exact s2.trans V
def aMm(H:Has fns)(W:bT S cs x)(T:wW S wb ps n i p d l)(aa:1<=ps/\ps<=4)(hi:lW i=some (jr ((ni:Nat):Int)))(ab:ni<=1000)(J:cI i i=true):iK fns (.fn 91 [] []) [.ptr wb 0,.agg cs] S fun r S'=>r=jr (if uV x then 3 else if x.jl<0\/ps - 1<x.jl\/x.jj<0\/(ni:Int) - 1<x.jj then 2 else 0)/\jq S S':=by
 obtain⟨a,b,c,rfl,hn,hw,hp⟩:=W;refine cJ H.f91 (by simp) ?_;refine ai ?_;apply bS;refine dC (by refine ai ?_;exact bB _) ?_;intro K s2 n2 e;refine ai ?_;have f:=hn.jo s2;have g:=hw.jo s2;have j:=hp.jo s2;have w:=T.jo s2;refine aB (aB (aX (Q:=fun o C X=>o= .normal/\C.inr=false/\X=K/\aA 0 C.F= .ptr wb 0/\aA 3 C.F= .ptr S.nx 0/\aA 27 C.F= .bool (decide (uV x))) (aF ?_) ?_))
 .by_cases m:(0:Int)<(x.jm.length:Int)
  .rw[Ac (show uV x from .inl m)];simp only[↓aD,aC,rE,↓reduceIte,aU,aT,eF e,dI e,dD e,dW e,fA e,f.len,g.len,j.len,Ag,Ac m]
  by_cases u:(0:Int)<(x.jn.length:Int)
  .rw[Ac (show uV x from .inr (.inl u))];simp only[↓aD,aC,rE,↓reduceIte,aU,aT,eF e,dI e,dD e,dW e,fA e,f.len,g.len,j.len,Ag,Aa m,Ac u]
  by_cases y:(x.ji.length:Int)<1
  .rw[Ac (show uV x from .inr (.inr (.inl y)))];simp only[↓aD,aC,rE,↓reduceIte,aU,aT,eF e,dI e,dD e,dW e,fA e,f.len,g.len,j.len,Ag,Aa m,Aa u,Ac y]
  by_cases D:(10:Int)<(x.ji.length:Int)
  .rw[Ac (show uV x from .inr (.inr (.inr (D))))];simp only[↓aD,aC,rE,↓reduceIte,aU,aT,eF e,dI e,dD e,dW e,fA e,f.len,g.len,j.len,Ag,Aa m,Aa u,Aa y,Ac D]
  rw[Aa (show ¬uV x by rintro(h0|z|G|U)<;>first | exact m h0 | exact u z | exact y G | exact D U)];simp only[↓aD,aC,rE,↓reduceIte,aU,aT,eF e,dI e,dD e,dW e,fA e,f.len,g.len,j.len,Ag,Aa m,Aa u,Aa y,Aa D]
 rintro o ⟨F,inr⟩ X ⟨rfl,rfl,hX,L,M,N⟩;simp only at L M N;rw[hX];have sX:=s2;refine ai ?_
 by_cases bad:uV x
 .rw[if_pos bad];refine aM (jg N (Ac bad)) ?_;refine bS (ai ?_);refine aS (ai ?_);exact sX
 rw[if_neg bad];refine aK (jg N (Aa bad)) (aG ?_);refine ai ?_
 have w1:IntKind.i64.wrap (ps - 1)=ps - 1:=wrap_i64 au au;have w2:IntKind.i64.wrap ((ni:Int) - 1)=(ni:Int) - 1:=wrap_i64 au au;have q:S.nx<K.nx:=by omega
 refine aB (aB (pJ (fun _=>False) ?_));intro S3 s3 U n3;simp only[Aw,Ca,rA] at n3;refine ez L M (fF w.1) (eF e) w1 w.2 q @Ap ?_;rw[lD (k:=.i64) (n:=x.jl) (af)];refine ae ?_;refine aDS az rfl ?_;intro S4 s4 n4 c4;refine ae ?_;have t:jq K S4:=s4.jo s3 au;refine aW (tP H (aOx au c4) (by simp)) ?_;rintro _ Y ⟨rfl,I⟩;refine⟨I,?_⟩;refine c8 @aEY ?_;have O:=s2.trans (t.trans I);refine bS (ae ?_);by_cases z:x.jl<0\/ps - 1<x.jl
 .rw[if_pos (show x.jl<0\/ps - 1<x.jl\/x.jj<0\/(ni:Int) - 1<x.jj by omega)];refine aM (by simp only[↓sU,sD,rE,↓reduceIte,rA,if_pos z];rfl) ?_;apply bS;simp only[↓sU,sD,rE,↓reduceIte,rA,if_pos z];refine aS (ae ?_);exact O
 refine aK (by simp only[↓sU,sD,rE,↓reduceIte,rA,if_neg z];rfl) (aG ?_);refine ae ?_
 have A:=T.jo O;have P:Y.h.get S.nx=js [jr x.jk,jr x.jl,jr x.jj,a,b,c]:=by rw[(t.trans I).2 _ q];exact e
 have B:S.nx<Y.nx:=Ae q (t.trans I).1;refine aB (pJ (fun _=>False) ?_);intro S5 s5 h5 n5;simp only[Aw,Ca,rA] at n5;refine ff L M (dI A.1) hi J (dI P) w2 A.2 B @Ap ?_;rw[lD (k:=.i64) (n:=x.jj) (af)];refine ae ?_;refine aDS az rfl ?_;intro S6 s6 n6 c6;refine ae ?_;have R:jq Y S6:=s6.jo s5 au;refine aW (tP H (aOx au c6) (by simp)) ?_;rintro _ Z ⟨rfl,V⟩;refine⟨V,?_⟩;refine c8 @aEY ?_;refine aS (ae ?_);refine⟨?_,O.trans (R.trans V)⟩;by_cases G:x.jj<0\/(ni:Int) - 1<x.jj
 .rw[if_pos G,if_pos au]
 .rw[if_neg G,if_neg au]
def aPa(H:Has fns)(N:bT S cs x)(O:wW S wb ps n i p d l)(P:1<=ps/\ps<=4):iK fns (.fn 92 [] []) [.ptr wb 0,.agg cs] S fun r S'=>r=jr (if oT ps x then 3 else if jQ (-1000000) 1000000 x.jn then 2 else 0)/\jq S S':=by
 obtain⟨a,b,c,rfl,R,T,U⟩:=N;refine cJ H.f92 (by simp) ?_;refine ai ?_;apply bS;refine dC (by refine ai ?_;exact bB _) ?_;intro q s2 n2 e;refine ai ?_;have g:=R.jo s2;have j:=T.jo s2;have f:=U.jo s2;have m:=O.jo s2;have sn:=bN.self g;have w:=bN.self j;have y:=bN.self f;refine aB (aB (aX (Q:=fun o D X=>o= .normal/\D.inr=false/\jq q X/\aA 3 D.F= .ptr S.nx 0/\aA 35 D.F= .bool (decide (oT ps x))) (gI ?_) ?_))
 .have G:=jq.nx q 31;by_cases t:x.jl≠0
  .rw[Ac (show oT ps x from .inl t)];simp only[↓aD,aC,rE,↓reduceIte,aU,aT,eF e,dI e,dD e,dW e,fA e,g.len,j.len,f.len,Ag,dG,fG,dH,cP,iM,fF m.1,sn,w,y,Ac t];exact jq.nx q _
  by_cases u:x.jj≠0
  .rw[Ac (show oT ps x from .inr (.inl u))];simp only[↓aD,aC,rE,↓reduceIte,aU,aT,eF e,dI e,dD e,dW e,fA e,g.len,j.len,f.len,Ag,dG,fG,dH,cP,iM,fF m.1,sn,w,y,Aa t,Ac u];exact jq.nx q _
  by_cases z:(0:Int)<(x.ji.length:Int)
  .rw[Ac (show oT ps x from .inr (.inr (.inl z)))];simp only[↓aD,aC,rE,↓reduceIte,aU,aT,eF e,dI e,dD e,dW e,fA e,g.len,j.len,f.len,Ag,dG,fG,dH,cP,iM,fF m.1,sn,w,y,Aa t,Aa u,Ac z];exact jq.nx q _
  by_cases A:(0:Int)<(x.jm.length:Int)
  .rw[Ac (show oT ps x from .inr (.inr (.inr (.inl A))))];simp only[↓aD,aC,rE,↓reduceIte,aU,aT,eF e,dI e,dD e,dW e,fA e,g.len,j.len,f.len,Ag,dG,fG,dH,cP,iM,fF m.1,sn,w,y,Aa t,Aa u,Aa z,Ac A];exact jq.nx q _
  by_cases C:(x.jn.length:Int)≠ps
  .rw[Ac (show oT ps x from .inr (.inr (.inr (.inr (C)))))];simp only[↓aD,aC,rE,↓reduceIte,aU,aT,eF e,dI e,dD e,dW e,fA e,g.len,j.len,f.len,Ag,dG,fG,dH,cP,iM,fF m.1,sn,w,y,Aa t,Aa u,Aa z,Aa A,Ac C];exact jq.nx q _
  rw[Aa (show ¬oT ps x by rintro(V|W|Z|h3|h4)<;>first | exact t V | exact u W | exact z Z | exact A h3 | exact C h4)];simp only[↓aD,aC,rE,↓reduceIte,aU,aT,eF e,dI e,dD e,dW e,fA e,g.len,j.len,f.len,Ag,dG,fG,dH,cP,iM,fF m.1,sn,w,y,Aa t,Aa u,Aa z,Aa A,Aa C];exact jq.nx q _
 rintro o ⟨F,inr⟩ X ⟨rfl,rfl,I,L,J⟩;simp only at L J;have G:=s2.trans I;have K:X.h.get S.nx=js [jr x.jk,jr x.jl,jr x.jj,a,b,c]:=by rw[I.2 _ au];exact e
 refine ai ?_
 by_cases bad:oT ps x
 .rw[if_pos bad];refine aM (jg J (Ac bad)) ?_;refine bS (ai ?_);refine aS (ai ?_);exact G
 rw[if_neg bad];refine aK (jg J (Aa bad)) (aG ?_);refine ai ?_
 have M:x.jn.length<=60:=by unfold oT at bad;omega
 have B:Int.negSucc 999999= -1000000:=rfl;refine bS (iz L @aU @aT (fA K) ?_);refine bJ (io B ?_);refine aW (tP H (f.jo I) au) ?_;rintro _ Y ⟨rfl,hY⟩
 refine aS (ai ?_);exact G.trans hY
end
section
variable {S:St}{wb:Nat}{ps:Int}{n i p d l:AV}{ni:Nat}{cs:bu}{x:cD}
def aLU(H:Has fns)(w:bT S cs x)(hW:wW S wb ps n i p d l)(z:1<=ps/\ps<=4)(hi:lW i=some (jr ((ni:Nat):Int)))(M:ni<=1000)(N:cI i i=true):iK fns (.fn 86 [] []) [.ptr wb 0,.agg cs] S fun r S'=>r=jr (gS ps ni x)/\jq S S':=by
 obtain⟨a,b,c,rfl,hn,hw,hp⟩:=id w;refine cJ H.f86 (by simp) ?_;refine ai ?_;apply bS;refine dC (by refine ai ?_;exact bB _) ?_;intro S1 s1 n1 f;refine ai ?_;have O:∀ (F:Fr) (h:T AB),iC (.build [.nilfn,.nilfn,.nilfn,.nilfn] [(1,1,.c (.fn 90 [] [])),(2,1,.c (.fn 91 [] [])),(3,1,.c (.fn 92 [] []))]) F h=some (.agg [.nilfn,.fn 90 [] [],.fn 91 [] [],.fn 92 [] []]):=fun _ _=>rfl;refine bS (io O ?_);apply cB;intro S2 s2 n2 c2;refine dB (b:=S1.nx) (aj) (by refine ai ?_;exact bB _) c2 rfl rfl ?_;intro S3 s3 n3 c3;refine ai ?_;have A:jq S1 S3:=s3.jo s2 (Af _);have g:=s1.trans A;have f:S3.h.get S.nx=js [jr x.jk,jr x.jl,jr x.jj,a,b,c]:=by rw[A.2 _ au];exact f
 have q:S.nx<S3.nx:=by omega
 have t:S1.nx<S3.nx:=by omega
 have P:bT S3 [jr x.jk,jr x.jl,jr x.jj,a,b,c] x:=bF w g;have B:=hW.jo g;have sl:=aCa (dO .i64 x.jk) (dO .i64 x.jl) (dO .i64 x.jj) (bN.self hn) (bN.self hw) (bN.self hp);unfold gS;refine aB (aB (aX (Q:=fun o C X=>o= .normal/\C.inr=false/\X=S3/\aA 0 C.F= .ptr wb 0/\aA 3 C.F= .ptr S.nx 0/\aA 5 C.F= .ptr S1.nx 0/\aA 14 C.F= .bool (decide (x.jk<1\/3<x.jk))) (aF ?_) ?_))
 .by_cases G:x.jk<1
  .rw[Ac (show x.jk<1\/3<x.jk from .inl G)];simp only[↓aD,aC,rE,↓reduceIte,aU,aT,fF f,Ac G]
  .by_cases R:3<x.jk
   .rw[Ac (show x.jk<1\/3<x.jk from .inr R)];simp only[↓aD,aC,rE,↓reduceIte,aU,aT,fF f,Aa G,Ac R]
   .rw[Aa (au:¬ (x.jk<1\/3<x.jk))];simp only[↓aD,aC,rE,↓reduceIte,aU,aT,fF f,Aa G,Aa R]
 rintro o ⟨F,inr⟩ X ⟨rfl,rfl,hX,I,J,K,U⟩;simp only at I J K U;rw[hX];refine ai ?_
 by_cases bad:x.jk<1\/3<x.jk
 .rw[if_neg au,if_neg au,if_neg au];refine aM (jg U (Ac bad)) ?_;refine bS (ai ?_);refine aS (ai ?_);exact g
 refine aK (jg U (Aa bad)) (aG ?_);refine ai ?_
 have u:∀j y,[AV.nilfn,.fn 90 [] [],.fn 91 [] [],.fn 92 [] []][j]? =some y->eE (.ptr S1.nx j) false 1 S3.h=some y:=fun j y hy=>by have:=zP (j:=j) c3 hy;rw[An] at this;exact this
 have V:gL (jr 1)=some 1:=rfl;have W:gL (jr 2)=some 2:=rfl;have Z:gL (jr 3)=some 3:=rfl;have i1:eY (.arr 4 1) (.ptr S1.nx 0) 1=some (.ptr S1.nx 1):=rfl;have i2:eY (.arr 4 1) (.ptr S1.nx 0) 2=some (.ptr S1.nx 2):=rfl;have i3:eY (.arr 4 1) (.ptr S1.nx 0) 3=some (.ptr S1.nx 3):=rfl;have l1:=u 1 _ rfl;have l2:=u 2 _ rfl;have l3:=u 3 _ rfl;have f1:cI (.fn 90 [] []) (.fn 90 [] [])=true:=rfl;have f2:cI (.fn 91 [] []) (.fn 91 [] [])=true:=rfl;have f3:cI (.fn 92 [] []) (.fn 92 [] [])=true:=rfl;have e:=ldN f;refine aB (iN (fun _=>False) ?_);intro S4 s4;by_cases D:x.jk=1
 .rw[if_pos D];rw[D] at f e sl P;refine fj I J K (fF f) V i1 l1 f1 e sl q t @Ap ?_;refine dT rfl ?_;refine ae ?_;refine aW (aIz H (by have:=bF w (g.trans s4);rw[D] at this;exact this)) ?_;rintro _ Y ⟨rfl,m⟩;refine⟨m,?_⟩
  refine aS (ae ?_);exact g.trans (s4.trans m)
 by_cases L:x.jk=2
 .rw[if_neg D,if_pos L];rw[L] at f e sl;refine fj I J K (fF f) W i2 l2 f2 e sl q t @Ap ?_;refine dT rfl ?_;refine ae ?_;refine aW (aMm H (by have:=bF w (g.trans s4);rw[L] at this;exact this) (B.jo s4) z hi M N) ?_;rintro _ Y ⟨rfl,m⟩;refine⟨m,?_⟩
  refine aS (ae ?_);exact g.trans (s4.trans m)
 have k3:x.jk=3:=by omega
 rw[if_neg D,if_neg L,if_pos k3];rw[k3] at f e sl;refine fj I J K (fF f) Z i3 l3 f3 e sl q t @Ap ?_;refine dT rfl ?_;refine ae ?_;refine aW (aPa H (by have:=bF w (g.trans s4);rw[k3] at this;exact this) (B.jo s4) z) ?_;rintro _ Y ⟨rfl,m⟩;refine⟨m,?_⟩
 refine aS (ae ?_);exact g.trans (s4.trans m)
end
abbrev cL:=Int×Int×Int
variable {c:cL->Int}{t:cL}
def fU(rec:Nat->Option (List cL)):bt->Nat->Option (List cL)
 | [],_=>some []
 | c::l,r=>if c=(r:Int) then(rec r).bind fun a=>(fU rec l (r+a.length)).map (a++ ·) else none
def eT(N:Nat)(nx:Nat->bt):Nat->Nat->Int->Int->Option (List cL)
 | 0,_,_,_=>none
 | f+1,at_,p,d=>if at_<N then(fU (fun r=>eT N nx f r at_ (d+1)) (nx at_) (at_+1)).map fun L=>(p,d,((at_+L.length:Nat):Int))::L else none
def vT(m:Int)(L:List cL):Int:=L.foldl (fun m t=>mx m t.2.1) m
def aIt(m:Int)(L L':List cL):vT m (L++L')=vT (vT m L) L':=List.foldl_append ..
def aGc(m:Int)(t:cL)(L:List cL):vT m (t::L)=vT (mx m t.2.1) L:=rfl
def dP(g:aP)(i:Nat):bt:=((g.ce[i]?).map (·.ji)).getD []
def vX(h:g.ce[i]? =some x):dP g i=x.ji:=by unfold dP;rw[h];rfl
def aGq{rec:Nat->Option (List cL)}{N:Nat}(e:∀r L,rec r=some L->r+L.length<=N/\0<L.length):∀ {l:bt} {r:Nat} {L:List cL},r<=N->fU rec l r=some L->r+L.length<=N
 | [],r,L,h,a=>by simp only[fU,Ay] at a;subst a;simpa using h
 | c::l,r,L,h,a=>by
  simp only[fU] at a;split at a
  .have⟨f,g,j⟩:=Dg.1 a;obtain⟨q,m,rfl⟩:=Bc.1 j;have:=aGq e (e r f g).1 m;rw[Ai];omega
  .cases a
def zL{N:Nat}{nx:Nat->bt}:∀ {f at_:Nat} {p d:Int} {L:List cL},eT N nx f at_ p d=some L->at_+L.length<=N/\0<L.length
 | 0,at_,p,d,L,h=>by cases h
 | f+1,at_,p,d,L,h=>by
  simp only[eT] at h;split at h
  .rename_i a;obtain⟨g,c,rfl⟩:=Bc.1 h;have:=aGq (N:=N) (fun r L e=>zL e) (au:at_+1<=N) c;rw[Aw];omega
  .cases h
def aE.tail{k:Nat}{a:α}{l:List α}(h:aE k E S v (a::l)):∃v',(∀ (F:Fr) (x:cQ),gL (x.val F)=some 1->rS (.slice k) v (some x) none none F=some v')/\aE k E S v' l:=by
 rcases h with⟨u,_⟩|⟨b,off,cap,o,cs,rfl,q,r,c,f⟩
 .cases u
 .rw[Aw] at q;have w:Nat.ble cap cap=true:=Al (Af _);have y:Nat.ble (l.length+1) cap=true:=Al q;have z:Nat.ble 1 (l.length+1)=true:=Al au;by_cases g:cap=1
  .have A:l= []:=Bj.1 au;subst A;subst g;have t:Nat.beq 1 1=true:=rfl;refine⟨bX o .emp (.sl b off 0 0 false),fun F x m=>?_,?_⟩
   .simp only[rS,aFE,kT,jO,aH,m,Aw,Ca];cases o<;>rfl
   .cases o with
    | true=>exact .inl ⟨rfl,.inr rfl⟩
    | false=>exact .inr ⟨b,off,0,false,cs,rfl,Af _,r,c,fun i a hi=>by simp at hi⟩
  .have t:Nat.beq cap 1=false:=by rw[Ck];intro h;rw[Bn] at h;omega
   refine⟨.sl b (off+1 * k) (l.length+1 - 1) (cap - 1) o,fun F x m=>?_,.inr ⟨b,off+1 * k,cap - 1,o,cs,by simp,au,r,c,fun i a' hi=>?_⟩⟩
   .simp only[rS,aFE,kT,jO,aH,m,Aw,w,y,z,aL,t,aR,Option.isNone_none];cases o<;>rfl
   .have⟨e,g,B,C⟩:=f (i+1) a' (by simpa using hi);refine⟨e,g,fun j x D=>?_,C⟩;have:=B j x D;rw[show off+1 * k+i * k+j=off+(i+1) * k+j by rw[Dl];omega];exact this
def aBd(a b:Int):oB true [jr a,jr b]=some (jr (mx a b)):=by rw[aPK,aR8,aRM]
def aJ5(S:St)(db:Nat)(at_:Nat)(deep:Int)(o:Option (List cL))(r:AV)(S':St):Prop:=
 cA db S S'/\match o with
 | some L=>r=jr ((at_+L.length:Nat):Int)/\S'.h.get db=js [jr (vT deep L)]
 | none=>r=jr (-1)/\∃z,S'.h.get db=js [jr z]
def aQY(S1:St)(gb db at_:Nat)(d a:Int)(rec:Nat->Option (List cL))(c:bt)(k:Nat)(A:bO)(X:St):Prop:=
 A.inr=false/\cA db S1 X/\∃ (j:Nat) (L:List cL),j+k=c.length/\at_+1+L.length<=2000/\fU rec c (at_+1)=(fU rec (c.drop j) (at_+1+L.length)).map (L++ ·)/\aA 1 A.F=jr (at_:Int)/\aA 2 A.F=jr d/\aA 3 A.F= .ptr db 0/\aA 4 A.F= .ptr gb 0/\aA 9 A.F=jr ((at_+1+L.length:Nat):Int)/\aA 10 A.F=jr (j:Int)/\X.h.get db=js [jr (vT a L)]
def aJL{gv:AV}(H:Has fns)(hG:aRY S0 gv g)(aw:S0.nx<=db)(hN:g.ce.length<=2000):∀ (f:Nat) {S:St} {at_:Nat} {p d deep:Int},g.ce.length+1 - at_<=f->0<=d->d<=at_->at_<=3000->(∀x∈g.ce,x.ji.length<=1000)->jq S0 S->db<S.nx->S.h.get db=js [jr deep]->
  iK fns (.fn 32 [] []) [gv,jr (at_:Int),jr d,.ptr db 0] S fun r S'=>aJ5 S db at_ deep (eT g.ce.length (dP g) f at_ p d) r S':=by
 intro f
 induction f with
 | zero=>
  intro S at_ p d deep hf aI hd aV A hS G u;obtain⟨nv,iv,rfl,hn,hi⟩:=id hG;have N:=aE.jo (E:=bT) bF hn hS;refine cJ H.f32 (by simp) ?_;refine ai ?_;apply bS;refine dC (by refine ai ?_;exact bB _) ?_;intro S1 s1 n1 c1;refine ai ?_;refine fZ (iz @aU @aT (aLd c1) N.len ?_);refine aM i9 ?_;refine bS (ai ?_);refine aS (ai ?_);exact⟨⟨s1.1,fun c I _=>s1.2 c I⟩,rfl,deep,by rw[s1.2 _ G];exact u⟩
 | succ f ih=>
  intro S at_ p d deep hf aI hd aV A hS G u;obtain⟨nv,iv,rfl,hn,hi⟩:=id hG;have N:=aE.jo (E:=bT) bF hn hS;refine cJ H.f32 (by simp) ?_;refine ai ?_;apply bS;refine dC (by refine ai ?_;exact bB _) ?_;intro S1 s1 n1 c1;refine ai ?_;have t:S1.h.get db=js [jr deep]:=by rw[s1.2 _ G];exact u
  have b1:cA db S S1:=⟨s1.1,fun c I _=>s1.2 c I⟩;refine fZ (iz @aU @aT (aLd c1) N.len ?_);by_cases B:at_<g.ce.length;rotate_left
  .refine aM i9 ?_;refine bS (ai ?_);refine aS (ai ?_);refine⟨b1,?_⟩;simp only[eT,if_neg B];exact⟨rfl,deep,t⟩
  refine aK i9 (aG ?_);refine ai ?_
  obtain⟨x,hx⟩:∃x,g.ce[at_]? =some x:=⟨_,Ab B⟩;have aZ:=vX hx;have be:=A x (Bb hx);have w1:=du at_
  have w2:IntKind.i64.wrap (d+1)=d+1:=wrap_i64 au au;have a0:eE (.ptr db 0) false 1 S1.h=some (jr deep):=zP (j:=0) t rfl;apply bS;simp only[↓aD,aC,rE,↓reduceIte,dG,dH,a0,aOi,iO,kL,aBd];refine dB (b:=db) (aj) (by refine ai ?_;exact cF _ _) t rfl rfl ?_;intro S2 s2 n2 c2;refine ai ?_;have b2:=b1.trans s2;have a1:S2.h.get S.nx=js [jr g.ch,nv,iv]:=by rw[s2.2 _ au au];exact c1
  refine bS (io w1 ?_);refine fZ (ai ?_);have hW:eT g.ce.length (dP g) (f+1) at_ p d=(fU (fun r=>eT g.ce.length (dP g) f r at_ (d+1)) x.ji (at_+1)).map fun L=>(p,d,((at_+L.length:Nat):Int))::L:=by
   simp only[eT,if_pos B,aZ]
  rw[hW];refine aX (Q:=fun o A' X=>(o= .normal/\aQY S2 S.nx db at_ d (mx deep d) (fun r=>eT g.ce.length (dP g) f r at_ (d+1)) x.ji 0 A' X)\/(o= .ret/\cA db S2 X/\fU (fun r=>eT g.ce.length (dP g) f r at_ (d+1)) x.ji (at_+1)=none/\aA 8 A'.F=jr (-1)/\∃z,X.h.get db=js [jr z])) (aJ (bL (aQY S2 S.nx db at_ d (mx deep d) (fun r=>eT g.ce.length (dP g) f r at_ (d+1)) x.ji) ?_ x.ji.length _ _ ⟨rfl,cA.refl _ _,0,[],au,by rw[Ca];omega,by simp,aj,aj,aj,aj,by simp only[↓aD,aC,rE,↓reduceIte];rfl,aj,c2⟩)) ?_
  .rintro k ⟨F,inr⟩ X ⟨rfl,D,j,L,V,J,m,U,W,Z,O,P,y,C⟩;simp only at U W Z O P y;have aa:=b2.trans D;have ab:jq S0 X:=cA.jo hS aa aw;have R:X.h.get S.nx=js [jr g.ch,nv,iv]:=by rw[D.2 _ au au];exact a1
   obtain⟨e,b,q,ac,hb,he,⟨a,bb,cc,rfl,ha,_,_⟩,_,a2⟩:=aE.at (aE.jo (E:=bT) bF hn ab) az hx;have an:=a2 3 a rfl;apply fZ;simp only[↓aD,aC,rE,↓reduceIte,U,O,y,aU,aT,aLd R,aY,ac,an,ha.len,Ag];by_cases hj:j<x.ji.length
   .refine aM i9 (aG ?_);refine ai ?_
    have ao:=ha.c9 hj;have K:=ha.ld hj;have T:x.ji.drop j=x.ji[j]::x.ji.drop (j+1):=Bt hj;have a4:x.ji.getD j 0=x.ji[j]:=by rw[Ad,Ab hj];rfl
    rw[a4] at K;rw[T] at m;generalize x.ji[j]=c at *;refine aB (aJ (aB (aB (aF ?_))));simp only[↓aD,aC,rE,↓reduceIte,U,O,P,y,aU,aT,aLd R,aY,ac,an,ao,K];by_cases I:c=((at_+1+L.length:Nat):Int);rotate_left
    .refine aM (jf (Ac (show c≠((at_+1+L.length:Nat):Int) from I))) ?_;refine bS (ai ?_);refine aS (ai ?_);refine .inr ⟨D,?_,rfl,_,C⟩;rw[m];simp only[fU,if_neg I];rfl
    refine aK (jf (Aa (show ¬c≠((at_+1+L.length:Nat):Int) from fun h=>h I))) (aG ?_);refine ai ?_
    simp only[fU,if_pos I] at m;have hr:at_+1+L.length<=3000:=by omega
    apply bS;simp only[↓aD,aC,rE,↓reduceIte,W,Z,O,P,ld3 R,w2];refine bJ (ai ?_);refine aW (ih (S:=X) (at_:=at_+1+L.length) (p:=at_) (d:=d+1) au au au hr A ab (Ae G aa.1) C) ?_;rintro r Y ⟨hY,w⟩;cases hw:eT g.ce.length (dP g) f (at_+1+L.length) at_ (d+1) with
    | none=>
     rw[hw] at w m;obtain⟨rfl,hz⟩:=w
     refine bS (ai ?_);refine aM (by simp only[↓aD,aC,rE,↓reduceIte];rfl) ?_;refine bS (ai ?_);refine aS (ai ?_);refine .inr ⟨D.trans hY,?_,rfl,hz⟩;rw[m];rfl
    | some L1=>
     rw[hw] at w m;obtain⟨rfl,a5⟩:=w;have bj:=(zL hw).1;simp only[Option.bind_some,Option.map_map] at m
     refine bS (ai ?_);refine aK i9 (aG ?_);refine ai ?_
     apply aF;have w3:=du j
     refine iu y w3 ?_;refine⟨k - 1,au,rfl,D.trans hY,j+1,L++L1,au,by rw[Ai];omega,?_,ak U,ak W,ak Z,ak O,by simp only[↓aD,aC,rE,↓reduceIte,Ai];congr 1;omega,aj,?_⟩
     .rw[m,Ai,<-Da];congr 1;funext M;simp
     .rw[aIt];exact a5
   .refine aK i9 (bH ?_);refine ai ?_;have ba:k=0:=by omega
    subst ba;exact .inl ⟨rfl,D,j,L,V,J,m,ak U,ak W,ak Z,ak O,ak P,ak y,C⟩
  rintro o ⟨F,inr⟩ X (⟨rfl,q0,D,j,L,V,J,m,U,W,Z,O,P,y,C⟩|⟨rfl,D,bd,p8,hz⟩)
  .simp only at q0 P;subst q0;rw[Cw au] at m;simp only[fU,Es,Bs] at m;rw[m];refine ai ?_
   refine bS (io P ?_);refine aS (ai ?_);refine⟨b2.trans D,?_,?_⟩
   .congr 1;simp;omega
   .exact C
  .rw[bd];simp only at p8;refine io p8 ?_;exact⟨b2.trans D,rfl,hz⟩
def aQ(l:bt):bu:=l.map (AV.int .i64)
def yL(l:bt):(aQ l).length=l.length:=by simp [aQ]
def eM(h:jq S S'){p:Nat}{agg:Bool}(a:b<S.nx):eE (.ptr b p) agg n S'.h=eE (.ptr b p) agg n S.h:=by
 have e:=wG h a;simp only[eE,qK,aAi,nJ,e]
def qQ{p:Nat}{o:Bool}(h:S.h.get b=some (.cells (aQ l) o sz))(c:p<l.length):qZ (.ptr b p) 1 [jr w] S=some (.undef,⟨S.h.set b (some (.cells (aQ (l.set p w)) o sz)),S.nx⟩):=by
 have a:put (aQ l) p [AV.int .i64 w]=some (aQ (l.set p w)):=by
  rw[put_eq,if_pos (by rw[yL];simp;omega)];congr 1;unfold aQ;rw[List.map_set,List.set_eq_take_append_cons_drop,if_pos (by simp;omega)];simp
 simp only[qZ,uB,h,aH,aCg,a];rfl
def xK{o:Bool}(h:S.h.get b=some (.cells (aQ l) o sz))(a:b<S.nx)(c:l.length=N):bN .i64 S (.sl b 0 N N false) l:=by
 subst c;refine .inr ⟨b,0,l.length,false,aQ l,rfl,Af _,a,by unfold cG;rw[h];rfl,fun i x hi=>?_⟩;rw[An];unfold aQ;rw[Ba,hi];rfl
def eX{o:Bool}(hi:i<N):eY (.slice 1) (.sl b 0 N N o) i=some (.ptr b i):=ia8 hi
def vA{W:Nat->Prop}{a:T AB}{base m:Nat}{l:List AO}{F:Fr}{last:Option Nat}{Q:Fr->St->List jD->Prop}{x v:cQ}{p:Nat}{o:Bool}(h:lL last m=true)(f:x.val F= .ptr b p)(g:v.val F=jr w)(j:S.h.get b=some (.cells (aQ P) o sz))(q:p<P.length)(r:W b)
  (t:∀S1,cA b S S1->S1.nx=S.nx->S1.h.get b=some (.cells (aQ (P.set p w)) o sz)->gO fns W a base l (i+1) F S1 [] (some i) Q):gO fns W a base (⟨none,.x (.st 1 x v),none,m⟩::l) i F S [] last Q:=by
 have u:cA b S ⟨S.h.set b (some (.cells (aQ (P.set p w)) o sz)),S.nx⟩:=(cA.refl b S).put _;refine qC (S1:=⟨S.h.set b (some (.cells (aQ (P.set p w)) o sz)),S.nx⟩) h ?_ ⟨Af _,fun c z y=>?_⟩ (t _ u rfl ?_)
 .rw[g,cF,aH,f];exact qQ (S:=S) j q
 .simp only;rw[dx,if_neg (show ¬c=b from fun e=>y (by rw[e];exact r))];rfl
 .simp only;rw[dx,if_pos rfl]
def xO(T:List cL)(a j:Nat):Option cL:=if a<=j then T[j - a]? else none
def jK(c:cL->Int)(P P':bt)(T:List cL)(a:Nat):Prop:=P'.length=P.length/\∀j,P'.getD j 0=((xO T a j).map c).getD (P.getD j 0)
def jK.nil(c:cL->Int)(P:bt)(a:Nat):jK c P P [] a:=⟨rfl,fun j=>by unfold xO;split<;>simp⟩
def aQC{T:List cL}{a:Nat}(h:xO T a j=some t):a<=j/\j<a+T.length:=by
 unfold xO at h;split at h
 .have:=(Aj.1 h).1;omega
 .cases h
def aMM{T:List cL}{a:Nat}(h:j<a\/a+T.length<=j):xO T a j=none:=by
 unfold xO;split
 .exact Bv au
 .rfl
def aC9(T e:List cL)(a j:Nat):xO (T++e) a j=(xO T a j).or (xO e (a+T.length) j):=by
 unfold xO;by_cases h:a<=j
 .rw[if_pos h,if_pos h,Eg];by_cases c:j - a<T.length
  .rw[if_pos c,if_neg au,Ab c];rfl
  .rw[if_neg c,if_pos au,Bv (l:=T) (i:=j - a) au,show j - a - T.length=j - (a+T.length) by omega];rfl
 .rw[if_neg h,if_neg h,if_neg au];rfl
def jK.append{e f:bt}{T g:List cL}{a:Nat}(m:jK c P e T a)(q:jK c e f g (a+T.length)):jK c P f (T++g) a:=by
 refine⟨q.1.trans m.1,fun j=>?_⟩;rw[q.2,m.2,aC9];cases r:xO T a j with
 | none=>rfl
 | some t=>
  have:=aQC r;rw[aMM au];rfl
def eJ{v:Int}(hi:i<P.length):(P.set i v).getD j 0=if j=i then v else P.getD j 0:=by
 rw[Ad,De];by_cases h:i=j
 .subst h;rw[if_pos rfl,if_pos rfl,if_pos hi];rfl
 .rw[if_neg h,if_neg (Ch h),Ad]
def aH5(t:cL)(a j:Nat):xO [t] a j=if j=a then some t else none:=by
 unfold xO;by_cases h:j=a
 .subst h;simp
 .rw[if_neg h];split
  .exact Bv (by simp;omega)
  .rfl
def jK.one{a:Nat}{v:Int}(e:a<P.length)(f:c t=v):jK c P (P.set a v) [t] a:=by
 refine⟨Ar ..,fun j=>?_⟩;rw[eJ e,aH5];by_cases h:j=a
 .rw[if_pos h,if_pos h,<-f];rfl
 .rw[if_neg h,if_neg h];rfl
def jK.late{g:bt}{L:List cL}{a:Nat}{v:Int}(h:jK c P g L (a+1))(m:a<P.length)(q:c t=v):jK c P (g.set a v) (t::L) a:=by
 refine⟨by rw[Ar];exact h.1,fun j=>?_⟩;rw[eJ (by rw[h.1];exact m),h.2];have e:xO (t::L) a j=(xO [t] a j).or (xO L (a+1) j):=aC9 [t] L a j;rw[e,aH5];by_cases f:j=a
 .rw[if_pos f,if_pos f,<-q];rfl
 .rw[if_neg f,if_neg f];rfl
structure WK(S:St)(wb pb db lb N:Nat)(ps:Int)(nv iv:AV)(P D L:bt):Prop where
 w:wW S wb ps nv iv (.sl pb 0 N N false) (.sl db 0 N N false) (.sl lb 0 N N false)
 gp:S.h.get pb=some (.cells (aQ P) false 0)
 gd:S.h.get db=some (.cells (aQ D) false 0)
 gl:S.h.get lb=some (.cells (aQ L) false 0)
 lp:P.length=N
 ld:D.length=N
 ll:L.length=N
 bp:pb<S.nx
 bd:db<S.nx
 bl:lb<S.nx
def tH(a db lb:Nat)(S S':St):Prop:=S.nx<=S'.nx/\∀c,c<S.nx->c≠a->c≠db->c≠lb->S'.h.get c=S.h.get c
def tH.refl(a db lb:Nat)(S:St):tH a db lb S S:=⟨Af _,fun _ _ _ _ _=>rfl⟩
def tH.trans{a:Nat}{S'':St}(h:tH a db lb S S')(h':tH a db lb S' S''):tH a db lb S S'':=⟨Aq h.1 h'.1,fun c e f g j=>(h'.2 c (Ae e h.1) f g j).trans (h.2 c e f g j)⟩
def tH.jo{e:Nat}(a:jq S0 S)(h:tH e db lb S S')(g:S0.nx<=e)(j:S0.nx<=db)(m:S0.nx<=lb):jq S0 S':=⟨Aq a.1 h.1,fun c f=>(h.2 c (Ae f a.1) au au au).trans (a.2 c f)⟩
def aTs(S0 S:St)(wb a db lb:Nat)(ps:Int)(nv iv:AV)(g:aP)(P D L:bt)(at_:Nat)(o:Option (List cL))(r:AV)(S':St):Prop:=
 tH a db lb S S'/\∃P' c e,WK S' wb a db lb g.ce.length ps nv iv P' c e/\match o with
 | some T=>(∃v,r= .tup [v,.bool true]/\aE 6 bT S0 v (g.ce.drop (at_+T.length)))/\jK (·.1) P P' T at_/\jK (·.2.1) D c T at_/\jK (·.2.2) L e T at_
 | none=>r= .tup [.cr,.bool false]
def aTH(S0 q:St)(wb e db lb:Nat)(ps:Int)(nv iv a:AV)(g:aP)(P D L:bt)(at_:Nat)(d:Int)(rec:Nat->Option (List cL))(c:bt)(k:Nat)(A:bO)(X:St):Prop:=
 A.inr=false/\tH e db lb q X/\∃ (j:Nat) (T:List cL) (P' f m:bt) (v:AV),j+k=c.length/\at_+1+T.length<=g.ce.length/\fU rec c (at_+1)=(fU rec (c.drop j) (at_+1+T.length)).map (T++ ·)/\
  WK X wb e db lb g.ce.length ps nv iv P' f m/\jK (·.1) P P' T (at_+1)/\jK (·.2.1) D f T (at_+1)/\jK (·.2.2) L m T (at_+1)/\aE 6 bT S0 v (g.ce.drop (at_+1+T.length))/\
  aA 0 A.F= .ptr wb 0/\aA 2 A.F=jr d/\aA 10 A.F=jr (at_:Int)/\aA 11 A.F=v/\aA 46 A.F=a/\aA 47 A.F=jr (c.length:Int)/\aA 48 A.F=jr (j:Int)
def aL6{nv iv:AV}{A:Nat}(H:Has fns)(hG:aE 6 bT S0 nv g.ce)(cf:S0.nx<=wb)(aV:S0.nx<=A)(aZ:S0.nx<=db)(a0:S0.nx<=lb)(a1:A≠db)(a2:A≠lb)(a4:db≠lb)(a5:wb≠A)(ba:wb≠db)(ab:wb≠lb)(hN:g.ce.length<=2000)(be:∀x∈g.ce,x.ji.length<=1000):
  ∀ (f:Nat) {S:St} {at_:Nat} {p d:Int} {rv:AV} {P D L:bt},g.ce.length+1 - at_<=f->0<=d->d<=at_->at_<=g.ce.length->jq S0 S->WK S wb A db lb g.ce.length ps nv iv P D L->aE 6 bT S0 rv (g.ce.drop at_)->
  iK fns (.fn 87 [] []) [.ptr wb 0,jr p,jr d,rv] S fun r S'=>aTs S0 S wb A db lb ps nv iv g P D L at_ (eT g.ce.length (dP g) f at_ p d) r S':=by
 intro f
 induction f with
 | zero=>intro S at_ p d rv P D L hf bU hd bV;omega
 | succ f ih=>
  intro S at_ p d rv P D L hf bU hd bV hS y O;have ac:=O.len;rw[Cz] at ac;refine cJ H.f87 (by simp) ?_;refine ae ?_;refine bS (ae ?_);refine fZ (c8 ac ?_);by_cases u:at_<g.ce.length;rotate_left
  .refine aM i7 ?_;refine bS (ae ?_);apply aS;simp only[↓sU,sD,rE,↓reduceIte,rA];simp only[eT,if_neg u];exact⟨tH.refl _ _ _ _,P,D,L,y,rfl⟩
  refine aK i7 (aG ?_);refine ae ?_
  obtain⟨x,hx⟩:∃x,g.ce[at_]? =some x:=⟨_,Ab u⟩;have bW:=vX hx;have ch:=be x (Bb hx);have an:=hG.len;have ao:g.ce.drop at_=x::g.ce.drop (at_+1):=by
   rw[Bt u];congr 1;rw[Ab u] at hx;exact Bk hx
  rw[ao] at O;have w1:IntKind.i64.wrap ((g.ce.length:Int) - ((g.ce.length - at_:Nat):Int))=(at_:Int):=by rw[wrap_i64 au au];omega
  refine bS (ec (eF y.w.1) an ac w1 ?_);have aw:=y.w.2;have bY:¬ (wb=A\/wb=db):=by omega
  refine aB (iN (fun b=>b=A\/b=db) ?_);intro S1 s1;have bj:=eX (b:=A) (o:=false) u;have U:=eX (b:=db) (o:=false) u;refine ew (dD y.w.1) (dW y.w.1) aw bY @Ap bj U ?_;have l1:=s1.1;have bp:=y.bp;have bd:=y.bd;have bl:=y.bl;refine vA (p:=at_) (w:=p) rfl (af) (af) (by rw[s1.2 _ y.bp];exact y.gp) (by rw[y.lp];exact u) (.inl rfl) ?_;intro S2 s2 n2 c2;refine c8 U ?_;refine vA (p:=at_) (w:=d) (az:Nat.testBit 32767 13=true) (af) (af) (by rw[s2.2 _ au (Ch a1),s1.2 _ y.bd];exact y.gd) (by rw[y.ld];exact u) (.inr rfl) ?_;intro S3 s3 n3 c3;refine ae ?_;have b3:tH A db lb S S3:=⟨au,fun c V h1 h2 h3=>by rw[s3.2 _ au h2,s2.2 _ au h1,s1.2 _ V]⟩;have bk:jq S0 S3:=b3.jo hS aV aZ a0;have bZ:WK S3 wb A db lb g.ce.length ps nv iv (P.set at_ p) (D.set at_ d) L:=⟨⟨by rw[b3.2 _ aw a5 ba ab];exact y.w.1,Ae aw b3.1⟩,by rw[s3.2 _ au a1];exact c2,c3,by rw[s3.2 _ au (Ch a4),s2.2 _ au (Ch a2),s1.2 _ y.bl];exact y.gl,by rw[Ar];exact y.lp,by rw[Ar];exact y.ld,y.ll,au,au,au⟩;have⟨rv',bm,bq⟩:=aE.tail O;have bs:∀F:Fr,rS (.slice 6) rv (some (.c (jr 1))) none none F=some rv':=fun F=>bm F _ rfl;refine bS (c8 bs ?_);obtain⟨e,b,q,b0,hb,he,⟨a,bb,cc,rfl,ha,_,_⟩,_,b1⟩:=aE.at O az (i:=0) rfl;have bv:=b1 3 a rfl;rw[<-eM bk hb] at bv;refine fZ (ef @aKn b0 bv ha.len @Ag ?_);have hW:eT g.ce.length (dP g) (f+1) at_ p d=(fU (fun r=>eT g.ce.length (dP g) f r at_ (d+1)) x.ji (at_+1)).map fun L=>(p,d,((at_+L.length:Nat):Int))::L:=by
   simp only[eT,if_pos u,bW]
  rw[hW];refine aX (Q:=fun o A' X=>(o= .normal/\aTH S0 S3 wb A db lb ps nv iv a g (P.set at_ p) (D.set at_ d) L at_ d (fun r=>eT g.ce.length (dP g) f r at_ (d+1)) x.ji 0 A' X)\/(o= .ret/\tH A db lb S3 X/\fU (fun r=>eT g.ce.length (dP g) f r at_ (d+1)) x.ji (at_+1)=none/\aA 8 A'.F= .cr/\aA 9 A'.F= .bool false/\∃P' W Z,WK X wb A db lb g.ce.length ps nv iv P' W Z)) (aJ (bL (aTH S0 S3 wb A db lb ps nv iv a g (P.set at_ p) (D.set at_ d) L at_ d (fun r=>eT g.ce.length (dP g) f r at_ (d+1)) x.ji) ?_ x.ji.length _ _ ⟨rfl,tH.refl _ _ _ _,0,[],P.set at_ p,D.set at_ d,L,rv',au,by rw[Ca];omega,by simp,bZ,jK.nil _ _ _,jK.nil _ _ _,jK.nil _ _ _,bq,af,af,af,af,af,af,af⟩)) ?_
  .rintro k ⟨F,inr⟩ X ⟨rfl,R,j,T,P',W,Z,v,bw,aI,t,m,rP,rD,rL,hv,p0,p2,B,z,I,J,G⟩;simp only at p0 p2 B z I J G;have bx:jq S0 X:=R.jo bk aV aZ a0;have bz:=ha.jo bx;have K:=hv.len;rw[Cz] at K;refine bS (dz J G ?_);by_cases hj:j<x.ji.length
   .refine aB (aM i7 (aG ?_));refine ae ?_;have bA:=bz.c9 hj;have aa:=bz.ld hj;have b2:x.ji.drop j=x.ji[j]::x.ji.drop (j+1):=Bt hj;have b6:x.ji.getD j 0=x.ji[j]:=by rw[Ad,Ab hj];rfl
    rw[b6] at aa;rw[b2] at t;generalize x.ji[j]=c at *;have w2:IntKind.i64.wrap ((g.ce.length:Int) - ((g.ce.length - (at_+1+T.length):Nat):Int))=((at_+1+T.length:Nat):Int):=by rw[wrap_i64 au au];omega
    have w3:IntKind.i64.wrap (d+1)=d+1:=wrap_i64 au au;have w4:=du j
    refine aB (aJ (aB (aF ?_)));refine ec I G bA aa ?_;refine fZ (eu p0 z (eF m.w.1) an K w2 ?_);by_cases V:c=((at_+1+T.length:Nat):Int);rotate_left
    .refine aM (ja (Ac (show c≠((at_+1+T.length:Nat):Int) from V))) ?_;refine bS (ae ?_);refine aS (ae ?_);refine .inr ⟨R,?_,P',W,Z,m⟩;rw[t];simp only[fU,if_neg V];rfl
    refine aK (ja (Aa (show ¬c≠((at_+1+T.length:Nat):Int) from fun h=>h V))) (aG ?_);refine ae ?_
    simp only[fU,if_pos V] at t;refine bS (ef p0 p2 B z w3 ?_);refine bJ (ae ?_);refine aW (ih (S:=X) (at_:=at_+1+T.length) (p:=at_) (d:=d+1) au au au aI bx m hv) ?_;rintro r Y ⟨hY,P2,D2,L2,bC,C⟩;cases hw:eT g.ce.length (dP g) f (at_+1+T.length) at_ (d+1) with
    | none=>
     rw[hw] at C t;subst C;refine ae ?_;refine bS (dz @iY @Ej ?_);refine aM (af) ?_;refine bS (ae ?_);refine aS (ae ?_);refine .inr ⟨R.trans hY,?_,P2,D2,L2,bC⟩;rw[t];rfl
    | some T1=>
     rw[hw] at C t;obtain⟨⟨v2,rfl,b8⟩,k1,k2,k3⟩:=C;simp only[Option.bind_some,Option.map_map] at t;have cj:=(zL hw).1;refine ae ?_;refine bS (dz @iY @Dn ?_);refine aK (af) (aG ?_);refine ae ?_
     refine aF (dz G w4 ?_);refine⟨k - 1,au,rfl,R.trans hY,j+1,T++T1,P2,D2,L2,v2,au,by rw[Ai];omega,?_,bC,rP.append k1,rD.append k2,rL.append k3,by rw[Ai,<-Da];exact b8,ah p0,ah p2,ah B,af,ah I,ah J,af⟩;rw[t,Ai,<-Da];congr 1;funext M;simp
   .refine aB (aK i7 (bH ?_));refine ae ?_;have b':k=0:=by omega
    subst b';exact .inl ⟨rfl,R,j,T,P',W,Z,v,bw,aI,t,m,rP,rD,rL,hv,ah p0,ah p2,ah B,ah z,ah I,ah J,ah G⟩
  rintro o ⟨F,inr⟩ X (⟨rfl,q0,R,j,T,P',W,Z,v,bw,aI,t,m,rP,rD,rL,hv,p0,p2,B,z,I,J,G⟩|⟨rfl,R,ca,p8,p9,P',W,Z,m⟩);rotate_left
  .rw[ca];simp only at p8 p9;refine dz p8 p9 ?_;exact⟨b3.trans R,P',W,Z,m,rfl⟩
  simp only at q0 p0 B z;subst q0;rw[Cw au] at t;simp only[fU,Es,Bs] at t;rw[t];have K:=hv.len;rw[Cz] at K;have w2:IntKind.i64.wrap ((g.ce.length:Int) - ((g.ce.length - (at_+1+T.length):Nat):Int))=((at_+1+T.length:Nat):Int):=by rw[wrap_i64 au au];omega
  have w5:IntKind.i64.wrap (((at_+1+T.length:Nat):Int) - 1)=((at_+T.length:Nat):Int):=by rw[wrap_i64 au au];omega
  have N:=m.w.2;have bI:=eX (b:=lb) (o:=false) u;refine ae ?_
  refine aB (iN (fun b=>b=lb) ?_);intro S4 s4;refine fo p0 B z (eF m.w.1) (fA m.w.1) an K w2 w5 N ab @Ap bI (aE.self hG) ?_;have l4:=s4.1;have ck:=m.bp;have cl:=m.bd;have cm:=m.bl;refine vA (p:=at_) (w:=((at_+T.length:Nat):Int)) rfl (af) (af) (by rw[s4.2 _ m.bl];exact m.gl) (by rw[m.ll];exact u) rfl ?_;intro S5 s5 n5 c5;refine ae ?_;have b5:tH A db lb X S5:=⟨au,fun c V h1 h2 h3=>by rw[s5.2 _ au h3,s4.2 _ V]⟩;refine bS (c8 z ?_);refine aS (ae ?_);have bM:at_<P.length:=by rw[y.lp];exact u
  have bP:at_<D.length:=by rw[y.ld];exact u
  have bR:at_<L.length:=by rw[y.ll];exact u
  refine⟨b3.trans (R.trans b5),P',W,Z.set at_ ((at_+T.length:Nat):Int),⟨⟨by rw[b5.2 _ N a5 ba ab];exact m.w.1,Ae N b5.1⟩,by rw[s5.2 _ au a2,s4.2 _ m.bp];exact m.gp,by rw[s5.2 _ au a4,s4.2 _ m.bd];exact m.gd,c5,m.lp,m.ld,by rw[Ar];exact m.ll,by show _<S5.nx;omega,by show _<S5.nx;omega,by show _<S5.nx;omega⟩,⟨v,rfl,?_⟩,?_,?_,?_⟩
  .rw[Aw,show at_+(T.length+1)=at_+1+T.length by omega];exact hv
  .exact jK.append (T:=[(p,d,((at_+T.length:Nat):Int))]) (jK.one bM rfl) rP
  .exact jK.append (T:=[(p,d,((at_+T.length:Nat):Int))]) (jK.one bP rfl) rD
  .exact jK.late rL bR rfl
end Go.Ev.Gl
