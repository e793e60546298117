import Derived.Test.YtbmodoaceepfoaaGl5
set_option linter.all false
open Nat renaming reduceEqDiff -> rE, reduceAdd -> rA
set_option maxHeartbeats 0
namespace Go.Ev.Gl
variable {fns:T eY}
variable {h:T AB}{b j n i b4 wb db sz N lb:Nat}{cs:cd}{lo hi ps w:Int}{l P:bu}{S S0:St}{v:AV}{α:Type}{E:St->cd->α->Prop}
structure cJ where
 kind:Int
 player:Int
 info:Int
 next:bu
 weights:bu
 pay:bu
variable {x:cJ}
structure fU where
 player:Int
 cr:Int
structure aX where
 cm:Int
 cg:List cJ
 ch:List fU
variable {g:aX}
def jT(lo hi:Int)(l:bu):Prop:=∃w∈l,w<lo\/hi<w
instance anyOutDec(lo hi:Int)(l:bu):Decidable (jT lo hi l):=by unfold jT;exact inferInstance
def oL(x:cJ):Prop:=x.player≠0\/x.info≠0\/(0:Int)<(x.pay.length:Int)\/(x.next.length:Int)<1\/(60:Int)<(x.next.length:Int)\/(x.weights.length:Int)≠(x.next.length:Int)
def vD(x:cJ):Prop:=(0:Int)<(x.weights.length:Int)\/(0:Int)<(x.pay.length:Int)\/(x.next.length:Int)<1\/(10:Int)<(x.next.length:Int)
def oM(ps:Int)(x:cJ):Prop:=x.player≠0\/x.info≠0\/(0:Int)<(x.next.length:Int)\/(0:Int)<(x.weights.length:Int)\/(x.pay.length:Int)≠ps
instance badCDec(x:cJ):Decidable (oL x):=by unfold oL;exact inferInstance
instance badMDec(x:cJ):Decidable (vD x):=by unfold vD;exact inferInstance
instance badEDec(ps:Int)(x:cJ):Decidable (oM ps x):=by unfold oM;exact inferInstance
def gQ(ps:Int)(ni:Nat)(x:cJ):Int:=
 if x.kind=1 then(if oL x then 3 else if jT 1 1000 x.weights then 2 else 0)
 else if x.kind=2 then(if vD x then 3 else if x.player<0\/ps - 1<x.player\/x.info<0\/(ni:Int) - 1<x.info then 2 else 0)
 else if x.kind=3 then(if oM ps x then 3 else if jT (-1000000) 1000000 x.pay then 2 else 0)
 else 3
def cF(S:St)(cs:cd)(x:cJ):Prop:=∃a b c,cs= [je x.kind,je x.player,je x.info,a,b,c]/\bN .i64 S a x.next/\bN .i64 S b x.weights/\bN .i64 S c x.pay
def bQ:aCG cF:=fun⟨a,b,c,h,f,g,j⟩ e=>⟨a,b,c,h,f.same e,g.same e,j.same e⟩
def cE(_:St)(cs:cd)(x:fU):Prop:=cs= [je x.player,je x.cr]
def cB:aCG cE:=fun h _=>h
def aRC(S:St)(v:AV)(g:aX):Prop:=∃n i,v= .agg [je g.cm,n,i]/\aG 6 cF S n g.cg/\aG 2 cE S i g.ch
def ldc{x:AV}{o:Bool}{s:Nat}(a:h.get b=some (.cells cs o s))(c:cs[j]? =some x):eK (.ptr b (0+j)) false 1 h=some x:=by
 simp only[eK,qI,aU,nF,cI,a,aH,nD,qQ,Am,c]
def mB{o:Bool}{s:Nat}(a:h.get b=some (.cells cs o s))(c:cs.length=n):eK (.ptr b 0) true n h=some (.agg cs):=by
 subst c;simp only[eK,qI,aN,aAi,cI,a,aH,nD];unfold cut;rw[iG,iP,Dn,if_pos (Af _),List.take_length];rfl
section
variable {h:T AB}{b:Nat}{x0 x1 x2 x3 x4 x5:AV}{o:Bool}{s:Nat}
def fI(a:h.get b=some (.cells [x0,x1,x2,x3,x4,x5] o s)):eK (.ptr b (0+0)) false 1 h=some x0:=ldc a rfl
def eH(a:h.get b=some (.cells [x0,x1,x2,x3,x4,x5] o s)):eK (.ptr b (0+1)) false 1 h=some x1:=ldc a rfl
def dF(a:h.get b=some (.cells [x0,x1,x2,x3,x4,x5] o s)):eK (.ptr b (0+2)) false 1 h=some x2:=ldc a rfl
def dG(a:h.get b=some (.cells [x0,x1,x2,x3,x4,x5] o s)):eK (.ptr b (0+3)) false 1 h=some x3:=ldc a rfl
def dT(a:h.get b=some (.cells [x0,x1,x2,x3,x4,x5] o s)):eK (.ptr b (0+4)) false 1 h=some x4:=ldc a rfl
def eX(a:h.get b=some (.cells [x0,x1,x2,x3,x4,x5] o s)):eK (.ptr b (0+5)) false 1 h=some x5:=ldc a rfl
def ldN(a:h.get b=some (.cells [x0,x1,x2,x3,x4,x5] o s)):eK (.ptr b 0) true 6 h=some (.agg [x0,x1,x2,x3,x4,x5]):=mB a rfl
end
section
variable {k:Nat}{α:Type}{E:St->cd->α->Prop}{S:St}{v:AV}{l:List α}
def aG.at(h:aG k E S v l)(A:0<k){a:α}(hi:l[i]? =some a):∃e b p,eQ (.slice k) v i=some (.ptr b p)/\b<S.nx/\e.length=k/\E S e a/\eK (.ptr b p) true k S.h=some (.agg e)/\∀j x,e[j]? =some x->eK (.ptr b (p+j)) false 1 S.h=some x:=by
 have⟨e,b,p,q,r,t,u,cs,m,f⟩:=h.get hi;have g:=(Ai.1 hi).1;refine⟨e,b,p,by rw[<-q];exact h.df g,r,t,u,?_,fun j x w=>?_⟩
 .simp only[eK,qI,aN,aAi,m,aH];have c:cut cs p k=some e:=by
   have y:p+k<=cs.length:=by
    have:=f (k - 1) (e[k - 1]' au) (Ab au);have:=(Ai.1 this).1;omega
   unfold cut;rw[iG,iP,if_pos (by rw[Dd];omega)];congr 1;refine Dc (by rw[Bv,Dd];omega) fun j B z=>?_;have:=f j e[j] (Ab z);rw[List.getElem_take,List.getElem_drop];exact(Ai.1 this).2
  rw[c,aH]
 .simp only[eK,qI,aU,nF,m,aH,qQ];exact f j x w
end
def yM(x:cJ):Prop:=(0:Int)<(x.pay.length:Int)\/(0:Int)<(x.weights.length:Int)\/(x.next.length:Int)<1\/(10:Int)<(x.next.length:Int)
instance badMDec'(x:cJ):Decidable (yM x):=by unfold yM;exact inferInstance
def aH9(x:cJ):yM x↔vD x:=by unfold vD yM;omega
def aE9(ps:Int)(ni:Nat)(x:cJ):Prop:=x.player<0\/ps<=x.player\/x.info<0\/((ni:Nat):Int)<=x.info
instance badRDec(ps:Int)(ni:Nat)(x:cJ):Decidable (aE9 ps ni x):=by unfold aE9;exact inferInstance
def aHP(ps:Int)(ni:Nat)(x:cJ):aE9 ps ni x↔(x.player<0\/ps - 1<x.player\/x.info<0\/(ni:Int) - 1<x.info):=by unfold aE9;omega
def yU(a:i<l.length)(h:¬jT lo hi (l.take i))(e:¬ (l.getD i 0<lo\/hi<l.getD i 0)):¬jT lo hi (l.take (i+1)):=by
 rintro⟨w,f,g⟩;rw[Bx,Ab a] at f;rcases Bi.1 f with c|c
 .exact h ⟨w,c,g⟩
 .simp at c;rw[Ad,Ab a] at e;subst c;exact e g
def aAB(a:i<l.length)(c:l.getD i 0<lo\/hi<l.getD i 0):jT lo hi l:=by
 rw[Ad,Ab a] at c;exact⟨l[i],Bt a,c⟩
def aSG(S:St)(b t:Nat)(lo hi:Int)(l:bu)(k:Nat)(A:bO)(X:St):Prop:=A.inr=false/\X=S/\∃i,i+k=l.length/\¬jT lo hi (l.take i)/\aC 3 A.F= .ptr b 0/\aC t A.F=je (i:Int)
def aJ8{n i:AV}{ni:Nat}(H:Has fns)(hx:cF S cs x)(ao:ps<=4)(hi:kR i=some (je ((ni:Nat):Int))):iI fns (.fn 31 [] []) [.agg [je ps,n,i],.agg cs] S fun r S'=>r=je (gQ ps ni x)/\Same S S':=by
 obtain⟨a,b,c,rfl,hn,hw,hp⟩:=hx;refine cK H.f31 (by simp) ?_;refine ai ?_;refine cA ?_;refine cR (by refine ai ?_;exact aY _) ?_;intro S1 s1 n1 y;refine cR (by refine ai ?_;exact aY _) ?_;intro R s2 n2 e;refine ai ?_;have q:R.h.get S.nx=jf [je ps,n,i]:=by rw[s2.2 _ au];exact y
 have O:=s1.trans s2;have G:Int.negSucc 999999= -1000000:=rfl;have m:=hn.same O;have f:=hw.same O;have g:=hp.same O;refine gH ?_;simp only[↓aF,aE,rE,↓reduceIte,aB,aA,fI e];refine aO (aD (aL ?_));simp only[↓aF,aE,rE,↓reduceIte];unfold gQ;have W:∀F:Fr,jP fns (.seq (.reg [oq 4 (.mv (ci 0))]) .ret) ⟨F,false⟩ R (aRg [.t 4] fun r S'=>r=je 0/\Same S S'):=fun F=>by
  refine cA (ai ?_);refine aT (ai ?_);exact O
 by_cases k1:x.kind=1
 .rw[if_pos k1];refine aS (ja (Ac k1)) ?_;refine aD (aD (bB (Q:=fun o A X=>o= .normal/\A.inr=false/\X=R/\aC 3 A.F= .ptr S1.nx 0/\aC 45 A.F= .bool (decide (oL x))) (aL ?_) ?_))
  .by_cases t:x.player≠0
   .rw[Ac (show oL x from .inl t)];simp only[↓aF,aE,rE,↓reduceIte,aB,aA,eH e,dF e,dG e,dT e,eX e,jB q,jX q,m.len,f.len,g.len,hi,Ah,Ac t]
   by_cases y:x.info≠0
   .rw[Ac (show oL x from .inr (.inl y))];simp only[↓aF,aE,rE,↓reduceIte,aB,aA,eH e,dF e,dG e,dT e,eX e,jB q,jX q,m.len,f.len,g.len,hi,Ah,Aa t,Ac y]
   by_cases z:(0:Int)<(x.pay.length:Int)
   .rw[Ac (show oL x from .inr (.inr (.inl z)))];simp only[↓aF,aE,rE,↓reduceIte,aB,aA,eH e,dF e,dG e,dT e,eX e,jB q,jX q,m.len,f.len,g.len,hi,Ah,Aa t,Aa y,Ac z]
   by_cases D:(x.next.length:Int)<1
   .rw[Ac (show oL x from .inr (.inr (.inr (.inl D))))];simp only[↓aF,aE,rE,↓reduceIte,aB,aA,eH e,dF e,dG e,dT e,eX e,jB q,jX q,m.len,f.len,g.len,hi,Ah,Aa t,Aa y,Aa z,Ac D]
   by_cases T:(60:Int)<(x.next.length:Int)
   .rw[Ac (show oL x from .inr (.inr (.inr (.inr (.inl T)))))];simp only[↓aF,aE,rE,↓reduceIte,aB,aA,eH e,dF e,dG e,dT e,eX e,jB q,jX q,m.len,f.len,g.len,hi,Ah,Aa t,Aa y,Aa z,Aa D,Ac T]
   by_cases c5:(x.weights.length:Int)≠(x.next.length:Int)
   .rw[Ac (show oL x from .inr (.inr (.inr (.inr (.inr (c5))))))];simp only[↓aF,aE,rE,↓reduceIte,aB,aA,eH e,dF e,dG e,dT e,eX e,jB q,jX q,m.len,f.len,g.len,hi,Ah,Aa t,Aa y,Aa z,Aa D,Aa T,Ac c5]
   rw[Aa (show ¬oL x by rintro(Y|J|K|Z|h4|h5)<;>first | exact t Y | exact y J | exact z K | exact D Z | exact T h4 | exact c5 h5)];simp only[↓aF,aE,rE,↓reduceIte,aB,aA,eH e,dF e,dG e,dT e,eX e,jB q,jX q,m.len,f.len,g.len,hi,Ah,Aa t,Aa y,Aa z,Aa D,Aa T,Aa c5]
  rintro o ⟨F,inr⟩ X ⟨rfl,C,L,u,B⟩;simp only at C u B;subst C;rw[L];refine ai ?_
  by_cases bad:oL x
  .rw[if_pos bad];refine aS (jc B (Ac bad)) ?_;refine cA (ai ?_);refine aT (ai ?_);exact O
  rw[if_neg bad];have ac:x.weights.length<=60:=by unfold oL at bad;omega
  refine aQ (jc B (Aa bad)) (aK ?_);refine ai ?_
  refine cA (ai ?_);refine aO (bX (aSG R S1.nx 5 1 1000 x.weights) ?_ x.weights.length _ _ ⟨rfl,rfl,0,au,(by rintro⟨w,h,_⟩;simp at h),by refine⟨?_,?_⟩<;>simp only[↓aF,aE,rE,↓reduceIte,u]⟩);clear u B;rintro k ⟨F,inr⟩ X ⟨C,L,j,an,ha,u,I⟩;simp only at C u I;subst C;rw[L];refine gH ?_;simp only[↓aF,aE,rE,↓reduceIte,I,u,aB,aA,dT e,f.len,Ah];by_cases U:j<x.weights.length
  .refine aS io (aK ?_);refine ai ?_
   have M:=f.df U;have N:=f.ld U;have aa:=yU (lo:=1) (hi:=1000) U ha;have P:=aAB (lo:=1) (hi:=1000) U;generalize x.weights.getD j 0=w at *;have w1:IntKind.i64.wrap ((j:Int)+1)=((j+1:Nat):Int):=by
    rw[wrap_i64 au au];omega
   refine aD (aO (aD (bB (Q:=fun o A X=>o= .normal/\A.inr=false/\X=R/\aC 3 A.F= .ptr S1.nx 0/\aC 5 A.F=je (j:Int)/\aC 66 A.F= .bool (decide (w<1\/1000<w))) (aL ?_) ?_)))
   .by_cases J:w<1
    .rw[Ac (show w<1\/1000<w from .inl J)];simp only[↓aF,aE,rE,↓reduceIte,I,u,aB,aA,dT e,aJ,M,N,G,Ac J]
    .by_cases K:1000<w
     .rw[Ac (show w<1\/1000<w from .inr K)];simp only[↓aF,aE,rE,↓reduceIte,I,u,aB,aA,dT e,aJ,M,N,G,Aa J,Ac K]
     .rw[Aa (au:¬ (w<1\/1000<w))];simp only[↓aF,aE,rE,↓reduceIte,I,u,aB,aA,dT e,aJ,M,N,G,Aa J,Aa K]
   clear u I;rintro o ⟨F,inr⟩ X ⟨rfl,C,L,u,I,B⟩;simp only at C u I B;subst C;rw[L];refine ai ?_
   by_cases V:w<1\/1000<w
   .rw[if_pos (P V)];refine aS (jc B (Ac V)) ?_;refine cA (ai ?_);refine aT (ai ?_);exact O
   .refine aQ (jc B (Aa V)) (aK ?_);refine ai ?_
    refine aL (ie I w1 ?_);exact⟨k - 1,au,rfl,rfl,j+1,au,aa V,by refine⟨?_,?_⟩<;>simp only[↓aF,aE,rE,↓reduceIte,u]⟩
  .refine aQ io (bT ?_);refine ai ?_;have ab:¬jT 1 1000 x.weights:=by rw[Bd au] at ha;exact ha
   rw[if_neg ab];exact W _
 rw[if_neg k1];refine aQ (ja (Aa k1)) ?_;refine cA (ai ?_);by_cases k2:x.kind=2
 .rw[if_pos k2];refine aS (ja (Ac k2)) ?_;refine aD (aD (bB (Q:=fun o A X=>o= .normal/\A.inr=false/\X=R/\aC 2 A.F= .ptr S.nx 0/\aC 3 A.F= .ptr S1.nx 0/\aC 90 A.F= .bool (decide (yM x))) (aL ?_) ?_))
  .by_cases t:(0:Int)<(x.pay.length:Int)
   .rw[Ac (show yM x from .inl t)];simp only[↓aF,aE,rE,↓reduceIte,aB,aA,eH e,dF e,dG e,dT e,eX e,jB q,jX q,m.len,f.len,g.len,hi,Ah,Ac t]
   by_cases y:(0:Int)<(x.weights.length:Int)
   .rw[Ac (show yM x from .inr (.inl y))];simp only[↓aF,aE,rE,↓reduceIte,aB,aA,eH e,dF e,dG e,dT e,eX e,jB q,jX q,m.len,f.len,g.len,hi,Ah,Aa t,Ac y]
   by_cases z:(x.next.length:Int)<1
   .rw[Ac (show yM x from .inr (.inr (.inl z)))];simp only[↓aF,aE,rE,↓reduceIte,aB,aA,eH e,dF e,dG e,dT e,eX e,jB q,jX q,m.len,f.len,g.len,hi,Ah,Aa t,Aa y,Ac z]
   by_cases D:(10:Int)<(x.next.length:Int)
   .rw[Ac (show yM x from .inr (.inr (.inr (D))))];simp only[↓aF,aE,rE,↓reduceIte,aB,aA,eH e,dF e,dG e,dT e,eX e,jB q,jX q,m.len,f.len,g.len,hi,Ah,Aa t,Aa y,Aa z,Ac D]
   rw[Aa (show ¬yM x by rintro(Y|J|K|Z)<;>first | exact t Y | exact y J | exact z K | exact D Z)];simp only[↓aF,aE,rE,↓reduceIte,aB,aA,eH e,dF e,dG e,dT e,eX e,jB q,jX q,m.len,f.len,g.len,hi,Ah,Aa t,Aa y,Aa z,Aa D]
  rintro o ⟨F,inr⟩ X ⟨rfl,C,L,p2,u,B⟩;simp only at C p2 u B;subst C;rw[L];refine ai ?_
  by_cases bad:yM x
  .rw[if_pos ((aH9 x).1 bad)];refine aS (jc B (Ac bad)) ?_;refine cA (ai ?_);refine aT (ai ?_);exact O
  rw[if_neg (fun h=>bad ((aH9 x).2 h))];refine aQ (jc B (Aa bad)) (aK ?_);refine ai ?_
  refine aD (bB (Q:=fun o A X=>o= .normal/\A.inr=false/\X=R/\aC 113 A.F= .bool (decide (aE9 ps ni x))) (aL ?_) ?_)
  .by_cases t:x.player<0
   .rw[Ac (show aE9 ps ni x from .inl t)];simp only[↓aF,aE,rE,↓reduceIte,aB,aA,eH e,dF e,dG e,dT e,eX e,jB q,jX q,m.len,f.len,g.len,hi,Ah,u,p2,Ac t]
   by_cases y:ps<=x.player
   .rw[Ac (show aE9 ps ni x from .inr (.inl y))];simp only[↓aF,aE,rE,↓reduceIte,aB,aA,eH e,dF e,dG e,dT e,eX e,jB q,jX q,m.len,f.len,g.len,hi,Ah,u,p2,Aa t,Ac y]
   by_cases z:x.info<0
   .rw[Ac (show aE9 ps ni x from .inr (.inr (.inl z)))];simp only[↓aF,aE,rE,↓reduceIte,aB,aA,eH e,dF e,dG e,dT e,eX e,jB q,jX q,m.len,f.len,g.len,hi,Ah,u,p2,Aa t,Aa y,Ac z]
   by_cases D:((ni:Nat):Int)<=x.info
   .rw[Ac (show aE9 ps ni x from .inr (.inr (.inr (D))))];simp only[↓aF,aE,rE,↓reduceIte,aB,aA,eH e,dF e,dG e,dT e,eX e,jB q,jX q,m.len,f.len,g.len,hi,Ah,u,p2,Aa t,Aa y,Aa z,Ac D]
   rw[Aa (show ¬aE9 ps ni x by rintro(Y|J|K|Z)<;>first | exact t Y | exact y J | exact z K | exact D Z)];simp only[↓aF,aE,rE,↓reduceIte,aB,aA,eH e,dF e,dG e,dT e,eX e,jB q,jX q,m.len,f.len,g.len,hi,Ah,u,p2,Aa t,Aa y,Aa z,Aa D]
  rintro o ⟨F,inr⟩ X ⟨rfl,C,L,B⟩;simp only at C B;subst C;rw[L];refine ai ?_
  by_cases bad:aE9 ps ni x
  .rw[if_pos ((aHP ps ni x).1 bad)];refine aS (jc B (Ac bad)) ?_;refine cA (ai ?_);refine aT (ai ?_);exact O
  rw[if_neg (fun h=>bad ((aHP ps ni x).2 h))];refine aQ (jc B (Aa bad)) (aK ?_);refine ai ?_;exact W _
 rw[if_neg k2];refine aQ (ja (Aa k2)) ?_;refine cA (ai ?_);by_cases k3:x.kind=3
 .rw[if_pos k3];refine aS (ja (Ac k3)) ?_;refine aD (aD (bB (Q:=fun o A X=>o= .normal/\A.inr=false/\X=R/\aC 3 A.F= .ptr S1.nx 0/\aC 143 A.F= .bool (decide (oM ps x))) (aL ?_) ?_))
  .by_cases t:x.player≠0
   .rw[Ac (show oM ps x from .inl t)];simp only[↓aF,aE,rE,↓reduceIte,aB,aA,eH e,dF e,dG e,dT e,eX e,jB q,jX q,m.len,f.len,g.len,hi,Ah,Ac t]
   by_cases y:x.info≠0
   .rw[Ac (show oM ps x from .inr (.inl y))];simp only[↓aF,aE,rE,↓reduceIte,aB,aA,eH e,dF e,dG e,dT e,eX e,jB q,jX q,m.len,f.len,g.len,hi,Ah,Aa t,Ac y]
   by_cases z:(0:Int)<(x.next.length:Int)
   .rw[Ac (show oM ps x from .inr (.inr (.inl z)))];simp only[↓aF,aE,rE,↓reduceIte,aB,aA,eH e,dF e,dG e,dT e,eX e,jB q,jX q,m.len,f.len,g.len,hi,Ah,Aa t,Aa y,Ac z]
   by_cases D:(0:Int)<(x.weights.length:Int)
   .rw[Ac (show oM ps x from .inr (.inr (.inr (.inl D))))];simp only[↓aF,aE,rE,↓reduceIte,aB,aA,eH e,dF e,dG e,dT e,eX e,jB q,jX q,m.len,f.len,g.len,hi,Ah,Aa t,Aa y,Aa z,Ac D]
   by_cases T:(x.pay.length:Int)≠ps
   .rw[Ac (show oM ps x from .inr (.inr (.inr (.inr (T)))))];simp only[↓aF,aE,rE,↓reduceIte,aB,aA,eH e,dF e,dG e,dT e,eX e,jB q,jX q,m.len,f.len,g.len,hi,Ah,Aa t,Aa y,Aa z,Aa D,Ac T]
   rw[Aa (show ¬oM ps x by rintro(Y|J|K|Z|h4)<;>first | exact t Y | exact y J | exact z K | exact D Z | exact T h4)];simp only[↓aF,aE,rE,↓reduceIte,aB,aA,eH e,dF e,dG e,dT e,eX e,jB q,jX q,m.len,f.len,g.len,hi,Ah,Aa t,Aa y,Aa z,Aa D,Aa T]
  rintro o ⟨F,inr⟩ X ⟨rfl,C,L,u,B⟩;simp only at C u B;subst C;rw[L];refine ai ?_
  by_cases bad:oM ps x
  .rw[if_pos bad];refine aS (jc B (Ac bad)) ?_;refine cA (ai ?_);refine aT (ai ?_);exact O
  rw[if_neg bad];have ac:x.pay.length<=60:=by unfold oM at bad;omega
  refine aQ (jc B (Aa bad)) (aK ?_);refine ai ?_
  refine cA (ai ?_);refine aO (bX (aSG R S1.nx 6 (-1000000) 1000000 x.pay) ?_ x.pay.length _ _ ⟨rfl,rfl,0,au,(by rintro⟨w,h,_⟩;simp at h),by refine⟨?_,?_⟩<;>simp only[↓aF,aE,rE,↓reduceIte,u]⟩);clear u B;rintro k ⟨F,inr⟩ X ⟨C,L,j,an,ha,u,I⟩;simp only at C u I;subst C;rw[L];refine gH ?_;simp only[↓aF,aE,rE,↓reduceIte,I,u,aB,aA,eX e,g.len,Ah];by_cases U:j<x.pay.length
  .refine aS io (aK ?_);refine ai ?_
   have M:=g.df U;have N:=g.ld U;have aa:=yU (lo:=(-1000000)) (hi:=1000000) U ha;have P:=aAB (lo:=(-1000000)) (hi:=1000000) U;generalize x.pay.getD j 0=w at *;have w1:IntKind.i64.wrap ((j:Int)+1)=((j+1:Nat):Int):=by
    rw[wrap_i64 au au];omega
   refine aD (aO (aD (bB (Q:=fun o A X=>o= .normal/\A.inr=false/\X=R/\aC 3 A.F= .ptr S1.nx 0/\aC 6 A.F=je (j:Int)/\aC 164 A.F= .bool (decide (w<(-1000000)\/1000000<w))) (aL ?_) ?_)))
   .by_cases J:w<(-1000000)
    .rw[Ac (show w<(-1000000)\/1000000<w from .inl J)];simp only[↓aF,aE,rE,↓reduceIte,I,u,aB,aA,eX e,aJ,M,N,G,Ac J]
    .by_cases K:1000000<w
     .rw[Ac (show w<(-1000000)\/1000000<w from .inr K)];simp only[↓aF,aE,rE,↓reduceIte,I,u,aB,aA,eX e,aJ,M,N,G,Aa J,Ac K]
     .rw[Aa (au:¬ (w<(-1000000)\/1000000<w))];simp only[↓aF,aE,rE,↓reduceIte,I,u,aB,aA,eX e,aJ,M,N,G,Aa J,Aa K]
   clear u I;rintro o ⟨F,inr⟩ X ⟨rfl,C,L,u,I,B⟩;simp only at C u I B;subst C;rw[L];refine ai ?_
   by_cases V:w<(-1000000)\/1000000<w
   .rw[if_pos (P V)];refine aS (jc B (Ac V)) ?_;refine cA (ai ?_);refine aT (ai ?_);exact O
   .refine aQ (jc B (Aa V)) (aK ?_);refine ai ?_
    refine aL (ie I w1 ?_);exact⟨k - 1,au,rfl,rfl,j+1,au,aa V,by refine⟨?_,?_⟩<;>simp only[↓aF,aE,rE,↓reduceIte,u]⟩
  .refine aQ io (bT ?_);refine ai ?_;have ab:¬jT (-1000000) 1000000 x.pay:=by rw[Bd au] at ha;exact ha
   rw[if_neg ab];exact W _
 rw[if_neg k3];refine aQ (ja (Aa k3)) ?_;refine cA (ai ?_);refine aT (ai ?_);exact O
def bN.self{k:IntKind}(h:bN k S v l):cO v v=true:=by
 rcases h with⟨_,h|h⟩|⟨b,off,cap,o,cs,rfl,_⟩
 .subst h;rfl
 .subst h;rfl
 .exact mE ..
def aG.self{k:Nat}{l:List α}(h:aG k E S v l):cO v v=true:=by
 rcases h with⟨_,h|h⟩|⟨b,off,cap,o,cs,rfl,_⟩
 .subst h;rfl
 .subst h;rfl
 .exact mE ..
theorem aOh{k:IntKind}{z:Int}(a:b<S.nx)(h:S.h.get b=jf [.int k z]):bN k S (.sl b 0 1 1 false) [z]:=by
 refine .inr ⟨b,0,1,false,[.int k z],rfl,Af _,a,by unfold cI;rw[h];rfl,fun i x hi=>?_⟩;cases i with
 | zero=>simp at hi;subst hi;rfl
 | succ i=>simp at hi
def aEX{lo hi z:Int}:jT lo hi [z]↔z<lo\/hi<z:=by
 unfold jT;simp
def zQ{x0 x1 x2 x3 x4 x5:AV}(a:cO x0 x0=true)(c:cO x1 x1=true)(e:cO x2 x2=true)(f:cO x3 x3=true)(g:cO x4 x4=true)(j:cO x5 x5=true):cO (.agg [x0,x1,x2,x3,x4,x5]) (.agg [x0,x1,x2,x3,x4,x5])=true:=by
 simp only[cO,kK,a,c,e,f,g,j,aN]
def aL7{c:Nat}(H:Has fns)(m:S.h.get c=jf [je lo])(q:S.h.get b4=jf [je hi]):iI fns (.fn 99 [] [.ptr c 0,.ptr b4 0]) [je w] S fun r t=>r= .bool (decide (w<lo\/hi<w))/\t=S:=by
 have e:eK (.ptr c 0) false 1 S.h=some (je lo):=ldc (j:=0) m rfl;have g:eK (.ptr b4 0) false 1 S.h=some (je hi):=ldc (j:=0) q rfl;refine cK H.f99 (by simp) ?_;refine ai ?_;refine cA (ai ?_);refine cA ?_;by_cases a:w<lo
 .rw[Ac (show w<lo\/hi<w from .inl a)];refine ie e (Ac a) ?_;refine aT ?_;simp only[↓aF,aE,rE,↓reduceIte]
 .by_cases f:hi<w
  .rw[Ac (show w<lo\/hi<w from .inr f)];refine ig e g (Aa a) (Ac f) ?_;refine aT ?_;simp only[↓aF,aE,rE,↓reduceIte]
  .rw[Aa (au:¬ (w<lo\/hi<w))];refine ig e g (Aa a) (Aa f) ?_;refine aT ?_;simp only[↓aF,aE,rE,↓reduceIte]
def aT9(S:St)(v f:AV)(lo hi:Int)(l:bu)(k:Nat)(A:bO)(X:St):Prop:=A.inr=false/\X=S/\∃i,i+k=l.length/\¬jT lo hi (l.take i)/\aC 0 A.F=v/\aC 1 A.F=f/\aC 7 A.F=je (l.length:Int)/\aC 8 A.F=je (i:Int)
def aJI{g:Nat}(H:Has fns)(J:S.h.get g=jf [je lo])(K:S.h.get b4=jf [je hi])(m:bN .i64 S v l)(G:l.length<=1000000):iI fns (.fn 101 [] []) [v,.fn 99 [] [.ptr g 0,.ptr b4 0]] S fun r L=>(∃z,r=je z/\(0<=z↔jT lo hi l))/\L=S:=by
 refine cK H.f101 (by simp) ?_;refine ai ?_;refine cA (ai ?_);refine gH (ie m.len @Ah ?_);refine aO (bX (aT9 S v (.fn 99 [] [.ptr g 0,.ptr b4 0]) lo hi l) ?_ l.length _ _ ⟨rfl,rfl,0,au,(by rintro⟨w,h,_⟩;simp at h),by refine⟨?_,?_,?_,?_⟩<;>simp only[↓aF,aE,rE,↓reduceIte]⟩);rintro k ⟨F,inr⟩ X ⟨I,M,j,N,q,t,u,y,c⟩;simp only at I t u y c;subst I;rw[M];refine cA (ie y c ?_);by_cases e:j<l.length
 .refine aD (aS io (aK ?_));refine ai ?_;have A:=m.df e;have B:=m.ld e;have C:=yU (lo:=lo) (hi:=hi) e q;have a:=aAB (lo:=lo) (hi:=hi) e;generalize l.getD j 0=w at *;have O:=ed j
  refine aD (aO (aD (aL ?_)));refine gy c ?_;refine cA ?_;simp only[↓aF,aE,rE,↓reduceIte,t,u,aJ,A,B];refine bK (ai ?_);refine aW (aL7 H J K) ?_;rintro _ Y ⟨rfl,P⟩;rw[P]
  by_cases f:w<lo\/hi<w
  .refine aS (ja (Ac f)) ?_;refine cA (ai ?_);refine aT (ai ?_);exact⟨_,rfl,⟨fun _=>a f,fun _=>au⟩⟩
  .refine aQ (ja (Aa f)) (aK ?_);refine ai ?_
   refine aL (ie c O ?_);exact⟨k - 1,au,rfl,rfl,j+1,au,C f,by refine⟨?_,?_,?_,?_⟩<;>simp only[↓aF,aE,rE,↓reduceIte,t,u,y]⟩
 .refine aD (aQ io (bT ?_));refine ai ?_;have D:¬jT lo hi l:=by rw[Bd au] at q;exact q
  refine cA (ai ?_);refine aT (ai ?_);exact⟨_,rfl,⟨fun h=>absurd h az,fun h=>absurd h D⟩⟩
def aJZ{c:Nat}(H:Has fns)(e:S.h.get c=jf [je lo])(f:S.h.get b4=jf [je hi])(g:bN .i64 S v l)(a:l.length<=1000000):iI fns (.fn 98 [] []) [v,.fn 99 [] [.ptr c 0,.ptr b4 0]] S fun r j=>r= .bool (decide (jT lo hi l))/\j=S:=by
 refine cK H.f98 (by simp) ?_;refine ai ?_;refine cA (ai ?_);refine cA (ai ?_);refine bK (ai ?_);refine aW (aJI H e f g a) ?_;rintro _ Y ⟨⟨z,rfl,m⟩,q⟩;rw[q];have t:decide ((0:Int)<=z)=decide (jT lo hi l):=by rw[Cn,Cl,Cl];exact m
 refine gy t ?_;refine aT ?_;simp only[↓aF,aE,rE,↓reduceIte]
def tM(H:Has fns)(f:bN .i64 S v l)(a:l.length<=1000000):iI fns (.fn 95 [] []) [je lo,je hi,v] S fun r S'=>r=je (if jT lo hi l then 2 else 0)/\Same S S':=by
 refine cK H.f95 (by simp) ?_;refine ai ?_;refine cA ?_;refine cR (by refine ai ?_;exact dD _ _) ?_;intro S1 s1 q g;refine cR (by refine ai ?_;exact dD _ _) ?_;intro t s2 u j;refine ai ?_;have e:=s1.trans s2;refine gH (gy @aBJ ?_);refine bK (ai ?_);refine aW (aJZ H (by rw[s2.2 _ au];exact g) j (f.same e) a) ?_;rintro _ Y ⟨rfl,m⟩;rw[m]
 by_cases c:jT lo hi l
 .rw[if_pos c];refine aS (ja (Ac c)) ?_;refine cA (ai ?_);refine aT (ai ?_);exact e
 .rw[if_neg c];refine aQ (ja (Aa c)) (aK ?_);refine ai ?_
  refine cA (ai ?_);refine aT (ai ?_);exact e
def xL(S:St)(wb:Nat)(ps:Int)(n i p d l:AV):Prop:=S.h.get wb=jf [je ps,n,i,p,d,l]/\wb<S.nx
def xL.same{a:St}{n i p d l:AV}(h:xL S wb ps n i p d l)(c:Same S a):xL a wb ps n i p d l:=⟨(c.2 _ h.2).trans h.1,Ae h.2 c.1⟩
section
variable {S:St}{wb:Nat}{ps:Int}{n i p d l:AV}{ni:Nat}{cs:cd}{x:cJ}
def aIe(H:Has fns)(G:cF S cs x):iI fns (.fn 90 [] []) [.ptr wb 0,.agg cs] S fun r S'=>r=je (if oL x then 3 else if jT 1 1000 x.weights then 2 else 0)/\Same S S':=by
 obtain⟨a,b,c,rfl,I,J,K⟩:=G;refine cK H.f90 (by simp) ?_;refine ai ?_;refine cA ?_;refine cR (by refine ai ?_;exact aY _) ?_;intro L s2 Z e;refine ai ?_;have g:=I.same s2;have f:=J.same s2;have j:=K.same s2;refine aD (aD (bB (Q:=fun o z X=>o= .normal/\z.inr=false/\X=L/\aC 3 z.F= .ptr S.nx 0/\aC 39 z.F= .bool (decide (oL x))) (aL ?_) ?_))
 .by_cases m:x.player≠0
  .rw[Ac (show oL x from .inl m)];simp only[↓aF,aE,rE,↓reduceIte,aB,aA,eH e,dF e,dG e,dT e,eX e,g.len,f.len,j.len,Ah,Ac m]
  by_cases q:x.info≠0
  .rw[Ac (show oL x from .inr (.inl q))];simp only[↓aF,aE,rE,↓reduceIte,aB,aA,eH e,dF e,dG e,dT e,eX e,g.len,f.len,j.len,Ah,Aa m,Ac q]
  by_cases t:(0:Int)<(x.pay.length:Int)
  .rw[Ac (show oL x from .inr (.inr (.inl t)))];simp only[↓aF,aE,rE,↓reduceIte,aB,aA,eH e,dF e,dG e,dT e,eX e,g.len,f.len,j.len,Ah,Aa m,Aa q,Ac t]
  by_cases u:(x.next.length:Int)<1
  .rw[Ac (show oL x from .inr (.inr (.inr (.inl u))))];simp only[↓aF,aE,rE,↓reduceIte,aB,aA,eH e,dF e,dG e,dT e,eX e,g.len,f.len,j.len,Ah,Aa m,Aa q,Aa t,Ac u]
  by_cases w:(60:Int)<(x.next.length:Int)
  .rw[Ac (show oL x from .inr (.inr (.inr (.inr (.inl w)))))];simp only[↓aF,aE,rE,↓reduceIte,aB,aA,eH e,dF e,dG e,dT e,eX e,g.len,f.len,j.len,Ah,Aa m,Aa q,Aa t,Aa u,Ac w]
  by_cases y:(x.weights.length:Int)≠(x.next.length:Int)
  .rw[Ac (show oL x from .inr (.inr (.inr (.inr (.inr (y))))))];simp only[↓aF,aE,rE,↓reduceIte,aB,aA,eH e,dF e,dG e,dT e,eX e,g.len,f.len,j.len,Ah,Aa m,Aa q,Aa t,Aa u,Aa w,Ac y]
  rw[Aa (show ¬oL x by rintro(M|N|O|P|R|T)<;>first | exact m M | exact q N | exact t O | exact u P | exact w R | exact y T)];simp only[↓aF,aE,rE,↓reduceIte,aB,aA,eH e,dF e,dG e,dT e,eX e,g.len,f.len,j.len,Ah,Aa m,Aa q,Aa t,Aa u,Aa w,Aa y]
 rintro o ⟨F,inr⟩ X ⟨rfl,B,U,C,A⟩;simp only at B C A;subst B;rw[U];have V:=s2;refine ai ?_
 by_cases bad:oL x
 .rw[if_pos bad];refine aS (jc A (Ac bad)) ?_;refine cA (ai ?_);refine aT (ai ?_);exact V
 rw[if_neg bad];refine aQ (jc A (Aa bad)) (aK ?_);refine ai ?_
 have D:x.weights.length<=60:=by unfold oL at bad;omega
 refine cA (ig C @aB @aA (dT e) ?_);refine bK (ai ?_);refine aW (tM H f au) ?_;rintro _ Y ⟨rfl,W⟩
 refine aT (ai ?_);exact s2.trans W
def aL1(H:Has fns)(hx:cF S cs x)(T:xL S wb ps n i p d l)(aa:1<=ps/\ps<=4)(hi:kR i=some (je ((ni:Nat):Int)))(ab:ni<=1000)(J:cO i i=true):iI fns (.fn 91 [] []) [.ptr wb 0,.agg cs] S fun r S'=>r=je (if vD x then 3 else if x.player<0\/ps - 1<x.player\/x.info<0\/(ni:Int) - 1<x.info then 2 else 0)/\Same S S':=by
 obtain⟨a,b,c,rfl,hn,hw,hp⟩:=hx;refine cK H.f91 (by simp) ?_;refine ai ?_;refine cA ?_;refine cR (by refine ai ?_;exact aY _) ?_;intro K s2 n2 e;refine ai ?_;have f:=hn.same s2;have g:=hw.same s2;have j:=hp.same s2;have w:=T.same s2;refine aD (aD (bB (Q:=fun o C X=>o= .normal/\C.inr=false/\X=K/\aC 0 C.F= .ptr wb 0/\aC 3 C.F= .ptr S.nx 0/\aC 27 C.F= .bool (decide (vD x))) (aL ?_) ?_))
 .by_cases m:(0:Int)<(x.weights.length:Int)
  .rw[Ac (show vD x from .inl m)];simp only[↓aF,aE,rE,↓reduceIte,aB,aA,eH e,dF e,dG e,dT e,eX e,f.len,g.len,j.len,Ah,Ac m]
  by_cases u:(0:Int)<(x.pay.length:Int)
  .rw[Ac (show vD x from .inr (.inl u))];simp only[↓aF,aE,rE,↓reduceIte,aB,aA,eH e,dF e,dG e,dT e,eX e,f.len,g.len,j.len,Ah,Aa m,Ac u]
  by_cases y:(x.next.length:Int)<1
  .rw[Ac (show vD x from .inr (.inr (.inl y)))];simp only[↓aF,aE,rE,↓reduceIte,aB,aA,eH e,dF e,dG e,dT e,eX e,f.len,g.len,j.len,Ah,Aa m,Aa u,Ac y]
  by_cases D:(10:Int)<(x.next.length:Int)
  .rw[Ac (show vD x from .inr (.inr (.inr (D))))];simp only[↓aF,aE,rE,↓reduceIte,aB,aA,eH e,dF e,dG e,dT e,eX e,f.len,g.len,j.len,Ah,Aa m,Aa u,Aa y,Ac D]
  rw[Aa (show ¬vD x by rintro(h0|z|G|U)<;>first | exact m h0 | exact u z | exact y G | exact D U)];simp only[↓aF,aE,rE,↓reduceIte,aB,aA,eH e,dF e,dG e,dT e,eX e,f.len,g.len,j.len,Ah,Aa m,Aa u,Aa y,Aa D]
 rintro o ⟨F,inr⟩ X ⟨rfl,V,hX,L,M,N⟩;simp only at V L M N;subst V;rw[hX];have sX:=s2;refine ai ?_
 by_cases bad:vD x
 .rw[if_pos bad];refine aS (jc N (Ac bad)) ?_;refine cA (ai ?_);refine aT (ai ?_);exact sX
 rw[if_neg bad];refine aQ (jc N (Aa bad)) (aK ?_);refine ai ?_
 have w1:IntKind.i64.wrap (ps - 1)=ps - 1:=wrap_i64 au au;have w2:IntKind.i64.wrap ((ni:Int) - 1)=(ni:Int) - 1:=wrap_i64 au au;have q:S.nx<K.nx:=by omega
 refine aD (aD (sJ (fun _=>False) ?_));intro S3 s3 U n3;simp only[Ax,Cb,rA] at n3;simp only[↓sU,sD,rE,↓reduceIte,rA,L,M,bE,bP,bF,aB,aP,aA,fI w.1,eH e,w1,w.2,q,An];rw[jS (k:=.i64) (n:=x.player) (af)];refine ae ?_;refine aDX az rfl ?_;intro S4 s4 n4 c4;refine ae ?_;have t:Same K S4:=s4.same s3 au;refine aW (tM H (aOh au c4) (by simp)) ?_;rintro _ Y ⟨rfl,I⟩;refine⟨I,?_⟩;refine de @aEX ?_;have O:=s2.trans (t.trans I);refine cA (ae ?_);by_cases z:x.player<0\/ps - 1<x.player
 .rw[if_pos (show x.player<0\/ps - 1<x.player\/x.info<0\/(ni:Int) - 1<x.info by omega)];refine aS (by simp only[↓sU,sD,rE,↓reduceIte,rA,if_pos z];rfl) ?_;refine cA ?_;simp only[↓sU,sD,rE,↓reduceIte,rA,if_pos z];refine aT (ae ?_);exact O
 refine aQ (by simp only[↓sU,sD,rE,↓reduceIte,rA,if_neg z];rfl) (aK ?_);refine ae ?_
 have A:=T.same O;have P:Y.h.get S.nx=jf [je x.kind,je x.player,je x.info,a,b,c]:=by rw[(t.trans I).2 _ q];exact e
 have B:S.nx<Y.nx:=Ae q (t.trans I).1;refine aD (sJ (fun _=>False) ?_);intro S5 s5 h5 n5;simp only[Ax,Cb,rA] at n5;simp only[↓sU,sD,rE,↓reduceIte,rA,L,M,bE,bP,bF,aB,aP,aA,dF A.1,hi,J,dF P,w2,A.2,B,An];rw[jS (k:=.i64) (n:=x.info) (af)];refine ae ?_;refine aDX az rfl ?_;intro S6 s6 n6 c6;refine ae ?_;have R:Same Y S6:=s6.same s5 au;refine aW (tM H (aOh au c6) (by simp)) ?_;rintro _ Z ⟨rfl,W⟩;refine⟨W,?_⟩;refine de @aEX ?_;refine aT (ae ?_);refine⟨?_,O.trans (R.trans W)⟩;by_cases G:x.info<0\/(ni:Int) - 1<x.info
 .rw[if_pos G,if_pos au]
 .rw[if_neg G,if_neg au]
def aOV(H:Has fns)(O:cF S cs x)(P:xL S wb ps n i p d l)(R:1<=ps/\ps<=4):iI fns (.fn 92 [] []) [.ptr wb 0,.agg cs] S fun r S'=>r=je (if oM ps x then 3 else if jT (-1000000) 1000000 x.pay then 2 else 0)/\Same S S':=by
 obtain⟨a,b,c,rfl,T,U,V⟩:=O;refine cK H.f92 (by simp) ?_;refine ai ?_;refine cA ?_;refine cR (by refine ai ?_;exact aY _) ?_;intro q s2 n2 e;refine ai ?_;have g:=T.same s2;have j:=U.same s2;have f:=V.same s2;have m:=P.same s2;have sn:=bN.self g;have w:=bN.self j;have y:=bN.self f;refine aD (aD (bB (Q:=fun o D X=>o= .normal/\D.inr=false/\Same q X/\aC 3 D.F= .ptr S.nx 0/\aC 35 D.F= .bool (decide (oM ps x))) (jK ?_) ?_))
 .have G:=Same.nx q 31;by_cases t:x.player≠0
  .rw[Ac (show oM ps x from .inl t)];simp only[↓aF,aE,rE,↓reduceIte,aB,aA,eH e,dF e,dG e,dT e,eX e,g.len,j.len,f.len,Ah,bE,bP,bF,aP,iO,fI m.1,sn,w,y,Ac t];exact Same.nx q _
  by_cases u:x.info≠0
  .rw[Ac (show oM ps x from .inr (.inl u))];simp only[↓aF,aE,rE,↓reduceIte,aB,aA,eH e,dF e,dG e,dT e,eX e,g.len,j.len,f.len,Ah,bE,bP,bF,aP,iO,fI m.1,sn,w,y,Aa t,Ac u];exact Same.nx q _
  by_cases z:(0:Int)<(x.next.length:Int)
  .rw[Ac (show oM ps x from .inr (.inr (.inl z)))];simp only[↓aF,aE,rE,↓reduceIte,aB,aA,eH e,dF e,dG e,dT e,eX e,g.len,j.len,f.len,Ah,bE,bP,bF,aP,iO,fI m.1,sn,w,y,Aa t,Aa u,Ac z];exact Same.nx q _
  by_cases A:(0:Int)<(x.weights.length:Int)
  .rw[Ac (show oM ps x from .inr (.inr (.inr (.inl A))))];simp only[↓aF,aE,rE,↓reduceIte,aB,aA,eH e,dF e,dG e,dT e,eX e,g.len,j.len,f.len,Ah,bE,bP,bF,aP,iO,fI m.1,sn,w,y,Aa t,Aa u,Aa z,Ac A];exact Same.nx q _
  by_cases C:(x.pay.length:Int)≠ps
  .rw[Ac (show oM ps x from .inr (.inr (.inr (.inr (C)))))];simp only[↓aF,aE,rE,↓reduceIte,aB,aA,eH e,dF e,dG e,dT e,eX e,g.len,j.len,f.len,Ah,bE,bP,bF,aP,iO,fI m.1,sn,w,y,Aa t,Aa u,Aa z,Aa A,Ac C];exact Same.nx q _
  rw[Aa (show ¬oM ps x by rintro(W|Z|h2|h3|h4)<;>first | exact t W | exact u Z | exact z h2 | exact A h3 | exact C h4)];simp only[↓aF,aE,rE,↓reduceIte,aB,aA,eH e,dF e,dG e,dT e,eX e,g.len,j.len,f.len,Ah,bE,bP,bF,aP,iO,fI m.1,sn,w,y,Aa t,Aa u,Aa z,Aa A,Aa C];exact Same.nx q _
 rintro o ⟨F,inr⟩ X ⟨rfl,L,I,M,J⟩;simp only at L M J;subst L;have G:=s2.trans I;have K:X.h.get S.nx=jf [je x.kind,je x.player,je x.info,a,b,c]:=by rw[I.2 _ au];exact e
 refine ai ?_
 by_cases bad:oM ps x
 .rw[if_pos bad];refine aS (jc J (Ac bad)) ?_;refine cA (ai ?_);refine aT (ai ?_);exact G
 rw[if_neg bad];refine aQ (jc J (Aa bad)) (aK ?_);refine ai ?_
 have N:x.pay.length<=60:=by unfold oM at bad;omega
 have B:Int.negSucc 999999= -1000000:=rfl;refine cA (ig M @aB @aA (eX K) ?_);refine bK (gy B ?_);refine aW (tM H (f.same I) au) ?_;rintro _ Y ⟨rfl,hY⟩
 refine aT (ai ?_);exact G.trans hY
end
section
variable {S:St}{wb:Nat}{ps:Int}{n i p d l:AV}{ni:Nat}{cs:cd}{x:cJ}
def aLB(H:Has fns)(w:cF S cs x)(hW:xL S wb ps n i p d l)(z:1<=ps/\ps<=4)(hi:kR i=some (je ((ni:Nat):Int)))(M:ni<=1000)(N:cO i i=true):iI fns (.fn 86 [] []) [.ptr wb 0,.agg cs] S fun r S'=>r=je (gQ ps ni x)/\Same S S':=by
 obtain⟨a,b,c,rfl,hn,hw,hp⟩:=id w;refine cK H.f86 (by simp) ?_;refine ai ?_;refine cA ?_;refine cR (by refine ai ?_;exact aY _) ?_;intro S1 s1 n1 f;refine ai ?_;have O:∀ (F:Fr) (h:T AB),gO (.build [.nilfn,.nilfn,.nilfn,.nilfn] [(1,1,.c (.fn 90 [] [])),(2,1,.c (.fn 91 [] [])),(3,1,.c (.fn 92 [] []))]) F h=some (.agg [.nilfn,.fn 90 [] [],.fn 91 [] [],.fn 92 [] []]):=fun _ _=>rfl;refine cA (gy O ?_);refine bS ?_;intro S2 s2 n2 c2;refine cQ (b:=S1.nx) (aj) (by refine ai ?_;exact aY _) c2 rfl rfl ?_;intro S3 s3 n3 c3;refine ai ?_;have A:Same S1 S3:=s3.same s2 (Af _);have g:=s1.trans A;have f:S3.h.get S.nx=jf [je x.kind,je x.player,je x.info,a,b,c]:=by rw[A.2 _ au];exact f
 have q:S.nx<S3.nx:=by omega
 have t:S1.nx<S3.nx:=by omega
 have P:cF S3 [je x.kind,je x.player,je x.info,a,b,c] x:=bQ w g;have B:=hW.same g;have sl:=zQ (eM .i64 x.kind) (eM .i64 x.player) (eM .i64 x.info) (bN.self hn) (bN.self hw) (bN.self hp);unfold gQ;refine aD (aD (bB (Q:=fun o C X=>o= .normal/\C.inr=false/\X=S3/\aC 0 C.F= .ptr wb 0/\aC 3 C.F= .ptr S.nx 0/\aC 5 C.F= .ptr S1.nx 0/\aC 14 C.F= .bool (decide (x.kind<1\/3<x.kind))) (aL ?_) ?_))
 .by_cases G:x.kind<1
  .rw[Ac (show x.kind<1\/3<x.kind from .inl G)];simp only[↓aF,aE,rE,↓reduceIte,aB,aA,fI f,Ac G]
  .by_cases R:3<x.kind
   .rw[Ac (show x.kind<1\/3<x.kind from .inr R)];simp only[↓aF,aE,rE,↓reduceIte,aB,aA,fI f,Aa G,Ac R]
   .rw[Aa (au:¬ (x.kind<1\/3<x.kind))];simp only[↓aF,aE,rE,↓reduceIte,aB,aA,fI f,Aa G,Aa R]
 rintro o ⟨F,inr⟩ X ⟨rfl,q0,hX,I,J,K,U⟩;simp only at q0 I J K U;subst q0;rw[hX];refine ai ?_
 by_cases bad:x.kind<1\/3<x.kind
 .rw[if_neg au,if_neg au,if_neg au];refine aS (jc U (Ac bad)) ?_;refine cA (ai ?_);refine aT (ai ?_);exact g
 refine aQ (jc U (Aa bad)) (aK ?_);refine ai ?_
 have u:∀j y,[AV.nilfn,.fn 90 [] [],.fn 91 [] [],.fn 92 [] []][j]? =some y->eK (.ptr S1.nx j) false 1 S3.h=some y:=fun j y hy=>by have:=ldc (j:=j) c3 hy;rw[Am] at this;exact this
 have V:gN (je 1)=some 1:=rfl;have W:gN (je 2)=some 2:=rfl;have Z:gN (je 3)=some 3:=rfl;have i1:eQ (.arr 4 1) (.ptr S1.nx 0) 1=some (.ptr S1.nx 1):=rfl;have i2:eQ (.arr 4 1) (.ptr S1.nx 0) 2=some (.ptr S1.nx 2):=rfl;have i3:eQ (.arr 4 1) (.ptr S1.nx 0) 3=some (.ptr S1.nx 3):=rfl;have l1:=u 1 _ rfl;have l2:=u 2 _ rfl;have l3:=u 3 _ rfl;have f1:cO (.fn 90 [] []) (.fn 90 [] [])=true:=rfl;have f2:cO (.fn 91 [] []) (.fn 91 [] [])=true:=rfl;have f3:cO (.fn 92 [] []) (.fn 92 [] [])=true:=rfl;have e:=ldN f;refine aD (iD (fun _=>False) ?_);intro S4 s4;by_cases D:x.kind=1
 .rw[if_pos D];rw[D] at f e sl P;simp only[↓sU,sD,rE,↓reduceIte,rA,I,J,K,aB,aP,aA,fI f,V,i1,l1,f1,e,sl,q,t,An];refine dR rfl ?_;refine ae ?_;refine aW (aIe H (by have:=bQ w (g.trans s4);rw[D] at this;exact this)) ?_;rintro _ Y ⟨rfl,m⟩;refine⟨m,?_⟩
  refine aT (ae ?_);exact g.trans (s4.trans m)
 by_cases L:x.kind=2
 .rw[if_neg D,if_pos L];rw[L] at f e sl;simp only[↓sU,sD,rE,↓reduceIte,rA,I,J,K,aB,aP,aA,fI f,W,i2,l2,f2,e,sl,q,t,An];refine dR rfl ?_;refine ae ?_;refine aW (aL1 H (by have:=bQ w (g.trans s4);rw[L] at this;exact this) (B.same s4) z hi M N) ?_;rintro _ Y ⟨rfl,m⟩;refine⟨m,?_⟩
  refine aT (ae ?_);exact g.trans (s4.trans m)
 have k3:x.kind=3:=by omega
 rw[if_neg D,if_neg L,if_pos k3];rw[k3] at f e sl;simp only[↓sU,sD,rE,↓reduceIte,rA,I,J,K,aB,aP,aA,fI f,Z,i3,l3,f3,e,sl,q,t,An];refine dR rfl ?_;refine ae ?_;refine aW (aOV H (by have:=bQ w (g.trans s4);rw[k3] at this;exact this) (B.same s4) z) ?_;rintro _ Y ⟨rfl,m⟩;refine⟨m,?_⟩
 refine aT (ae ?_);exact g.trans (s4.trans m)
end
abbrev cS:=Int×Int×Int
variable {c:cS->Int}{t:cS}
def fR(rec:Nat->Option (List cS)):bu->Nat->Option (List cS)
 | [],_=>some []
 | c::l,r=>if c=(r:Int) then(rec r).bind fun a=>(fR rec l (r+a.length)).map (a++ ·) else none
def fB(N:Nat)(nx:Nat->bu):Nat->Nat->Int->Int->Option (List cS)
 | 0,_,_,_=>none
 | f+1,at_,p,d=>if at_<N then(fR (fun r=>fB N nx f r at_ (d+1)) (nx at_) (at_+1)).map fun L=>(p,d,((at_+L.length:Nat):Int))::L else none
def wM(m:Int)(L:List cS):Int:=L.foldl (fun m t=>mx m t.2.1) m
def aIa(m:Int)(L L':List cS):wM m (L++L')=wM (wM m L) L':=List.foldl_append ..
def aF6(m:Int)(t:cS)(L:List cS):wM m (t::L)=wM (mx m t.2.1) L:=rfl
def dN(g:aX)(i:Nat):bu:=((g.cg[i]?).map (·.next)).getD []
def wR(h:g.cg[i]? =some x):dN g i=x.next:=by unfold dN;rw[h];rfl
theorem aGg{rec:Nat->Option (List cS)}{N:Nat}(e:∀r L,rec r=some L->r+L.length<=N/\0<L.length):∀ {l:bu} {r:Nat} {L:List cS},r<=N->fR rec l r=some L->r+L.length<=N
 | [],r,L,h,a=>by simp only[fR,Au] at a;subst a;simpa using h
 | c::l,r,L,h,a=>by
  simp only[fR] at a;split at a
  .have⟨f,g,j⟩:=Cu.1 a;obtain⟨q,m,rfl⟩:=Bb.1 j;have:=aGg e (e r f g).1 m;rw[Aj];omega
  .cases a
theorem zP{N:Nat}{nx:Nat->bu}:∀ {f at_:Nat} {p d:Int} {L:List cS},fB N nx f at_ p d=some L->at_+L.length<=N/\0<L.length
 | 0,at_,p,d,L,h=>by cases h
 | f+1,at_,p,d,L,h=>by
  simp only[fB] at h;split at h
  .rename_i a;obtain⟨g,c,rfl⟩:=Bb.1 h;have:=aGg (N:=N) (fun r L e=>zP e) (au:at_+1<=N) c;rw[Ax];omega
  .cases h
def aG.tail{k:Nat}{a:α}{l:List α}(h:aG k E S v (a::l)):∃v',(∀ (F:Fr) (x:cT),gN (x.val F)=some 1->rO (.slice k) v (some x) none none F=some v')/\aG k E S v' l:=by
 rcases h with⟨u,_⟩|⟨b,off,cap,o,cs,rfl,q,r,c,f⟩
 .cases u
 .rw[Ax] at q;have w:Nat.ble cap cap=true:=Ak (Af _);have y:Nat.ble (l.length+1) cap=true:=Ak q;have z:Nat.ble 1 (l.length+1)=true:=Ak au;by_cases g:cap=1
  .have A:l= []:=Bo.1 au;subst A;subst g;have t:Nat.beq 1 1=true:=rfl;refine⟨cC o .emp (.sl b off 0 0 false),fun F x m=>?_,?_⟩
   .simp only[rO,aFA,lA,jO,aH,m,Ax,Cb];cases o<;>rfl
   .cases o with
    | true=>exact .inl ⟨rfl,.inr rfl⟩
    | false=>exact .inr ⟨b,off,0,false,cs,rfl,Af _,r,c,fun i a hi=>by simp at hi⟩
  .have t:Nat.beq cap 1=false:=by rw[Cj];intro h;rw[Bl] at h;omega
   refine⟨.sl b (off+1 * k) (l.length+1 - 1) (cap - 1) o,fun F x m=>?_,.inr ⟨b,off+1 * k,cap - 1,o,cs,by simp,au,r,c,fun i a' hi=>?_⟩⟩
   .simp only[rO,aFA,lA,jO,aH,m,Ax,w,y,z,aN,t,aU,Option.isNone_none];cases o<;>rfl
   .have⟨e,g,B,C⟩:=f (i+1) a' (by simpa using hi);refine⟨e,g,fun j x D=>?_,C⟩;have:=B j x D;rw[show off+1 * k+i * k+j=off+(i+1) * k+j by rw[Du];omega];exact this
def aDo(a b:Int):nP true [je a,je b]=some (je (mx a b)):=by rw[aPo,aRK,aRq]
def aJJ(S:St)(db:Nat)(at_:Nat)(deep:Int)(o:Option (List cS))(r:AV)(a:St):Prop:=
 cD db S a/\match o with
 | some L=>r=je ((at_+L.length:Nat):Int)/\a.h.get db=jf [je (wM deep L)]
 | none=>r=je (-1)/\∃z,a.h.get db=jf [je z]
def aQE(S1:St)(gb db at_:Nat)(d a:Int)(rec:Nat->Option (List cS))(c:bu)(k:Nat)(A:bO)(X:St):Prop:=
 A.inr=false/\cD db S1 X/\∃ (j:Nat) (L:List cS),j+k=c.length/\at_+1+L.length<=2000/\fR rec c (at_+1)=(fR rec (c.drop j) (at_+1+L.length)).map (L++ ·)/\aC 1 A.F=je (at_:Int)/\aC 2 A.F=je d/\aC 3 A.F= .ptr db 0/\aC 4 A.F= .ptr gb 0/\aC 9 A.F=je ((at_+1+L.length:Nat):Int)/\aC 10 A.F=je (j:Int)/\X.h.get db=jf [je (wM a L)]
theorem aJn{gv:AV}(H:Has fns)(hG:aRC S0 gv g)(aw:S0.nx<=db)(hN:g.cg.length<=2000):∀ (f:Nat) {S:St} {at_:Nat} {p d deep:Int},g.cg.length+1 - at_<=f->0<=d->d<=at_->at_<=3000->(∀x∈g.cg,x.next.length<=1000)->Same S0 S->db<S.nx->S.h.get db=jf [je deep]->
  iI fns (.fn 32 [] []) [gv,je (at_:Int),je d,.ptr db 0] S fun r S'=>aJJ S db at_ deep (fB g.cg.length (dN g) f at_ p d) r S':=by
 intro f
 induction f with
 | zero=>
  intro S at_ p d deep hf aI hd aV A hS G u;obtain⟨nv,iv,rfl,hn,hi⟩:=id hG;have N:=aG.same (E:=cF) bQ hn hS;refine cK H.f32 (by simp) ?_;refine ai ?_;refine cA ?_;refine cR (by refine ai ?_;exact aY _) ?_;intro S1 s1 n1 c1;refine ai ?_;refine gH (ig @aB @aA (aBH c1) N.len ?_);refine aS io ?_;refine cA (ai ?_);refine aT (ai ?_);exact⟨⟨s1.1,fun c I _=>s1.2 c I⟩,rfl,deep,by rw[s1.2 _ G];exact u⟩
 | succ f ih=>
  intro S at_ p d deep hf aI hd aV A hS G u;obtain⟨nv,iv,rfl,hn,hi⟩:=id hG;have N:=aG.same (E:=cF) bQ hn hS;refine cK H.f32 (by simp) ?_;refine ai ?_;refine cA ?_;refine cR (by refine ai ?_;exact aY _) ?_;intro S1 s1 n1 c1;refine ai ?_;have t:S1.h.get db=jf [je deep]:=by rw[s1.2 _ G];exact u
  have b1:cD db S S1:=⟨s1.1,fun c I _=>s1.2 c I⟩;refine gH (ig @aB @aA (aBH c1) N.len ?_);by_cases B:at_<g.cg.length;rotate_left
  .refine aS io ?_;refine cA (ai ?_);refine aT (ai ?_);refine⟨b1,?_⟩;simp only[fB,if_neg B];exact⟨rfl,deep,t⟩
  refine aQ io (aK ?_);refine ai ?_
  obtain⟨x,hx⟩:∃x,g.cg[at_]? =some x:=⟨_,Ab B⟩;have aZ:=wR hx;have bd:=A x (Ar hx);have w1:=ed at_
  have w2:IntKind.i64.wrap (d+1)=d+1:=wrap_i64 au au;have a0:eK (.ptr db 0) false 1 S1.h=some (je deep):=ldc (j:=0) t rfl;refine cA ?_;simp only[↓aF,aE,rE,↓reduceIte,bE,bF,a0,aN0,jQ,nR,aDo];refine cQ (b:=db) (aj) (by refine ai ?_;exact dD _ _) t rfl rfl ?_;intro S2 s2 n2 c2;refine ai ?_;have b2:=b1.trans s2;have a1:S2.h.get S.nx=jf [je g.cm,nv,iv]:=by rw[s2.2 _ au au];exact c1
  refine cA (gy w1 ?_);refine gH (ai ?_);have hW:fB g.cg.length (dN g) (f+1) at_ p d=(fR (fun r=>fB g.cg.length (dN g) f r at_ (d+1)) x.next (at_+1)).map fun L=>(p,d,((at_+L.length:Nat):Int))::L:=by
   simp only[fB,if_pos B,aZ]
  rw[hW];refine bB (Q:=fun o A' X=>(o= .normal/\aQE S2 S.nx db at_ d (mx deep d) (fun r=>fB g.cg.length (dN g) f r at_ (d+1)) x.next 0 A' X)\/(o= .ret/\cD db S2 X/\fR (fun r=>fB g.cg.length (dN g) f r at_ (d+1)) x.next (at_+1)=none/\aC 8 A'.F=je (-1)/\∃z,X.h.get db=jf [je z])) (aO (bX (aQE S2 S.nx db at_ d (mx deep d) (fun r=>fB g.cg.length (dN g) f r at_ (d+1)) x.next) ?_ x.next.length _ _ ⟨rfl,cD.refl _ _,0,[],au,by rw[Cb];omega,by simp,aj,aj,aj,aj,by simp only[↓aF,aE,rE,↓reduceIte];rfl,aj,c2⟩)) ?_
  .rintro k ⟨F,inr⟩ X ⟨V,D,j,L,W,J,m,U,Z,p3,O,P,y,C⟩;simp only at V U Z p3 O P y;subst V;have aa:=b2.trans D;have ab:Same S0 X:=cD.same hS aa aw;have R:X.h.get S.nx=jf [je g.cm,nv,iv]:=by rw[D.2 _ au au];exact a1
   obtain⟨e,b,q,ac,hb,he,⟨a,bb,cc,rfl,ha,_,_⟩,_,a2⟩:=aG.at (aG.same (E:=cF) bQ hn ab) az hx;have an:=a2 3 a rfl;refine gH ?_;simp only[↓aF,aE,rE,↓reduceIte,U,O,y,aB,aA,aBH R,aJ,ac,an,ha.len,Ah];by_cases hj:j<x.next.length
   .refine aS io (aK ?_);refine ai ?_
    have ao:=ha.df hj;have K:=ha.ld hj;have T:x.next.drop j=x.next[j]::x.next.drop (j+1):=Bz hj;have a3:x.next.getD j 0=x.next[j]:=by rw[Ad,Ab hj];rfl
    rw[a3] at K;rw[T] at m;generalize x.next[j]=c at *;refine aD (aO (aD (aD (aL ?_))));simp only[↓aF,aE,rE,↓reduceIte,U,O,P,y,aB,aA,aBH R,aJ,ac,an,ao,K];by_cases I:c=((at_+1+L.length:Nat):Int);rotate_left
    .refine aS (ja (Ac (show c≠((at_+1+L.length:Nat):Int) from I))) ?_;refine cA (ai ?_);refine aT (ai ?_);refine .inr ⟨D,?_,rfl,_,C⟩;rw[m];simp only[fR,if_neg I];rfl
    refine aQ (ja (Aa (show ¬c≠((at_+1+L.length:Nat):Int) from fun h=>h I))) (aK ?_);refine ai ?_
    simp only[fR,if_pos I] at m;have hr:at_+1+L.length<=3000:=by omega
    refine cA (ik Z p3 O P (ld3 R) w2 ?_);refine bK (ai ?_);refine aW (ih (S:=X) (at_:=at_+1+L.length) (p:=at_) (d:=d+1) au au au hr A ab (Ae G aa.1) C) ?_;rintro r Y ⟨hY,w⟩;cases hw:fB g.cg.length (dN g) f (at_+1+L.length) at_ (d+1) with
    | none=>
     rw[hw] at w m;obtain⟨rfl,hz⟩:=w
     refine cA (ai ?_);refine aS (by simp only[↓aF,aE,rE,↓reduceIte];rfl) ?_;refine cA (ai ?_);refine aT (ai ?_);refine .inr ⟨D.trans hY,?_,rfl,hz⟩;rw[m];rfl
    | some L1=>
     rw[hw] at w m;obtain⟨rfl,a5⟩:=w;have be:=(zP hw).1;simp only[Option.bind_some,Option.map_map] at m
     refine cA (ai ?_);refine aQ io (aK ?_);refine ai ?_
     refine aL ?_;have w3:=ed j
     refine ie y w3 ?_;refine⟨k - 1,au,rfl,D.trans hY,j+1,L++L1,au,by rw[Aj];omega,?_,ak U,ak Z,ak p3,ak O,by simp only[↓aF,aE,rE,↓reduceIte,Aj];congr 1;omega,aj,?_⟩
     .rw[m,Aj,<-Cy];congr 1;funext M;simp
     .rw[aIa];exact a5
   .refine aQ io (bT ?_);refine ai ?_;have a8:k=0:=by omega
    subst a8;exact .inl ⟨rfl,D,j,L,W,J,m,ak U,ak Z,ak p3,ak O,ak P,ak y,C⟩
  rintro o ⟨F,inr⟩ X (⟨rfl,V,D,j,L,W,J,m,U,Z,p3,O,P,y,C⟩|⟨rfl,D,ba,p8,hz⟩)
  .simp only at V P;subst V;rw[Cr au] at m;simp only[fR,Ep,Bu] at m;rw[m];refine ai ?_
   refine cA (gy P ?_);refine aT (ai ?_);refine⟨b2.trans D,?_,?_⟩
   .congr 1;simp;omega
   .exact C
  .rw[ba];simp only at p8;refine gy p8 ?_;exact⟨b2.trans D,rfl,hz⟩
def bD(l:bu):cd:=l.map (AV.int .i64)
def yT(l:bu):(bD l).length=l.length:=by simp [bD]
def jH{a:St}(h:Same S a){p:Nat}{agg:Bool}(c:b<S.nx):eK (.ptr b p) agg n a.h=eK (.ptr b p) agg n S.h:=by
 have e:=xA h c;simp only[eK,qI,aAi,nF,e]
def yI{p:Nat}{o:Bool}(h:S.h.get b=some (.cells (bD l) o sz))(c:p<l.length):qX (.ptr b p) 1 [je w] S=some (.undef,⟨S.h.set b (some (.cells (bD (l.set p w)) o sz)),S.nx⟩):=by
 have a:put (bD l) p [AV.int .i64 w]=some (bD (l.set p w)):=by
  rw[put_eq,if_pos (by rw[yT];simp;omega)];congr 1;unfold bD;rw[List.map_set,List.set_eq_take_append_cons_drop,if_pos (by simp;omega)];simp
 simp only[qX,uF,h,aH,aCf,a];rfl
def aDM{o:Bool}(h:S.h.get b=some (.cells (bD l) o sz))(a:b<S.nx)(c:l.length=N):bN .i64 S (.sl b 0 N N false) l:=by
 subst c;refine .inr ⟨b,0,l.length,false,bD l,rfl,Af _,a,by unfold cI;rw[h];rfl,fun i x hi=>?_⟩;rw[Am];unfold bD;rw[Az,hi];rfl
def fQ{o:Bool}(hi:i<N):eQ (.slice 1) (.sl b 0 N N o) i=some (.ptr b i):=ia8 hi
def vM{W:Nat->Prop}{a:T AB}{base m:Nat}{l:List AO}{F:Fr}{last:Option Nat}{Q:Fr->St->List iR->Prop}{x v:cT}{p:Nat}{o:Bool}(h:kE last m=true)(f:x.val F= .ptr b p)(g:v.val F=je w)(j:S.h.get b=some (.cells (bD P) o sz))(q:p<P.length)(r:W b)
  (t:∀S1,cD b S S1->S1.nx=S.nx->S1.h.get b=some (.cells (bD (P.set p w)) o sz)->gF fns W a base l (i+1) F S1 [] (some i) Q):gF fns W a base (⟨none,.x (.st 1 x v),none,m⟩::l) i F S [] last Q:=by
 have u:cD b S ⟨S.h.set b (some (.cells (bD (P.set p w)) o sz)),S.nx⟩:=(cD.refl b S).put _;refine qA (S1:=⟨S.h.set b (some (.cells (bD (P.set p w)) o sz)),S.nx⟩) h ?_ ⟨Af _,fun c z y=>?_⟩ (t _ u rfl ?_)
 .rw[g,dD,aH,f];exact yI (S:=S) j q
 .simp only;rw[ef,if_neg (show ¬c=b from fun e=>y (by rw[e];exact r))];rfl
 .simp only;rw[ef,if_pos rfl]
def yB(T:List cS)(a j:Nat):Option cS:=if a<=j then T[j - a]? else none
def jM(c:cS->Int)(P P':bu)(T:List cS)(a:Nat):Prop:=P'.length=P.length/\∀j,P'.getD j 0=((yB T a j).map c).getD (P.getD j 0)
def jM.nil(c:cS->Int)(P:bu)(a:Nat):jM c P P [] a:=⟨rfl,fun j=>by unfold yB;split<;>simp⟩
def aQh{T:List cS}{a:Nat}(h:yB T a j=some t):a<=j/\j<a+T.length:=by
 unfold yB at h;split at h
 .have:=(Ai.1 h).1;omega
 .cases h
def aMq{T:List cS}{a:Nat}(h:j<a\/a+T.length<=j):yB T a j=none:=by
 unfold yB;split
 .exact Cd au
 .rfl
def aDc(T e:List cS)(a j:Nat):yB (T++e) a j=(yB T a j).or (yB e (a+T.length) j):=by
 unfold yB;by_cases h:a<=j
 .rw[if_pos h,if_pos h,Ec];by_cases c:j - a<T.length
  .rw[if_pos c,if_neg au,Ab c];rfl
  .rw[if_neg c,if_pos au,Cd (l:=T) (i:=j - a) au,show j - a - T.length=j - (a+T.length) by omega];rfl
 .rw[if_neg h,if_neg h,if_neg au];rfl
theorem jM.append{e f:bu}{T g:List cS}{a:Nat}(m:jM c P e T a)(q:jM c e f g (a+T.length)):jM c P f (T++g) a:=by
 refine⟨q.1.trans m.1,fun j=>?_⟩;rw[q.2,m.2,aDc];cases r:yB T a j with
 | none=>rfl
 | some t=>
  have:=aQh r;rw[aMq au];rfl
def iE{v:Int}(hi:i<P.length):(P.set i v).getD j 0=if j=i then v else P.getD j 0:=by
 rw[Ad,Cw];by_cases h:i=j
 .subst h;rw[if_pos rfl,if_pos rfl,if_pos hi];rfl
 .rw[if_neg h,if_neg (Cg h),Ad]
def aHN(t:cS)(a j:Nat):yB [t] a j=if j=a then some t else none:=by
 unfold yB;by_cases h:j=a
 .subst h;simp
 .rw[if_neg h];split
  .exact Cd (by simp;omega)
  .rfl
def jM.one{a:Nat}{v:Int}(e:a<P.length)(f:c t=v):jM c P (P.set a v) [t] a:=by
 refine⟨Aw ..,fun j=>?_⟩;rw[iE e,aHN];by_cases h:j=a
 .rw[if_pos h,if_pos h,<-f];rfl
 .rw[if_neg h,if_neg h];rfl
def jM.late{g:bu}{L:List cS}{a:Nat}{v:Int}(h:jM c P g L (a+1))(m:a<P.length)(q:c t=v):jM c P (g.set a v) (t::L) a:=by
 refine⟨by rw[Aw];exact h.1,fun j=>?_⟩;rw[iE (by rw[h.1];exact m),h.2];have e:yB (t::L) a j=(yB [t] a j).or (yB L (a+1) j):=aDc [t] L a j;rw[e,aHN];by_cases f:j=a
 .rw[if_pos f,if_pos f,<-q];rfl
 .rw[if_neg f,if_neg f];rfl
structure WK(S:St)(wb pb db lb N:Nat)(ps:Int)(nv iv:AV)(P D L:bu):Prop where
 w:xL S wb ps nv iv (.sl pb 0 N N false) (.sl db 0 N N false) (.sl lb 0 N N false)
 gp:S.h.get pb=some (.cells (bD P) false 0)
 gd:S.h.get db=some (.cells (bD D) false 0)
 gl:S.h.get lb=some (.cells (bD L) false 0)
 lp:P.length=N
 ld:D.length=N
 ll:L.length=N
 bp:pb<S.nx
 bd:db<S.nx
 bl:lb<S.nx
def tB(e db lb:Nat)(S a:St):Prop:=S.nx<=a.nx/\∀c,c<S.nx->c≠e->c≠db->c≠lb->a.h.get c=S.h.get c
def tB.refl(a db lb:Nat)(S:St):tB a db lb S S:=⟨Af _,fun _ _ _ _ _=>rfl⟩
def tB.trans{a:Nat}{e S'':St}(h:tB a db lb S e)(h':tB a db lb e S''):tB a db lb S S'':=⟨Av h.1 h'.1,fun c f g j m=>(h'.2 c (Ae f h.1) g j m).trans (h.2 c f g j m)⟩
def tB.same{e:Nat}{S':St}(a:Same S0 S)(h:tB e db lb S S')(g:S0.nx<=e)(j:S0.nx<=db)(m:S0.nx<=lb):Same S0 S':=⟨Av a.1 h.1,fun c f=>(h.2 c (Ae f a.1) au au au).trans (a.2 c f)⟩
def aSR(S0 S:St)(wb a db lb:Nat)(ps:Int)(nv iv:AV)(g:aX)(P D L:bu)(at_:Nat)(o:Option (List cS))(r:AV)(c:St):Prop:=
 tB a db lb S c/\∃P' e f,WK c wb a db lb g.cg.length ps nv iv P' e f/\match o with
 | some T=>(∃v,r= .tup [v,.bool true]/\aG 6 cF S0 v (g.cg.drop (at_+T.length)))/\jM (·.1) P P' T at_/\jM (·.2.1) D e T at_/\jM (·.2.2) L f T at_
 | none=>r= .tup [.ct,.bool false]
def aS4(S0 q:St)(wb e db lb:Nat)(ps:Int)(nv iv a:AV)(g:aX)(P D L:bu)(at_:Nat)(d:Int)(rec:Nat->Option (List cS))(c:bu)(k:Nat)(A:bO)(X:St):Prop:=
 A.inr=false/\tB e db lb q X/\∃ (j:Nat) (T:List cS) (P' f m:bu) (v:AV),j+k=c.length/\at_+1+T.length<=g.cg.length/\fR rec c (at_+1)=(fR rec (c.drop j) (at_+1+T.length)).map (T++ ·)/\
  WK X wb e db lb g.cg.length ps nv iv P' f m/\jM (·.1) P P' T (at_+1)/\jM (·.2.1) D f T (at_+1)/\jM (·.2.2) L m T (at_+1)/\aG 6 cF S0 v (g.cg.drop (at_+1+T.length))/\
  aC 0 A.F= .ptr wb 0/\aC 2 A.F=je d/\aC 10 A.F=je (at_:Int)/\aC 11 A.F=v/\aC 46 A.F=a/\aC 47 A.F=je (c.length:Int)/\aC 48 A.F=je (j:Int)
theorem aLL{nv iv:AV}{A:Nat}(H:Has fns)(hG:aG 6 cF S0 nv g.cg)(ca:S0.nx<=wb)(aV:S0.nx<=A)(aZ:S0.nx<=db)(a0:S0.nx<=lb)(a1:A≠db)(a2:A≠lb)(a3:db≠lb)(a5:wb≠A)(a8:wb≠db)(ab:wb≠lb)(hN:g.cg.length<=2000)(ba:∀x∈g.cg,x.next.length<=1000):
  ∀ (f:Nat) {S:St} {at_:Nat} {p d:Int} {rv:AV} {P D L:bu},g.cg.length+1 - at_<=f->0<=d->d<=at_->at_<=g.cg.length->Same S0 S->WK S wb A db lb g.cg.length ps nv iv P D L->aG 6 cF S0 rv (g.cg.drop at_)->
  iI fns (.fn 87 [] []) [.ptr wb 0,je p,je d,rv] S fun r S'=>aSR S0 S wb A db lb ps nv iv g P D L at_ (fB g.cg.length (dN g) f at_ p d) r S':=by
 intro f
 induction f with
 | zero=>intro S at_ p d rv P D L hf bR hd bU;omega
 | succ f ih=>
  intro S at_ p d rv P D L hf bR hd bU hS y O;have ac:=O.len;rw[Dd] at ac;refine cK H.f87 (by simp) ?_;refine ae ?_;refine cA (ae ?_);refine gH (de ac ?_);by_cases u:at_<g.cg.length;rotate_left
  .refine aS im ?_;refine cA (ae ?_);refine aT ?_;simp only[↓sU,sD,rE,↓reduceIte,rA];simp only[fB,if_neg u];exact⟨tB.refl _ _ _ _,P,D,L,y,rfl⟩
  refine aQ im (aK ?_);refine ae ?_
  obtain⟨x,hx⟩:∃x,g.cg[at_]? =some x:=⟨_,Ab u⟩;have bV:=wR hx;have cf:=ba x (Ar hx);have an:=hG.len;have ao:g.cg.drop at_=x::g.cg.drop (at_+1):=by
   rw[Bz u];congr 1;rw[Ab u] at hx;exact Bh hx
  rw[ao] at O;have w1:IntKind.i64.wrap ((g.cg.length:Int) - ((g.cg.length - at_:Nat):Int))=(at_:Int):=by rw[wrap_i64 au au];omega
  refine cA (fj @bE @bF @aB @aA (eH y.w.1) an ac w1 ?_);have aw:=y.w.2;have bW:¬ (wb=A\/wb=db):=by omega
  refine aD (iD (fun b=>b=A\/b=db) ?_);intro S1 s1;have be:=fQ (b:=A) (o:=false) u;have U:=fQ (b:=db) (o:=false) u;simp only[↓sU,sD,rE,↓reduceIte,rA,bE,bP,bF,aB,aP,aA,dG y.w.1,dT y.w.1,aw,bW,An,be,U];have l1:=s1.1;have bp:=y.bp;have bd:=y.bd;have bl:=y.bl;refine vM (p:=at_) (w:=p) rfl (af) (af) (by rw[s1.2 _ y.bp];exact y.gp) (by rw[y.lp];exact u) (.inl rfl) ?_;intro S2 s2 n2 c2;refine de U ?_;refine vM (p:=at_) (w:=d) (az:Nat.testBit 32767 13=true) (af) (af) (by rw[s2.2 _ au (Cg a1),s1.2 _ y.bd];exact y.gd) (by rw[y.ld];exact u) (.inr rfl) ?_;intro S3 s3 n3 c3;refine ae ?_;have b3:tB A db lb S S3:=⟨au,fun c V h1 h2 h3=>by rw[s3.2 _ au h2,s2.2 _ au h1,s1.2 _ V]⟩;have bj:Same S0 S3:=b3.same hS aV aZ a0;have bY:WK S3 wb A db lb g.cg.length ps nv iv (P.set at_ p) (D.set at_ d) L:=⟨⟨by rw[b3.2 _ aw a5 a8 ab];exact y.w.1,Ae aw b3.1⟩,by rw[s3.2 _ au a1];exact c2,c3,by rw[s3.2 _ au (Cg a3),s2.2 _ au (Cg a2),s1.2 _ y.bl];exact y.gl,by rw[Aw];exact y.lp,by rw[Aw];exact y.ld,y.ll,au,au,au⟩;have⟨rv',bk,bm⟩:=aG.tail O;have bn:∀F:Fr,rO (.slice 6) rv (some (.c (je 1))) none none F=some rv':=fun F=>bk F _ rfl;refine cA (de bn ?_);obtain⟨e,b,q,bZ,hb,he,⟨a,bb,cc,rfl,ha,_,_⟩,_,b0⟩:=aG.at O az (i:=0) rfl;have bq:=b0 3 a rfl;rw[<-jH bj hb] at bq;refine gH (fh @aJ6 bZ @aB @aA bq ha.len @Ah ?_);have hW:fB g.cg.length (dN g) (f+1) at_ p d=(fR (fun r=>fB g.cg.length (dN g) f r at_ (d+1)) x.next (at_+1)).map fun L=>(p,d,((at_+L.length:Nat):Int))::L:=by
   simp only[fB,if_pos u,bV]
  rw[hW];refine bB (Q:=fun o A' X=>(o= .normal/\aS4 S0 S3 wb A db lb ps nv iv a g (P.set at_ p) (D.set at_ d) L at_ d (fun r=>fB g.cg.length (dN g) f r at_ (d+1)) x.next 0 A' X)\/(o= .ret/\tB A db lb S3 X/\fR (fun r=>fB g.cg.length (dN g) f r at_ (d+1)) x.next (at_+1)=none/\aC 8 A'.F= .ct/\aC 9 A'.F= .bool false/\∃P' W Z,WK X wb A db lb g.cg.length ps nv iv P' W Z)) (aO (bX (aS4 S0 S3 wb A db lb ps nv iv a g (P.set at_ p) (D.set at_ d) L at_ d (fun r=>fB g.cg.length (dN g) f r at_ (d+1)) x.next) ?_ x.next.length _ _ ⟨rfl,tB.refl _ _ _ _,0,[],P.set at_ p,D.set at_ d,L,rv',au,by rw[Cb];omega,by simp,bY,jM.nil _ _ _,jM.nil _ _ _,jM.nil _ _ _,bm,by refine⟨?_,?_,?_,?_,?_,?_,?_⟩<;>simp only[↓sU,sD,rE,↓reduceIte,rA]⟩)) ?_
  .rintro k ⟨F,inr⟩ X ⟨q0,R,j,T,P',W,Z,v,bs,aI,t,m,rP,rD,rL,hv,p0,p2,B,z,I,J,G⟩;simp only at q0 p0 p2 B z I J G;subst q0;have bv:Same S0 X:=R.same bj aV aZ a0;have bw:=ha.same bv;have K:=hv.len;rw[Dd] at K;refine cA (ew J G ?_);by_cases hj:j<x.next.length
   .refine aD (aS im (aK ?_));refine ae ?_;have bx:=bw.df hj;have aa:=bw.ld hj;have b1:x.next.drop j=x.next[j]::x.next.drop (j+1):=Bz hj;have b2:x.next.getD j 0=x.next[j]:=by rw[Ad,Ab hj];rfl
    rw[b2] at aa;rw[b1] at t;generalize x.next[j]=c at *;have w2:IntKind.i64.wrap ((g.cg.length:Int) - ((g.cg.length - (at_+1+T.length):Nat):Int))=((at_+1+T.length:Nat):Int):=by rw[wrap_i64 au au];omega
    have w3:IntKind.i64.wrap (d+1)=d+1:=wrap_i64 au au;have w4:=ed j
    refine aD (aO (aD (aL ?_)));refine ff I G @aJ bx aa ?_;refine gH ?_;simp only[↓sU,sD,rE,↓reduceIte,rA,p0,z,bE,bF,aB,aA,eH m.w.1,an,K,w2];by_cases V:c=((at_+1+T.length:Nat):Int);rotate_left
    .refine aS (iu (Ac (show c≠((at_+1+T.length:Nat):Int) from V))) ?_;refine cA (ae ?_);refine aT (ae ?_);refine .inr ⟨R,?_,P',W,Z,m⟩;rw[t];simp only[fR,if_neg V];rfl
    refine aQ (iu (Aa (show ¬c≠((at_+1+T.length:Nat):Int) from fun h=>h V))) (aK ?_);refine ae ?_
    simp only[fR,if_pos V] at t;refine cA (ff p0 p2 B z w3 ?_);refine bK (ae ?_);refine aW (ih (S:=X) (at_:=at_+1+T.length) (p:=at_) (d:=d+1) au au au aI bv m hv) ?_;rintro r Y ⟨hY,P2,D2,L2,bz,C⟩;cases hw:fB g.cg.length (dN g) f (at_+1+T.length) at_ (d+1) with
    | none=>
     rw[hw] at C t;subst C;refine ew @xP @xN ?_;refine cA (ew @fY @Dl ?_);refine aS (af) ?_;refine cA (ae ?_);refine aT (ae ?_);refine .inr ⟨R.trans hY,?_,P2,D2,L2,bz⟩;rw[t];rfl
    | some T1=>
     rw[hw] at C t;obtain⟨⟨v2,rfl,b6⟩,k1,k2,k3⟩:=C;simp only[Option.bind_some,Option.map_map] at t;have cj:=(zP hw).1;refine ew @xP @xN ?_;refine cA (ew @fY @Cm ?_);refine aQ (af) (aK ?_);refine ae ?_
     refine aL (ew G w4 ?_);refine⟨k - 1,au,rfl,R.trans hY,j+1,T++T1,P2,D2,L2,v2,au,by rw[Aj];omega,?_,bz,rP.append k1,rD.append k2,rL.append k3,by rw[Aj,<-Cy];exact b6,by refine⟨?_,?_,?_,?_,?_,?_,?_⟩<;>simp only[↓sU,sD,rE,↓reduceIte,rA,p0,p2,B,I,J]⟩;rw[t,Aj,<-Cy];congr 1;funext M;simp
   .refine aD (aQ im (bT ?_));refine ae ?_;have b8:k=0:=by omega
    subst b8;exact .inl ⟨rfl,R,j,T,P',W,Z,v,bs,aI,t,m,rP,rD,rL,hv,by refine⟨?_,?_,?_,?_,?_,?_,?_⟩<;>simp only[↓sU,sD,rE,↓reduceIte,rA,p0,p2,B,z,I,J,G]⟩
  rintro o ⟨F,inr⟩ X (⟨rfl,q0,R,j,T,P',W,Z,v,bs,aI,t,m,rP,rD,rL,hv,p0,p2,B,z,I,J,G⟩|⟨rfl,R,b',p8,p9,P',W,Z,m⟩);rotate_left
  .rw[b'];simp only at p8 p9;refine ew p8 p9 ?_;exact⟨b3.trans R,P',W,Z,m,rfl⟩
  simp only at q0 p0 B z;subst q0;rw[Cr au] at t;simp only[fR,Ep,Bu] at t;rw[t];have K:=hv.len;rw[Dd] at K;have w2:IntKind.i64.wrap ((g.cg.length:Int) - ((g.cg.length - (at_+1+T.length):Nat):Int))=((at_+1+T.length:Nat):Int):=by rw[wrap_i64 au au];omega
  have w5:IntKind.i64.wrap (((at_+1+T.length:Nat):Int) - 1)=((at_+T.length:Nat):Int):=by rw[wrap_i64 au au];omega
  have N:=m.w.2;have bA:=fQ (b:=lb) (o:=false) u;refine ae ?_
  refine aD (iD (fun b=>b=lb) ?_);intro S4 s4;simp only[↓sU,sD,rE,↓reduceIte,rA,p0,B,z,bE,bP,bF,aB,aP,aA,eH m.w.1,eX m.w.1,an,K,w2,w5,N,ab,An,bA,aG.self hG];have l4:=s4.1;have ck:=m.bp;have cl:=m.bd;have cm:=m.bl;refine vM (p:=at_) (w:=((at_+T.length:Nat):Int)) rfl (af) (af) (by rw[s4.2 _ m.bl];exact m.gl) (by rw[m.ll];exact u) rfl ?_;intro S5 s5 n5 c5;refine ae ?_;have b5:tB A db lb X S5:=⟨au,fun c V h1 h2 h3=>by rw[s5.2 _ au h3,s4.2 _ V]⟩;refine cA (de z ?_);refine aT (ae ?_);have bC:at_<P.length:=by rw[y.lp];exact u
  have bI:at_<D.length:=by rw[y.ld];exact u
  have bM:at_<L.length:=by rw[y.ll];exact u
  refine⟨b3.trans (R.trans b5),P',W,Z.set at_ ((at_+T.length:Nat):Int),⟨⟨by rw[b5.2 _ N a5 a8 ab];exact m.w.1,Ae N b5.1⟩,by rw[s5.2 _ au a2,s4.2 _ m.bp];exact m.gp,by rw[s5.2 _ au a3,s4.2 _ m.bd];exact m.gd,c5,m.lp,m.ld,by rw[Aw];exact m.ll,by show _<S5.nx;omega,by show _<S5.nx;omega,by show _<S5.nx;omega⟩,⟨v,rfl,?_⟩,?_,?_,?_⟩
  .rw[Ax,show at_+(T.length+1)=at_+1+T.length by omega];exact hv
  .exact jM.append (T:=[(p,d,((at_+T.length:Nat):Int))]) (jM.one bC rfl) rP
  .exact jM.append (T:=[(p,d,((at_+T.length:Nat):Int))]) (jM.one bI rfl) rD
  .exact jM.late rL bM rfl
end Go.Ev.Gl
