import Derived.Test.YtiiplmagnlcpbaaGreatDoorGl5
set_option linter.unusedSimpArgs false
set_option linter.unusedVariables false
open Nat renaming reduceEqDiff -> rE, reduceAdd -> rA
set_option maxHeartbeats 0
namespace Go.Ev.Gl
variable {fns:T cM}
structure fO where
 kind:Int
 player:Int
 info:Int
 next:bm
 weights:bm
 pay:bm
structure aG5 where
 player:Int
 b9:Int
structure aZ where
 b8:Int
 bw:List fO
 b7:List aG5
def iW(lo hi:Int)(l:bm):Prop:=∃w∈l,w<lo\/hi<w
instance anyOutDec(lo hi:Int)(l:bm):Decidable (iW lo hi l):=by unfold iW;exact inferInstance
def mZ(x:fO):Prop:=x.player≠0\/x.info≠0\/(0:Int)<(x.pay.length:Int)\/(x.next.length:Int)<1\/(60:Int)<(x.next.length:Int)\/(x.weights.length:Int)≠(x.next.length:Int)
def xY(x:fO):Prop:=(0:Int)<(x.weights.length:Int)\/(0:Int)<(x.pay.length:Int)\/(x.next.length:Int)<1\/(10:Int)<(x.next.length:Int)
def oI(ps:Int)(x:fO):Prop:=x.player≠0\/x.info≠0\/(0:Int)<(x.next.length:Int)\/(0:Int)<(x.weights.length:Int)\/(x.pay.length:Int)≠ps
instance badCDec(x:fO):Decidable (mZ x):=by unfold mZ;exact inferInstance
instance badMDec(x:fO):Decidable (xY x):=by unfold xY;exact inferInstance
instance badEDec(ps:Int)(x:fO):Decidable (oI ps x):=by unfold oI;exact inferInstance
def iZ(ps:Int)(ni:Nat)(x:fO):Int:=
 if x.kind=1 then(if mZ x then 3 else if iW 1 1000 x.weights then 2 else 0)
 else if x.kind=2 then(if xY x then 3 else if x.player<0\/ps - 1<x.player\/x.info<0\/(ni:Int) - 1<x.info then 2 else 0)
 else if x.kind=3 then(if oI ps x then 3 else if iW (-1000000) 1000000 x.pay then 2 else 0)
 else 3
def cI(S:St)(cs:bo)(x:fO):Prop:=∃a b c,cs= [.int .i64 x.kind,.int .i64 x.player,.int .i64 x.info,a,b,c]/\dE .i64 S a x.next/\dE .i64 S b x.weights/\dE .i64 S c x.pay
theorem bT:pJ cI:=fun⟨a,b,c,h,h1,h2,h3⟩ hs=>⟨a,b,c,h,h1.same hs,h2.same hs,h3.same hs⟩
def eT(_:St)(cs:bo)(x:aG5):Prop:=cs= [.int .i64 x.player,.int .i64 x.b9]
theorem dH:pJ eT:=fun h _=>h
def aPA(S:St)(v:AV)(g:aZ):Prop:=∃n i,v= .agg [.int .i64 g.b8,n,i]/\aW 6 cI S n g.bw/\aW 2 eT S i g.b7
theorem ldc{h:T AB}{b j:Nat}{cs:bo}{x:AV}{o:Bool}{s:Nat}(hb:h.get b=some (.cells cs o s))(hj:cs[j]? =some x):cT (.ptr b (0+j)) false 1 h=some x:=by
 simp only[cT,iO,aS,jE,bU,hb,aL,dI,jI,Au,hj]
theorem pX{h:T AB}{b n:Nat}{cs:bo}{o:Bool}{s:Nat}(hb:h.get b=some (.cells cs o s))(hn:cs.length=n):cT (.ptr b 0) true n h=some (.agg cs):=by
 subst hn;simp only[cT,iO,aP,oH,bU,hb,aL,dI];unfold cut;rw[jY,kR,Dd,if_pos (Af _),Dw];rfl
section
variable {h:T AB}{b:Nat}{x0 x1 x2 x3 x4 x5:AV}{o:Bool}{s:Nat}
theorem iY(hb:h.get b=some (.cells [x0,x1,x2,x3,x4,x5] o s)):cT (.ptr b (0+0)) false 1 h=some x0:=ldc hb rfl
theorem eI(hb:h.get b=some (.cells [x0,x1,x2,x3,x4,x5] o s)):cT (.ptr b (0+1)) false 1 h=some x1:=ldc hb rfl
theorem dT(hb:h.get b=some (.cells [x0,x1,x2,x3,x4,x5] o s)):cT (.ptr b (0+2)) false 1 h=some x2:=ldc hb rfl
theorem dV(hb:h.get b=some (.cells [x0,x1,x2,x3,x4,x5] o s)):cT (.ptr b (0+3)) false 1 h=some x3:=ldc hb rfl
theorem dR(hb:h.get b=some (.cells [x0,x1,x2,x3,x4,x5] o s)):cT (.ptr b (0+4)) false 1 h=some x4:=ldc hb rfl
theorem eS(hb:h.get b=some (.cells [x0,x1,x2,x3,x4,x5] o s)):cT (.ptr b (0+5)) false 1 h=some x5:=ldc hb rfl
theorem ldN(hb:h.get b=some (.cells [x0,x1,x2,x3,x4,x5] o s)):cT (.ptr b 0) true 6 h=some (.agg [x0,x1,x2,x3,x4,x5]):=pX hb rfl
end
section
variable {k:Nat}{α:Type}{E:St->bo->α->Prop}{S:St}{v:AV}{l:List α}
theorem aW.at(h:aW k E S v l)(hk:0<k){i:Nat}{a:α}(hi:l[i]? =some a):∃e b p,dN (.slice k) v i=some (.ptr b p)/\b<S.nx/\e.length=k/\E S e a/\cT (.ptr b p) true k S.h=some (.agg e)/\∀j x,e[j]? =some x->cT (.ptr b (p+j)) false 1 S.h=some x:=by
 have⟨e,b,p,h1,h2,h3,h4,cs,h5,h6⟩:=h.get hi;have hlt:=(Aj.1 hi).1;refine⟨e,b,p,by rw[<-h1];exact h.cw hlt,h2,h3,h4,?_,fun j x hj=>?_⟩
 ·simp only[cT,iO,aP,oH,h5,aL];have hcut:cut cs p k=some e:=by
   have hle:p+k<=cs.length:=by
    have:=h6 (k - 1) (e[k - 1]' au) (Ad au);have:=(Aj.1 this).1;omega
   unfold cut;rw[jY,kR,if_pos (by rw[Dk];omega)];congr 1;refine List.ext_getElem (by rw[Bh,Dk];omega) fun j j1 j2=>?_;have:=h6 j e[j] (Ad j2);rw[List.getElem_take,List.getElem_drop];exact(Aj.1 this).2
  rw[hcut,aL]
 ·simp only[cT,iO,aS,jE,h5,aL,jI];exact h6 j x hj
end
def wB(x:fO):Prop:=(0:Int)<(x.pay.length:Int)\/(0:Int)<(x.weights.length:Int)\/(x.next.length:Int)<1\/(10:Int)<(x.next.length:Int)
instance badMDec'(x:fO):Decidable (wB x):=by unfold wB;exact inferInstance
theorem aG4(x:fO):wB x↔xY x:=by unfold xY wB;omega
def aD1(ps:Int)(ni:Nat)(x:fO):Prop:=x.player<0\/ps<=x.player\/x.info<0\/((ni:Nat):Int)<=x.info
instance badRDec(ps:Int)(ni:Nat)(x:fO):Decidable (aD1 ps ni x):=by unfold aD1;exact inferInstance
theorem aGN(ps:Int)(ni:Nat)(x:fO):aD1 ps ni x↔(x.player<0\/ps - 1<x.player\/x.info<0\/(ni:Int) - 1<x.info):=by unfold aD1;omega
theorem wP{lo hi:Int}{l:bm}{i:Nat}(hi':i<l.length)(h:¬iW lo hi (l.take i))(h2:¬ (l.getD i 0<lo\/hi<l.getD i 0)):¬iW lo hi (l.take (i+1)):=by
 rintro⟨w,hw,ho⟩;rw[Cz,Ad hi'] at hw;rcases Ct.1 hw with h1 | h1
 ·exact h ⟨w,h1,ho⟩
 ·simp at h1;rw[Ae,Ad hi'] at h2;subst h1;exact h2 ho
theorem yY{lo hi:Int}{l:bm}{i:Nat}(hi':i<l.length)(h2:l.getD i 0<lo\/hi<l.getD i 0):iW lo hi l:=by
 rw[Ae,Ad hi'] at h2;exact⟨l[i],Ec hi',h2⟩
def aQg(S:St)(b t:Nat)(lo hi:Int)(l:bm)(k:Nat)(A:bK)(X:St):Prop:=A.inr=false/\X=S/\∃i,i+k=l.length/\¬iW lo hi (l.take i)/\aD 3 A.F= .ptr b 0/\aD t A.F= .int .i64 (i:Int)
theorem aIZ{S:St}{n i:AV}{ps:Int}{ni:Nat}{cs:bo}{x:fO}(H:Has fns)(hx:cI S cs x)(hps:ps<=4)(hi:kT i=some (.int .i64 ((ni:Nat):Int))):eR fns (.fn 77 [] []) [.agg [.int .i64 ps,n,i],.agg cs] S fun r S'=>r= .int .i64 (iZ ps ni x)/\Same S S':=by
 obtain⟨a,b,c,rfl,hn,hw,hp⟩:=hx;refine bE H.f77 (by simp) ?_;refine aj ?_;refine aY ?_;refine bW (by refine aj ?_;exact aR _) ?_;intro S1 s1 n1 c1;refine bW (by refine aj ?_;exact aR _) ?_;intro S2 s2 n2 g3;refine aj ?_;have g2:S2.h.get S.nx=some (.cells [.int .i64 ps,n,i] false 0):=by rw[s2.2 _ au];exact c1
 have sS:=s1.trans s2;have hneg:Int.negSucc 999999= -1000000:=rfl;have hn2:=hn.same sS;have hw2:=hw.same sS;have hp2:=hp.same sS;refine dS (eu @aF @aE (iY g3) ?_);refine aO (aC (aJ ?_));simp only[↓stU,aB,rE,↓reduceIte];unfold iZ;have fin:∀F:Fr,oD fns (.seq (.reg [oq 4 (.mv (ci 0))]) .ret) ⟨F,false⟩ S2 (aNB [.t 4] fun r S'=>r= .int .i64 0/\Same S S'):=fun F=>by
  refine aY (aj ?_);refine aI (aj ?_);exact sS
 by_cases k1:x.kind=1
 ·rw[if_pos k1];refine aN (by simp only[↓stU,aB,rE,↓reduceIte,Ab k1]) ?_;refine aC (aC (aX (Q:=fun o A' X=>o= .normal/\A'.inr=false/\X=S2/\aD 3 A'.F= .ptr S1.nx 0/\aD 45 A'.F= .bool (decide (mZ x))) (aJ ?_) ?_))
  ·by_cases c0:x.player≠0
   ·rw[Ab (show mZ x from .inl c0)];simp only[↓stU,aB,rE,↓reduceIte,aF,aE,eI g3,dT g3,dV g3,dR g3,eS g3,eJ g2,dC g2,hn2.len,hw2.len,hp2.len,hi,Ah,Ab c0]
   by_cases c1:x.info≠0
   ·rw[Ab (show mZ x from .inr (.inl c1))];simp only[↓stU,aB,rE,↓reduceIte,aF,aE,eI g3,dT g3,dV g3,dR g3,eS g3,eJ g2,dC g2,hn2.len,hw2.len,hp2.len,hi,Ah,Aa c0,Ab c1]
   by_cases c2:(0:Int)<(x.pay.length:Int)
   ·rw[Ab (show mZ x from .inr (.inr (.inl c2)))];simp only[↓stU,aB,rE,↓reduceIte,aF,aE,eI g3,dT g3,dV g3,dR g3,eS g3,eJ g2,dC g2,hn2.len,hw2.len,hp2.len,hi,Ah,Aa c0,Aa c1,Ab c2]
   by_cases c3:(x.next.length:Int)<1
   ·rw[Ab (show mZ x from .inr (.inr (.inr (.inl c3))))];simp only[↓stU,aB,rE,↓reduceIte,aF,aE,eI g3,dT g3,dV g3,dR g3,eS g3,eJ g2,dC g2,hn2.len,hw2.len,hp2.len,hi,Ah,Aa c0,Aa c1,Aa c2,Ab c3]
   by_cases c4:(60:Int)<(x.next.length:Int)
   ·rw[Ab (show mZ x from .inr (.inr (.inr (.inr (.inl c4)))))];simp only[↓stU,aB,rE,↓reduceIte,aF,aE,eI g3,dT g3,dV g3,dR g3,eS g3,eJ g2,dC g2,hn2.len,hw2.len,hp2.len,hi,Ah,Aa c0,Aa c1,Aa c2,Aa c3,Ab c4]
   by_cases c5:(x.weights.length:Int)≠(x.next.length:Int)
   ·rw[Ab (show mZ x from .inr (.inr (.inr (.inr (.inr (c5))))))];simp only[↓stU,aB,rE,↓reduceIte,aF,aE,eI g3,dT g3,dV g3,dR g3,eS g3,eJ g2,dC g2,hn2.len,hw2.len,hp2.len,hi,Ah,Aa c0,Aa c1,Aa c2,Aa c3,Aa c4,Ab c5]
   rw[Aa (show ¬mZ x by rintro(h0 | h1 | h2 | h3 | h4 | h5)<;>first | exact c0 h0 | exact c1 h1 | exact c2 h2 | exact c3 h3 | exact c4 h4 | exact c5 h5)];simp only[↓stU,aB,rE,↓reduceIte,aF,aE,eI g3,dT g3,dV g3,dR g3,eS g3,eJ g2,dC g2,hn2.len,hw2.len,hp2.len,hi,Ah,Aa c0,Aa c1,Aa c2,Aa c3,Aa c4,Aa c5]
  rintro o ⟨F,inr⟩ X ⟨rfl,q0,hX,p3,pb⟩;simp only at q0 p3 pb;subst q0;rw[hX];try refine aj ?_
  by_cases bad:mZ x
  ·rw[if_pos bad];refine aN (by simp only[↓stU,aB,rE,↓reduceIte,pb,Ab bad]) ?_;refine aY (aj ?_);refine aI (aj ?_);exact sS
  rw[if_neg bad];have hlen:x.weights.length<=60:=by unfold mZ at bad;omega
  refine aM (by simp only[↓stU,aB,rE,↓reduceIte,pb,Aa bad]) (aH ?_);try refine aj ?_
  refine aY (aj ?_);refine aO (bJ (aQg S2 S1.nx 5 1 1000 x.weights) ?_ x.weights.length _ _ ⟨rfl,rfl,0,au,(by rintro⟨w,h,_⟩;simp at h),by refine⟨?_,?_⟩<;>simp only[↓stU,aB,rE,↓reduceIte,p3]⟩);clear p3 pb;rintro k ⟨F,inr⟩ X ⟨q0,hX,j,hjk,ha,p3,pt⟩;simp only at q0 p3 pt;subst q0;rw[hX];refine dS (fa pt p3 @aF @aE (dR g3) hw2.len @Ah ?_);by_cases hj:j<x.weights.length
  ·refine aN (by simp only[↓stU,aB,rE,↓reduceIte,Ab (show(j:Int)<(x.weights.length:Int) by omega)]) (aH ?_);try refine aj ?_
   have hia:=hw2.cw hj;have hld:=hw2.ld hj;have htk:=wP (lo:=1) (hi:=1000) hj ha;have hget:=yY (lo:=1) (hi:=1000) hj;generalize x.weights.getD j 0=w at *;have w1:IntKind.i64.wrap ((j:Int)+1)=((j+1:Nat):Int):=by
    rw[wrap_i64 au au];omega
   refine aC (aO (aC (aX (Q:=fun o A' X=>o= .normal/\A'.inr=false/\X=S2/\aD 3 A'.F= .ptr S1.nx 0/\aD 5 A'.F= .int .i64 (j:Int)/\aD 66 A'.F= .bool (decide (w<1\/1000<w))) (aJ ?_) ?_)))
   ·by_cases h1:w<1
    ·rw[Ab (show w<1\/1000<w from .inl h1)];simp only[↓stU,aB,rE,↓reduceIte,pt,p3,aF,aE,dR g3,aQ,hia,hld,hneg,Ab h1]
    ·by_cases h2:1000<w
     ·rw[Ab (show w<1\/1000<w from .inr h2)];simp only[↓stU,aB,rE,↓reduceIte,pt,p3,aF,aE,dR g3,aQ,hia,hld,hneg,Aa h1,Ab h2]
     ·rw[Aa (show ¬ (w<1\/1000<w) by omega)];simp only[↓stU,aB,rE,↓reduceIte,pt,p3,aF,aE,dR g3,aQ,hia,hld,hneg,Aa h1,Aa h2]
   clear p3 pt;rintro o ⟨F,inr⟩ X ⟨rfl,q0,hX,p3,pt,pb⟩;simp only at q0 p3 pt pb;subst q0;rw[hX];try refine aj ?_
   by_cases ho:w<1\/1000<w
   ·rw[if_pos (hget ho)];refine aN (by simp only[↓stU,aB,rE,↓reduceIte,pb,Ab ho]) ?_;refine aY (aj ?_);refine aI (aj ?_);exact sS
   ·refine aM (by simp only[↓stU,aB,rE,↓reduceIte,pb,Aa ho]) (aH ?_);try refine aj ?_
    refine aJ (er pt w1 ?_);exact⟨k - 1,au,rfl,rfl,j+1,au,htk ho,by refine⟨?_,?_⟩<;>simp only[↓stU,aB,rE,↓reduceIte,p3]⟩
  ·refine aM (by simp only[↓stU,aB,rE,↓reduceIte,Aa (show ¬ (j:Int)<(x.weights.length:Int) by omega)]) (bD ?_);refine aj ?_;have hno:¬iW 1 1000 x.weights:=by rw[Am au] at ha;exact ha
   rw[if_neg hno];exact fin _
 rw[if_neg k1];refine aM (by simp only[↓stU,aB,rE,↓reduceIte,Aa k1]) ?_;refine aY (aj ?_);by_cases k2:x.kind=2
 ·rw[if_pos k2];refine aN (by simp only[↓stU,aB,rE,↓reduceIte,Ab k2]) ?_;refine aC (aC (aX (Q:=fun o A' X=>o= .normal/\A'.inr=false/\X=S2/\aD 2 A'.F= .ptr S.nx 0/\aD 3 A'.F= .ptr S1.nx 0/\aD 90 A'.F= .bool (decide (wB x))) (aJ ?_) ?_))
  ·by_cases c0:(0:Int)<(x.pay.length:Int)
   ·rw[Ab (show wB x from .inl c0)];simp only[↓stU,aB,rE,↓reduceIte,aF,aE,eI g3,dT g3,dV g3,dR g3,eS g3,eJ g2,dC g2,hn2.len,hw2.len,hp2.len,hi,Ah,Ab c0]
   by_cases c1:(0:Int)<(x.weights.length:Int)
   ·rw[Ab (show wB x from .inr (.inl c1))];simp only[↓stU,aB,rE,↓reduceIte,aF,aE,eI g3,dT g3,dV g3,dR g3,eS g3,eJ g2,dC g2,hn2.len,hw2.len,hp2.len,hi,Ah,Aa c0,Ab c1]
   by_cases c2:(x.next.length:Int)<1
   ·rw[Ab (show wB x from .inr (.inr (.inl c2)))];simp only[↓stU,aB,rE,↓reduceIte,aF,aE,eI g3,dT g3,dV g3,dR g3,eS g3,eJ g2,dC g2,hn2.len,hw2.len,hp2.len,hi,Ah,Aa c0,Aa c1,Ab c2]
   by_cases c3:(10:Int)<(x.next.length:Int)
   ·rw[Ab (show wB x from .inr (.inr (.inr (c3))))];simp only[↓stU,aB,rE,↓reduceIte,aF,aE,eI g3,dT g3,dV g3,dR g3,eS g3,eJ g2,dC g2,hn2.len,hw2.len,hp2.len,hi,Ah,Aa c0,Aa c1,Aa c2,Ab c3]
   rw[Aa (show ¬wB x by rintro(h0 | h1 | h2 | h3)<;>first | exact c0 h0 | exact c1 h1 | exact c2 h2 | exact c3 h3)];simp only[↓stU,aB,rE,↓reduceIte,aF,aE,eI g3,dT g3,dV g3,dR g3,eS g3,eJ g2,dC g2,hn2.len,hw2.len,hp2.len,hi,Ah,Aa c0,Aa c1,Aa c2,Aa c3]
  rintro o ⟨F,inr⟩ X ⟨rfl,q0,hX,p2,p3,pb⟩;simp only at q0 p2 p3 pb;subst q0;rw[hX];try refine aj ?_
  by_cases bad:wB x
  ·rw[if_pos ((aG4 x).1 bad)];refine aN (by simp only[↓stU,aB,rE,↓reduceIte,pb,Ab bad]) ?_;refine aY (aj ?_);refine aI (aj ?_);exact sS
  rw[if_neg (fun h=>bad ((aG4 x).2 h))];refine aM (by simp only[↓stU,aB,rE,↓reduceIte,pb,Aa bad]) (aH ?_);try refine aj ?_
  refine aC (aX (Q:=fun o A' X=>o= .normal/\A'.inr=false/\X=S2/\aD 113 A'.F= .bool (decide (aD1 ps ni x))) (aJ ?_) ?_)
  ·by_cases c0:x.player<0
   ·rw[Ab (show aD1 ps ni x from .inl c0)];simp only[↓stU,aB,rE,↓reduceIte,aF,aE,eI g3,dT g3,dV g3,dR g3,eS g3,eJ g2,dC g2,hn2.len,hw2.len,hp2.len,hi,Ah,p3,p2,Ab c0]
   by_cases c1:ps<=x.player
   ·rw[Ab (show aD1 ps ni x from .inr (.inl c1))];simp only[↓stU,aB,rE,↓reduceIte,aF,aE,eI g3,dT g3,dV g3,dR g3,eS g3,eJ g2,dC g2,hn2.len,hw2.len,hp2.len,hi,Ah,p3,p2,Aa c0,Ab c1]
   by_cases c2:x.info<0
   ·rw[Ab (show aD1 ps ni x from .inr (.inr (.inl c2)))];simp only[↓stU,aB,rE,↓reduceIte,aF,aE,eI g3,dT g3,dV g3,dR g3,eS g3,eJ g2,dC g2,hn2.len,hw2.len,hp2.len,hi,Ah,p3,p2,Aa c0,Aa c1,Ab c2]
   by_cases c3:((ni:Nat):Int)<=x.info
   ·rw[Ab (show aD1 ps ni x from .inr (.inr (.inr (c3))))];simp only[↓stU,aB,rE,↓reduceIte,aF,aE,eI g3,dT g3,dV g3,dR g3,eS g3,eJ g2,dC g2,hn2.len,hw2.len,hp2.len,hi,Ah,p3,p2,Aa c0,Aa c1,Aa c2,Ab c3]
   rw[Aa (show ¬aD1 ps ni x by rintro(h0 | h1 | h2 | h3)<;>first | exact c0 h0 | exact c1 h1 | exact c2 h2 | exact c3 h3)];simp only[↓stU,aB,rE,↓reduceIte,aF,aE,eI g3,dT g3,dV g3,dR g3,eS g3,eJ g2,dC g2,hn2.len,hw2.len,hp2.len,hi,Ah,p3,p2,Aa c0,Aa c1,Aa c2,Aa c3]
  rintro o ⟨F,inr⟩ X ⟨rfl,q0,hX,pb⟩;simp only at q0 pb;subst q0;rw[hX];try refine aj ?_
  by_cases bad:aD1 ps ni x
  ·rw[if_pos ((aGN ps ni x).1 bad)];refine aN (by simp only[↓stU,aB,rE,↓reduceIte,pb,Ab bad]) ?_;refine aY (aj ?_);refine aI (aj ?_);exact sS
  rw[if_neg (fun h=>bad ((aGN ps ni x).2 h))];refine aM (by simp only[↓stU,aB,rE,↓reduceIte,pb,Aa bad]) (aH ?_);refine aj ?_;exact fin _
 rw[if_neg k2];refine aM (by simp only[↓stU,aB,rE,↓reduceIte,Aa k2]) ?_;refine aY (aj ?_);by_cases k3:x.kind=3
 ·rw[if_pos k3];refine aN (by simp only[↓stU,aB,rE,↓reduceIte,Ab k3]) ?_;refine aC (aC (aX (Q:=fun o A' X=>o= .normal/\A'.inr=false/\X=S2/\aD 3 A'.F= .ptr S1.nx 0/\aD 143 A'.F= .bool (decide (oI ps x))) (aJ ?_) ?_))
  ·by_cases c0:x.player≠0
   ·rw[Ab (show oI ps x from .inl c0)];simp only[↓stU,aB,rE,↓reduceIte,aF,aE,eI g3,dT g3,dV g3,dR g3,eS g3,eJ g2,dC g2,hn2.len,hw2.len,hp2.len,hi,Ah,Ab c0]
   by_cases c1:x.info≠0
   ·rw[Ab (show oI ps x from .inr (.inl c1))];simp only[↓stU,aB,rE,↓reduceIte,aF,aE,eI g3,dT g3,dV g3,dR g3,eS g3,eJ g2,dC g2,hn2.len,hw2.len,hp2.len,hi,Ah,Aa c0,Ab c1]
   by_cases c2:(0:Int)<(x.next.length:Int)
   ·rw[Ab (show oI ps x from .inr (.inr (.inl c2)))];simp only[↓stU,aB,rE,↓reduceIte,aF,aE,eI g3,dT g3,dV g3,dR g3,eS g3,eJ g2,dC g2,hn2.len,hw2.len,hp2.len,hi,Ah,Aa c0,Aa c1,Ab c2]
   by_cases c3:(0:Int)<(x.weights.length:Int)
   ·rw[Ab (show oI ps x from .inr (.inr (.inr (.inl c3))))];simp only[↓stU,aB,rE,↓reduceIte,aF,aE,eI g3,dT g3,dV g3,dR g3,eS g3,eJ g2,dC g2,hn2.len,hw2.len,hp2.len,hi,Ah,Aa c0,Aa c1,Aa c2,Ab c3]
   by_cases c4:(x.pay.length:Int)≠ps
   ·rw[Ab (show oI ps x from .inr (.inr (.inr (.inr (c4)))))];simp only[↓stU,aB,rE,↓reduceIte,aF,aE,eI g3,dT g3,dV g3,dR g3,eS g3,eJ g2,dC g2,hn2.len,hw2.len,hp2.len,hi,Ah,Aa c0,Aa c1,Aa c2,Aa c3,Ab c4]
   rw[Aa (show ¬oI ps x by rintro(h0 | h1 | h2 | h3 | h4)<;>first | exact c0 h0 | exact c1 h1 | exact c2 h2 | exact c3 h3 | exact c4 h4)];simp only[↓stU,aB,rE,↓reduceIte,aF,aE,eI g3,dT g3,dV g3,dR g3,eS g3,eJ g2,dC g2,hn2.len,hw2.len,hp2.len,hi,Ah,Aa c0,Aa c1,Aa c2,Aa c3,Aa c4]
  rintro o ⟨F,inr⟩ X ⟨rfl,q0,hX,p3,pb⟩;simp only at q0 p3 pb;subst q0;rw[hX];try refine aj ?_
  by_cases bad:oI ps x
  ·rw[if_pos bad];refine aN (by simp only[↓stU,aB,rE,↓reduceIte,pb,Ab bad]) ?_;refine aY (aj ?_);refine aI (aj ?_);exact sS
  rw[if_neg bad];have hlen:x.pay.length<=60:=by unfold oI at bad;omega
  refine aM (by simp only[↓stU,aB,rE,↓reduceIte,pb,Aa bad]) (aH ?_);try refine aj ?_
  refine aY (aj ?_);refine aO (bJ (aQg S2 S1.nx 6 (-1000000) 1000000 x.pay) ?_ x.pay.length _ _ ⟨rfl,rfl,0,au,(by rintro⟨w,h,_⟩;simp at h),by refine⟨?_,?_⟩<;>simp only[↓stU,aB,rE,↓reduceIte,p3]⟩);clear p3 pb;rintro k ⟨F,inr⟩ X ⟨q0,hX,j,hjk,ha,p3,pt⟩;simp only at q0 p3 pt;subst q0;rw[hX];refine dS (fa pt p3 @aF @aE (eS g3) hp2.len @Ah ?_);by_cases hj:j<x.pay.length
  ·refine aN (by simp only[↓stU,aB,rE,↓reduceIte,Ab (show(j:Int)<(x.pay.length:Int) by omega)]) (aH ?_);try refine aj ?_
   have hia:=hp2.cw hj;have hld:=hp2.ld hj;have htk:=wP (lo:=(-1000000)) (hi:=1000000) hj ha;have hget:=yY (lo:=(-1000000)) (hi:=1000000) hj;generalize x.pay.getD j 0=w at *;have w1:IntKind.i64.wrap ((j:Int)+1)=((j+1:Nat):Int):=by
    rw[wrap_i64 au au];omega
   refine aC (aO (aC (aX (Q:=fun o A' X=>o= .normal/\A'.inr=false/\X=S2/\aD 3 A'.F= .ptr S1.nx 0/\aD 6 A'.F= .int .i64 (j:Int)/\aD 164 A'.F= .bool (decide (w<(-1000000)\/1000000<w))) (aJ ?_) ?_)))
   ·by_cases h1:w<(-1000000)
    ·rw[Ab (show w<(-1000000)\/1000000<w from .inl h1)];simp only[↓stU,aB,rE,↓reduceIte,pt,p3,aF,aE,eS g3,aQ,hia,hld,hneg,Ab h1]
    ·by_cases h2:1000000<w
     ·rw[Ab (show w<(-1000000)\/1000000<w from .inr h2)];simp only[↓stU,aB,rE,↓reduceIte,pt,p3,aF,aE,eS g3,aQ,hia,hld,hneg,Aa h1,Ab h2]
     ·rw[Aa (show ¬ (w<(-1000000)\/1000000<w) by omega)];simp only[↓stU,aB,rE,↓reduceIte,pt,p3,aF,aE,eS g3,aQ,hia,hld,hneg,Aa h1,Aa h2]
   clear p3 pt;rintro o ⟨F,inr⟩ X ⟨rfl,q0,hX,p3,pt,pb⟩;simp only at q0 p3 pt pb;subst q0;rw[hX];try refine aj ?_
   by_cases ho:w<(-1000000)\/1000000<w
   ·rw[if_pos (hget ho)];refine aN (by simp only[↓stU,aB,rE,↓reduceIte,pb,Ab ho]) ?_;refine aY (aj ?_);refine aI (aj ?_);exact sS
   ·refine aM (by simp only[↓stU,aB,rE,↓reduceIte,pb,Aa ho]) (aH ?_);try refine aj ?_
    refine aJ (er pt w1 ?_);exact⟨k - 1,au,rfl,rfl,j+1,au,htk ho,by refine⟨?_,?_⟩<;>simp only[↓stU,aB,rE,↓reduceIte,p3]⟩
  ·refine aM (by simp only[↓stU,aB,rE,↓reduceIte,Aa (show ¬ (j:Int)<(x.pay.length:Int) by omega)]) (bD ?_);refine aj ?_;have hno:¬iW (-1000000) 1000000 x.pay:=by rw[Am au] at ha;exact ha
   rw[if_neg hno];exact fin _
 rw[if_neg k3];refine aM (by simp only[↓stU,aB,rE,↓reduceIte,Aa k3]) ?_;refine aY (aj ?_);refine aI (aj ?_);exact sS
theorem dE.self{k:IntKind}{S:St}{v:AV}{l:bm}(h:dE k S v l):cC v v=true:=by
 rcases h with⟨_,h | h⟩ | ⟨b,off,cap,o,cs,rfl,_⟩
 ·subst h;rfl
 ·subst h;rfl
 ·exact tS ..
theorem aW.self{k:Nat}{α:Type}{E:St->bo->α->Prop}{S:St}{v:AV}{l:List α}(h:aW k E S v l):cC v v=true:=by
 rcases h with⟨_,h | h⟩ | ⟨b,off,cap,o,cs,rfl,_⟩
 ·subst h;rfl
 ·subst h;rfl
 ·exact tS ..
theorem aMt{k:IntKind}{S:St}{b:Nat}{z:Int}(hb:b<S.nx)(h:S.h.get b=some (.cells [.int k z] false 0)):dE k S (.sl b 0 1 1 false) [z]:=by
 refine .inr ⟨b,0,1,false,[.int k z],rfl,Af _,hb,by unfold bU;rw[h];rfl,fun i x hi=>?_⟩;cases i with
 | zero=>simp at hi;subst hi;rfl
 | succ i=>simp at hi
theorem aDU{lo hi z:Int}:iW lo hi [z]↔z<lo\/hi<z:=by
 unfold iW;simp
theorem aBg{x0 x1 x2 x3 x4 x5:AV}(h0:cC x0 x0=true)(h1:cC x1 x1=true)(h2:cC x2 x2=true)(h3:cC x3 x3=true)(h4:cC x4 x4=true)(h5:cC x5 x5=true):cC (.agg [x0,x1,x2,x3,x4,x5]) (.agg [x0,x1,x2,x3,x4,x5])=true:=by
 simp only[cC,mX,h0,h1,h2,h3,h4,h5,aP]
theorem aKQ{S:St}{b3 b4:Nat}{lo hi w:Int}(H:Has fns)(g3:S.h.get b3=some (.cells [.int .i64 lo] false 0))(g4:S.h.get b4=some (.cells [.int .i64 hi] false 0)):eR fns (.fn 149 [] [.ptr b3 0,.ptr b4 0]) [.int .i64 w] S fun r S'=>r= .bool (decide (w<lo\/hi<w))/\S'=S:=by
 have l3:cT (.ptr b3 0) false 1 S.h=some (.int .i64 lo):=ldc (j:=0) g3 rfl;have l4:cT (.ptr b4 0) false 1 S.h=some (.int .i64 hi):=ldc (j:=0) g4 rfl;refine bE H.f149 (by simp) ?_;refine aj ?_;refine aY (aj ?_);refine aY ?_;by_cases h1:w<lo
 ·rw[Ab (show w<lo\/hi<w from .inl h1)];refine er l3 (Ab h1) ?_;refine aI ?_;simp only[↓stU,aB,rE,↓reduceIte]
 ·by_cases h2:hi<w
  ·rw[Ab (show w<lo\/hi<w from .inr h2)];refine ew l3 l4 (Aa h1) (Ab h2) ?_;refine aI ?_;simp only[↓stU,aB,rE,↓reduceIte]
  ·rw[Aa (show ¬ (w<lo\/hi<w) by omega)];refine ew l3 l4 (Aa h1) (Aa h2) ?_;refine aI ?_;simp only[↓stU,aB,rE,↓reduceIte]
def aRi(S:St)(v f:AV)(lo hi:Int)(l:bm)(k:Nat)(A:bK)(X:St):Prop:=A.inr=false/\X=S/\∃i,i+k=l.length/\¬iW lo hi (l.take i)/\aD 0 A.F=v/\aD 1 A.F=f/\aD 7 A.F= .int .i64 (l.length:Int)/\aD 8 A.F= .int .i64 (i:Int)
theorem aIJ{S:St}{b3 b4:Nat}{lo hi:Int}{v:AV}{l:bm}(H:Has fns)(g3:S.h.get b3=some (.cells [.int .i64 lo] false 0))(g4:S.h.get b4=some (.cells [.int .i64 hi] false 0))(hl:dE .i64 S v l)(hlen:l.length<=1000000):eR fns (.fn 154 [] []) [v,.fn 149 [] [.ptr b3 0,.ptr b4 0]] S fun r S'=>(∃z,r= .int .i64 z/\(0<=z↔iW lo hi l))/\S'=S:=by
 refine bE H.f154 (by simp) ?_;refine aj ?_;refine aY (aj ?_);refine dS (er hl.len @Ah ?_);refine aO (bJ (aRi S v (.fn 149 [] [.ptr b3 0,.ptr b4 0]) lo hi l) ?_ l.length _ _ ⟨rfl,rfl,0,au,(by rintro⟨w,h,_⟩;simp at h),by refine⟨?_,?_,?_,?_⟩<;>simp only[↓stU,aB,rE,↓reduceIte]⟩);rintro k ⟨F,inr⟩ X ⟨q0,hX,j,hjk,ha,p0,p1,p7,p8⟩;simp only at q0 p0 p1 p7 p8;subst q0;rw[hX];refine aY (er p7 p8 ?_);by_cases hj:j<l.length
 ·refine aC (aN (by simp only[↓stU,aB,rE,↓reduceIte,Ab (show(j:Int)<(l.length:Int) by omega)]) (aH ?_));refine aj ?_;have hia:=hl.cw hj;have hld:=hl.ld hj;have htk:=wP (lo:=lo) (hi:=hi) hj ha;have hget:=yY (lo:=lo) (hi:=hi) hj;generalize l.getD j 0=w at *;have w1:=dq j
  refine aC (aO (aC (aJ ?_)));refine eo p8 ?_;refine aY (e7 p0 p1 @aQ hia hld ?_);refine aK (aj ?_);refine aG (aKQ H g3 g4) ?_;rintro _ Y ⟨rfl,hY⟩;rw[hY];try refine aj ?_
  by_cases ho:w<lo\/hi<w
  ·refine aN (by simp only[↓stU,aB,rE,↓reduceIte,Ab ho]) ?_;refine aY (aj ?_);refine aI (aj ?_);exact⟨_,rfl,⟨fun _=>hget ho,fun _=>au⟩⟩
  ·refine aM (by simp only[↓stU,aB,rE,↓reduceIte,Aa ho]) (aH ?_);try refine aj ?_
   refine aJ (er p8 w1 ?_);exact⟨k - 1,au,rfl,rfl,j+1,au,htk ho,by refine⟨?_,?_,?_,?_⟩<;>simp only[↓stU,aB,rE,↓reduceIte,p0,p1,p7]⟩
 ·refine aC (aM (by simp only[↓stU,aB,rE,↓reduceIte,Aa (show ¬ (j:Int)<(l.length:Int) by omega)]) (bD ?_));refine aj ?_;have hno:¬iW lo hi l:=by rw[Am au] at ha;exact ha
  refine aY (aj ?_);refine aI (aj ?_);exact⟨_,rfl,⟨fun h=>absurd h ay,fun h=>absurd h hno⟩⟩
theorem aIT{S:St}{b3 b4:Nat}{lo hi:Int}{v:AV}{l:bm}(H:Has fns)(g3:S.h.get b3=some (.cells [.int .i64 lo] false 0))(g4:S.h.get b4=some (.cells [.int .i64 hi] false 0))(hl:dE .i64 S v l)(hlen:l.length<=1000000):eR fns (.fn 148 [] []) [v,.fn 149 [] [.ptr b3 0,.ptr b4 0]] S fun r S'=>r= .bool (decide (iW lo hi l))/\S'=S:=by
 refine bE H.f148 (by simp) ?_;refine aj ?_;refine aY (aj ?_);refine aY (aj ?_);refine aK (aj ?_);refine aG (aIJ H g3 g4 hl hlen) ?_;rintro _ Y ⟨⟨z,rfl,hz⟩,hY⟩;rw[hY];have hd:decide ((0:Int)<=z)=decide (iW lo hi l):=by rw[Cu,Er,Er];exact hz
 refine eo hd ?_;refine aI ?_;simp only[↓stU,aB,rE,↓reduceIte]
theorem rM{S:St}{lo hi:Int}{v:AV}{l:bm}(H:Has fns)(hl:dE .i64 S v l)(hlen:l.length<=1000000):eR fns (.fn 130 [] []) [.int .i64 lo,.int .i64 hi,v] S fun r S'=>r= .int .i64 (if iW lo hi l then 2 else 0)/\Same S S':=by
 refine bE H.f130 (by simp) ?_;refine aj ?_;refine aY ?_;refine bW (by refine aj ?_;exact cH _ _) ?_;intro S1 s1 n1 c1;refine bW (by refine aj ?_;exact cH _ _) ?_;intro S2 s2 n2 c2;refine aj ?_;have sS:=s1.trans s2;refine dS (eo @wT ?_);refine aK (aj ?_);refine aG (aIT H (by rw[s2.2 _ au];exact c1) c2 (hl.same sS) hlen) ?_;rintro _ Y ⟨rfl,hY⟩;rw[hY];try refine aj ?_
 by_cases ho:iW lo hi l
 ·rw[if_pos ho];refine aN (by simp only[↓stU,aB,rE,↓reduceIte,Ab ho]) ?_;refine aY (aj ?_);refine aI (aj ?_);exact sS
 ·rw[if_neg ho];refine aM (by simp only[↓stU,aB,rE,↓reduceIte,Aa ho]) (aH ?_);try refine aj ?_
  refine aY (aj ?_);refine aI (aj ?_);exact sS
def aA1(S:St)(wb:Nat)(ps:Int)(n i p d l:AV):Prop:=S.h.get wb=some (.cells [.int .i64 ps,n,i,p,d,l] false 0)/\wb<S.nx
theorem aA1.same{S S':St}{wb:Nat}{ps:Int}{n i p d l:AV}(h:aA1 S wb ps n i p d l)(hs:Same S S'):aA1 S' wb ps n i p d l:=⟨(hs.2 _ h.2).trans h.1,Ag h.2 hs.1⟩
section
variable {S:St}{wb:Nat}{ps:Int}{n i p d l:AV}{ni:Nat}{cs:bo}{x:fO}
theorem aHa(H:Has fns)(hx:cI S cs x):eR fns (.fn 110 [] []) [.ptr wb 0,.agg cs] S fun r S'=>r= .int .i64 (if mZ x then 3 else if iW 1 1000 x.weights then 2 else 0)/\Same S S':=by
 obtain⟨a,b,c,rfl,hn,hw,hp⟩:=hx;refine bE H.f110 (by simp) ?_;refine aj ?_;refine aY ?_;refine bW (by refine aj ?_;exact aR _) ?_;intro S2 s2 n2 g3;refine aj ?_;have hn2:=hn.same s2;have hw2:=hw.same s2;have hp2:=hp.same s2;refine aC (aC (aX (Q:=fun o A' X=>o= .normal/\A'.inr=false/\X=S2/\aD 3 A'.F= .ptr S.nx 0/\aD 39 A'.F= .bool (decide (mZ x))) (aJ ?_) ?_))
 ·by_cases c0:x.player≠0
  ·rw[Ab (show mZ x from .inl c0)];simp only[↓stU,aB,rE,↓reduceIte,aF,aE,eI g3,dT g3,dV g3,dR g3,eS g3,hn2.len,hw2.len,hp2.len,Ah,Ab c0]
  by_cases c1:x.info≠0
  ·rw[Ab (show mZ x from .inr (.inl c1))];simp only[↓stU,aB,rE,↓reduceIte,aF,aE,eI g3,dT g3,dV g3,dR g3,eS g3,hn2.len,hw2.len,hp2.len,Ah,Aa c0,Ab c1]
  by_cases c2:(0:Int)<(x.pay.length:Int)
  ·rw[Ab (show mZ x from .inr (.inr (.inl c2)))];simp only[↓stU,aB,rE,↓reduceIte,aF,aE,eI g3,dT g3,dV g3,dR g3,eS g3,hn2.len,hw2.len,hp2.len,Ah,Aa c0,Aa c1,Ab c2]
  by_cases c3:(x.next.length:Int)<1
  ·rw[Ab (show mZ x from .inr (.inr (.inr (.inl c3))))];simp only[↓stU,aB,rE,↓reduceIte,aF,aE,eI g3,dT g3,dV g3,dR g3,eS g3,hn2.len,hw2.len,hp2.len,Ah,Aa c0,Aa c1,Aa c2,Ab c3]
  by_cases c4:(60:Int)<(x.next.length:Int)
  ·rw[Ab (show mZ x from .inr (.inr (.inr (.inr (.inl c4)))))];simp only[↓stU,aB,rE,↓reduceIte,aF,aE,eI g3,dT g3,dV g3,dR g3,eS g3,hn2.len,hw2.len,hp2.len,Ah,Aa c0,Aa c1,Aa c2,Aa c3,Ab c4]
  by_cases c5:(x.weights.length:Int)≠(x.next.length:Int)
  ·rw[Ab (show mZ x from .inr (.inr (.inr (.inr (.inr (c5))))))];simp only[↓stU,aB,rE,↓reduceIte,aF,aE,eI g3,dT g3,dV g3,dR g3,eS g3,hn2.len,hw2.len,hp2.len,Ah,Aa c0,Aa c1,Aa c2,Aa c3,Aa c4,Ab c5]
  rw[Aa (show ¬mZ x by rintro(h0 | h1 | h2 | h3 | h4 | h5)<;>first | exact c0 h0 | exact c1 h1 | exact c2 h2 | exact c3 h3 | exact c4 h4 | exact c5 h5)];simp only[↓stU,aB,rE,↓reduceIte,aF,aE,eI g3,dT g3,dV g3,dR g3,eS g3,hn2.len,hw2.len,hp2.len,Ah,Aa c0,Aa c1,Aa c2,Aa c3,Aa c4,Aa c5]
 rintro o ⟨F,inr⟩ X ⟨rfl,q0,hX,p3,pb⟩;simp only at q0 p3 pb;subst q0;rw[hX];have sX:=s2;try refine aj ?_
 by_cases bad:mZ x
 ·rw[if_pos bad];refine aN (by simp only[↓stU,aB,rE,↓reduceIte,pb,Ab bad]) ?_;refine aY (aj ?_);refine aI (aj ?_);exact sX
 rw[if_neg bad];refine aM (by simp only[↓stU,aB,rE,↓reduceIte,pb,Aa bad]) (aH ?_);try refine aj ?_
 have hlen:x.weights.length<=60:=by unfold mZ at bad;omega
 refine aY (ew p3 @aF @aE (dR g3) ?_);refine aK (aj ?_);refine aG (rM H hw2 au) ?_;rintro _ Y ⟨rfl,hY⟩;try refine aj ?_
 refine aI (aj ?_);exact s2.trans hY
theorem aKI(H:Has fns)(hx:cI S cs x)(hW:aA1 S wb ps n i p d l)(hps:1<=ps/\ps<=4)(hi:kT i=some (.int .i64 ((ni:Nat):Int)))(hni:ni<=1000)(hsi:cC i i=true):eR fns (.fn 111 [] []) [.ptr wb 0,.agg cs] S fun r S'=>r= .int .i64 (if xY x then 3 else if x.player<0\/ps - 1<x.player\/x.info<0\/(ni:Int) - 1<x.info then 2 else 0)/\Same S S':=by
 obtain⟨a,b,c,rfl,hn,hw,hp⟩:=hx;refine bE H.f111 (by simp) ?_;refine aj ?_;refine aY ?_;refine bW (by refine aj ?_;exact aR _) ?_;intro S2 s2 n2 g3;refine aj ?_;have hn2:=hn.same s2;have hw2:=hw.same s2;have hp2:=hp.same s2;have hW2:=hW.same s2;refine aC (aC (aX (Q:=fun o A' X=>o= .normal/\A'.inr=false/\X=S2/\aD 0 A'.F= .ptr wb 0/\aD 3 A'.F= .ptr S.nx 0/\aD 27 A'.F= .bool (decide (xY x))) (aJ ?_) ?_))
 ·by_cases c0:(0:Int)<(x.weights.length:Int)
  ·rw[Ab (show xY x from .inl c0)];simp only[↓stU,aB,rE,↓reduceIte,aF,aE,eI g3,dT g3,dV g3,dR g3,eS g3,hn2.len,hw2.len,hp2.len,Ah,Ab c0]
  by_cases c1:(0:Int)<(x.pay.length:Int)
  ·rw[Ab (show xY x from .inr (.inl c1))];simp only[↓stU,aB,rE,↓reduceIte,aF,aE,eI g3,dT g3,dV g3,dR g3,eS g3,hn2.len,hw2.len,hp2.len,Ah,Aa c0,Ab c1]
  by_cases c2:(x.next.length:Int)<1
  ·rw[Ab (show xY x from .inr (.inr (.inl c2)))];simp only[↓stU,aB,rE,↓reduceIte,aF,aE,eI g3,dT g3,dV g3,dR g3,eS g3,hn2.len,hw2.len,hp2.len,Ah,Aa c0,Aa c1,Ab c2]
  by_cases c3:(10:Int)<(x.next.length:Int)
  ·rw[Ab (show xY x from .inr (.inr (.inr (c3))))];simp only[↓stU,aB,rE,↓reduceIte,aF,aE,eI g3,dT g3,dV g3,dR g3,eS g3,hn2.len,hw2.len,hp2.len,Ah,Aa c0,Aa c1,Aa c2,Ab c3]
  rw[Aa (show ¬xY x by rintro(h0 | h1 | h2 | h3)<;>first | exact c0 h0 | exact c1 h1 | exact c2 h2 | exact c3 h3)];simp only[↓stU,aB,rE,↓reduceIte,aF,aE,eI g3,dT g3,dV g3,dR g3,eS g3,hn2.len,hw2.len,hp2.len,Ah,Aa c0,Aa c1,Aa c2,Aa c3]
 rintro o ⟨F,inr⟩ X ⟨rfl,q0,hX,p0,p3,pb⟩;simp only at q0 p0 p3 pb;subst q0;rw[hX];have sX:=s2;try refine aj ?_
 by_cases bad:xY x
 ·rw[if_pos bad];refine aN (by simp only[↓stU,aB,rE,↓reduceIte,pb,Ab bad]) ?_;refine aY (aj ?_);refine aI (aj ?_);exact sX
 rw[if_neg bad];refine aM (by simp only[↓stU,aB,rE,↓reduceIte,pb,Aa bad]) (aH ?_);try refine aj ?_
 have w1:IntKind.i64.wrap (ps - 1)=ps - 1:=wrap_i64 au au;have w2:IntKind.i64.wrap ((ni:Int) - 1)=(ni:Int) - 1:=wrap_i64 au au;have lt3:S.nx<S2.nx:=by omega
 refine aC (aC (wO (fun _=>False) ?_));intro S3 s3 h3 n3;simp only[Ax,Cd,rA] at n3;simp only[↓sU,sD,rE,↓reduceIte,rA,p0,p3,cE,dL,cF,aF,aV,aE,iY hW2.1,eI g3,w1,hW2.2,lt3,Ak];rw[jW (k:=.i64) (n:=x.player) (af)];refine ae ?_;refine yU ay rfl ?_;intro S4 s4 n4 c4;refine ae ?_;have s34:Same S2 S4:=s4.same s3 au;refine aG (rM H (aMt au c4) (by simp)) ?_;rintro _ Y ⟨rfl,hY⟩;refine⟨hY,?_⟩;refine dh @aDU ?_;have sY:=s2.trans (s34.trans hY);refine aY (ae ?_);by_cases h1:x.player<0\/ps - 1<x.player
 ·rw[if_pos (show x.player<0\/ps - 1<x.player\/x.info<0\/(ni:Int) - 1<x.info by omega)];refine aN (by simp only[↓sU,sD,rE,↓reduceIte,rA,if_pos h1];rfl) ?_;refine aY ?_;simp only[↓sU,sD,rE,↓reduceIte,rA,if_pos h1];refine aI (ae ?_);exact sY
 refine aM (by simp only[↓sU,sD,rE,↓reduceIte,rA,if_neg h1];rfl) (aH ?_);try refine ae ?_
 have hWY:=hW.same sY;have g3Y:Y.h.get S.nx=some (.cells [.int .i64 x.kind,.int .i64 x.player,.int .i64 x.info,a,b,c] false 0):=by rw[(s34.trans hY).2 _ lt3];exact g3
 have lt3Y:S.nx<Y.nx:=Ag lt3 (s34.trans hY).1;refine aC (wO (fun _=>False) ?_);intro S5 s5 h5 n5;simp only[Ax,Cd,rA] at n5;simp only[↓sU,sD,rE,↓reduceIte,rA,p0,p3,cE,dL,cF,aF,aV,aE,dT hWY.1,hi,hsi,dT g3Y,w2,hWY.2,lt3Y,Ak];rw[jW (k:=.i64) (n:=x.info) (af)];refine ae ?_;refine yU ay rfl ?_;intro S6 s6 n6 c6;refine ae ?_;have s56:Same Y S6:=s6.same s5 au;refine aG (rM H (aMt au c6) (by simp)) ?_;rintro _ Z ⟨rfl,hZ⟩;refine⟨hZ,?_⟩;refine dh @aDU ?_;refine aI (ae ?_);refine⟨?_,sY.trans (s56.trans hZ)⟩;by_cases h2:x.info<0\/(ni:Int) - 1<x.info
 ·rw[if_pos h2,if_pos au]
 ·rw[if_neg h2,if_neg au]
theorem aM6(H:Has fns)(hx:cI S cs x)(hW:aA1 S wb ps n i p d l)(hps:1<=ps/\ps<=4):eR fns (.fn 112 [] []) [.ptr wb 0,.agg cs] S fun r S'=>r= .int .i64 (if oI ps x then 3 else if iW (-1000000) 1000000 x.pay then 2 else 0)/\Same S S':=by
 obtain⟨a,b,c,rfl,hn,hw,hp⟩:=hx;refine bE H.f112 (by simp) ?_;refine aj ?_;refine aY ?_;refine bW (by refine aj ?_;exact aR _) ?_;intro S2 s2 n2 g3;refine aj ?_;have hn2:=hn.same s2;have hw2:=hw.same s2;have hp2:=hp.same s2;have hW2:=hW.same s2;have sn:=dE.self hn2;have sw:=dE.self hw2;have sp:=dE.self hp2;refine aC (aC (aX (Q:=fun o A' X=>o= .normal/\A'.inr=false/\Same S2 X/\aD 3 A'.F= .ptr S.nx 0/\aD 35 A'.F= .bool (decide (oI ps x))) (jA ?_) ?_))
 ·have sX:=Same.nx S2 31;by_cases c0:x.player≠0
  ·rw[Ab (show oI ps x from .inl c0)];simp only[↓stU,aB,rE,↓reduceIte,aF,aE,eI g3,dT g3,dV g3,dR g3,eS g3,hn2.len,hw2.len,hp2.len,Ah,cE,dL,cF,aV,gG,iY hW2.1,sn,sw,sp,Ab c0];exact Same.nx S2 _
  by_cases c1:x.info≠0
  ·rw[Ab (show oI ps x from .inr (.inl c1))];simp only[↓stU,aB,rE,↓reduceIte,aF,aE,eI g3,dT g3,dV g3,dR g3,eS g3,hn2.len,hw2.len,hp2.len,Ah,cE,dL,cF,aV,gG,iY hW2.1,sn,sw,sp,Aa c0,Ab c1];exact Same.nx S2 _
  by_cases c2:(0:Int)<(x.next.length:Int)
  ·rw[Ab (show oI ps x from .inr (.inr (.inl c2)))];simp only[↓stU,aB,rE,↓reduceIte,aF,aE,eI g3,dT g3,dV g3,dR g3,eS g3,hn2.len,hw2.len,hp2.len,Ah,cE,dL,cF,aV,gG,iY hW2.1,sn,sw,sp,Aa c0,Aa c1,Ab c2];exact Same.nx S2 _
  by_cases c3:(0:Int)<(x.weights.length:Int)
  ·rw[Ab (show oI ps x from .inr (.inr (.inr (.inl c3))))];simp only[↓stU,aB,rE,↓reduceIte,aF,aE,eI g3,dT g3,dV g3,dR g3,eS g3,hn2.len,hw2.len,hp2.len,Ah,cE,dL,cF,aV,gG,iY hW2.1,sn,sw,sp,Aa c0,Aa c1,Aa c2,Ab c3];exact Same.nx S2 _
  by_cases c4:(x.pay.length:Int)≠ps
  ·rw[Ab (show oI ps x from .inr (.inr (.inr (.inr (c4)))))];simp only[↓stU,aB,rE,↓reduceIte,aF,aE,eI g3,dT g3,dV g3,dR g3,eS g3,hn2.len,hw2.len,hp2.len,Ah,cE,dL,cF,aV,gG,iY hW2.1,sn,sw,sp,Aa c0,Aa c1,Aa c2,Aa c3,Ab c4];exact Same.nx S2 _
  rw[Aa (show ¬oI ps x by rintro(h0 | h1 | h2 | h3 | h4)<;>first | exact c0 h0 | exact c1 h1 | exact c2 h2 | exact c3 h3 | exact c4 h4)];simp only[↓stU,aB,rE,↓reduceIte,aF,aE,eI g3,dT g3,dV g3,dR g3,eS g3,hn2.len,hw2.len,hp2.len,Ah,cE,dL,cF,aV,gG,iY hW2.1,sn,sw,sp,Aa c0,Aa c1,Aa c2,Aa c3,Aa c4];exact Same.nx S2 _
 rintro o ⟨F,inr⟩ X ⟨rfl,q0,hX,p3,pb⟩;simp only at q0 p3 pb;subst q0;have sX:=s2.trans hX;have g3X:X.h.get S.nx=some (.cells [.int .i64 x.kind,.int .i64 x.player,.int .i64 x.info,a,b,c] false 0):=by rw[hX.2 _ au];exact g3
 try refine aj ?_
 by_cases bad:oI ps x
 ·rw[if_pos bad];refine aN (by simp only[↓stU,aB,rE,↓reduceIte,pb,Ab bad]) ?_;refine aY (aj ?_);refine aI (aj ?_);exact sX
 rw[if_neg bad];refine aM (by simp only[↓stU,aB,rE,↓reduceIte,pb,Aa bad]) (aH ?_);try refine aj ?_
 have hlen:x.pay.length<=60:=by unfold oI at bad;omega
 have hneg:Int.negSucc 999999= -1000000:=rfl;refine aY (ew p3 @aF @aE (eS g3X) ?_);refine aK (eo hneg ?_);refine aG (rM H (hp2.same hX) au) ?_;rintro _ Y ⟨rfl,hY⟩;try refine aj ?_
 refine aI (aj ?_);exact sX.trans hY
end
section
variable {S:St}{wb:Nat}{ps:Int}{n i p d l:AV}{ni:Nat}{cs:bo}{x:fO}
theorem aKf(H:Has fns)(hx:cI S cs x)(hW:aA1 S wb ps n i p d l)(hps:1<=ps/\ps<=4)(hi:kT i=some (.int .i64 ((ni:Nat):Int)))(hni:ni<=1000)(hsi:cC i i=true):eR fns (.fn 91 [] []) [.ptr wb 0,.agg cs] S fun r S'=>r= .int .i64 (iZ ps ni x)/\Same S S':=by
 obtain⟨a,b,c,rfl,hn,hw,hp⟩:=id hx;refine bE H.f91 (by simp) ?_;refine aj ?_;refine aY ?_;refine bW (by refine aj ?_;exact aR _) ?_;intro S1 s1 n1 g3;refine aj ?_;have hbd:∀ (F:Fr) (h:T AB),jK (.build [.nilfn,.nilfn,.nilfn,.nilfn] [(1,1,.c (.fn 110 [] [])),(2,1,.c (.fn 111 [] [])),(3,1,.c (.fn 112 [] []))]) F h=some (.agg [.nilfn,.fn 110 [] [],.fn 111 [] [],.fn 112 [] []]):=fun _ _=>rfl;refine aY (eo hbd ?_);refine bY ?_;intro S2 s2 n2 c2;refine cR (b:=S1.nx) (ak) (by refine aj ?_;exact aR _) c2 rfl rfl ?_;intro S3 s3 n3 c3;refine aj ?_;have s13:Same S1 S3:=s3.same s2 (Af _);have sS:=s1.trans s13;have g3:S3.h.get S.nx=some (.cells [.int .i64 x.kind,.int .i64 x.player,.int .i64 x.info,a,b,c] false 0):=by rw[s13.2 _ au];exact g3
 have lt3:S.nx<S3.nx:=by omega
 have lt5:S1.nx<S3.nx:=by omega
 have hx3:cI S3 [.int .i64 x.kind,.int .i64 x.player,.int .i64 x.info,a,b,c] x:=bT hx sS;have hW3:=hW.same sS;have sl:=aBg (fS .i64 x.kind) (fS .i64 x.player) (fS .i64 x.info) (dE.self hn) (dE.self hw) (dE.self hp);unfold iZ;refine aC (aC (aX (Q:=fun o A' X=>o= .normal/\A'.inr=false/\X=S3/\aD 0 A'.F= .ptr wb 0/\aD 3 A'.F= .ptr S.nx 0/\aD 5 A'.F= .ptr S1.nx 0/\aD 14 A'.F= .bool (decide (x.kind<1\/3<x.kind))) (aJ ?_) ?_))
 ·by_cases h1:x.kind<1
  ·rw[Ab (show x.kind<1\/3<x.kind from .inl h1)];simp only[↓stU,aB,rE,↓reduceIte,aF,aE,iY g3,Ab h1]
  ·by_cases h2:3<x.kind
   ·rw[Ab (show x.kind<1\/3<x.kind from .inr h2)];simp only[↓stU,aB,rE,↓reduceIte,aF,aE,iY g3,Aa h1,Ab h2]
   ·rw[Aa (show ¬ (x.kind<1\/3<x.kind) by omega)];simp only[↓stU,aB,rE,↓reduceIte,aF,aE,iY g3,Aa h1,Aa h2]
 rintro o ⟨F,inr⟩ X ⟨rfl,q0,hX,p0,p3,p5,pb⟩;simp only at q0 p0 p3 p5 pb;subst q0;rw[hX];try refine aj ?_
 by_cases bad:x.kind<1\/3<x.kind
 ·rw[if_neg au,if_neg au,if_neg au];refine aN (by simp only[↓stU,aB,rE,↓reduceIte,pb,Ab bad]) ?_;refine aY (aj ?_);refine aI (aj ?_);exact sS
 refine aM (by simp only[↓stU,aB,rE,↓reduceIte,pb,Aa bad]) (aH ?_);try refine aj ?_
 have hld:∀j y,[AV.nilfn,.fn 110 [] [],.fn 111 [] [],.fn 112 [] []][j]? =some y->cT (.ptr S1.nx j) false 1 S3.h=some y:=fun j y hy=>by have:=ldc (j:=j) c3 hy;rw[Au] at this;exact this
 have n1':dY (.int .i64 1)=some 1:=rfl;have n2':dY (.int .i64 2)=some 2:=rfl;have n3':dY (.int .i64 3)=some 3:=rfl;have i1:dN (.arr 4 1) (.ptr S1.nx 0) 1=some (.ptr S1.nx 1):=rfl;have i2:dN (.arr 4 1) (.ptr S1.nx 0) 2=some (.ptr S1.nx 2):=rfl;have i3:dN (.arr 4 1) (.ptr S1.nx 0) 3=some (.ptr S1.nx 3):=rfl;have l1:=hld 1 _ rfl;have l2:=hld 2 _ rfl;have l3:=hld 3 _ rfl;have f1:cC (.fn 110 [] []) (.fn 110 [] [])=true:=rfl;have f2:cC (.fn 111 [] []) (.fn 111 [] [])=true:=rfl;have f3:cC (.fn 112 [] []) (.fn 112 [] [])=true:=rfl;have g3':=ldN g3;refine aC (eM (fun _=>False) ?_);intro S4 s4;by_cases k1:x.kind=1
 ·rw[if_pos k1];rw[k1] at g3 g3' sl hx3;simp only[↓sU,sD,rE,↓reduceIte,rA,p0,p3,p5,aF,aV,aE,iY g3,n1',i1,l1,f1,g3',sl,lt3,lt5,Ak];refine bH rfl ?_;refine ae ?_;refine aG (aHa H (by have:=bT hx (sS.trans s4);rw[k1] at this;exact this)) ?_;rintro _ Y ⟨rfl,hY⟩;refine⟨hY,?_⟩;try refine ae ?_
  refine aI (ae ?_);exact sS.trans (s4.trans hY)
 by_cases k2:x.kind=2
 ·rw[if_neg k1,if_pos k2];rw[k2] at g3 g3' sl;simp only[↓sU,sD,rE,↓reduceIte,rA,p0,p3,p5,aF,aV,aE,iY g3,n2',i2,l2,f2,g3',sl,lt3,lt5,Ak];refine bH rfl ?_;refine ae ?_;refine aG (aKI H (by have:=bT hx (sS.trans s4);rw[k2] at this;exact this) (hW3.same s4) hps hi hni hsi) ?_;rintro _ Y ⟨rfl,hY⟩;refine⟨hY,?_⟩;try refine ae ?_
  refine aI (ae ?_);exact sS.trans (s4.trans hY)
 have k3:x.kind=3:=by omega
 rw[if_neg k1,if_neg k2,if_pos k3];rw[k3] at g3 g3' sl;simp only[↓sU,sD,rE,↓reduceIte,rA,p0,p3,p5,aF,aV,aE,iY g3,n3',i3,l3,f3,g3',sl,lt3,lt5,Ak];refine bH rfl ?_;refine ae ?_;refine aG (aM6 H (by have:=bT hx (sS.trans s4);rw[k3] at this;exact this) (hW3.same s4) hps) ?_;rintro _ Y ⟨rfl,hY⟩;refine⟨hY,?_⟩;try refine ae ?_
 refine aI (ae ?_);exact sS.trans (s4.trans hY)
end
abbrev dG:=Int×Int×Int
def iN(rec:Nat->Option (List dG)):bm->Nat->Option (List dG)
 | [],_=>some []
 | c::l,r=>if c=(r:Int) then(rec r).bind fun L1=>(iN rec l (r+L1.length)).map (L1++ ·) else none
def gD(N:Nat)(nx:Nat->bm):Nat->Nat->Int->Int->Option (List dG)
 | 0,_,_,_=>none
 | f+1,at_,p,d=>if at_<N then(iN (fun r=>gD N nx f r at_ (d+1)) (nx at_) (at_+1)).map fun L=>(p,d,((at_+L.length:Nat):Int))::L else none
def xZ(m:Int)(L:List dG):Int:=L.foldl (fun m t=>mx m t.2.1) m
theorem aG7(m:Int)(L L':List dG):xZ m (L++L')=xZ (xZ m L) L':=List.foldl_append ..
theorem aKJ(m:Int)(t:dG)(L:List dG):xZ m (t::L)=xZ (mx m t.2.1) L:=rfl
def fJ(g:aZ)(i:Nat):bm:=((g.bw[i]?).map (·.next)).getD []
theorem aDP{g:aZ}{i:Nat}{x:fO}(h:g.bw[i]? =some x):fJ g i=x.next:=by unfold fJ;rw[h];rfl
theorem aE6{rec:Nat->Option (List dG)}{N:Nat}(hr:∀r L,rec r=some L->r+L.length<=N/\0<L.length):∀ {l:bm} {r:Nat} {L:List dG},r<=N->iN rec l r=some L->r+L.length<=N
 | [],r,L,h,hk=>by simp only[iN,Al] at hk;subst hk;simpa using h
 | c::l,r,L,h,hk=>by
  simp only[iN] at hk;split at hk
  ·have⟨L1,h1,h2⟩:=Eb.1 hk;obtain⟨L2,h3,rfl⟩:=An.1 h2;have:=aE6 hr (hr r L1 h1).1 h3;rw[Ba];omega
  ·cases hk
theorem xN{N:Nat}{nx:Nat->bm}:∀ {f at_:Nat} {p d:Int} {L:List dG},gD N nx f at_ p d=some L->at_+L.length<=N/\0<L.length
 | 0,at_,p,d,L,h=>by cases h
 | f+1,at_,p,d,L,h=>by
  simp only[gD] at h;split at h
  ·rename_i hlt;obtain⟨L',h1,rfl⟩:=An.1 h;have:=aE6 (N:=N) (fun r L hr=>xN hr) (show at_+1<=N by omega) h1;rw[Ax];omega
  ·cases h
theorem aW.tail{k:Nat}{α:Type}{E:St->bo->α->Prop}{S:St}{v:AV}{a:α}{l:List α}(h:aW k E S v (a::l)):∃v',(∀ (F:Fr) (x:cL),dY (x.val F)=some 1->lA (.slice k) v (some x) none none F=some v')/\aW k E S v' l:=by
 rcases h with⟨h0,_⟩ | ⟨b,off,cap,o,cs,rfl,hc,hb,hcs,hel⟩
 ·cases h0
 ·rw[Ax] at hc;have e1:Nat.ble cap cap=true:=Ai (Af _);have e2:Nat.ble (l.length+1) cap=true:=Ai hc;have e3:Nat.ble 1 (l.length+1)=true:=Ai au;by_cases h1:cap=1
  ·have hl:l= []:=Ce.1 au;subst hl;subst h1;have e4:Nat.beq 1 1=true:=rfl;refine⟨bM o .emp (.sl b off 0 0 false),fun F x hx=>?_,?_⟩
   ·simp only[lA,aDm,iA,gC,aL,hx,Ax,Cd];cases o<;>rfl
   ·cases o with
    | true=>exact .inl ⟨rfl,.inr rfl⟩
    | false=>exact .inr ⟨b,off,0,false,cs,rfl,Af _,hb,hcs,fun i a hi=>by simp at hi⟩
  ·have e4:Nat.beq cap 1=false:=by rw[Bx];intro h;rw[Av] at h;omega
   refine⟨.sl b (off+1 * k) (l.length+1 - 1) (cap - 1) o,fun F x hx=>?_,.inr ⟨b,off+1 * k,cap - 1,o,cs,by simp,au,hb,hcs,fun i a' hi=>?_⟩⟩
   ·simp only[lA,aDm,iA,gC,aL,hx,Ax,e1,e2,e3,aP,e4,aS,Ge];cases o<;>rfl
   ·have⟨e,h1,h2,h3⟩:=hel (i+1) a' (by simpa using hi);refine⟨e,h1,fun j x hj=>?_,h3⟩;have:=h2 j x hj;rw[show off+1 * k+i * k+j=off+(i+1) * k+j by rw[Cb];omega];exact this
theorem aJe(a b:Int):lF true [.int .i64 a,.int .i64 b]=some (.int .i64 (mx a b)):=by rw[aFr,aIO,aIz]
def aIL(S:St)(db:Nat)(at_:Nat)(deep:Int)(o:Option (List dG))(r:AV)(S':St):Prop:=
 bN db S S'/\match o with
 | some L=>r= .int .i64 ((at_+L.length:Nat):Int)/\S'.h.get db=some (.cells [.int .i64 (xZ deep L)] false 0)
 | none=>r= .int .i64 (-1)/\∃z,S'.h.get db=some (.cells [.int .i64 z] false 0)
def aOL(S1:St)(gb db at_:Nat)(d deep1:Int)(rec:Nat->Option (List dG))(ks:bm)(k:Nat)(A:bK)(X:St):Prop:=
 A.inr=false/\bN db S1 X/\∃ (j:Nat) (L:List dG),j+k=ks.length/\at_+1+L.length<=2000/\iN rec ks (at_+1)=(iN rec (ks.drop j) (at_+1+L.length)).map (L++ ·)/\aD 1 A.F= .int .i64 (at_:Int)/\aD 2 A.F= .int .i64 d/\aD 3 A.F= .ptr db 0/\aD 4 A.F= .ptr gb 0/\aD 9 A.F= .int .i64 ((at_+1+L.length:Nat):Int)/\aD 10 A.F= .int .i64 (j:Int)/\X.h.get db=some (.cells [.int .i64 (xZ deep1 L)] false 0)
theorem aIx{S0:St}{gv:AV}{g:aZ}{db:Nat}(H:Has fns)(hG:aPA S0 gv g)(hdb:S0.nx<=db)(hN:g.bw.length<=2000):∀ (f:Nat) {S:St} {at_:Nat} {p d deep:Int},g.bw.length+1 - at_<=f->0<=d->d<=at_->at_<=3000->(∀x∈g.bw,x.next.length<=1000)->Same S0 S->db<S.nx->S.h.get db=some (.cells [.int .i64 deep] false 0)->
  eR fns (.fn 78 [] []) [gv,.int .i64 (at_:Int),.int .i64 d,.ptr db 0] S fun r S'=>aIL S db at_ deep (gD g.bw.length (fJ g) f at_ p d) r S':=by
 intro f
 induction f with
 | zero=>
  intro S at_ p d deep hf hd0 hd hat hlen hS hlt hdeep;obtain⟨nv,iv,rfl,hn,hi⟩:=id hG;have hnS:=aW.same (E:=cI) bT hn hS;refine bE H.f78 (by simp) ?_;refine aj ?_;refine aY ?_;refine bW (by refine aj ?_;exact aR _) ?_;intro S1 s1 n1 c1;refine aj ?_;refine dS (ew @aF @aE (eY c1) hnS.len ?_);refine aN (by simp only[↓stU,aB,rE,↓reduceIte,Ab (show(g.bw.length:Int)<=(at_:Int) by omega)]) ?_;refine aY (aj ?_);refine aI (aj ?_);exact⟨⟨s1.1,fun c hc _=>s1.2 c hc⟩,rfl,deep,by rw[s1.2 _ hlt];exact hdeep⟩
 | succ f ih=>
  intro S at_ p d deep hf hd0 hd hat hlen hS hlt hdeep;obtain⟨nv,iv,rfl,hn,hi⟩:=id hG;have hnS:=aW.same (E:=cI) bT hn hS;refine bE H.f78 (by simp) ?_;refine aj ?_;refine aY ?_;refine bW (by refine aj ?_;exact aR _) ?_;intro S1 s1 n1 c1;refine aj ?_;have hdeep1:S1.h.get db=some (.cells [.int .i64 deep] false 0):=by rw[s1.2 _ hlt];exact hdeep
  have b1:bN db S S1:=⟨s1.1,fun c hc _=>s1.2 c hc⟩;refine dS (ew @aF @aE (eY c1) hnS.len ?_);by_cases hlt':at_<g.bw.length;rotate_left
  ·refine aN (by simp only[↓stU,aB,rE,↓reduceIte,Ab (show(g.bw.length:Int)<=(at_:Int) by omega)]) ?_;refine aY (aj ?_);refine aI (aj ?_);refine⟨b1,?_⟩;simp only[gD,if_neg hlt'];exact⟨rfl,deep,hdeep1⟩
  refine aM (by simp only[↓stU,aB,rE,↓reduceIte,Aa (show ¬ (g.bw.length:Int)<=(at_:Int) by omega)]) (aH ?_);try refine aj ?_
  obtain⟨x,hx⟩:∃x,g.bw[at_]? =some x:=⟨_,Ad hlt'⟩;have hnx:=aDP hx;have hxl:=hlen x (Cg hx);have w1:=dq at_
  have w2:IntKind.i64.wrap (d+1)=d+1:=wrap_i64 au au;have ldd:cT (.ptr db 0) false 1 S1.h=some (.int .i64 deep):=ldc (j:=0) hdeep1 rfl;refine aY (fa @cE @cF ldd @aFM @jL @nH @aJe ?_);refine cR (b:=db) (ak) (by refine aj ?_;exact cH _ _) hdeep1 rfl rfl ?_;intro S2 s2 n2 c2;refine aj ?_;have b2:=b1.trans s2;have gb2:S2.h.get S.nx=some (.cells [.int .i64 g.b8,nv,iv] false 0):=by rw[s2.2 _ au au];exact c1
  refine aY (eo w1 ?_);refine dS (aj ?_);have hW:gD g.bw.length (fJ g) (f+1) at_ p d=(iN (fun r=>gD g.bw.length (fJ g) f r at_ (d+1)) x.next (at_+1)).map fun L=>(p,d,((at_+L.length:Nat):Int))::L:=by
   simp only[gD,if_pos hlt',hnx]
  rw[hW];refine aX (Q:=fun o A' X=>(o= .normal/\aOL S2 S.nx db at_ d (mx deep d) (fun r=>gD g.bw.length (fJ g) f r at_ (d+1)) x.next 0 A' X)\/(o= .ret/\bN db S2 X/\iN (fun r=>gD g.bw.length (fJ g) f r at_ (d+1)) x.next (at_+1)=none/\aD 8 A'.F= .int .i64 (-1)/\∃z,X.h.get db=some (.cells [.int .i64 z] false 0))) (aO (bJ (aOL S2 S.nx db at_ d (mx deep d) (fun r=>gD g.bw.length (fJ g) f r at_ (d+1)) x.next) ?_ x.next.length _ _ ⟨rfl,bN.refl _ _,0,[],au,by rw[Cd];omega,by simp,ak,ak,ak,ak,by simp only[↓stU,aB,rE,↓reduceIte];rfl,ak,c2⟩)) ?_
  ·rintro k ⟨F,inr⟩ X ⟨q0,hX,j,L,hjk,hL20,hkid,p1,p2,p3,p4,p9,p10,hdX⟩;simp only at q0 p1 p2 p3 p4 p9 p10;subst q0;have hbX:=b2.trans hX;have hSX:Same S0 X:=bN.same hS hbX hdb;have gbX:X.h.get S.nx=some (.cells [.int .i64 g.b8,nv,iv] false 0):=by rw[hX.2 _ au au];exact gb2
   obtain⟨e,b,q,hia,hb,he,⟨a,bb,cc,rfl,ha,_,_⟩,_,hlf⟩:=aW.at (aW.same (E:=cI) bT hn hSX) ay hx;have hl3:=hlf 3 a rfl;refine dS ?_;simp only[↓stU,aB,rE,↓reduceIte,p1,p4,p10,aF,aE,eY gbX,aQ,hia,hl3,ha.len,Ah];by_cases hj:j<x.next.length
   ·refine aN (by simp only[↓stU,aB,rE,↓reduceIte,Ab (show(j:Int)<(x.next.length:Int) by omega)]) (aH ?_);try refine aj ?_
    have hias:=ha.cw hj;have hlds:=ha.ld hj;have hdrop:x.next.drop j=x.next[j]::x.next.drop (j+1):=Bo hj;have hgd:x.next.getD j 0=x.next[j]:=by rw[Ae,Ad hj];rfl
    rw[hgd] at hlds;rw[hdrop] at hkid;generalize x.next[j]=c at *;refine aC (aO (aC (aC (aJ ?_))));simp only[↓stU,aB,rE,↓reduceIte,p1,p4,p9,p10,aF,aE,eY gbX,aQ,hia,hl3,hias,hlds];by_cases hc:c=((at_+1+L.length:Nat):Int);rotate_left
    ·refine aN (by simp only[↓stU,aB,rE,↓reduceIte,Ab (show c≠((at_+1+L.length:Nat):Int) from hc)]) ?_;refine aY (aj ?_);refine aI (aj ?_);refine .inr ⟨hX,?_,rfl,_,hdX⟩;rw[hkid];simp only[iN,if_neg hc];rfl
    refine aM (by simp only[↓stU,aB,rE,↓reduceIte,Aa (show ¬c≠((at_+1+L.length:Nat):Int) from fun h=>h hc)]) (aH ?_);try refine aj ?_
    simp only[iN,if_pos hc] at hkid;have hr:at_+1+L.length<=3000:=by omega
    refine aY (e9 p2 p3 p4 p9 (kJ gbX) w2 ?_);refine aK (aj ?_);refine aG (ih (S:=X) (at_:=at_+1+L.length) (p:=at_) (d:=d+1) au au au hr hlen hSX (Ag hlt hbX.1) hdX) ?_;rintro r Y ⟨hY,hres⟩;cases hw:gD g.bw.length (fJ g) f (at_+1+L.length) at_ (d+1) with
    | none=>
     rw[hw] at hres hkid;obtain⟨rfl,hz⟩:=hres;try refine aj ?_
     refine aY (aj ?_);refine aN (by simp only[↓stU,aB,rE,↓reduceIte];rfl) ?_;refine aY (aj ?_);refine aI (aj ?_);refine .inr ⟨hX.trans hY,?_,rfl,hz⟩;rw[hkid];rfl
    | some L1=>
     rw[hw] at hres hkid;obtain⟨rfl,hdY⟩:=hres;have hwl:=(xN hw).1;simp only[Option.bind_some,Option.map_map] at hkid;try refine aj ?_
     refine aY (aj ?_);refine aM (by simp only[↓stU,aB,rE,↓reduceIte,Aa (show ¬ ((at_+1+L.length+L1.length:Nat):Int)<0 by omega)]) (aH ?_);try refine aj ?_
     refine aJ ?_;have w3:=dq j
     refine er p10 w3 ?_;refine⟨k - 1,au,rfl,hX.trans hY,j+1,L++L1,au,by rw[Ba];omega,?_,am p1,am p2,am p3,am p4,by simp only[↓stU,aB,rE,↓reduceIte,Ba];congr 1;omega,ak,?_⟩
     ·rw[hkid,Ba,<-Co];congr 1;funext M;simp
     ·rw[aG7];exact hdY
   ·refine aM (by simp only[↓stU,aB,rE,↓reduceIte,Aa (show ¬ (j:Int)<(x.next.length:Int) by omega)]) (bD ?_);refine aj ?_;have hk0:k=0:=by omega
    subst hk0;exact .inl ⟨rfl,hX,j,L,hjk,hL20,hkid,am p1,am p2,am p3,am p4,am p9,am p10,hdX⟩
  rintro o ⟨F,inr⟩ X (⟨rfl,q0,hX,j,L,hjk,hL20,hkid,p1,p2,p3,p4,p9,p10,hdX⟩ | ⟨rfl,hX,hno,p8,hz⟩)
  ·simp only at q0 p9;subst q0;rw[Bw au] at hkid;simp only[iN,Fx,Cm] at hkid;rw[hkid];try refine aj ?_
   refine aY (eo p9 ?_);refine aI (aj ?_);refine⟨b2.trans hX,?_,?_⟩
   ·congr 1;simp;omega
   ·exact hdX
  ·rw[hno];simp only at p8;refine eo p8 ?_;exact⟨b2.trans hX,rfl,hz⟩
def bC(l:bm):bo:=l.map (AV.int .i64)
theorem aDJ(l:bm):(bC l).length=l.length:=by simp [bC]
theorem zK{S S':St}(h:Same S S'){b p n:Nat}{agg:Bool}(hb:b<S.nx):cT (.ptr b p) agg n S'.h=cT (.ptr b p) agg n S.h:=by
 have e:=uW h hb;simp only[cT,iO,oH,jE,e]
theorem aCc{S:St}{b p:Nat}{w:Int}{l:bm}{o:Bool}{sz:Nat}(h:S.h.get b=some (.cells (bC l) o sz))(hp:p<l.length):oT (.ptr b p) 1 [.int .i64 w] S=some (.undef,⟨S.h.set b (some (.cells (bC (l.set p w)) o sz)),S.nx⟩):=by
 have hput:put (bC l) p [AV.int .i64 w]=some (bC (l.set p w)):=by
  rw[put_eq,if_pos (by rw[aDJ];simp;omega)];congr 1;unfold bC;rw[List.map_set,Eu,if_pos (by simp;omega)];simp
 simp only[oT,lN,h,aL,qA,hput];rfl
theorem aH6{S:St}{b N sz:Nat}{l:bm}{o:Bool}(h:S.h.get b=some (.cells (bC l) o sz))(hb:b<S.nx)(hl:l.length=N):dE .i64 S (.sl b 0 N N false) l:=by
 subst hl;refine .inr ⟨b,0,l.length,false,bC l,rfl,Af _,hb,by unfold bU;rw[h];rfl,fun i x hi=>?_⟩;rw[Au];unfold bC;rw[Bk,hi];rfl
theorem iB{b N i:Nat}{o:Bool}(hi:i<N):dN (.slice 1) (.sl b 0 N N o) i=some (.ptr b i):=ia8 hi
theorem aBw{W:Nat->Prop}{h0:T AB}{base m i:Nat}{l:List AO}{F:Fr}{S:St}{last:Option Nat}{Q:Fr->St->List kQ->Prop}{x v:cL}{b p sz:Nat}{w:Int}{P:bm}{o:Bool}(h:nL last m=true)(hx:x.val F= .ptr b p)(hv:v.val F= .int .i64 w)(hb:S.h.get b=some (.cells (bC P) o sz))(hp:p<P.length)(hW:W b)
  (hr:∀S1,bN b S S1->S1.nx=S.nx->S1.h.get b=some (.cells (bC (P.set p w)) o sz)->iD fns W h0 base l (i+1) F S1 [] (some i) Q):iD fns W h0 base (⟨none,.x (.st 1 x v),none,m⟩::l) i F S [] last Q:=by
 have hS:bN b S ⟨S.h.set b (some (.cells (bC (P.set p w)) o sz)),S.nx⟩:=(bN.refl b S).put _;refine aFt (S1:=⟨S.h.set b (some (.cells (bC (P.set p w)) o sz)),S.nx⟩) h ?_ ⟨Af _,fun c hc hw=>?_⟩ (hr _ hS rfl ?_)
 ·rw[hv,cH,aL,hx];exact aCc (S:=S) hb hp
 ·simp only;rw[dr,if_neg (show ¬c=b from fun e=>hw (by rw[e];exact hW))];rfl
 ·simp only;rw[dr,if_pos rfl]
def vP(T:List dG)(a j:Nat):Option dG:=if a<=j then T[j - a]? else none
def iL(sel:dG->Int)(P P':bm)(T:List dG)(a:Nat):Prop:=P'.length=P.length/\∀j,P'.getD j 0=((vP T a j).map sel).getD (P.getD j 0)
theorem iL.nil(sel:dG->Int)(P:bm)(a:Nat):iL sel P P [] a:=⟨rfl,fun j=>by unfold vP;split<;>simp⟩
theorem aOs{T:List dG}{a j:Nat}{t:dG}(h:vP T a j=some t):a<=j/\j<a+T.length:=by
 unfold vP at h;split at h
 ·have:=(Aj.1 h).1;omega
 ·cases h
theorem aKp{T:List dG}{a j:Nat}(h:j<a\/a+T.length<=j):vP T a j=none:=by
 unfold vP;split
 ·exact Dp au
 ·rfl
theorem aCb(T T':List dG)(a j:Nat):vP (T++T') a j=(vP T a j).or (vP T' (a+T.length) j):=by
 unfold vP;by_cases h:a<=j
 ·rw[if_pos h,if_pos h,List.getElem?_append];by_cases h1:j - a<T.length
  ·rw[if_pos h1,if_neg au,Ad h1];rfl
  ·rw[if_neg h1,if_pos au,Dp (l:=T) (i:=j - a) au,show j - a - T.length=j - (a+T.length) by omega];rfl
 ·rw[if_neg h,if_neg h,if_neg au];rfl
theorem iL.append{sel:dG->Int}{P P1 P2:bm}{T T':List dG}{a:Nat}(h1:iL sel P P1 T a)(h2:iL sel P1 P2 T' (a+T.length)):iL sel P P2 (T++T') a:=by
 refine⟨h2.1.trans h1.1,fun j=>?_⟩;rw[h2.2,h1.2,aCb];cases hc:vP T a j with
 | none=>rfl
 | some t=>
  have:=aOs hc;rw[aKp au];rfl
theorem kV{P:bm}{i j:Nat}{v:Int}(hi:i<P.length):(P.set i v).getD j 0=if j=i then v else P.getD j 0:=by
 rw[Ae,List.getElem?_set];by_cases h:i=j
 ·subst h;rw[if_pos rfl,if_pos rfl,if_pos hi];rfl
 ·rw[if_neg h,if_neg (Eg h),Ae]
theorem aGJ(t:dG)(a j:Nat):vP [t] a j=if j=a then some t else none:=by
 unfold vP;by_cases h:j=a
 ·subst h;simp
 ·rw[if_neg h];split
  ·exact Dp (by simp;omega)
  ·rfl
theorem iL.one{sel:dG->Int}{P:bm}{t:dG}{a:Nat}{v:Int}(ha:a<P.length)(hv:sel t=v):iL sel P (P.set a v) [t] a:=by
 refine⟨Dm ..,fun j=>?_⟩;rw[kV ha,aGJ];by_cases h:j=a
 ·rw[if_pos h,if_pos h,<-hv];rfl
 ·rw[if_neg h,if_neg h];rfl
theorem iL.late{sel:dG->Int}{P P1:bm}{t:dG}{L:List dG}{a:Nat}{v:Int}(h:iL sel P P1 L (a+1))(ha:a<P.length)(hv:sel t=v):iL sel P (P1.set a v) (t::L) a:=by
 refine⟨by rw[Dm];exact h.1,fun j=>?_⟩;rw[kV (by rw[h.1];exact ha),h.2];have e:vP (t::L) a j=(vP [t] a j).or (vP L (a+1) j):=aCb [t] L a j;rw[e,aGJ];by_cases hj:j=a
 ·rw[if_pos hj,if_pos hj,<-hv];rfl
 ·rw[if_neg hj,if_neg hj];rfl
structure WK(S:St)(wb pb db lb N:Nat)(ps:Int)(nv iv:AV)(P D L:bm):Prop where
 w:aA1 S wb ps nv iv (.sl pb 0 N N false) (.sl db 0 N N false) (.sl lb 0 N N false)
 gp:S.h.get pb=some (.cells (bC P) false 0)
 gd:S.h.get db=some (.cells (bC D) false 0)
 gl:S.h.get lb=some (.cells (bC L) false 0)
 lp:P.length=N
 ld:D.length=N
 ll:L.length=N
 bp:pb<S.nx
 bd:db<S.nx
 bl:lb<S.nx
def aAa(pb db lb:Nat)(S S':St):Prop:=S.nx<=S'.nx/\∀c,c<S.nx->c≠pb->c≠db->c≠lb->S'.h.get c=S.h.get c
theorem aAa.refl(pb db lb:Nat)(S:St):aAa pb db lb S S:=⟨Af _,fun _ _ _ _ _=>rfl⟩
theorem aAa.trans{pb db lb:Nat}{S S' S'':St}(h:aAa pb db lb S S')(h':aAa pb db lb S' S''):aAa pb db lb S S'':=⟨Bd h.1 h'.1,fun c hc h1 h2 h3=>(h'.2 c (Ag hc h.1) h1 h2 h3).trans (h.2 c hc h1 h2 h3)⟩
theorem aAa.same{pb db lb:Nat}{S0 S S':St}(h0:Same S0 S)(h:aAa pb db lb S S')(h1:S0.nx<=pb)(h2:S0.nx<=db)(h3:S0.nx<=lb):Same S0 S':=⟨Bd h0.1 h.1,fun c hc=>(h.2 c (Ag hc h0.1) au au au).trans (h0.2 c hc)⟩
def aQr(S0 S:St)(wb pb db lb:Nat)(ps:Int)(nv iv:AV)(g:aZ)(P D L:bm)(at_:Nat)(o:Option (List dG))(r:AV)(S':St):Prop:=
 aAa pb db lb S S'/\∃P' D' L',WK S' wb pb db lb g.bw.length ps nv iv P' D' L'/\match o with
 | some T=>(∃v,r= .tup [v,.bool true]/\aW 6 cI S0 v (g.bw.drop (at_+T.length)))/\iL (·.1) P P' T at_/\iL (·.2.1) D D' T at_/\iL (·.2.2) L L' T at_
 | none=>r= .tup [.cd,.bool false]
def aQA(S0 S2:St)(wb pb db lb:Nat)(ps:Int)(nv iv a:AV)(g:aZ)(P D L:bm)(at_:Nat)(d:Int)(rec:Nat->Option (List dG))(ks:bm)(k:Nat)(A:bK)(X:St):Prop:=
 A.inr=false/\aAa pb db lb S2 X/\∃ (j:Nat) (T:List dG) (P' D' L':bm) (v:AV),j+k=ks.length/\at_+1+T.length<=g.bw.length/\iN rec ks (at_+1)=(iN rec (ks.drop j) (at_+1+T.length)).map (T++ ·)/\
  WK X wb pb db lb g.bw.length ps nv iv P' D' L'/\iL (·.1) P P' T (at_+1)/\iL (·.2.1) D D' T (at_+1)/\iL (·.2.2) L L' T (at_+1)/\aW 6 cI S0 v (g.bw.drop (at_+1+T.length))/\
  aD 0 A.F= .ptr wb 0/\aD 2 A.F= .int .i64 d/\aD 10 A.F= .int .i64 (at_:Int)/\aD 11 A.F=v/\aD 46 A.F=a/\aD 47 A.F= .int .i64 (ks.length:Int)/\aD 48 A.F= .int .i64 (j:Int)
theorem aKu{S0:St}{nv iv:AV}{g:aZ}{wb pb db lb:Nat}{ps:Int}(H:Has fns)(hG:aW 6 cI S0 nv g.bw)(hwb:S0.nx<=wb)(hpb:S0.nx<=pb)(hdb:S0.nx<=db)(hlb:S0.nx<=lb)(ne1:pb≠db)(ne2:pb≠lb)(ne3:db≠lb)(ne4:wb≠pb)(ne5:wb≠db)(ne6:wb≠lb)(hN:g.bw.length<=2000)(hlen:∀x∈g.bw,x.next.length<=1000):
  ∀ (f:Nat) {S:St} {at_:Nat} {p d:Int} {rv:AV} {P D L:bm},g.bw.length+1 - at_<=f->0<=d->d<=at_->at_<=g.bw.length->Same S0 S->WK S wb pb db lb g.bw.length ps nv iv P D L->aW 6 cI S0 rv (g.bw.drop at_)->
  eR fns (.fn 92 [] []) [.ptr wb 0,.int .i64 p,.int .i64 d,rv] S fun r S'=>aQr S0 S wb pb db lb ps nv iv g P D L at_ (gD g.bw.length (fJ g) f at_ p d) r S':=by
 intro f
 induction f with
 | zero=>intro S at_ p d rv P D L hf hd0 hd hat;omega
 | succ f ih=>
  intro S at_ p d rv P D L hf hd0 hd hat hS hK hrv;have hrl:=hrv.len;rw[Dk] at hrl;refine bE H.f92 (by simp) ?_;refine ae ?_;refine aY (ae ?_);refine dS (dh hrl ?_);by_cases hlt:at_<g.bw.length;rotate_left
  ·refine aN (by simp only[↓sU,sD,rE,↓reduceIte,rA,Ab (show((g.bw.length - at_:Nat):Int)=0 by omega)]) ?_;refine aY (ae ?_);refine aI ?_;simp only[↓sU,sD,rE,↓reduceIte,rA];simp only[gD,if_neg hlt];exact⟨aAa.refl _ _ _ _,P,D,L,hK,rfl⟩
  refine aM (by simp only[↓sU,sD,rE,↓reduceIte,rA,Aa (show ¬ ((g.bw.length - at_:Nat):Int)=0 by omega)]) (aH ?_);try refine ae ?_
  obtain⟨x,hx⟩:∃x,g.bw[at_]? =some x:=⟨_,Ad hlt⟩;have hnx:=aDP hx;have hxl:=hlen x (Cg hx);have hnl:=hG.len;have hdrop:g.bw.drop at_=x::g.bw.drop (at_+1):=by
   rw[Bo hlt];congr 1;rw[Ad hlt] at hx;exact Bz hx
  rw[hdrop] at hrv;have w1:IntKind.i64.wrap ((g.bw.length:Int) - ((g.bw.length - at_:Nat):Int))=(at_:Int):=by rw[wrap_i64 au au];omega
  refine aY (d7 @cE @cF @aF @aE (eI hK.w.1) hnl hrl w1 ?_);have wlt:=hK.w.2;have hwn:¬ (wb=pb\/wb=db):=by omega
  refine aC (eM (fun b=>b=pb\/b=db) ?_);intro S1 s1;have hia1:=iB (b:=pb) (o:=false) hlt;have hia2:=iB (b:=db) (o:=false) hlt;simp only[↓sU,sD,rE,↓reduceIte,rA,cE,dL,cF,aF,aV,aE,dV hK.w.1,dR hK.w.1,wlt,hwn,Ak,hia1,hia2];have l1:=s1.1;have bp:=hK.bp;have bd:=hK.bd;have bl:=hK.bl;refine aBw (p:=at_) (w:=p) rfl (af) (af) (by rw[s1.2 _ hK.bp];exact hK.gp) (by rw[hK.lp];exact hlt) (.inl rfl) ?_;intro S2 s2 n2 c2;refine dh hia2 ?_;refine aBw (p:=at_) (w:=d) (show Nat.testBit 32767 13=true by decide) (af) (af) (by rw[s2.2 _ au (Eg ne1),s1.2 _ hK.bd];exact hK.gd) (by rw[hK.ld];exact hlt) (.inr rfl) ?_;intro S3 s3 n3 c3;refine ae ?_;have b3:aAa pb db lb S S3:=⟨au,fun c hc h1 h2 h3=>by rw[s3.2 _ au h2,s2.2 _ au h1,s1.2 _ hc]⟩;have hS3:Same S0 S3:=b3.same hS hpb hdb hlb;have hK3:WK S3 wb pb db lb g.bw.length ps nv iv (P.set at_ p) (D.set at_ d) L:=⟨⟨by rw[b3.2 _ wlt ne4 ne5 ne6];exact hK.w.1,Ag wlt b3.1⟩,by rw[s3.2 _ au ne1];exact c2,c3,by rw[s3.2 _ au (Eg ne3),s2.2 _ au (Eg ne2),s1.2 _ hK.bl];exact hK.gl,by rw[Dm];exact hK.lp,by rw[Dm];exact hK.ld,hK.ll,au,au,au⟩;have⟨rv',hslc,hrv'⟩:=aW.tail hrv;have hsl1:∀F:Fr,lA (.slice 6) rv (some (.c (.int .i64 1))) none none F=some rv':=fun F=>hslc F _ rfl;refine aY (dh hsl1 ?_);obtain⟨e,b,q,hia,hb,he,⟨a,bb,cc,rfl,ha,_,_⟩,_,hlf⟩:=aW.at hrv ay (i:=0) rfl;have hl3:=hlf 3 a rfl;rw[<-zK hS3 hb] at hl3;refine dS (dz @aF7 hia @aF @aE hl3 ha.len @Ah ?_);have hW:gD g.bw.length (fJ g) (f+1) at_ p d=(iN (fun r=>gD g.bw.length (fJ g) f r at_ (d+1)) x.next (at_+1)).map fun L=>(p,d,((at_+L.length:Nat):Int))::L:=by
   simp only[gD,if_pos hlt,hnx]
  rw[hW];refine aX (Q:=fun o A' X=>(o= .normal/\aQA S0 S3 wb pb db lb ps nv iv a g (P.set at_ p) (D.set at_ d) L at_ d (fun r=>gD g.bw.length (fJ g) f r at_ (d+1)) x.next 0 A' X)\/(o= .ret/\aAa pb db lb S3 X/\iN (fun r=>gD g.bw.length (fJ g) f r at_ (d+1)) x.next (at_+1)=none/\aD 8 A'.F= .cd/\aD 9 A'.F= .bool false/\∃P' D' L',WK X wb pb db lb g.bw.length ps nv iv P' D' L')) (aO (bJ (aQA S0 S3 wb pb db lb ps nv iv a g (P.set at_ p) (D.set at_ d) L at_ d (fun r=>gD g.bw.length (fJ g) f r at_ (d+1)) x.next) ?_ x.next.length _ _ ⟨rfl,aAa.refl _ _ _ _,0,[],P.set at_ p,D.set at_ d,L,rv',au,by rw[Cd];omega,by simp,hK3,iL.nil _ _ _,iL.nil _ _ _,iL.nil _ _ _,hrv',by refine⟨?_,?_,?_,?_,?_,?_,?_⟩<;>simp only[↓sU,sD,rE,↓reduceIte,rA]⟩)) ?_
  ·rintro k ⟨F,inr⟩ X ⟨q0,hX,j,T,P',D',L',v,hjk,hTN,hkid,hKX,rP,rD,rL,hv,p0,p2,p10,p11,p46,p47,p48⟩;simp only at q0 p0 p2 p10 p11 p46 p47 p48;subst q0;have hSX:Same S0 X:=hX.same hS3 hpb hdb hlb;have haX:=ha.same hSX;have hvl:=hv.len;rw[Dk] at hvl;refine aY (dk p47 p48 ?_);by_cases hj:j<x.next.length
   ·refine aC (aN (by simp only[↓sU,sD,rE,↓reduceIte,rA,Ab (show(j:Int)<(x.next.length:Int) by omega)]) (aH ?_));refine ae ?_;have hias:=haX.cw hj;have hlds:=haX.ld hj;have hdr:x.next.drop j=x.next[j]::x.next.drop (j+1):=Bo hj;have hgd:x.next.getD j 0=x.next[j]:=by rw[Ae,Ad hj];rfl
    rw[hgd] at hlds;rw[hdr] at hkid;generalize x.next[j]=c at *;have w2:IntKind.i64.wrap ((g.bw.length:Int) - ((g.bw.length - (at_+1+T.length):Nat):Int))=((at_+1+T.length:Nat):Int):=by rw[wrap_i64 au au];omega
    have w3:IntKind.i64.wrap (d+1)=d+1:=wrap_i64 au au;have w4:=dq j
    refine aC (aO (aC (aJ ?_)));refine dx p46 p48 @aQ hias hlds ?_;refine dS ?_;simp only[↓sU,sD,rE,↓reduceIte,rA,p0,p11,cE,cF,aF,aE,eI hKX.w.1,hnl,hvl,w2];by_cases hc:c=((at_+1+T.length:Nat):Int);rotate_left
    ·refine aN (by simp only[↓sU,sD,rE,↓reduceIte,rA,Ab (show c≠((at_+1+T.length:Nat):Int) from hc)]) ?_;refine aY (ae ?_);refine aI (ae ?_);refine .inr ⟨hX,?_,P',D',L',hKX⟩;rw[hkid];simp only[iN,if_neg hc];rfl
    refine aM (by simp only[↓sU,sD,rE,↓reduceIte,rA,Aa (show ¬c≠((at_+1+T.length:Nat):Int) from fun h=>h hc)]) (aH ?_);try refine ae ?_
    simp only[iN,if_pos hc] at hkid;refine aY (dx p0 p2 p10 p11 w3 ?_);refine aK (ae ?_);refine aG (ih (S:=X) (at_:=at_+1+T.length) (p:=at_) (d:=d+1) au au au hTN hSX hKX hv) ?_;rintro r Y ⟨hY,P2,D2,L2,hKY,hres⟩;cases hw:gD g.bw.length (fJ g) f (at_+1+T.length) at_ (d+1) with
    | none=>
     rw[hw] at hres hkid;subst hres;refine dk @nP @nN ?_;refine aY ?_;simp only[↓sU,sD,rE,↓reduceIte,rA,pV,Bool.not_false];refine aN (af) ?_;refine aY (ae ?_);refine aI (ae ?_);refine .inr ⟨hX.trans hY,?_,P2,D2,L2,hKY⟩;rw[hkid];rfl
    | some T1=>
     rw[hw] at hres hkid;obtain⟨⟨v2,rfl,hv2⟩,k1,k2,k3⟩:=hres;simp only[Option.bind_some,Option.map_map] at hkid;have hwl:=(xN hw).1;refine dk @nP @nN ?_;refine aY (dk @pV @Gz ?_);refine aM (af) (aH ?_);try refine ae ?_
     refine aJ (dk p48 w4 ?_);refine⟨k - 1,au,rfl,hX.trans hY,j+1,T++T1,P2,D2,L2,v2,au,by rw[Ba];omega,?_,hKY,rP.append k1,rD.append k2,rL.append k3,by rw[Ba,<-Co];exact hv2,by refine⟨?_,?_,?_,?_,?_,?_,?_⟩<;>simp only[↓sU,sD,rE,↓reduceIte,rA,p0,p2,p10,p46,p47]⟩;rw[hkid,Ba,<-Co];congr 1;funext M;simp
   ·refine aC (aM (by simp only[↓sU,sD,rE,↓reduceIte,rA,Aa (show ¬ (j:Int)<(x.next.length:Int) by omega)]) (bD ?_));refine ae ?_;have hk0:k=0:=by omega
    subst hk0;exact .inl ⟨rfl,hX,j,T,P',D',L',v,hjk,hTN,hkid,hKX,rP,rD,rL,hv,by refine⟨?_,?_,?_,?_,?_,?_,?_⟩<;>simp only[↓sU,sD,rE,↓reduceIte,rA,p0,p2,p10,p11,p46,p47,p48]⟩
  rintro o ⟨F,inr⟩ X (⟨rfl,q0,hX,j,T,P',D',L',v,hjk,hTN,hkid,hKX,rP,rD,rL,hv,p0,p2,p10,p11,p46,p47,p48⟩ | ⟨rfl,hX,hno,p8,p9,P',D',L',hKX⟩);rotate_left
  ·rw[hno];simp only at p8 p9;refine dk p8 p9 ?_;exact⟨b3.trans hX,P',D',L',hKX,rfl⟩
  simp only at q0 p0 p10 p11;subst q0;rw[Bw au] at hkid;simp only[iN,Fx,Cm] at hkid;rw[hkid];have hvl:=hv.len;rw[Dk] at hvl;have w2:IntKind.i64.wrap ((g.bw.length:Int) - ((g.bw.length - (at_+1+T.length):Nat):Int))=((at_+1+T.length:Nat):Int):=by rw[wrap_i64 au au];omega
  have w5:IntKind.i64.wrap (((at_+1+T.length:Nat):Int) - 1)=((at_+T.length:Nat):Int):=by rw[wrap_i64 au au];omega
  have wltX:=hKX.w.2;have hia3:=iB (b:=lb) (o:=false) hlt;try refine ae ?_
  refine aC (eM (fun b=>b=lb) ?_);intro S4 s4;simp only[↓sU,sD,rE,↓reduceIte,rA,p0,p10,p11,cE,dL,cF,aF,aV,aE,eI hKX.w.1,eS hKX.w.1,hnl,hvl,w2,w5,wltX,ne6,Ak,hia3,aW.self hG];have l4:=s4.1;have bpX:=hKX.bp;have bdX:=hKX.bd;have blX:=hKX.bl;refine aBw (p:=at_) (w:=((at_+T.length:Nat):Int)) rfl (af) (af) (by rw[s4.2 _ hKX.bl];exact hKX.gl) (by rw[hKX.ll];exact hlt) rfl ?_;intro S5 s5 n5 c5;refine ae ?_;have b5:aAa pb db lb X S5:=⟨au,fun c hc h1 h2 h3=>by rw[s5.2 _ au h3,s4.2 _ hc]⟩;refine aY (dh p11 ?_);refine aI (ae ?_);have hatP:at_<P.length:=by rw[hK.lp];exact hlt
  have hatD:at_<D.length:=by rw[hK.ld];exact hlt
  have hatL:at_<L.length:=by rw[hK.ll];exact hlt
  refine⟨b3.trans (hX.trans b5),P',D',L'.set at_ ((at_+T.length:Nat):Int),⟨⟨by rw[b5.2 _ wltX ne4 ne5 ne6];exact hKX.w.1,Ag wltX b5.1⟩,by rw[s5.2 _ au ne2,s4.2 _ hKX.bp];exact hKX.gp,by rw[s5.2 _ au ne3,s4.2 _ hKX.bd];exact hKX.gd,c5,hKX.lp,hKX.ld,by rw[Dm];exact hKX.ll,by show _<S5.nx;omega,by show _<S5.nx;omega,by show _<S5.nx;omega⟩,⟨v,rfl,?_⟩,?_,?_,?_⟩
  ·rw[Ax,show at_+(T.length+1)=at_+1+T.length by omega];exact hv
  ·exact iL.append (T:=[(p,d,((at_+T.length:Nat):Int))]) (iL.one hatP rfl) rP
  ·exact iL.append (T:=[(p,d,((at_+T.length:Nat):Int))]) (iL.one hatD rfl) rD
  ·exact iL.late rL hatL rfl
end Go.Ev.Gl
