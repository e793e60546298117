import Derived.Test.YtdkehphobhnjoaaGl5
open Nat renaming reduceEqDiff -> rE, reduceAdd -> rA
set_option maxHeartbeats 0
set_option linter.unusedSimpArgs false
set_option linter.unusedVariables false
namespace Go.Ev.Gl
variable {fns:T dU}
structure cP where
 kind:Int
 player:Int
 info:Int
 next:bu
 weights:bu
 pay:bu
structure iS where
 player:Int
 ca:Int
structure bD where
 bo:Int
 bk:List cP
 bn:List iS
def iY(lo hi:Int)(l:bu):Prop:=∃w∈l,w<lo\/hi<w
instance anyOutDec(lo hi:Int)(l:bu):Decidable (iY lo hi l):=by unfold iY;exact inferInstance
def nJ(x:cP):Prop:=x.player≠0\/x.info≠0\/(0:Int)<(x.pay.length:Int)\/(x.next.length:Int)<1\/(60:Int)<(x.next.length:Int)\/(x.weights.length:Int)≠(x.next.length:Int)
def vG(x:cP):Prop:=(0:Int)<(x.weights.length:Int)\/(0:Int)<(x.pay.length:Int)\/(x.next.length:Int)<1\/(10:Int)<(x.next.length:Int)
def oB(ps:Int)(x:cP):Prop:=x.player≠0\/x.info≠0\/(0:Int)<(x.next.length:Int)\/(0:Int)<(x.weights.length:Int)\/(x.pay.length:Int)≠ps
instance badCDec(x:cP):Decidable (nJ x):=by unfold nJ;exact inferInstance
instance badMDec(x:cP):Decidable (vG x):=by unfold vG;exact inferInstance
instance badEDec(ps:Int)(x:cP):Decidable (oB ps x):=by unfold oB;exact inferInstance
def iC(ps:Int)(ni:Nat)(x:cP):Int:=
 if x.kind=1 then(if nJ x then 3 else if iY 1 1000 x.weights then 2 else 0)
 else if x.kind=2 then(if vG x then 3 else if x.player<0\/ps - 1<x.player\/x.info<0\/(ni:Int) - 1<x.info then 2 else 0)
 else if x.kind=3 then(if oB ps x then 3 else if iY (-1000000) 1000000 x.pay then 2 else 0)
 else 3
def cI(S:St)(cs:b6)(x:cP):Prop:=∃a b c,cs= [.int .i64 x.kind,.int .i64 x.player,.int .i64 x.info,a,b,c]/\bO .i64 S a x.next/\bO .i64 S b x.weights/\bO .i64 S c x.pay
theorem bT:aEA cI:=fun⟨a,b,c,h,h1,h2,h3⟩ hs=>⟨a,b,c,h,h1.same hs,h2.same hs,h3.same hs⟩
def cW(_:St)(cs:b6)(x:iS):Prop:=cs= [.int .i64 x.player,.int .i64 x.ca]
theorem cM:aEA cW:=fun h _=>h
def aP7(S:St)(v:AV)(g:bD):Prop:=∃n i,v= .agg [.int .i64 g.bo,n,i]/\aP 6 cI S n g.bk/\aP 2 cW S i g.bn
theorem ldc{h:T AB}{b j:Nat}{cs:b6}{x:AV}{o:Bool}{s:Nat}(hb:h.get b=some (.cells cs o s))(hj:cs[j]? =some x):eQ (.ptr b (0+j)) false 1 h=some x:=by
 simp only[eQ,nP,aT,mM,cJ,hb,aN,mI,mZ,An,hj]
theorem rB{h:T AB}{b n:Nat}{cs:b6}{o:Bool}{s:Nat}(hb:h.get b=some (.cells cs o s))(hn:cs.length=n):eQ (.ptr b 0) true n h=some (.agg cs):=by
 subst hn;simp only[eQ,nP,aO,uY,cJ,hb,aN,mI];unfold cut;rw[fU,fZ,Di,if_pos (Ag _),Ey];rfl
section
variable {h:T AB}{b:Nat}{x0 x1 x2 x3 x4 x5:AV}{o:Bool}{s:Nat}
theorem eG(hb:h.get b=some (.cells [x0,x1,x2,x3,x4,x5] o s)):eQ (.ptr b (0+0)) false 1 h=some x0:=ldc hb rfl
theorem dL(hb:h.get b=some (.cells [x0,x1,x2,x3,x4,x5] o s)):eQ (.ptr b (0+1)) false 1 h=some x1:=ldc hb rfl
theorem dE(hb:h.get b=some (.cells [x0,x1,x2,x3,x4,x5] o s)):eQ (.ptr b (0+2)) false 1 h=some x2:=ldc hb rfl
theorem dI(hb:h.get b=some (.cells [x0,x1,x2,x3,x4,x5] o s)):eQ (.ptr b (0+3)) false 1 h=some x3:=ldc hb rfl
theorem dP(hb:h.get b=some (.cells [x0,x1,x2,x3,x4,x5] o s)):eQ (.ptr b (0+4)) false 1 h=some x4:=ldc hb rfl
theorem dW(hb:h.get b=some (.cells [x0,x1,x2,x3,x4,x5] o s)):eQ (.ptr b (0+5)) false 1 h=some x5:=ldc hb rfl
theorem ldN(hb:h.get b=some (.cells [x0,x1,x2,x3,x4,x5] o s)):eQ (.ptr b 0) true 6 h=some (.agg [x0,x1,x2,x3,x4,x5]):=rB hb rfl
end
section
variable {k:Nat}{α:Type}{E:St->b6->α->Prop}{S:St}{v:AV}{l:List α}
theorem aP.at(h:aP k E S v l)(hk:0<k){i:Nat}{a:α}(hi:l[i]? =some a):∃e b p,fC (.slice k) v i=some (.ptr b p)/\b<S.nx/\e.length=k/\E S e a/\eQ (.ptr b p) true k S.h=some (.agg e)/\∀j x,e[j]? =some x->eQ (.ptr b (p+j)) false 1 S.h=some x:=by
 have⟨e,b,p,h1,h2,h3,h4,cs,h5,h6⟩:=h.get hi;have hlt:=(Aj.1 hi).1;refine⟨e,b,p,by rw[<-h1];exact h.cn hlt,h2,h3,h4,?_,fun j x hj=>?_⟩
 ·simp only[eQ,nP,aO,uY,h5,aN];have hcut:cut cs p k=some e:=by
   have hle:p+k<=cs.length:=by
    have:=h6 (k - 1) (e[k - 1]' ay) (Ac ay);have:=(Aj.1 this).1;omega
   unfold cut;rw[fU,fZ,if_pos (by rw[De];omega)];congr 1;refine Ff (by rw[Bp,De];omega) fun j j1 j2=>?_;have:=h6 j e[j] (Ac j2);rw[List.getElem_take,List.getElem_drop];exact(Aj.1 this).2
  rw[hcut,aN]
 ·simp only[eQ,nP,aT,mM,h5,aN,mZ];exact h6 j x hj
end
def vV(x:cP):Prop:=(0:Int)<(x.pay.length:Int)\/(0:Int)<(x.weights.length:Int)\/(x.next.length:Int)<1\/(10:Int)<(x.next.length:Int)
instance badMDec'(x:cP):Decidable (vV x):=by unfold vV;exact inferInstance
theorem aHd(x:cP):vV x↔vG x:=by unfold vG vV;omega
def aD9(ps:Int)(ni:Nat)(x:cP):Prop:=x.player<0\/ps<=x.player\/x.info<0\/((ni:Nat):Int)<=x.info
instance badRDec(ps:Int)(ni:Nat)(x:cP):Decidable (aD9 ps ni x):=by unfold aD9;exact inferInstance
theorem aGR(ps:Int)(ni:Nat)(x:cP):aD9 ps ni x↔(x.player<0\/ps - 1<x.player\/x.info<0\/(ni:Int) - 1<x.info):=by unfold aD9;omega
theorem wK{lo hi:Int}{l:bu}{i:Nat}(hi':i<l.length)(h:¬iY lo hi (l.take i))(h2:¬ (l.getD i 0<lo\/hi<l.getD i 0)):¬iY lo hi (l.take (i+1)):=by
 rintro⟨w,hw,ho⟩;rw[Bx,Ac hi'] at hw;rcases Bf.1 hw with h1 | h1
 ·exact h ⟨w,h1,ho⟩
 ·simp at h1;rw[Ad,Ac hi'] at h2;subst h1;exact h2 ho
theorem yZ{lo hi:Int}{l:bu}{i:Nat}(hi':i<l.length)(h2:l.getD i 0<lo\/hi<l.getD i 0):iY lo hi l:=by
 rw[Ad,Ac hi'] at h2;exact⟨l[i],Bo hi',h2⟩
def aQX(S:St)(b t:Nat)(lo hi:Int)(l:bu)(k:Nat)(A:bS)(X:St):Prop:=A.inr=false/\X=S/\∃i,i+k=l.length/\¬iY lo hi (l.take i)/\aD 3 A.F= .ptr b 0/\aD t A.F= .int .i64 (i:Int)
theorem aJf{S:St}{n i:AV}{ps:Int}{ni:Nat}{cs:b6}{x:cP}(H:Has fns)(hx:cI S cs x)(hps:ps<=4)(hi:jD i=some (.int .i64 ((ni:Nat):Int))):gH fns (.fn 53 [] []) [.agg [.int .i64 ps,n,i],.agg cs] S fun r S'=>r= .int .i64 (iC ps ni x)/\Same S S':=by
 obtain⟨a,b,c,rfl,hn,hw,hp⟩:=hx;refine cF H.f53 (by simp) ?_;refine aj ?_;refine bQ ?_;refine dV (by refine aj ?_;exact bL _) ?_;intro S1 s1 n1 c1;refine dV (by refine aj ?_;exact bL _) ?_;intro S2 s2 n2 g3;refine aj ?_;have g2:S2.h.get S.nx=some (.cells [.int .i64 ps,n,i] false 0):=by rw[s2.2 _ ay];exact c1
 have sS:=s1.trans s2;have hneg:Int.negSucc 999999= -1000000:=rfl;have hn2:=hn.same sS;have hw2:=hw.same sS;have hp2:=hp.same sS;refine fE (ew @aF @aE (eG g3) ?_);refine aL (aA (aG ?_));simp only[↓aC,aB,rE,↓reduceIte];unfold iC;have fin:∀F:Fr,lU fns (.seq (.reg [oq 4 (.mv (ci 0))]) .ret) ⟨F,false⟩ S2 (aPK [.t 4] fun r S'=>r= .int .i64 0/\Same S S'):=fun F=>by
  refine bQ (aj ?_);refine aR (aj ?_);exact sS
 by_cases k1:x.kind=1
 ·rw[if_pos k1];refine aM (fm (Ab k1)) ?_;refine aA (aA (aW (Q:=fun o A' X=>o= .normal/\A'.inr=false/\X=S2/\aD 3 A'.F= .ptr S1.nx 0/\aD 45 A'.F= .bool (decide (nJ x))) (aG ?_) ?_))
  ·by_cases c0:x.player≠0
   ·rw[Ab (show nJ x from .inl c0)];simp only[↓aC,aB,rE,↓reduceIte,aF,aE,dL g3,dE g3,dI g3,dP g3,dW g3,lI g2,lD g2,hn2.len,hw2.len,hp2.len,hi,Ah,Ab c0]
   by_cases c1:x.info≠0
   ·rw[Ab (show nJ x from .inr (.inl c1))];simp only[↓aC,aB,rE,↓reduceIte,aF,aE,dL g3,dE g3,dI g3,dP g3,dW g3,lI g2,lD g2,hn2.len,hw2.len,hp2.len,hi,Ah,Aa c0,Ab c1]
   by_cases c2:(0:Int)<(x.pay.length:Int)
   ·rw[Ab (show nJ x from .inr (.inr (.inl c2)))];simp only[↓aC,aB,rE,↓reduceIte,aF,aE,dL g3,dE g3,dI g3,dP g3,dW g3,lI g2,lD g2,hn2.len,hw2.len,hp2.len,hi,Ah,Aa c0,Aa c1,Ab c2]
   by_cases c3:(x.next.length:Int)<1
   ·rw[Ab (show nJ x from .inr (.inr (.inr (.inl c3))))];simp only[↓aC,aB,rE,↓reduceIte,aF,aE,dL g3,dE g3,dI g3,dP g3,dW g3,lI g2,lD g2,hn2.len,hw2.len,hp2.len,hi,Ah,Aa c0,Aa c1,Aa c2,Ab c3]
   by_cases c4:(60:Int)<(x.next.length:Int)
   ·rw[Ab (show nJ x from .inr (.inr (.inr (.inr (.inl c4)))))];simp only[↓aC,aB,rE,↓reduceIte,aF,aE,dL g3,dE g3,dI g3,dP g3,dW g3,lI g2,lD g2,hn2.len,hw2.len,hp2.len,hi,Ah,Aa c0,Aa c1,Aa c2,Aa c3,Ab c4]
   by_cases c5:(x.weights.length:Int)≠(x.next.length:Int)
   ·rw[Ab (show nJ x from .inr (.inr (.inr (.inr (.inr (c5))))))];simp only[↓aC,aB,rE,↓reduceIte,aF,aE,dL g3,dE g3,dI g3,dP g3,dW g3,lI g2,lD g2,hn2.len,hw2.len,hp2.len,hi,Ah,Aa c0,Aa c1,Aa c2,Aa c3,Aa c4,Ab c5]
   rw[Aa (show ¬nJ x by rintro(h0 | h1 | h2 | h3 | h4 | h5)<;>first | exact c0 h0 | exact c1 h1 | exact c2 h2 | exact c3 h3 | exact c4 h4 | exact c5 h5)];simp only[↓aC,aB,rE,↓reduceIte,aF,aE,dL g3,dE g3,dI g3,dP g3,dW g3,lI g2,lD g2,hn2.len,hw2.len,hp2.len,hi,Ah,Aa c0,Aa c1,Aa c2,Aa c3,Aa c4,Aa c5]
  rintro o ⟨F,inr⟩ X ⟨rfl,q0,hX,p3,pb⟩;simp only at q0 p3 pb;subst q0;rw[hX];refine aj ?_;by_cases bad:nJ x
  ·rw[if_pos bad];refine aM (fo pb (Ab bad)) ?_;refine bQ (aj ?_);refine aR (aj ?_);exact sS
  rw[if_neg bad];have hlen:x.weights.length<=60:=by unfold nJ at bad;omega
  refine aK (fo pb (Aa bad)) (aH ?_);refine aj ?_;refine bQ (aj ?_);refine aL (bK (aQX S2 S1.nx 5 1 1000 x.weights) ?_ x.weights.length _ _ ⟨rfl,rfl,0,ay,(by rintro⟨w,h,_⟩;simp at h),by refine⟨?_,?_⟩<;>simp only[↓aC,aB,rE,↓reduceIte,p3]⟩);clear p3 pb;rintro k ⟨F,inr⟩ X ⟨q0,hX,j,hjk,ha,p3,pt⟩;simp only at q0 p3 pt;subst q0;rw[hX];refine fE ?_;simp only[↓aC,aB,rE,↓reduceIte,pt,p3,aF,aE,dP g3,hw2.len,Ah];by_cases hj:j<x.weights.length
  ·refine aM ff (aH ?_);refine aj ?_;have hia:=hw2.cn hj;have hld:=hw2.ld hj;have htk:=wK (lo:=1) (hi:=1000) hj ha;have hget:=yZ (lo:=1) (hi:=1000) hj;generalize x.weights.getD j 0=w at *;have w1:IntKind.i64.wrap ((j:Int)+1)=((j+1:Nat):Int):=by
    rw[wrap_i64 ay ay];omega
   refine aA (aL (aA (aW (Q:=fun o A' X=>o= .normal/\A'.inr=false/\X=S2/\aD 3 A'.F= .ptr S1.nx 0/\aD 5 A'.F= .int .i64 (j:Int)/\aD 66 A'.F= .bool (decide (w<1\/1000<w))) (aG ?_) ?_)))
   ·by_cases h1:w<1
    ·rw[Ab (show w<1\/1000<w from .inl h1)];simp only[↓aC,aB,rE,↓reduceIte,pt,p3,aF,aE,dP g3,aJ,hia,hld,hneg,Ab h1]
    ·by_cases h2:1000<w
     ·rw[Ab (show w<1\/1000<w from .inr h2)];simp only[↓aC,aB,rE,↓reduceIte,pt,p3,aF,aE,dP g3,aJ,hia,hld,hneg,Aa h1,Ab h2]
     ·rw[Aa (ay:¬ (w<1\/1000<w))];simp only[↓aC,aB,rE,↓reduceIte,pt,p3,aF,aE,dP g3,aJ,hia,hld,hneg,Aa h1,Aa h2]
   clear p3 pt;rintro o ⟨F,inr⟩ X ⟨rfl,q0,hX,p3,pt,pb⟩;simp only at q0 p3 pt pb;subst q0;rw[hX];refine aj ?_;by_cases ho:w<1\/1000<w
   ·rw[if_pos (hget ho)];refine aM (fo pb (Ab ho)) ?_;refine bQ (aj ?_);refine aR (aj ?_);exact sS
   ·refine aK (fo pb (Aa ho)) (aH ?_);refine aj ?_;refine aG (eu pt w1 ?_);exact⟨k - 1,ay,rfl,rfl,j+1,ay,htk ho,by refine⟨?_,?_⟩<;>simp only[↓aC,aB,rE,↓reduceIte,p3]⟩
  ·refine aK ff (bG ?_);refine aj ?_;have hno:¬iY 1 1000 x.weights:=by rw[Bb ay] at ha;exact ha
   rw[if_neg hno];exact fin _
 rw[if_neg k1];refine aK (fm (Aa k1)) ?_;refine bQ (aj ?_);by_cases k2:x.kind=2
 ·rw[if_pos k2];refine aM (fm (Ab k2)) ?_;refine aA (aA (aW (Q:=fun o A' X=>o= .normal/\A'.inr=false/\X=S2/\aD 2 A'.F= .ptr S.nx 0/\aD 3 A'.F= .ptr S1.nx 0/\aD 90 A'.F= .bool (decide (vV x))) (aG ?_) ?_))
  ·by_cases c0:(0:Int)<(x.pay.length:Int)
   ·rw[Ab (show vV x from .inl c0)];simp only[↓aC,aB,rE,↓reduceIte,aF,aE,dL g3,dE g3,dI g3,dP g3,dW g3,lI g2,lD g2,hn2.len,hw2.len,hp2.len,hi,Ah,Ab c0]
   by_cases c1:(0:Int)<(x.weights.length:Int)
   ·rw[Ab (show vV x from .inr (.inl c1))];simp only[↓aC,aB,rE,↓reduceIte,aF,aE,dL g3,dE g3,dI g3,dP g3,dW g3,lI g2,lD g2,hn2.len,hw2.len,hp2.len,hi,Ah,Aa c0,Ab c1]
   by_cases c2:(x.next.length:Int)<1
   ·rw[Ab (show vV x from .inr (.inr (.inl c2)))];simp only[↓aC,aB,rE,↓reduceIte,aF,aE,dL g3,dE g3,dI g3,dP g3,dW g3,lI g2,lD g2,hn2.len,hw2.len,hp2.len,hi,Ah,Aa c0,Aa c1,Ab c2]
   by_cases c3:(10:Int)<(x.next.length:Int)
   ·rw[Ab (show vV x from .inr (.inr (.inr (c3))))];simp only[↓aC,aB,rE,↓reduceIte,aF,aE,dL g3,dE g3,dI g3,dP g3,dW g3,lI g2,lD g2,hn2.len,hw2.len,hp2.len,hi,Ah,Aa c0,Aa c1,Aa c2,Ab c3]
   rw[Aa (show ¬vV x by rintro(h0 | h1 | h2 | h3)<;>first | exact c0 h0 | exact c1 h1 | exact c2 h2 | exact c3 h3)];simp only[↓aC,aB,rE,↓reduceIte,aF,aE,dL g3,dE g3,dI g3,dP g3,dW g3,lI g2,lD g2,hn2.len,hw2.len,hp2.len,hi,Ah,Aa c0,Aa c1,Aa c2,Aa c3]
  rintro o ⟨F,inr⟩ X ⟨rfl,q0,hX,p2,p3,pb⟩;simp only at q0 p2 p3 pb;subst q0;rw[hX];refine aj ?_;by_cases bad:vV x
  ·rw[if_pos ((aHd x).1 bad)];refine aM (fo pb (Ab bad)) ?_;refine bQ (aj ?_);refine aR (aj ?_);exact sS
  rw[if_neg (fun h=>bad ((aHd x).2 h))];refine aK (fo pb (Aa bad)) (aH ?_);refine aj ?_;refine aA (aW (Q:=fun o A' X=>o= .normal/\A'.inr=false/\X=S2/\aD 113 A'.F= .bool (decide (aD9 ps ni x))) (aG ?_) ?_)
  ·by_cases c0:x.player<0
   ·rw[Ab (show aD9 ps ni x from .inl c0)];simp only[↓aC,aB,rE,↓reduceIte,aF,aE,dL g3,dE g3,dI g3,dP g3,dW g3,lI g2,lD g2,hn2.len,hw2.len,hp2.len,hi,Ah,p3,p2,Ab c0]
   by_cases c1:ps<=x.player
   ·rw[Ab (show aD9 ps ni x from .inr (.inl c1))];simp only[↓aC,aB,rE,↓reduceIte,aF,aE,dL g3,dE g3,dI g3,dP g3,dW g3,lI g2,lD g2,hn2.len,hw2.len,hp2.len,hi,Ah,p3,p2,Aa c0,Ab c1]
   by_cases c2:x.info<0
   ·rw[Ab (show aD9 ps ni x from .inr (.inr (.inl c2)))];simp only[↓aC,aB,rE,↓reduceIte,aF,aE,dL g3,dE g3,dI g3,dP g3,dW g3,lI g2,lD g2,hn2.len,hw2.len,hp2.len,hi,Ah,p3,p2,Aa c0,Aa c1,Ab c2]
   by_cases c3:((ni:Nat):Int)<=x.info
   ·rw[Ab (show aD9 ps ni x from .inr (.inr (.inr (c3))))];simp only[↓aC,aB,rE,↓reduceIte,aF,aE,dL g3,dE g3,dI g3,dP g3,dW g3,lI g2,lD g2,hn2.len,hw2.len,hp2.len,hi,Ah,p3,p2,Aa c0,Aa c1,Aa c2,Ab c3]
   rw[Aa (show ¬aD9 ps ni x by rintro(h0 | h1 | h2 | h3)<;>first | exact c0 h0 | exact c1 h1 | exact c2 h2 | exact c3 h3)];simp only[↓aC,aB,rE,↓reduceIte,aF,aE,dL g3,dE g3,dI g3,dP g3,dW g3,lI g2,lD g2,hn2.len,hw2.len,hp2.len,hi,Ah,p3,p2,Aa c0,Aa c1,Aa c2,Aa c3]
  rintro o ⟨F,inr⟩ X ⟨rfl,q0,hX,pb⟩;simp only at q0 pb;subst q0;rw[hX];refine aj ?_;by_cases bad:aD9 ps ni x
  ·rw[if_pos ((aGR ps ni x).1 bad)];refine aM (fo pb (Ab bad)) ?_;refine bQ (aj ?_);refine aR (aj ?_);exact sS
  rw[if_neg (fun h=>bad ((aGR ps ni x).2 h))];refine aK (fo pb (Aa bad)) (aH ?_);refine aj ?_;exact fin _
 rw[if_neg k2];refine aK (fm (Aa k2)) ?_;refine bQ (aj ?_);by_cases k3:x.kind=3
 ·rw[if_pos k3];refine aM (fm (Ab k3)) ?_;refine aA (aA (aW (Q:=fun o A' X=>o= .normal/\A'.inr=false/\X=S2/\aD 3 A'.F= .ptr S1.nx 0/\aD 143 A'.F= .bool (decide (oB ps x))) (aG ?_) ?_))
  ·by_cases c0:x.player≠0
   ·rw[Ab (show oB ps x from .inl c0)];simp only[↓aC,aB,rE,↓reduceIte,aF,aE,dL g3,dE g3,dI g3,dP g3,dW g3,lI g2,lD g2,hn2.len,hw2.len,hp2.len,hi,Ah,Ab c0]
   by_cases c1:x.info≠0
   ·rw[Ab (show oB ps x from .inr (.inl c1))];simp only[↓aC,aB,rE,↓reduceIte,aF,aE,dL g3,dE g3,dI g3,dP g3,dW g3,lI g2,lD g2,hn2.len,hw2.len,hp2.len,hi,Ah,Aa c0,Ab c1]
   by_cases c2:(0:Int)<(x.next.length:Int)
   ·rw[Ab (show oB ps x from .inr (.inr (.inl c2)))];simp only[↓aC,aB,rE,↓reduceIte,aF,aE,dL g3,dE g3,dI g3,dP g3,dW g3,lI g2,lD g2,hn2.len,hw2.len,hp2.len,hi,Ah,Aa c0,Aa c1,Ab c2]
   by_cases c3:(0:Int)<(x.weights.length:Int)
   ·rw[Ab (show oB ps x from .inr (.inr (.inr (.inl c3))))];simp only[↓aC,aB,rE,↓reduceIte,aF,aE,dL g3,dE g3,dI g3,dP g3,dW g3,lI g2,lD g2,hn2.len,hw2.len,hp2.len,hi,Ah,Aa c0,Aa c1,Aa c2,Ab c3]
   by_cases c4:(x.pay.length:Int)≠ps
   ·rw[Ab (show oB ps x from .inr (.inr (.inr (.inr (c4)))))];simp only[↓aC,aB,rE,↓reduceIte,aF,aE,dL g3,dE g3,dI g3,dP g3,dW g3,lI g2,lD g2,hn2.len,hw2.len,hp2.len,hi,Ah,Aa c0,Aa c1,Aa c2,Aa c3,Ab c4]
   rw[Aa (show ¬oB ps x by rintro(h0 | h1 | h2 | h3 | h4)<;>first | exact c0 h0 | exact c1 h1 | exact c2 h2 | exact c3 h3 | exact c4 h4)];simp only[↓aC,aB,rE,↓reduceIte,aF,aE,dL g3,dE g3,dI g3,dP g3,dW g3,lI g2,lD g2,hn2.len,hw2.len,hp2.len,hi,Ah,Aa c0,Aa c1,Aa c2,Aa c3,Aa c4]
  rintro o ⟨F,inr⟩ X ⟨rfl,q0,hX,p3,pb⟩;simp only at q0 p3 pb;subst q0;rw[hX];refine aj ?_;by_cases bad:oB ps x
  ·rw[if_pos bad];refine aM (fo pb (Ab bad)) ?_;refine bQ (aj ?_);refine aR (aj ?_);exact sS
  rw[if_neg bad];have hlen:x.pay.length<=60:=by unfold oB at bad;omega
  refine aK (fo pb (Aa bad)) (aH ?_);refine aj ?_;refine bQ (aj ?_);refine aL (bK (aQX S2 S1.nx 6 (-1000000) 1000000 x.pay) ?_ x.pay.length _ _ ⟨rfl,rfl,0,ay,(by rintro⟨w,h,_⟩;simp at h),by refine⟨?_,?_⟩<;>simp only[↓aC,aB,rE,↓reduceIte,p3]⟩);clear p3 pb;rintro k ⟨F,inr⟩ X ⟨q0,hX,j,hjk,ha,p3,pt⟩;simp only at q0 p3 pt;subst q0;rw[hX];refine fE ?_;simp only[↓aC,aB,rE,↓reduceIte,pt,p3,aF,aE,dW g3,hp2.len,Ah];by_cases hj:j<x.pay.length
  ·refine aM ff (aH ?_);refine aj ?_;have hia:=hp2.cn hj;have hld:=hp2.ld hj;have htk:=wK (lo:=(-1000000)) (hi:=1000000) hj ha;have hget:=yZ (lo:=(-1000000)) (hi:=1000000) hj;generalize x.pay.getD j 0=w at *;have w1:IntKind.i64.wrap ((j:Int)+1)=((j+1:Nat):Int):=by
    rw[wrap_i64 ay ay];omega
   refine aA (aL (aA (aW (Q:=fun o A' X=>o= .normal/\A'.inr=false/\X=S2/\aD 3 A'.F= .ptr S1.nx 0/\aD 6 A'.F= .int .i64 (j:Int)/\aD 164 A'.F= .bool (decide (w<(-1000000)\/1000000<w))) (aG ?_) ?_)))
   ·by_cases h1:w<(-1000000)
    ·rw[Ab (show w<(-1000000)\/1000000<w from .inl h1)];simp only[↓aC,aB,rE,↓reduceIte,pt,p3,aF,aE,dW g3,aJ,hia,hld,hneg,Ab h1]
    ·by_cases h2:1000000<w
     ·rw[Ab (show w<(-1000000)\/1000000<w from .inr h2)];simp only[↓aC,aB,rE,↓reduceIte,pt,p3,aF,aE,dW g3,aJ,hia,hld,hneg,Aa h1,Ab h2]
     ·rw[Aa (ay:¬ (w<(-1000000)\/1000000<w))];simp only[↓aC,aB,rE,↓reduceIte,pt,p3,aF,aE,dW g3,aJ,hia,hld,hneg,Aa h1,Aa h2]
   clear p3 pt;rintro o ⟨F,inr⟩ X ⟨rfl,q0,hX,p3,pt,pb⟩;simp only at q0 p3 pt pb;subst q0;rw[hX];refine aj ?_;by_cases ho:w<(-1000000)\/1000000<w
   ·rw[if_pos (hget ho)];refine aM (fo pb (Ab ho)) ?_;refine bQ (aj ?_);refine aR (aj ?_);exact sS
   ·refine aK (fo pb (Aa ho)) (aH ?_);refine aj ?_;refine aG (eu pt w1 ?_);exact⟨k - 1,ay,rfl,rfl,j+1,ay,htk ho,by refine⟨?_,?_⟩<;>simp only[↓aC,aB,rE,↓reduceIte,p3]⟩
  ·refine aK ff (bG ?_);refine aj ?_;have hno:¬iY (-1000000) 1000000 x.pay:=by rw[Bb ay] at ha;exact ha
   rw[if_neg hno];exact fin _
 rw[if_neg k3];refine aK (fm (Aa k3)) ?_;refine bQ (aj ?_);refine aR (aj ?_);exact sS
theorem bO.self{k:IntKind}{S:St}{v:AV}{l:bu}(h:bO k S v l):cT v v=true:=by
 rcases h with⟨_,h | h⟩ | ⟨b,off,cap,o,cs,rfl,_⟩
 ·subst h;rfl
 ·subst h;rfl
 ·exact mR ..
theorem aP.self{k:Nat}{α:Type}{E:St->b6->α->Prop}{S:St}{v:AV}{l:List α}(h:aP k E S v l):cT v v=true:=by
 rcases h with⟨_,h | h⟩ | ⟨b,off,cap,o,cs,rfl,_⟩
 ·subst h;rfl
 ·subst h;rfl
 ·exact mR ..
theorem aM2{k:IntKind}{S:St}{b:Nat}{z:Int}(hb:b<S.nx)(h:S.h.get b=some (.cells [.int k z] false 0)):bO k S (.sl b 0 1 1 false) [z]:=by
 refine .inr ⟨b,0,1,false,[.int k z],rfl,Ag _,hb,by unfold cJ;rw[h];rfl,fun i x hi=>?_⟩;cases i with
 | zero=>simp at hi;subst hi;rfl
 | succ i=>simp at hi
theorem aDY{lo hi z:Int}:iY lo hi [z]↔z<lo\/hi<z:=by
 unfold iY;simp
theorem aBy{x0 x1 x2 x3 x4 x5:AV}(h0:cT x0 x0=true)(h1:cT x1 x1=true)(h2:cT x2 x2=true)(h3:cT x3 x3=true)(h4:cT x4 x4=true)(h5:cT x5 x5=true):cT (.agg [x0,x1,x2,x3,x4,x5]) (.agg [x0,x1,x2,x3,x4,x5])=true:=by
 simp only[cT,nR,h0,h1,h2,h3,h4,h5,aO]
theorem aK4{S:St}{b3 b4:Nat}{lo hi w:Int}(H:Has fns)(g3:S.h.get b3=some (.cells [.int .i64 lo] false 0))(g4:S.h.get b4=some (.cells [.int .i64 hi] false 0)):gH fns (.fn 102 [] [.ptr b3 0,.ptr b4 0]) [.int .i64 w] S fun r S'=>r= .bool (decide (w<lo\/hi<w))/\S'=S:=by
 have l3:eQ (.ptr b3 0) false 1 S.h=some (.int .i64 lo):=ldc (j:=0) g3 rfl;have l4:eQ (.ptr b4 0) false 1 S.h=some (.int .i64 hi):=ldc (j:=0) g4 rfl;refine cF H.f102 (by simp) ?_;refine aj ?_;refine bQ (aj ?_);refine bQ ?_;by_cases h1:w<lo
 ·rw[Ab (show w<lo\/hi<w from .inl h1)];refine eu l3 (Ab h1) ?_;refine aR ?_;simp only[↓aC,aB,rE,↓reduceIte]
 ·by_cases h2:hi<w
  ·rw[Ab (show w<lo\/hi<w from .inr h2)];refine ez l3 l4 (Aa h1) (Ab h2) ?_;refine aR ?_;simp only[↓aC,aB,rE,↓reduceIte]
  ·rw[Aa (ay:¬ (w<lo\/hi<w))];refine ez l3 l4 (Aa h1) (Aa h2) ?_;refine aR ?_;simp only[↓aC,aB,rE,↓reduceIte]
def aSg(S:St)(v f:AV)(lo hi:Int)(l:bu)(k:Nat)(A:bS)(X:St):Prop:=A.inr=false/\X=S/\∃i,i+k=l.length/\¬iY lo hi (l.take i)/\aD 0 A.F=v/\aD 1 A.F=f/\aD 7 A.F= .int .i64 (l.length:Int)/\aD 8 A.F= .int .i64 (i:Int)
theorem aIX{S:St}{b3 b4:Nat}{lo hi:Int}{v:AV}{l:bu}(H:Has fns)(g3:S.h.get b3=some (.cells [.int .i64 lo] false 0))(g4:S.h.get b4=some (.cells [.int .i64 hi] false 0))(hl:bO .i64 S v l)(hlen:l.length<=1000000):gH fns (.fn 103 [] []) [v,.fn 102 [] [.ptr b3 0,.ptr b4 0]] S fun r S'=>(∃z,r= .int .i64 z/\(0<=z↔iY lo hi l))/\S'=S:=by
 refine cF H.f103 (by simp) ?_;refine aj ?_;refine bQ (aj ?_);refine fE (eu hl.len @Ah ?_);refine aL (bK (aSg S v (.fn 102 [] [.ptr b3 0,.ptr b4 0]) lo hi l) ?_ l.length _ _ ⟨rfl,rfl,0,ay,(by rintro⟨w,h,_⟩;simp at h),by refine⟨?_,?_,?_,?_⟩<;>simp only[↓aC,aB,rE,↓reduceIte]⟩);rintro k ⟨F,inr⟩ X ⟨q0,hX,j,hjk,ha,p0,p1,p7,p8⟩;simp only at q0 p0 p1 p7 p8;subst q0;rw[hX];refine bQ (eu p7 p8 ?_);by_cases hj:j<l.length
 ·refine aA (aM ff (aH ?_));refine aj ?_;have hia:=hl.cn hj;have hld:=hl.ld hj;have htk:=wK (lo:=lo) (hi:=hi) hj ha;have hget:=yZ (lo:=lo) (hi:=hi) hj;generalize l.getD j 0=w at *;have w1:=dc j
  refine aA (aL (aA (aG ?_)));refine eh p8 ?_;refine bQ (fa p0 p1 @aJ hia hld ?_);refine bE (aj ?_);refine aQ (aK4 H g3 g4) ?_;rintro _ Y ⟨rfl,hY⟩;rw[hY];by_cases ho:w<lo\/hi<w
  ·refine aM (fm (Ab ho)) ?_;refine bQ (aj ?_);refine aR (aj ?_);exact⟨_,rfl,⟨fun _=>hget ho,fun _=>ay⟩⟩
  ·refine aK (fm (Aa ho)) (aH ?_);refine aj ?_;refine aG (eu p8 w1 ?_);exact⟨k - 1,ay,rfl,rfl,j+1,ay,htk ho,by refine⟨?_,?_,?_,?_⟩<;>simp only[↓aC,aB,rE,↓reduceIte,p0,p1,p7]⟩
 ·refine aA (aK ff (bG ?_));refine aj ?_;have hno:¬iY lo hi l:=by rw[Bb ay] at ha;exact ha
  refine bQ (aj ?_);refine aR (aj ?_);exact⟨_,rfl,⟨fun h=>absurd h bg,fun h=>absurd h hno⟩⟩
theorem aI6{S:St}{b3 b4:Nat}{lo hi:Int}{v:AV}{l:bu}(H:Has fns)(g3:S.h.get b3=some (.cells [.int .i64 lo] false 0))(g4:S.h.get b4=some (.cells [.int .i64 hi] false 0))(hl:bO .i64 S v l)(hlen:l.length<=1000000):gH fns (.fn 101 [] []) [v,.fn 102 [] [.ptr b3 0,.ptr b4 0]] S fun r S'=>r= .bool (decide (iY lo hi l))/\S'=S:=by
 refine cF H.f101 (by simp) ?_;refine aj ?_;refine bQ (aj ?_);refine bQ (aj ?_);refine bE (aj ?_);refine aQ (aIX H g3 g4 hl hlen) ?_;rintro _ Y ⟨⟨z,rfl,hz⟩,hY⟩;rw[hY];have hd:decide ((0:Int)<=z)=decide (iY lo hi l):=by rw[Cr,Cq,Cq];exact hz
 refine eh hd ?_;refine aR ?_;simp only[↓aC,aB,rE,↓reduceIte]
theorem rM{S:St}{lo hi:Int}{v:AV}{l:bu}(H:Has fns)(hl:bO .i64 S v l)(hlen:l.length<=1000000):gH fns (.fn 98 [] []) [.int .i64 lo,.int .i64 hi,v] S fun r S'=>r= .int .i64 (if iY lo hi l then 2 else 0)/\Same S S':=by
 refine cF H.f98 (by simp) ?_;refine aj ?_;refine bQ ?_;refine dV (by refine aj ?_;exact cH _ _) ?_;intro S1 s1 n1 c1;refine dV (by refine aj ?_;exact cH _ _) ?_;intro S2 s2 n2 c2;refine aj ?_;have sS:=s1.trans s2;refine fE (eh @aHS ?_);refine bE (aj ?_);refine aQ (aI6 H (by rw[s2.2 _ ay];exact c1) c2 (hl.same sS) hlen) ?_;rintro _ Y ⟨rfl,hY⟩;rw[hY];by_cases ho:iY lo hi l
 ·rw[if_pos ho];refine aM (fm (Ab ho)) ?_;refine bQ (aj ?_);refine aR (aj ?_);exact sS
 ·rw[if_neg ho];refine aK (fm (Aa ho)) (aH ?_);refine aj ?_;refine bQ (aj ?_);refine aR (aj ?_);exact sS
def tQ(S:St)(wb:Nat)(ps:Int)(n i p d l:AV):Prop:=S.h.get wb=some (.cells [.int .i64 ps,n,i,p,d,l] false 0)/\wb<S.nx
theorem tQ.same{S S':St}{wb:Nat}{ps:Int}{n i p d l:AV}(h:tQ S wb ps n i p d l)(hs:Same S S'):tQ S' wb ps n i p d l:=⟨(hs.2 _ h.2).trans h.1,Ae h.2 hs.1⟩
section
variable {S:St}{wb:Nat}{ps:Int}{n i p d l:AV}{ni:Nat}{cs:b6}{x:cP}
theorem aHi(H:Has fns)(hx:cI S cs x):gH fns (.fn 93 [] []) [.ptr wb 0,.agg cs] S fun r S'=>r= .int .i64 (if nJ x then 3 else if iY 1 1000 x.weights then 2 else 0)/\Same S S':=by
 obtain⟨a,b,c,rfl,hn,hw,hp⟩:=hx;refine cF H.f93 (by simp) ?_;refine aj ?_;refine bQ ?_;refine dV (by refine aj ?_;exact bL _) ?_;intro S2 s2 n2 g3;refine aj ?_;have hn2:=hn.same s2;have hw2:=hw.same s2;have hp2:=hp.same s2;refine aA (aA (aW (Q:=fun o A' X=>o= .normal/\A'.inr=false/\X=S2/\aD 3 A'.F= .ptr S.nx 0/\aD 39 A'.F= .bool (decide (nJ x))) (aG ?_) ?_))
 ·by_cases c0:x.player≠0
  ·rw[Ab (show nJ x from .inl c0)];simp only[↓aC,aB,rE,↓reduceIte,aF,aE,dL g3,dE g3,dI g3,dP g3,dW g3,hn2.len,hw2.len,hp2.len,Ah,Ab c0]
  by_cases c1:x.info≠0
  ·rw[Ab (show nJ x from .inr (.inl c1))];simp only[↓aC,aB,rE,↓reduceIte,aF,aE,dL g3,dE g3,dI g3,dP g3,dW g3,hn2.len,hw2.len,hp2.len,Ah,Aa c0,Ab c1]
  by_cases c2:(0:Int)<(x.pay.length:Int)
  ·rw[Ab (show nJ x from .inr (.inr (.inl c2)))];simp only[↓aC,aB,rE,↓reduceIte,aF,aE,dL g3,dE g3,dI g3,dP g3,dW g3,hn2.len,hw2.len,hp2.len,Ah,Aa c0,Aa c1,Ab c2]
  by_cases c3:(x.next.length:Int)<1
  ·rw[Ab (show nJ x from .inr (.inr (.inr (.inl c3))))];simp only[↓aC,aB,rE,↓reduceIte,aF,aE,dL g3,dE g3,dI g3,dP g3,dW g3,hn2.len,hw2.len,hp2.len,Ah,Aa c0,Aa c1,Aa c2,Ab c3]
  by_cases c4:(60:Int)<(x.next.length:Int)
  ·rw[Ab (show nJ x from .inr (.inr (.inr (.inr (.inl c4)))))];simp only[↓aC,aB,rE,↓reduceIte,aF,aE,dL g3,dE g3,dI g3,dP g3,dW g3,hn2.len,hw2.len,hp2.len,Ah,Aa c0,Aa c1,Aa c2,Aa c3,Ab c4]
  by_cases c5:(x.weights.length:Int)≠(x.next.length:Int)
  ·rw[Ab (show nJ x from .inr (.inr (.inr (.inr (.inr (c5))))))];simp only[↓aC,aB,rE,↓reduceIte,aF,aE,dL g3,dE g3,dI g3,dP g3,dW g3,hn2.len,hw2.len,hp2.len,Ah,Aa c0,Aa c1,Aa c2,Aa c3,Aa c4,Ab c5]
  rw[Aa (show ¬nJ x by rintro(h0 | h1 | h2 | h3 | h4 | h5)<;>first | exact c0 h0 | exact c1 h1 | exact c2 h2 | exact c3 h3 | exact c4 h4 | exact c5 h5)];simp only[↓aC,aB,rE,↓reduceIte,aF,aE,dL g3,dE g3,dI g3,dP g3,dW g3,hn2.len,hw2.len,hp2.len,Ah,Aa c0,Aa c1,Aa c2,Aa c3,Aa c4,Aa c5]
 rintro o ⟨F,inr⟩ X ⟨rfl,q0,hX,p3,pb⟩;simp only at q0 p3 pb;subst q0;rw[hX];have sX:=s2;refine aj ?_;by_cases bad:nJ x
 ·rw[if_pos bad];refine aM (fo pb (Ab bad)) ?_;refine bQ (aj ?_);refine aR (aj ?_);exact sX
 rw[if_neg bad];refine aK (fo pb (Aa bad)) (aH ?_);refine aj ?_;have hlen:x.weights.length<=60:=by unfold nJ at bad;omega
 refine bQ (ez p3 @aF @aE (dP g3) ?_);refine bE (aj ?_);refine aQ (rM H hw2 ay) ?_;rintro _ Y ⟨rfl,hY⟩;refine aR (aj ?_);exact s2.trans hY
theorem aK0(H:Has fns)(hx:cI S cs x)(hW:tQ S wb ps n i p d l)(hps:1<=ps/\ps<=4)(hi:jD i=some (.int .i64 ((ni:Nat):Int)))(hni:ni<=1000)(hsi:cT i i=true):gH fns (.fn 94 [] []) [.ptr wb 0,.agg cs] S fun r S'=>r= .int .i64 (if vG x then 3 else if x.player<0\/ps - 1<x.player\/x.info<0\/(ni:Int) - 1<x.info then 2 else 0)/\Same S S':=by
 obtain⟨a,b,c,rfl,hn,hw,hp⟩:=hx;refine cF H.f94 (by simp) ?_;refine aj ?_;refine bQ ?_;refine dV (by refine aj ?_;exact bL _) ?_;intro S2 s2 n2 g3;refine aj ?_;have hn2:=hn.same s2;have hw2:=hw.same s2;have hp2:=hp.same s2;have hW2:=hW.same s2;refine aA (aA (aW (Q:=fun o A' X=>o= .normal/\A'.inr=false/\X=S2/\aD 0 A'.F= .ptr wb 0/\aD 3 A'.F= .ptr S.nx 0/\aD 27 A'.F= .bool (decide (vG x))) (aG ?_) ?_))
 ·by_cases c0:(0:Int)<(x.weights.length:Int)
  ·rw[Ab (show vG x from .inl c0)];simp only[↓aC,aB,rE,↓reduceIte,aF,aE,dL g3,dE g3,dI g3,dP g3,dW g3,hn2.len,hw2.len,hp2.len,Ah,Ab c0]
  by_cases c1:(0:Int)<(x.pay.length:Int)
  ·rw[Ab (show vG x from .inr (.inl c1))];simp only[↓aC,aB,rE,↓reduceIte,aF,aE,dL g3,dE g3,dI g3,dP g3,dW g3,hn2.len,hw2.len,hp2.len,Ah,Aa c0,Ab c1]
  by_cases c2:(x.next.length:Int)<1
  ·rw[Ab (show vG x from .inr (.inr (.inl c2)))];simp only[↓aC,aB,rE,↓reduceIte,aF,aE,dL g3,dE g3,dI g3,dP g3,dW g3,hn2.len,hw2.len,hp2.len,Ah,Aa c0,Aa c1,Ab c2]
  by_cases c3:(10:Int)<(x.next.length:Int)
  ·rw[Ab (show vG x from .inr (.inr (.inr (c3))))];simp only[↓aC,aB,rE,↓reduceIte,aF,aE,dL g3,dE g3,dI g3,dP g3,dW g3,hn2.len,hw2.len,hp2.len,Ah,Aa c0,Aa c1,Aa c2,Ab c3]
  rw[Aa (show ¬vG x by rintro(h0 | h1 | h2 | h3)<;>first | exact c0 h0 | exact c1 h1 | exact c2 h2 | exact c3 h3)];simp only[↓aC,aB,rE,↓reduceIte,aF,aE,dL g3,dE g3,dI g3,dP g3,dW g3,hn2.len,hw2.len,hp2.len,Ah,Aa c0,Aa c1,Aa c2,Aa c3]
 rintro o ⟨F,inr⟩ X ⟨rfl,q0,hX,p0,p3,pb⟩;simp only at q0 p0 p3 pb;subst q0;rw[hX];have sX:=s2;refine aj ?_;by_cases bad:vG x
 ·rw[if_pos bad];refine aM (fo pb (Ab bad)) ?_;refine bQ (aj ?_);refine aR (aj ?_);exact sX
 rw[if_neg bad];refine aK (fo pb (Aa bad)) (aH ?_);refine aj ?_;have w1:IntKind.i64.wrap (ps - 1)=ps - 1:=wrap_i64 ay ay;have w2:IntKind.i64.wrap ((ni:Int) - 1)=(ni:Int) - 1:=wrap_i64 ay ay;have lt3:S.nx<S2.nx:=by omega
 refine aA (aA (qO (fun _=>False) ?_));intro S3 s3 h3 n3;simp only[Aw,Ci,rA] at n3;simp only[↓sU,sD,rE,↓reduceIte,rA,p0,p3,aY,bN,bB,aF,aU,aE,eG hW2.1,dL g3,w1,hW2.2,lt3,Ap];rw[nT (k:=.i64) (n:=x.player) (ag)];refine af ?_;refine aC6 bg rfl ?_;intro S4 s4 n4 c4;refine af ?_;have s34:Same S2 S4:=s4.same s3 ay;refine aQ (rM H (aM2 ay c4) (by simp)) ?_;rintro _ Y ⟨rfl,hY⟩;refine⟨hY,?_⟩;refine cm @aDY ?_;have sY:=s2.trans (s34.trans hY);refine bQ (af ?_);by_cases h1:x.player<0\/ps - 1<x.player
 ·rw[if_pos (show x.player<0\/ps - 1<x.player\/x.info<0\/(ni:Int) - 1<x.info by omega)];refine aM (by simp only[↓sU,sD,rE,↓reduceIte,rA,if_pos h1];rfl) ?_;refine bQ ?_;simp only[↓sU,sD,rE,↓reduceIte,rA,if_pos h1];refine aR (af ?_);exact sY
 refine aK (by simp only[↓sU,sD,rE,↓reduceIte,rA,if_neg h1];rfl) (aH ?_);refine af ?_;have hWY:=hW.same sY;have g3Y:Y.h.get S.nx=some (.cells [.int .i64 x.kind,.int .i64 x.player,.int .i64 x.info,a,b,c] false 0):=by rw[(s34.trans hY).2 _ lt3];exact g3
 have lt3Y:S.nx<Y.nx:=Ae lt3 (s34.trans hY).1;refine aA (qO (fun _=>False) ?_);intro S5 s5 h5 n5;simp only[Aw,Ci,rA] at n5;simp only[↓sU,sD,rE,↓reduceIte,rA,p0,p3,aY,bN,bB,aF,aU,aE,dE hWY.1,hi,hsi,dE g3Y,w2,hWY.2,lt3Y,Ap];rw[nT (k:=.i64) (n:=x.info) (ag)];refine af ?_;refine aC6 bg rfl ?_;intro S6 s6 n6 c6;refine af ?_;have s56:Same Y S6:=s6.same s5 ay;refine aQ (rM H (aM2 ay c6) (by simp)) ?_;rintro _ Z ⟨rfl,hZ⟩;refine⟨hZ,?_⟩;refine cm @aDY ?_;refine aR (af ?_);refine⟨?_,sY.trans (s56.trans hZ)⟩;by_cases h2:x.info<0\/(ni:Int) - 1<x.info
 ·rw[if_pos h2,if_pos ay]
 ·rw[if_neg h2,if_neg ay]
theorem aNC(H:Has fns)(hx:cI S cs x)(hW:tQ S wb ps n i p d l)(hps:1<=ps/\ps<=4):gH fns (.fn 95 [] []) [.ptr wb 0,.agg cs] S fun r S'=>r= .int .i64 (if oB ps x then 3 else if iY (-1000000) 1000000 x.pay then 2 else 0)/\Same S S':=by
 obtain⟨a,b,c,rfl,hn,hw,hp⟩:=hx;refine cF H.f95 (by simp) ?_;refine aj ?_;refine bQ ?_;refine dV (by refine aj ?_;exact bL _) ?_;intro S2 s2 n2 g3;refine aj ?_;have hn2:=hn.same s2;have hw2:=hw.same s2;have hp2:=hp.same s2;have hW2:=hW.same s2;have sn:=bO.self hn2;have sw:=bO.self hw2;have sp:=bO.self hp2;refine aA (aA (aW (Q:=fun o A' X=>o= .normal/\A'.inr=false/\Same S2 X/\aD 3 A'.F= .ptr S.nx 0/\aD 35 A'.F= .bool (decide (oB ps x))) (iJ ?_) ?_))
 ·have sX:=Same.nx S2 31;by_cases c0:x.player≠0
  ·rw[Ab (show oB ps x from .inl c0)];simp only[↓aC,aB,rE,↓reduceIte,aF,aE,dL g3,dE g3,dI g3,dP g3,dW g3,hn2.len,hw2.len,hp2.len,Ah,aY,bN,bB,aU,gQ,eG hW2.1,sn,sw,sp,Ab c0];exact Same.nx S2 _
  by_cases c1:x.info≠0
  ·rw[Ab (show oB ps x from .inr (.inl c1))];simp only[↓aC,aB,rE,↓reduceIte,aF,aE,dL g3,dE g3,dI g3,dP g3,dW g3,hn2.len,hw2.len,hp2.len,Ah,aY,bN,bB,aU,gQ,eG hW2.1,sn,sw,sp,Aa c0,Ab c1];exact Same.nx S2 _
  by_cases c2:(0:Int)<(x.next.length:Int)
  ·rw[Ab (show oB ps x from .inr (.inr (.inl c2)))];simp only[↓aC,aB,rE,↓reduceIte,aF,aE,dL g3,dE g3,dI g3,dP g3,dW g3,hn2.len,hw2.len,hp2.len,Ah,aY,bN,bB,aU,gQ,eG hW2.1,sn,sw,sp,Aa c0,Aa c1,Ab c2];exact Same.nx S2 _
  by_cases c3:(0:Int)<(x.weights.length:Int)
  ·rw[Ab (show oB ps x from .inr (.inr (.inr (.inl c3))))];simp only[↓aC,aB,rE,↓reduceIte,aF,aE,dL g3,dE g3,dI g3,dP g3,dW g3,hn2.len,hw2.len,hp2.len,Ah,aY,bN,bB,aU,gQ,eG hW2.1,sn,sw,sp,Aa c0,Aa c1,Aa c2,Ab c3];exact Same.nx S2 _
  by_cases c4:(x.pay.length:Int)≠ps
  ·rw[Ab (show oB ps x from .inr (.inr (.inr (.inr (c4)))))];simp only[↓aC,aB,rE,↓reduceIte,aF,aE,dL g3,dE g3,dI g3,dP g3,dW g3,hn2.len,hw2.len,hp2.len,Ah,aY,bN,bB,aU,gQ,eG hW2.1,sn,sw,sp,Aa c0,Aa c1,Aa c2,Aa c3,Ab c4];exact Same.nx S2 _
  rw[Aa (show ¬oB ps x by rintro(h0 | h1 | h2 | h3 | h4)<;>first | exact c0 h0 | exact c1 h1 | exact c2 h2 | exact c3 h3 | exact c4 h4)];simp only[↓aC,aB,rE,↓reduceIte,aF,aE,dL g3,dE g3,dI g3,dP g3,dW g3,hn2.len,hw2.len,hp2.len,Ah,aY,bN,bB,aU,gQ,eG hW2.1,sn,sw,sp,Aa c0,Aa c1,Aa c2,Aa c3,Aa c4];exact Same.nx S2 _
 rintro o ⟨F,inr⟩ X ⟨rfl,q0,hX,p3,pb⟩;simp only at q0 p3 pb;subst q0;have sX:=s2.trans hX;have g3X:X.h.get S.nx=some (.cells [.int .i64 x.kind,.int .i64 x.player,.int .i64 x.info,a,b,c] false 0):=by rw[hX.2 _ ay];exact g3
 refine aj ?_;by_cases bad:oB ps x
 ·rw[if_pos bad];refine aM (fo pb (Ab bad)) ?_;refine bQ (aj ?_);refine aR (aj ?_);exact sX
 rw[if_neg bad];refine aK (fo pb (Aa bad)) (aH ?_);refine aj ?_;have hlen:x.pay.length<=60:=by unfold oB at bad;omega
 have hneg:Int.negSucc 999999= -1000000:=rfl;refine bQ (ez p3 @aF @aE (dW g3X) ?_);refine bE (eh hneg ?_);refine aQ (rM H (hp2.same hX) ay) ?_;rintro _ Y ⟨rfl,hY⟩;refine aR (aj ?_);exact sX.trans hY
end
section
variable {S:St}{wb:Nat}{ps:Int}{n i p d l:AV}{ni:Nat}{cs:b6}{x:cP}
theorem aKq(H:Has fns)(hx:cI S cs x)(hW:tQ S wb ps n i p d l)(hps:1<=ps/\ps<=4)(hi:jD i=some (.int .i64 ((ni:Nat):Int)))(hni:ni<=1000)(hsi:cT i i=true):gH fns (.fn 88 [] []) [.ptr wb 0,.agg cs] S fun r S'=>r= .int .i64 (iC ps ni x)/\Same S S':=by
 obtain⟨a,b,c,rfl,hn,hw,hp⟩:=id hx;refine cF H.f88 (by simp) ?_;refine aj ?_;refine bQ ?_;refine dV (by refine aj ?_;exact bL _) ?_;intro S1 s1 n1 g3;refine aj ?_;have hbd:∀ (F:Fr) (h:T AB),gT (.build [.nilfn,.nilfn,.nilfn,.nilfn] [(1,1,.c (.fn 93 [] [])),(2,1,.c (.fn 94 [] [])),(3,1,.c (.fn 95 [] []))]) F h=some (.agg [.nilfn,.fn 93 [] [],.fn 94 [] [],.fn 95 [] []]):=fun _ _=>rfl;refine bQ (eh hbd ?_);refine dC ?_;intro S2 s2 n2 c2;refine eS (b:=S1.nx) (ak) (by refine aj ?_;exact bL _) c2 rfl rfl ?_;intro S3 s3 n3 c3;refine aj ?_;have s13:Same S1 S3:=s3.same s2 (Ag _);have sS:=s1.trans s13;have g3:S3.h.get S.nx=some (.cells [.int .i64 x.kind,.int .i64 x.player,.int .i64 x.info,a,b,c] false 0):=by rw[s13.2 _ ay];exact g3
 have lt3:S.nx<S3.nx:=by omega
 have lt5:S1.nx<S3.nx:=by omega
 have hx3:cI S3 [.int .i64 x.kind,.int .i64 x.player,.int .i64 x.info,a,b,c] x:=bT hx sS;have hW3:=hW.same sS;have sl:=aBy (eM .i64 x.kind) (eM .i64 x.player) (eM .i64 x.info) (bO.self hn) (bO.self hw) (bO.self hp);unfold iC;refine aA (aA (aW (Q:=fun o A' X=>o= .normal/\A'.inr=false/\X=S3/\aD 0 A'.F= .ptr wb 0/\aD 3 A'.F= .ptr S.nx 0/\aD 5 A'.F= .ptr S1.nx 0/\aD 14 A'.F= .bool (decide (x.kind<1\/3<x.kind))) (aG ?_) ?_))
 ·by_cases h1:x.kind<1
  ·rw[Ab (show x.kind<1\/3<x.kind from .inl h1)];simp only[↓aC,aB,rE,↓reduceIte,aF,aE,eG g3,Ab h1]
  ·by_cases h2:3<x.kind
   ·rw[Ab (show x.kind<1\/3<x.kind from .inr h2)];simp only[↓aC,aB,rE,↓reduceIte,aF,aE,eG g3,Aa h1,Ab h2]
   ·rw[Aa (ay:¬ (x.kind<1\/3<x.kind))];simp only[↓aC,aB,rE,↓reduceIte,aF,aE,eG g3,Aa h1,Aa h2]
 rintro o ⟨F,inr⟩ X ⟨rfl,q0,hX,p0,p3,p5,pb⟩;simp only at q0 p0 p3 p5 pb;subst q0;rw[hX];refine aj ?_;by_cases bad:x.kind<1\/3<x.kind
 ·rw[if_neg ay,if_neg ay,if_neg ay];refine aM (fo pb (Ab bad)) ?_;refine bQ (aj ?_);refine aR (aj ?_);exact sS
 refine aK (fo pb (Aa bad)) (aH ?_);refine aj ?_;have hld:∀j y,[AV.nilfn,.fn 93 [] [],.fn 94 [] [],.fn 95 [] []][j]? =some y->eQ (.ptr S1.nx j) false 1 S3.h=some y:=fun j y hy=>by have:=ldc (j:=j) c3 hy;rw[An] at this;exact this
 have n1':fG (.int .i64 1)=some 1:=rfl;have n2':fG (.int .i64 2)=some 2:=rfl;have n3':fG (.int .i64 3)=some 3:=rfl;have i1:fC (.arr 4 1) (.ptr S1.nx 0) 1=some (.ptr S1.nx 1):=rfl;have i2:fC (.arr 4 1) (.ptr S1.nx 0) 2=some (.ptr S1.nx 2):=rfl;have i3:fC (.arr 4 1) (.ptr S1.nx 0) 3=some (.ptr S1.nx 3):=rfl;have l1:=hld 1 _ rfl;have l2:=hld 2 _ rfl;have l3:=hld 3 _ rfl;have f1:cT (.fn 93 [] []) (.fn 93 [] [])=true:=rfl;have f2:cT (.fn 94 [] []) (.fn 94 [] [])=true:=rfl;have f3:cT (.fn 95 [] []) (.fn 95 [] [])=true:=rfl;have g3':=ldN g3;refine aA (dO (fun _=>False) ?_);intro S4 s4;by_cases k1:x.kind=1
 ·rw[if_pos k1];rw[k1] at g3 g3' sl hx3;simp only[↓sU,sD,rE,↓reduceIte,rA,p0,p3,p5,aF,aU,aE,eG g3,n1',i1,l1,f1,g3',sl,lt3,lt5,Ap];refine cL rfl ?_;refine af ?_;refine aQ (aHi H (by have:=bT hx (sS.trans s4);rw[k1] at this;exact this)) ?_;rintro _ Y ⟨rfl,hY⟩;refine⟨hY,?_⟩;refine aR (af ?_);exact sS.trans (s4.trans hY)
 by_cases k2:x.kind=2
 ·rw[if_neg k1,if_pos k2];rw[k2] at g3 g3' sl;simp only[↓sU,sD,rE,↓reduceIte,rA,p0,p3,p5,aF,aU,aE,eG g3,n2',i2,l2,f2,g3',sl,lt3,lt5,Ap];refine cL rfl ?_;refine af ?_;refine aQ (aK0 H (by have:=bT hx (sS.trans s4);rw[k2] at this;exact this) (hW3.same s4) hps hi hni hsi) ?_;rintro _ Y ⟨rfl,hY⟩;refine⟨hY,?_⟩;refine aR (af ?_);exact sS.trans (s4.trans hY)
 have k3:x.kind=3:=by omega
 rw[if_neg k1,if_neg k2,if_pos k3];rw[k3] at g3 g3' sl;simp only[↓sU,sD,rE,↓reduceIte,rA,p0,p3,p5,aF,aU,aE,eG g3,n3',i3,l3,f3,g3',sl,lt3,lt5,Ap];refine cL rfl ?_;refine af ?_;refine aQ (aNC H (by have:=bT hx (sS.trans s4);rw[k3] at this;exact this) (hW3.same s4) hps) ?_;rintro _ Y ⟨rfl,hY⟩;refine⟨hY,?_⟩;refine aR (af ?_);exact sS.trans (s4.trans hY)
end
abbrev cK:=Int×Int×Int
def fH(rec:Nat->Option (List cK)):bu->Nat->Option (List cK)
 | [],_=>some []
 | c::l,r=>if c=(r:Int) then(rec r).bind fun L1=>(fH rec l (r+L1.length)).map (L1++ ·) else none
def eJ(N:Nat)(nx:Nat->bu):Nat->Nat->Int->Int->Option (List cK)
 | 0,_,_,_=>none
 | f+1,at_,p,d=>if at_<N then(fH (fun r=>eJ N nx f r at_ (d+1)) (nx at_) (at_+1)).map fun L=>(p,d,((at_+L.length:Nat):Int))::L else none
def uG(m:Int)(L:List cK):Int:=L.foldl (fun m t=>mx m t.2.1) m
theorem aHg(m:Int)(L L':List cK):uG m (L++L')=uG (uG m L) L':=List.foldl_append ..
theorem aE4(m:Int)(t:cK)(L:List cK):uG m (t::L)=uG (mx m t.2.1) L:=rfl
def dN(g:bD)(i:Nat):bu:=((g.bk[i]?).map (·.next)).getD []
theorem uM{g:bD}{i:Nat}{x:cP}(h:g.bk[i]? =some x):dN g i=x.next:=by unfold dN;rw[h];rfl
theorem aFg{rec:Nat->Option (List cK)}{N:Nat}(hr:∀r L,rec r=some L->r+L.length<=N/\0<L.length):∀ {l:bu} {r:Nat} {L:List cK},r<=N->fH rec l r=some L->r+L.length<=N
 | [],r,L,h,hk=>by simp only[fH,Ao] at hk;subst hk;simpa using h
 | c::l,r,L,h,hk=>by
  simp only[fH] at hk;split at hk
  ·have⟨L1,h1,h2⟩:=Co.1 hk;obtain⟨L2,h3,rfl⟩:=Az.1 h2;have:=aFg hr (hr r L1 h1).1 h3;rw[Ai];omega
  ·cases hk
theorem xK{N:Nat}{nx:Nat->bu}:∀ {f at_:Nat} {p d:Int} {L:List cK},eJ N nx f at_ p d=some L->at_+L.length<=N/\0<L.length
 | 0,at_,p,d,L,h=>by cases h
 | f+1,at_,p,d,L,h=>by
  simp only[eJ] at h;split at h
  ·rename_i hlt;obtain⟨L',h1,rfl⟩:=Az.1 h;have:=aFg (N:=N) (fun r L hr=>xK hr) (ay:at_+1<=N) h1;rw[Aw];omega
  ·cases h
theorem aP.tail{k:Nat}{α:Type}{E:St->b6->α->Prop}{S:St}{v:AV}{a:α}{l:List α}(h:aP k E S v (a::l)):∃v',(∀ (F:Fr) (x:cU),fG (x.val F)=some 1->rQ (.slice k) v (some x) none none F=some v')/\aP k E S v' l:=by
 rcases h with⟨h0,_⟩ | ⟨b,off,cap,o,cs,rfl,hc,hb,hcs,hel⟩
 ·cases h0
 ·rw[Aw] at hc;have e1:Nat.ble cap cap=true:=Ak (Ag _);have e2:Nat.ble (l.length+1) cap=true:=Ak hc;have e3:Nat.ble 1 (l.length+1)=true:=Ak ay;by_cases h1:cap=1
  ·have hl:l= []:=Bv.1 ay;subst hl;subst h1;have e4:Nat.beq 1 1=true:=rfl;refine⟨cB o .emp (.sl b off 0 0 false),fun F x hx=>?_,?_⟩
   ·simp only[rQ,aHp,mD,jO,aN,hx,Aw,Ci];cases o<;>rfl
   ·cases o with
    | true=>exact .inl ⟨rfl,.inr rfl⟩
    | false=>exact .inr ⟨b,off,0,false,cs,rfl,Ag _,hb,hcs,fun i a hi=>by simp at hi⟩
  ·have e4:Nat.beq cap 1=false:=by rw[Ch];intro h;rw[Bg] at h;omega
   refine⟨.sl b (off+1 * k) (l.length+1 - 1) (cap - 1) o,fun F x hx=>?_,.inr ⟨b,off+1 * k,cap - 1,o,cs,by simp,ay,hb,hcs,fun i a' hi=>?_⟩⟩
   ·simp only[rQ,aHp,mD,jO,aN,hx,Aw,e1,e2,e3,aO,e4,aT,Option.isNone_none];cases o<;>rfl
   ·have⟨e,h1,h2,h3⟩:=hel (i+1) a' (by simpa using hi);refine⟨e,h1,fun j x hj=>?_,h3⟩;have:=h2 j x hj;rw[show off+1 * k+i * k+j=off+(i+1) * k+j by rw[Ec];omega];exact this
theorem aCv(a b:Int):mT true [.int .i64 a,.int .i64 b]=some (.int .i64 (mx a b)):=by rw[aOa,aQd,aPV]
def aIY(S:St)(db:Nat)(at_:Nat)(deep:Int)(o:Option (List cK))(r:AV)(S':St):Prop:=
 cC db S S'/\match o with
 | some L=>r= .int .i64 ((at_+L.length:Nat):Int)/\S'.h.get db=some (.cells [.int .i64 (uG deep L)] false 0)
 | none=>r= .int .i64 (-1)/\∃z,S'.h.get db=some (.cells [.int .i64 z] false 0)
def aPd(S1:St)(gb db at_:Nat)(d deep1:Int)(rec:Nat->Option (List cK))(ks:bu)(k:Nat)(A:bS)(X:St):Prop:=
 A.inr=false/\cC db S1 X/\∃ (j:Nat) (L:List cK),j+k=ks.length/\at_+1+L.length<=2000/\fH rec ks (at_+1)=(fH rec (ks.drop j) (at_+1+L.length)).map (L++ ·)/\aD 1 A.F= .int .i64 (at_:Int)/\aD 2 A.F= .int .i64 d/\aD 3 A.F= .ptr db 0/\aD 4 A.F= .ptr gb 0/\aD 9 A.F= .int .i64 ((at_+1+L.length:Nat):Int)/\aD 10 A.F= .int .i64 (j:Int)/\X.h.get db=some (.cells [.int .i64 (uG deep1 L)] false 0)
theorem aIA{S0:St}{gv:AV}{g:bD}{db:Nat}(H:Has fns)(hG:aP7 S0 gv g)(hdb:S0.nx<=db)(hN:g.bk.length<=2000):∀ (f:Nat) {S:St} {at_:Nat} {p d deep:Int},g.bk.length+1 - at_<=f->0<=d->d<=at_->at_<=3000->(∀x∈g.bk,x.next.length<=1000)->Same S0 S->db<S.nx->S.h.get db=some (.cells [.int .i64 deep] false 0)->
  gH fns (.fn 54 [] []) [gv,.int .i64 (at_:Int),.int .i64 d,.ptr db 0] S fun r S'=>aIY S db at_ deep (eJ g.bk.length (dN g) f at_ p d) r S':=by
 intro f
 induction f with
 | zero=>
  intro S at_ p d deep hf hd0 hd hat hlen hS hlt hdeep;obtain⟨nv,iv,rfl,hn,hi⟩:=id hG;have hnS:=aP.same (E:=cI) bT hn hS;refine cF H.f54 (by simp) ?_;refine aj ?_;refine bQ ?_;refine dV (by refine aj ?_;exact bL _) ?_;intro S1 s1 n1 c1;refine aj ?_;refine fE (ez @aF @aE (aJU c1) hnS.len ?_);refine aM ff ?_;refine bQ (aj ?_);refine aR (aj ?_);exact⟨⟨s1.1,fun c hc _=>s1.2 c hc⟩,rfl,deep,by rw[s1.2 _ hlt];exact hdeep⟩
 | succ f ih=>
  intro S at_ p d deep hf hd0 hd hat hlen hS hlt hdeep;obtain⟨nv,iv,rfl,hn,hi⟩:=id hG;have hnS:=aP.same (E:=cI) bT hn hS;refine cF H.f54 (by simp) ?_;refine aj ?_;refine bQ ?_;refine dV (by refine aj ?_;exact bL _) ?_;intro S1 s1 n1 c1;refine aj ?_;have hdeep1:S1.h.get db=some (.cells [.int .i64 deep] false 0):=by rw[s1.2 _ hlt];exact hdeep
  have b1:cC db S S1:=⟨s1.1,fun c hc _=>s1.2 c hc⟩;refine fE (ez @aF @aE (aJU c1) hnS.len ?_);by_cases hlt':at_<g.bk.length;rotate_left
  ·refine aM ff ?_;refine bQ (aj ?_);refine aR (aj ?_);refine⟨b1,?_⟩;simp only[eJ,if_neg hlt'];exact⟨rfl,deep,hdeep1⟩
  refine aK ff (aH ?_);refine aj ?_;obtain⟨x,hx⟩:∃x,g.bk[at_]? =some x:=⟨_,Ac hlt'⟩;have hnx:=uM hx;have hxl:=hlen x (Bu hx);have w1:=dc at_
  have w2:IntKind.i64.wrap (d+1)=d+1:=wrap_i64 ay ay;have ldd:eQ (.ptr db 0) false 1 S1.h=some (.int .i64 deep):=ldc (j:=0) hdeep1 rfl;refine bQ ?_;simp only[↓aC,aB,rE,↓reduceIte,aY,bB,ldd,aMO,jI,oE,aCv];refine eS (b:=db) (ak) (by refine aj ?_;exact cH _ _) hdeep1 rfl rfl ?_;intro S2 s2 n2 c2;refine aj ?_;have b2:=b1.trans s2;have gb2:S2.h.get S.nx=some (.cells [.int .i64 g.bo,nv,iv] false 0):=by rw[s2.2 _ ay ay];exact c1
  refine bQ (eh w1 ?_);refine fE (aj ?_);have hW:eJ g.bk.length (dN g) (f+1) at_ p d=(fH (fun r=>eJ g.bk.length (dN g) f r at_ (d+1)) x.next (at_+1)).map fun L=>(p,d,((at_+L.length:Nat):Int))::L:=by
   simp only[eJ,if_pos hlt',hnx]
  rw[hW];refine aW (Q:=fun o A' X=>(o= .normal/\aPd S2 S.nx db at_ d (mx deep d) (fun r=>eJ g.bk.length (dN g) f r at_ (d+1)) x.next 0 A' X)\/(o= .ret/\cC db S2 X/\fH (fun r=>eJ g.bk.length (dN g) f r at_ (d+1)) x.next (at_+1)=none/\aD 8 A'.F= .int .i64 (-1)/\∃z,X.h.get db=some (.cells [.int .i64 z] false 0))) (aL (bK (aPd S2 S.nx db at_ d (mx deep d) (fun r=>eJ g.bk.length (dN g) f r at_ (d+1)) x.next) ?_ x.next.length _ _ ⟨rfl,cC.refl _ _,0,[],ay,by rw[Ci];omega,by simp,ak,ak,ak,ak,by simp only[↓aC,aB,rE,↓reduceIte];rfl,ak,c2⟩)) ?_
  ·rintro k ⟨F,inr⟩ X ⟨q0,hX,j,L,hjk,hL20,hkid,p1,p2,p3,p4,p9,p10,hdX⟩;simp only at q0 p1 p2 p3 p4 p9 p10;subst q0;have hbX:=b2.trans hX;have hSX:Same S0 X:=cC.same hS hbX hdb;have gbX:X.h.get S.nx=some (.cells [.int .i64 g.bo,nv,iv] false 0):=by rw[hX.2 _ ay ay];exact gb2
   obtain⟨e,b,q,hia,hb,he,⟨a,bb,cc,rfl,ha,_,_⟩,_,hlf⟩:=aP.at (aP.same (E:=cI) bT hn hSX) bg hx;have hl3:=hlf 3 a rfl;refine fE ?_;simp only[↓aC,aB,rE,↓reduceIte,p1,p4,p10,aF,aE,aJU gbX,aJ,hia,hl3,ha.len,Ah];by_cases hj:j<x.next.length
   ·refine aM ff (aH ?_);refine aj ?_;have hias:=ha.cn hj;have hlds:=ha.ld hj;have hdrop:x.next.drop j=x.next[j]::x.next.drop (j+1):=Cg hj;have hgd:x.next.getD j 0=x.next[j]:=by rw[Ad,Ac hj];rfl
    rw[hgd] at hlds;rw[hdrop] at hkid;generalize x.next[j]=c at *;refine aA (aL (aA (aA (aG ?_))));simp only[↓aC,aB,rE,↓reduceIte,p1,p4,p9,p10,aF,aE,aJU gbX,aJ,hia,hl3,hias,hlds];by_cases hc:c=((at_+1+L.length:Nat):Int);rotate_left
    ·refine aM (fm (Ab (show c≠((at_+1+L.length:Nat):Int) from hc))) ?_;refine bQ (aj ?_);refine aR (aj ?_);refine .inr ⟨hX,?_,rfl,_,hdX⟩;rw[hkid];simp only[fH,if_neg hc];rfl
    refine aK (fm (Aa (show ¬c≠((at_+1+L.length:Nat):Int) from fun h=>h hc))) (aH ?_);simp only[↓aC,aB,rE,↓reduceIte];simp only[fH,if_pos hc] at hkid;have hr:at_+1+L.length<=3000:=by omega
    refine bQ ?_;simp only[↓aC,aB,rE,↓reduceIte,p2,p3,p4,p9,ld3 gbX,w2];refine bE (aj ?_);refine aQ (ih (S:=X) (at_:=at_+1+L.length) (p:=at_) (d:=d+1) ay ay ay hr hlen hSX (Ae hlt hbX.1) hdX) ?_;rintro r Y ⟨hY,hres⟩;cases hw:eJ g.bk.length (dN g) f (at_+1+L.length) at_ (d+1) with
    | none=>
     rw[hw] at hres hkid;obtain⟨rfl,hz⟩:=hres;refine bQ (aj ?_);refine aM (by simp only[↓aC,aB,rE,↓reduceIte];rfl) ?_;refine bQ (aj ?_);refine aR (aj ?_);refine .inr ⟨hX.trans hY,?_,rfl,hz⟩;rw[hkid];rfl
    | some L1=>
     rw[hw] at hres hkid;obtain⟨rfl,hdY⟩:=hres;have hwl:=(xK hw).1;simp only[Option.bind_some,Option.map_map] at hkid;refine bQ (aj ?_);refine aK ff (aH ?_);refine aj ?_;refine aG ?_;have w3:=dc j
     refine eu p10 w3 ?_;refine⟨k - 1,ay,rfl,hX.trans hY,j+1,L++L1,ay,by rw[Ai];omega,?_,am p1,am p2,am p3,am p4,by simp only[↓aC,aB,rE,↓reduceIte,Ai];congr 1;omega,ak,?_⟩
     ·rw[hkid,Ai,<-Db];congr 1;funext M;simp
     ·rw[aHg];exact hdY
   ·refine aK ff (bG ?_);refine aj ?_;have hk0:k=0:=by omega
    subst hk0;exact .inl ⟨rfl,hX,j,L,hjk,hL20,hkid,am p1,am p2,am p3,am p4,am p9,am p10,hdX⟩
  rintro o ⟨F,inr⟩ X (⟨rfl,q0,hX,j,L,hjk,hL20,hkid,p1,p2,p3,p4,p9,p10,hdX⟩ | ⟨rfl,hX,hno,p8,hz⟩)
  ·simp only at q0 p9;subst q0;rw[Ct ay] at hkid;simp only[fH,Fd,Bi] at hkid;rw[hkid];refine aj ?_;refine bQ (eh p9 ?_);refine aR (aj ?_);refine⟨b2.trans hX,?_,?_⟩
   ·congr 1;simp;omega
   ·exact hdX
  ·rw[hno];simp only at p8;refine eh p8 ?_;exact⟨b2.trans hX,rfl,hz⟩
def bJ(l:bu):b6:=l.map (AV.int .i64)
theorem aDQ(l:bu):(bJ l).length=l.length:=by simp [bJ]
theorem oM{S S':St}(h:Same S S'){b p n:Nat}{agg:Bool}(hb:b<S.nx):eQ (.ptr b p) agg n S'.h=eQ (.ptr b p) agg n S.h:=by
 have e:=uP h hb;simp only[eQ,nP,uY,mM,e]
theorem sP{S:St}{b p:Nat}{w:Int}{l:bu}{o:Bool}{sz:Nat}(h:S.h.get b=some (.cells (bJ l) o sz))(hp:p<l.length):mJ (.ptr b p) 1 [.int .i64 w] S=some (.undef,⟨S.h.set b (some (.cells (bJ (l.set p w)) o sz)),S.nx⟩):=by
 have hput:put (bJ l) p [AV.int .i64 w]=some (bJ (l.set p w)):=by
  rw[put_eq,if_pos (by rw[aDQ];simp;omega)];congr 1;unfold bJ;rw[List.map_set,List.set_eq_take_append_cons_drop,if_pos (by simp;omega)];simp
 simp only[mJ,pJ,h,aN,vX,hput];rfl
theorem aCT{S:St}{b N sz:Nat}{l:bu}{o:Bool}(h:S.h.get b=some (.cells (bJ l) o sz))(hb:b<S.nx)(hl:l.length=N):bO .i64 S (.sl b 0 N N false) l:=by
 subst hl;refine .inr ⟨b,0,l.length,false,bJ l,rfl,Ag _,hb,by unfold cJ;rw[h];rfl,fun i x hi=>?_⟩;rw[An];unfold bJ;rw[Bc,hi];rfl
theorem eX{b N i:Nat}{o:Bool}(hi:i<N):fC (.slice 1) (.sl b 0 N N o) i=some (.ptr b i):=ia8 hi
theorem aBO{W:Nat->Prop}{h0:T AB}{base m i:Nat}{l:List AO}{F:Fr}{S:St}{last:Option Nat}{Q:Fr->St->List iH->Prop}{x v:cU}{b p sz:Nat}{w:Int}{P:bu}{o:Bool}(h:mB last m=true)(hx:x.val F= .ptr b p)(hv:v.val F= .int .i64 w)(hb:S.h.get b=some (.cells (bJ P) o sz))(hp:p<P.length)(hW:W b)
  (hr:∀S1,cC b S S1->S1.nx=S.nx->S1.h.get b=some (.cells (bJ (P.set p w)) o sz)->gN fns W h0 base l (i+1) F S1 [] (some i) Q):gN fns W h0 base (⟨none,.x (.st 1 x v),none,m⟩::l) i F S [] last Q:=by
 have hS:cC b S ⟨S.h.set b (some (.cells (bJ (P.set p w)) o sz)),S.nx⟩:=(cC.refl b S).put _;refine xG (S1:=⟨S.h.set b (some (.cells (bJ (P.set p w)) o sz)),S.nx⟩) h ?_ ⟨Ag _,fun c hc hw=>?_⟩ (hr _ hS rfl ?_)
 ·rw[hv,cH,aN,hx];exact sP (S:=S) hb hp
 ·simp only;rw[dd,if_neg (show ¬c=b from fun e=>hw (by rw[e];exact hW))];rfl
 ·simp only;rw[dd,if_pos rfl]
def vP(T:List cK)(a j:Nat):Option cK:=if a<=j then T[j - a]? else none
def iN(sel:cK->Int)(P P':bu)(T:List cK)(a:Nat):Prop:=P'.length=P.length/\∀j,P'.getD j 0=((vP T a j).map sel).getD (P.getD j 0)
theorem iN.nil(sel:cK->Int)(P:bu)(a:Nat):iN sel P P [] a:=⟨rfl,fun j=>by unfold vP;split<;>simp⟩
theorem aOV{T:List cK}{a j:Nat}{t:cK}(h:vP T a j=some t):a<=j/\j<a+T.length:=by
 unfold vP at h;split at h
 ·have:=(Aj.1 h).1;omega
 ·cases h
theorem aLq{T:List cK}{a j:Nat}(h:j<a\/a+T.length<=j):vP T a j=none:=by
 unfold vP;split
 ·exact Bz ay
 ·rfl
theorem aCn(T T':List cK)(a j:Nat):vP (T++T') a j=(vP T a j).or (vP T' (a+T.length) j):=by
 unfold vP;by_cases h:a<=j
 ·rw[if_pos h,if_pos h,Em];by_cases h1:j - a<T.length
  ·rw[if_pos h1,if_neg ay,Ac h1];rfl
  ·rw[if_neg h1,if_pos ay,Bz (l:=T) (i:=j - a) ay,show j - a - T.length=j - (a+T.length) by omega];rfl
 ·rw[if_neg h,if_neg h,if_neg ay];rfl
theorem iN.append{sel:cK->Int}{P P1 P2:bu}{T T':List cK}{a:Nat}(h1:iN sel P P1 T a)(h2:iN sel P1 P2 T' (a+T.length)):iN sel P P2 (T++T') a:=by
 refine⟨h2.1.trans h1.1,fun j=>?_⟩;rw[h2.2,h1.2,aCn];cases hc:vP T a j with
 | none=>rfl
 | some t=>
  have:=aOV hc;rw[aLq ay];rfl
theorem gE{P:bu}{i j:Nat}{v:Int}(hi:i<P.length):(P.set i v).getD j 0=if j=i then v else P.getD j 0:=by
 rw[Ad,Du];by_cases h:i=j
 ·subst h;rw[if_pos rfl,if_pos rfl,if_pos hi];rfl
 ·rw[if_neg h,if_neg (Cx h),Ad]
theorem aGN(t:cK)(a j:Nat):vP [t] a j=if j=a then some t else none:=by
 unfold vP;by_cases h:j=a
 ·subst h;simp
 ·rw[if_neg h];split
  ·exact Bz (by simp;omega)
  ·rfl
theorem iN.one{sel:cK->Int}{P:bu}{t:cK}{a:Nat}{v:Int}(ha:a<P.length)(hv:sel t=v):iN sel P (P.set a v) [t] a:=by
 refine⟨Ar ..,fun j=>?_⟩;rw[gE ha,aGN];by_cases h:j=a
 ·rw[if_pos h,if_pos h,<-hv];rfl
 ·rw[if_neg h,if_neg h];rfl
theorem iN.late{sel:cK->Int}{P P1:bu}{t:cK}{L:List cK}{a:Nat}{v:Int}(h:iN sel P P1 L (a+1))(ha:a<P.length)(hv:sel t=v):iN sel P (P1.set a v) (t::L) a:=by
 refine⟨by rw[Ar];exact h.1,fun j=>?_⟩;rw[gE (by rw[h.1];exact ha),h.2];have e:vP (t::L) a j=(vP [t] a j).or (vP L (a+1) j):=aCn [t] L a j;rw[e,aGN];by_cases hj:j=a
 ·rw[if_pos hj,if_pos hj,<-hv];rfl
 ·rw[if_neg hj,if_neg hj];rfl
structure WK(S:St)(wb pb db lb N:Nat)(ps:Int)(nv iv:AV)(P D L:bu):Prop where
 w:tQ S wb ps nv iv (.sl pb 0 N N false) (.sl db 0 N N false) (.sl lb 0 N N false)
 gp:S.h.get pb=some (.cells (bJ P) false 0)
 gd:S.h.get db=some (.cells (bJ D) false 0)
 gl:S.h.get lb=some (.cells (bJ L) false 0)
 lp:P.length=N
 ld:D.length=N
 ll:L.length=N
 bp:pb<S.nx
 bd:db<S.nx
 bl:lb<S.nx
def qW(pb db lb:Nat)(S S':St):Prop:=S.nx<=S'.nx/\∀c,c<S.nx->c≠pb->c≠db->c≠lb->S'.h.get c=S.h.get c
theorem qW.refl(pb db lb:Nat)(S:St):qW pb db lb S S:=⟨Ag _,fun _ _ _ _ _=>rfl⟩
theorem qW.trans{pb db lb:Nat}{S S' S'':St}(h:qW pb db lb S S')(h':qW pb db lb S' S''):qW pb db lb S S'':=⟨Au h.1 h'.1,fun c hc h1 h2 h3=>(h'.2 c (Ae hc h.1) h1 h2 h3).trans (h.2 c hc h1 h2 h3)⟩
theorem qW.same{pb db lb:Nat}{S0 S S':St}(h0:Same S0 S)(h:qW pb db lb S S')(h1:S0.nx<=pb)(h2:S0.nx<=db)(h3:S0.nx<=lb):Same S0 S':=⟨Au h0.1 h.1,fun c hc=>(h.2 c (Ae hc h0.1) ay ay ay).trans (h0.2 c hc)⟩
def aQ7(S0 S:St)(wb pb db lb:Nat)(ps:Int)(nv iv:AV)(g:bD)(P D L:bu)(at_:Nat)(o:Option (List cK))(r:AV)(S':St):Prop:=
 qW pb db lb S S'/\∃P' D' L',WK S' wb pb db lb g.bk.length ps nv iv P' D' L'/\match o with
 | some T=>(∃v,r= .tup [v,.bool true]/\aP 6 cI S0 v (g.bk.drop (at_+T.length)))/\iN (·.1) P P' T at_/\iN (·.2.1) D D' T at_/\iN (·.2.2) L L' T at_
 | none=>r= .tup [.cb,.bool false]
def aRi(S0 S2:St)(wb pb db lb:Nat)(ps:Int)(nv iv a:AV)(g:bD)(P D L:bu)(at_:Nat)(d:Int)(rec:Nat->Option (List cK))(ks:bu)(k:Nat)(A:bS)(X:St):Prop:=
 A.inr=false/\qW pb db lb S2 X/\∃ (j:Nat) (T:List cK) (P' D' L':bu) (v:AV),j+k=ks.length/\at_+1+T.length<=g.bk.length/\fH rec ks (at_+1)=(fH rec (ks.drop j) (at_+1+T.length)).map (T++ ·)/\
  WK X wb pb db lb g.bk.length ps nv iv P' D' L'/\iN (·.1) P P' T (at_+1)/\iN (·.2.1) D D' T (at_+1)/\iN (·.2.2) L L' T (at_+1)/\aP 6 cI S0 v (g.bk.drop (at_+1+T.length))/\
  aD 0 A.F= .ptr wb 0/\aD 2 A.F= .int .i64 d/\aD 10 A.F= .int .i64 (at_:Int)/\aD 11 A.F=v/\aD 46 A.F=a/\aD 47 A.F= .int .i64 (ks.length:Int)/\aD 48 A.F= .int .i64 (j:Int)
theorem aKE{S0:St}{nv iv:AV}{g:bD}{wb pb db lb:Nat}{ps:Int}(H:Has fns)(hG:aP 6 cI S0 nv g.bk)(hwb:S0.nx<=wb)(hpb:S0.nx<=pb)(hdb:S0.nx<=db)(hlb:S0.nx<=lb)(ne1:pb≠db)(ne2:pb≠lb)(ne3:db≠lb)(ne4:wb≠pb)(ne5:wb≠db)(ne6:wb≠lb)(hN:g.bk.length<=2000)(hlen:∀x∈g.bk,x.next.length<=1000):
  ∀ (f:Nat) {S:St} {at_:Nat} {p d:Int} {rv:AV} {P D L:bu},g.bk.length+1 - at_<=f->0<=d->d<=at_->at_<=g.bk.length->Same S0 S->WK S wb pb db lb g.bk.length ps nv iv P D L->aP 6 cI S0 rv (g.bk.drop at_)->
  gH fns (.fn 89 [] []) [.ptr wb 0,.int .i64 p,.int .i64 d,rv] S fun r S'=>aQ7 S0 S wb pb db lb ps nv iv g P D L at_ (eJ g.bk.length (dN g) f at_ p d) r S':=by
 intro f
 induction f with
 | zero=>intro S at_ p d rv P D L hf hd0 hd hat;omega
 | succ f ih=>
  intro S at_ p d rv P D L hf hd0 hd hat hS hK hrv;have hrl:=hrv.len;rw[De] at hrl;refine cF H.f89 (by simp) ?_;refine af ?_;refine bQ (af ?_);refine fE (cm hrl ?_);by_cases hlt:at_<g.bk.length;rotate_left
  ·refine aM fe ?_;refine bQ (af ?_);refine aR ?_;simp only[↓sU,sD,rE,↓reduceIte,rA];simp only[eJ,if_neg hlt];exact⟨qW.refl _ _ _ _,P,D,L,hK,rfl⟩
  refine aK fe (aH ?_);refine af ?_;obtain⟨x,hx⟩:∃x,g.bk[at_]? =some x:=⟨_,Ac hlt⟩;have hnx:=uM hx;have hxl:=hlen x (Bu hx);have hnl:=hG.len;have hdrop:g.bk.drop at_=x::g.bk.drop (at_+1):=by
   rw[Cg hlt];congr 1;rw[Ac hlt] at hx;exact Bl hx
  rw[hdrop] at hrv;have w1:IntKind.i64.wrap ((g.bk.length:Int) - ((g.bk.length - at_:Nat):Int))=(at_:Int):=by rw[wrap_i64 ay ay];omega
  refine bQ (dy @aY @bB @aF @aE (dL hK.w.1) hnl hrl w1 ?_);have wlt:=hK.w.2;have hwn:¬ (wb=pb\/wb=db):=by omega
  refine aA (dO (fun b=>b=pb\/b=db) ?_);intro S1 s1;have hia1:=eX (b:=pb) (o:=false) hlt;have hia2:=eX (b:=db) (o:=false) hlt;simp only[↓sU,sD,rE,↓reduceIte,rA,aY,bN,bB,aF,aU,aE,dI hK.w.1,dP hK.w.1,wlt,hwn,Ap,hia1,hia2];have l1:=s1.1;have bp:=hK.bp;have bd:=hK.bd;have bl:=hK.bl;refine aBO (p:=at_) (w:=p) rfl (ag) (ag) (by rw[s1.2 _ hK.bp];exact hK.gp) (by rw[hK.lp];exact hlt) (.inl rfl) ?_;intro S2 s2 n2 c2;refine cm hia2 ?_;refine aBO (p:=at_) (w:=d) (bg:Nat.testBit 32767 13=true) (ag) (ag) (by rw[s2.2 _ ay (Cx ne1),s1.2 _ hK.bd];exact hK.gd) (by rw[hK.ld];exact hlt) (.inr rfl) ?_;intro S3 s3 n3 c3;refine af ?_;have b3:qW pb db lb S S3:=⟨ay,fun c hc h1 h2 h3=>by rw[s3.2 _ ay h2,s2.2 _ ay h1,s1.2 _ hc]⟩;have hS3:Same S0 S3:=b3.same hS hpb hdb hlb;have hK3:WK S3 wb pb db lb g.bk.length ps nv iv (P.set at_ p) (D.set at_ d) L:=⟨⟨by rw[b3.2 _ wlt ne4 ne5 ne6];exact hK.w.1,Ae wlt b3.1⟩,by rw[s3.2 _ ay ne1];exact c2,c3,by rw[s3.2 _ ay (Cx ne3),s2.2 _ ay (Cx ne2),s1.2 _ hK.bl];exact hK.gl,by rw[Ar];exact hK.lp,by rw[Ar];exact hK.ld,hK.ll,ay,ay,ay⟩;have⟨rv',hslc,hrv'⟩:=aP.tail hrv;have hsl1:∀F:Fr,rQ (.slice 6) rv (some (.c (.int .i64 1))) none none F=some rv':=fun F=>hslc F _ rfl;refine bQ (cm hsl1 ?_);obtain⟨e,b,q,hia,hb,he,⟨a,bb,cc,rfl,ha,_,_⟩,_,hlf⟩:=aP.at hrv bg (i:=0) rfl;have hl3:=hlf 3 a rfl;rw[<-oM hS3 hb] at hl3;refine fE (dx @aAX hia @aF @aE hl3 ha.len @Ah ?_);have hW:eJ g.bk.length (dN g) (f+1) at_ p d=(fH (fun r=>eJ g.bk.length (dN g) f r at_ (d+1)) x.next (at_+1)).map fun L=>(p,d,((at_+L.length:Nat):Int))::L:=by
   simp only[eJ,if_pos hlt,hnx]
  rw[hW];refine aW (Q:=fun o A' X=>(o= .normal/\aRi S0 S3 wb pb db lb ps nv iv a g (P.set at_ p) (D.set at_ d) L at_ d (fun r=>eJ g.bk.length (dN g) f r at_ (d+1)) x.next 0 A' X)\/(o= .ret/\qW pb db lb S3 X/\fH (fun r=>eJ g.bk.length (dN g) f r at_ (d+1)) x.next (at_+1)=none/\aD 8 A'.F= .cb/\aD 9 A'.F= .bool false/\∃P' D' L',WK X wb pb db lb g.bk.length ps nv iv P' D' L')) (aL (bK (aRi S0 S3 wb pb db lb ps nv iv a g (P.set at_ p) (D.set at_ d) L at_ d (fun r=>eJ g.bk.length (dN g) f r at_ (d+1)) x.next) ?_ x.next.length _ _ ⟨rfl,qW.refl _ _ _ _,0,[],P.set at_ p,D.set at_ d,L,rv',ay,by rw[Ci];omega,by simp,hK3,iN.nil _ _ _,iN.nil _ _ _,iN.nil _ _ _,hrv',by refine⟨?_,?_,?_,?_,?_,?_,?_⟩<;>simp only[↓sU,sD,rE,↓reduceIte,rA]⟩)) ?_
  ·rintro k ⟨F,inr⟩ X ⟨q0,hX,j,T,P',D',L',v,hjk,hTN,hkid,hKX,rP,rD,rL,hv,p0,p2,p10,p11,p46,p47,p48⟩;simp only at q0 p0 p2 p10 p11 p46 p47 p48;subst q0;have hSX:Same S0 X:=hX.same hS3 hpb hdb hlb;have haX:=ha.same hSX;have hvl:=hv.len;rw[De] at hvl;refine bQ (df p47 p48 ?_);by_cases hj:j<x.next.length
   ·refine aA (aM fe (aH ?_));refine af ?_;have hias:=haX.cn hj;have hlds:=haX.ld hj;have hdr:x.next.drop j=x.next[j]::x.next.drop (j+1):=Cg hj;have hgd:x.next.getD j 0=x.next[j]:=by rw[Ad,Ac hj];rfl
    rw[hgd] at hlds;rw[hdr] at hkid;generalize x.next[j]=c at *;have w2:IntKind.i64.wrap ((g.bk.length:Int) - ((g.bk.length - (at_+1+T.length):Nat):Int))=((at_+1+T.length:Nat):Int):=by rw[wrap_i64 ay ay];omega
    have w3:IntKind.i64.wrap (d+1)=d+1:=wrap_i64 ay ay;have w4:=dc j
    refine aA (aL (aA (aG ?_)));refine dt p46 p48 @aJ hias hlds ?_;refine fE ?_;simp only[↓sU,sD,rE,↓reduceIte,rA,p0,p11,aY,bB,aF,aE,dL hKX.w.1,hnl,hvl,w2];by_cases hc:c=((at_+1+T.length:Nat):Int);rotate_left
    ·refine aM (fg (Ab (show c≠((at_+1+T.length:Nat):Int) from hc))) ?_;refine bQ (af ?_);refine aR (af ?_);refine .inr ⟨hX,?_,P',D',L',hKX⟩;rw[hkid];simp only[fH,if_neg hc];rfl
    refine aK (fg (Aa (show ¬c≠((at_+1+T.length:Nat):Int) from fun h=>h hc))) (aH ?_);simp only[↓sU,sD,rE,↓reduceIte,rA];simp only[fH,if_pos hc] at hkid;refine bQ (dt p0 p2 p10 p11 w3 ?_);refine bE (af ?_);refine aQ (ih (S:=X) (at_:=at_+1+T.length) (p:=at_) (d:=d+1) ay ay ay hTN hSX hKX hv) ?_;rintro r Y ⟨hY,P2,D2,L2,hKY,hres⟩;cases hw:eJ g.bk.length (dN g) f (at_+1+T.length) at_ (d+1) with
    | none=>
     rw[hw] at hres hkid;subst hres;refine df @ex0 @ex1 ?_;refine bQ (df @eF @Cb ?_);refine aM (ag) ?_;refine bQ (af ?_);refine aR (af ?_);refine .inr ⟨hX.trans hY,?_,P2,D2,L2,hKY⟩;rw[hkid];rfl
    | some T1=>
     rw[hw] at hres hkid;obtain⟨⟨v2,rfl,hv2⟩,k1,k2,k3⟩:=hres;simp only[Option.bind_some,Option.map_map] at hkid;have hwl:=(xK hw).1;refine df @ex0 @ex1 ?_;refine bQ (df @eF @Bt ?_);refine aK (ag) (aH ?_);refine af ?_;refine aG (df p48 w4 ?_);refine⟨k - 1,ay,rfl,hX.trans hY,j+1,T++T1,P2,D2,L2,v2,ay,by rw[Ai];omega,?_,hKY,rP.append k1,rD.append k2,rL.append k3,by rw[Ai,<-Db];exact hv2,by refine⟨?_,?_,?_,?_,?_,?_,?_⟩<;>simp only[↓sU,sD,rE,↓reduceIte,rA,p0,p2,p10,p46,p47]⟩;rw[hkid,Ai,<-Db];congr 1;funext M;simp
   ·refine aA (aK fe (bG ?_));refine af ?_;have hk0:k=0:=by omega
    subst hk0;exact .inl ⟨rfl,hX,j,T,P',D',L',v,hjk,hTN,hkid,hKX,rP,rD,rL,hv,by refine⟨?_,?_,?_,?_,?_,?_,?_⟩<;>simp only[↓sU,sD,rE,↓reduceIte,rA,p0,p2,p10,p11,p46,p47,p48]⟩
  rintro o ⟨F,inr⟩ X (⟨rfl,q0,hX,j,T,P',D',L',v,hjk,hTN,hkid,hKX,rP,rD,rL,hv,p0,p2,p10,p11,p46,p47,p48⟩ | ⟨rfl,hX,hno,p8,p9,P',D',L',hKX⟩);rotate_left
  ·rw[hno];simp only at p8 p9;refine df p8 p9 ?_;exact⟨b3.trans hX,P',D',L',hKX,rfl⟩
  simp only at q0 p0 p10 p11;subst q0;rw[Ct ay] at hkid;simp only[fH,Fd,Bi] at hkid;rw[hkid];have hvl:=hv.len;rw[De] at hvl;have w2:IntKind.i64.wrap ((g.bk.length:Int) - ((g.bk.length - (at_+1+T.length):Nat):Int))=((at_+1+T.length:Nat):Int):=by rw[wrap_i64 ay ay];omega
  have w5:IntKind.i64.wrap (((at_+1+T.length:Nat):Int) - 1)=((at_+T.length:Nat):Int):=by rw[wrap_i64 ay ay];omega
  have wltX:=hKX.w.2;have hia3:=eX (b:=lb) (o:=false) hlt;refine af ?_;refine aA (dO (fun b=>b=lb) ?_);intro S4 s4;simp only[↓sU,sD,rE,↓reduceIte,rA,p0,p10,p11,aY,bN,bB,aF,aU,aE,dL hKX.w.1,dW hKX.w.1,hnl,hvl,w2,w5,wltX,ne6,Ap,hia3,aP.self hG];have l4:=s4.1;have bpX:=hKX.bp;have bdX:=hKX.bd;have blX:=hKX.bl;refine aBO (p:=at_) (w:=((at_+T.length:Nat):Int)) rfl (ag) (ag) (by rw[s4.2 _ hKX.bl];exact hKX.gl) (by rw[hKX.ll];exact hlt) rfl ?_;intro S5 s5 n5 c5;refine af ?_;have b5:qW pb db lb X S5:=⟨ay,fun c hc h1 h2 h3=>by rw[s5.2 _ ay h3,s4.2 _ hc]⟩;refine bQ (cm p11 ?_);refine aR (af ?_);have hatP:at_<P.length:=by rw[hK.lp];exact hlt
  have hatD:at_<D.length:=by rw[hK.ld];exact hlt
  have hatL:at_<L.length:=by rw[hK.ll];exact hlt
  refine⟨b3.trans (hX.trans b5),P',D',L'.set at_ ((at_+T.length:Nat):Int),⟨⟨by rw[b5.2 _ wltX ne4 ne5 ne6];exact hKX.w.1,Ae wltX b5.1⟩,by rw[s5.2 _ ay ne2,s4.2 _ hKX.bp];exact hKX.gp,by rw[s5.2 _ ay ne3,s4.2 _ hKX.bd];exact hKX.gd,c5,hKX.lp,hKX.ld,by rw[Ar];exact hKX.ll,by show _<S5.nx;omega,by show _<S5.nx;omega,by show _<S5.nx;omega⟩,⟨v,rfl,?_⟩,?_,?_,?_⟩
  ·rw[Aw,show at_+(T.length+1)=at_+1+T.length by omega];exact hv
  ·exact iN.append (T:=[(p,d,((at_+T.length:Nat):Int))]) (iN.one hatP rfl) rP
  ·exact iN.append (T:=[(p,d,((at_+T.length:Nat):Int))]) (iN.one hatD rfl) rD
  ·exact iN.late rL hatL rfl
end Go.Ev.Gl
