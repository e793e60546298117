import Derived.Test.YtoojnpjgnnpllaaGl5
open Nat renaming reduceEqDiff -> rE, reduceAdd -> rA
set_option maxHeartbeats 0
set_option linter.unusedSimpArgs false
set_option linter.unusedVariables false
namespace Go.Ev.Gl
variable {fns:T dY}
structure dP where
 kind:Int
 player:Int
 info:Int
 next:ba
 weights:ba
 pay:ba
structure oJ where
 player:Int
 bt:Int
structure aS where
 bo:Int
 bh:List dP
 bj:List oJ
def jA(lo hi:Int)(l:ba):Prop:=∃w∈l,w<lo\/hi<w
instance anyOutDec(lo hi:Int)(l:ba):Decidable (jA lo hi l):=by unfold jA;exact inferInstance
def nR(x:dP):Prop:=x.player≠0\/x.info≠0\/(0:Int)<(x.pay.length:Int)\/(x.next.length:Int)<1\/(60:Int)<(x.next.length:Int)\/(x.weights.length:Int)≠(x.next.length:Int)
def wV(x:dP):Prop:=(0:Int)<(x.weights.length:Int)\/(0:Int)<(x.pay.length:Int)\/(x.next.length:Int)<1\/(10:Int)<(x.next.length:Int)
def oF(ps:Int)(x:dP):Prop:=x.player≠0\/x.info≠0\/(0:Int)<(x.next.length:Int)\/(0:Int)<(x.weights.length:Int)\/(x.pay.length:Int)≠ps
instance badCDec(x:dP):Decidable (nR x):=by unfold nR;exact inferInstance
instance badMDec(x:dP):Decidable (wV x):=by unfold wV;exact inferInstance
instance badEDec(ps:Int)(x:dP):Decidable (oF ps x):=by unfold oF;exact inferInstance
def iG(ps:Int)(ni:Nat)(x:dP):Int:=
 if x.kind=1 then(if nR x then 3 else if jA 1 1000 x.weights then 2 else 0)
 else if x.kind=2 then(if wV x then 3 else if x.player<0\/ps - 1<x.player\/x.info<0\/(ni:Int) - 1<x.info then 2 else 0)
 else if x.kind=3 then(if oF ps x then 3 else if jA (-1000000) 1000000 x.pay then 2 else 0)
 else 3
def bX(S:St)(cs:bf)(x:dP):Prop:=∃a b c,cs= [.int .i64 x.kind,.int .i64 x.player,.int .i64 x.info,a,b,c]/\bI .i64 S a x.next/\bI .i64 S b x.weights/\bI .i64 S c x.pay
theorem bL:kG bX:=fun⟨a,b,c,h,h1,h2,h3⟩ hs=>⟨a,b,c,h,h1.same hs,h2.same hs,h3.same hs⟩
def bP(_:St)(cs:bf)(x:oJ):Prop:=cs= [.int .i64 x.player,.int .i64 x.bt]
theorem bK:kG bP:=fun h _=>h
def aPQ(S:St)(v:AV)(g:aS):Prop:=∃n i,v= .agg [.int .i64 g.bo,n,i]/\aE 6 bX S n g.bh/\aE 2 bP S i g.bj
theorem ldc{h:T AB}{b j:Nat}{cs:bf}{x:AV}{o:Bool}{s:Nat}(hb:h.get b=some (.cells cs o s))(hj:cs[j]? =some x):dT (.ptr b (0+j)) false 1 h=some x:=by
 simp only[dT,pS,bB,lK,cK,hb,aL,lR,pZ,An,hj]
theorem jM{h:T AB}{b n:Nat}{cs:bf}{o:Bool}{s:Nat}(hb:h.get b=some (.cells cs o s))(hn:cs.length=n):dT (.ptr b 0) true n h=some (.agg cs):=by
 subst hn;simp only[dT,pS,aR,aAF,cK,hb,aL,lR];unfold cut;rw[iF,iX,Dx,if_pos (Ag _),List.take_length];rfl
section
variable {h:T AB}{b:Nat}{x0 x1 x2 x3 x4 x5:AV}{o:Bool}{s:Nat}
theorem eK(hb:h.get b=some (.cells [x0,x1,x2,x3,x4,x5] o s)):dT (.ptr b (0+0)) false 1 h=some x0:=ldc hb rfl
theorem dK(hb:h.get b=some (.cells [x0,x1,x2,x3,x4,x5] o s)):dT (.ptr b (0+1)) false 1 h=some x1:=ldc hb rfl
theorem cV(hb:h.get b=some (.cells [x0,x1,x2,x3,x4,x5] o s)):dT (.ptr b (0+2)) false 1 h=some x2:=ldc hb rfl
theorem dC(hb:h.get b=some (.cells [x0,x1,x2,x3,x4,x5] o s)):dT (.ptr b (0+3)) false 1 h=some x3:=ldc hb rfl
theorem dF(hb:h.get b=some (.cells [x0,x1,x2,x3,x4,x5] o s)):dT (.ptr b (0+4)) false 1 h=some x4:=ldc hb rfl
theorem dZ(hb:h.get b=some (.cells [x0,x1,x2,x3,x4,x5] o s)):dT (.ptr b (0+5)) false 1 h=some x5:=ldc hb rfl
theorem ldN(hb:h.get b=some (.cells [x0,x1,x2,x3,x4,x5] o s)):dT (.ptr b 0) true 6 h=some (.agg [x0,x1,x2,x3,x4,x5]):=jM hb rfl
end
section
variable {k:Nat}{α:Type}{E:St->bf->α->Prop}{S:St}{v:AV}{l:List α}
theorem aE.at(h:aE k E S v l)(hk:0<k){i:Nat}{a:α}(hi:l[i]? =some a):∃e b p,dO (.slice k) v i=some (.ptr b p)/\b<S.nx/\e.length=k/\E S e a/\dT (.ptr b p) true k S.h=some (.agg e)/\∀j x,e[j]? =some x->dT (.ptr b (p+j)) false 1 S.h=some x:=by
 have⟨e,b,p,h1,h2,h3,h4,cs,h5,h6⟩:=h.get hi;have hlt:=(Ai.1 hi).1;refine⟨e,b,p,by rw[<-h1];exact h.cp hlt,h2,h3,h4,?_,fun j x hj=>?_⟩
 ·simp only[dT,pS,aR,aAF,h5,aL];have hcut:cut cs p k=some e:=by
   have hle:p+k<=cs.length:=by
    have:=h6 (k - 1) (e[k - 1]' ar) (Ab ar);have:=(Ai.1 this).1;omega
   unfold cut;rw[iF,iX,if_pos (by rw[Dr];omega)];congr 1;refine Dp (by rw[Ca,Dr];omega) fun j j1 j2=>?_;have:=h6 j e[j] (Ab j2);rw[List.getElem_take,List.getElem_drop];exact(Ai.1 this).2
  rw[hcut,aL]
 ·simp only[dT,pS,bB,lK,h5,aL,pZ];exact h6 j x hj
end
def wW(x:dP):Prop:=(0:Int)<(x.pay.length:Int)\/(0:Int)<(x.weights.length:Int)\/(x.next.length:Int)<1\/(10:Int)<(x.next.length:Int)
instance badMDec'(x:dP):Decidable (wW x):=by unfold wW;exact inferInstance
theorem aHb(x:dP):wW x↔wV x:=by unfold wV wW;omega
def aDl(ps:Int)(ni:Nat)(x:dP):Prop:=x.player<0\/ps<=x.player\/x.info<0\/((ni:Nat):Int)<=x.info
instance badRDec(ps:Int)(ni:Nat)(x:dP):Decidable (aDl ps ni x):=by unfold aDl;exact inferInstance
theorem aHx(ps:Int)(ni:Nat)(x:dP):aDl ps ni x↔(x.player<0\/ps - 1<x.player\/x.info<0\/(ni:Int) - 1<x.info):=by unfold aDl;omega
theorem wM{lo hi:Int}{l:ba}{i:Nat}(hi':i<l.length)(h:¬jA lo hi (l.take i))(h2:¬ (l.getD i 0<lo\/hi<l.getD i 0)):¬jA lo hi (l.take (i+1)):=by
 rintro⟨w,hw,ho⟩;rw[Bn,Ab hi'] at hw;rcases Cb.1 hw with h1 | h1
 ·exact h ⟨w,h1,ho⟩
 ·simp at h1;rw[Ad,Ab hi'] at h2;subst h1;exact h2 ho
theorem zQ{lo hi:Int}{l:ba}{i:Nat}(hi':i<l.length)(h2:l.getD i 0<lo\/hi<l.getD i 0):jA lo hi l:=by
 rw[Ad,Ab hi'] at h2;exact⟨l[i],Bo hi',h2⟩
def aR3(S:St)(b t:Nat)(lo hi:Int)(l:ba)(k:Nat)(A:bG)(X:St):Prop:=A.inr=false/\X=S/\∃i,i+k=l.length/\¬jA lo hi (l.take i)/\aD 3 A.F= .ptr b 0/\aD t A.F= .int .i64 (i:Int)
theorem aIB{S:St}{n i:AV}{ps:Int}{ni:Nat}{cs:bf}{x:dP}(H:Has fns)(hx:bX S cs x)(hps:ps<=4)(hi:jJ i=some (.int .i64 ((ni:Nat):Int))):fZ fns (.fn 102 [] []) [.agg [.int .i64 ps,n,i],.agg cs] S fun r S'=>r= .int .i64 (iG ps ni x)/\Same S S':=by
 obtain⟨a,b,c,rfl,hn,hw,hp⟩:=hx;refine cF H.f102 (by simp) ?_;refine ai ?_;refine bO ?_;refine cI (by refine ai ?_;exact aY _) ?_;intro S1 s1 n1 c1;refine cI (by refine ai ?_;exact aY _) ?_;intro S2 s2 n2 g3;refine ai ?_;have g2:S2.h.get S.nx=some (.cells [.int .i64 ps,n,i] false 0):=by rw[s2.2 _ ar];exact c1
 have sS:=s1.trans s2;have hneg:Int.negSucc 999999= -1000000:=rfl;have hn2:=hn.same sS;have hw2:=hw.same sS;have hp2:=hp.same sS;refine fC ?_;simp only[↓aF,aG,rE,↓reduceIte,aC,aB,eK g3];refine aK (aA (aJ ?_));simp only[↓aF,aG,rE,↓reduceIte];unfold iG;have fin:∀F:Fr,iM fns (.seq (.reg [oq 4 (.mv (ci 0))]) .ret) ⟨F,false⟩ S2 (aPS [.t 4] fun r S'=>r= .int .i64 0/\Same S S'):=fun F=>by
  refine bO (ai ?_);refine aP (ai ?_);exact sS
 by_cases k1:x.kind=1
 ·rw[if_pos k1];refine aN (by simp only[↓aF,aG,rE,↓reduceIte,Ac k1]) ?_;refine aA (aA (aX (Q:=fun o A' X=>o= .normal/\A'.inr=false/\X=S2/\aD 3 A'.F= .ptr S1.nx 0/\aD 45 A'.F= .bool (decide (nR x))) (aJ ?_) ?_))
  ·by_cases c0:x.player≠0
   ·rw[Ac (show nR x from .inl c0)];simp only[↓aF,aG,rE,↓reduceIte,aC,aB,dK g3,cV g3,dC g3,dF g3,dZ g3,gT g2,iY g2,hn2.len,hw2.len,hp2.len,hi,Ah,Ac c0]
   by_cases c1:x.info≠0
   ·rw[Ac (show nR x from .inr (.inl c1))];simp only[↓aF,aG,rE,↓reduceIte,aC,aB,dK g3,cV g3,dC g3,dF g3,dZ g3,gT g2,iY g2,hn2.len,hw2.len,hp2.len,hi,Ah,Aa c0,Ac c1]
   by_cases c2:(0:Int)<(x.pay.length:Int)
   ·rw[Ac (show nR x from .inr (.inr (.inl c2)))];simp only[↓aF,aG,rE,↓reduceIte,aC,aB,dK g3,cV g3,dC g3,dF g3,dZ g3,gT g2,iY g2,hn2.len,hw2.len,hp2.len,hi,Ah,Aa c0,Aa c1,Ac c2]
   by_cases c3:(x.next.length:Int)<1
   ·rw[Ac (show nR x from .inr (.inr (.inr (.inl c3))))];simp only[↓aF,aG,rE,↓reduceIte,aC,aB,dK g3,cV g3,dC g3,dF g3,dZ g3,gT g2,iY g2,hn2.len,hw2.len,hp2.len,hi,Ah,Aa c0,Aa c1,Aa c2,Ac c3]
   by_cases c4:(60:Int)<(x.next.length:Int)
   ·rw[Ac (show nR x from .inr (.inr (.inr (.inr (.inl c4)))))];simp only[↓aF,aG,rE,↓reduceIte,aC,aB,dK g3,cV g3,dC g3,dF g3,dZ g3,gT g2,iY g2,hn2.len,hw2.len,hp2.len,hi,Ah,Aa c0,Aa c1,Aa c2,Aa c3,Ac c4]
   by_cases c5:(x.weights.length:Int)≠(x.next.length:Int)
   ·rw[Ac (show nR x from .inr (.inr (.inr (.inr (.inr (c5))))))];simp only[↓aF,aG,rE,↓reduceIte,aC,aB,dK g3,cV g3,dC g3,dF g3,dZ g3,gT g2,iY g2,hn2.len,hw2.len,hp2.len,hi,Ah,Aa c0,Aa c1,Aa c2,Aa c3,Aa c4,Ac c5]
   rw[Aa (show ¬nR x by rintro(h0 | h1 | h2 | h3 | h4 | h5)<;>first | exact c0 h0 | exact c1 h1 | exact c2 h2 | exact c3 h3 | exact c4 h4 | exact c5 h5)];simp only[↓aF,aG,rE,↓reduceIte,aC,aB,dK g3,cV g3,dC g3,dF g3,dZ g3,gT g2,iY g2,hn2.len,hw2.len,hp2.len,hi,Ah,Aa c0,Aa c1,Aa c2,Aa c3,Aa c4,Aa c5]
  rintro o ⟨F,inr⟩ X ⟨rfl,q0,hX,p3,pb⟩;simp only at q0 p3 pb;subst q0;rw[hX];try refine ai ?_
  by_cases bad:nR x
  ·rw[if_pos bad];refine aN (by simp only[↓aF,aG,rE,↓reduceIte,pb,Ac bad]) ?_;refine bO (ai ?_);refine aP (ai ?_);exact sS
  rw[if_neg bad];have hlen:x.weights.length<=60:=by unfold nR at bad;omega
  refine aM (by simp only[↓aF,aG,rE,↓reduceIte,pb,Aa bad]) (aI ?_);try refine ai ?_
  refine bO (ai ?_);refine aK (bH (aR3 S2 S1.nx 5 1 1000 x.weights) ?_ x.weights.length _ _ ⟨rfl,rfl,0,ar,(by rintro⟨w,h,_⟩;simp at h),by refine⟨?_,?_⟩<;>simp only[↓aF,aG,rE,↓reduceIte,p3]⟩);clear p3 pb;rintro k ⟨F,inr⟩ X ⟨q0,hX,j,hjk,ha,p3,pt⟩;simp only at q0 p3 pt;subst q0;rw[hX];refine fC ?_;simp only[↓aF,aG,rE,↓reduceIte,pt,p3,aC,aB,dF g3,hw2.len,Ah];by_cases hj:j<x.weights.length
  ·refine aN (by simp only[↓aF,aG,rE,↓reduceIte,Ac (show(j:Int)<(x.weights.length:Int) by omega)]) (aI ?_);try refine ai ?_
   have hia:=hw2.cp hj;have hld:=hw2.ld hj;have htk:=wM (lo:=1) (hi:=1000) hj ha;have hget:=zQ (lo:=1) (hi:=1000) hj;generalize x.weights.getD j 0=w at *;have w1:IntKind.i64.wrap ((j:Int)+1)=((j+1:Nat):Int):=by
    rw[wrap_i64 ar ar];omega
   refine aA (aK (aA (aX (Q:=fun o A' X=>o= .normal/\A'.inr=false/\X=S2/\aD 3 A'.F= .ptr S1.nx 0/\aD 5 A'.F= .int .i64 (j:Int)/\aD 66 A'.F= .bool (decide (w<1\/1000<w))) (aJ ?_) ?_)))
   ·by_cases h1:w<1
    ·rw[Ac (show w<1\/1000<w from .inl h1)];simp only[↓aF,aG,rE,↓reduceIte,pt,p3,aC,aB,dF g3,aH,hia,hld,hneg,Ac h1]
    ·by_cases h2:1000<w
     ·rw[Ac (show w<1\/1000<w from .inr h2)];simp only[↓aF,aG,rE,↓reduceIte,pt,p3,aC,aB,dF g3,aH,hia,hld,hneg,Aa h1,Ac h2]
     ·rw[Aa (show ¬ (w<1\/1000<w) by omega)];simp only[↓aF,aG,rE,↓reduceIte,pt,p3,aC,aB,dF g3,aH,hia,hld,hneg,Aa h1,Aa h2]
   clear p3 pt;rintro o ⟨F,inr⟩ X ⟨rfl,q0,hX,p3,pt,pb⟩;simp only at q0 p3 pt pb;subst q0;rw[hX];try refine ai ?_
   by_cases ho:w<1\/1000<w
   ·rw[if_pos (hget ho)];refine aN (by simp only[↓aF,aG,rE,↓reduceIte,pb,Ac ho]) ?_;refine bO (ai ?_);refine aP (ai ?_);exact sS
   ·refine aM (by simp only[↓aF,aG,rE,↓reduceIte,pb,Aa ho]) (aI ?_);try refine ai ?_
    refine aJ (fh pt w1 ?_);exact⟨k - 1,ar,rfl,rfl,j+1,ar,htk ho,by refine⟨?_,?_⟩<;>simp only[↓aF,aG,rE,↓reduceIte,p3]⟩
  ·refine aM (by simp only[↓aF,aG,rE,↓reduceIte,Aa (show ¬ (j:Int)<(x.weights.length:Int) by omega)]) (bJ ?_);refine ai ?_;have hno:¬jA 1 1000 x.weights:=by rw[Bb ar] at ha;exact ha
   rw[if_neg hno];exact fin _
 rw[if_neg k1];refine aM (by simp only[↓aF,aG,rE,↓reduceIte,Aa k1]) ?_;refine bO (ai ?_);by_cases k2:x.kind=2
 ·rw[if_pos k2];refine aN (by simp only[↓aF,aG,rE,↓reduceIte,Ac k2]) ?_;refine aA (aA (aX (Q:=fun o A' X=>o= .normal/\A'.inr=false/\X=S2/\aD 2 A'.F= .ptr S.nx 0/\aD 3 A'.F= .ptr S1.nx 0/\aD 90 A'.F= .bool (decide (wW x))) (aJ ?_) ?_))
  ·by_cases c0:(0:Int)<(x.pay.length:Int)
   ·rw[Ac (show wW x from .inl c0)];simp only[↓aF,aG,rE,↓reduceIte,aC,aB,dK g3,cV g3,dC g3,dF g3,dZ g3,gT g2,iY g2,hn2.len,hw2.len,hp2.len,hi,Ah,Ac c0]
   by_cases c1:(0:Int)<(x.weights.length:Int)
   ·rw[Ac (show wW x from .inr (.inl c1))];simp only[↓aF,aG,rE,↓reduceIte,aC,aB,dK g3,cV g3,dC g3,dF g3,dZ g3,gT g2,iY g2,hn2.len,hw2.len,hp2.len,hi,Ah,Aa c0,Ac c1]
   by_cases c2:(x.next.length:Int)<1
   ·rw[Ac (show wW x from .inr (.inr (.inl c2)))];simp only[↓aF,aG,rE,↓reduceIte,aC,aB,dK g3,cV g3,dC g3,dF g3,dZ g3,gT g2,iY g2,hn2.len,hw2.len,hp2.len,hi,Ah,Aa c0,Aa c1,Ac c2]
   by_cases c3:(10:Int)<(x.next.length:Int)
   ·rw[Ac (show wW x from .inr (.inr (.inr (c3))))];simp only[↓aF,aG,rE,↓reduceIte,aC,aB,dK g3,cV g3,dC g3,dF g3,dZ g3,gT g2,iY g2,hn2.len,hw2.len,hp2.len,hi,Ah,Aa c0,Aa c1,Aa c2,Ac c3]
   rw[Aa (show ¬wW x by rintro(h0 | h1 | h2 | h3)<;>first | exact c0 h0 | exact c1 h1 | exact c2 h2 | exact c3 h3)];simp only[↓aF,aG,rE,↓reduceIte,aC,aB,dK g3,cV g3,dC g3,dF g3,dZ g3,gT g2,iY g2,hn2.len,hw2.len,hp2.len,hi,Ah,Aa c0,Aa c1,Aa c2,Aa c3]
  rintro o ⟨F,inr⟩ X ⟨rfl,q0,hX,p2,p3,pb⟩;simp only at q0 p2 p3 pb;subst q0;rw[hX];try refine ai ?_
  by_cases bad:wW x
  ·rw[if_pos ((aHb x).1 bad)];refine aN (by simp only[↓aF,aG,rE,↓reduceIte,pb,Ac bad]) ?_;refine bO (ai ?_);refine aP (ai ?_);exact sS
  rw[if_neg (fun h=>bad ((aHb x).2 h))];refine aM (by simp only[↓aF,aG,rE,↓reduceIte,pb,Aa bad]) (aI ?_);try refine ai ?_
  refine aA (aX (Q:=fun o A' X=>o= .normal/\A'.inr=false/\X=S2/\aD 113 A'.F= .bool (decide (aDl ps ni x))) (aJ ?_) ?_)
  ·by_cases c0:x.player<0
   ·rw[Ac (show aDl ps ni x from .inl c0)];simp only[↓aF,aG,rE,↓reduceIte,aC,aB,dK g3,cV g3,dC g3,dF g3,dZ g3,gT g2,iY g2,hn2.len,hw2.len,hp2.len,hi,Ah,p3,p2,Ac c0]
   by_cases c1:ps<=x.player
   ·rw[Ac (show aDl ps ni x from .inr (.inl c1))];simp only[↓aF,aG,rE,↓reduceIte,aC,aB,dK g3,cV g3,dC g3,dF g3,dZ g3,gT g2,iY g2,hn2.len,hw2.len,hp2.len,hi,Ah,p3,p2,Aa c0,Ac c1]
   by_cases c2:x.info<0
   ·rw[Ac (show aDl ps ni x from .inr (.inr (.inl c2)))];simp only[↓aF,aG,rE,↓reduceIte,aC,aB,dK g3,cV g3,dC g3,dF g3,dZ g3,gT g2,iY g2,hn2.len,hw2.len,hp2.len,hi,Ah,p3,p2,Aa c0,Aa c1,Ac c2]
   by_cases c3:((ni:Nat):Int)<=x.info
   ·rw[Ac (show aDl ps ni x from .inr (.inr (.inr (c3))))];simp only[↓aF,aG,rE,↓reduceIte,aC,aB,dK g3,cV g3,dC g3,dF g3,dZ g3,gT g2,iY g2,hn2.len,hw2.len,hp2.len,hi,Ah,p3,p2,Aa c0,Aa c1,Aa c2,Ac c3]
   rw[Aa (show ¬aDl ps ni x by rintro(h0 | h1 | h2 | h3)<;>first | exact c0 h0 | exact c1 h1 | exact c2 h2 | exact c3 h3)];simp only[↓aF,aG,rE,↓reduceIte,aC,aB,dK g3,cV g3,dC g3,dF g3,dZ g3,gT g2,iY g2,hn2.len,hw2.len,hp2.len,hi,Ah,p3,p2,Aa c0,Aa c1,Aa c2,Aa c3]
  rintro o ⟨F,inr⟩ X ⟨rfl,q0,hX,pb⟩;simp only at q0 pb;subst q0;rw[hX];try refine ai ?_
  by_cases bad:aDl ps ni x
  ·rw[if_pos ((aHx ps ni x).1 bad)];refine aN (by simp only[↓aF,aG,rE,↓reduceIte,pb,Ac bad]) ?_;refine bO (ai ?_);refine aP (ai ?_);exact sS
  rw[if_neg (fun h=>bad ((aHx ps ni x).2 h))];refine aM (by simp only[↓aF,aG,rE,↓reduceIte,pb,Aa bad]) (aI ?_);refine ai ?_;exact fin _
 rw[if_neg k2];refine aM (by simp only[↓aF,aG,rE,↓reduceIte,Aa k2]) ?_;refine bO (ai ?_);by_cases k3:x.kind=3
 ·rw[if_pos k3];refine aN (by simp only[↓aF,aG,rE,↓reduceIte,Ac k3]) ?_;refine aA (aA (aX (Q:=fun o A' X=>o= .normal/\A'.inr=false/\X=S2/\aD 3 A'.F= .ptr S1.nx 0/\aD 143 A'.F= .bool (decide (oF ps x))) (aJ ?_) ?_))
  ·by_cases c0:x.player≠0
   ·rw[Ac (show oF ps x from .inl c0)];simp only[↓aF,aG,rE,↓reduceIte,aC,aB,dK g3,cV g3,dC g3,dF g3,dZ g3,gT g2,iY g2,hn2.len,hw2.len,hp2.len,hi,Ah,Ac c0]
   by_cases c1:x.info≠0
   ·rw[Ac (show oF ps x from .inr (.inl c1))];simp only[↓aF,aG,rE,↓reduceIte,aC,aB,dK g3,cV g3,dC g3,dF g3,dZ g3,gT g2,iY g2,hn2.len,hw2.len,hp2.len,hi,Ah,Aa c0,Ac c1]
   by_cases c2:(0:Int)<(x.next.length:Int)
   ·rw[Ac (show oF ps x from .inr (.inr (.inl c2)))];simp only[↓aF,aG,rE,↓reduceIte,aC,aB,dK g3,cV g3,dC g3,dF g3,dZ g3,gT g2,iY g2,hn2.len,hw2.len,hp2.len,hi,Ah,Aa c0,Aa c1,Ac c2]
   by_cases c3:(0:Int)<(x.weights.length:Int)
   ·rw[Ac (show oF ps x from .inr (.inr (.inr (.inl c3))))];simp only[↓aF,aG,rE,↓reduceIte,aC,aB,dK g3,cV g3,dC g3,dF g3,dZ g3,gT g2,iY g2,hn2.len,hw2.len,hp2.len,hi,Ah,Aa c0,Aa c1,Aa c2,Ac c3]
   by_cases c4:(x.pay.length:Int)≠ps
   ·rw[Ac (show oF ps x from .inr (.inr (.inr (.inr (c4)))))];simp only[↓aF,aG,rE,↓reduceIte,aC,aB,dK g3,cV g3,dC g3,dF g3,dZ g3,gT g2,iY g2,hn2.len,hw2.len,hp2.len,hi,Ah,Aa c0,Aa c1,Aa c2,Aa c3,Ac c4]
   rw[Aa (show ¬oF ps x by rintro(h0 | h1 | h2 | h3 | h4)<;>first | exact c0 h0 | exact c1 h1 | exact c2 h2 | exact c3 h3 | exact c4 h4)];simp only[↓aF,aG,rE,↓reduceIte,aC,aB,dK g3,cV g3,dC g3,dF g3,dZ g3,gT g2,iY g2,hn2.len,hw2.len,hp2.len,hi,Ah,Aa c0,Aa c1,Aa c2,Aa c3,Aa c4]
  rintro o ⟨F,inr⟩ X ⟨rfl,q0,hX,p3,pb⟩;simp only at q0 p3 pb;subst q0;rw[hX];try refine ai ?_
  by_cases bad:oF ps x
  ·rw[if_pos bad];refine aN (by simp only[↓aF,aG,rE,↓reduceIte,pb,Ac bad]) ?_;refine bO (ai ?_);refine aP (ai ?_);exact sS
  rw[if_neg bad];have hlen:x.pay.length<=60:=by unfold oF at bad;omega
  refine aM (by simp only[↓aF,aG,rE,↓reduceIte,pb,Aa bad]) (aI ?_);try refine ai ?_
  refine bO (ai ?_);refine aK (bH (aR3 S2 S1.nx 6 (-1000000) 1000000 x.pay) ?_ x.pay.length _ _ ⟨rfl,rfl,0,ar,(by rintro⟨w,h,_⟩;simp at h),by refine⟨?_,?_⟩<;>simp only[↓aF,aG,rE,↓reduceIte,p3]⟩);clear p3 pb;rintro k ⟨F,inr⟩ X ⟨q0,hX,j,hjk,ha,p3,pt⟩;simp only at q0 p3 pt;subst q0;rw[hX];refine fC ?_;simp only[↓aF,aG,rE,↓reduceIte,pt,p3,aC,aB,dZ g3,hp2.len,Ah];by_cases hj:j<x.pay.length
  ·refine aN (by simp only[↓aF,aG,rE,↓reduceIte,Ac (show(j:Int)<(x.pay.length:Int) by omega)]) (aI ?_);try refine ai ?_
   have hia:=hp2.cp hj;have hld:=hp2.ld hj;have htk:=wM (lo:=(-1000000)) (hi:=1000000) hj ha;have hget:=zQ (lo:=(-1000000)) (hi:=1000000) hj;generalize x.pay.getD j 0=w at *;have w1:IntKind.i64.wrap ((j:Int)+1)=((j+1:Nat):Int):=by
    rw[wrap_i64 ar ar];omega
   refine aA (aK (aA (aX (Q:=fun o A' X=>o= .normal/\A'.inr=false/\X=S2/\aD 3 A'.F= .ptr S1.nx 0/\aD 6 A'.F= .int .i64 (j:Int)/\aD 164 A'.F= .bool (decide (w<(-1000000)\/1000000<w))) (aJ ?_) ?_)))
   ·by_cases h1:w<(-1000000)
    ·rw[Ac (show w<(-1000000)\/1000000<w from .inl h1)];simp only[↓aF,aG,rE,↓reduceIte,pt,p3,aC,aB,dZ g3,aH,hia,hld,hneg,Ac h1]
    ·by_cases h2:1000000<w
     ·rw[Ac (show w<(-1000000)\/1000000<w from .inr h2)];simp only[↓aF,aG,rE,↓reduceIte,pt,p3,aC,aB,dZ g3,aH,hia,hld,hneg,Aa h1,Ac h2]
     ·rw[Aa (show ¬ (w<(-1000000)\/1000000<w) by omega)];simp only[↓aF,aG,rE,↓reduceIte,pt,p3,aC,aB,dZ g3,aH,hia,hld,hneg,Aa h1,Aa h2]
   clear p3 pt;rintro o ⟨F,inr⟩ X ⟨rfl,q0,hX,p3,pt,pb⟩;simp only at q0 p3 pt pb;subst q0;rw[hX];try refine ai ?_
   by_cases ho:w<(-1000000)\/1000000<w
   ·rw[if_pos (hget ho)];refine aN (by simp only[↓aF,aG,rE,↓reduceIte,pb,Ac ho]) ?_;refine bO (ai ?_);refine aP (ai ?_);exact sS
   ·refine aM (by simp only[↓aF,aG,rE,↓reduceIte,pb,Aa ho]) (aI ?_);try refine ai ?_
    refine aJ (fh pt w1 ?_);exact⟨k - 1,ar,rfl,rfl,j+1,ar,htk ho,by refine⟨?_,?_⟩<;>simp only[↓aF,aG,rE,↓reduceIte,p3]⟩
  ·refine aM (by simp only[↓aF,aG,rE,↓reduceIte,Aa (show ¬ (j:Int)<(x.pay.length:Int) by omega)]) (bJ ?_);refine ai ?_;have hno:¬jA (-1000000) 1000000 x.pay:=by rw[Bb ar] at ha;exact ha
   rw[if_neg hno];exact fin _
 rw[if_neg k3];refine aM (by simp only[↓aF,aG,rE,↓reduceIte,Aa k3]) ?_;refine bO (ai ?_);refine aP (ai ?_);exact sS
theorem bI.self{k:IntKind}{S:St}{v:AV}{l:ba}(h:bI k S v l):cE v v=true:=by
 rcases h with⟨_,h | h⟩ | ⟨b,off,cap,o,cs,rfl,_⟩
 ·subst h;rfl
 ·subst h;rfl
 ·exact nH ..
theorem aE.self{k:Nat}{α:Type}{E:St->bf->α->Prop}{S:St}{v:AV}{l:List α}(h:aE k E S v l):cE v v=true:=by
 rcases h with⟨_,h | h⟩ | ⟨b,off,cap,o,cs,rfl,_⟩
 ·subst h;rfl
 ·subst h;rfl
 ·exact nH ..
theorem aMl{k:IntKind}{S:St}{b:Nat}{z:Int}(hb:b<S.nx)(h:S.h.get b=some (.cells [.int k z] false 0)):bI k S (.sl b 0 1 1 false) [z]:=by
 refine .inr ⟨b,0,1,false,[.int k z],rfl,Ag _,hb,by unfold cK;rw[h];rfl,fun i x hi=>?_⟩;cases i with
 | zero=>simp at hi;subst hi;rfl
 | succ i=>simp at hi
theorem aDT{lo hi z:Int}:jA lo hi [z]↔z<lo\/hi<z:=by
 unfold jA;simp
theorem aBw{x0 x1 x2 x3 x4 x5:AV}(h0:cE x0 x0=true)(h1:cE x1 x1=true)(h2:cE x2 x2=true)(h3:cE x3 x3=true)(h4:cE x4 x4=true)(h5:cE x5 x5=true):cE (.agg [x0,x1,x2,x3,x4,x5]) (.agg [x0,x1,x2,x3,x4,x5])=true:=by
 simp only[cE,jR,h0,h1,h2,h3,h4,h5,aR]
theorem aKH{S:St}{b3 b4:Nat}{lo hi w:Int}(H:Has fns)(g3:S.h.get b3=some (.cells [.int .i64 lo] false 0))(g4:S.h.get b4=some (.cells [.int .i64 hi] false 0)):fZ fns (.fn 184 [] [.ptr b3 0,.ptr b4 0]) [.int .i64 w] S fun r S'=>r= .bool (decide (w<lo\/hi<w))/\S'=S:=by
 have l3:dT (.ptr b3 0) false 1 S.h=some (.int .i64 lo):=ldc (j:=0) g3 rfl;have l4:dT (.ptr b4 0) false 1 S.h=some (.int .i64 hi):=ldc (j:=0) g4 rfl;refine cF H.f184 (by simp) ?_;refine ai ?_;refine bO (ai ?_);refine bO ?_;by_cases h1:w<lo
 ·rw[Ac (show w<lo\/hi<w from .inl h1)];refine fh l3 (Ac h1) ?_;refine aP ?_;simp only[↓aF,aG,rE,↓reduceIte]
 ·by_cases h2:hi<w
  ·rw[Ac (show w<lo\/hi<w from .inr h2)];refine fj l3 l4 (Aa h1) (Ac h2) ?_;refine aP ?_;simp only[↓aF,aG,rE,↓reduceIte]
  ·rw[Aa (show ¬ (w<lo\/hi<w) by omega)];refine fj l3 l4 (Aa h1) (Aa h2) ?_;refine aP ?_;simp only[↓aF,aG,rE,↓reduceIte]
def aSY(S:St)(v f:AV)(lo hi:Int)(l:ba)(k:Nat)(A:bG)(X:St):Prop:=A.inr=false/\X=S/\∃i,i+k=l.length/\¬jA lo hi (l.take i)/\aD 0 A.F=v/\aD 1 A.F=f/\aD 7 A.F= .int .i64 (l.length:Int)/\aD 8 A.F= .int .i64 (i:Int)
theorem aIZ{S:St}{b3 b4:Nat}{lo hi:Int}{v:AV}{l:ba}(H:Has fns)(g3:S.h.get b3=some (.cells [.int .i64 lo] false 0))(g4:S.h.get b4=some (.cells [.int .i64 hi] false 0))(hl:bI .i64 S v l)(hlen:l.length<=1000000):fZ fns (.fn 186 [] []) [v,.fn 184 [] [.ptr b3 0,.ptr b4 0]] S fun r S'=>(∃z,r= .int .i64 z/\(0<=z↔jA lo hi l))/\S'=S:=by
 refine cF H.f186 (by simp) ?_;refine ai ?_;refine bO (ai ?_);refine fC (fh hl.len @Ah ?_);refine aK (bH (aSY S v (.fn 184 [] [.ptr b3 0,.ptr b4 0]) lo hi l) ?_ l.length _ _ ⟨rfl,rfl,0,ar,(by rintro⟨w,h,_⟩;simp at h),by refine⟨?_,?_,?_,?_⟩<;>simp only[↓aF,aG,rE,↓reduceIte]⟩);rintro k ⟨F,inr⟩ X ⟨q0,hX,j,hjk,ha,p0,p1,p7,p8⟩;simp only at q0 p0 p1 p7 p8;subst q0;rw[hX];refine bO (fh p7 p8 ?_);by_cases hj:j<l.length
 ·refine aA (aN (by simp only[↓aF,aG,rE,↓reduceIte,Ac (show(j:Int)<(l.length:Int) by omega)]) (aI ?_));refine ai ?_;have hia:=hl.cp hj;have hld:=hl.ld hj;have htk:=wM (lo:=lo) (hi:=hi) hj ha;have hget:=zQ (lo:=lo) (hi:=hi) hj;generalize l.getD j 0=w at *;have w1:=dh j
  refine aA (aK (aA (aJ ?_)));refine ez p8 ?_;refine bO ?_;simp only[↓aF,aG,rE,↓reduceIte,p0,p1,aH,hia,hld];refine bD (ai ?_);refine aW (aKH H g3 g4) ?_;rintro _ Y ⟨rfl,hY⟩;rw[hY];try refine ai ?_
  by_cases ho:w<lo\/hi<w
  ·refine aN (by simp only[↓aF,aG,rE,↓reduceIte,Ac ho]) ?_;refine bO (ai ?_);refine aP (ai ?_);exact⟨_,rfl,⟨fun _=>hget ho,fun _=>ar⟩⟩
  ·refine aM (by simp only[↓aF,aG,rE,↓reduceIte,Aa ho]) (aI ?_);try refine ai ?_
   refine aJ (fh p8 w1 ?_);exact⟨k - 1,ar,rfl,rfl,j+1,ar,htk ho,by refine⟨?_,?_,?_,?_⟩<;>simp only[↓aF,aG,rE,↓reduceIte,p0,p1,p7]⟩
 ·refine aA (aM (by simp only[↓aF,aG,rE,↓reduceIte,Aa (show ¬ (j:Int)<(l.length:Int) by omega)]) (bJ ?_));refine ai ?_;have hno:¬jA lo hi l:=by rw[Bb ar] at ha;exact ha
  refine bO (ai ?_);refine aP (ai ?_);exact⟨_,rfl,⟨fun h=>absurd h ay,fun h=>absurd h hno⟩⟩
theorem aIE{S:St}{b3 b4:Nat}{lo hi:Int}{v:AV}{l:ba}(H:Has fns)(g3:S.h.get b3=some (.cells [.int .i64 lo] false 0))(g4:S.h.get b4=some (.cells [.int .i64 hi] false 0))(hl:bI .i64 S v l)(hlen:l.length<=1000000):fZ fns (.fn 183 [] []) [v,.fn 184 [] [.ptr b3 0,.ptr b4 0]] S fun r S'=>r= .bool (decide (jA lo hi l))/\S'=S:=by
 refine cF H.f183 (by simp) ?_;refine ai ?_;refine bO (ai ?_);refine bO (ai ?_);refine bD (ai ?_);refine aW (aIZ H g3 g4 hl hlen) ?_;rintro _ Y ⟨⟨z,rfl,hz⟩,hY⟩;rw[hY];have hd:decide ((0:Int)<=z)=decide (jA lo hi l):=by rw[Cl,Cf,Cf];exact hz
 refine ez hd ?_;refine aP ?_;simp only[↓aF,aG,rE,↓reduceIte]
theorem tF{S:St}{lo hi:Int}{v:AV}{l:ba}(H:Has fns)(hl:bI .i64 S v l)(hlen:l.length<=1000000):fZ fns (.fn 180 [] []) [.int .i64 lo,.int .i64 hi,v] S fun r S'=>r= .int .i64 (if jA lo hi l then 2 else 0)/\Same S S':=by
 refine cF H.f180 (by simp) ?_;refine ai ?_;refine bO ?_;refine cI (by refine ai ?_;exact cR _ _) ?_;intro S1 s1 n1 c1;refine cI (by refine ai ?_;exact cR _ _) ?_;intro S2 s2 n2 c2;refine ai ?_;have sS:=s1.trans s2;refine fC (ez @aA3 ?_);refine bD (ai ?_);refine aW (aIE H (by rw[s2.2 _ ar];exact c1) c2 (hl.same sS) hlen) ?_;rintro _ Y ⟨rfl,hY⟩;rw[hY];try refine ai ?_
 by_cases ho:jA lo hi l
 ·rw[if_pos ho];refine aN (by simp only[↓aF,aG,rE,↓reduceIte,Ac ho]) ?_;refine bO (ai ?_);refine aP (ai ?_);exact sS
 ·rw[if_neg ho];refine aM (by simp only[↓aF,aG,rE,↓reduceIte,Aa ho]) (aI ?_);try refine ai ?_
  refine bO (ai ?_);refine aP (ai ?_);exact sS
def wI(S:St)(wb:Nat)(ps:Int)(n i p d l:AV):Prop:=S.h.get wb=some (.cells [.int .i64 ps,n,i,p,d,l] false 0)/\wb<S.nx
theorem wI.same{S S':St}{wb:Nat}{ps:Int}{n i p d l:AV}(h:wI S wb ps n i p d l)(hs:Same S S'):wI S' wb ps n i p d l:=⟨(hs.2 _ h.2).trans h.1,Ae h.2 hs.1⟩
section
variable {S:St}{wb:Nat}{ps:Int}{n i p d l:AV}{ni:Nat}{cs:bf}{x:dP}
theorem aHE(H:Has fns)(hx:bX S cs x):fZ fns (.fn 173 [] []) [.ptr wb 0,.agg cs] S fun r S'=>r= .int .i64 (if nR x then 3 else if jA 1 1000 x.weights then 2 else 0)/\Same S S':=by
 obtain⟨a,b,c,rfl,hn,hw,hp⟩:=hx;refine cF H.f173 (by simp) ?_;refine ai ?_;refine bO ?_;refine cI (by refine ai ?_;exact aY _) ?_;intro S2 s2 n2 g3;refine ai ?_;have hn2:=hn.same s2;have hw2:=hw.same s2;have hp2:=hp.same s2;refine aA (aA (aX (Q:=fun o A' X=>o= .normal/\A'.inr=false/\X=S2/\aD 3 A'.F= .ptr S.nx 0/\aD 39 A'.F= .bool (decide (nR x))) (aJ ?_) ?_))
 ·by_cases c0:x.player≠0
  ·rw[Ac (show nR x from .inl c0)];simp only[↓aF,aG,rE,↓reduceIte,aC,aB,dK g3,cV g3,dC g3,dF g3,dZ g3,hn2.len,hw2.len,hp2.len,Ah,Ac c0]
  by_cases c1:x.info≠0
  ·rw[Ac (show nR x from .inr (.inl c1))];simp only[↓aF,aG,rE,↓reduceIte,aC,aB,dK g3,cV g3,dC g3,dF g3,dZ g3,hn2.len,hw2.len,hp2.len,Ah,Aa c0,Ac c1]
  by_cases c2:(0:Int)<(x.pay.length:Int)
  ·rw[Ac (show nR x from .inr (.inr (.inl c2)))];simp only[↓aF,aG,rE,↓reduceIte,aC,aB,dK g3,cV g3,dC g3,dF g3,dZ g3,hn2.len,hw2.len,hp2.len,Ah,Aa c0,Aa c1,Ac c2]
  by_cases c3:(x.next.length:Int)<1
  ·rw[Ac (show nR x from .inr (.inr (.inr (.inl c3))))];simp only[↓aF,aG,rE,↓reduceIte,aC,aB,dK g3,cV g3,dC g3,dF g3,dZ g3,hn2.len,hw2.len,hp2.len,Ah,Aa c0,Aa c1,Aa c2,Ac c3]
  by_cases c4:(60:Int)<(x.next.length:Int)
  ·rw[Ac (show nR x from .inr (.inr (.inr (.inr (.inl c4)))))];simp only[↓aF,aG,rE,↓reduceIte,aC,aB,dK g3,cV g3,dC g3,dF g3,dZ g3,hn2.len,hw2.len,hp2.len,Ah,Aa c0,Aa c1,Aa c2,Aa c3,Ac c4]
  by_cases c5:(x.weights.length:Int)≠(x.next.length:Int)
  ·rw[Ac (show nR x from .inr (.inr (.inr (.inr (.inr (c5))))))];simp only[↓aF,aG,rE,↓reduceIte,aC,aB,dK g3,cV g3,dC g3,dF g3,dZ g3,hn2.len,hw2.len,hp2.len,Ah,Aa c0,Aa c1,Aa c2,Aa c3,Aa c4,Ac c5]
  rw[Aa (show ¬nR x by rintro(h0 | h1 | h2 | h3 | h4 | h5)<;>first | exact c0 h0 | exact c1 h1 | exact c2 h2 | exact c3 h3 | exact c4 h4 | exact c5 h5)];simp only[↓aF,aG,rE,↓reduceIte,aC,aB,dK g3,cV g3,dC g3,dF g3,dZ g3,hn2.len,hw2.len,hp2.len,Ah,Aa c0,Aa c1,Aa c2,Aa c3,Aa c4,Aa c5]
 rintro o ⟨F,inr⟩ X ⟨rfl,q0,hX,p3,pb⟩;simp only at q0 p3 pb;subst q0;rw[hX];have sX:=s2;try refine ai ?_
 by_cases bad:nR x
 ·rw[if_pos bad];refine aN (by simp only[↓aF,aG,rE,↓reduceIte,pb,Ac bad]) ?_;refine bO (ai ?_);refine aP (ai ?_);exact sX
 rw[if_neg bad];refine aM (by simp only[↓aF,aG,rE,↓reduceIte,pb,Aa bad]) (aI ?_);try refine ai ?_
 have hlen:x.weights.length<=60:=by unfold nR at bad;omega
 refine bO (fj p3 @aC @aB (dF g3) ?_);refine bD (ai ?_);refine aW (tF H hw2 ar) ?_;rintro _ Y ⟨rfl,hY⟩;try refine ai ?_
 refine aP (ai ?_);exact s2.trans hY
theorem aKJ(H:Has fns)(hx:bX S cs x)(hW:wI S wb ps n i p d l)(hps:1<=ps/\ps<=4)(hi:jJ i=some (.int .i64 ((ni:Nat):Int)))(hni:ni<=1000)(hsi:cE i i=true):fZ fns (.fn 174 [] []) [.ptr wb 0,.agg cs] S fun r S'=>r= .int .i64 (if wV x then 3 else if x.player<0\/ps - 1<x.player\/x.info<0\/(ni:Int) - 1<x.info then 2 else 0)/\Same S S':=by
 obtain⟨a,b,c,rfl,hn,hw,hp⟩:=hx;refine cF H.f174 (by simp) ?_;refine ai ?_;refine bO ?_;refine cI (by refine ai ?_;exact aY _) ?_;intro S2 s2 n2 g3;refine ai ?_;have hn2:=hn.same s2;have hw2:=hw.same s2;have hp2:=hp.same s2;have hW2:=hW.same s2;refine aA (aA (aX (Q:=fun o A' X=>o= .normal/\A'.inr=false/\X=S2/\aD 0 A'.F= .ptr wb 0/\aD 3 A'.F= .ptr S.nx 0/\aD 27 A'.F= .bool (decide (wV x))) (aJ ?_) ?_))
 ·by_cases c0:(0:Int)<(x.weights.length:Int)
  ·rw[Ac (show wV x from .inl c0)];simp only[↓aF,aG,rE,↓reduceIte,aC,aB,dK g3,cV g3,dC g3,dF g3,dZ g3,hn2.len,hw2.len,hp2.len,Ah,Ac c0]
  by_cases c1:(0:Int)<(x.pay.length:Int)
  ·rw[Ac (show wV x from .inr (.inl c1))];simp only[↓aF,aG,rE,↓reduceIte,aC,aB,dK g3,cV g3,dC g3,dF g3,dZ g3,hn2.len,hw2.len,hp2.len,Ah,Aa c0,Ac c1]
  by_cases c2:(x.next.length:Int)<1
  ·rw[Ac (show wV x from .inr (.inr (.inl c2)))];simp only[↓aF,aG,rE,↓reduceIte,aC,aB,dK g3,cV g3,dC g3,dF g3,dZ g3,hn2.len,hw2.len,hp2.len,Ah,Aa c0,Aa c1,Ac c2]
  by_cases c3:(10:Int)<(x.next.length:Int)
  ·rw[Ac (show wV x from .inr (.inr (.inr (c3))))];simp only[↓aF,aG,rE,↓reduceIte,aC,aB,dK g3,cV g3,dC g3,dF g3,dZ g3,hn2.len,hw2.len,hp2.len,Ah,Aa c0,Aa c1,Aa c2,Ac c3]
  rw[Aa (show ¬wV x by rintro(h0 | h1 | h2 | h3)<;>first | exact c0 h0 | exact c1 h1 | exact c2 h2 | exact c3 h3)];simp only[↓aF,aG,rE,↓reduceIte,aC,aB,dK g3,cV g3,dC g3,dF g3,dZ g3,hn2.len,hw2.len,hp2.len,Ah,Aa c0,Aa c1,Aa c2,Aa c3]
 rintro o ⟨F,inr⟩ X ⟨rfl,q0,hX,p0,p3,pb⟩;simp only at q0 p0 p3 pb;subst q0;rw[hX];have sX:=s2;try refine ai ?_
 by_cases bad:wV x
 ·rw[if_pos bad];refine aN (by simp only[↓aF,aG,rE,↓reduceIte,pb,Ac bad]) ?_;refine bO (ai ?_);refine aP (ai ?_);exact sX
 rw[if_neg bad];refine aM (by simp only[↓aF,aG,rE,↓reduceIte,pb,Aa bad]) (aI ?_);try refine ai ?_
 have w1:IntKind.i64.wrap (ps - 1)=ps - 1:=wrap_i64 ar ar;have w2:IntKind.i64.wrap ((ni:Int) - 1)=(ni:Int) - 1:=wrap_i64 ar ar;have lt3:S.nx<S2.nx:=by omega
 refine aA (aA (nS (fun _=>False) ?_));intro S3 s3 h3 n3;simp only[Ax,Bq,rA] at n3;simp only[↓sU,sD,rE,↓reduceIte,rA,p0,p3,bN,cD,bM,aC,aQ,aB,eK hW2.1,dK g3,w1,hW2.2,lt3,Ak];rw[nQ (k:=.i64) (n:=x.player) (af)];refine ae ?_;refine aEc ay rfl ?_;intro S4 s4 n4 c4;refine ae ?_;have s34:Same S2 S4:=s4.same s3 ar;refine aW (tF H (aMl ar c4) (by simp)) ?_;rintro _ Y ⟨rfl,hY⟩;refine⟨hY,?_⟩;refine dm @aDT ?_;have sY:=s2.trans (s34.trans hY);refine bO (ae ?_);by_cases h1:x.player<0\/ps - 1<x.player
 ·rw[if_pos (show x.player<0\/ps - 1<x.player\/x.info<0\/(ni:Int) - 1<x.info by omega)];refine aN (by simp only[↓sU,sD,rE,↓reduceIte,rA,if_pos h1];rfl) ?_;refine bO ?_;simp only[↓sU,sD,rE,↓reduceIte,rA,if_pos h1];refine aP (ae ?_);exact sY
 refine aM (by simp only[↓sU,sD,rE,↓reduceIte,rA,if_neg h1];rfl) (aI ?_);try refine ae ?_
 have hWY:=hW.same sY;have g3Y:Y.h.get S.nx=some (.cells [.int .i64 x.kind,.int .i64 x.player,.int .i64 x.info,a,b,c] false 0):=by rw[(s34.trans hY).2 _ lt3];exact g3
 have lt3Y:S.nx<Y.nx:=Ae lt3 (s34.trans hY).1;refine aA (nS (fun _=>False) ?_);intro S5 s5 h5 n5;simp only[Ax,Bq,rA] at n5;simp only[↓sU,sD,rE,↓reduceIte,rA,p0,p3,bN,cD,bM,aC,aQ,aB,cV hWY.1,hi,hsi,cV g3Y,w2,hWY.2,lt3Y,Ak];rw[nQ (k:=.i64) (n:=x.info) (af)];refine ae ?_;refine aEc ay rfl ?_;intro S6 s6 n6 c6;refine ae ?_;have s56:Same Y S6:=s6.same s5 ar;refine aW (tF H (aMl ar c6) (by simp)) ?_;rintro _ Z ⟨rfl,hZ⟩;refine⟨hZ,?_⟩;refine dm @aDT ?_;refine aP (ae ?_);refine⟨?_,sY.trans (s56.trans hZ)⟩;by_cases h2:x.info<0\/(ni:Int) - 1<x.info
 ·rw[if_pos h2,if_pos ar]
 ·rw[if_neg h2,if_neg ar]
theorem aMN(H:Has fns)(hx:bX S cs x)(hW:wI S wb ps n i p d l)(hps:1<=ps/\ps<=4):fZ fns (.fn 175 [] []) [.ptr wb 0,.agg cs] S fun r S'=>r= .int .i64 (if oF ps x then 3 else if jA (-1000000) 1000000 x.pay then 2 else 0)/\Same S S':=by
 obtain⟨a,b,c,rfl,hn,hw,hp⟩:=hx;refine cF H.f175 (by simp) ?_;refine ai ?_;refine bO ?_;refine cI (by refine ai ?_;exact aY _) ?_;intro S2 s2 n2 g3;refine ai ?_;have hn2:=hn.same s2;have hw2:=hw.same s2;have hp2:=hp.same s2;have hW2:=hW.same s2;have sn:=bI.self hn2;have sw:=bI.self hw2;have sp:=bI.self hp2;refine aA (aA (aX (Q:=fun o A' X=>o= .normal/\A'.inr=false/\Same S2 X/\aD 3 A'.F= .ptr S.nx 0/\aD 35 A'.F= .bool (decide (oF ps x))) (gD ?_) ?_))
 ·have sX:=Same.nx S2 31;by_cases c0:x.player≠0
  ·rw[Ac (show oF ps x from .inl c0)];simp only[↓aF,aG,rE,↓reduceIte,aC,aB,dK g3,cV g3,dC g3,dF g3,dZ g3,hn2.len,hw2.len,hp2.len,Ah,bN,cD,bM,aQ,gC,eK hW2.1,sn,sw,sp,Ac c0];exact Same.nx S2 _
  by_cases c1:x.info≠0
  ·rw[Ac (show oF ps x from .inr (.inl c1))];simp only[↓aF,aG,rE,↓reduceIte,aC,aB,dK g3,cV g3,dC g3,dF g3,dZ g3,hn2.len,hw2.len,hp2.len,Ah,bN,cD,bM,aQ,gC,eK hW2.1,sn,sw,sp,Aa c0,Ac c1];exact Same.nx S2 _
  by_cases c2:(0:Int)<(x.next.length:Int)
  ·rw[Ac (show oF ps x from .inr (.inr (.inl c2)))];simp only[↓aF,aG,rE,↓reduceIte,aC,aB,dK g3,cV g3,dC g3,dF g3,dZ g3,hn2.len,hw2.len,hp2.len,Ah,bN,cD,bM,aQ,gC,eK hW2.1,sn,sw,sp,Aa c0,Aa c1,Ac c2];exact Same.nx S2 _
  by_cases c3:(0:Int)<(x.weights.length:Int)
  ·rw[Ac (show oF ps x from .inr (.inr (.inr (.inl c3))))];simp only[↓aF,aG,rE,↓reduceIte,aC,aB,dK g3,cV g3,dC g3,dF g3,dZ g3,hn2.len,hw2.len,hp2.len,Ah,bN,cD,bM,aQ,gC,eK hW2.1,sn,sw,sp,Aa c0,Aa c1,Aa c2,Ac c3];exact Same.nx S2 _
  by_cases c4:(x.pay.length:Int)≠ps
  ·rw[Ac (show oF ps x from .inr (.inr (.inr (.inr (c4)))))];simp only[↓aF,aG,rE,↓reduceIte,aC,aB,dK g3,cV g3,dC g3,dF g3,dZ g3,hn2.len,hw2.len,hp2.len,Ah,bN,cD,bM,aQ,gC,eK hW2.1,sn,sw,sp,Aa c0,Aa c1,Aa c2,Aa c3,Ac c4];exact Same.nx S2 _
  rw[Aa (show ¬oF ps x by rintro(h0 | h1 | h2 | h3 | h4)<;>first | exact c0 h0 | exact c1 h1 | exact c2 h2 | exact c3 h3 | exact c4 h4)];simp only[↓aF,aG,rE,↓reduceIte,aC,aB,dK g3,cV g3,dC g3,dF g3,dZ g3,hn2.len,hw2.len,hp2.len,Ah,bN,cD,bM,aQ,gC,eK hW2.1,sn,sw,sp,Aa c0,Aa c1,Aa c2,Aa c3,Aa c4];exact Same.nx S2 _
 rintro o ⟨F,inr⟩ X ⟨rfl,q0,hX,p3,pb⟩;simp only at q0 p3 pb;subst q0;have sX:=s2.trans hX;have g3X:X.h.get S.nx=some (.cells [.int .i64 x.kind,.int .i64 x.player,.int .i64 x.info,a,b,c] false 0):=by rw[hX.2 _ ar];exact g3
 try refine ai ?_
 by_cases bad:oF ps x
 ·rw[if_pos bad];refine aN (by simp only[↓aF,aG,rE,↓reduceIte,pb,Ac bad]) ?_;refine bO (ai ?_);refine aP (ai ?_);exact sX
 rw[if_neg bad];refine aM (by simp only[↓aF,aG,rE,↓reduceIte,pb,Aa bad]) (aI ?_);try refine ai ?_
 have hlen:x.pay.length<=60:=by unfold oF at bad;omega
 have hneg:Int.negSucc 999999= -1000000:=rfl;refine bO (fj p3 @aC @aB (dZ g3X) ?_);refine bD (ez hneg ?_);refine aW (tF H (hp2.same hX) ar) ?_;rintro _ Y ⟨rfl,hY⟩;try refine ai ?_
 refine aP (ai ?_);exact sX.trans hY
end
section
variable {S:St}{wb:Nat}{ps:Int}{n i p d l:AV}{ni:Nat}{cs:bf}{x:dP}
theorem aK0(H:Has fns)(hx:bX S cs x)(hW:wI S wb ps n i p d l)(hps:1<=ps/\ps<=4)(hi:jJ i=some (.int .i64 ((ni:Nat):Int)))(hni:ni<=1000)(hsi:cE i i=true):fZ fns (.fn 162 [] []) [.ptr wb 0,.agg cs] S fun r S'=>r= .int .i64 (iG ps ni x)/\Same S S':=by
 obtain⟨a,b,c,rfl,hn,hw,hp⟩:=id hx;refine cF H.f162 (by simp) ?_;refine ai ?_;refine bO ?_;refine cI (by refine ai ?_;exact aY _) ?_;intro S1 s1 n1 g3;refine ai ?_;have hbd:∀ (F:Fr) (h:T AB),gM (.build [.nilfn,.nilfn,.nilfn,.nilfn] [(1,1,.c (.fn 173 [] [])),(2,1,.c (.fn 174 [] [])),(3,1,.c (.fn 175 [] []))]) F h=some (.agg [.nilfn,.fn 173 [] [],.fn 174 [] [],.fn 175 [] []]):=fun _ _=>rfl;refine bO (ez hbd ?_);refine cA ?_;intro S2 s2 n2 c2;refine cQ (b:=S1.nx) (aj) (by refine ai ?_;exact aY _) c2 rfl rfl ?_;intro S3 s3 n3 c3;refine ai ?_;have s13:Same S1 S3:=s3.same s2 (Ag _);have sS:=s1.trans s13;have g3:S3.h.get S.nx=some (.cells [.int .i64 x.kind,.int .i64 x.player,.int .i64 x.info,a,b,c] false 0):=by rw[s13.2 _ ar];exact g3
 have lt3:S.nx<S3.nx:=by omega
 have lt5:S1.nx<S3.nx:=by omega
 have hx3:bX S3 [.int .i64 x.kind,.int .i64 x.player,.int .i64 x.info,a,b,c] x:=bL hx sS;have hW3:=hW.same sS;have sl:=aBw (dH .i64 x.kind) (dH .i64 x.player) (dH .i64 x.info) (bI.self hn) (bI.self hw) (bI.self hp);unfold iG;refine aA (aA (aX (Q:=fun o A' X=>o= .normal/\A'.inr=false/\X=S3/\aD 0 A'.F= .ptr wb 0/\aD 3 A'.F= .ptr S.nx 0/\aD 5 A'.F= .ptr S1.nx 0/\aD 14 A'.F= .bool (decide (x.kind<1\/3<x.kind))) (aJ ?_) ?_))
 ·by_cases h1:x.kind<1
  ·rw[Ac (show x.kind<1\/3<x.kind from .inl h1)];simp only[↓aF,aG,rE,↓reduceIte,aC,aB,eK g3,Ac h1]
  ·by_cases h2:3<x.kind
   ·rw[Ac (show x.kind<1\/3<x.kind from .inr h2)];simp only[↓aF,aG,rE,↓reduceIte,aC,aB,eK g3,Aa h1,Ac h2]
   ·rw[Aa (show ¬ (x.kind<1\/3<x.kind) by omega)];simp only[↓aF,aG,rE,↓reduceIte,aC,aB,eK g3,Aa h1,Aa h2]
 rintro o ⟨F,inr⟩ X ⟨rfl,q0,hX,p0,p3,p5,pb⟩;simp only at q0 p0 p3 p5 pb;subst q0;rw[hX];try refine ai ?_
 by_cases bad:x.kind<1\/3<x.kind
 ·rw[if_neg ar,if_neg ar,if_neg ar];refine aN (by simp only[↓aF,aG,rE,↓reduceIte,pb,Ac bad]) ?_;refine bO (ai ?_);refine aP (ai ?_);exact sS
 refine aM (by simp only[↓aF,aG,rE,↓reduceIte,pb,Aa bad]) (aI ?_);try refine ai ?_
 have hld:∀j y,[AV.nilfn,.fn 173 [] [],.fn 174 [] [],.fn 175 [] []][j]? =some y->dT (.ptr S1.nx j) false 1 S3.h=some y:=fun j y hy=>by have:=ldc (j:=j) c3 hy;rw[An] at this;exact this
 have n1':fP (.int .i64 1)=some 1:=rfl;have n2':fP (.int .i64 2)=some 2:=rfl;have n3':fP (.int .i64 3)=some 3:=rfl;have i1:dO (.arr 4 1) (.ptr S1.nx 0) 1=some (.ptr S1.nx 1):=rfl;have i2:dO (.arr 4 1) (.ptr S1.nx 0) 2=some (.ptr S1.nx 2):=rfl;have i3:dO (.arr 4 1) (.ptr S1.nx 0) 3=some (.ptr S1.nx 3):=rfl;have l1:=hld 1 _ rfl;have l2:=hld 2 _ rfl;have l3:=hld 3 _ rfl;have f1:cE (.fn 173 [] []) (.fn 173 [] [])=true:=rfl;have f2:cE (.fn 174 [] []) (.fn 174 [] [])=true:=rfl;have f3:cE (.fn 175 [] []) (.fn 175 [] [])=true:=rfl;have g3':=ldN g3;refine aA (gS (fun _=>False) ?_);intro S4 s4;by_cases k1:x.kind=1
 ·rw[if_pos k1];rw[k1] at g3 g3' sl hx3;simp only[↓sU,sD,rE,↓reduceIte,rA,p0,p3,p5,aC,aQ,aB,eK g3,n1',i1,l1,f1,g3',sl,lt3,lt5,Ak];refine cU rfl ?_;refine ae ?_;refine aW (aHE H (by have:=bL hx (sS.trans s4);rw[k1] at this;exact this)) ?_;rintro _ Y ⟨rfl,hY⟩;refine⟨hY,?_⟩;try refine ae ?_
  refine aP (ae ?_);exact sS.trans (s4.trans hY)
 by_cases k2:x.kind=2
 ·rw[if_neg k1,if_pos k2];rw[k2] at g3 g3' sl;simp only[↓sU,sD,rE,↓reduceIte,rA,p0,p3,p5,aC,aQ,aB,eK g3,n2',i2,l2,f2,g3',sl,lt3,lt5,Ak];refine cU rfl ?_;refine ae ?_;refine aW (aKJ H (by have:=bL hx (sS.trans s4);rw[k2] at this;exact this) (hW3.same s4) hps hi hni hsi) ?_;rintro _ Y ⟨rfl,hY⟩;refine⟨hY,?_⟩;try refine ae ?_
  refine aP (ae ?_);exact sS.trans (s4.trans hY)
 have k3:x.kind=3:=by omega
 rw[if_neg k1,if_neg k2,if_pos k3];rw[k3] at g3 g3' sl;simp only[↓sU,sD,rE,↓reduceIte,rA,p0,p3,p5,aC,aQ,aB,eK g3,n3',i3,l3,f3,g3',sl,lt3,lt5,Ak];refine cU rfl ?_;refine ae ?_;refine aW (aMN H (by have:=bL hx (sS.trans s4);rw[k3] at this;exact this) (hW3.same s4) hps) ?_;rintro _ Y ⟨rfl,hY⟩;refine⟨hY,?_⟩;try refine ae ?_
 refine aP (ae ?_);exact sS.trans (s4.trans hY)
end
abbrev dM:=Int×Int×Int
def jK(rec:Nat->Option (List dM)):ba->Nat->Option (List dM)
 | [],_=>some []
 | c::l,r=>if c=(r:Int) then(rec r).bind fun L1=>(jK rec l (r+L1.length)).map (L1++ ·) else none
def fW(N:Nat)(nx:Nat->ba):Nat->Nat->Int->Int->Option (List dM)
 | 0,_,_,_=>none
 | f+1,at_,p,d=>if at_<N then(jK (fun r=>fW N nx f r at_ (d+1)) (nx at_) (at_+1)).map fun L=>(p,d,((at_+L.length:Nat):Int))::L else none
def yX(m:Int)(L:List dM):Int:=L.foldl (fun m t=>mx m t.2.1) m
theorem aGM(m:Int)(L L':List dM):yX m (L++L')=yX (yX m L) L':=List.foldl_append ..
theorem aKE(m:Int)(t:dM)(L:List dM):yX m (t::L)=yX (mx m t.2.1) L:=rfl
def eB(g:aS)(i:Nat):ba:=((g.bh[i]?).map (·.next)).getD []
theorem aAA{g:aS}{i:Nat}{x:dP}(h:g.bh[i]? =some x):eB g i=x.next:=by unfold eB;rw[h];rfl
theorem aFa{rec:Nat->Option (List dM)}{N:Nat}(hr:∀r L,rec r=some L->r+L.length<=N/\0<L.length):∀ {l:ba} {r:Nat} {L:List dM},r<=N->jK rec l r=some L->r+L.length<=N
 | [],r,L,h,hk=>by simp only[jK,Ap] at hk;subst hk;simpa using h
 | c::l,r,L,h,hk=>by
  simp only[jK] at hk;split at hk
  ·have⟨L1,h1,h2⟩:=Cz.1 hk;obtain⟨L2,h3,rfl⟩:=Aw.1 h2;have:=aFa hr (hr r L1 h1).1 h3;rw[Ao];omega
  ·cases hk
theorem yS{N:Nat}{nx:Nat->ba}:∀ {f at_:Nat} {p d:Int} {L:List dM},fW N nx f at_ p d=some L->at_+L.length<=N/\0<L.length
 | 0,at_,p,d,L,h=>by cases h
 | f+1,at_,p,d,L,h=>by
  simp only[fW] at h;split at h
  ·rename_i hlt;obtain⟨L',h1,rfl⟩:=Aw.1 h;have:=aFa (N:=N) (fun r L hr=>yS hr) (show at_+1<=N by omega) h1;rw[Ax];omega
  ·cases h
theorem aE.tail{k:Nat}{α:Type}{E:St->bf->α->Prop}{S:St}{v:AV}{a:α}{l:List α}(h:aE k E S v (a::l)):∃v',(∀ (F:Fr) (x:cO),fP (x.val F)=some 1->aAx (.slice k) v (some x) none none F=some v')/\aE k E S v' l:=by
 rcases h with⟨h0,_⟩ | ⟨b,off,cap,o,cs,rfl,hc,hb,hcs,hel⟩
 ·cases h0
 ·rw[Ax] at hc;have e1:Nat.ble cap cap=true:=Av (Ag _);have e2:Nat.ble (l.length+1) cap=true:=Av hc;have e3:Nat.ble 1 (l.length+1)=true:=Av ar;by_cases h1:cap=1
  ·have hl:l= []:=Bu.1 ar;subst hl;subst h1;have e4:Nat.beq 1 1=true:=rfl;refine⟨bQ o .emp (.sl b off 0 0 false),fun F x hx=>?_,?_⟩
   ·simp only[aAx,aM1,pY,lC,aL,hx,Ax,Bq];cases o<;>rfl
   ·cases o with
    | true=>exact .inl ⟨rfl,.inr rfl⟩
    | false=>exact .inr ⟨b,off,0,false,cs,rfl,Ag _,hb,hcs,fun i a hi=>by simp at hi⟩
  ·have e4:Nat.beq cap 1=false:=by rw[Ei];intro h;rw[Bj] at h;omega
   refine⟨.sl b (off+1 * k) (l.length+1 - 1) (cap - 1) o,fun F x hx=>?_,.inr ⟨b,off+1 * k,cap - 1,o,cs,by simp,ar,hb,hcs,fun i a' hi=>?_⟩⟩
   ·simp only[aAx,aM1,pY,lC,aL,hx,Ax,e1,e2,e3,aR,e4,bB,Option.isNone_none];cases o<;>rfl
   ·have⟨e,h1,h2,h3⟩:=hel (i+1) a' (by simpa using hi);refine⟨e,h1,fun j x hj=>?_,h3⟩;have:=h2 j x hj;rw[show off+1 * k+i * k+j=off+(i+1) * k+j by rw[Ec];omega];exact this
theorem aGg(a b:Int):mH true [.int .i64 a,.int .i64 b]=some (.int .i64 (mx a b)):=by rw[aNO,aPI,aP3]
def aI4(S:St)(db:Nat)(at_:Nat)(deep:Int)(o:Option (List dM))(r:AV)(S':St):Prop:=
 bT db S S'/\match o with
 | some L=>r= .int .i64 ((at_+L.length:Nat):Int)/\S'.h.get db=some (.cells [.int .i64 (yX deep L)] false 0)
 | none=>r= .int .i64 (-1)/\∃z,S'.h.get db=some (.cells [.int .i64 z] false 0)
def aOH(S1:St)(gb db at_:Nat)(d deep1:Int)(rec:Nat->Option (List dM))(ks:ba)(k:Nat)(A:bG)(X:St):Prop:=
 A.inr=false/\bT db S1 X/\∃ (j:Nat) (L:List dM),j+k=ks.length/\at_+1+L.length<=2000/\jK rec ks (at_+1)=(jK rec (ks.drop j) (at_+1+L.length)).map (L++ ·)/\aD 1 A.F= .int .i64 (at_:Int)/\aD 2 A.F= .int .i64 d/\aD 3 A.F= .ptr db 0/\aD 4 A.F= .ptr gb 0/\aD 9 A.F= .int .i64 ((at_+1+L.length:Nat):Int)/\aD 10 A.F= .int .i64 (j:Int)/\X.h.get db=some (.cells [.int .i64 (yX deep1 L)] false 0)
theorem aI0{S0:St}{gv:AV}{g:aS}{db:Nat}(H:Has fns)(hG:aPQ S0 gv g)(hdb:S0.nx<=db)(hN:g.bh.length<=2000):∀ (f:Nat) {S:St} {at_:Nat} {p d deep:Int},g.bh.length+1 - at_<=f->0<=d->d<=at_->at_<=3000->(∀x∈g.bh,x.next.length<=1000)->Same S0 S->db<S.nx->S.h.get db=some (.cells [.int .i64 deep] false 0)->
  fZ fns (.fn 103 [] []) [gv,.int .i64 (at_:Int),.int .i64 d,.ptr db 0] S fun r S'=>aI4 S db at_ deep (fW g.bh.length (eB g) f at_ p d) r S':=by
 intro f
 induction f with
 | zero=>
  intro S at_ p d deep hf hd0 hd hat hlen hS hlt hdeep;obtain⟨nv,iv,rfl,hn,hi⟩:=id hG;have hnS:=aE.same (E:=bX) bL hn hS;refine cF H.f103 (by simp) ?_;refine ai ?_;refine bO ?_;refine cI (by refine ai ?_;exact aY _) ?_;intro S1 s1 n1 c1;refine ai ?_;refine fC (fj @aC @aB (zE c1) hnS.len ?_);refine aN (by simp only[↓aF,aG,rE,↓reduceIte,Ac (show(g.bh.length:Int)<=(at_:Int) by omega)]) ?_;refine bO (ai ?_);refine aP (ai ?_);exact⟨⟨s1.1,fun c hc _=>s1.2 c hc⟩,rfl,deep,by rw[s1.2 _ hlt];exact hdeep⟩
 | succ f ih=>
  intro S at_ p d deep hf hd0 hd hat hlen hS hlt hdeep;obtain⟨nv,iv,rfl,hn,hi⟩:=id hG;have hnS:=aE.same (E:=bX) bL hn hS;refine cF H.f103 (by simp) ?_;refine ai ?_;refine bO ?_;refine cI (by refine ai ?_;exact aY _) ?_;intro S1 s1 n1 c1;refine ai ?_;have hdeep1:S1.h.get db=some (.cells [.int .i64 deep] false 0):=by rw[s1.2 _ hlt];exact hdeep
  have b1:bT db S S1:=⟨s1.1,fun c hc _=>s1.2 c hc⟩;refine fC (fj @aC @aB (zE c1) hnS.len ?_);by_cases hlt':at_<g.bh.length;rotate_left
  ·refine aN (by simp only[↓aF,aG,rE,↓reduceIte,Ac (show(g.bh.length:Int)<=(at_:Int) by omega)]) ?_;refine bO (ai ?_);refine aP (ai ?_);refine⟨b1,?_⟩;simp only[fW,if_neg hlt'];exact⟨rfl,deep,hdeep1⟩
  refine aM (by simp only[↓aF,aG,rE,↓reduceIte,Aa (show ¬ (g.bh.length:Int)<=(at_:Int) by omega)]) (aI ?_);try refine ai ?_
  obtain⟨x,hx⟩:∃x,g.bh[at_]? =some x:=⟨_,Ab hlt'⟩;have hnx:=aAA hx;have hxl:=hlen x (Ar hx);have w1:=dh at_
  have w2:IntKind.i64.wrap (d+1)=d+1:=wrap_i64 ar ar;have ldd:dT (.ptr db 0) false 1 S1.h=some (.int .i64 deep):=ldc (j:=0) hdeep1 rfl;refine bO ?_;simp only[↓aF,aG,rE,↓reduceIte,bN,bM,ldd,aMG,iZ,mQ,aGg];refine cQ (b:=db) (aj) (by refine ai ?_;exact cR _ _) hdeep1 rfl rfl ?_;intro S2 s2 n2 c2;refine ai ?_;have b2:=b1.trans s2;have gb2:S2.h.get S.nx=some (.cells [.int .i64 g.bo,nv,iv] false 0):=by rw[s2.2 _ ar ar];exact c1
  refine bO (ez w1 ?_);refine fC (ai ?_);have hW:fW g.bh.length (eB g) (f+1) at_ p d=(jK (fun r=>fW g.bh.length (eB g) f r at_ (d+1)) x.next (at_+1)).map fun L=>(p,d,((at_+L.length:Nat):Int))::L:=by
   simp only[fW,if_pos hlt',hnx]
  rw[hW];refine aX (Q:=fun o A' X=>(o= .normal/\aOH S2 S.nx db at_ d (mx deep d) (fun r=>fW g.bh.length (eB g) f r at_ (d+1)) x.next 0 A' X)\/(o= .ret/\bT db S2 X/\jK (fun r=>fW g.bh.length (eB g) f r at_ (d+1)) x.next (at_+1)=none/\aD 8 A'.F= .int .i64 (-1)/\∃z,X.h.get db=some (.cells [.int .i64 z] false 0))) (aK (bH (aOH S2 S.nx db at_ d (mx deep d) (fun r=>fW g.bh.length (eB g) f r at_ (d+1)) x.next) ?_ x.next.length _ _ ⟨rfl,bT.refl _ _,0,[],ar,by rw[Bq];omega,by simp,aj,aj,aj,aj,by simp only[↓aF,aG,rE,↓reduceIte];rfl,aj,c2⟩)) ?_
  ·rintro k ⟨F,inr⟩ X ⟨q0,hX,j,L,hjk,hL20,hkid,p1,p2,p3,p4,p9,p10,hdX⟩;simp only at q0 p1 p2 p3 p4 p9 p10;subst q0;have hbX:=b2.trans hX;have hSX:Same S0 X:=bT.same hS hbX hdb;have gbX:X.h.get S.nx=some (.cells [.int .i64 g.bo,nv,iv] false 0):=by rw[hX.2 _ ar ar];exact gb2
   obtain⟨e,b,q,hia,hb,he,⟨a,bb,cc,rfl,ha,_,_⟩,_,hlf⟩:=aE.at (aE.same (E:=bX) bL hn hSX) ay hx;have hl3:=hlf 3 a rfl;refine fC ?_;simp only[↓aF,aG,rE,↓reduceIte,p1,p4,p10,aC,aB,zE gbX,aH,hia,hl3,ha.len,Ah];by_cases hj:j<x.next.length
   ·refine aN (by simp only[↓aF,aG,rE,↓reduceIte,Ac (show(j:Int)<(x.next.length:Int) by omega)]) (aI ?_);try refine ai ?_
    have hias:=ha.cp hj;have hlds:=ha.ld hj;have hdrop:x.next.drop j=x.next[j]::x.next.drop (j+1):=Bw hj;have hgd:x.next.getD j 0=x.next[j]:=by rw[Ad,Ab hj];rfl
    rw[hgd] at hlds;rw[hdrop] at hkid;generalize x.next[j]=c at *;refine aA (aK (aA (aA (aJ ?_))));simp only[↓aF,aG,rE,↓reduceIte,p1,p4,p9,p10,aC,aB,zE gbX,aH,hia,hl3,hias,hlds];by_cases hc:c=((at_+1+L.length:Nat):Int);rotate_left
    ·refine aN (by simp only[↓aF,aG,rE,↓reduceIte,Ac (show c≠((at_+1+L.length:Nat):Int) from hc)]) ?_;refine bO (ai ?_);refine aP (ai ?_);refine .inr ⟨hX,?_,rfl,_,hdX⟩;rw[hkid];simp only[jK,if_neg hc];rfl
    refine aM (by simp only[↓aF,aG,rE,↓reduceIte,Aa (show ¬c≠((at_+1+L.length:Nat):Int) from fun h=>h hc)]) (aI ?_);try refine ai ?_
    simp only[jK,if_pos hc] at hkid;have hr:at_+1+L.length<=3000:=by omega
    refine bO ?_;simp only[↓aF,aG,rE,↓reduceIte,p2,p3,p4,p9,ld3 gbX,w2];refine bD (ai ?_);refine aW (ih (S:=X) (at_:=at_+1+L.length) (p:=at_) (d:=d+1) ar ar ar hr hlen hSX (Ae hlt hbX.1) hdX) ?_;rintro r Y ⟨hY,hres⟩;cases hw:fW g.bh.length (eB g) f (at_+1+L.length) at_ (d+1) with
    | none=>
     rw[hw] at hres hkid;obtain⟨rfl,hz⟩:=hres;try refine ai ?_
     refine bO (ai ?_);refine aN (by simp only[↓aF,aG,rE,↓reduceIte];rfl) ?_;refine bO (ai ?_);refine aP (ai ?_);refine .inr ⟨hX.trans hY,?_,rfl,hz⟩;rw[hkid];rfl
    | some L1=>
     rw[hw] at hres hkid;obtain⟨rfl,hdY⟩:=hres;have hwl:=(yS hw).1;simp only[Option.bind_some,Option.map_map] at hkid;try refine ai ?_
     refine bO (ai ?_);refine aM (by simp only[↓aF,aG,rE,↓reduceIte,Aa (show ¬ ((at_+1+L.length+L1.length:Nat):Int)<0 by omega)]) (aI ?_);try refine ai ?_
     refine aJ ?_;have w3:=dh j
     refine fh p10 w3 ?_;refine⟨k - 1,ar,rfl,hX.trans hY,j+1,L++L1,ar,by rw[Ao];omega,?_,ak p1,ak p2,ak p3,ak p4,by simp only[↓aF,aG,rE,↓reduceIte,Ao];congr 1;omega,aj,?_⟩
     ·rw[hkid,Ao,<-Cq];congr 1;funext M;simp
     ·rw[aGM];exact hdY
   ·refine aM (by simp only[↓aF,aG,rE,↓reduceIte,Aa (show ¬ (j:Int)<(x.next.length:Int) by omega)]) (bJ ?_);refine ai ?_;have hk0:k=0:=by omega
    subst hk0;exact .inl ⟨rfl,hX,j,L,hjk,hL20,hkid,ak p1,ak p2,ak p3,ak p4,ak p9,ak p10,hdX⟩
  rintro o ⟨F,inr⟩ X (⟨rfl,q0,hX,j,L,hjk,hL20,hkid,p1,p2,p3,p4,p9,p10,hdX⟩ | ⟨rfl,hX,hno,p8,hz⟩)
  ·simp only at q0 p9;subst q0;rw[Cn ar] at hkid;simp only[jK,Dy,Dn] at hkid;rw[hkid];try refine ai ?_
   refine bO (ez p9 ?_);refine aP (ai ?_);refine⟨b2.trans hX,?_,?_⟩
   ·congr 1;simp;omega
   ·exact hdX
  ·rw[hno];simp only at p8;refine ez p8 ?_;exact⟨b2.trans hX,rfl,hz⟩
def aU(l:ba):bf:=l.map (AV.int .i64)
theorem nF(l:ba):(aU l).length=l.length:=by simp [aU]
theorem iA{S S':St}(h:Same S S'){b p n:Nat}{agg:Bool}(hb:b<S.nx):dT (.ptr b p) agg n S'.h=dT (.ptr b p) agg n S.h:=by
 have e:=wC h hb;simp only[dT,pS,aAF,lK,e]
theorem sM{S:St}{b p:Nat}{w:Int}{l:ba}{o:Bool}{sz:Nat}(h:S.h.get b=some (.cells (aU l) o sz))(hp:p<l.length):sO (.ptr b p) 1 [.int .i64 w] S=some (.undef,⟨S.h.set b (some (.cells (aU (l.set p w)) o sz)),S.nx⟩):=by
 have hput:put (aU l) p [AV.int .i64 w]=some (aU (l.set p w)):=by
  rw[put_eq,if_pos (by rw[nF];simp;omega)];congr 1;unfold aU;rw[List.map_set,List.set_eq_take_append_cons_drop,if_pos (by simp;omega)];simp
 simp only[sO,tN,h,aL,aBJ,hput];rfl
theorem aDk{S:St}{b N sz:Nat}{l:ba}{o:Bool}(h:S.h.get b=some (.cells (aU l) o sz))(hb:b<S.nx)(hl:l.length=N):bI .i64 S (.sl b 0 N N false) l:=by
 subst hl;refine .inr ⟨b,0,l.length,false,aU l,rfl,Ag _,hb,by unfold cK;rw[h];rfl,fun i x hi=>?_⟩;rw[An];unfold aU;rw[Am,hi];rfl
theorem dR{b N i:Nat}{o:Bool}(hi:i<N):dO (.slice 1) (.sl b 0 N N o) i=some (.ptr b i):=ia8 hi
theorem uF{W:Nat->Prop}{h0:T AB}{base m i:Nat}{l:List AO}{F:Fr}{S:St}{last:Option Nat}{Q:Fr->St->List iQ->Prop}{x v:cO}{b p sz:Nat}{w:Int}{P:ba}{o:Bool}(h:jQ last m=true)(hx:x.val F= .ptr b p)(hv:v.val F= .int .i64 w)(hb:S.h.get b=some (.cells (aU P) o sz))(hp:p<P.length)(hW:W b)
  (hr:∀S1,bT b S S1->S1.nx=S.nx->S1.h.get b=some (.cells (aU (P.set p w)) o sz)->fF fns W h0 base l (i+1) F S1 [] (some i) Q):fF fns W h0 base (⟨none,.x (.st 1 x v),none,m⟩::l) i F S [] last Q:=by
 have hS:bT b S ⟨S.h.set b (some (.cells (aU (P.set p w)) o sz)),S.nx⟩:=(bT.refl b S).put _;refine pD (S1:=⟨S.h.set b (some (.cells (aU (P.set p w)) o sz)),S.nx⟩) h ?_ ⟨Ag _,fun c hc hw=>?_⟩ (hr _ hS rfl ?_)
 ·rw[hv,cR,aL,hx];exact sM (S:=S) hb hp
 ·simp only;rw[di,if_neg (show ¬c=b from fun e=>hw (by rw[e];exact hW))];rfl
 ·simp only;rw[di,if_pos rfl]
def xG(T:List dM)(a j:Nat):Option dM:=if a<=j then T[j - a]? else none
def iL(sel:dM->Int)(P P':ba)(T:List dM)(a:Nat):Prop:=P'.length=P.length/\∀j,P'.getD j 0=((xG T a j).map sel).getD (P.getD j 0)
theorem iL.nil(sel:dM->Int)(P:ba)(a:Nat):iL sel P P [] a:=⟨rfl,fun j=>by unfold xG;split<;>simp⟩
theorem aOu{T:List dM}{a j:Nat}{t:dM}(h:xG T a j=some t):a<=j/\j<a+T.length:=by
 unfold xG at h;split at h
 ·have:=(Ai.1 h).1;omega
 ·cases h
theorem aKc{T:List dM}{a j:Nat}(h:j<a\/a+T.length<=j):xG T a j=none:=by
 unfold xG;split
 ·exact Cd ar
 ·rfl
theorem aB9(T T':List dM)(a j:Nat):xG (T++T') a j=(xG T a j).or (xG T' (a+T.length) j):=by
 unfold xG;by_cases h:a<=j
 ·rw[if_pos h,if_pos h,En];by_cases h1:j - a<T.length
  ·rw[if_pos h1,if_neg ar,Ab h1];rfl
  ·rw[if_neg h1,if_pos ar,Cd (l:=T) (i:=j - a) ar,show j - a - T.length=j - (a+T.length) by omega];rfl
 ·rw[if_neg h,if_neg h,if_neg ar];rfl
theorem iL.append{sel:dM->Int}{P P1 P2:ba}{T T':List dM}{a:Nat}(h1:iL sel P P1 T a)(h2:iL sel P1 P2 T' (a+T.length)):iL sel P P2 (T++T') a:=by
 refine⟨h2.1.trans h1.1,fun j=>?_⟩;rw[h2.2,h1.2,aB9];cases hc:xG T a j with
 | none=>rfl
 | some t=>
  have:=aOu hc;rw[aKc ar];rfl
theorem gJ{P:ba}{i j:Nat}{v:Int}(hi:i<P.length):(P.set i v).getD j 0=if j=i then v else P.getD j 0:=by
 rw[Ad,Cu];by_cases h:i=j
 ·subst h;rw[if_pos rfl,if_pos rfl,if_pos hi];rfl
 ·rw[if_neg h,if_neg (Bt h),Ad]
theorem aHX(t:dM)(a j:Nat):xG [t] a j=if j=a then some t else none:=by
 unfold xG;by_cases h:j=a
 ·subst h;simp
 ·rw[if_neg h];split
  ·exact Cd (by simp;omega)
  ·rfl
theorem iL.one{sel:dM->Int}{P:ba}{t:dM}{a:Nat}{v:Int}(ha:a<P.length)(hv:sel t=v):iL sel P (P.set a v) [t] a:=by
 refine⟨Aq ..,fun j=>?_⟩;rw[gJ ha,aHX];by_cases h:j=a
 ·rw[if_pos h,if_pos h,<-hv];rfl
 ·rw[if_neg h,if_neg h];rfl
theorem iL.late{sel:dM->Int}{P P1:ba}{t:dM}{L:List dM}{a:Nat}{v:Int}(h:iL sel P P1 L (a+1))(ha:a<P.length)(hv:sel t=v):iL sel P (P1.set a v) (t::L) a:=by
 refine⟨by rw[Aq];exact h.1,fun j=>?_⟩;rw[gJ (by rw[h.1];exact ha),h.2];have e:xG (t::L) a j=(xG [t] a j).or (xG L (a+1) j):=aB9 [t] L a j;rw[e,aHX];by_cases hj:j=a
 ·rw[if_pos hj,if_pos hj,<-hv];rfl
 ·rw[if_neg hj,if_neg hj];rfl
structure WK(S:St)(wb pb db lb N:Nat)(ps:Int)(nv iv:AV)(P D L:ba):Prop where
 w:wI S wb ps nv iv (.sl pb 0 N N false) (.sl db 0 N N false) (.sl lb 0 N N false)
 gp:S.h.get pb=some (.cells (aU P) false 0)
 gd:S.h.get db=some (.cells (aU D) false 0)
 gl:S.h.get lb=some (.cells (aU L) false 0)
 lp:P.length=N
 ld:D.length=N
 ll:L.length=N
 bp:pb<S.nx
 bd:db<S.nx
 bl:lb<S.nx
def sK(pb db lb:Nat)(S S':St):Prop:=S.nx<=S'.nx/\∀c,c<S.nx->c≠pb->c≠db->c≠lb->S'.h.get c=S.h.get c
theorem sK.refl(pb db lb:Nat)(S:St):sK pb db lb S S:=⟨Ag _,fun _ _ _ _ _=>rfl⟩
theorem sK.trans{pb db lb:Nat}{S S' S'':St}(h:sK pb db lb S S')(h':sK pb db lb S' S''):sK pb db lb S S'':=⟨Al h.1 h'.1,fun c hc h1 h2 h3=>(h'.2 c (Ae hc h.1) h1 h2 h3).trans (h.2 c hc h1 h2 h3)⟩
theorem sK.same{pb db lb:Nat}{S0 S S':St}(h0:Same S0 S)(h:sK pb db lb S S')(h1:S0.nx<=pb)(h2:S0.nx<=db)(h3:S0.nx<=lb):Same S0 S':=⟨Al h0.1 h.1,fun c hc=>(h.2 c (Ae hc h0.1) ar ar ar).trans (h0.2 c hc)⟩
def aRt(S0 S:St)(wb pb db lb:Nat)(ps:Int)(nv iv:AV)(g:aS)(P D L:ba)(at_:Nat)(o:Option (List dM))(r:AV)(S':St):Prop:=
 sK pb db lb S S'/\∃P' D' L',WK S' wb pb db lb g.bh.length ps nv iv P' D' L'/\match o with
 | some T=>(∃v,r= .tup [v,.bool true]/\aE 6 bX S0 v (g.bh.drop (at_+T.length)))/\iL (·.1) P P' T at_/\iL (·.2.1) D D' T at_/\iL (·.2.2) L L' T at_
 | none=>r= .tup [.bw,.bool false]
def aRm(S0 S2:St)(wb pb db lb:Nat)(ps:Int)(nv iv a:AV)(g:aS)(P D L:ba)(at_:Nat)(d:Int)(rec:Nat->Option (List dM))(ks:ba)(k:Nat)(A:bG)(X:St):Prop:=
 A.inr=false/\sK pb db lb S2 X/\∃ (j:Nat) (T:List dM) (P' D' L':ba) (v:AV),j+k=ks.length/\at_+1+T.length<=g.bh.length/\jK rec ks (at_+1)=(jK rec (ks.drop j) (at_+1+T.length)).map (T++ ·)/\
  WK X wb pb db lb g.bh.length ps nv iv P' D' L'/\iL (·.1) P P' T (at_+1)/\iL (·.2.1) D D' T (at_+1)/\iL (·.2.2) L L' T (at_+1)/\aE 6 bX S0 v (g.bh.drop (at_+1+T.length))/\
  aD 0 A.F= .ptr wb 0/\aD 2 A.F= .int .i64 d/\aD 10 A.F= .int .i64 (at_:Int)/\aD 11 A.F=v/\aD 46 A.F=a/\aD 47 A.F= .int .i64 (ks.length:Int)/\aD 48 A.F= .int .i64 (j:Int)
theorem aKN{S0:St}{nv iv:AV}{g:aS}{wb pb db lb:Nat}{ps:Int}(H:Has fns)(hG:aE 6 bX S0 nv g.bh)(hwb:S0.nx<=wb)(hpb:S0.nx<=pb)(hdb:S0.nx<=db)(hlb:S0.nx<=lb)(ne1:pb≠db)(ne2:pb≠lb)(ne3:db≠lb)(ne4:wb≠pb)(ne5:wb≠db)(ne6:wb≠lb)(hN:g.bh.length<=2000)(hlen:∀x∈g.bh,x.next.length<=1000):
  ∀ (f:Nat) {S:St} {at_:Nat} {p d:Int} {rv:AV} {P D L:ba},g.bh.length+1 - at_<=f->0<=d->d<=at_->at_<=g.bh.length->Same S0 S->WK S wb pb db lb g.bh.length ps nv iv P D L->aE 6 bX S0 rv (g.bh.drop at_)->
  fZ fns (.fn 163 [] []) [.ptr wb 0,.int .i64 p,.int .i64 d,rv] S fun r S'=>aRt S0 S wb pb db lb ps nv iv g P D L at_ (fW g.bh.length (eB g) f at_ p d) r S':=by
 intro f
 induction f with
 | zero=>intro S at_ p d rv P D L hf hd0 hd hat;omega
 | succ f ih=>
  intro S at_ p d rv P D L hf hd0 hd hat hS hK hrv;have hrl:=hrv.len;rw[Dr] at hrl;refine cF H.f163 (by simp) ?_;refine ae ?_;refine bO (ae ?_);refine fC (dm hrl ?_);by_cases hlt:at_<g.bh.length;rotate_left
  ·refine aN (by simp only[↓sU,sD,rE,↓reduceIte,rA,Ac (show((g.bh.length - at_:Nat):Int)=0 by omega)]) ?_;refine bO (ae ?_);refine aP ?_;simp only[↓sU,sD,rE,↓reduceIte,rA];simp only[fW,if_neg hlt];exact⟨sK.refl _ _ _ _,P,D,L,hK,rfl⟩
  refine aM (by simp only[↓sU,sD,rE,↓reduceIte,rA,Aa (show ¬ ((g.bh.length - at_:Nat):Int)=0 by omega)]) (aI ?_);try refine ae ?_
  obtain⟨x,hx⟩:∃x,g.bh[at_]? =some x:=⟨_,Ab hlt⟩;have hnx:=aAA hx;have hxl:=hlen x (Ar hx);have hnl:=hG.len;have hdrop:g.bh.drop at_=x::g.bh.drop (at_+1):=by
   rw[Bw hlt];congr 1;rw[Ab hlt] at hx;exact Bp hx
  rw[hdrop] at hrv;have w1:IntKind.i64.wrap ((g.bh.length:Int) - ((g.bh.length - at_:Nat):Int))=(at_:Int):=by rw[wrap_i64 ar ar];omega
  refine bO (dw @bN @bM @aC @aB (dK hK.w.1) hnl hrl w1 ?_);have wlt:=hK.w.2;have hwn:¬ (wb=pb\/wb=db):=by omega
  refine aA (gS (fun b=>b=pb\/b=db) ?_);intro S1 s1;have hia1:=dR (b:=pb) (o:=false) hlt;have hia2:=dR (b:=db) (o:=false) hlt;simp only[↓sU,sD,rE,↓reduceIte,rA,bN,cD,bM,aC,aQ,aB,dC hK.w.1,dF hK.w.1,wlt,hwn,Ak,hia1,hia2];have l1:=s1.1;have bp:=hK.bp;have bd:=hK.bd;have bl:=hK.bl;refine uF (p:=at_) (w:=p) rfl (af) (af) (by rw[s1.2 _ hK.bp];exact hK.gp) (by rw[hK.lp];exact hlt) (.inl rfl) ?_;intro S2 s2 n2 c2;refine dm hia2 ?_;refine uF (p:=at_) (w:=d) (show Nat.testBit 32767 13=true by decide) (af) (af) (by rw[s2.2 _ ar (Bt ne1),s1.2 _ hK.bd];exact hK.gd) (by rw[hK.ld];exact hlt) (.inr rfl) ?_;intro S3 s3 n3 c3;refine ae ?_;have b3:sK pb db lb S S3:=⟨ar,fun c hc h1 h2 h3=>by rw[s3.2 _ ar h2,s2.2 _ ar h1,s1.2 _ hc]⟩;have hS3:Same S0 S3:=b3.same hS hpb hdb hlb;have hK3:WK S3 wb pb db lb g.bh.length ps nv iv (P.set at_ p) (D.set at_ d) L:=⟨⟨by rw[b3.2 _ wlt ne4 ne5 ne6];exact hK.w.1,Ae wlt b3.1⟩,by rw[s3.2 _ ar ne1];exact c2,c3,by rw[s3.2 _ ar (Bt ne3),s2.2 _ ar (Bt ne2),s1.2 _ hK.bl];exact hK.gl,by rw[Aq];exact hK.lp,by rw[Aq];exact hK.ld,hK.ll,ar,ar,ar⟩;have⟨rv',hslc,hrv'⟩:=aE.tail hrv;have hsl1:∀F:Fr,aAx (.slice 6) rv (some (.c (.int .i64 1))) none none F=some rv':=fun F=>hslc F _ rfl;refine bO (dm hsl1 ?_);obtain⟨e,b,q,hia,hb,he,⟨a,bb,cc,rfl,ha,_,_⟩,_,hlf⟩:=aE.at hrv ay (i:=0) rfl;have hl3:=hlf 3 a rfl;rw[<-iA hS3 hb] at hl3;refine fC (du @aKt hia @aC @aB hl3 ha.len @Ah ?_);have hW:fW g.bh.length (eB g) (f+1) at_ p d=(jK (fun r=>fW g.bh.length (eB g) f r at_ (d+1)) x.next (at_+1)).map fun L=>(p,d,((at_+L.length:Nat):Int))::L:=by
   simp only[fW,if_pos hlt,hnx]
  rw[hW];refine aX (Q:=fun o A' X=>(o= .normal/\aRm S0 S3 wb pb db lb ps nv iv a g (P.set at_ p) (D.set at_ d) L at_ d (fun r=>fW g.bh.length (eB g) f r at_ (d+1)) x.next 0 A' X)\/(o= .ret/\sK pb db lb S3 X/\jK (fun r=>fW g.bh.length (eB g) f r at_ (d+1)) x.next (at_+1)=none/\aD 8 A'.F= .bw/\aD 9 A'.F= .bool false/\∃P' D' L',WK X wb pb db lb g.bh.length ps nv iv P' D' L')) (aK (bH (aRm S0 S3 wb pb db lb ps nv iv a g (P.set at_ p) (D.set at_ d) L at_ d (fun r=>fW g.bh.length (eB g) f r at_ (d+1)) x.next) ?_ x.next.length _ _ ⟨rfl,sK.refl _ _ _ _,0,[],P.set at_ p,D.set at_ d,L,rv',ar,by rw[Bq];omega,by simp,hK3,iL.nil _ _ _,iL.nil _ _ _,iL.nil _ _ _,hrv',by refine⟨?_,?_,?_,?_,?_,?_,?_⟩<;>simp only[↓sU,sD,rE,↓reduceIte,rA]⟩)) ?_
  ·rintro k ⟨F,inr⟩ X ⟨q0,hX,j,T,P',D',L',v,hjk,hTN,hkid,hKX,rP,rD,rL,hv,p0,p2,p10,p11,p46,p47,p48⟩;simp only at q0 p0 p2 p10 p11 p46 p47 p48;subst q0;have hSX:Same S0 X:=hX.same hS3 hpb hdb hlb;have haX:=ha.same hSX;have hvl:=hv.len;rw[Dr] at hvl;refine bO (dn p47 p48 ?_);by_cases hj:j<x.next.length
   ·refine aA (aN (by simp only[↓sU,sD,rE,↓reduceIte,rA,Ac (show(j:Int)<(x.next.length:Int) by omega)]) (aI ?_));refine ae ?_;have hias:=haX.cp hj;have hlds:=haX.ld hj;have hdr:x.next.drop j=x.next[j]::x.next.drop (j+1):=Bw hj;have hgd:x.next.getD j 0=x.next[j]:=by rw[Ad,Ab hj];rfl
    rw[hgd] at hlds;rw[hdr] at hkid;generalize x.next[j]=c at *;have w2:IntKind.i64.wrap ((g.bh.length:Int) - ((g.bh.length - (at_+1+T.length):Nat):Int))=((at_+1+T.length:Nat):Int):=by rw[wrap_i64 ar ar];omega
    have w3:IntKind.i64.wrap (d+1)=d+1:=wrap_i64 ar ar;have w4:=dh j
    refine aA (aK (aA (aJ ?_)));refine dr p46 p48 @aH hias hlds ?_;refine fC ?_;simp only[↓sU,sD,rE,↓reduceIte,rA,p0,p11,bN,bM,aC,aB,dK hKX.w.1,hnl,hvl,w2];by_cases hc:c=((at_+1+T.length:Nat):Int);rotate_left
    ·refine aN (by simp only[↓sU,sD,rE,↓reduceIte,rA,Ac (show c≠((at_+1+T.length:Nat):Int) from hc)]) ?_;refine bO (ae ?_);refine aP (ae ?_);refine .inr ⟨hX,?_,P',D',L',hKX⟩;rw[hkid];simp only[jK,if_neg hc];rfl
    refine aM (by simp only[↓sU,sD,rE,↓reduceIte,rA,Aa (show ¬c≠((at_+1+T.length:Nat):Int) from fun h=>h hc)]) (aI ?_);try refine ae ?_
    simp only[jK,if_pos hc] at hkid;refine bO (dr p0 p2 p10 p11 w3 ?_);refine bD (ae ?_);refine aW (ih (S:=X) (at_:=at_+1+T.length) (p:=at_) (d:=d+1) ar ar ar hTN hSX hKX hv) ?_;rintro r Y ⟨hY,P2,D2,L2,hKY,hres⟩;cases hw:fW g.bh.length (eB g) f (at_+1+T.length) at_ (d+1) with
    | none=>
     rw[hw] at hres hkid;subst hres;refine dn @rN @sA ?_;refine bO (dn @eM @Ci ?_);refine aN (af) ?_;refine bO (ae ?_);refine aP (ae ?_);refine .inr ⟨hX.trans hY,?_,P2,D2,L2,hKY⟩;rw[hkid];rfl
    | some T1=>
     rw[hw] at hres hkid;obtain⟨⟨v2,rfl,hv2⟩,k1,k2,k3⟩:=hres;simp only[Option.bind_some,Option.map_map] at hkid;have hwl:=(yS hw).1;refine dn @rN @sA ?_;refine bO (dn @eM @Cc ?_);refine aM (af) (aI ?_);try refine ae ?_
     refine aJ (dn p48 w4 ?_);refine⟨k - 1,ar,rfl,hX.trans hY,j+1,T++T1,P2,D2,L2,v2,ar,by rw[Ao];omega,?_,hKY,rP.append k1,rD.append k2,rL.append k3,by rw[Ao,<-Cq];exact hv2,by refine⟨?_,?_,?_,?_,?_,?_,?_⟩<;>simp only[↓sU,sD,rE,↓reduceIte,rA,p0,p2,p10,p46,p47]⟩;rw[hkid,Ao,<-Cq];congr 1;funext M;simp
   ·refine aA (aM (by simp only[↓sU,sD,rE,↓reduceIte,rA,Aa (show ¬ (j:Int)<(x.next.length:Int) by omega)]) (bJ ?_));refine ae ?_;have hk0:k=0:=by omega
    subst hk0;exact .inl ⟨rfl,hX,j,T,P',D',L',v,hjk,hTN,hkid,hKX,rP,rD,rL,hv,by refine⟨?_,?_,?_,?_,?_,?_,?_⟩<;>simp only[↓sU,sD,rE,↓reduceIte,rA,p0,p2,p10,p11,p46,p47,p48]⟩
  rintro o ⟨F,inr⟩ X (⟨rfl,q0,hX,j,T,P',D',L',v,hjk,hTN,hkid,hKX,rP,rD,rL,hv,p0,p2,p10,p11,p46,p47,p48⟩ | ⟨rfl,hX,hno,p8,p9,P',D',L',hKX⟩);rotate_left
  ·rw[hno];simp only at p8 p9;refine dn p8 p9 ?_;exact⟨b3.trans hX,P',D',L',hKX,rfl⟩
  simp only at q0 p0 p10 p11;subst q0;rw[Cn ar] at hkid;simp only[jK,Dy,Dn] at hkid;rw[hkid];have hvl:=hv.len;rw[Dr] at hvl;have w2:IntKind.i64.wrap ((g.bh.length:Int) - ((g.bh.length - (at_+1+T.length):Nat):Int))=((at_+1+T.length:Nat):Int):=by rw[wrap_i64 ar ar];omega
  have w5:IntKind.i64.wrap (((at_+1+T.length:Nat):Int) - 1)=((at_+T.length:Nat):Int):=by rw[wrap_i64 ar ar];omega
  have wltX:=hKX.w.2;have hia3:=dR (b:=lb) (o:=false) hlt;try refine ae ?_
  refine aA (gS (fun b=>b=lb) ?_);intro S4 s4;simp only[↓sU,sD,rE,↓reduceIte,rA,p0,p10,p11,bN,cD,bM,aC,aQ,aB,dK hKX.w.1,dZ hKX.w.1,hnl,hvl,w2,w5,wltX,ne6,Ak,hia3,aE.self hG];have l4:=s4.1;have bpX:=hKX.bp;have bdX:=hKX.bd;have blX:=hKX.bl;refine uF (p:=at_) (w:=((at_+T.length:Nat):Int)) rfl (af) (af) (by rw[s4.2 _ hKX.bl];exact hKX.gl) (by rw[hKX.ll];exact hlt) rfl ?_;intro S5 s5 n5 c5;refine ae ?_;have b5:sK pb db lb X S5:=⟨ar,fun c hc h1 h2 h3=>by rw[s5.2 _ ar h3,s4.2 _ hc]⟩;refine bO (dm p11 ?_);refine aP (ae ?_);have hatP:at_<P.length:=by rw[hK.lp];exact hlt
  have hatD:at_<D.length:=by rw[hK.ld];exact hlt
  have hatL:at_<L.length:=by rw[hK.ll];exact hlt
  refine⟨b3.trans (hX.trans b5),P',D',L'.set at_ ((at_+T.length:Nat):Int),⟨⟨by rw[b5.2 _ wltX ne4 ne5 ne6];exact hKX.w.1,Ae wltX b5.1⟩,by rw[s5.2 _ ar ne2,s4.2 _ hKX.bp];exact hKX.gp,by rw[s5.2 _ ar ne3,s4.2 _ hKX.bd];exact hKX.gd,c5,hKX.lp,hKX.ld,by rw[Aq];exact hKX.ll,by show _<S5.nx;omega,by show _<S5.nx;omega,by show _<S5.nx;omega⟩,⟨v,rfl,?_⟩,?_,?_,?_⟩
  ·rw[Ax,show at_+(T.length+1)=at_+1+T.length by omega];exact hv
  ·exact iL.append (T:=[(p,d,((at_+T.length:Nat):Int))]) (iL.one hatP rfl) rP
  ·exact iL.append (T:=[(p,d,((at_+T.length:Nat):Int))]) (iL.one hatD rfl) rD
  ·exact iL.late rL hatL rfl
end Go.Ev.Gl
