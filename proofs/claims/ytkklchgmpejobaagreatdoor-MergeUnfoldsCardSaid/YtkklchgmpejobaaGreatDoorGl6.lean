import Derived.Test.YtkklchgmpejobaaGreatDoorGl5
open Nat renaming reduceEqDiff → rE, reduceAdd → rA
set_option maxHeartbeats 16000000
set_option linter.unusedSimpArgs false
set_option linter.unusedVariables false
namespace Go.Ev.Gl
variable {fns:T cW}
structure bO where
 kind:Int
 player:Int
 info:Int
 next:List Int
 weights:List Int
 pay:List Int
structure zA where
 player:Int
 actions:Int
structure bC where
 players:Int
 nodes:List bO
 infos:List zA
def gO(lo hi:Int)(l:List Int):Prop:=∃w∈l,w<lo∨hi<w
instance anyOutDec(lo hi:Int)(l:List Int):Decidable (gO lo hi l):=by unfold gO;exact inferInstance
def mS(x:bO):Prop:=x.player≠0∨x.info≠0∨(0:Int)<((x.pay.length:Nat):Int)∨((x.next.length:Nat):Int)<1∨(60:Int)<((x.next.length:Nat):Int)∨((x.weights.length:Nat):Int)≠((x.next.length:Nat):Int)
def xP(x:bO):Prop:=(0:Int)<((x.weights.length:Nat):Int)∨(0:Int)<((x.pay.length:Nat):Int)∨((x.next.length:Nat):Int)<1∨(10:Int)<((x.next.length:Nat):Int)
def oG(ps:Int)(x:bO):Prop:=x.player≠0∨x.info≠0∨(0:Int)<((x.next.length:Nat):Int)∨(0:Int)<((x.weights.length:Nat):Int)∨((x.pay.length:Nat):Int)≠ps
instance badCDec(x:bO):Decidable (mS x):=by unfold mS;exact inferInstance
instance badMDec(x:bO):Decidable (xP x):=by unfold xP;exact inferInstance
instance badEDec(ps:Int)(x:bO):Decidable (oG ps x):=by unfold oG;exact inferInstance
def iA(ps:Int)(ni:Nat)(x:bO):Int:=
 if x.kind=1 then(if mS x then 3 else if gO 1 1000 x.weights then 2 else 0)
 else if x.kind=2 then(if xP x then 3 else if x.player<0∨ps - 1<x.player∨x.info<0∨(ni:Int) - 1<x.info then 2 else 0)
 else if x.kind=3 then(if oG ps x then 3 else if gO (-1000000) 1000000 x.pay then 2 else 0)
 else 3
def cC(S:St)(cs:List AV)(x:bO):Prop:=∃a b c,cs= [.int .i64 x.kind,.int .i64 x.player,.int .i64 x.info,a,b,c]∧bI .i64 S a x.next∧bI .i64 S b x.weights∧bI .i64 S c x.pay
theorem bR:oO cC:=fun⟨a,b,c,h,h1,h2,h3⟩ hs=>⟨a,b,c,h,h1.same hs,h2.same hs,h3.same hs⟩
def dI(_:St)(cs:List AV)(x:zA):Prop:=cs= [.int .i64 x.player,.int .i64 x.actions]
theorem cR:oO dI:=fun h _=>h
def gE(S:St)(v:AV)(g:bC):Prop:=∃n i,v= .agg [.int .i64 g.players,n,i]∧aQ 6 cC S n g.nodes∧aQ 2 dI S i g.infos
theorem gE.same{S S':St}{v:AV}{g:bC}(h:gE S v g)(hs:Same S S'):gE S' v g:=by
 obtain⟨n,i,h1,h2,h3⟩:=h;exact⟨n,i,h1,aQ.same (E:=cC) bR h2 hs,aQ.same (E:=dI) cR h3 hs⟩
theorem ldc{h:T AB}{b j:Nat}{cs:List AV}{x:AV}{o:Bool}{s:Nat}(hb:h.get b=some (.cells cs o s))(hj:cs[j]? =some x):cE (.ptr b (0+j)) false 1 h=some x:=by
 simp only[cE,mO,aU,jL,cK,hb,aM,jE,kA,Av,hj]
theorem aJb{h:T AB}{b n:Nat}{cs:List AV}{o:Bool}{s:Nat}(hb:h.get b=some (.cells cs o s))(hn:cs.length=n):cE (.ptr b 0) true n h=some (.agg cs):=by
 subst hn;simp only[cE,mO,aP,wQ,cK,hb,aM,jE];unfold cut;rw[fO,gJ,Cn,if_pos (Ah _),Bt];rfl
section
variable {h:T AB}{b:Nat}{x0 x1 x2 x3 x4 x5:AV}{o:Bool}{s:Nat}
theorem eB(hb:h.get b=some (.cells [x0,x1,x2,x3,x4,x5] o s)):cE (.ptr b (0+0)) false 1 h=some x0:=ldc hb rfl
theorem cO(hb:h.get b=some (.cells [x0,x1,x2,x3,x4,x5] o s)):cE (.ptr b (0+1)) false 1 h=some x1:=ldc hb rfl
theorem cP(hb:h.get b=some (.cells [x0,x1,x2,x3,x4,x5] o s)):cE (.ptr b (0+2)) false 1 h=some x2:=ldc hb rfl
theorem dD(hb:h.get b=some (.cells [x0,x1,x2,x3,x4,x5] o s)):cE (.ptr b (0+3)) false 1 h=some x3:=ldc hb rfl
theorem dH(hb:h.get b=some (.cells [x0,x1,x2,x3,x4,x5] o s)):cE (.ptr b (0+4)) false 1 h=some x4:=ldc hb rfl
theorem dE(hb:h.get b=some (.cells [x0,x1,x2,x3,x4,x5] o s)):cE (.ptr b (0+5)) false 1 h=some x5:=ldc hb rfl
theorem ldN(hb:h.get b=some (.cells [x0,x1,x2,x3,x4,x5] o s)):cE (.ptr b 0) true 6 h=some (.agg [x0,x1,x2,x3,x4,x5]):=aJb hb rfl
end
section
variable {k:Nat}{α:Type}{E:St→List AV→α→Prop}{S:St}{v:AV}{l:List α}
theorem aQ.at(h:aQ k E S v l)(hk:0<k){i:Nat}{a:α}(hi:l[i]? =some a):∃e b p,eJ (.slice k) v i=some (.ptr b p)∧b<S.nx∧e.length=k∧E S e a∧cE (.ptr b p) true k S.h=some (.agg e)∧∀j x,e[j]? =some x→cE (.ptr b (p+j)) false 1 S.h=some x:=by
 obtain⟨e,b,p,h1,h2,h3,h4,cs,h5,h6⟩:=h.get hi;have hlt:=(Af.1 hi).1;refine⟨e,b,p,by rw[←h1];exact h.iaddr hlt,h2,h3,h4,?_,fun j x hj=>?_⟩
 ·simp only[cE,mO,aP,wQ,h5,aM];have hcut:cut cs p k=some e:=by
   have hle:p+k≤cs.length:=by
    have:=h6 (k - 1) (e[k - 1]'(by omega)) (Ad (by omega));have:=(Af.1 this).1;omega
   unfold cut;rw[fO,gJ,if_pos (by rw[Dl];omega)];congr 1;refine Fb (by rw[Bs,Dl];omega) fun j j1 j2=>?_;have:=h6 j e[j] (Ad j2);rw[List.getElem_take,List.getElem_drop];exact(Af.1 this).2
  rw[hcut,aM]
 ·simp only[cE,mO,aU,jL,h5,aM,kA];exact h6 j x hj
end
def xF(x:bO):Prop:=(0:Int)<((x.pay.length:Nat):Int)∨(0:Int)<((x.weights.length:Nat):Int)∨((x.next.length:Nat):Int)<1∨(10:Int)<((x.next.length:Nat):Int)
instance badMDec'(x:bO):Decidable (xF x):=by unfold xF;exact inferInstance
theorem aHp(x:bO):xF x↔xP x:=by unfold xP xF;omega
def aD4(ps:Int)(ni:Nat)(x:bO):Prop:=x.player<0∨ps≤x.player∨x.info<0∨((ni:Nat):Int)≤x.info
instance badRDec(ps:Int)(ni:Nat)(x:bO):Decidable (aD4 ps ni x):=by unfold aD4;exact inferInstance
theorem aGr(ps:Int)(ni:Nat)(x:bO):aD4 ps ni x↔(x.player<0∨ps - 1<x.player∨x.info<0∨(ni:Int) - 1<x.info):=by unfold aD4;omega
theorem xI{lo hi:Int}{l:List Int}{i:Nat}(hi':i<l.length)(h:¬gO lo hi (l.take i))(h2:¬ (l.getD i 0<lo∨hi<l.getD i 0)):¬gO lo hi (l.take (i+1)):=by
 rintro⟨w,hw,ho⟩;rw[Bn,Ad hi'] at hw;rcases Bj.1 hw with h1 | h1
 ·exact h ⟨w,h1,ho⟩
 ·simp at h1;rw[Ag,Ad hi'] at h2;subst h1;exact h2 ho
theorem aAh{lo hi:Int}{l:List Int}{i:Nat}(hi':i<l.length)(h2:l.getD i 0<lo∨hi<l.getD i 0):gO lo hi l:=by
 rw[Ag,Ad hi'] at h2;exact⟨l[i],Co hi',h2⟩
def aP3(S:St)(b t:Nat)(lo hi:Int)(l:List Int)(k:Nat)(A:bH)(X:St):Prop:=A.inr=false∧X=S∧∃i,i+k=l.length∧¬gO lo hi (l.take i)∧aH 3 A.F= .ptr b 0∧aH t A.F= .int .i64 (i:Int)
theorem aIp{S:St}{n i:AV}{ps:Int}{ni:Nat}{cs:List AV}{x:bO}(H:Has fns)(hx:cC S cs x)(hps:ps≤4)(hi:kJ i=some (.int .i64 ((ni:Nat):Int))):fB fns (.fn 67 [] []) [.agg [.int .i64 ps,n,i],.agg cs] S fun r S'=>r= .int .i64 (iA ps ni x)∧Same S S':=by
 obtain⟨a,b,c,rfl,hn,hw,hp⟩:=hx;refine bN H.f67 (by simp) ?_;simp only[↓aB,aA,rE,↓reduceIte];refine bL ?_;refine cL (by simp only[↓aB,aA,rE,↓reduceIte];exact bE _) ?_;intro S1 s1 n1 c1;refine cL (by simp only[↓aB,aA,rE,↓reduceIte];exact bE _) ?_;intro S2 s2 n2 g3;simp only[↓aB,aA,rE,↓reduceIte];have g2:S2.h.get S.nx=some (.cells [.int .i64 ps,n,i] false 0):=by rw[s2.2 _ (by omega)];exact c1
 have sS:=s1.trans s2;have hneg:Int.negSucc 999999= -1000000:=rfl;have hn2:=hn.same sS;have hw2:=hw.same sS;have hp2:=hp.same sS;refine fY ?_;simp only[↓aB,aA,rE,↓reduceIte,aE,aD,eB g3];refine aK (aC (aF ?_));simp only[↓aB,aA,rE,↓reduceIte];unfold iA;have fin:∀F:Fr,nO fns (.seq (.reg [oq 4 (.mv (ci 0))]) .ret) ⟨F,false⟩ S2 (aMI [.t 4] fun r S'=>r= .int .i64 0∧Same S S'):=fun F=>by
  refine bL ?_;simp only[↓aB,aA,rE,↓reduceIte];refine aR ?_;simp only[↓aB,aA,rE,↓reduceIte];exact sS
 by_cases k1:x.kind=1
 ·rw[if_pos k1];refine aN (by simp only[↓aB,aA,rE,↓reduceIte,Ab k1]) ?_;refine aC (aC (aT (Q:=fun o A' X=>o= .normal∧A'.inr=false∧X=S2∧aH 3 A'.F= .ptr S1.nx 0∧aH 45 A'.F= .bool (decide (mS x))) (aF ?_) ?_))
  ·by_cases c0:x.player≠0
   ·rw[Ab (show mS x from .inl c0)];simp only[↓aB,aA,rE,↓reduceIte,aE,aD,cO g3,cP g3,dD g3,dH g3,dE g3,kC g2,jR g2,hn2.len,hw2.len,hp2.len,hi,Ai,Ab c0]
   by_cases c1:x.info≠0
   ·rw[Ab (show mS x from .inr (.inl c1))];simp only[↓aB,aA,rE,↓reduceIte,aE,aD,cO g3,cP g3,dD g3,dH g3,dE g3,kC g2,jR g2,hn2.len,hw2.len,hp2.len,hi,Ai,Aa c0,Ab c1]
   by_cases c2:(0:Int)<((x.pay.length:Nat):Int)
   ·rw[Ab (show mS x from .inr (.inr (.inl c2)))];simp only[↓aB,aA,rE,↓reduceIte,aE,aD,cO g3,cP g3,dD g3,dH g3,dE g3,kC g2,jR g2,hn2.len,hw2.len,hp2.len,hi,Ai,Aa c0,Aa c1,Ab c2]
   by_cases c3:((x.next.length:Nat):Int)<1
   ·rw[Ab (show mS x from .inr (.inr (.inr (.inl c3))))];simp only[↓aB,aA,rE,↓reduceIte,aE,aD,cO g3,cP g3,dD g3,dH g3,dE g3,kC g2,jR g2,hn2.len,hw2.len,hp2.len,hi,Ai,Aa c0,Aa c1,Aa c2,Ab c3]
   by_cases c4:(60:Int)<((x.next.length:Nat):Int)
   ·rw[Ab (show mS x from .inr (.inr (.inr (.inr (.inl c4)))))];simp only[↓aB,aA,rE,↓reduceIte,aE,aD,cO g3,cP g3,dD g3,dH g3,dE g3,kC g2,jR g2,hn2.len,hw2.len,hp2.len,hi,Ai,Aa c0,Aa c1,Aa c2,Aa c3,Ab c4]
   by_cases c5:((x.weights.length:Nat):Int)≠((x.next.length:Nat):Int)
   ·rw[Ab (show mS x from .inr (.inr (.inr (.inr (.inr (c5))))))];simp only[↓aB,aA,rE,↓reduceIte,aE,aD,cO g3,cP g3,dD g3,dH g3,dE g3,kC g2,jR g2,hn2.len,hw2.len,hp2.len,hi,Ai,Aa c0,Aa c1,Aa c2,Aa c3,Aa c4,Ab c5]
   rw[Aa (show ¬mS x by rintro(h0 | h1 | h2 | h3 | h4 | h5)<;>first | exact c0 h0 | exact c1 h1 | exact c2 h2 | exact c3 h3 | exact c4 h4 | exact c5 h5)];simp only[↓aB,aA,rE,↓reduceIte,aE,aD,cO g3,cP g3,dD g3,dH g3,dE g3,kC g2,jR g2,hn2.len,hw2.len,hp2.len,hi,Ai,Aa c0,Aa c1,Aa c2,Aa c3,Aa c4,Aa c5]
  rintro o ⟨F,inr⟩ X ⟨rfl,q0,hX,p3,pb⟩;simp only at q0 p3 pb;subst q0;rw[hX];try simp only[↓aB,aA,rE,↓reduceIte]
  by_cases bad:mS x
  ·rw[if_pos bad];refine aN (by simp only[↓aB,aA,rE,↓reduceIte,pb,Ab bad]) ?_;refine bL ?_;simp only[↓aB,aA,rE,↓reduceIte];refine aR ?_;simp only[↓aB,aA,rE,↓reduceIte];exact sS
  rw[if_neg bad];have hlen:x.weights.length≤60:=by unfold mS at bad;omega
  refine aL (by simp only[↓aB,aA,rE,↓reduceIte,pb,Aa bad]) (aI ?_);try simp only[↓aB,aA,rE,↓reduceIte]
  refine bL ?_;simp only[↓aB,aA,rE,↓reduceIte];refine aK (bG (aP3 S2 S1.nx 5 1 1000 x.weights) ?_ x.weights.length _ _ ⟨rfl,rfl,0,by omega,(by rintro⟨w,h,_⟩;simp at h),by refine⟨?_,?_⟩<;>simp only[↓aB,aA,rE,↓reduceIte,p3]⟩);clear p3 pb;rintro k ⟨F,inr⟩ X ⟨q0,hX,j,hjk,ha,p3,pt⟩;simp only at q0 p3 pt;subst q0;rw[hX];refine fY ?_;simp only[↓aB,aA,rE,↓reduceIte,pt,p3,aE,aD,dH g3,hw2.len,Ai];by_cases hj:j<x.weights.length
  ·refine aN (by simp only[↓aB,aA,rE,↓reduceIte,Ab (show(j:Int)<((x.weights.length:Nat):Int) by omega)]) (aI ?_);try simp only[↓aB,aA,rE,↓reduceIte]
   have hia:=hw2.iaddr hj;have hld:=hw2.ld hj;have htk:=xI (lo:=1) (hi:=1000) hj ha;have hget:=aAh (lo:=1) (hi:=1000) hj;generalize x.weights.getD j 0=w at *;have w1:IntKind.i64.wrap ((j:Int)+1)=((j+1:Nat):Int):=by
    rw[wrap_i64 (by omega) (by omega)];omega
   refine aC (aK (aC (aT (Q:=fun o A' X=>o= .normal∧A'.inr=false∧X=S2∧aH 3 A'.F= .ptr S1.nx 0∧aH 5 A'.F= .int .i64 (j:Int)∧aH 66 A'.F= .bool (decide (w<1∨1000<w))) (aF ?_) ?_)))
   ·by_cases h1:w<1
    ·rw[Ab (show w<1∨1000<w from .inl h1)];simp only[↓aB,aA,rE,↓reduceIte,pt,p3,aE,aD,dH g3,aG,hia,hld,hneg,Ab h1]
    ·by_cases h2:1000<w
     ·rw[Ab (show w<1∨1000<w from .inr h2)];simp only[↓aB,aA,rE,↓reduceIte,pt,p3,aE,aD,dH g3,aG,hia,hld,hneg,Aa h1,Ab h2]
     ·rw[Aa (show ¬ (w<1∨1000<w) by omega)];simp only[↓aB,aA,rE,↓reduceIte,pt,p3,aE,aD,dH g3,aG,hia,hld,hneg,Aa h1,Aa h2]
   clear p3 pt;rintro o ⟨F,inr⟩ X ⟨rfl,q0,hX,p3,pt,pb⟩;simp only at q0 p3 pt pb;subst q0;rw[hX];try simp only[↓aB,aA,rE,↓reduceIte]
   by_cases ho:w<1∨1000<w
   ·rw[if_pos (hget ho)];refine aN (by simp only[↓aB,aA,rE,↓reduceIte,pb,Ab ho]) ?_;refine bL ?_;simp only[↓aB,aA,rE,↓reduceIte];refine aR ?_;simp only[↓aB,aA,rE,↓reduceIte];exact sS
   ·refine aL (by simp only[↓aB,aA,rE,↓reduceIte,pb,Aa ho]) (aI ?_);try simp only[↓aB,aA,rE,↓reduceIte]
    refine aF ?_;simp only[↓aB,aA,rE,↓reduceIte,pt,w1];exact⟨k - 1,by omega,rfl,rfl,j+1,by omega,htk ho,by refine⟨?_,?_⟩<;>simp only[↓aB,aA,rE,↓reduceIte,p3]⟩
  ·refine aL (by simp only[↓aB,aA,rE,↓reduceIte,Aa (show ¬ (j:Int)<((x.weights.length:Nat):Int) by omega)]) (bD ?_);simp only[↓aB,aA,rE,↓reduceIte];have hno:¬gO 1 1000 x.weights:=by rw[Ay (by omega)] at ha;exact ha
   rw[if_neg hno];exact fin _
 rw[if_neg k1];refine aL (by simp only[↓aB,aA,rE,↓reduceIte,Aa k1]) ?_;refine bL ?_;simp only[↓aB,aA,rE,↓reduceIte];by_cases k2:x.kind=2
 ·rw[if_pos k2];refine aN (by simp only[↓aB,aA,rE,↓reduceIte,Ab k2]) ?_;refine aC (aC (aT (Q:=fun o A' X=>o= .normal∧A'.inr=false∧X=S2∧aH 2 A'.F= .ptr S.nx 0∧aH 3 A'.F= .ptr S1.nx 0∧aH 90 A'.F= .bool (decide (xF x))) (aF ?_) ?_))
  ·by_cases c0:(0:Int)<((x.pay.length:Nat):Int)
   ·rw[Ab (show xF x from .inl c0)];simp only[↓aB,aA,rE,↓reduceIte,aE,aD,cO g3,cP g3,dD g3,dH g3,dE g3,kC g2,jR g2,hn2.len,hw2.len,hp2.len,hi,Ai,Ab c0]
   by_cases c1:(0:Int)<((x.weights.length:Nat):Int)
   ·rw[Ab (show xF x from .inr (.inl c1))];simp only[↓aB,aA,rE,↓reduceIte,aE,aD,cO g3,cP g3,dD g3,dH g3,dE g3,kC g2,jR g2,hn2.len,hw2.len,hp2.len,hi,Ai,Aa c0,Ab c1]
   by_cases c2:((x.next.length:Nat):Int)<1
   ·rw[Ab (show xF x from .inr (.inr (.inl c2)))];simp only[↓aB,aA,rE,↓reduceIte,aE,aD,cO g3,cP g3,dD g3,dH g3,dE g3,kC g2,jR g2,hn2.len,hw2.len,hp2.len,hi,Ai,Aa c0,Aa c1,Ab c2]
   by_cases c3:(10:Int)<((x.next.length:Nat):Int)
   ·rw[Ab (show xF x from .inr (.inr (.inr (c3))))];simp only[↓aB,aA,rE,↓reduceIte,aE,aD,cO g3,cP g3,dD g3,dH g3,dE g3,kC g2,jR g2,hn2.len,hw2.len,hp2.len,hi,Ai,Aa c0,Aa c1,Aa c2,Ab c3]
   rw[Aa (show ¬xF x by rintro(h0 | h1 | h2 | h3)<;>first | exact c0 h0 | exact c1 h1 | exact c2 h2 | exact c3 h3)];simp only[↓aB,aA,rE,↓reduceIte,aE,aD,cO g3,cP g3,dD g3,dH g3,dE g3,kC g2,jR g2,hn2.len,hw2.len,hp2.len,hi,Ai,Aa c0,Aa c1,Aa c2,Aa c3]
  rintro o ⟨F,inr⟩ X ⟨rfl,q0,hX,p2,p3,pb⟩;simp only at q0 p2 p3 pb;subst q0;rw[hX];try simp only[↓aB,aA,rE,↓reduceIte]
  by_cases bad:xF x
  ·rw[if_pos ((aHp x).1 bad)];refine aN (by simp only[↓aB,aA,rE,↓reduceIte,pb,Ab bad]) ?_;refine bL ?_;simp only[↓aB,aA,rE,↓reduceIte];refine aR ?_;simp only[↓aB,aA,rE,↓reduceIte];exact sS
  rw[if_neg (fun h=>bad ((aHp x).2 h))];refine aL (by simp only[↓aB,aA,rE,↓reduceIte,pb,Aa bad]) (aI ?_);try simp only[↓aB,aA,rE,↓reduceIte]
  refine aC (aT (Q:=fun o A' X=>o= .normal∧A'.inr=false∧X=S2∧aH 113 A'.F= .bool (decide (aD4 ps ni x))) (aF ?_) ?_)
  ·by_cases c0:x.player<0
   ·rw[Ab (show aD4 ps ni x from .inl c0)];simp only[↓aB,aA,rE,↓reduceIte,aE,aD,cO g3,cP g3,dD g3,dH g3,dE g3,kC g2,jR g2,hn2.len,hw2.len,hp2.len,hi,Ai,p3,p2,Ab c0]
   by_cases c1:ps≤x.player
   ·rw[Ab (show aD4 ps ni x from .inr (.inl c1))];simp only[↓aB,aA,rE,↓reduceIte,aE,aD,cO g3,cP g3,dD g3,dH g3,dE g3,kC g2,jR g2,hn2.len,hw2.len,hp2.len,hi,Ai,p3,p2,Aa c0,Ab c1]
   by_cases c2:x.info<0
   ·rw[Ab (show aD4 ps ni x from .inr (.inr (.inl c2)))];simp only[↓aB,aA,rE,↓reduceIte,aE,aD,cO g3,cP g3,dD g3,dH g3,dE g3,kC g2,jR g2,hn2.len,hw2.len,hp2.len,hi,Ai,p3,p2,Aa c0,Aa c1,Ab c2]
   by_cases c3:((ni:Nat):Int)≤x.info
   ·rw[Ab (show aD4 ps ni x from .inr (.inr (.inr (c3))))];simp only[↓aB,aA,rE,↓reduceIte,aE,aD,cO g3,cP g3,dD g3,dH g3,dE g3,kC g2,jR g2,hn2.len,hw2.len,hp2.len,hi,Ai,p3,p2,Aa c0,Aa c1,Aa c2,Ab c3]
   rw[Aa (show ¬aD4 ps ni x by rintro(h0 | h1 | h2 | h3)<;>first | exact c0 h0 | exact c1 h1 | exact c2 h2 | exact c3 h3)];simp only[↓aB,aA,rE,↓reduceIte,aE,aD,cO g3,cP g3,dD g3,dH g3,dE g3,kC g2,jR g2,hn2.len,hw2.len,hp2.len,hi,Ai,p3,p2,Aa c0,Aa c1,Aa c2,Aa c3]
  rintro o ⟨F,inr⟩ X ⟨rfl,q0,hX,pb⟩;simp only at q0 pb;subst q0;rw[hX];try simp only[↓aB,aA,rE,↓reduceIte]
  by_cases bad:aD4 ps ni x
  ·rw[if_pos ((aGr ps ni x).1 bad)];refine aN (by simp only[↓aB,aA,rE,↓reduceIte,pb,Ab bad]) ?_;refine bL ?_;simp only[↓aB,aA,rE,↓reduceIte];refine aR ?_;simp only[↓aB,aA,rE,↓reduceIte];exact sS
  rw[if_neg (fun h=>bad ((aGr ps ni x).2 h))];refine aL (by simp only[↓aB,aA,rE,↓reduceIte,pb,Aa bad]) (aI ?_);simp only[↓aB,aA,rE,↓reduceIte];exact fin _
 rw[if_neg k2];refine aL (by simp only[↓aB,aA,rE,↓reduceIte,Aa k2]) ?_;refine bL ?_;simp only[↓aB,aA,rE,↓reduceIte];by_cases k3:x.kind=3
 ·rw[if_pos k3];refine aN (by simp only[↓aB,aA,rE,↓reduceIte,Ab k3]) ?_;refine aC (aC (aT (Q:=fun o A' X=>o= .normal∧A'.inr=false∧X=S2∧aH 3 A'.F= .ptr S1.nx 0∧aH 143 A'.F= .bool (decide (oG ps x))) (aF ?_) ?_))
  ·by_cases c0:x.player≠0
   ·rw[Ab (show oG ps x from .inl c0)];simp only[↓aB,aA,rE,↓reduceIte,aE,aD,cO g3,cP g3,dD g3,dH g3,dE g3,kC g2,jR g2,hn2.len,hw2.len,hp2.len,hi,Ai,Ab c0]
   by_cases c1:x.info≠0
   ·rw[Ab (show oG ps x from .inr (.inl c1))];simp only[↓aB,aA,rE,↓reduceIte,aE,aD,cO g3,cP g3,dD g3,dH g3,dE g3,kC g2,jR g2,hn2.len,hw2.len,hp2.len,hi,Ai,Aa c0,Ab c1]
   by_cases c2:(0:Int)<((x.next.length:Nat):Int)
   ·rw[Ab (show oG ps x from .inr (.inr (.inl c2)))];simp only[↓aB,aA,rE,↓reduceIte,aE,aD,cO g3,cP g3,dD g3,dH g3,dE g3,kC g2,jR g2,hn2.len,hw2.len,hp2.len,hi,Ai,Aa c0,Aa c1,Ab c2]
   by_cases c3:(0:Int)<((x.weights.length:Nat):Int)
   ·rw[Ab (show oG ps x from .inr (.inr (.inr (.inl c3))))];simp only[↓aB,aA,rE,↓reduceIte,aE,aD,cO g3,cP g3,dD g3,dH g3,dE g3,kC g2,jR g2,hn2.len,hw2.len,hp2.len,hi,Ai,Aa c0,Aa c1,Aa c2,Ab c3]
   by_cases c4:((x.pay.length:Nat):Int)≠ps
   ·rw[Ab (show oG ps x from .inr (.inr (.inr (.inr (c4)))))];simp only[↓aB,aA,rE,↓reduceIte,aE,aD,cO g3,cP g3,dD g3,dH g3,dE g3,kC g2,jR g2,hn2.len,hw2.len,hp2.len,hi,Ai,Aa c0,Aa c1,Aa c2,Aa c3,Ab c4]
   rw[Aa (show ¬oG ps x by rintro(h0 | h1 | h2 | h3 | h4)<;>first | exact c0 h0 | exact c1 h1 | exact c2 h2 | exact c3 h3 | exact c4 h4)];simp only[↓aB,aA,rE,↓reduceIte,aE,aD,cO g3,cP g3,dD g3,dH g3,dE g3,kC g2,jR g2,hn2.len,hw2.len,hp2.len,hi,Ai,Aa c0,Aa c1,Aa c2,Aa c3,Aa c4]
  rintro o ⟨F,inr⟩ X ⟨rfl,q0,hX,p3,pb⟩;simp only at q0 p3 pb;subst q0;rw[hX];try simp only[↓aB,aA,rE,↓reduceIte]
  by_cases bad:oG ps x
  ·rw[if_pos bad];refine aN (by simp only[↓aB,aA,rE,↓reduceIte,pb,Ab bad]) ?_;refine bL ?_;simp only[↓aB,aA,rE,↓reduceIte];refine aR ?_;simp only[↓aB,aA,rE,↓reduceIte];exact sS
  rw[if_neg bad];have hlen:x.pay.length≤60:=by unfold oG at bad;omega
  refine aL (by simp only[↓aB,aA,rE,↓reduceIte,pb,Aa bad]) (aI ?_);try simp only[↓aB,aA,rE,↓reduceIte]
  refine bL ?_;simp only[↓aB,aA,rE,↓reduceIte];refine aK (bG (aP3 S2 S1.nx 6 (-1000000) 1000000 x.pay) ?_ x.pay.length _ _ ⟨rfl,rfl,0,by omega,(by rintro⟨w,h,_⟩;simp at h),by refine⟨?_,?_⟩<;>simp only[↓aB,aA,rE,↓reduceIte,p3]⟩);clear p3 pb;rintro k ⟨F,inr⟩ X ⟨q0,hX,j,hjk,ha,p3,pt⟩;simp only at q0 p3 pt;subst q0;rw[hX];refine fY ?_;simp only[↓aB,aA,rE,↓reduceIte,pt,p3,aE,aD,dE g3,hp2.len,Ai];by_cases hj:j<x.pay.length
  ·refine aN (by simp only[↓aB,aA,rE,↓reduceIte,Ab (show(j:Int)<((x.pay.length:Nat):Int) by omega)]) (aI ?_);try simp only[↓aB,aA,rE,↓reduceIte]
   have hia:=hp2.iaddr hj;have hld:=hp2.ld hj;have htk:=xI (lo:=(-1000000)) (hi:=1000000) hj ha;have hget:=aAh (lo:=(-1000000)) (hi:=1000000) hj;generalize x.pay.getD j 0=w at *;have w1:IntKind.i64.wrap ((j:Int)+1)=((j+1:Nat):Int):=by
    rw[wrap_i64 (by omega) (by omega)];omega
   refine aC (aK (aC (aT (Q:=fun o A' X=>o= .normal∧A'.inr=false∧X=S2∧aH 3 A'.F= .ptr S1.nx 0∧aH 6 A'.F= .int .i64 (j:Int)∧aH 164 A'.F= .bool (decide (w<(-1000000)∨1000000<w))) (aF ?_) ?_)))
   ·by_cases h1:w<(-1000000)
    ·rw[Ab (show w<(-1000000)∨1000000<w from .inl h1)];simp only[↓aB,aA,rE,↓reduceIte,pt,p3,aE,aD,dE g3,aG,hia,hld,hneg,Ab h1]
    ·by_cases h2:1000000<w
     ·rw[Ab (show w<(-1000000)∨1000000<w from .inr h2)];simp only[↓aB,aA,rE,↓reduceIte,pt,p3,aE,aD,dE g3,aG,hia,hld,hneg,Aa h1,Ab h2]
     ·rw[Aa (show ¬ (w<(-1000000)∨1000000<w) by omega)];simp only[↓aB,aA,rE,↓reduceIte,pt,p3,aE,aD,dE g3,aG,hia,hld,hneg,Aa h1,Aa h2]
   clear p3 pt;rintro o ⟨F,inr⟩ X ⟨rfl,q0,hX,p3,pt,pb⟩;simp only at q0 p3 pt pb;subst q0;rw[hX];try simp only[↓aB,aA,rE,↓reduceIte]
   by_cases ho:w<(-1000000)∨1000000<w
   ·rw[if_pos (hget ho)];refine aN (by simp only[↓aB,aA,rE,↓reduceIte,pb,Ab ho]) ?_;refine bL ?_;simp only[↓aB,aA,rE,↓reduceIte];refine aR ?_;simp only[↓aB,aA,rE,↓reduceIte];exact sS
   ·refine aL (by simp only[↓aB,aA,rE,↓reduceIte,pb,Aa ho]) (aI ?_);try simp only[↓aB,aA,rE,↓reduceIte]
    refine aF ?_;simp only[↓aB,aA,rE,↓reduceIte,pt,w1];exact⟨k - 1,by omega,rfl,rfl,j+1,by omega,htk ho,by refine⟨?_,?_⟩<;>simp only[↓aB,aA,rE,↓reduceIte,p3]⟩
  ·refine aL (by simp only[↓aB,aA,rE,↓reduceIte,Aa (show ¬ (j:Int)<((x.pay.length:Nat):Int) by omega)]) (bD ?_);simp only[↓aB,aA,rE,↓reduceIte];have hno:¬gO (-1000000) 1000000 x.pay:=by rw[Ay (by omega)] at ha;exact ha
   rw[if_neg hno];exact fin _
 rw[if_neg k3];refine aL (by simp only[↓aB,aA,rE,↓reduceIte,Aa k3]) ?_;refine bL ?_;simp only[↓aB,aA,rE,↓reduceIte];refine aR ?_;simp only[↓aB,aA,rE,↓reduceIte];exact sS
theorem bI.self{k:IntKind}{S:St}{v:AV}{l:List Int}(h:bI k S v l):bW v v=true:=by
 rcases h with⟨_,h | h⟩ | ⟨b,off,cap,o,cs,rfl,_⟩
 ·subst h;rfl
 ·subst h;rfl
 ·exact uS ..
theorem aQ.self{k:Nat}{α:Type}{E:St→List AV→α→Prop}{S:St}{v:AV}{l:List α}(h:aQ k E S v l):bW v v=true:=by
 rcases h with⟨_,h | h⟩ | ⟨b,off,cap,o,cs,rfl,_⟩
 ·subst h;rfl
 ·subst h;rfl
 ·exact uS ..
theorem aKU{k:IntKind}{S:St}{b:Nat}{z:Int}(hb:b<S.nx)(h:S.h.get b=some (.cells [.int k z] false 0)):bI k S (.sl b 0 1 1 false) [z]:=by
 refine .inr ⟨b,0,1,false,[.int k z],rfl,Ah _,hb,by unfold cK;rw[h];rfl,fun i x hi=>?_⟩;cases i with
 | zero=>simp at hi;subst hi;rfl
 | succ i=>simp at hi
theorem aCX{lo hi z:Int}:gO lo hi [z]↔z<lo∨hi<z:=by
 unfold gO;simp
theorem tM{x0 x1 x2 x3 x4 x5:AV}(h0:bW x0 x0=true)(h1:bW x1 x1=true)(h2:bW x2 x2=true)(h3:bW x3 x3=true)(h4:bW x4 x4=true)(h5:bW x5 x5=true):bW (.agg [x0,x1,x2,x3,x4,x5]) (.agg [x0,x1,x2,x3,x4,x5])=true:=by
 simp only[bW,mU,h0,h1,h2,h3,h4,h5,aP]
theorem aKf{S:St}{b3 b4:Nat}{lo hi w:Int}(H:Has fns)(g3:S.h.get b3=some (.cells [.int .i64 lo] false 0))(g4:S.h.get b4=some (.cells [.int .i64 hi] false 0)):fB fns (.fn 111 [] [.ptr b3 0,.ptr b4 0]) [.int .i64 w] S fun r S'=>r= .bool (decide (w<lo∨hi<w))∧S'=S:=by
 have l3:cE (.ptr b3 0) false 1 S.h=some (.int .i64 lo):=ldc (j:=0) g3 rfl;have l4:cE (.ptr b4 0) false 1 S.h=some (.int .i64 hi):=ldc (j:=0) g4 rfl;refine bN H.f111 (by simp) ?_;simp only[↓aB,aA,rE,↓reduceIte];refine bL ?_;simp only[↓aB,aA,rE,↓reduceIte];refine bL ?_;by_cases h1:w<lo
 ·rw[Ab (show w<lo∨hi<w from .inl h1)];simp only[↓aB,aA,rE,↓reduceIte,l3,Ab h1];refine aR ?_;simp only[↓aB,aA,rE,↓reduceIte]
 ·by_cases h2:hi<w
  ·rw[Ab (show w<lo∨hi<w from .inr h2)];simp only[↓aB,aA,rE,↓reduceIte,l3,l4,Aa h1,Ab h2];refine aR ?_;simp only[↓aB,aA,rE,↓reduceIte]
  ·rw[Aa (show ¬ (w<lo∨hi<w) by omega)];simp only[↓aB,aA,rE,↓reduceIte,l3,l4,Aa h1,Aa h2];refine aR ?_;simp only[↓aB,aA,rE,↓reduceIte]
def aQW(S:St)(v f:AV)(lo hi:Int)(l:List Int)(k:Nat)(A:bH)(X:St):Prop:=A.inr=false∧X=S∧∃i,i+k=l.length∧¬gO lo hi (l.take i)∧aH 0 A.F=v∧aH 1 A.F=f∧aH 7 A.F= .int .i64 ((l.length:Nat):Int)∧aH 8 A.F= .int .i64 (i:Int)
theorem aHU{S:St}{b3 b4:Nat}{lo hi:Int}{v:AV}{l:List Int}(H:Has fns)(g3:S.h.get b3=some (.cells [.int .i64 lo] false 0))(g4:S.h.get b4=some (.cells [.int .i64 hi] false 0))(hl:bI .i64 S v l)(hlen:l.length≤1000000):fB fns (.fn 117 [] []) [v,.fn 111 [] [.ptr b3 0,.ptr b4 0]] S fun r S'=>(∃z,r= .int .i64 z∧(0≤z↔gO lo hi l))∧S'=S:=by
 refine bN H.f117 (by simp) ?_;simp only[↓aB,aA,rE,↓reduceIte];refine bL ?_;simp only[↓aB,aA,rE,↓reduceIte];refine fY ?_;simp only[↓aB,aA,rE,↓reduceIte,hl.len,Ai];refine aK (bG (aQW S v (.fn 111 [] [.ptr b3 0,.ptr b4 0]) lo hi l) ?_ l.length _ _ ⟨rfl,rfl,0,by omega,(by rintro⟨w,h,_⟩;simp at h),by refine⟨?_,?_,?_,?_⟩<;>simp only[↓aB,aA,rE,↓reduceIte]⟩);rintro k ⟨F,inr⟩ X ⟨q0,hX,j,hjk,ha,p0,p1,p7,p8⟩;simp only at q0 p0 p1 p7 p8;subst q0;rw[hX];refine bL ?_;simp only[↓aB,aA,rE,↓reduceIte,p7,p8];by_cases hj:j<l.length
 ·refine aC (aN (by simp only[↓aB,aA,rE,↓reduceIte,Ab (show(j:Int)<((l.length:Nat):Int) by omega)]) (aI ?_));simp only[↓aB,aA,rE,↓reduceIte];have hia:=hl.iaddr hj;have hld:=hl.ld hj;have htk:=xI (lo:=lo) (hi:=hi) hj ha;have hget:=aAh (lo:=lo) (hi:=hi) hj;generalize l.getD j 0=w at *;have w1:IntKind.i64.wrap ((j:Int)+1)=((j+1:Nat):Int):=by rw[wrap_i64 (by omega) (by omega)];omega
  refine aC (aK (aC (aF ?_)));simp only[↓aB,aA,rE,↓reduceIte,p8];refine bL ?_;simp only[↓aB,aA,rE,↓reduceIte,p0,p1,aG,hia,hld];refine aY ?_;simp only[↓aB,aA,rE,↓reduceIte];refine aO (aKf H g3 g4) ?_;rintro _ Y ⟨rfl,hY⟩;rw[hY];try simp only[↓aB,aA,rE,↓reduceIte]
  by_cases ho:w<lo∨hi<w
  ·refine aN (by simp only[↓aB,aA,rE,↓reduceIte,Ab ho]) ?_;refine bL ?_;simp only[↓aB,aA,rE,↓reduceIte];refine aR ?_;simp only[↓aB,aA,rE,↓reduceIte];exact⟨_,rfl,⟨fun _=>hget ho,fun _=>by omega⟩⟩
  ·refine aL (by simp only[↓aB,aA,rE,↓reduceIte,Aa ho]) (aI ?_);try simp only[↓aB,aA,rE,↓reduceIte]
   refine aF ?_;simp only[↓aB,aA,rE,↓reduceIte,p8,w1];exact⟨k - 1,by omega,rfl,rfl,j+1,by omega,htk ho,by refine⟨?_,?_,?_,?_⟩<;>simp only[↓aB,aA,rE,↓reduceIte,p0,p1,p7]⟩
 ·refine aC (aL (by simp only[↓aB,aA,rE,↓reduceIte,Aa (show ¬ (j:Int)<((l.length:Nat):Int) by omega)]) (bD ?_));simp only[↓aB,aA,rE,↓reduceIte];have hno:¬gO lo hi l:=by rw[Ay (by omega)] at ha;exact ha
  refine bL ?_;simp only[↓aB,aA,rE,↓reduceIte];refine aR ?_;simp only[↓aB,aA,rE,↓reduceIte];exact⟨_,rfl,⟨fun h=>absurd h (by decide),fun h=>absurd h hno⟩⟩
theorem aIB{S:St}{b3 b4:Nat}{lo hi:Int}{v:AV}{l:List Int}(H:Has fns)(g3:S.h.get b3=some (.cells [.int .i64 lo] false 0))(g4:S.h.get b4=some (.cells [.int .i64 hi] false 0))(hl:bI .i64 S v l)(hlen:l.length≤1000000):fB fns (.fn 110 [] []) [v,.fn 111 [] [.ptr b3 0,.ptr b4 0]] S fun r S'=>r= .bool (decide (gO lo hi l))∧S'=S:=by
 refine bN H.f110 (by simp) ?_;simp only[↓aB,aA,rE,↓reduceIte];refine bL ?_;simp only[↓aB,aA,rE,↓reduceIte];refine bL ?_;simp only[↓aB,aA,rE,↓reduceIte];refine aY ?_;simp only[↓aB,aA,rE,↓reduceIte];refine aO (aHU H g3 g4 hl hlen) ?_;rintro _ Y ⟨⟨z,rfl,hz⟩,hY⟩;rw[hY];have hd:decide ((0:Int)≤z)=decide (gO lo hi l):=by rw[Cb,Du,Du];exact hz
 simp only[↓aB,aA,rE,↓reduceIte,hd];refine aR ?_;simp only[↓aB,aA,rE,↓reduceIte]
theorem rF{S:St}{lo hi:Int}{v:AV}{l:List Int}(H:Has fns)(hl:bI .i64 S v l)(hlen:l.length≤1000000):fB fns (.fn 100 [] []) [.int .i64 lo,.int .i64 hi,v] S fun r S'=>r= .int .i64 (if gO lo hi l then 2 else 0)∧Same S S':=by
 refine bN H.f100 (by simp) ?_;simp only[↓aB,aA,rE,↓reduceIte];refine bL ?_;refine cL (by simp only[↓aB,aA,rE,↓reduceIte];exact cH _ _) ?_;intro S1 s1 n1 c1;refine cL (by simp only[↓aB,aA,rE,↓reduceIte];exact cH _ _) ?_;intro S2 s2 n2 c2;simp only[↓aB,aA,rE,↓reduceIte];have sS:=s1.trans s2;refine fY ?_;simp only[↓aB,aA,rE,↓reduceIte,qP];refine aY ?_;simp only[↓aB,aA,rE,↓reduceIte];refine aO (aIB H (by rw[s2.2 _ (by omega)];exact c1) c2 (hl.same sS) hlen) ?_;rintro _ Y ⟨rfl,hY⟩;rw[hY];try simp only[↓aB,aA,rE,↓reduceIte]
 by_cases ho:gO lo hi l
 ·rw[if_pos ho];refine aN (by simp only[↓aB,aA,rE,↓reduceIte,Ab ho]) ?_;refine bL ?_;simp only[↓aB,aA,rE,↓reduceIte];refine aR ?_;simp only[↓aB,aA,rE,↓reduceIte];exact sS
 ·rw[if_neg ho];refine aL (by simp only[↓aB,aA,rE,↓reduceIte,Aa ho]) (aI ?_);try simp only[↓aB,aA,rE,↓reduceIte]
  refine bL ?_;simp only[↓aB,aA,rE,↓reduceIte];refine aR ?_;simp only[↓aB,aA,rE,↓reduceIte];exact sS
def aAX(S:St)(wb:Nat)(ps:Int)(n i p d l:AV):Prop:=S.h.get wb=some (.cells [.int .i64 ps,n,i,p,d,l] false 0)∧wb<S.nx
theorem aAX.same{S S':St}{wb:Nat}{ps:Int}{n i p d l:AV}(h:aAX S wb ps n i p d l)(hs:Same S S'):aAX S' wb ps n i p d l:=⟨(hs.2 _ h.2).trans h.1,Ae h.2 hs.1⟩
section
variable {S:St}{wb:Nat}{ps:Int}{n i p d l:AV}{ni:Nat}{cs:List AV}{x:bO}
theorem aG8(H:Has fns)(hx:cC S cs x):fB fns (.fn 82 [] []) [.ptr wb 0,.agg cs] S fun r S'=>r= .int .i64 (if mS x then 3 else if gO 1 1000 x.weights then 2 else 0)∧Same S S':=by
 obtain⟨a,b,c,rfl,hn,hw,hp⟩:=hx;refine bN H.f82 (by simp) ?_;simp only[↓aB,aA,rE,↓reduceIte];refine bL ?_;refine cL (by simp only[↓aB,aA,rE,↓reduceIte];exact bE _) ?_;intro S2 s2 n2 g3;simp only[↓aB,aA,rE,↓reduceIte];have hn2:=hn.same s2;have hw2:=hw.same s2;have hp2:=hp.same s2;refine aC (aC (aT (Q:=fun o A' X=>o= .normal∧A'.inr=false∧X=S2∧aH 3 A'.F= .ptr S.nx 0∧aH 39 A'.F= .bool (decide (mS x))) (aF ?_) ?_))
 ·by_cases c0:x.player≠0
  ·rw[Ab (show mS x from .inl c0)];simp only[↓aB,aA,rE,↓reduceIte,aE,aD,cO g3,cP g3,dD g3,dH g3,dE g3,hn2.len,hw2.len,hp2.len,Ai,Ab c0]
  by_cases c1:x.info≠0
  ·rw[Ab (show mS x from .inr (.inl c1))];simp only[↓aB,aA,rE,↓reduceIte,aE,aD,cO g3,cP g3,dD g3,dH g3,dE g3,hn2.len,hw2.len,hp2.len,Ai,Aa c0,Ab c1]
  by_cases c2:(0:Int)<((x.pay.length:Nat):Int)
  ·rw[Ab (show mS x from .inr (.inr (.inl c2)))];simp only[↓aB,aA,rE,↓reduceIte,aE,aD,cO g3,cP g3,dD g3,dH g3,dE g3,hn2.len,hw2.len,hp2.len,Ai,Aa c0,Aa c1,Ab c2]
  by_cases c3:((x.next.length:Nat):Int)<1
  ·rw[Ab (show mS x from .inr (.inr (.inr (.inl c3))))];simp only[↓aB,aA,rE,↓reduceIte,aE,aD,cO g3,cP g3,dD g3,dH g3,dE g3,hn2.len,hw2.len,hp2.len,Ai,Aa c0,Aa c1,Aa c2,Ab c3]
  by_cases c4:(60:Int)<((x.next.length:Nat):Int)
  ·rw[Ab (show mS x from .inr (.inr (.inr (.inr (.inl c4)))))];simp only[↓aB,aA,rE,↓reduceIte,aE,aD,cO g3,cP g3,dD g3,dH g3,dE g3,hn2.len,hw2.len,hp2.len,Ai,Aa c0,Aa c1,Aa c2,Aa c3,Ab c4]
  by_cases c5:((x.weights.length:Nat):Int)≠((x.next.length:Nat):Int)
  ·rw[Ab (show mS x from .inr (.inr (.inr (.inr (.inr (c5))))))];simp only[↓aB,aA,rE,↓reduceIte,aE,aD,cO g3,cP g3,dD g3,dH g3,dE g3,hn2.len,hw2.len,hp2.len,Ai,Aa c0,Aa c1,Aa c2,Aa c3,Aa c4,Ab c5]
  rw[Aa (show ¬mS x by rintro(h0 | h1 | h2 | h3 | h4 | h5)<;>first | exact c0 h0 | exact c1 h1 | exact c2 h2 | exact c3 h3 | exact c4 h4 | exact c5 h5)];simp only[↓aB,aA,rE,↓reduceIte,aE,aD,cO g3,cP g3,dD g3,dH g3,dE g3,hn2.len,hw2.len,hp2.len,Ai,Aa c0,Aa c1,Aa c2,Aa c3,Aa c4,Aa c5]
 rintro o ⟨F,inr⟩ X ⟨rfl,q0,hX,p3,pb⟩;simp only at q0 p3 pb;subst q0;rw[hX];have sX:=s2;try simp only[↓aB,aA,rE,↓reduceIte]
 by_cases bad:mS x
 ·rw[if_pos bad];refine aN (by simp only[↓aB,aA,rE,↓reduceIte,pb,Ab bad]) ?_;refine bL ?_;simp only[↓aB,aA,rE,↓reduceIte];refine aR ?_;simp only[↓aB,aA,rE,↓reduceIte];exact sX
 rw[if_neg bad];refine aL (by simp only[↓aB,aA,rE,↓reduceIte,pb,Aa bad]) (aI ?_);try simp only[↓aB,aA,rE,↓reduceIte]
 have hlen:x.weights.length≤60:=by unfold mS at bad;omega
 refine bL ?_;simp only[↓aB,aA,rE,↓reduceIte,p3,aE,aD,dH g3];refine aY ?_;simp only[↓aB,aA,rE,↓reduceIte];refine aO (rF H hw2 (by omega)) ?_;rintro _ Y ⟨rfl,hY⟩;try simp only[↓aB,aA,rE,↓reduceIte]
 refine aR ?_;simp only[↓aB,aA,rE,↓reduceIte];exact s2.trans hY
theorem aJB(H:Has fns)(hx:cC S cs x)(hW:aAX S wb ps n i p d l)(hps:1≤ps∧ps≤4)(hi:kJ i=some (.int .i64 ((ni:Nat):Int)))(hni:ni≤1000)(hsi:bW i i=true):fB fns (.fn 83 [] []) [.ptr wb 0,.agg cs] S fun r S'=>r= .int .i64 (if xP x then 3 else if x.player<0∨ps - 1<x.player∨x.info<0∨(ni:Int) - 1<x.info then 2 else 0)∧Same S S':=by
 obtain⟨a,b,c,rfl,hn,hw,hp⟩:=hx;refine bN H.f83 (by simp) ?_;simp only[↓aB,aA,rE,↓reduceIte];refine bL ?_;refine cL (by simp only[↓aB,aA,rE,↓reduceIte];exact bE _) ?_;intro S2 s2 n2 g3;simp only[↓aB,aA,rE,↓reduceIte];have hn2:=hn.same s2;have hw2:=hw.same s2;have hp2:=hp.same s2;have hW2:=hW.same s2;refine aC (aC (aT (Q:=fun o A' X=>o= .normal∧A'.inr=false∧X=S2∧aH 0 A'.F= .ptr wb 0∧aH 3 A'.F= .ptr S.nx 0∧aH 27 A'.F= .bool (decide (xP x))) (aF ?_) ?_))
 ·by_cases c0:(0:Int)<((x.weights.length:Nat):Int)
  ·rw[Ab (show xP x from .inl c0)];simp only[↓aB,aA,rE,↓reduceIte,aE,aD,cO g3,cP g3,dD g3,dH g3,dE g3,hn2.len,hw2.len,hp2.len,Ai,Ab c0]
  by_cases c1:(0:Int)<((x.pay.length:Nat):Int)
  ·rw[Ab (show xP x from .inr (.inl c1))];simp only[↓aB,aA,rE,↓reduceIte,aE,aD,cO g3,cP g3,dD g3,dH g3,dE g3,hn2.len,hw2.len,hp2.len,Ai,Aa c0,Ab c1]
  by_cases c2:((x.next.length:Nat):Int)<1
  ·rw[Ab (show xP x from .inr (.inr (.inl c2)))];simp only[↓aB,aA,rE,↓reduceIte,aE,aD,cO g3,cP g3,dD g3,dH g3,dE g3,hn2.len,hw2.len,hp2.len,Ai,Aa c0,Aa c1,Ab c2]
  by_cases c3:(10:Int)<((x.next.length:Nat):Int)
  ·rw[Ab (show xP x from .inr (.inr (.inr (c3))))];simp only[↓aB,aA,rE,↓reduceIte,aE,aD,cO g3,cP g3,dD g3,dH g3,dE g3,hn2.len,hw2.len,hp2.len,Ai,Aa c0,Aa c1,Aa c2,Ab c3]
  rw[Aa (show ¬xP x by rintro(h0 | h1 | h2 | h3)<;>first | exact c0 h0 | exact c1 h1 | exact c2 h2 | exact c3 h3)];simp only[↓aB,aA,rE,↓reduceIte,aE,aD,cO g3,cP g3,dD g3,dH g3,dE g3,hn2.len,hw2.len,hp2.len,Ai,Aa c0,Aa c1,Aa c2,Aa c3]
 rintro o ⟨F,inr⟩ X ⟨rfl,q0,hX,p0,p3,pb⟩;simp only at q0 p0 p3 pb;subst q0;rw[hX];have sX:=s2;try simp only[↓aB,aA,rE,↓reduceIte]
 by_cases bad:xP x
 ·rw[if_pos bad];refine aN (by simp only[↓aB,aA,rE,↓reduceIte,pb,Ab bad]) ?_;refine bL ?_;simp only[↓aB,aA,rE,↓reduceIte];refine aR ?_;simp only[↓aB,aA,rE,↓reduceIte];exact sX
 rw[if_neg bad];refine aL (by simp only[↓aB,aA,rE,↓reduceIte,pb,Aa bad]) (aI ?_);try simp only[↓aB,aA,rE,↓reduceIte]
 have w1:IntKind.i64.wrap (ps - 1)=ps - 1:=wrap_i64 (by omega) (by omega);have w2:IntKind.i64.wrap ((ni:Int) - 1)=(ni:Int) - 1:=wrap_i64 (by omega) (by omega);have lt3:S.nx<S2.nx:=by omega
 refine aC (aC (fP (fun _=>False) ?_));intro S3 s3 h3 n3;simp only[Am,Bg,rA] at n3;simp only[↓sU,sD,rE,↓reduceIte,rA,p0,p3,cS,dC,cQ,aE,aW,aD,eB hW2.1,cO g3,w1,hW2.2,lt3,An];rw[nB (k:=.i64) (n:=x.player) (by simp only[↓sU,sD,rE,↓reduceIte,rA])];simp only[↓sU,sD,rE,↓reduceIte,rA];refine aDk (by decide) rfl ?_;intro S4 s4 n4 c4;simp only[↓sU,sD,rE,↓reduceIte,rA];have s34:Same S2 S4:=s4.same s3 (by omega);refine aO (rF H (aKU (by omega) c4) (by simp)) ?_;rintro _ Y ⟨rfl,hY⟩;refine⟨hY,?_⟩;simp only[↓sU,sD,rE,↓reduceIte,rA,aCX];have sY:=s2.trans (s34.trans hY);refine bL ?_;simp only[↓sU,sD,rE,↓reduceIte,rA];by_cases h1:x.player<0∨ps - 1<x.player
 ·rw[if_pos (show x.player<0∨ps - 1<x.player∨x.info<0∨(ni:Int) - 1<x.info by omega)];refine aN (by simp only[↓sU,sD,rE,↓reduceIte,rA,if_pos h1];rfl) ?_;refine bL ?_;simp only[↓sU,sD,rE,↓reduceIte,rA,if_pos h1];refine aR ?_;simp only[↓sU,sD,rE,↓reduceIte,rA];exact sY
 refine aL (by simp only[↓sU,sD,rE,↓reduceIte,rA,if_neg h1];rfl) (aI ?_);try simp only[↓sU,sD,rE,↓reduceIte,rA]
 have hWY:=hW.same sY;have g3Y:Y.h.get S.nx=some (.cells [.int .i64 x.kind,.int .i64 x.player,.int .i64 x.info,a,b,c] false 0):=by rw[(s34.trans hY).2 _ lt3];exact g3
 have lt3Y:S.nx<Y.nx:=Ae lt3 (s34.trans hY).1;refine aC (fP (fun _=>False) ?_);intro S5 s5 h5 n5;simp only[Am,Bg,rA] at n5;simp only[↓sU,sD,rE,↓reduceIte,rA,p0,p3,cS,dC,cQ,aE,aW,aD,cP hWY.1,hi,hsi,cP g3Y,w2,hWY.2,lt3Y,An];rw[nB (k:=.i64) (n:=x.info) (by simp only[↓sU,sD,rE,↓reduceIte,rA])];simp only[↓sU,sD,rE,↓reduceIte,rA];refine aDk (by decide) rfl ?_;intro S6 s6 n6 c6;simp only[↓sU,sD,rE,↓reduceIte,rA];have s56:Same Y S6:=s6.same s5 (by omega);refine aO (rF H (aKU (by omega) c6) (by simp)) ?_;rintro _ Z ⟨rfl,hZ⟩;refine⟨hZ,?_⟩;simp only[↓sU,sD,rE,↓reduceIte,rA,aCX];refine aR ?_;simp only[↓sU,sD,rE,↓reduceIte,rA];refine⟨?_,sY.trans (s56.trans hZ)⟩;by_cases h2:x.info<0∨(ni:Int) - 1<x.info
 ·rw[if_pos h2,if_pos (by omega)]
 ·rw[if_neg h2,if_neg (by omega)]
theorem aLN(H:Has fns)(hx:cC S cs x)(hW:aAX S wb ps n i p d l)(hps:1≤ps∧ps≤4):fB fns (.fn 84 [] []) [.ptr wb 0,.agg cs] S fun r S'=>r= .int .i64 (if oG ps x then 3 else if gO (-1000000) 1000000 x.pay then 2 else 0)∧Same S S':=by
 obtain⟨a,b,c,rfl,hn,hw,hp⟩:=hx;refine bN H.f84 (by simp) ?_;simp only[↓aB,aA,rE,↓reduceIte];refine bL ?_;refine cL (by simp only[↓aB,aA,rE,↓reduceIte];exact bE _) ?_;intro S2 s2 n2 g3;simp only[↓aB,aA,rE,↓reduceIte];have hn2:=hn.same s2;have hw2:=hw.same s2;have hp2:=hp.same s2;have hW2:=hW.same s2;have sn:=bI.self hn2;have sw:=bI.self hw2;have sp:=bI.self hp2;refine aC (aC (aT (Q:=fun o A' X=>o= .normal∧A'.inr=false∧Same S2 X∧aH 3 A'.F= .ptr S.nx 0∧aH 35 A'.F= .bool (decide (oG ps x))) (qV ?_) ?_))
 ·have sX:=Same.nx S2 31;by_cases c0:x.player≠0
  ·rw[Ab (show oG ps x from .inl c0)];simp only[↓aB,aA,rE,↓reduceIte,aE,aD,cO g3,cP g3,dD g3,dH g3,dE g3,hn2.len,hw2.len,hp2.len,Ai,cS,dC,cQ,aW,fL,eB hW2.1,sn,sw,sp,Ab c0];exact Same.nx S2 _
  by_cases c1:x.info≠0
  ·rw[Ab (show oG ps x from .inr (.inl c1))];simp only[↓aB,aA,rE,↓reduceIte,aE,aD,cO g3,cP g3,dD g3,dH g3,dE g3,hn2.len,hw2.len,hp2.len,Ai,cS,dC,cQ,aW,fL,eB hW2.1,sn,sw,sp,Aa c0,Ab c1];exact Same.nx S2 _
  by_cases c2:(0:Int)<((x.next.length:Nat):Int)
  ·rw[Ab (show oG ps x from .inr (.inr (.inl c2)))];simp only[↓aB,aA,rE,↓reduceIte,aE,aD,cO g3,cP g3,dD g3,dH g3,dE g3,hn2.len,hw2.len,hp2.len,Ai,cS,dC,cQ,aW,fL,eB hW2.1,sn,sw,sp,Aa c0,Aa c1,Ab c2];exact Same.nx S2 _
  by_cases c3:(0:Int)<((x.weights.length:Nat):Int)
  ·rw[Ab (show oG ps x from .inr (.inr (.inr (.inl c3))))];simp only[↓aB,aA,rE,↓reduceIte,aE,aD,cO g3,cP g3,dD g3,dH g3,dE g3,hn2.len,hw2.len,hp2.len,Ai,cS,dC,cQ,aW,fL,eB hW2.1,sn,sw,sp,Aa c0,Aa c1,Aa c2,Ab c3];exact Same.nx S2 _
  by_cases c4:((x.pay.length:Nat):Int)≠ps
  ·rw[Ab (show oG ps x from .inr (.inr (.inr (.inr (c4)))))];simp only[↓aB,aA,rE,↓reduceIte,aE,aD,cO g3,cP g3,dD g3,dH g3,dE g3,hn2.len,hw2.len,hp2.len,Ai,cS,dC,cQ,aW,fL,eB hW2.1,sn,sw,sp,Aa c0,Aa c1,Aa c2,Aa c3,Ab c4];exact Same.nx S2 _
  rw[Aa (show ¬oG ps x by rintro(h0 | h1 | h2 | h3 | h4)<;>first | exact c0 h0 | exact c1 h1 | exact c2 h2 | exact c3 h3 | exact c4 h4)];simp only[↓aB,aA,rE,↓reduceIte,aE,aD,cO g3,cP g3,dD g3,dH g3,dE g3,hn2.len,hw2.len,hp2.len,Ai,cS,dC,cQ,aW,fL,eB hW2.1,sn,sw,sp,Aa c0,Aa c1,Aa c2,Aa c3,Aa c4];exact Same.nx S2 _
 rintro o ⟨F,inr⟩ X ⟨rfl,q0,hX,p3,pb⟩;simp only at q0 p3 pb;subst q0;have sX:=s2.trans hX;have g3X:X.h.get S.nx=some (.cells [.int .i64 x.kind,.int .i64 x.player,.int .i64 x.info,a,b,c] false 0):=by rw[hX.2 _ (by omega)];exact g3
 try simp only[↓aB,aA,rE,↓reduceIte]
 by_cases bad:oG ps x
 ·rw[if_pos bad];refine aN (by simp only[↓aB,aA,rE,↓reduceIte,pb,Ab bad]) ?_;refine bL ?_;simp only[↓aB,aA,rE,↓reduceIte];refine aR ?_;simp only[↓aB,aA,rE,↓reduceIte];exact sX
 rw[if_neg bad];refine aL (by simp only[↓aB,aA,rE,↓reduceIte,pb,Aa bad]) (aI ?_);try simp only[↓aB,aA,rE,↓reduceIte]
 have hlen:x.pay.length≤60:=by unfold oG at bad;omega
 have hneg:Int.negSucc 999999= -1000000:=rfl;refine bL ?_;simp only[↓aB,aA,rE,↓reduceIte,p3,aE,aD,dE g3X];refine aY ?_;simp only[↓aB,aA,rE,↓reduceIte,hneg];refine aO (rF H (hp2.same hX) (by omega)) ?_;rintro _ Y ⟨rfl,hY⟩;try simp only[↓aB,aA,rE,↓reduceIte]
 refine aR ?_;simp only[↓aB,aA,rE,↓reduceIte];exact sX.trans hY
end
section
variable {S:St}{wb:Nat}{ps:Int}{n i p d l:AV}{ni:Nat}{cs:List AV}{x:bO}
theorem aKy(H:Has fns)(hx:cC S cs x)(hW:aAX S wb ps n i p d l)(hps:1≤ps∧ps≤4)(hi:kJ i=some (.int .i64 ((ni:Nat):Int)))(hni:ni≤1000)(hsi:bW i i=true):fB fns (.fn 63 [] []) [.ptr wb 0,.agg cs] S fun r S'=>r= .int .i64 (iA ps ni x)∧Same S S':=by
 obtain⟨a,b,c,rfl,hn,hw,hp⟩:=id hx;refine bN H.f63 (by simp) ?_;simp only[↓aB,aA,rE,↓reduceIte];refine bL ?_;refine cL (by simp only[↓aB,aA,rE,↓reduceIte];exact bE _) ?_;intro S1 s1 n1 g3;simp only[↓aB,aA,rE,↓reduceIte];have hbd:∀ (F:Fr) (h:T AB),gT (.build [.nilfn,.nilfn,.nilfn,.nilfn] [(1,1,.c (.fn 82 [] [])),(2,1,.c (.fn 83 [] [])),(3,1,.c (.fn 84 [] []))]) F h=some (.agg [.nilfn,.fn 82 [] [],.fn 83 [] [],.fn 84 [] []]):=fun _ _=>rfl;refine bL ?_;simp only[↓aB,aA,rE,↓reduceIte,hbd];refine cD ?_;intro S2 s2 n2 c2;refine eF (b:=S1.nx) (by simp only[↓aB,aA,rE,↓reduceIte]) (by simp only[↓aB,aA,rE,↓reduceIte];exact bE _) c2 rfl rfl ?_;intro S3 s3 n3 c3;simp only[↓aB,aA,rE,↓reduceIte];have s13:Same S1 S3:=s3.same s2 (Ah _);have sS:=s1.trans s13;have g3:S3.h.get S.nx=some (.cells [.int .i64 x.kind,.int .i64 x.player,.int .i64 x.info,a,b,c] false 0):=by rw[s13.2 _ (by omega)];exact g3
 have lt3:S.nx<S3.nx:=by omega
 have lt5:S1.nx<S3.nx:=by omega
 have hx3:cC S3 [.int .i64 x.kind,.int .i64 x.player,.int .i64 x.info,a,b,c] x:=bR hx sS;have hW3:=hW.same sS;have sl:=tM (dG .i64 x.kind) (dG .i64 x.player) (dG .i64 x.info) (bI.self hn) (bI.self hw) (bI.self hp);unfold iA;refine aC (aC (aT (Q:=fun o A' X=>o= .normal∧A'.inr=false∧X=S3∧aH 0 A'.F= .ptr wb 0∧aH 3 A'.F= .ptr S.nx 0∧aH 5 A'.F= .ptr S1.nx 0∧aH 14 A'.F= .bool (decide (x.kind<1∨3<x.kind))) (aF ?_) ?_))
 ·by_cases h1:x.kind<1
  ·rw[Ab (show x.kind<1∨3<x.kind from .inl h1)];simp only[↓aB,aA,rE,↓reduceIte,aE,aD,eB g3,Ab h1]
  ·by_cases h2:3<x.kind
   ·rw[Ab (show x.kind<1∨3<x.kind from .inr h2)];simp only[↓aB,aA,rE,↓reduceIte,aE,aD,eB g3,Aa h1,Ab h2]
   ·rw[Aa (show ¬ (x.kind<1∨3<x.kind) by omega)];simp only[↓aB,aA,rE,↓reduceIte,aE,aD,eB g3,Aa h1,Aa h2]
 rintro o ⟨F,inr⟩ X ⟨rfl,q0,hX,p0,p3,p5,pb⟩;simp only at q0 p0 p3 p5 pb;subst q0;rw[hX];try simp only[↓aB,aA,rE,↓reduceIte]
 by_cases bad:x.kind<1∨3<x.kind
 ·rw[if_neg (by omega),if_neg (by omega),if_neg (by omega)];refine aN (by simp only[↓aB,aA,rE,↓reduceIte,pb,Ab bad]) ?_;refine bL ?_;simp only[↓aB,aA,rE,↓reduceIte];refine aR ?_;simp only[↓aB,aA,rE,↓reduceIte];exact sS
 refine aL (by simp only[↓aB,aA,rE,↓reduceIte,pb,Aa bad]) (aI ?_);try simp only[↓aB,aA,rE,↓reduceIte]
 have hld:∀j y,[AV.nilfn,.fn 82 [] [],.fn 83 [] [],.fn 84 [] []][j]? =some y→cE (.ptr S1.nx j) false 1 S3.h=some y:=fun j y hy=>by have:=ldc (j:=j) c3 hy;rw[Av] at this;exact this
 have n1':eZ (.int .i64 1)=some 1:=rfl;have n2':eZ (.int .i64 2)=some 2:=rfl;have n3':eZ (.int .i64 3)=some 3:=rfl;have i1:eJ (.arr 4 1) (.ptr S1.nx 0) 1=some (.ptr S1.nx 1):=rfl;have i2:eJ (.arr 4 1) (.ptr S1.nx 0) 2=some (.ptr S1.nx 2):=rfl;have i3:eJ (.arr 4 1) (.ptr S1.nx 0) 3=some (.ptr S1.nx 3):=rfl;have l1:=hld 1 _ rfl;have l2:=hld 2 _ rfl;have l3:=hld 3 _ rfl;have f1:bW (.fn 82 [] []) (.fn 82 [] [])=true:=rfl;have f2:bW (.fn 83 [] []) (.fn 83 [] [])=true:=rfl;have f3:bW (.fn 84 [] []) (.fn 84 [] [])=true:=rfl;have g3':=ldN g3;refine aC (dM (fun _=>False) ?_);intro S4 s4;by_cases k1:x.kind=1
 ·rw[if_pos k1];rw[k1] at g3 g3' sl hx3;simp only[↓sU,sD,rE,↓reduceIte,rA,p0,p3,p5,aE,aW,aD,eB g3,n1',i1,l1,f1,g3',sl,lt3,lt5,An];refine bS rfl ?_;simp only[↓sU,sD,rE,↓reduceIte,rA];refine aO (aG8 H (by have:=bR hx (sS.trans s4);rw[k1] at this;exact this)) ?_;rintro _ Y ⟨rfl,hY⟩;refine⟨hY,?_⟩;try simp only[↓sU,sD,rE,↓reduceIte,rA]
  refine aR ?_;simp only[↓sU,sD,rE,↓reduceIte,rA];exact sS.trans (s4.trans hY)
 by_cases k2:x.kind=2
 ·rw[if_neg k1,if_pos k2];rw[k2] at g3 g3' sl;simp only[↓sU,sD,rE,↓reduceIte,rA,p0,p3,p5,aE,aW,aD,eB g3,n2',i2,l2,f2,g3',sl,lt3,lt5,An];refine bS rfl ?_;simp only[↓sU,sD,rE,↓reduceIte,rA];refine aO (aJB H (by have:=bR hx (sS.trans s4);rw[k2] at this;exact this) (hW3.same s4) hps hi hni hsi) ?_;rintro _ Y ⟨rfl,hY⟩;refine⟨hY,?_⟩;try simp only[↓sU,sD,rE,↓reduceIte,rA]
  refine aR ?_;simp only[↓sU,sD,rE,↓reduceIte,rA];exact sS.trans (s4.trans hY)
 have k3:x.kind=3:=by omega
 rw[if_neg k1,if_neg k2,if_pos k3];rw[k3] at g3 g3' sl;simp only[↓sU,sD,rE,↓reduceIte,rA,p0,p3,p5,aE,aW,aD,eB g3,n3',i3,l3,f3,g3',sl,lt3,lt5,An];refine bS rfl ?_;simp only[↓sU,sD,rE,↓reduceIte,rA];refine aO (aLN H (by have:=bR hx (sS.trans s4);rw[k3] at this;exact this) (hW3.same s4) hps) ?_;rintro _ Y ⟨rfl,hY⟩;refine⟨hY,?_⟩;try simp only[↓sU,sD,rE,↓reduceIte,rA]
 refine aR ?_;simp only[↓sU,sD,rE,↓reduceIte,rA];exact sS.trans (s4.trans hY)
end
abbrev fK:=Int×Int×Int
def lF(rec:Nat→Option (List fK)):List Int→Nat→Option (List fK)
 | [],_=>some []
 | c::l,r=>if c=(r:Int) then(rec r).bind fun L1=>(lF rec l (r+L1.length)).map (L1++ ·) else none
def iO(N:Nat)(nx:Nat→List Int):Nat→Nat→Int→Int→Option (List fK)
 | 0,_,_,_=>none
 | f+1,at_,p,d=>if at_<N then(lF (fun r=>iO N nx f r at_ (d+1)) (nx at_) (at_+1)).map fun L=>(p,d,((at_+L.length:Nat):Int))::L else none
def yO(m:Int)(L:List fK):Int:=L.foldl (fun m t=>mx m t.2.1) m
theorem aGE(m:Int)(L L':List fK):yO m (L++L')=yO (yO m L) L':=List.foldl_append ..
theorem aKi(m:Int)(t:fK)(L:List fK):yO m (t::L)=yO (mx m t.2.1) L:=rfl
def gN(g:bC)(i:Nat):List Int:=((g.nodes[i]?).map (·.next)).getD []
theorem aD2{g:bC}{i:Nat}{x:bO}(h:g.nodes[i]? =some x):gN g i=x.next:=by unfold gN;rw[h];rfl
theorem aEK{rec:Nat→Option (List fK)}{N:Nat}(hr:∀r L,rec r=some L→r+L.length≤N∧0<L.length):∀ {l:List Int} {r:Nat} {L:List fK},r≤N→lF rec l r=some L→r+L.length≤N
 | [],r,L,h,hk=>by simp only[lF,Ak] at hk;subst hk;simpa using h
 | c::l,r,L,h,hk=>by
  simp only[lF] at hk;split at hk
  ·obtain⟨L1,h1,h2⟩:=Ei.1 hk;obtain⟨L2,h3,rfl⟩:=Ap.1 h2;have:=aEK hr (hr r L1 h1).1 h3;rw[Al];omega
  ·cases hk
theorem yE{N:Nat}{nx:Nat→List Int}:∀ {f at_:Nat} {p d:Int} {L:List fK},iO N nx f at_ p d=some L→at_+L.length≤N∧0<L.length
 | 0,at_,p,d,L,h=>by cases h
 | f+1,at_,p,d,L,h=>by
  simp only[iO] at h;split at h
  ·rename_i hlt;obtain⟨L',h1,rfl⟩:=Ap.1 h;have:=aEK (N:=N) (fun r L hr=>yE hr) (show at_+1≤N by omega) h1;rw[Am];omega
  ·cases h
theorem aQ.tail{k:Nat}{α:Type}{E:St→List AV→α→Prop}{S:St}{v:AV}{a:α}{l:List α}(h:aQ k E S v (a::l)):∃v',(∀ (F:Fr) (x:cF),eZ (x.val F)=some 1→rR (.slice k) v (some x) none none F=some v')∧aQ k E S v' l:=by
 rcases h with⟨h0,_⟩ | ⟨b,off,cap,o,cs,rfl,hc,hb,hcs,hel⟩
 ·cases h0
 ·rw[Am] at hc;have e1:Nat.ble cap cap=true:=Aj (Ah _);have e2:Nat.ble (l.length+1) cap=true:=Aj hc;have e3:Nat.ble 1 (l.length+1)=true:=Aj (by omega);by_cases h1:cap=1
  ·have hl:l= []:=Cg.1 (by omega);subst hl;subst h1;have e4:Nat.beq 1 1=true:=rfl;refine⟨bK o .emp (.sl b off 0 0 false),fun F x hx=>?_,?_⟩
   ·simp only[rR,aLX,mB,iJ,aM,hx,Am,Bg];cases o<;>rfl
   ·cases o with
    | true=>exact .inl ⟨rfl,.inr rfl⟩
    | false=>exact .inr ⟨b,off,0,false,cs,rfl,Ah _,hb,hcs,fun i a hi=>by simp at hi⟩
  ·have e4:Nat.beq cap 1=false:=by rw[Ch];intro h;rw[Aw] at h;omega
   refine⟨.sl b (off+1 * k) (l.length+1 - 1) (cap - 1) o,fun F x hx=>?_,.inr ⟨b,off+1 * k,cap - 1,o,cs,by simp,by omega,hb,hcs,fun i a' hi=>?_⟩⟩
   ·simp only[rR,aLX,mB,iJ,aM,hx,Am,e1,e2,e3,aP,e4,aU,Option.isNone_none];cases o<;>rfl
   ·obtain⟨e,h1,h2,h3⟩:=hel (i+1) a' (by simpa using hi);refine⟨e,h1,fun j x hj=>?_,h3⟩;have:=h2 j x hj;rw[show off+1 * k+i * k+j=off+(i+1) * k+j by rw[Dz];omega];exact this
theorem aCR(a b:Int):lR true [.int .i64 a,.int .i64 b]=some (.int .i64 (mx a b)):=by rw[aMU,aOx,aOP]
def aH0(S:St)(db:Nat)(at_:Nat)(deep:Int)(o:Option (List fK))(r:AV)(S':St):Prop:=
 bB db S S'∧match o with
 | some L=>r= .int .i64 ((at_+L.length:Nat):Int)∧S'.h.get db=some (.cells [.int .i64 (yO deep L)] false 0)
 | none=>r= .int .i64 (-1)∧∃z,S'.h.get db=some (.cells [.int .i64 z] false 0)
def aN7(S1:St)(gb db at_:Nat)(d deep1:Int)(rec:Nat→Option (List fK))(ks:List Int)(k:Nat)(A:bH)(X:St):Prop:=
 A.inr=false∧bB db S1 X∧∃ (j:Nat) (L:List fK),j+k=ks.length∧at_+1+L.length≤2000∧lF rec ks (at_+1)=(lF rec (ks.drop j) (at_+1+L.length)).map (L++ ·)∧aH 1 A.F= .int .i64 (at_:Int)∧aH 2 A.F= .int .i64 d∧aH 3 A.F= .ptr db 0∧aH 4 A.F= .ptr gb 0∧aH 9 A.F= .int .i64 ((at_+1+L.length:Nat):Int)∧aH 10 A.F= .int .i64 (j:Int)∧X.h.get db=some (.cells [.int .i64 (yO deep1 L)] false 0)
theorem aH3{S0:St}{gv:AV}{g:bC}{db:Nat}(H:Has fns)(hG:gE S0 gv g)(hdb:S0.nx≤db)(hN:g.nodes.length≤2000):∀ (f:Nat) {S:St} {at_:Nat} {p d deep:Int},g.nodes.length+1 - at_≤f→0≤d→d≤at_→at_≤3000→(∀x∈g.nodes,x.next.length≤1000)→Same S0 S→db<S.nx→S.h.get db=some (.cells [.int .i64 deep] false 0)→
  fB fns (.fn 68 [] []) [gv,.int .i64 (at_:Int),.int .i64 d,.ptr db 0] S fun r S'=>aH0 S db at_ deep (iO g.nodes.length (gN g) f at_ p d) r S':=by
 intro f
 induction f with
 | zero=>
  intro S at_ p d deep hf hd0 hd hat hlen hS hlt hdeep;obtain⟨nv,iv,rfl,hn,hi⟩:=id hG;have hnS:=aQ.same (E:=cC) bR hn hS;refine bN H.f68 (by simp) ?_;simp only[↓aB,aA,rE,↓reduceIte];refine bL ?_;refine cL (by simp only[↓aB,aA,rE,↓reduceIte];exact bE _) ?_;intro S1 s1 n1 c1;simp only[↓aB,aA,rE,↓reduceIte];refine fY ?_;simp only[↓aB,aA,rE,↓reduceIte,aE,aD,aI3 c1,hnS.len];refine aN (by simp only[↓aB,aA,rE,↓reduceIte,Ab (show((g.nodes.length:Nat):Int)≤(at_:Int) by omega)]) ?_;refine bL ?_;simp only[↓aB,aA,rE,↓reduceIte];refine aR ?_;simp only[↓aB,aA,rE,↓reduceIte];exact⟨⟨s1.1,fun c hc _=>s1.2 c hc⟩,rfl,deep,by rw[s1.2 _ hlt];exact hdeep⟩
 | succ f ih=>
  intro S at_ p d deep hf hd0 hd hat hlen hS hlt hdeep;obtain⟨nv,iv,rfl,hn,hi⟩:=id hG;have hnS:=aQ.same (E:=cC) bR hn hS;refine bN H.f68 (by simp) ?_;simp only[↓aB,aA,rE,↓reduceIte];refine bL ?_;refine cL (by simp only[↓aB,aA,rE,↓reduceIte];exact bE _) ?_;intro S1 s1 n1 c1;simp only[↓aB,aA,rE,↓reduceIte];have hdeep1:S1.h.get db=some (.cells [.int .i64 deep] false 0):=by rw[s1.2 _ hlt];exact hdeep
  have b1:bB db S S1:=⟨s1.1,fun c hc _=>s1.2 c hc⟩;refine fY ?_;simp only[↓aB,aA,rE,↓reduceIte,aE,aD,aI3 c1,hnS.len];by_cases hlt':at_<g.nodes.length;rotate_left
  ·refine aN (by simp only[↓aB,aA,rE,↓reduceIte,Ab (show((g.nodes.length:Nat):Int)≤(at_:Int) by omega)]) ?_;refine bL ?_;simp only[↓aB,aA,rE,↓reduceIte];refine aR ?_;simp only[↓aB,aA,rE,↓reduceIte];refine⟨b1,?_⟩;simp only[iO,if_neg hlt'];exact⟨rfl,deep,hdeep1⟩
  refine aL (by simp only[↓aB,aA,rE,↓reduceIte,Aa (show ¬ ((g.nodes.length:Nat):Int)≤(at_:Int) by omega)]) (aI ?_);try simp only[↓aB,aA,rE,↓reduceIte]
  obtain⟨x,hx⟩:∃x,g.nodes[at_]? =some x:=⟨_,Ad hlt'⟩;have hnx:=aD2 hx;have hxl:=hlen x (Ao hx);have w1:IntKind.i64.wrap ((at_:Int)+1)=((at_+1:Nat):Int):=by rw[wrap_i64 (by omega) (by omega)];omega
  have w2:IntKind.i64.wrap (d+1)=d+1:=wrap_i64 (by omega) (by omega);have ldd:cE (.ptr db 0) false 1 S1.h=some (.int .i64 deep):=ldc (j:=0) hdeep1 rfl;refine bL ?_;simp only[↓aB,aA,rE,↓reduceIte,cS,cQ,ldd,aF4,gF,kI,aCR];refine eF (b:=db) (by simp only[↓aB,aA,rE,↓reduceIte]) (by simp only[↓aB,aA,rE,↓reduceIte];exact cH _ _) hdeep1 rfl rfl ?_;intro S2 s2 n2 c2;simp only[↓aB,aA,rE,↓reduceIte];have b2:=b1.trans s2;have gb2:S2.h.get S.nx=some (.cells [.int .i64 g.players,nv,iv] false 0):=by rw[s2.2 _ (by omega) (by omega)];exact c1
  refine bL ?_;simp only[↓aB,aA,rE,↓reduceIte,w1];refine fY ?_;simp only[↓aB,aA,rE,↓reduceIte];have hW:iO g.nodes.length (gN g) (f+1) at_ p d=(lF (fun r=>iO g.nodes.length (gN g) f r at_ (d+1)) x.next (at_+1)).map fun L=>(p,d,((at_+L.length:Nat):Int))::L:=by
   simp only[iO,if_pos hlt',hnx]
  rw[hW];refine aT (Q:=fun o A' X=>(o= .normal∧aN7 S2 S.nx db at_ d (mx deep d) (fun r=>iO g.nodes.length (gN g) f r at_ (d+1)) x.next 0 A' X)∨(o= .ret∧bB db S2 X∧lF (fun r=>iO g.nodes.length (gN g) f r at_ (d+1)) x.next (at_+1)=none∧aH 8 A'.F= .int .i64 (-1)∧∃z,X.h.get db=some (.cells [.int .i64 z] false 0))) (aK (bG (aN7 S2 S.nx db at_ d (mx deep d) (fun r=>iO g.nodes.length (gN g) f r at_ (d+1)) x.next) ?_ x.next.length _ _ ⟨rfl,bB.refl _ _,0,[],by omega,by rw[Bg];omega,by simp,by simp only[↓aB,aA,rE,↓reduceIte],by simp only[↓aB,aA,rE,↓reduceIte],by simp only[↓aB,aA,rE,↓reduceIte],by simp only[↓aB,aA,rE,↓reduceIte],by simp only[↓aB,aA,rE,↓reduceIte];rfl,by simp only[↓aB,aA,rE,↓reduceIte],c2⟩)) ?_
  ·rintro k ⟨F,inr⟩ X ⟨q0,hX,j,L,hjk,hL20,hkid,p1,p2,p3,p4,p9,p10,hdX⟩;simp only at q0 p1 p2 p3 p4 p9 p10;subst q0;have hbX:=b2.trans hX;have hSX:Same S0 X:=bB.same hS hbX hdb;have gbX:X.h.get S.nx=some (.cells [.int .i64 g.players,nv,iv] false 0):=by rw[hX.2 _ (by omega) (by omega)];exact gb2
   obtain⟨e,b,q,hia,hb,he,⟨a,bb,cc,rfl,ha,_,_⟩,_,hlf⟩:=aQ.at (aQ.same (E:=cC) bR hn hSX) (by decide) hx;have hl3:=hlf 3 a rfl;refine fY ?_;simp only[↓aB,aA,rE,↓reduceIte,p1,p4,p10,aE,aD,aI3 gbX,aG,hia,hl3,ha.len,Ai];by_cases hj:j<x.next.length
   ·refine aN (by simp only[↓aB,aA,rE,↓reduceIte,Ab (show(j:Int)<((x.next.length:Nat):Int) by omega)]) (aI ?_);try simp only[↓aB,aA,rE,↓reduceIte]
    have hias:=ha.iaddr hj;have hlds:=ha.ld hj;have hdrop:x.next.drop j=x.next[j]::x.next.drop (j+1):=Db hj;have hgd:x.next.getD j 0=x.next[j]:=by rw[Ag,Ad hj];rfl
    rw[hgd] at hlds;rw[hdrop] at hkid;generalize x.next[j]=c at *;refine aC (aK (aC (aC (aF ?_))));simp only[↓aB,aA,rE,↓reduceIte,p1,p4,p9,p10,aE,aD,aI3 gbX,aG,hia,hl3,hias,hlds];by_cases hc:c=((at_+1+L.length:Nat):Int);rotate_left
    ·refine aN (by simp only[↓aB,aA,rE,↓reduceIte,Ab (show c≠((at_+1+L.length:Nat):Int) from hc)]) ?_;refine bL ?_;simp only[↓aB,aA,rE,↓reduceIte];refine aR ?_;simp only[↓aB,aA,rE,↓reduceIte];refine .inr ⟨hX,?_,rfl,_,hdX⟩;rw[hkid];simp only[lF,if_neg hc];rfl
    refine aL (by simp only[↓aB,aA,rE,↓reduceIte,Aa (show ¬c≠((at_+1+L.length:Nat):Int) from fun h=>h hc)]) (aI ?_);try simp only[↓aB,aA,rE,↓reduceIte]
    simp only[lF,if_pos hc] at hkid;have hr:at_+1+L.length≤3000:=by omega
    refine bL ?_;simp only[↓aB,aA,rE,↓reduceIte,p2,p3,p4,p9,ld3 gbX,w2];refine aY ?_;simp only[↓aB,aA,rE,↓reduceIte];refine aO (ih (S:=X) (at_:=at_+1+L.length) (p:=at_) (d:=d+1) (by omega) (by omega) (by omega) hr hlen hSX (Ae hlt hbX.1) hdX) ?_;rintro r Y ⟨hY,hres⟩;cases hw:iO g.nodes.length (gN g) f (at_+1+L.length) at_ (d+1) with
    | none=>
     rw[hw] at hres hkid;obtain⟨rfl,hz⟩:=hres;try simp only[↓aB,aA,rE,↓reduceIte]
     refine bL ?_;simp only[↓aB,aA,rE,↓reduceIte];refine aN (by simp only[↓aB,aA,rE,↓reduceIte];rfl) ?_;refine bL ?_;simp only[↓aB,aA,rE,↓reduceIte];refine aR ?_;simp only[↓aB,aA,rE,↓reduceIte];refine .inr ⟨hX.trans hY,?_,rfl,hz⟩;rw[hkid];rfl
    | some L1=>
     rw[hw] at hres hkid;obtain⟨rfl,hdY⟩:=hres;have hwl:=(yE hw).1;simp only[Option.bind_some,Option.map_map] at hkid;try simp only[↓aB,aA,rE,↓reduceIte]
     refine bL ?_;simp only[↓aB,aA,rE,↓reduceIte];refine aL (by simp only[↓aB,aA,rE,↓reduceIte,Aa (show ¬ ((at_+1+L.length+L1.length:Nat):Int)<0 by omega)]) (aI ?_);try simp only[↓aB,aA,rE,↓reduceIte]
     refine aF ?_;have w3:IntKind.i64.wrap ((j:Int)+1)=((j+1:Nat):Int):=by rw[wrap_i64 (by omega) (by omega)];omega
     simp only[↓aB,aA,rE,↓reduceIte,p10,w3];refine⟨k - 1,by omega,rfl,hX.trans hY,j+1,L++L1,by omega,by rw[Al];omega,?_,by simp only[↓aB,aA,rE,↓reduceIte,p1],by simp only[↓aB,aA,rE,↓reduceIte,p2],by simp only[↓aB,aA,rE,↓reduceIte,p3],by simp only[↓aB,aA,rE,↓reduceIte,p4],by simp only[↓aB,aA,rE,↓reduceIte,Al];congr 1;omega,by simp only[↓aB,aA,rE,↓reduceIte],?_⟩
     ·rw[hkid,Al,←Ck];congr 1;funext M;simp
     ·rw[aGE];exact hdY
   ·refine aL (by simp only[↓aB,aA,rE,↓reduceIte,Aa (show ¬ (j:Int)<((x.next.length:Nat):Int) by omega)]) (bD ?_);simp only[↓aB,aA,rE,↓reduceIte];have hk0:k=0:=by omega
    subst hk0;exact .inl ⟨rfl,hX,j,L,hjk,hL20,hkid,by simp only[↓aB,aA,rE,↓reduceIte,p1],by simp only[↓aB,aA,rE,↓reduceIte,p2],by simp only[↓aB,aA,rE,↓reduceIte,p3],by simp only[↓aB,aA,rE,↓reduceIte,p4],by simp only[↓aB,aA,rE,↓reduceIte,p9],by simp only[↓aB,aA,rE,↓reduceIte,p10],hdX⟩
  rintro o ⟨F,inr⟩ X (⟨rfl,q0,hX,j,L,hjk,hL20,hkid,p1,p2,p3,p4,p9,p10,hdX⟩ | ⟨rfl,hX,hno,p8,hz⟩)
  ·simp only at q0 p9;subst q0;rw[Dc (by omega)] at hkid;simp only[lF,Eu,Cv] at hkid;rw[hkid];try simp only[↓aB,aA,rE,↓reduceIte]
   refine bL ?_;simp only[↓aB,aA,rE,↓reduceIte,p9];refine aR ?_;simp only[↓aB,aA,rE,↓reduceIte];refine⟨b2.trans hX,?_,?_⟩
   ·congr 1;simp;omega
   ·exact hdX
  ·rw[hno];simp only at p8;simp only[↓aB,aA,rE,↓reduceIte,p8];exact⟨b2.trans hX,rfl,hz⟩
def bF(l:List Int):List AV:=l.map (AV.int .i64)
theorem aDY(l:List Int):(bF l).length=l.length:=by simp [bF]
theorem mC{S S':St}(h:Same S S'){b p n:Nat}{agg:Bool}(hb:b<S.nx):cE (.ptr b p) agg n S'.h=cE (.ptr b p) agg n S.h:=by
 have e:=uW h hb;simp only[cE,mO,wQ,jL,e]
theorem vT{S:St}{b p:Nat}{w:Int}{l:List Int}{o:Bool}{sz:Nat}(h:S.h.get b=some (.cells (bF l) o sz))(hp:p<l.length):kN (.ptr b p) 1 [.int .i64 w] S=some (.undef,⟨S.h.set b (some (.cells (bF (l.set p w)) o sz)),S.nx⟩):=by
 have hput:put (bF l) p [AV.int .i64 w]=some (bF (l.set p w)):=by
  rw[put_eq,if_pos (by rw[aDY];simp;omega)];congr 1;unfold bF;rw[List.map_set,List.set_eq_take_append_cons_drop,if_pos (by simp;omega)];simp
 simp only[kN,oT,h,aM,wA,hput];rfl
theorem iU{S:St}{b N sz:Nat}{l:List Int}{o:Bool}(h:S.h.get b=some (.cells (bF l) o sz))(hb:b<S.nx)(hl:l.length=N):bI .i64 S (.sl b 0 N N false) l:=by
 subst hl;refine .inr ⟨b,0,l.length,false,bF l,rfl,Ah _,hb,by unfold cK;rw[h];rfl,fun i x hi=>?_⟩;rw[Av];unfold bF;rw[Bc,hi];rfl
theorem eO{b N i:Nat}{o:Bool}(hi:i<N):eJ (.slice 1) (.sl b 0 N N o) i=some (.ptr b i):=ia8 hi
theorem aBW{W:Nat→Prop}{h0:T AB}{base m i:Nat}{l:List AO}{F:Fr}{S:St}{last:Option Nat}{Q:Fr→St→List jQ→Prop}{x v:cF}{b p sz:Nat}{w:Int}{P:List Int}{o:Bool}(h:mE last m=true)(hx:x.val F= .ptr b p)(hv:v.val F= .int .i64 w)(hb:S.h.get b=some (.cells (bF P) o sz))(hp:p<P.length)(hW:W b)
  (hr:∀S1,bB b S S1→S1.nx=S.nx→S1.h.get b=some (.cells (bF (P.set p w)) o sz)→fS fns W h0 base l (i+1) F S1 [] (some i) Q):fS fns W h0 base (⟨none,.x (.st 1 x v),none,m⟩::l) i F S [] last Q:=by
 have hS:bB b S ⟨S.h.set b (some (.cells (bF (P.set p w)) o sz)),S.nx⟩:=(bB.refl b S).put _;refine uN (S1:=⟨S.h.set b (some (.cells (bF (P.set p w)) o sz)),S.nx⟩) h ?_ ⟨Ah _,fun c hc hw=>?_⟩ (hr _ hS rfl ?_)
 ·rw[hv,cH,aM,hx];exact vT (S:=S) hb hp
 ·simp only;rw[T.get_set,if_neg (show ¬c=b from fun e=>hw (by rw[e];exact hW))];rfl
 ·simp only;rw[T.get_set,if_pos rfl]
def wM(T:List fK)(a j:Nat):Option fK:=if a≤j then T[j - a]? else none
def gK(sel:fK→Int)(P P':List Int)(T:List fK)(a:Nat):Prop:=P'.length=P.length∧∀j,P'.getD j 0=((wM T a j).map sel).getD (P.getD j 0)
theorem gK.nil(sel:fK→Int)(P:List Int)(a:Nat):gK sel P P [] a:=⟨rfl,fun j=>by unfold wM;split<;>simp⟩
theorem aM7{T:List fK}{a j:Nat}{t:fK}(h:wM T a j=some t):a≤j∧j<a+T.length:=by
 unfold wM at h;split at h
 ·have:=(Af.1 h).1;omega
 ·cases h
theorem aJK{T:List fK}{a j:Nat}(h:j<a∨a+T.length≤j):wM T a j=none:=by
 unfold wM;split
 ·exact Ci (by omega)
 ·rfl
theorem aCn(T T':List fK)(a j:Nat):wM (T++T') a j=(wM T a j).or (wM T' (a+T.length) j):=by
 unfold wM;by_cases h:a≤j
 ·rw[if_pos h,if_pos h,Di];by_cases h1:j - a<T.length
  ·rw[if_pos h1,if_neg (by omega),Ad h1];rfl
  ·rw[if_neg h1,if_pos (by omega),Ci (l:=T) (i:=j - a) (by omega),show j - a - T.length=j - (a+T.length) by omega];rfl
 ·rw[if_neg h,if_neg h,if_neg (by omega)];rfl
theorem gK.append{sel:fK→Int}{P P1 P2:List Int}{T T':List fK}{a:Nat}(h1:gK sel P P1 T a)(h2:gK sel P1 P2 T' (a+T.length)):gK sel P P2 (T++T') a:=by
 refine⟨h2.1.trans h1.1,fun j=>?_⟩;rw[h2.2,h1.2,aCn];cases hc:wM T a j with
 | none=>rfl
 | some t=>
  have:=aM7 hc;rw[aJK (by omega)];rfl
theorem dR{P:List Int}{i j:Nat}{v:Int}(hi:i<P.length):(P.set i v).getD j 0=if j=i then v else P.getD j 0:=by
 rw[Ag,Dm];by_cases h:i=j
 ·subst h;rw[if_pos rfl,if_pos rfl,if_pos hi];rfl
 ·rw[if_neg h,if_neg (Cp h),Ag]
theorem aHq(t:fK)(a j:Nat):wM [t] a j=if j=a then some t else none:=by
 unfold wM;by_cases h:j=a
 ·subst h;simp
 ·rw[if_neg h];split
  ·exact Ci (by simp;omega)
  ·rfl
theorem gK.one{sel:fK→Int}{P:List Int}{t:fK}{a:Nat}{v:Int}(ha:a<P.length)(hv:sel t=v):gK sel P (P.set a v) [t] a:=by
 refine⟨Be ..,fun j=>?_⟩;rw[dR ha,aHq];by_cases h:j=a
 ·rw[if_pos h,if_pos h,←hv];rfl
 ·rw[if_neg h,if_neg h];rfl
theorem gK.late{sel:fK→Int}{P P1:List Int}{t:fK}{L:List fK}{a:Nat}{v:Int}(h:gK sel P P1 L (a+1))(ha:a<P.length)(hv:sel t=v):gK sel P (P1.set a v) (t::L) a:=by
 refine⟨by rw[Be];exact h.1,fun j=>?_⟩;rw[dR (by rw[h.1];exact ha),h.2];have e:wM (t::L) a j=(wM [t] a j).or (wM L (a+1) j):=aCn [t] L a j;rw[e,aHq];by_cases hj:j=a
 ·rw[if_pos hj,if_pos hj,←hv];rfl
 ·rw[if_neg hj,if_neg hj];rfl
structure WK(S:St)(wb pb db lb N:Nat)(ps:Int)(nv iv:AV)(P D L:List Int):Prop where
 w:aAX S wb ps nv iv (.sl pb 0 N N false) (.sl db 0 N N false) (.sl lb 0 N N false)
 gp:S.h.get pb=some (.cells (bF P) false 0)
 gd:S.h.get db=some (.cells (bF D) false 0)
 gl:S.h.get lb=some (.cells (bF L) false 0)
 lp:P.length=N
 ld:D.length=N
 ll:L.length=N
 bp:pb<S.nx
 bd:db<S.nx
 bl:lb<S.nx
def zR(pb db lb:Nat)(S S':St):Prop:=S.nx≤S'.nx∧∀c,c<S.nx→c≠pb→c≠db→c≠lb→S'.h.get c=S.h.get c
theorem zR.refl(pb db lb:Nat)(S:St):zR pb db lb S S:=⟨Ah _,fun _ _ _ _ _=>rfl⟩
theorem zR.trans{pb db lb:Nat}{S S' S'':St}(h:zR pb db lb S S')(h':zR pb db lb S' S''):zR pb db lb S S'':=⟨Ba h.1 h'.1,fun c hc h1 h2 h3=>(h'.2 c (Ae hc h.1) h1 h2 h3).trans (h.2 c hc h1 h2 h3)⟩
theorem zR.same{pb db lb:Nat}{S0 S S':St}(h0:Same S0 S)(h:zR pb db lb S S')(h1:S0.nx≤pb)(h2:S0.nx≤db)(h3:S0.nx≤lb):Same S0 S':=⟨Ba h0.1 h.1,fun c hc=>(h.2 c (Ae hc h0.1) (by omega) (by omega) (by omega)).trans (h0.2 c hc)⟩
def aPk(S0 S:St)(wb pb db lb:Nat)(ps:Int)(nv iv:AV)(g:bC)(P D L:List Int)(at_:Nat)(o:Option (List fK))(r:AV)(S':St):Prop:=
 zR pb db lb S S'∧∃P' D' L',WK S' wb pb db lb g.nodes.length ps nv iv P' D' L'∧match o with
 | some T=>(∃v,r= .tup [v,.bool true]∧aQ 6 cC S0 v (g.nodes.drop (at_+T.length)))∧gK (·.1) P P' T at_∧gK (·.2.1) D D' T at_∧gK (·.2.2) L L' T at_
 | none=>r= .tup [.nilsl,.bool false]
def aPf(S0 S2:St)(wb pb db lb:Nat)(ps:Int)(nv iv a:AV)(g:bC)(P D L:List Int)(at_:Nat)(d:Int)(rec:Nat→Option (List fK))(ks:List Int)(k:Nat)(A:bH)(X:St):Prop:=
 A.inr=false∧zR pb db lb S2 X∧∃ (j:Nat) (T:List fK) (P' D' L':List Int) (v:AV),j+k=ks.length∧at_+1+T.length≤g.nodes.length∧lF rec ks (at_+1)=(lF rec (ks.drop j) (at_+1+T.length)).map (T++ ·)∧
  WK X wb pb db lb g.nodes.length ps nv iv P' D' L'∧gK (·.1) P P' T (at_+1)∧gK (·.2.1) D D' T (at_+1)∧gK (·.2.2) L L' T (at_+1)∧aQ 6 cC S0 v (g.nodes.drop (at_+1+T.length))∧
  aH 0 A.F= .ptr wb 0∧aH 2 A.F= .int .i64 d∧aH 10 A.F= .int .i64 (at_:Int)∧aH 11 A.F=v∧aH 46 A.F=a∧aH 47 A.F= .int .i64 ((ks.length:Nat):Int)∧aH 48 A.F= .int .i64 (j:Int)
theorem aJs{S0:St}{nv iv:AV}{g:bC}{wb pb db lb:Nat}{ps:Int}(H:Has fns)(hG:aQ 6 cC S0 nv g.nodes)(hwb:S0.nx≤wb)(hpb:S0.nx≤pb)(hdb:S0.nx≤db)(hlb:S0.nx≤lb)(ne1:pb≠db)(ne2:pb≠lb)(ne3:db≠lb)(ne4:wb≠pb)(ne5:wb≠db)(ne6:wb≠lb)(hN:g.nodes.length≤2000)(hlen:∀x∈g.nodes,x.next.length≤1000):
  ∀ (f:Nat) {S:St} {at_:Nat} {p d:Int} {rv:AV} {P D L:List Int},g.nodes.length+1 - at_≤f→0≤d→d≤at_→at_≤g.nodes.length→Same S0 S→WK S wb pb db lb g.nodes.length ps nv iv P D L→aQ 6 cC S0 rv (g.nodes.drop at_)→
  fB fns (.fn 64 [] []) [.ptr wb 0,.int .i64 p,.int .i64 d,rv] S fun r S'=>aPk S0 S wb pb db lb ps nv iv g P D L at_ (iO g.nodes.length (gN g) f at_ p d) r S':=by
 intro f
 induction f with
 | zero=>intro S at_ p d rv P D L hf hd0 hd hat;omega
 | succ f ih=>
  intro S at_ p d rv P D L hf hd0 hd hat hS hK hrv;have hrl:=hrv.len;rw[Dl] at hrl;refine bN H.f64 (by simp) ?_;simp only[↓sU,sD,rE,↓reduceIte,rA];refine bL ?_;simp only[↓sU,sD,rE,↓reduceIte,rA];refine fY ?_;simp only[↓sU,sD,rE,↓reduceIte,rA,hrl];by_cases hlt:at_<g.nodes.length;rotate_left
  ·refine aN (by simp only[↓sU,sD,rE,↓reduceIte,rA,Ab (show((g.nodes.length - at_:Nat):Int)=0 by omega)]) ?_;refine bL ?_;simp only[↓sU,sD,rE,↓reduceIte,rA];refine aR ?_;simp only[↓sU,sD,rE,↓reduceIte,rA];simp only[iO,if_neg hlt];exact⟨zR.refl _ _ _ _,P,D,L,hK,rfl⟩
  refine aL (by simp only[↓sU,sD,rE,↓reduceIte,rA,Aa (show ¬ ((g.nodes.length - at_:Nat):Int)=0 by omega)]) (aI ?_);try simp only[↓sU,sD,rE,↓reduceIte,rA]
  obtain⟨x,hx⟩:∃x,g.nodes[at_]? =some x:=⟨_,Ad hlt⟩;have hnx:=aD2 hx;have hxl:=hlen x (Ao hx);have hnl:=hG.len;have hdrop:g.nodes.drop at_=x::g.nodes.drop (at_+1):=by
   rw[Db hlt];congr 1;rw[Ad hlt] at hx;exact Cd hx
  rw[hdrop] at hrv;have w1:IntKind.i64.wrap (((g.nodes.length:Nat):Int) - ((g.nodes.length - at_:Nat):Int))=(at_:Int):=by rw[wrap_i64 (by omega) (by omega)];omega
  refine bL ?_;simp only[↓sU,sD,rE,↓reduceIte,rA,cS,cQ,aE,aD,cO hK.w.1,hnl,hrl,w1];have wlt:=hK.w.2;have hwn:¬ (wb=pb∨wb=db):=by omega
  refine aC (dM (fun b=>b=pb∨b=db) ?_);intro S1 s1;have hia1:=eO (b:=pb) (o:=false) hlt;have hia2:=eO (b:=db) (o:=false) hlt;simp only[↓sU,sD,rE,↓reduceIte,rA,cS,dC,cQ,aE,aW,aD,dD hK.w.1,dH hK.w.1,wlt,hwn,An,hia1,hia2];have l1:=s1.1;have bp:=hK.bp;have bd:=hK.bd;have bl:=hK.bl;refine aBW (p:=at_) (w:=p) rfl (by simp only[↓sU,sD,rE,↓reduceIte,rA]) (by simp only[↓sU,sD,rE,↓reduceIte,rA]) (by rw[s1.2 _ hK.bp];exact hK.gp) (by rw[hK.lp];exact hlt) (.inl rfl) ?_;intro S2 s2 n2 c2;simp only[↓sU,sD,rE,↓reduceIte,rA,hia2];refine aBW (p:=at_) (w:=d) (show Nat.testBit 32767 13=true by decide) (by simp only[↓sU,sD,rE,↓reduceIte,rA]) (by simp only[↓sU,sD,rE,↓reduceIte,rA]) (by rw[s2.2 _ (by omega) (Cp ne1),s1.2 _ hK.bd];exact hK.gd) (by rw[hK.ld];exact hlt) (.inr rfl) ?_;intro S3 s3 n3 c3;simp only[↓sU,sD,rE,↓reduceIte,rA];have b3:zR pb db lb S S3:=⟨by omega,fun c hc h1 h2 h3=>by rw[s3.2 _ (by omega) h2,s2.2 _ (by omega) h1,s1.2 _ hc]⟩;have hS3:Same S0 S3:=b3.same hS hpb hdb hlb;have hK3:WK S3 wb pb db lb g.nodes.length ps nv iv (P.set at_ p) (D.set at_ d) L:=⟨⟨by rw[b3.2 _ wlt ne4 ne5 ne6];exact hK.w.1,Ae wlt b3.1⟩,by rw[s3.2 _ (by omega) ne1];exact c2,c3,by rw[s3.2 _ (by omega) (Cp ne3),s2.2 _ (by omega) (Cp ne2),s1.2 _ hK.bl];exact hK.gl,by rw[Be];exact hK.lp,by rw[Be];exact hK.ld,hK.ll,by omega,by omega,by omega⟩;obtain⟨rv',hslc,hrv'⟩:=aQ.tail hrv;have hsl1:∀F:Fr,rR (.slice 6) rv (some (.c (.int .i64 1))) none none F=some rv':=fun F=>hslc F _ rfl;refine bL ?_;simp only[↓sU,sD,rE,↓reduceIte,rA,hsl1];obtain⟨e,b,q,hia,hb,he,⟨a,bb,cc,rfl,ha,_,_⟩,_,hlf⟩:=aQ.at hrv (by decide) (i:=0) rfl;have hl3:=hlf 3 a rfl;rw[←mC hS3 hb] at hl3;refine fY ?_;simp only[↓sU,sD,rE,↓reduceIte,rA,aOo,hia,aE,aD,hl3,ha.len,Ai];have hW:iO g.nodes.length (gN g) (f+1) at_ p d=(lF (fun r=>iO g.nodes.length (gN g) f r at_ (d+1)) x.next (at_+1)).map fun L=>(p,d,((at_+L.length:Nat):Int))::L:=by
   simp only[iO,if_pos hlt,hnx]
  rw[hW];refine aT (Q:=fun o A' X=>(o= .normal∧aPf S0 S3 wb pb db lb ps nv iv a g (P.set at_ p) (D.set at_ d) L at_ d (fun r=>iO g.nodes.length (gN g) f r at_ (d+1)) x.next 0 A' X)∨(o= .ret∧zR pb db lb S3 X∧lF (fun r=>iO g.nodes.length (gN g) f r at_ (d+1)) x.next (at_+1)=none∧aH 8 A'.F= .nilsl∧aH 9 A'.F= .bool false∧∃P' D' L',WK X wb pb db lb g.nodes.length ps nv iv P' D' L')) (aK (bG (aPf S0 S3 wb pb db lb ps nv iv a g (P.set at_ p) (D.set at_ d) L at_ d (fun r=>iO g.nodes.length (gN g) f r at_ (d+1)) x.next) ?_ x.next.length _ _ ⟨rfl,zR.refl _ _ _ _,0,[],P.set at_ p,D.set at_ d,L,rv',by omega,by rw[Bg];omega,by simp,hK3,gK.nil _ _ _,gK.nil _ _ _,gK.nil _ _ _,hrv',by refine⟨?_,?_,?_,?_,?_,?_,?_⟩<;>simp only[↓sU,sD,rE,↓reduceIte,rA]⟩)) ?_
  ·rintro k ⟨F,inr⟩ X ⟨q0,hX,j,T,P',D',L',v,hjk,hTN,hkid,hKX,rP,rD,rL,hv,p0,p2,p10,p11,p46,p47,p48⟩;simp only at q0 p0 p2 p10 p11 p46 p47 p48;subst q0;have hSX:Same S0 X:=hX.same hS3 hpb hdb hlb;have haX:=ha.same hSX;have hvl:=hv.len;rw[Dl] at hvl;refine bL ?_;simp only[↓sU,sD,rE,↓reduceIte,rA,p47,p48];by_cases hj:j<x.next.length
   ·refine aC (aN (by simp only[↓sU,sD,rE,↓reduceIte,rA,Ab (show(j:Int)<((x.next.length:Nat):Int) by omega)]) (aI ?_));simp only[↓sU,sD,rE,↓reduceIte,rA];have hias:=haX.iaddr hj;have hlds:=haX.ld hj;have hdr:x.next.drop j=x.next[j]::x.next.drop (j+1):=Db hj;have hgd:x.next.getD j 0=x.next[j]:=by rw[Ag,Ad hj];rfl
    rw[hgd] at hlds;rw[hdr] at hkid;generalize x.next[j]=c at *;have w2:IntKind.i64.wrap (((g.nodes.length:Nat):Int) - ((g.nodes.length - (at_+1+T.length):Nat):Int))=((at_+1+T.length:Nat):Int):=by rw[wrap_i64 (by omega) (by omega)];omega
    have w3:IntKind.i64.wrap (d+1)=d+1:=wrap_i64 (by omega) (by omega);have w4:IntKind.i64.wrap ((j:Int)+1)=((j+1:Nat):Int):=by rw[wrap_i64 (by omega) (by omega)];omega
    refine aC (aK (aC (aF ?_)));simp only[↓sU,sD,rE,↓reduceIte,rA,p46,p48,aG,hias,hlds];refine fY ?_;simp only[↓sU,sD,rE,↓reduceIte,rA,p0,p11,cS,cQ,aE,aD,cO hKX.w.1,hnl,hvl,w2];by_cases hc:c=((at_+1+T.length:Nat):Int);rotate_left
    ·refine aN (by simp only[↓sU,sD,rE,↓reduceIte,rA,Ab (show c≠((at_+1+T.length:Nat):Int) from hc)]) ?_;refine bL ?_;simp only[↓sU,sD,rE,↓reduceIte,rA];refine aR ?_;simp only[↓sU,sD,rE,↓reduceIte,rA];refine .inr ⟨hX,?_,P',D',L',hKX⟩;rw[hkid];simp only[lF,if_neg hc];rfl
    refine aL (by simp only[↓sU,sD,rE,↓reduceIte,rA,Aa (show ¬c≠((at_+1+T.length:Nat):Int) from fun h=>h hc)]) (aI ?_);try simp only[↓sU,sD,rE,↓reduceIte,rA]
    simp only[lF,if_pos hc] at hkid;refine bL ?_;simp only[↓sU,sD,rE,↓reduceIte,rA,p0,p2,p10,p11,w3];refine aY ?_;simp only[↓sU,sD,rE,↓reduceIte,rA];refine aO (ih (S:=X) (at_:=at_+1+T.length) (p:=at_) (d:=d+1) (by omega) (by omega) (by omega) hTN hSX hKX hv) ?_;rintro r Y ⟨hY,P2,D2,L2,hKY,hres⟩;cases hw:iO g.nodes.length (gN g) f (at_+1+T.length) at_ (d+1) with
    | none=>
     rw[hw] at hres hkid;subst hres;simp only[↓sU,sD,rE,↓reduceIte,rA,ex0,ex1];refine bL ?_;simp only[↓sU,sD,rE,↓reduceIte,rA,eC,Bk];refine aN (by simp only[↓sU,sD,rE,↓reduceIte,rA]) ?_;refine bL ?_;simp only[↓sU,sD,rE,↓reduceIte,rA];refine aR ?_;simp only[↓sU,sD,rE,↓reduceIte,rA];refine .inr ⟨hX.trans hY,?_,P2,D2,L2,hKY⟩;rw[hkid];rfl
    | some T1=>
     rw[hw] at hres hkid;obtain⟨⟨v2,rfl,hv2⟩,k1,k2,k3⟩:=hres;simp only[Option.bind_some,Option.map_map] at hkid;have hwl:=(yE hw).1;simp only[↓sU,sD,rE,↓reduceIte,rA,ex0,ex1];refine bL ?_;simp only[↓sU,sD,rE,↓reduceIte,rA,eC,Bd];refine aL (by simp only[↓sU,sD,rE,↓reduceIte,rA]) (aI ?_);try simp only[↓sU,sD,rE,↓reduceIte,rA]
     refine aF ?_;simp only[↓sU,sD,rE,↓reduceIte,rA,p48,w4];refine⟨k - 1,by omega,rfl,hX.trans hY,j+1,T++T1,P2,D2,L2,v2,by omega,by rw[Al];omega,?_,hKY,rP.append k1,rD.append k2,rL.append k3,by rw[Al,←Ck];exact hv2,by refine⟨?_,?_,?_,?_,?_,?_,?_⟩<;>simp only[↓sU,sD,rE,↓reduceIte,rA,p0,p2,p10,p46,p47]⟩;rw[hkid,Al,←Ck];congr 1;funext M;simp
   ·refine aC (aL (by simp only[↓sU,sD,rE,↓reduceIte,rA,Aa (show ¬ (j:Int)<((x.next.length:Nat):Int) by omega)]) (bD ?_));simp only[↓sU,sD,rE,↓reduceIte,rA];have hk0:k=0:=by omega
    subst hk0;exact .inl ⟨rfl,hX,j,T,P',D',L',v,hjk,hTN,hkid,hKX,rP,rD,rL,hv,by refine⟨?_,?_,?_,?_,?_,?_,?_⟩<;>simp only[↓sU,sD,rE,↓reduceIte,rA,p0,p2,p10,p11,p46,p47,p48]⟩
  rintro o ⟨F,inr⟩ X (⟨rfl,q0,hX,j,T,P',D',L',v,hjk,hTN,hkid,hKX,rP,rD,rL,hv,p0,p2,p10,p11,p46,p47,p48⟩ | ⟨rfl,hX,hno,p8,p9,P',D',L',hKX⟩);rotate_left
  ·rw[hno];simp only at p8 p9;simp only[↓sU,sD,rE,↓reduceIte,rA,p8,p9];exact⟨b3.trans hX,P',D',L',hKX,rfl⟩
  simp only at q0 p0 p10 p11;subst q0;rw[Dc (by omega)] at hkid;simp only[lF,Eu,Cv] at hkid;rw[hkid];have hvl:=hv.len;rw[Dl] at hvl;have w2:IntKind.i64.wrap (((g.nodes.length:Nat):Int) - ((g.nodes.length - (at_+1+T.length):Nat):Int))=((at_+1+T.length:Nat):Int):=by rw[wrap_i64 (by omega) (by omega)];omega
  have w5:IntKind.i64.wrap (((at_+1+T.length:Nat):Int) - 1)=((at_+T.length:Nat):Int):=by rw[wrap_i64 (by omega) (by omega)];omega
  have wltX:=hKX.w.2;have hia3:=eO (b:=lb) (o:=false) hlt;try simp only[↓sU,sD,rE,↓reduceIte,rA]
  refine aC (dM (fun b=>b=lb) ?_);intro S4 s4;simp only[↓sU,sD,rE,↓reduceIte,rA,p0,p10,p11,cS,dC,cQ,aE,aW,aD,cO hKX.w.1,dE hKX.w.1,hnl,hvl,w2,w5,wltX,ne6,An,hia3,aQ.self hG];have l4:=s4.1;have bpX:=hKX.bp;have bdX:=hKX.bd;have blX:=hKX.bl;refine aBW (p:=at_) (w:=((at_+T.length:Nat):Int)) rfl (by simp only[↓sU,sD,rE,↓reduceIte,rA]) (by simp only[↓sU,sD,rE,↓reduceIte,rA]) (by rw[s4.2 _ hKX.bl];exact hKX.gl) (by rw[hKX.ll];exact hlt) rfl ?_;intro S5 s5 n5 c5;simp only[↓sU,sD,rE,↓reduceIte,rA];have b5:zR pb db lb X S5:=⟨by omega,fun c hc h1 h2 h3=>by rw[s5.2 _ (by omega) h3,s4.2 _ hc]⟩;refine bL ?_;simp only[↓sU,sD,rE,↓reduceIte,rA,p11];refine aR ?_;simp only[↓sU,sD,rE,↓reduceIte,rA];have hatP:at_<P.length:=by rw[hK.lp];exact hlt
  have hatD:at_<D.length:=by rw[hK.ld];exact hlt
  have hatL:at_<L.length:=by rw[hK.ll];exact hlt
  refine⟨b3.trans (hX.trans b5),P',D',L'.set at_ ((at_+T.length:Nat):Int),⟨⟨by rw[b5.2 _ wltX ne4 ne5 ne6];exact hKX.w.1,Ae wltX b5.1⟩,by rw[s5.2 _ (by omega) ne2,s4.2 _ hKX.bp];exact hKX.gp,by rw[s5.2 _ (by omega) ne3,s4.2 _ hKX.bd];exact hKX.gd,c5,hKX.lp,hKX.ld,by rw[Be];exact hKX.ll,by show _<S5.nx;omega,by show _<S5.nx;omega,by show _<S5.nx;omega⟩,⟨v,rfl,?_⟩,?_,?_,?_⟩
  ·rw[Am,show at_+(T.length+1)=at_+1+T.length by omega];exact hv
  ·exact gK.append (T:=[(p,d,((at_+T.length:Nat):Int))]) (gK.one hatP rfl) rP
  ·exact gK.append (T:=[(p,d,((at_+T.length:Nat):Int))]) (gK.one hatD rfl) rD
  ·exact gK.late rL hatL rfl
end Go.Ev.Gl
