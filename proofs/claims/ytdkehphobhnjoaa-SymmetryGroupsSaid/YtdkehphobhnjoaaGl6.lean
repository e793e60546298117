import Derived.Test.YtdkehphobhnjoaaGl5
open Nat renaming reduceEqDiff → rE, reduceAdd → rA
set_option maxHeartbeats 16000000
set_option linter.unusedSimpArgs false
set_option linter.unusedVariables false
namespace Go.Ev.Gl
variable {fns:T dE}
structure dW where
 kind:Int
 player:Int
 info:Int
 next:List Int
 weights:List Int
 pay:List Int
structure aBH where
 player:Int
 actions:Int
structure aW where
 players:Int
 nodes:List dW
 infos:List aBH
def gE(lo hi:Int)(l:List Int):Prop:=∃w∈l,w<lo∨hi<w
instance anyOutDec(lo hi:Int)(l:List Int):Decidable (gE lo hi l):=by unfold gE;exact inferInstance
def kT(x:dW):Prop:=x.player≠0∨x.info≠0∨(0:Int)<((x.pay.length:Nat):Int)∨((x.next.length:Nat):Int)<1∨(60:Int)<((x.next.length:Nat):Int)∨((x.weights.length:Nat):Int)≠((x.next.length:Nat):Int)
def sK(x:dW):Prop:=(0:Int)<((x.weights.length:Nat):Int)∨(0:Int)<((x.pay.length:Nat):Int)∨((x.next.length:Nat):Int)<1∨(10:Int)<((x.next.length:Nat):Int)
def lD(ps:Int)(x:dW):Prop:=x.player≠0∨x.info≠0∨(0:Int)<((x.next.length:Nat):Int)∨(0:Int)<((x.weights.length:Nat):Int)∨((x.pay.length:Nat):Int)≠ps
instance badCDec(x:dW):Decidable (kT x):=by unfold kT;exact inferInstance
instance badMDec(x:dW):Decidable (sK x):=by unfold sK;exact inferInstance
instance badEDec(ps:Int)(x:dW):Decidable (lD ps x):=by unfold lD;exact inferInstance
def fM(ps:Int)(ni:Nat)(x:dW):Int:=
 if x.kind=1 then(if kT x then 3 else if gE 1 1000 x.weights then 2 else 0)
 else if x.kind=2 then(if sK x then 3 else if x.player<0∨ps - 1<x.player∨x.info<0∨(ni:Int) - 1<x.info then 2 else 0)
 else if x.kind=3 then(if lD ps x then 3 else if gE (-1000000) 1000000 x.pay then 2 else 0)
 else 3
def bT(S:St)(cs:List AV)(x:dW):Prop:=∃a b c,cs= [.int .i64 x.kind,.int .i64 x.player,.int .i64 x.info,a,b,c]∧bN .i64 S a x.next∧bN .i64 S b x.weights∧bN .i64 S c x.pay
theorem bI:nY bT:=fun⟨a,b,c,h,h1,h2,h3⟩ hs=>⟨a,b,c,h,h1.same hs,h2.same hs,h3.same hs⟩
def cV(_:St)(cs:List AV)(x:aBH):Prop:=cs= [.int .i64 x.player,.int .i64 x.actions]
theorem cE:nY cV:=fun h _=>h
def aML(S:St)(v:AV)(g:aW):Prop:=∃n i,v= .agg [.int .i64 g.players,n,i]∧aN 6 bT S n g.nodes∧aN 2 cV S i g.infos
theorem ldc{h:T AB}{b j:Nat}{cs:List AV}{x:AV}{o:Bool}{s:Nat}(hb:h.get b=some (.cells cs o s))(hj:cs[j]? =some x):dT (.ptr b (0+j)) false 1 h=some x:=by
 simp only[dT,lG,aV,jW,cS,hb,aT,jS,kM,An,hj]
theorem pK{h:T AB}{b n:Nat}{cs:List AV}{o:Bool}{s:Nat}(hb:h.get b=some (.cells cs o s))(hn:cs.length=n):dT (.ptr b 0) true n h=some (.agg cs):=by
 subst hn;simp only[dT,lG,aQ,tC,cS,hb,aT,jS];unfold cut;rw[jX,kU,Dj,if_pos (Ah _),Ea];rfl
section
variable {h:T AB}{b:Nat}{x0 x1 x2 x3 x4 x5:AV}{o:Bool}{s:Nat}
theorem dK(hb:h.get b=some (.cells [x0,x1,x2,x3,x4,x5] o s)):dT (.ptr b (0+0)) false 1 h=some x0:=ldc hb rfl
theorem cT(hb:h.get b=some (.cells [x0,x1,x2,x3,x4,x5] o s)):dT (.ptr b (0+1)) false 1 h=some x1:=ldc hb rfl
theorem cQ(hb:h.get b=some (.cells [x0,x1,x2,x3,x4,x5] o s)):dT (.ptr b (0+2)) false 1 h=some x2:=ldc hb rfl
theorem cP(hb:h.get b=some (.cells [x0,x1,x2,x3,x4,x5] o s)):dT (.ptr b (0+3)) false 1 h=some x3:=ldc hb rfl
theorem cU(hb:h.get b=some (.cells [x0,x1,x2,x3,x4,x5] o s)):dT (.ptr b (0+4)) false 1 h=some x4:=ldc hb rfl
theorem dF(hb:h.get b=some (.cells [x0,x1,x2,x3,x4,x5] o s)):dT (.ptr b (0+5)) false 1 h=some x5:=ldc hb rfl
theorem ldN(hb:h.get b=some (.cells [x0,x1,x2,x3,x4,x5] o s)):dT (.ptr b 0) true 6 h=some (.agg [x0,x1,x2,x3,x4,x5]):=pK hb rfl
end
section
variable {k:Nat}{α:Type}{E:St→List AV→α→Prop}{S:St}{v:AV}{l:List α}
theorem aN.at(h:aN k E S v l)(hk:0<k){i:Nat}{a:α}(hi:l[i]? =some a):∃e b p,eU (.slice k) v i=some (.ptr b p)∧b<S.nx∧e.length=k∧E S e a∧dT (.ptr b p) true k S.h=some (.agg e)∧∀j x,e[j]? =some x→dT (.ptr b (p+j)) false 1 S.h=some x:=by
 obtain⟨e,b,p,h1,h2,h3,h4,cs,h5,h6⟩:=h.get hi;have hlt:=(Ai.1 hi).1;refine⟨e,b,p,by rw[←h1];exact h.iaddr hlt,h2,h3,h4,?_,fun j x hj=>?_⟩
 ·simp only[dT,lG,aQ,tC,h5,aT];have hcut:cut cs p k=some e:=by
   have hle:p+k≤cs.length:=by
    have:=h6 (k - 1) (e[k - 1]'(by omega)) (Ac (by omega));have:=(Ai.1 this).1;omega
   unfold cut;rw[jX,kU,if_pos (by rw[Da];omega)];congr 1;refine Ez (by rw[Ca,Da];omega) fun j j1 j2=>?_;have:=h6 j e[j] (Ac j2);rw[List.getElem_take,List.getElem_drop];exact(Ai.1 this).2
  rw[hcut,aT]
 ·simp only[dT,lG,aV,jW,h5,aT,kM];exact h6 j x hj
end
def tK(x:dW):Prop:=(0:Int)<((x.pay.length:Nat):Int)∨(0:Int)<((x.weights.length:Nat):Int)∨((x.next.length:Nat):Int)<1∨(10:Int)<((x.next.length:Nat):Int)
instance badMDec'(x:dW):Decidable (tK x):=by unfold tK;exact inferInstance
theorem aFe(x:dW):tK x↔sK x:=by unfold sK tK;omega
def aCs(ps:Int)(ni:Nat)(x:dW):Prop:=x.player<0∨ps≤x.player∨x.info<0∨((ni:Nat):Int)≤x.info
instance badRDec(ps:Int)(ni:Nat)(x:dW):Decidable (aCs ps ni x):=by unfold aCs;exact inferInstance
theorem aEU(ps:Int)(ni:Nat)(x:dW):aCs ps ni x↔(x.player<0∨ps - 1<x.player∨x.info<0∨(ni:Int) - 1<x.info):=by unfold aCs;omega
theorem tS{lo hi:Int}{l:List Int}{i:Nat}(hi':i<l.length)(h:¬gE lo hi (l.take i))(h2:¬ (l.getD i 0<lo∨hi<l.getD i 0)):¬gE lo hi (l.take (i+1)):=by
 rintro⟨w,hw,ho⟩;rw[Bi,Ac hi'] at hw;rcases Bv.1 hw with h1 | h1
 ·exact h ⟨w,h1,ho⟩
 ·simp at h1;rw[Ad,Ac hi'] at h2;subst h1;exact h2 ho
theorem wB{lo hi:Int}{l:List Int}{i:Nat}(hi':i<l.length)(h2:l.getD i 0<lo∨hi<l.getD i 0):gE lo hi l:=by
 rw[Ad,Ac hi'] at h2;exact⟨l[i],Bh hi',h2⟩
def aNu(S:St)(b t:Nat)(lo hi:Int)(l:List Int)(k:Nat)(A:bH)(X:St):Prop:=A.inr=false∧X=S∧∃i,i+k=l.length∧¬gE lo hi (l.take i)∧aD 3 A.F= .ptr b 0∧aD t A.F= .int .i64 (i:Int)
theorem aG1{S:St}{n i:AV}{ps:Int}{ni:Nat}{cs:List AV}{x:dW}(H:Has fns)(hx:bT S cs x)(hps:ps≤4)(hi:gW i=some (.int .i64 ((ni:Nat):Int))):fA fns (.fn 53 [] []) [.agg [.int .i64 ps,n,i],.agg cs] S fun r S'=>r= .int .i64 (fM ps ni x)∧Same S S':=by
 obtain⟨a,b,c,rfl,hn,hw,hp⟩:=hx;refine bP H.f53 (by simp) ?_;simp only[↓aC,aB,rE,↓reduceIte];refine bE ?_;refine dG (by simp only[↓aC,aB,rE,↓reduceIte];exact bJ _) ?_;intro S1 s1 n1 c1;refine dG (by simp only[↓aC,aB,rE,↓reduceIte];exact bJ _) ?_;intro S2 s2 n2 g3;simp only[↓aC,aB,rE,↓reduceIte];have g2:S2.h.get S.nx=some (.cells [.int .i64 ps,n,i] false 0):=by rw[s2.2 _ (by omega)];exact c1
 have sS:=s1.trans s2;have hneg:Int.negSucc 999999= -1000000:=rfl;have hn2:=hn.same sS;have hw2:=hw.same sS;have hp2:=hp.same sS;refine eG ?_;simp only[↓aC,aB,rE,↓reduceIte,aH,aG,dK g3];refine aJ (aA (aF ?_));simp only[↓aC,aB,rE,↓reduceIte];unfold fM;have fin:∀F:Fr,mA fns (.seq (.reg [oq 4 (.mv (ci 0))]) .ret) ⟨F,false⟩ S2 (aMw [.t 4] fun r S'=>r= .int .i64 0∧Same S S'):=fun F=>by
  refine bE ?_;simp only[↓aC,aB,rE,↓reduceIte];refine aO ?_;simp only[↓aC,aB,rE,↓reduceIte];exact sS
 by_cases k1:x.kind=1
 ·rw[if_pos k1];refine aM (by simp only[↓aC,aB,rE,↓reduceIte,Ab k1]) ?_;refine aA (aA (aS (Q:=fun o A' X=>o= .normal∧A'.inr=false∧X=S2∧aD 3 A'.F= .ptr S1.nx 0∧aD 45 A'.F= .bool (decide (kT x))) (aF ?_) ?_))
  ·by_cases c0:x.player≠0
   ·rw[Ab (show kT x from .inl c0)];simp only[↓aC,aB,rE,↓reduceIte,aH,aG,cT g3,cQ g3,cP g3,cU g3,dF g3,jC g2,iW g2,hn2.len,hw2.len,hp2.len,hi,Ag,Ab c0]
   by_cases c1:x.info≠0
   ·rw[Ab (show kT x from .inr (.inl c1))];simp only[↓aC,aB,rE,↓reduceIte,aH,aG,cT g3,cQ g3,cP g3,cU g3,dF g3,jC g2,iW g2,hn2.len,hw2.len,hp2.len,hi,Ag,Aa c0,Ab c1]
   by_cases c2:(0:Int)<((x.pay.length:Nat):Int)
   ·rw[Ab (show kT x from .inr (.inr (.inl c2)))];simp only[↓aC,aB,rE,↓reduceIte,aH,aG,cT g3,cQ g3,cP g3,cU g3,dF g3,jC g2,iW g2,hn2.len,hw2.len,hp2.len,hi,Ag,Aa c0,Aa c1,Ab c2]
   by_cases c3:((x.next.length:Nat):Int)<1
   ·rw[Ab (show kT x from .inr (.inr (.inr (.inl c3))))];simp only[↓aC,aB,rE,↓reduceIte,aH,aG,cT g3,cQ g3,cP g3,cU g3,dF g3,jC g2,iW g2,hn2.len,hw2.len,hp2.len,hi,Ag,Aa c0,Aa c1,Aa c2,Ab c3]
   by_cases c4:(60:Int)<((x.next.length:Nat):Int)
   ·rw[Ab (show kT x from .inr (.inr (.inr (.inr (.inl c4)))))];simp only[↓aC,aB,rE,↓reduceIte,aH,aG,cT g3,cQ g3,cP g3,cU g3,dF g3,jC g2,iW g2,hn2.len,hw2.len,hp2.len,hi,Ag,Aa c0,Aa c1,Aa c2,Aa c3,Ab c4]
   by_cases c5:((x.weights.length:Nat):Int)≠((x.next.length:Nat):Int)
   ·rw[Ab (show kT x from .inr (.inr (.inr (.inr (.inr (c5))))))];simp only[↓aC,aB,rE,↓reduceIte,aH,aG,cT g3,cQ g3,cP g3,cU g3,dF g3,jC g2,iW g2,hn2.len,hw2.len,hp2.len,hi,Ag,Aa c0,Aa c1,Aa c2,Aa c3,Aa c4,Ab c5]
   rw[Aa (show ¬kT x by rintro(h0 | h1 | h2 | h3 | h4 | h5)<;>first | exact c0 h0 | exact c1 h1 | exact c2 h2 | exact c3 h3 | exact c4 h4 | exact c5 h5)];simp only[↓aC,aB,rE,↓reduceIte,aH,aG,cT g3,cQ g3,cP g3,cU g3,dF g3,jC g2,iW g2,hn2.len,hw2.len,hp2.len,hi,Ag,Aa c0,Aa c1,Aa c2,Aa c3,Aa c4,Aa c5]
  rintro o ⟨F,inr⟩ X ⟨rfl,q0,hX,p3,pb⟩;simp only at q0 p3 pb;subst q0;rw[hX];try simp only[↓aC,aB,rE,↓reduceIte]
  by_cases bad:kT x
  ·rw[if_pos bad];refine aM (by simp only[↓aC,aB,rE,↓reduceIte,pb,Ab bad]) ?_;refine bE ?_;simp only[↓aC,aB,rE,↓reduceIte];refine aO ?_;simp only[↓aC,aB,rE,↓reduceIte];exact sS
  rw[if_neg bad];have hlen:x.weights.length≤60:=by unfold kT at bad;omega
  refine aK (by simp only[↓aC,aB,rE,↓reduceIte,pb,Aa bad]) (aI ?_);try simp only[↓aC,aB,rE,↓reduceIte]
  refine bE ?_;simp only[↓aC,aB,rE,↓reduceIte];refine aJ (bB (aNu S2 S1.nx 5 1 1000 x.weights) ?_ x.weights.length _ _ ⟨rfl,rfl,0,by omega,(by rintro⟨w,h,_⟩;simp at h),by refine⟨?_,?_⟩<;>simp only[↓aC,aB,rE,↓reduceIte,p3]⟩);clear p3 pb;rintro k ⟨F,inr⟩ X ⟨q0,hX,j,hjk,ha,p3,pt⟩;simp only at q0 p3 pt;subst q0;rw[hX];refine eG ?_;simp only[↓aC,aB,rE,↓reduceIte,pt,p3,aH,aG,cU g3,hw2.len,Ag];by_cases hj:j<x.weights.length
  ·refine aM (by simp only[↓aC,aB,rE,↓reduceIte,Ab (show(j:Int)<((x.weights.length:Nat):Int) by omega)]) (aI ?_);try simp only[↓aC,aB,rE,↓reduceIte]
   have hia:=hw2.iaddr hj;have hld:=hw2.ld hj;have htk:=tS (lo:=1) (hi:=1000) hj ha;have hget:=wB (lo:=1) (hi:=1000) hj;generalize x.weights.getD j 0=w at *;have w1:IntKind.i64.wrap ((j:Int)+1)=((j+1:Nat):Int):=by
    rw[wrap_i64 (by omega) (by omega)];omega
   refine aA (aJ (aA (aS (Q:=fun o A' X=>o= .normal∧A'.inr=false∧X=S2∧aD 3 A'.F= .ptr S1.nx 0∧aD 5 A'.F= .int .i64 (j:Int)∧aD 66 A'.F= .bool (decide (w<1∨1000<w))) (aF ?_) ?_)))
   ·by_cases h1:w<1
    ·rw[Ab (show w<1∨1000<w from .inl h1)];simp only[↓aC,aB,rE,↓reduceIte,pt,p3,aH,aG,cU g3,aE,hia,hld,hneg,Ab h1]
    ·by_cases h2:1000<w
     ·rw[Ab (show w<1∨1000<w from .inr h2)];simp only[↓aC,aB,rE,↓reduceIte,pt,p3,aH,aG,cU g3,aE,hia,hld,hneg,Aa h1,Ab h2]
     ·rw[Aa (show ¬ (w<1∨1000<w) by omega)];simp only[↓aC,aB,rE,↓reduceIte,pt,p3,aH,aG,cU g3,aE,hia,hld,hneg,Aa h1,Aa h2]
   clear p3 pt;rintro o ⟨F,inr⟩ X ⟨rfl,q0,hX,p3,pt,pb⟩;simp only at q0 p3 pt pb;subst q0;rw[hX];try simp only[↓aC,aB,rE,↓reduceIte]
   by_cases ho:w<1∨1000<w
   ·rw[if_pos (hget ho)];refine aM (by simp only[↓aC,aB,rE,↓reduceIte,pb,Ab ho]) ?_;refine bE ?_;simp only[↓aC,aB,rE,↓reduceIte];refine aO ?_;simp only[↓aC,aB,rE,↓reduceIte];exact sS
   ·refine aK (by simp only[↓aC,aB,rE,↓reduceIte,pb,Aa ho]) (aI ?_);try simp only[↓aC,aB,rE,↓reduceIte]
    refine aF ?_;simp only[↓aC,aB,rE,↓reduceIte,pt,w1];exact⟨k - 1,by omega,rfl,rfl,j+1,by omega,htk ho,by refine⟨?_,?_⟩<;>simp only[↓aC,aB,rE,↓reduceIte,p3]⟩
  ·refine aK (by simp only[↓aC,aB,rE,↓reduceIte,Aa (show ¬ (j:Int)<((x.weights.length:Nat):Int) by omega)]) (aU ?_);simp only[↓aC,aB,rE,↓reduceIte];have hno:¬gE 1 1000 x.weights:=by rw[Ax (by omega)] at ha;exact ha
   rw[if_neg hno];exact fin _
 rw[if_neg k1];refine aK (by simp only[↓aC,aB,rE,↓reduceIte,Aa k1]) ?_;refine bE ?_;simp only[↓aC,aB,rE,↓reduceIte];by_cases k2:x.kind=2
 ·rw[if_pos k2];refine aM (by simp only[↓aC,aB,rE,↓reduceIte,Ab k2]) ?_;refine aA (aA (aS (Q:=fun o A' X=>o= .normal∧A'.inr=false∧X=S2∧aD 2 A'.F= .ptr S.nx 0∧aD 3 A'.F= .ptr S1.nx 0∧aD 90 A'.F= .bool (decide (tK x))) (aF ?_) ?_))
  ·by_cases c0:(0:Int)<((x.pay.length:Nat):Int)
   ·rw[Ab (show tK x from .inl c0)];simp only[↓aC,aB,rE,↓reduceIte,aH,aG,cT g3,cQ g3,cP g3,cU g3,dF g3,jC g2,iW g2,hn2.len,hw2.len,hp2.len,hi,Ag,Ab c0]
   by_cases c1:(0:Int)<((x.weights.length:Nat):Int)
   ·rw[Ab (show tK x from .inr (.inl c1))];simp only[↓aC,aB,rE,↓reduceIte,aH,aG,cT g3,cQ g3,cP g3,cU g3,dF g3,jC g2,iW g2,hn2.len,hw2.len,hp2.len,hi,Ag,Aa c0,Ab c1]
   by_cases c2:((x.next.length:Nat):Int)<1
   ·rw[Ab (show tK x from .inr (.inr (.inl c2)))];simp only[↓aC,aB,rE,↓reduceIte,aH,aG,cT g3,cQ g3,cP g3,cU g3,dF g3,jC g2,iW g2,hn2.len,hw2.len,hp2.len,hi,Ag,Aa c0,Aa c1,Ab c2]
   by_cases c3:(10:Int)<((x.next.length:Nat):Int)
   ·rw[Ab (show tK x from .inr (.inr (.inr (c3))))];simp only[↓aC,aB,rE,↓reduceIte,aH,aG,cT g3,cQ g3,cP g3,cU g3,dF g3,jC g2,iW g2,hn2.len,hw2.len,hp2.len,hi,Ag,Aa c0,Aa c1,Aa c2,Ab c3]
   rw[Aa (show ¬tK x by rintro(h0 | h1 | h2 | h3)<;>first | exact c0 h0 | exact c1 h1 | exact c2 h2 | exact c3 h3)];simp only[↓aC,aB,rE,↓reduceIte,aH,aG,cT g3,cQ g3,cP g3,cU g3,dF g3,jC g2,iW g2,hn2.len,hw2.len,hp2.len,hi,Ag,Aa c0,Aa c1,Aa c2,Aa c3]
  rintro o ⟨F,inr⟩ X ⟨rfl,q0,hX,p2,p3,pb⟩;simp only at q0 p2 p3 pb;subst q0;rw[hX];try simp only[↓aC,aB,rE,↓reduceIte]
  by_cases bad:tK x
  ·rw[if_pos ((aFe x).1 bad)];refine aM (by simp only[↓aC,aB,rE,↓reduceIte,pb,Ab bad]) ?_;refine bE ?_;simp only[↓aC,aB,rE,↓reduceIte];refine aO ?_;simp only[↓aC,aB,rE,↓reduceIte];exact sS
  rw[if_neg (fun h=>bad ((aFe x).2 h))];refine aK (by simp only[↓aC,aB,rE,↓reduceIte,pb,Aa bad]) (aI ?_);try simp only[↓aC,aB,rE,↓reduceIte]
  refine aA (aS (Q:=fun o A' X=>o= .normal∧A'.inr=false∧X=S2∧aD 113 A'.F= .bool (decide (aCs ps ni x))) (aF ?_) ?_)
  ·by_cases c0:x.player<0
   ·rw[Ab (show aCs ps ni x from .inl c0)];simp only[↓aC,aB,rE,↓reduceIte,aH,aG,cT g3,cQ g3,cP g3,cU g3,dF g3,jC g2,iW g2,hn2.len,hw2.len,hp2.len,hi,Ag,p3,p2,Ab c0]
   by_cases c1:ps≤x.player
   ·rw[Ab (show aCs ps ni x from .inr (.inl c1))];simp only[↓aC,aB,rE,↓reduceIte,aH,aG,cT g3,cQ g3,cP g3,cU g3,dF g3,jC g2,iW g2,hn2.len,hw2.len,hp2.len,hi,Ag,p3,p2,Aa c0,Ab c1]
   by_cases c2:x.info<0
   ·rw[Ab (show aCs ps ni x from .inr (.inr (.inl c2)))];simp only[↓aC,aB,rE,↓reduceIte,aH,aG,cT g3,cQ g3,cP g3,cU g3,dF g3,jC g2,iW g2,hn2.len,hw2.len,hp2.len,hi,Ag,p3,p2,Aa c0,Aa c1,Ab c2]
   by_cases c3:((ni:Nat):Int)≤x.info
   ·rw[Ab (show aCs ps ni x from .inr (.inr (.inr (c3))))];simp only[↓aC,aB,rE,↓reduceIte,aH,aG,cT g3,cQ g3,cP g3,cU g3,dF g3,jC g2,iW g2,hn2.len,hw2.len,hp2.len,hi,Ag,p3,p2,Aa c0,Aa c1,Aa c2,Ab c3]
   rw[Aa (show ¬aCs ps ni x by rintro(h0 | h1 | h2 | h3)<;>first | exact c0 h0 | exact c1 h1 | exact c2 h2 | exact c3 h3)];simp only[↓aC,aB,rE,↓reduceIte,aH,aG,cT g3,cQ g3,cP g3,cU g3,dF g3,jC g2,iW g2,hn2.len,hw2.len,hp2.len,hi,Ag,p3,p2,Aa c0,Aa c1,Aa c2,Aa c3]
  rintro o ⟨F,inr⟩ X ⟨rfl,q0,hX,pb⟩;simp only at q0 pb;subst q0;rw[hX];try simp only[↓aC,aB,rE,↓reduceIte]
  by_cases bad:aCs ps ni x
  ·rw[if_pos ((aEU ps ni x).1 bad)];refine aM (by simp only[↓aC,aB,rE,↓reduceIte,pb,Ab bad]) ?_;refine bE ?_;simp only[↓aC,aB,rE,↓reduceIte];refine aO ?_;simp only[↓aC,aB,rE,↓reduceIte];exact sS
  rw[if_neg (fun h=>bad ((aEU ps ni x).2 h))];refine aK (by simp only[↓aC,aB,rE,↓reduceIte,pb,Aa bad]) (aI ?_);simp only[↓aC,aB,rE,↓reduceIte];exact fin _
 rw[if_neg k2];refine aK (by simp only[↓aC,aB,rE,↓reduceIte,Aa k2]) ?_;refine bE ?_;simp only[↓aC,aB,rE,↓reduceIte];by_cases k3:x.kind=3
 ·rw[if_pos k3];refine aM (by simp only[↓aC,aB,rE,↓reduceIte,Ab k3]) ?_;refine aA (aA (aS (Q:=fun o A' X=>o= .normal∧A'.inr=false∧X=S2∧aD 3 A'.F= .ptr S1.nx 0∧aD 143 A'.F= .bool (decide (lD ps x))) (aF ?_) ?_))
  ·by_cases c0:x.player≠0
   ·rw[Ab (show lD ps x from .inl c0)];simp only[↓aC,aB,rE,↓reduceIte,aH,aG,cT g3,cQ g3,cP g3,cU g3,dF g3,jC g2,iW g2,hn2.len,hw2.len,hp2.len,hi,Ag,Ab c0]
   by_cases c1:x.info≠0
   ·rw[Ab (show lD ps x from .inr (.inl c1))];simp only[↓aC,aB,rE,↓reduceIte,aH,aG,cT g3,cQ g3,cP g3,cU g3,dF g3,jC g2,iW g2,hn2.len,hw2.len,hp2.len,hi,Ag,Aa c0,Ab c1]
   by_cases c2:(0:Int)<((x.next.length:Nat):Int)
   ·rw[Ab (show lD ps x from .inr (.inr (.inl c2)))];simp only[↓aC,aB,rE,↓reduceIte,aH,aG,cT g3,cQ g3,cP g3,cU g3,dF g3,jC g2,iW g2,hn2.len,hw2.len,hp2.len,hi,Ag,Aa c0,Aa c1,Ab c2]
   by_cases c3:(0:Int)<((x.weights.length:Nat):Int)
   ·rw[Ab (show lD ps x from .inr (.inr (.inr (.inl c3))))];simp only[↓aC,aB,rE,↓reduceIte,aH,aG,cT g3,cQ g3,cP g3,cU g3,dF g3,jC g2,iW g2,hn2.len,hw2.len,hp2.len,hi,Ag,Aa c0,Aa c1,Aa c2,Ab c3]
   by_cases c4:((x.pay.length:Nat):Int)≠ps
   ·rw[Ab (show lD ps x from .inr (.inr (.inr (.inr (c4)))))];simp only[↓aC,aB,rE,↓reduceIte,aH,aG,cT g3,cQ g3,cP g3,cU g3,dF g3,jC g2,iW g2,hn2.len,hw2.len,hp2.len,hi,Ag,Aa c0,Aa c1,Aa c2,Aa c3,Ab c4]
   rw[Aa (show ¬lD ps x by rintro(h0 | h1 | h2 | h3 | h4)<;>first | exact c0 h0 | exact c1 h1 | exact c2 h2 | exact c3 h3 | exact c4 h4)];simp only[↓aC,aB,rE,↓reduceIte,aH,aG,cT g3,cQ g3,cP g3,cU g3,dF g3,jC g2,iW g2,hn2.len,hw2.len,hp2.len,hi,Ag,Aa c0,Aa c1,Aa c2,Aa c3,Aa c4]
  rintro o ⟨F,inr⟩ X ⟨rfl,q0,hX,p3,pb⟩;simp only at q0 p3 pb;subst q0;rw[hX];try simp only[↓aC,aB,rE,↓reduceIte]
  by_cases bad:lD ps x
  ·rw[if_pos bad];refine aM (by simp only[↓aC,aB,rE,↓reduceIte,pb,Ab bad]) ?_;refine bE ?_;simp only[↓aC,aB,rE,↓reduceIte];refine aO ?_;simp only[↓aC,aB,rE,↓reduceIte];exact sS
  rw[if_neg bad];have hlen:x.pay.length≤60:=by unfold lD at bad;omega
  refine aK (by simp only[↓aC,aB,rE,↓reduceIte,pb,Aa bad]) (aI ?_);try simp only[↓aC,aB,rE,↓reduceIte]
  refine bE ?_;simp only[↓aC,aB,rE,↓reduceIte];refine aJ (bB (aNu S2 S1.nx 6 (-1000000) 1000000 x.pay) ?_ x.pay.length _ _ ⟨rfl,rfl,0,by omega,(by rintro⟨w,h,_⟩;simp at h),by refine⟨?_,?_⟩<;>simp only[↓aC,aB,rE,↓reduceIte,p3]⟩);clear p3 pb;rintro k ⟨F,inr⟩ X ⟨q0,hX,j,hjk,ha,p3,pt⟩;simp only at q0 p3 pt;subst q0;rw[hX];refine eG ?_;simp only[↓aC,aB,rE,↓reduceIte,pt,p3,aH,aG,dF g3,hp2.len,Ag];by_cases hj:j<x.pay.length
  ·refine aM (by simp only[↓aC,aB,rE,↓reduceIte,Ab (show(j:Int)<((x.pay.length:Nat):Int) by omega)]) (aI ?_);try simp only[↓aC,aB,rE,↓reduceIte]
   have hia:=hp2.iaddr hj;have hld:=hp2.ld hj;have htk:=tS (lo:=(-1000000)) (hi:=1000000) hj ha;have hget:=wB (lo:=(-1000000)) (hi:=1000000) hj;generalize x.pay.getD j 0=w at *;have w1:IntKind.i64.wrap ((j:Int)+1)=((j+1:Nat):Int):=by
    rw[wrap_i64 (by omega) (by omega)];omega
   refine aA (aJ (aA (aS (Q:=fun o A' X=>o= .normal∧A'.inr=false∧X=S2∧aD 3 A'.F= .ptr S1.nx 0∧aD 6 A'.F= .int .i64 (j:Int)∧aD 164 A'.F= .bool (decide (w<(-1000000)∨1000000<w))) (aF ?_) ?_)))
   ·by_cases h1:w<(-1000000)
    ·rw[Ab (show w<(-1000000)∨1000000<w from .inl h1)];simp only[↓aC,aB,rE,↓reduceIte,pt,p3,aH,aG,dF g3,aE,hia,hld,hneg,Ab h1]
    ·by_cases h2:1000000<w
     ·rw[Ab (show w<(-1000000)∨1000000<w from .inr h2)];simp only[↓aC,aB,rE,↓reduceIte,pt,p3,aH,aG,dF g3,aE,hia,hld,hneg,Aa h1,Ab h2]
     ·rw[Aa (show ¬ (w<(-1000000)∨1000000<w) by omega)];simp only[↓aC,aB,rE,↓reduceIte,pt,p3,aH,aG,dF g3,aE,hia,hld,hneg,Aa h1,Aa h2]
   clear p3 pt;rintro o ⟨F,inr⟩ X ⟨rfl,q0,hX,p3,pt,pb⟩;simp only at q0 p3 pt pb;subst q0;rw[hX];try simp only[↓aC,aB,rE,↓reduceIte]
   by_cases ho:w<(-1000000)∨1000000<w
   ·rw[if_pos (hget ho)];refine aM (by simp only[↓aC,aB,rE,↓reduceIte,pb,Ab ho]) ?_;refine bE ?_;simp only[↓aC,aB,rE,↓reduceIte];refine aO ?_;simp only[↓aC,aB,rE,↓reduceIte];exact sS
   ·refine aK (by simp only[↓aC,aB,rE,↓reduceIte,pb,Aa ho]) (aI ?_);try simp only[↓aC,aB,rE,↓reduceIte]
    refine aF ?_;simp only[↓aC,aB,rE,↓reduceIte,pt,w1];exact⟨k - 1,by omega,rfl,rfl,j+1,by omega,htk ho,by refine⟨?_,?_⟩<;>simp only[↓aC,aB,rE,↓reduceIte,p3]⟩
  ·refine aK (by simp only[↓aC,aB,rE,↓reduceIte,Aa (show ¬ (j:Int)<((x.pay.length:Nat):Int) by omega)]) (aU ?_);simp only[↓aC,aB,rE,↓reduceIte];have hno:¬gE (-1000000) 1000000 x.pay:=by rw[Ax (by omega)] at ha;exact ha
   rw[if_neg hno];exact fin _
 rw[if_neg k3];refine aK (by simp only[↓aC,aB,rE,↓reduceIte,Aa k3]) ?_;refine bE ?_;simp only[↓aC,aB,rE,↓reduceIte];refine aO ?_;simp only[↓aC,aB,rE,↓reduceIte];exact sS
theorem bN.self{k:IntKind}{S:St}{v:AV}{l:List Int}(h:bN k S v l):cB v v=true:=by
 rcases h with⟨_,h | h⟩ | ⟨b,off,cap,o,cs,rfl,_⟩
 ·subst h;rfl
 ·subst h;rfl
 ·exact mM ..
theorem aN.self{k:Nat}{α:Type}{E:St→List AV→α→Prop}{S:St}{v:AV}{l:List α}(h:aN k E S v l):cB v v=true:=by
 rcases h with⟨_,h | h⟩ | ⟨b,off,cap,o,cs,rfl,_⟩
 ·subst h;rfl
 ·subst h;rfl
 ·exact mM ..
theorem aKd{k:IntKind}{S:St}{b:Nat}{z:Int}(hb:b<S.nx)(h:S.h.get b=some (.cells [.int k z] false 0)):bN k S (.sl b 0 1 1 false) [z]:=by
 refine .inr ⟨b,0,1,false,[.int k z],rfl,Ah _,hb,by unfold cS;rw[h];rfl,fun i x hi=>?_⟩;cases i with
 | zero=>simp at hi;subst hi;rfl
 | succ i=>simp at hi
theorem aCg{lo hi z:Int}:gE lo hi [z]↔z<lo∨hi<z:=by
 unfold gE;simp
theorem zM{x0 x1 x2 x3 x4 x5:AV}(h0:cB x0 x0=true)(h1:cB x1 x1=true)(h2:cB x2 x2=true)(h3:cB x3 x3=true)(h4:cB x4 x4=true)(h5:cB x5 x5=true):cB (.agg [x0,x1,x2,x3,x4,x5]) (.agg [x0,x1,x2,x3,x4,x5])=true:=by
 simp only[cB,jP,h0,h1,h2,h3,h4,h5,aQ]
theorem aIF{S:St}{b3 b4:Nat}{lo hi w:Int}(H:Has fns)(g3:S.h.get b3=some (.cells [.int .i64 lo] false 0))(g4:S.h.get b4=some (.cells [.int .i64 hi] false 0)):fA fns (.fn 102 [] [.ptr b3 0,.ptr b4 0]) [.int .i64 w] S fun r S'=>r= .bool (decide (w<lo∨hi<w))∧S'=S:=by
 have l3:dT (.ptr b3 0) false 1 S.h=some (.int .i64 lo):=ldc (j:=0) g3 rfl;have l4:dT (.ptr b4 0) false 1 S.h=some (.int .i64 hi):=ldc (j:=0) g4 rfl;refine bP H.f102 (by simp) ?_;simp only[↓aC,aB,rE,↓reduceIte];refine bE ?_;simp only[↓aC,aB,rE,↓reduceIte];refine bE ?_;by_cases h1:w<lo
 ·rw[Ab (show w<lo∨hi<w from .inl h1)];simp only[↓aC,aB,rE,↓reduceIte,l3,Ab h1];refine aO ?_;simp only[↓aC,aB,rE,↓reduceIte]
 ·by_cases h2:hi<w
  ·rw[Ab (show w<lo∨hi<w from .inr h2)];simp only[↓aC,aB,rE,↓reduceIte,l3,l4,Aa h1,Ab h2];refine aO ?_;simp only[↓aC,aB,rE,↓reduceIte]
  ·rw[Aa (show ¬ (w<lo∨hi<w) by omega)];simp only[↓aC,aB,rE,↓reduceIte,l3,l4,Aa h1,Aa h2];refine aO ?_;simp only[↓aC,aB,rE,↓reduceIte]
def aOD(S:St)(v f:AV)(lo hi:Int)(l:List Int)(k:Nat)(A:bH)(X:St):Prop:=A.inr=false∧X=S∧∃i,i+k=l.length∧¬gE lo hi (l.take i)∧aD 0 A.F=v∧aD 1 A.F=f∧aD 7 A.F= .int .i64 ((l.length:Nat):Int)∧aD 8 A.F= .int .i64 (i:Int)
theorem aGI{S:St}{b3 b4:Nat}{lo hi:Int}{v:AV}{l:List Int}(H:Has fns)(g3:S.h.get b3=some (.cells [.int .i64 lo] false 0))(g4:S.h.get b4=some (.cells [.int .i64 hi] false 0))(hl:bN .i64 S v l)(hlen:l.length≤1000000):fA fns (.fn 103 [] []) [v,.fn 102 [] [.ptr b3 0,.ptr b4 0]] S fun r S'=>(∃z,r= .int .i64 z∧(0≤z↔gE lo hi l))∧S'=S:=by
 refine bP H.f103 (by simp) ?_;simp only[↓aC,aB,rE,↓reduceIte];refine bE ?_;simp only[↓aC,aB,rE,↓reduceIte];refine eG ?_;simp only[↓aC,aB,rE,↓reduceIte,hl.len,Ag];refine aJ (bB (aOD S v (.fn 102 [] [.ptr b3 0,.ptr b4 0]) lo hi l) ?_ l.length _ _ ⟨rfl,rfl,0,by omega,(by rintro⟨w,h,_⟩;simp at h),by refine⟨?_,?_,?_,?_⟩<;>simp only[↓aC,aB,rE,↓reduceIte]⟩);rintro k ⟨F,inr⟩ X ⟨q0,hX,j,hjk,ha,p0,p1,p7,p8⟩;simp only at q0 p0 p1 p7 p8;subst q0;rw[hX];refine bE ?_;simp only[↓aC,aB,rE,↓reduceIte,p7,p8];by_cases hj:j<l.length
 ·refine aA (aM (by simp only[↓aC,aB,rE,↓reduceIte,Ab (show(j:Int)<((l.length:Nat):Int) by omega)]) (aI ?_));simp only[↓aC,aB,rE,↓reduceIte];have hia:=hl.iaddr hj;have hld:=hl.ld hj;have htk:=tS (lo:=lo) (hi:=hi) hj ha;have hget:=wB (lo:=lo) (hi:=hi) hj;generalize l.getD j 0=w at *;have w1:IntKind.i64.wrap ((j:Int)+1)=((j+1:Nat):Int):=by rw[wrap_i64 (by omega) (by omega)];omega
  refine aA (aJ (aA (aF ?_)));simp only[↓aC,aB,rE,↓reduceIte,p8];refine bE ?_;simp only[↓aC,aB,rE,↓reduceIte,p0,p1,aE,hia,hld];refine aY ?_;simp only[↓aC,aB,rE,↓reduceIte];refine aP (aIF H g3 g4) ?_;rintro _ Y ⟨rfl,hY⟩;rw[hY];try simp only[↓aC,aB,rE,↓reduceIte]
  by_cases ho:w<lo∨hi<w
  ·refine aM (by simp only[↓aC,aB,rE,↓reduceIte,Ab ho]) ?_;refine bE ?_;simp only[↓aC,aB,rE,↓reduceIte];refine aO ?_;simp only[↓aC,aB,rE,↓reduceIte];exact⟨_,rfl,⟨fun _=>hget ho,fun _=>by omega⟩⟩
  ·refine aK (by simp only[↓aC,aB,rE,↓reduceIte,Aa ho]) (aI ?_);try simp only[↓aC,aB,rE,↓reduceIte]
   refine aF ?_;simp only[↓aC,aB,rE,↓reduceIte,p8,w1];exact⟨k - 1,by omega,rfl,rfl,j+1,by omega,htk ho,by refine⟨?_,?_,?_,?_⟩<;>simp only[↓aC,aB,rE,↓reduceIte,p0,p1,p7]⟩
 ·refine aA (aK (by simp only[↓aC,aB,rE,↓reduceIte,Aa (show ¬ (j:Int)<((l.length:Nat):Int) by omega)]) (aU ?_));simp only[↓aC,aB,rE,↓reduceIte];have hno:¬gE lo hi l:=by rw[Ax (by omega)] at ha;exact ha
  refine bE ?_;simp only[↓aC,aB,rE,↓reduceIte];refine aO ?_;simp only[↓aC,aB,rE,↓reduceIte];exact⟨_,rfl,⟨fun h=>absurd h (by decide),fun h=>absurd h hno⟩⟩
theorem aGS{S:St}{b3 b4:Nat}{lo hi:Int}{v:AV}{l:List Int}(H:Has fns)(g3:S.h.get b3=some (.cells [.int .i64 lo] false 0))(g4:S.h.get b4=some (.cells [.int .i64 hi] false 0))(hl:bN .i64 S v l)(hlen:l.length≤1000000):fA fns (.fn 101 [] []) [v,.fn 102 [] [.ptr b3 0,.ptr b4 0]] S fun r S'=>r= .bool (decide (gE lo hi l))∧S'=S:=by
 refine bP H.f101 (by simp) ?_;simp only[↓aC,aB,rE,↓reduceIte];refine bE ?_;simp only[↓aC,aB,rE,↓reduceIte];refine bE ?_;simp only[↓aC,aB,rE,↓reduceIte];refine aY ?_;simp only[↓aC,aB,rE,↓reduceIte];refine aP (aGI H g3 g4 hl hlen) ?_;rintro _ Y ⟨⟨z,rfl,hz⟩,hY⟩;rw[hY];have hd:decide ((0:Int)≤z)=decide (gE lo hi l):=by rw[Cf,Ck,Ck];exact hz
 simp only[↓aC,aB,rE,↓reduceIte,hd];refine aO ?_;simp only[↓aC,aB,rE,↓reduceIte]
theorem oS{S:St}{lo hi:Int}{v:AV}{l:List Int}(H:Has fns)(hl:bN .i64 S v l)(hlen:l.length≤1000000):fA fns (.fn 98 [] []) [.int .i64 lo,.int .i64 hi,v] S fun r S'=>r= .int .i64 (if gE lo hi l then 2 else 0)∧Same S S':=by
 refine bP H.f98 (by simp) ?_;simp only[↓aC,aB,rE,↓reduceIte];refine bE ?_;refine dG (by simp only[↓aC,aB,rE,↓reduceIte];exact cI _ _) ?_;intro S1 s1 n1 c1;refine dG (by simp only[↓aC,aB,rE,↓reduceIte];exact cI _ _) ?_;intro S2 s2 n2 c2;simp only[↓aC,aB,rE,↓reduceIte];have sS:=s1.trans s2;refine eG ?_;simp only[↓aC,aB,rE,↓reduceIte,aFO];refine aY ?_;simp only[↓aC,aB,rE,↓reduceIte];refine aP (aGS H (by rw[s2.2 _ (by omega)];exact c1) c2 (hl.same sS) hlen) ?_;rintro _ Y ⟨rfl,hY⟩;rw[hY];try simp only[↓aC,aB,rE,↓reduceIte]
 by_cases ho:gE lo hi l
 ·rw[if_pos ho];refine aM (by simp only[↓aC,aB,rE,↓reduceIte,Ab ho]) ?_;refine bE ?_;simp only[↓aC,aB,rE,↓reduceIte];refine aO ?_;simp only[↓aC,aB,rE,↓reduceIte];exact sS
 ·rw[if_neg ho];refine aK (by simp only[↓aC,aB,rE,↓reduceIte,Aa ho]) (aI ?_);try simp only[↓aC,aB,rE,↓reduceIte]
  refine bE ?_;simp only[↓aC,aB,rE,↓reduceIte];refine aO ?_;simp only[↓aC,aB,rE,↓reduceIte];exact sS
def qJ(S:St)(wb:Nat)(ps:Int)(n i p d l:AV):Prop:=S.h.get wb=some (.cells [.int .i64 ps,n,i,p,d,l] false 0)∧wb<S.nx
theorem qJ.same{S S':St}{wb:Nat}{ps:Int}{n i p d l:AV}(h:qJ S wb ps n i p d l)(hs:Same S S'):qJ S' wb ps n i p d l:=⟨(hs.2 _ h.2).trans h.1,Ae h.2 hs.1⟩
section
variable {S:St}{wb:Nat}{ps:Int}{n i p d l:AV}{ni:Nat}{cs:List AV}{x:dW}
theorem aFh(H:Has fns)(hx:bT S cs x):fA fns (.fn 93 [] []) [.ptr wb 0,.agg cs] S fun r S'=>r= .int .i64 (if kT x then 3 else if gE 1 1000 x.weights then 2 else 0)∧Same S S':=by
 obtain⟨a,b,c,rfl,hn,hw,hp⟩:=hx;refine bP H.f93 (by simp) ?_;simp only[↓aC,aB,rE,↓reduceIte];refine bE ?_;refine dG (by simp only[↓aC,aB,rE,↓reduceIte];exact bJ _) ?_;intro S2 s2 n2 g3;simp only[↓aC,aB,rE,↓reduceIte];have hn2:=hn.same s2;have hw2:=hw.same s2;have hp2:=hp.same s2;refine aA (aA (aS (Q:=fun o A' X=>o= .normal∧A'.inr=false∧X=S2∧aD 3 A'.F= .ptr S.nx 0∧aD 39 A'.F= .bool (decide (kT x))) (aF ?_) ?_))
 ·by_cases c0:x.player≠0
  ·rw[Ab (show kT x from .inl c0)];simp only[↓aC,aB,rE,↓reduceIte,aH,aG,cT g3,cQ g3,cP g3,cU g3,dF g3,hn2.len,hw2.len,hp2.len,Ag,Ab c0]
  by_cases c1:x.info≠0
  ·rw[Ab (show kT x from .inr (.inl c1))];simp only[↓aC,aB,rE,↓reduceIte,aH,aG,cT g3,cQ g3,cP g3,cU g3,dF g3,hn2.len,hw2.len,hp2.len,Ag,Aa c0,Ab c1]
  by_cases c2:(0:Int)<((x.pay.length:Nat):Int)
  ·rw[Ab (show kT x from .inr (.inr (.inl c2)))];simp only[↓aC,aB,rE,↓reduceIte,aH,aG,cT g3,cQ g3,cP g3,cU g3,dF g3,hn2.len,hw2.len,hp2.len,Ag,Aa c0,Aa c1,Ab c2]
  by_cases c3:((x.next.length:Nat):Int)<1
  ·rw[Ab (show kT x from .inr (.inr (.inr (.inl c3))))];simp only[↓aC,aB,rE,↓reduceIte,aH,aG,cT g3,cQ g3,cP g3,cU g3,dF g3,hn2.len,hw2.len,hp2.len,Ag,Aa c0,Aa c1,Aa c2,Ab c3]
  by_cases c4:(60:Int)<((x.next.length:Nat):Int)
  ·rw[Ab (show kT x from .inr (.inr (.inr (.inr (.inl c4)))))];simp only[↓aC,aB,rE,↓reduceIte,aH,aG,cT g3,cQ g3,cP g3,cU g3,dF g3,hn2.len,hw2.len,hp2.len,Ag,Aa c0,Aa c1,Aa c2,Aa c3,Ab c4]
  by_cases c5:((x.weights.length:Nat):Int)≠((x.next.length:Nat):Int)
  ·rw[Ab (show kT x from .inr (.inr (.inr (.inr (.inr (c5))))))];simp only[↓aC,aB,rE,↓reduceIte,aH,aG,cT g3,cQ g3,cP g3,cU g3,dF g3,hn2.len,hw2.len,hp2.len,Ag,Aa c0,Aa c1,Aa c2,Aa c3,Aa c4,Ab c5]
  rw[Aa (show ¬kT x by rintro(h0 | h1 | h2 | h3 | h4 | h5)<;>first | exact c0 h0 | exact c1 h1 | exact c2 h2 | exact c3 h3 | exact c4 h4 | exact c5 h5)];simp only[↓aC,aB,rE,↓reduceIte,aH,aG,cT g3,cQ g3,cP g3,cU g3,dF g3,hn2.len,hw2.len,hp2.len,Ag,Aa c0,Aa c1,Aa c2,Aa c3,Aa c4,Aa c5]
 rintro o ⟨F,inr⟩ X ⟨rfl,q0,hX,p3,pb⟩;simp only at q0 p3 pb;subst q0;rw[hX];have sX:=s2;try simp only[↓aC,aB,rE,↓reduceIte]
 by_cases bad:kT x
 ·rw[if_pos bad];refine aM (by simp only[↓aC,aB,rE,↓reduceIte,pb,Ab bad]) ?_;refine bE ?_;simp only[↓aC,aB,rE,↓reduceIte];refine aO ?_;simp only[↓aC,aB,rE,↓reduceIte];exact sX
 rw[if_neg bad];refine aK (by simp only[↓aC,aB,rE,↓reduceIte,pb,Aa bad]) (aI ?_);try simp only[↓aC,aB,rE,↓reduceIte]
 have hlen:x.weights.length≤60:=by unfold kT at bad;omega
 refine bE ?_;simp only[↓aC,aB,rE,↓reduceIte,p3,aH,aG,cU g3];refine aY ?_;simp only[↓aC,aB,rE,↓reduceIte];refine aP (oS H hw2 (by omega)) ?_;rintro _ Y ⟨rfl,hY⟩;try simp only[↓aC,aB,rE,↓reduceIte]
 refine aO ?_;simp only[↓aC,aB,rE,↓reduceIte];exact s2.trans hY
theorem aIA(H:Has fns)(hx:bT S cs x)(hW:qJ S wb ps n i p d l)(hps:1≤ps∧ps≤4)(hi:gW i=some (.int .i64 ((ni:Nat):Int)))(hni:ni≤1000)(hsi:cB i i=true):fA fns (.fn 94 [] []) [.ptr wb 0,.agg cs] S fun r S'=>r= .int .i64 (if sK x then 3 else if x.player<0∨ps - 1<x.player∨x.info<0∨(ni:Int) - 1<x.info then 2 else 0)∧Same S S':=by
 obtain⟨a,b,c,rfl,hn,hw,hp⟩:=hx;refine bP H.f94 (by simp) ?_;simp only[↓aC,aB,rE,↓reduceIte];refine bE ?_;refine dG (by simp only[↓aC,aB,rE,↓reduceIte];exact bJ _) ?_;intro S2 s2 n2 g3;simp only[↓aC,aB,rE,↓reduceIte];have hn2:=hn.same s2;have hw2:=hw.same s2;have hp2:=hp.same s2;have hW2:=hW.same s2;refine aA (aA (aS (Q:=fun o A' X=>o= .normal∧A'.inr=false∧X=S2∧aD 0 A'.F= .ptr wb 0∧aD 3 A'.F= .ptr S.nx 0∧aD 27 A'.F= .bool (decide (sK x))) (aF ?_) ?_))
 ·by_cases c0:(0:Int)<((x.weights.length:Nat):Int)
  ·rw[Ab (show sK x from .inl c0)];simp only[↓aC,aB,rE,↓reduceIte,aH,aG,cT g3,cQ g3,cP g3,cU g3,dF g3,hn2.len,hw2.len,hp2.len,Ag,Ab c0]
  by_cases c1:(0:Int)<((x.pay.length:Nat):Int)
  ·rw[Ab (show sK x from .inr (.inl c1))];simp only[↓aC,aB,rE,↓reduceIte,aH,aG,cT g3,cQ g3,cP g3,cU g3,dF g3,hn2.len,hw2.len,hp2.len,Ag,Aa c0,Ab c1]
  by_cases c2:((x.next.length:Nat):Int)<1
  ·rw[Ab (show sK x from .inr (.inr (.inl c2)))];simp only[↓aC,aB,rE,↓reduceIte,aH,aG,cT g3,cQ g3,cP g3,cU g3,dF g3,hn2.len,hw2.len,hp2.len,Ag,Aa c0,Aa c1,Ab c2]
  by_cases c3:(10:Int)<((x.next.length:Nat):Int)
  ·rw[Ab (show sK x from .inr (.inr (.inr (c3))))];simp only[↓aC,aB,rE,↓reduceIte,aH,aG,cT g3,cQ g3,cP g3,cU g3,dF g3,hn2.len,hw2.len,hp2.len,Ag,Aa c0,Aa c1,Aa c2,Ab c3]
  rw[Aa (show ¬sK x by rintro(h0 | h1 | h2 | h3)<;>first | exact c0 h0 | exact c1 h1 | exact c2 h2 | exact c3 h3)];simp only[↓aC,aB,rE,↓reduceIte,aH,aG,cT g3,cQ g3,cP g3,cU g3,dF g3,hn2.len,hw2.len,hp2.len,Ag,Aa c0,Aa c1,Aa c2,Aa c3]
 rintro o ⟨F,inr⟩ X ⟨rfl,q0,hX,p0,p3,pb⟩;simp only at q0 p0 p3 pb;subst q0;rw[hX];have sX:=s2;try simp only[↓aC,aB,rE,↓reduceIte]
 by_cases bad:sK x
 ·rw[if_pos bad];refine aM (by simp only[↓aC,aB,rE,↓reduceIte,pb,Ab bad]) ?_;refine bE ?_;simp only[↓aC,aB,rE,↓reduceIte];refine aO ?_;simp only[↓aC,aB,rE,↓reduceIte];exact sX
 rw[if_neg bad];refine aK (by simp only[↓aC,aB,rE,↓reduceIte,pb,Aa bad]) (aI ?_);try simp only[↓aC,aB,rE,↓reduceIte]
 have w1:IntKind.i64.wrap (ps - 1)=ps - 1:=wrap_i64 (by omega) (by omega);have w2:IntKind.i64.wrap ((ni:Int) - 1)=(ni:Int) - 1:=wrap_i64 (by omega) (by omega);have lt3:S.nx<S2.nx:=by omega
 refine aA (aA (qA (fun _=>False) ?_));intro S3 s3 h3 n3;simp only[Au,Bu,rA] at n3;simp only[↓sU,sD,rE,↓reduceIte,rA,p0,p3,bF,bO,bG,aH,aX,aG,dK hW2.1,cT g3,w1,hW2.2,lt3,Aq];rw[aA9 (k:=.i64) (n:=x.player) (by simp only[↓sU,sD,rE,↓reduceIte,rA])];simp only[↓sU,sD,rE,↓reduceIte,rA];refine aBr (by decide) rfl ?_;intro S4 s4 n4 c4;simp only[↓sU,sD,rE,↓reduceIte,rA];have s34:Same S2 S4:=s4.same s3 (by omega);refine aP (oS H (aKd (by omega) c4) (by simp)) ?_;rintro _ Y ⟨rfl,hY⟩;refine⟨hY,?_⟩;simp only[↓sU,sD,rE,↓reduceIte,rA,aCg];have sY:=s2.trans (s34.trans hY);refine bE ?_;simp only[↓sU,sD,rE,↓reduceIte,rA];by_cases h1:x.player<0∨ps - 1<x.player
 ·rw[if_pos (show x.player<0∨ps - 1<x.player∨x.info<0∨(ni:Int) - 1<x.info by omega)];refine aM (by simp only[↓sU,sD,rE,↓reduceIte,rA,if_pos h1];rfl) ?_;refine bE ?_;simp only[↓sU,sD,rE,↓reduceIte,rA,if_pos h1];refine aO ?_;simp only[↓sU,sD,rE,↓reduceIte,rA];exact sY
 refine aK (by simp only[↓sU,sD,rE,↓reduceIte,rA,if_neg h1];rfl) (aI ?_);try simp only[↓sU,sD,rE,↓reduceIte,rA]
 have hWY:=hW.same sY;have g3Y:Y.h.get S.nx=some (.cells [.int .i64 x.kind,.int .i64 x.player,.int .i64 x.info,a,b,c] false 0):=by rw[(s34.trans hY).2 _ lt3];exact g3
 have lt3Y:S.nx<Y.nx:=Ae lt3 (s34.trans hY).1;refine aA (qA (fun _=>False) ?_);intro S5 s5 h5 n5;simp only[Au,Bu,rA] at n5;simp only[↓sU,sD,rE,↓reduceIte,rA,p0,p3,bF,bO,bG,aH,aX,aG,cQ hWY.1,hi,hsi,cQ g3Y,w2,hWY.2,lt3Y,Aq];rw[aA9 (k:=.i64) (n:=x.info) (by simp only[↓sU,sD,rE,↓reduceIte,rA])];simp only[↓sU,sD,rE,↓reduceIte,rA];refine aBr (by decide) rfl ?_;intro S6 s6 n6 c6;simp only[↓sU,sD,rE,↓reduceIte,rA];have s56:Same Y S6:=s6.same s5 (by omega);refine aP (oS H (aKd (by omega) c6) (by simp)) ?_;rintro _ Z ⟨rfl,hZ⟩;refine⟨hZ,?_⟩;simp only[↓sU,sD,rE,↓reduceIte,rA,aCg];refine aO ?_;simp only[↓sU,sD,rE,↓reduceIte,rA];refine⟨?_,sY.trans (s56.trans hZ)⟩;by_cases h2:x.info<0∨(ni:Int) - 1<x.info
 ·rw[if_pos h2,if_pos (by omega)]
 ·rw[if_neg h2,if_neg (by omega)]
theorem aKE(H:Has fns)(hx:bT S cs x)(hW:qJ S wb ps n i p d l)(hps:1≤ps∧ps≤4):fA fns (.fn 95 [] []) [.ptr wb 0,.agg cs] S fun r S'=>r= .int .i64 (if lD ps x then 3 else if gE (-1000000) 1000000 x.pay then 2 else 0)∧Same S S':=by
 obtain⟨a,b,c,rfl,hn,hw,hp⟩:=hx;refine bP H.f95 (by simp) ?_;simp only[↓aC,aB,rE,↓reduceIte];refine bE ?_;refine dG (by simp only[↓aC,aB,rE,↓reduceIte];exact bJ _) ?_;intro S2 s2 n2 g3;simp only[↓aC,aB,rE,↓reduceIte];have hn2:=hn.same s2;have hw2:=hw.same s2;have hp2:=hp.same s2;have hW2:=hW.same s2;have sn:=bN.self hn2;have sw:=bN.self hw2;have sp:=bN.self hp2;refine aA (aA (aS (Q:=fun o A' X=>o= .normal∧A'.inr=false∧Same S2 X∧aD 3 A'.F= .ptr S.nx 0∧aD 35 A'.F= .bool (decide (lD ps x))) (gJ ?_) ?_))
 ·have sX:=Same.nx S2 31;by_cases c0:x.player≠0
  ·rw[Ab (show lD ps x from .inl c0)];simp only[↓aC,aB,rE,↓reduceIte,aH,aG,cT g3,cQ g3,cP g3,cU g3,dF g3,hn2.len,hw2.len,hp2.len,Ag,bF,bO,bG,aX,eX,dK hW2.1,sn,sw,sp,Ab c0];exact Same.nx S2 _
  by_cases c1:x.info≠0
  ·rw[Ab (show lD ps x from .inr (.inl c1))];simp only[↓aC,aB,rE,↓reduceIte,aH,aG,cT g3,cQ g3,cP g3,cU g3,dF g3,hn2.len,hw2.len,hp2.len,Ag,bF,bO,bG,aX,eX,dK hW2.1,sn,sw,sp,Aa c0,Ab c1];exact Same.nx S2 _
  by_cases c2:(0:Int)<((x.next.length:Nat):Int)
  ·rw[Ab (show lD ps x from .inr (.inr (.inl c2)))];simp only[↓aC,aB,rE,↓reduceIte,aH,aG,cT g3,cQ g3,cP g3,cU g3,dF g3,hn2.len,hw2.len,hp2.len,Ag,bF,bO,bG,aX,eX,dK hW2.1,sn,sw,sp,Aa c0,Aa c1,Ab c2];exact Same.nx S2 _
  by_cases c3:(0:Int)<((x.weights.length:Nat):Int)
  ·rw[Ab (show lD ps x from .inr (.inr (.inr (.inl c3))))];simp only[↓aC,aB,rE,↓reduceIte,aH,aG,cT g3,cQ g3,cP g3,cU g3,dF g3,hn2.len,hw2.len,hp2.len,Ag,bF,bO,bG,aX,eX,dK hW2.1,sn,sw,sp,Aa c0,Aa c1,Aa c2,Ab c3];exact Same.nx S2 _
  by_cases c4:((x.pay.length:Nat):Int)≠ps
  ·rw[Ab (show lD ps x from .inr (.inr (.inr (.inr (c4)))))];simp only[↓aC,aB,rE,↓reduceIte,aH,aG,cT g3,cQ g3,cP g3,cU g3,dF g3,hn2.len,hw2.len,hp2.len,Ag,bF,bO,bG,aX,eX,dK hW2.1,sn,sw,sp,Aa c0,Aa c1,Aa c2,Aa c3,Ab c4];exact Same.nx S2 _
  rw[Aa (show ¬lD ps x by rintro(h0 | h1 | h2 | h3 | h4)<;>first | exact c0 h0 | exact c1 h1 | exact c2 h2 | exact c3 h3 | exact c4 h4)];simp only[↓aC,aB,rE,↓reduceIte,aH,aG,cT g3,cQ g3,cP g3,cU g3,dF g3,hn2.len,hw2.len,hp2.len,Ag,bF,bO,bG,aX,eX,dK hW2.1,sn,sw,sp,Aa c0,Aa c1,Aa c2,Aa c3,Aa c4];exact Same.nx S2 _
 rintro o ⟨F,inr⟩ X ⟨rfl,q0,hX,p3,pb⟩;simp only at q0 p3 pb;subst q0;have sX:=s2.trans hX;have g3X:X.h.get S.nx=some (.cells [.int .i64 x.kind,.int .i64 x.player,.int .i64 x.info,a,b,c] false 0):=by rw[hX.2 _ (by omega)];exact g3
 try simp only[↓aC,aB,rE,↓reduceIte]
 by_cases bad:lD ps x
 ·rw[if_pos bad];refine aM (by simp only[↓aC,aB,rE,↓reduceIte,pb,Ab bad]) ?_;refine bE ?_;simp only[↓aC,aB,rE,↓reduceIte];refine aO ?_;simp only[↓aC,aB,rE,↓reduceIte];exact sX
 rw[if_neg bad];refine aK (by simp only[↓aC,aB,rE,↓reduceIte,pb,Aa bad]) (aI ?_);try simp only[↓aC,aB,rE,↓reduceIte]
 have hlen:x.pay.length≤60:=by unfold lD at bad;omega
 have hneg:Int.negSucc 999999= -1000000:=rfl;refine bE ?_;simp only[↓aC,aB,rE,↓reduceIte,p3,aH,aG,dF g3X];refine aY ?_;simp only[↓aC,aB,rE,↓reduceIte,hneg];refine aP (oS H (hp2.same hX) (by omega)) ?_;rintro _ Y ⟨rfl,hY⟩;try simp only[↓aC,aB,rE,↓reduceIte]
 refine aO ?_;simp only[↓aC,aB,rE,↓reduceIte];exact sX.trans hY
end
section
variable {S:St}{wb:Nat}{ps:Int}{n i p d l:AV}{ni:Nat}{cs:List AV}{x:dW}
theorem aH7(H:Has fns)(hx:bT S cs x)(hW:qJ S wb ps n i p d l)(hps:1≤ps∧ps≤4)(hi:gW i=some (.int .i64 ((ni:Nat):Int)))(hni:ni≤1000)(hsi:cB i i=true):fA fns (.fn 88 [] []) [.ptr wb 0,.agg cs] S fun r S'=>r= .int .i64 (fM ps ni x)∧Same S S':=by
 obtain⟨a,b,c,rfl,hn,hw,hp⟩:=id hx;refine bP H.f88 (by simp) ?_;simp only[↓aC,aB,rE,↓reduceIte];refine bE ?_;refine dG (by simp only[↓aC,aB,rE,↓reduceIte];exact bJ _) ?_;intro S1 s1 n1 g3;simp only[↓aC,aB,rE,↓reduceIte];have hbd:∀ (F:Fr) (h:T AB),gS (.build [.nilfn,.nilfn,.nilfn,.nilfn] [(1,1,.c (.fn 93 [] [])),(2,1,.c (.fn 94 [] [])),(3,1,.c (.fn 95 [] []))]) F h=some (.agg [.nilfn,.fn 93 [] [],.fn 94 [] [],.fn 95 [] []]):=fun _ _=>rfl;refine bE ?_;simp only[↓aC,aB,rE,↓reduceIte,hbd];refine dO ?_;intro S2 s2 n2 c2;refine fI (b:=S1.nx) (by simp only[↓aC,aB,rE,↓reduceIte]) (by simp only[↓aC,aB,rE,↓reduceIte];exact bJ _) c2 rfl rfl ?_;intro S3 s3 n3 c3;simp only[↓aC,aB,rE,↓reduceIte];have s13:Same S1 S3:=s3.same s2 (Ah _);have sS:=s1.trans s13;have g3:S3.h.get S.nx=some (.cells [.int .i64 x.kind,.int .i64 x.player,.int .i64 x.info,a,b,c] false 0):=by rw[s13.2 _ (by omega)];exact g3
 have lt3:S.nx<S3.nx:=by omega
 have lt5:S1.nx<S3.nx:=by omega
 have hx3:bT S3 [.int .i64 x.kind,.int .i64 x.player,.int .i64 x.info,a,b,c] x:=bI hx sS;have hW3:=hW.same sS;have sl:=zM (dJ .i64 x.kind) (dJ .i64 x.player) (dJ .i64 x.info) (bN.self hn) (bN.self hw) (bN.self hp);unfold fM;refine aA (aA (aS (Q:=fun o A' X=>o= .normal∧A'.inr=false∧X=S3∧aD 0 A'.F= .ptr wb 0∧aD 3 A'.F= .ptr S.nx 0∧aD 5 A'.F= .ptr S1.nx 0∧aD 14 A'.F= .bool (decide (x.kind<1∨3<x.kind))) (aF ?_) ?_))
 ·by_cases h1:x.kind<1
  ·rw[Ab (show x.kind<1∨3<x.kind from .inl h1)];simp only[↓aC,aB,rE,↓reduceIte,aH,aG,dK g3,Ab h1]
  ·by_cases h2:3<x.kind
   ·rw[Ab (show x.kind<1∨3<x.kind from .inr h2)];simp only[↓aC,aB,rE,↓reduceIte,aH,aG,dK g3,Aa h1,Ab h2]
   ·rw[Aa (show ¬ (x.kind<1∨3<x.kind) by omega)];simp only[↓aC,aB,rE,↓reduceIte,aH,aG,dK g3,Aa h1,Aa h2]
 rintro o ⟨F,inr⟩ X ⟨rfl,q0,hX,p0,p3,p5,pb⟩;simp only at q0 p0 p3 p5 pb;subst q0;rw[hX];try simp only[↓aC,aB,rE,↓reduceIte]
 by_cases bad:x.kind<1∨3<x.kind
 ·rw[if_neg (by omega),if_neg (by omega),if_neg (by omega)];refine aM (by simp only[↓aC,aB,rE,↓reduceIte,pb,Ab bad]) ?_;refine bE ?_;simp only[↓aC,aB,rE,↓reduceIte];refine aO ?_;simp only[↓aC,aB,rE,↓reduceIte];exact sS
 refine aK (by simp only[↓aC,aB,rE,↓reduceIte,pb,Aa bad]) (aI ?_);try simp only[↓aC,aB,rE,↓reduceIte]
 have hld:∀j y,[AV.nilfn,.fn 93 [] [],.fn 94 [] [],.fn 95 [] []][j]? =some y→dT (.ptr S1.nx j) false 1 S3.h=some y:=fun j y hy=>by have:=ldc (j:=j) c3 hy;rw[An] at this;exact this
 have n1':eR (.int .i64 1)=some 1:=rfl;have n2':eR (.int .i64 2)=some 2:=rfl;have n3':eR (.int .i64 3)=some 3:=rfl;have i1:eU (.arr 4 1) (.ptr S1.nx 0) 1=some (.ptr S1.nx 1):=rfl;have i2:eU (.arr 4 1) (.ptr S1.nx 0) 2=some (.ptr S1.nx 2):=rfl;have i3:eU (.arr 4 1) (.ptr S1.nx 0) 3=some (.ptr S1.nx 3):=rfl;have l1:=hld 1 _ rfl;have l2:=hld 2 _ rfl;have l3:=hld 3 _ rfl;have f1:cB (.fn 93 [] []) (.fn 93 [] [])=true:=rfl;have f2:cB (.fn 94 [] []) (.fn 94 [] [])=true:=rfl;have f3:cB (.fn 95 [] []) (.fn 95 [] [])=true:=rfl;have g3':=ldN g3;refine aA (cR (fun _=>False) ?_);intro S4 s4;by_cases k1:x.kind=1
 ·rw[if_pos k1];rw[k1] at g3 g3' sl hx3;simp only[↓sU,sD,rE,↓reduceIte,rA,p0,p3,p5,aH,aX,aG,dK g3,n1',i1,l1,f1,g3',sl,lt3,lt5,Aq];refine bX rfl ?_;simp only[↓sU,sD,rE,↓reduceIte,rA];refine aP (aFh H (by have:=bI hx (sS.trans s4);rw[k1] at this;exact this)) ?_;rintro _ Y ⟨rfl,hY⟩;refine⟨hY,?_⟩;try simp only[↓sU,sD,rE,↓reduceIte,rA]
  refine aO ?_;simp only[↓sU,sD,rE,↓reduceIte,rA];exact sS.trans (s4.trans hY)
 by_cases k2:x.kind=2
 ·rw[if_neg k1,if_pos k2];rw[k2] at g3 g3' sl;simp only[↓sU,sD,rE,↓reduceIte,rA,p0,p3,p5,aH,aX,aG,dK g3,n2',i2,l2,f2,g3',sl,lt3,lt5,Aq];refine bX rfl ?_;simp only[↓sU,sD,rE,↓reduceIte,rA];refine aP (aIA H (by have:=bI hx (sS.trans s4);rw[k2] at this;exact this) (hW3.same s4) hps hi hni hsi) ?_;rintro _ Y ⟨rfl,hY⟩;refine⟨hY,?_⟩;try simp only[↓sU,sD,rE,↓reduceIte,rA]
  refine aO ?_;simp only[↓sU,sD,rE,↓reduceIte,rA];exact sS.trans (s4.trans hY)
 have k3:x.kind=3:=by omega
 rw[if_neg k1,if_neg k2,if_pos k3];rw[k3] at g3 g3' sl;simp only[↓sU,sD,rE,↓reduceIte,rA,p0,p3,p5,aH,aX,aG,dK g3,n3',i3,l3,f3,g3',sl,lt3,lt5,Aq];refine bX rfl ?_;simp only[↓sU,sD,rE,↓reduceIte,rA];refine aP (aKE H (by have:=bI hx (sS.trans s4);rw[k3] at this;exact this) (hW3.same s4) hps) ?_;rintro _ Y ⟨rfl,hY⟩;refine⟨hY,?_⟩;try simp only[↓sU,sD,rE,↓reduceIte,rA]
 refine aO ?_;simp only[↓sU,sD,rE,↓reduceIte,rA];exact sS.trans (s4.trans hY)
end
abbrev cC:=Int×Int×Int
def fW(rec:Nat→Option (List cC)):List Int→Nat→Option (List cC)
 | [],_=>some []
 | c::l,r=>if c=(r:Int) then(rec r).bind fun L1=>(fW rec l (r+L1.length)).map (L1++ ·) else none
def eE(N:Nat)(nx:Nat→List Int):Nat→Nat→Int→Int→Option (List cC)
 | 0,_,_,_=>none
 | f+1,at_,p,d=>if at_<N then(fW (fun r=>eE N nx f r at_ (d+1)) (nx at_) (at_+1)).map fun L=>(p,d,((at_+L.length:Nat):Int))::L else none
def vC(m:Int)(L:List cC):Int:=L.foldl (fun m t=>mx m t.2.1) m
theorem aFf(m:Int)(L L':List cC):vC m (L++L')=vC (vC m L) L':=List.foldl_append ..
theorem aIB(m:Int)(t:cC)(L:List cC):vC m (t::L)=vC (mx m t.2.1) L:=rfl
def dB(g:aW)(i:Nat):List Int:=((g.nodes[i]?).map (·.next)).getD []
theorem wR{g:aW}{i:Nat}{x:dW}(h:g.nodes[i]? =some x):dB g i=x.next:=by unfold dB;rw[h];rfl
theorem aDp{rec:Nat→Option (List cC)}{N:Nat}(hr:∀r L,rec r=some L→r+L.length≤N∧0<L.length):∀ {l:List Int} {r:Nat} {L:List cC},r≤N→fW rec l r=some L→r+L.length≤N
 | [],r,L,h,hk=>by simp only[fW,Aj] at hk;subst hk;simpa using h
 | c::l,r,L,h,hk=>by
  simp only[fW] at hk;split at hk
  ·obtain⟨L1,h1,h2⟩:=Cw.1 hk;obtain⟨L2,h3,rfl⟩:=Ap.1 h2;have:=aDp hr (hr r L1 h1).1 h3;rw[Ak];omega
  ·cases hk
theorem uQ{N:Nat}{nx:Nat→List Int}:∀ {f at_:Nat} {p d:Int} {L:List cC},eE N nx f at_ p d=some L→at_+L.length≤N∧0<L.length
 | 0,at_,p,d,L,h=>by cases h
 | f+1,at_,p,d,L,h=>by
  simp only[eE] at h;split at h
  ·rename_i hlt;obtain⟨L',h1,rfl⟩:=Ap.1 h;have:=aDp (N:=N) (fun r L hr=>uQ hr) (show at_+1≤N by omega) h1;rw[Au];omega
  ·cases h
theorem aN.tail{k:Nat}{α:Type}{E:St→List AV→α→Prop}{S:St}{v:AV}{a:α}{l:List α}(h:aN k E S v (a::l)):∃v',(∀ (F:Fr) (x:cJ),eR (x.val F)=some 1→qN (.slice k) v (some x) none none F=some v')∧aN k E S v' l:=by
 rcases h with⟨h0,_⟩ | ⟨b,off,cap,o,cs,rfl,hc,hb,hcs,hel⟩
 ·cases h0
 ·rw[Au] at hc;have e1:Nat.ble cap cap=true:=Am (Ah _);have e2:Nat.ble (l.length+1) cap=true:=Am hc;have e3:Nat.ble 1 (l.length+1)=true:=Am (by omega);by_cases h1:cap=1
  ·have hl:l= []:=Cg.1 (by omega);subst hl;subst h1;have e4:Nat.beq 1 1=true:=rfl;refine⟨bL o .emp (.sl b off 0 0 false),fun F x hx=>?_,?_⟩
   ·simp only[qN,aJ4,kH,iA,aT,hx,Au,Bu];cases o<;>rfl
   ·cases o with
    | true=>exact .inl ⟨rfl,.inr rfl⟩
    | false=>exact .inr ⟨b,off,0,false,cs,rfl,Ah _,hb,hcs,fun i a hi=>by simp at hi⟩
  ·have e4:Nat.beq cap 1=false:=by rw[Dh];intro h;rw[Bd] at h;omega
   refine⟨.sl b (off+1 * k) (l.length+1 - 1) (cap - 1) o,fun F x hx=>?_,.inr ⟨b,off+1 * k,cap - 1,o,cs,by simp,by omega,hb,hcs,fun i a' hi=>?_⟩⟩
   ·simp only[qN,aJ4,kH,iA,aT,hx,Au,e1,e2,e3,aQ,e4,aV,Option.isNone_none];cases o<;>rfl
   ·obtain⟨e,h1,h2,h3⟩:=hel (i+1) a' (by simpa using hi);refine⟨e,h1,fun j x hj=>?_,h3⟩;have:=h2 j x hj;rw[show off+1 * k+i * k+j=off+(i+1) * k+j by rw[Et];omega];exact this
theorem aDA(a b:Int):kB true [.int .i64 a,.int .i64 b]=some (.int .i64 (mx a b)):=by rw[aK3,aMO,aME]
def aGK(S:St)(db:Nat)(at_:Nat)(deep:Int)(o:Option (List cC))(r:AV)(S':St):Prop:=
 bQ db S S'∧match o with
 | some L=>r= .int .i64 ((at_+L.length:Nat):Int)∧S'.h.get db=some (.cells [.int .i64 (vC deep L)] false 0)
 | none=>r= .int .i64 (-1)∧∃z,S'.h.get db=some (.cells [.int .i64 z] false 0)
def aL9(S1:St)(gb db at_:Nat)(d deep1:Int)(rec:Nat→Option (List cC))(ks:List Int)(k:Nat)(A:bH)(X:St):Prop:=
 A.inr=false∧bQ db S1 X∧∃ (j:Nat) (L:List cC),j+k=ks.length∧at_+1+L.length≤2000∧fW rec ks (at_+1)=(fW rec (ks.drop j) (at_+1+L.length)).map (L++ ·)∧aD 1 A.F= .int .i64 (at_:Int)∧aD 2 A.F= .int .i64 d∧aD 3 A.F= .ptr db 0∧aD 4 A.F= .ptr gb 0∧aD 9 A.F= .int .i64 ((at_+1+L.length:Nat):Int)∧aD 10 A.F= .int .i64 (j:Int)∧X.h.get db=some (.cells [.int .i64 (vC deep1 L)] false 0)
theorem aGt{S0:St}{gv:AV}{g:aW}{db:Nat}(H:Has fns)(hG:aML S0 gv g)(hdb:S0.nx≤db)(hN:g.nodes.length≤2000):∀ (f:Nat) {S:St} {at_:Nat} {p d deep:Int},g.nodes.length+1 - at_≤f→0≤d→d≤at_→at_≤3000→(∀x∈g.nodes,x.next.length≤1000)→Same S0 S→db<S.nx→S.h.get db=some (.cells [.int .i64 deep] false 0)→
  fA fns (.fn 54 [] []) [gv,.int .i64 (at_:Int),.int .i64 d,.ptr db 0] S fun r S'=>aGK S db at_ deep (eE g.nodes.length (dB g) f at_ p d) r S':=by
 intro f
 induction f with
 | zero=>
  intro S at_ p d deep hf hd0 hd hat hlen hS hlt hdeep;obtain⟨nv,iv,rfl,hn,hi⟩:=id hG;have hnS:=aN.same (E:=bT) bI hn hS;refine bP H.f54 (by simp) ?_;simp only[↓aC,aB,rE,↓reduceIte];refine bE ?_;refine dG (by simp only[↓aC,aB,rE,↓reduceIte];exact bJ _) ?_;intro S1 s1 n1 c1;simp only[↓aC,aB,rE,↓reduceIte];refine eG ?_;simp only[↓aC,aB,rE,↓reduceIte,aH,aG,aHz c1,hnS.len];refine aM (by simp only[↓aC,aB,rE,↓reduceIte,Ab (show((g.nodes.length:Nat):Int)≤(at_:Int) by omega)]) ?_;refine bE ?_;simp only[↓aC,aB,rE,↓reduceIte];refine aO ?_;simp only[↓aC,aB,rE,↓reduceIte];exact⟨⟨s1.1,fun c hc _=>s1.2 c hc⟩,rfl,deep,by rw[s1.2 _ hlt];exact hdeep⟩
 | succ f ih=>
  intro S at_ p d deep hf hd0 hd hat hlen hS hlt hdeep;obtain⟨nv,iv,rfl,hn,hi⟩:=id hG;have hnS:=aN.same (E:=bT) bI hn hS;refine bP H.f54 (by simp) ?_;simp only[↓aC,aB,rE,↓reduceIte];refine bE ?_;refine dG (by simp only[↓aC,aB,rE,↓reduceIte];exact bJ _) ?_;intro S1 s1 n1 c1;simp only[↓aC,aB,rE,↓reduceIte];have hdeep1:S1.h.get db=some (.cells [.int .i64 deep] false 0):=by rw[s1.2 _ hlt];exact hdeep
  have b1:bQ db S S1:=⟨s1.1,fun c hc _=>s1.2 c hc⟩;refine eG ?_;simp only[↓aC,aB,rE,↓reduceIte,aH,aG,aHz c1,hnS.len];by_cases hlt':at_<g.nodes.length;rotate_left
  ·refine aM (by simp only[↓aC,aB,rE,↓reduceIte,Ab (show((g.nodes.length:Nat):Int)≤(at_:Int) by omega)]) ?_;refine bE ?_;simp only[↓aC,aB,rE,↓reduceIte];refine aO ?_;simp only[↓aC,aB,rE,↓reduceIte];refine⟨b1,?_⟩;simp only[eE,if_neg hlt'];exact⟨rfl,deep,hdeep1⟩
  refine aK (by simp only[↓aC,aB,rE,↓reduceIte,Aa (show ¬ ((g.nodes.length:Nat):Int)≤(at_:Int) by omega)]) (aI ?_);try simp only[↓aC,aB,rE,↓reduceIte]
  obtain⟨x,hx⟩:∃x,g.nodes[at_]? =some x:=⟨_,Ac hlt'⟩;have hnx:=wR hx;have hxl:=hlen x (Bm hx);have w1:IntKind.i64.wrap ((at_:Int)+1)=((at_+1:Nat):Int):=by rw[wrap_i64 (by omega) (by omega)];omega
  have w2:IntKind.i64.wrap (d+1)=d+1:=wrap_i64 (by omega) (by omega);have ldd:dT (.ptr db 0) false 1 S1.h=some (.int .i64 deep):=ldc (j:=0) hdeep1 rfl;refine bE ?_;simp only[↓aC,aB,rE,↓reduceIte,bF,bG,ldd,aJ0,gR,lI,aDA];refine fI (b:=db) (by simp only[↓aC,aB,rE,↓reduceIte]) (by simp only[↓aC,aB,rE,↓reduceIte];exact cI _ _) hdeep1 rfl rfl ?_;intro S2 s2 n2 c2;simp only[↓aC,aB,rE,↓reduceIte];have b2:=b1.trans s2;have gb2:S2.h.get S.nx=some (.cells [.int .i64 g.players,nv,iv] false 0):=by rw[s2.2 _ (by omega) (by omega)];exact c1
  refine bE ?_;simp only[↓aC,aB,rE,↓reduceIte,w1];refine eG ?_;simp only[↓aC,aB,rE,↓reduceIte];have hW:eE g.nodes.length (dB g) (f+1) at_ p d=(fW (fun r=>eE g.nodes.length (dB g) f r at_ (d+1)) x.next (at_+1)).map fun L=>(p,d,((at_+L.length:Nat):Int))::L:=by
   simp only[eE,if_pos hlt',hnx]
  rw[hW];refine aS (Q:=fun o A' X=>(o= .normal∧aL9 S2 S.nx db at_ d (mx deep d) (fun r=>eE g.nodes.length (dB g) f r at_ (d+1)) x.next 0 A' X)∨(o= .ret∧bQ db S2 X∧fW (fun r=>eE g.nodes.length (dB g) f r at_ (d+1)) x.next (at_+1)=none∧aD 8 A'.F= .int .i64 (-1)∧∃z,X.h.get db=some (.cells [.int .i64 z] false 0))) (aJ (bB (aL9 S2 S.nx db at_ d (mx deep d) (fun r=>eE g.nodes.length (dB g) f r at_ (d+1)) x.next) ?_ x.next.length _ _ ⟨rfl,bQ.refl _ _,0,[],by omega,by rw[Bu];omega,by simp,by simp only[↓aC,aB,rE,↓reduceIte],by simp only[↓aC,aB,rE,↓reduceIte],by simp only[↓aC,aB,rE,↓reduceIte],by simp only[↓aC,aB,rE,↓reduceIte],by simp only[↓aC,aB,rE,↓reduceIte];rfl,by simp only[↓aC,aB,rE,↓reduceIte],c2⟩)) ?_
  ·rintro k ⟨F,inr⟩ X ⟨q0,hX,j,L,hjk,hL20,hkid,p1,p2,p3,p4,p9,p10,hdX⟩;simp only at q0 p1 p2 p3 p4 p9 p10;subst q0;have hbX:=b2.trans hX;have hSX:Same S0 X:=bQ.same hS hbX hdb;have gbX:X.h.get S.nx=some (.cells [.int .i64 g.players,nv,iv] false 0):=by rw[hX.2 _ (by omega) (by omega)];exact gb2
   obtain⟨e,b,q,hia,hb,he,⟨a,bb,cc,rfl,ha,_,_⟩,_,hlf⟩:=aN.at (aN.same (E:=bT) bI hn hSX) (by decide) hx;have hl3:=hlf 3 a rfl;refine eG ?_;simp only[↓aC,aB,rE,↓reduceIte,p1,p4,p10,aH,aG,aHz gbX,aE,hia,hl3,ha.len,Ag];by_cases hj:j<x.next.length
   ·refine aM (by simp only[↓aC,aB,rE,↓reduceIte,Ab (show(j:Int)<((x.next.length:Nat):Int) by omega)]) (aI ?_);try simp only[↓aC,aB,rE,↓reduceIte]
    have hias:=ha.iaddr hj;have hlds:=ha.ld hj;have hdrop:x.next.drop j=x.next[j]::x.next.drop (j+1):=Br hj;have hgd:x.next.getD j 0=x.next[j]:=by rw[Ad,Ac hj];rfl
    rw[hgd] at hlds;rw[hdrop] at hkid;generalize x.next[j]=c at *;refine aA (aJ (aA (aA (aF ?_))));simp only[↓aC,aB,rE,↓reduceIte,p1,p4,p9,p10,aH,aG,aHz gbX,aE,hia,hl3,hias,hlds];by_cases hc:c=((at_+1+L.length:Nat):Int);rotate_left
    ·refine aM (by simp only[↓aC,aB,rE,↓reduceIte,Ab (show c≠((at_+1+L.length:Nat):Int) from hc)]) ?_;refine bE ?_;simp only[↓aC,aB,rE,↓reduceIte];refine aO ?_;simp only[↓aC,aB,rE,↓reduceIte];refine .inr ⟨hX,?_,rfl,_,hdX⟩;rw[hkid];simp only[fW,if_neg hc];rfl
    refine aK (by simp only[↓aC,aB,rE,↓reduceIte,Aa (show ¬c≠((at_+1+L.length:Nat):Int) from fun h=>h hc)]) (aI ?_);try simp only[↓aC,aB,rE,↓reduceIte]
    simp only[fW,if_pos hc] at hkid;have hr:at_+1+L.length≤3000:=by omega
    refine bE ?_;simp only[↓aC,aB,rE,↓reduceIte,p2,p3,p4,p9,ld3 gbX,w2];refine aY ?_;simp only[↓aC,aB,rE,↓reduceIte];refine aP (ih (S:=X) (at_:=at_+1+L.length) (p:=at_) (d:=d+1) (by omega) (by omega) (by omega) hr hlen hSX (Ae hlt hbX.1) hdX) ?_;rintro r Y ⟨hY,hres⟩;cases hw:eE g.nodes.length (dB g) f (at_+1+L.length) at_ (d+1) with
    | none=>
     rw[hw] at hres hkid;obtain⟨rfl,hz⟩:=hres;try simp only[↓aC,aB,rE,↓reduceIte]
     refine bE ?_;simp only[↓aC,aB,rE,↓reduceIte];refine aM (by simp only[↓aC,aB,rE,↓reduceIte];rfl) ?_;refine bE ?_;simp only[↓aC,aB,rE,↓reduceIte];refine aO ?_;simp only[↓aC,aB,rE,↓reduceIte];refine .inr ⟨hX.trans hY,?_,rfl,hz⟩;rw[hkid];rfl
    | some L1=>
     rw[hw] at hres hkid;obtain⟨rfl,hdY⟩:=hres;have hwl:=(uQ hw).1;simp only[Option.bind_some,Option.map_map] at hkid;try simp only[↓aC,aB,rE,↓reduceIte]
     refine bE ?_;simp only[↓aC,aB,rE,↓reduceIte];refine aK (by simp only[↓aC,aB,rE,↓reduceIte,Aa (show ¬ ((at_+1+L.length+L1.length:Nat):Int)<0 by omega)]) (aI ?_);try simp only[↓aC,aB,rE,↓reduceIte]
     refine aF ?_;have w3:IntKind.i64.wrap ((j:Int)+1)=((j+1:Nat):Int):=by rw[wrap_i64 (by omega) (by omega)];omega
     simp only[↓aC,aB,rE,↓reduceIte,p10,w3];refine⟨k - 1,by omega,rfl,hX.trans hY,j+1,L++L1,by omega,by rw[Ak];omega,?_,by simp only[↓aC,aB,rE,↓reduceIte,p1],by simp only[↓aC,aB,rE,↓reduceIte,p2],by simp only[↓aC,aB,rE,↓reduceIte,p3],by simp only[↓aC,aB,rE,↓reduceIte,p4],by simp only[↓aC,aB,rE,↓reduceIte,Ak];congr 1;omega,by simp only[↓aC,aB,rE,↓reduceIte],?_⟩
     ·rw[hkid,Ak,←Cr];congr 1;funext M;simp
     ·rw[aFf];exact hdY
   ·refine aK (by simp only[↓aC,aB,rE,↓reduceIte,Aa (show ¬ (j:Int)<((x.next.length:Nat):Int) by omega)]) (aU ?_);simp only[↓aC,aB,rE,↓reduceIte];have hk0:k=0:=by omega
    subst hk0;exact .inl ⟨rfl,hX,j,L,hjk,hL20,hkid,by simp only[↓aC,aB,rE,↓reduceIte,p1],by simp only[↓aC,aB,rE,↓reduceIte,p2],by simp only[↓aC,aB,rE,↓reduceIte,p3],by simp only[↓aC,aB,rE,↓reduceIte,p4],by simp only[↓aC,aB,rE,↓reduceIte,p9],by simp only[↓aC,aB,rE,↓reduceIte,p10],hdX⟩
  rintro o ⟨F,inr⟩ X (⟨rfl,q0,hX,j,L,hjk,hL20,hkid,p1,p2,p3,p4,p9,p10,hdX⟩ | ⟨rfl,hX,hno,p8,hz⟩)
  ·simp only at q0 p9;subst q0;rw[Cc (by omega)] at hkid;simp only[fW,Es,Bs] at hkid;rw[hkid];try simp only[↓aC,aB,rE,↓reduceIte]
   refine bE ?_;simp only[↓aC,aB,rE,↓reduceIte,p9];refine aO ?_;simp only[↓aC,aB,rE,↓reduceIte];refine⟨b2.trans hX,?_,?_⟩
   ·congr 1;simp;omega
   ·exact hdX
  ·rw[hno];simp only at p8;simp only[↓aC,aB,rE,↓reduceIte,p8];exact⟨b2.trans hX,rfl,hz⟩
def bC(l:List Int):List AV:=l.map (AV.int .i64)
theorem aB7(l:List Int):(bC l).length=l.length:=by simp [bC]
theorem jO{S S':St}(h:Same S S'){b p n:Nat}{agg:Bool}(hb:b<S.nx):dT (.ptr b p) agg n S'.h=dT (.ptr b p) agg n S.h:=by
 have e:=rU h hb;simp only[dT,lG,tC,jW,e]
theorem oC{S:St}{b p:Nat}{w:Int}{l:List Int}{o:Bool}{sz:Nat}(h:S.h.get b=some (.cells (bC l) o sz))(hp:p<l.length):lK (.ptr b p) 1 [.int .i64 w] S=some (.undef,⟨S.h.set b (some (.cells (bC (l.set p w)) o sz)),S.nx⟩):=by
 have hput:put (bC l) p [AV.int .i64 w]=some (bC (l.set p w)):=by
  rw[put_eq,if_pos (by rw[aB7];simp;omega)];congr 1;unfold bC;rw[List.map_set,List.set_eq_take_append_cons_drop,if_pos (by simp;omega)];simp
 simp only[lK,pD,h,aT,wL,hput];rfl
theorem aBg{S:St}{b N sz:Nat}{l:List Int}{o:Bool}(h:S.h.get b=some (.cells (bC l) o sz))(hb:b<S.nx)(hl:l.length=N):bN .i64 S (.sl b 0 N N false) l:=by
 subst hl;refine .inr ⟨b,0,l.length,false,bC l,rfl,Ah _,hb,by unfold cS;rw[h];rfl,fun i x hi=>?_⟩;rw[An];unfold bC;rw[Az,hi];rfl
theorem dI{b N i:Nat}{o:Bool}(hi:i<N):eU (.slice 1) (.sl b 0 N N o) i=some (.ptr b i):=ia8 hi
theorem qD{W:Nat→Prop}{h0:T AB}{base m i:Nat}{l:List AO}{F:Fr}{S:St}{last:Option Nat}{Q:Fr→St→List iV→Prop}{x v:cJ}{b p sz:Nat}{w:Int}{P:List Int}{o:Bool}(h:kV last m=true)(hx:x.val F= .ptr b p)(hv:v.val F= .int .i64 w)(hb:S.h.get b=some (.cells (bC P) o sz))(hp:p<P.length)(hW:W b)
  (hr:∀S1,bQ b S S1→S1.nx=S.nx→S1.h.get b=some (.cells (bC (P.set p w)) o sz)→fQ fns W h0 base l (i+1) F S1 [] (some i) Q):fQ fns W h0 base (⟨none,.x (.st 1 x v),none,m⟩::l) i F S [] last Q:=by
 have hS:bQ b S ⟨S.h.set b (some (.cells (bC (P.set p w)) o sz)),S.nx⟩:=(bQ.refl b S).put _;refine xK (S1:=⟨S.h.set b (some (.cells (bC (P.set p w)) o sz)),S.nx⟩) h ?_ ⟨Ah _,fun c hc hw=>?_⟩ (hr _ hS rfl ?_)
 ·rw[hv,cI,aT,hx];exact oC (S:=S) hb hp
 ·simp only;rw[T.get_set,if_neg (show ¬c=b from fun e=>hw (by rw[e];exact hW))];rfl
 ·simp only;rw[T.get_set,if_pos rfl]
def sT(T:List cC)(a j:Nat):Option cC:=if a≤j then T[j - a]? else none
def fU(sel:cC→Int)(P P':List Int)(T:List cC)(a:Nat):Prop:=P'.length=P.length∧∀j,P'.getD j 0=((sT T a j).map sel).getD (P.getD j 0)
theorem fU.nil(sel:cC→Int)(P:List Int)(a:Nat):fU sel P P [] a:=⟨rfl,fun j=>by unfold sT;split<;>simp⟩
theorem aLV{T:List cC}{a j:Nat}{t:cC}(h:sT T a j=some t):a≤j∧j<a+T.length:=by
 unfold sT at h;split at h
 ·have:=(Ai.1 h).1;omega
 ·cases h
theorem aI0{T:List cC}{a j:Nat}(h:j<a∨a+T.length≤j):sT T a j=none:=by
 unfold sT;split
 ·exact Ch (by omega)
 ·rfl
theorem aAQ(T T':List cC)(a j:Nat):sT (T++T') a j=(sT T a j).or (sT T' (a+T.length) j):=by
 unfold sT;by_cases h:a≤j
 ·rw[if_pos h,if_pos h,List.getElem?_append];by_cases h1:j - a<T.length
  ·rw[if_pos h1,if_neg (by omega),Ac h1];rfl
  ·rw[if_neg h1,if_pos (by omega),Ch (l:=T) (i:=j - a) (by omega),show j - a - T.length=j - (a+T.length) by omega];rfl
 ·rw[if_neg h,if_neg h,if_neg (by omega)];rfl
theorem fU.append{sel:cC→Int}{P P1 P2:List Int}{T T':List cC}{a:Nat}(h1:fU sel P P1 T a)(h2:fU sel P1 P2 T' (a+T.length)):fU sel P P2 (T++T') a:=by
 refine⟨h2.1.trans h1.1,fun j=>?_⟩;rw[h2.2,h1.2,aAQ];cases hc:sT T a j with
 | none=>rfl
 | some t=>
  have:=aLV hc;rw[aI0 (by omega)];rfl
theorem dP{P:List Int}{i j:Nat}{v:Int}(hi:i<P.length):(P.set i v).getD j 0=if j=i then v else P.getD j 0:=by
 rw[Ad,Dt];by_cases h:i=j
 ·subst h;rw[if_pos rfl,if_pos rfl,if_pos hi];rfl
 ·rw[if_neg h,if_neg (Co h),Ad]
theorem aES(t:cC)(a j:Nat):sT [t] a j=if j=a then some t else none:=by
 unfold sT;by_cases h:j=a
 ·subst h;simp
 ·rw[if_neg h];split
  ·exact Ch (by simp;omega)
  ·rfl
theorem fU.one{sel:cC→Int}{P:List Int}{t:cC}{a:Nat}{v:Int}(ha:a<P.length)(hv:sel t=v):fU sel P (P.set a v) [t] a:=by
 refine⟨Al ..,fun j=>?_⟩;rw[dP ha,aES];by_cases h:j=a
 ·rw[if_pos h,if_pos h,←hv];rfl
 ·rw[if_neg h,if_neg h];rfl
theorem fU.late{sel:cC→Int}{P P1:List Int}{t:cC}{L:List cC}{a:Nat}{v:Int}(h:fU sel P P1 L (a+1))(ha:a<P.length)(hv:sel t=v):fU sel P (P1.set a v) (t::L) a:=by
 refine⟨by rw[Al];exact h.1,fun j=>?_⟩;rw[dP (by rw[h.1];exact ha),h.2];have e:sT (t::L) a j=(sT [t] a j).or (sT L (a+1) j):=aAQ [t] L a j;rw[e,aES];by_cases hj:j=a
 ·rw[if_pos hj,if_pos hj,←hv];rfl
 ·rw[if_neg hj,if_neg hj];rfl
structure WK(S:St)(wb pb db lb N:Nat)(ps:Int)(nv iv:AV)(P D L:List Int):Prop where
 w:qJ S wb ps nv iv (.sl pb 0 N N false) (.sl db 0 N N false) (.sl lb 0 N N false)
 gp:S.h.get pb=some (.cells (bC P) false 0)
 gd:S.h.get db=some (.cells (bC D) false 0)
 gl:S.h.get lb=some (.cells (bC L) false 0)
 lp:P.length=N
 ld:D.length=N
 ll:L.length=N
 bp:pb<S.nx
 bd:db<S.nx
 bl:lb<S.nx
def oG(pb db lb:Nat)(S S':St):Prop:=S.nx≤S'.nx∧∀c,c<S.nx→c≠pb→c≠db→c≠lb→S'.h.get c=S.h.get c
theorem oG.refl(pb db lb:Nat)(S:St):oG pb db lb S S:=⟨Ah _,fun _ _ _ _ _=>rfl⟩
theorem oG.trans{pb db lb:Nat}{S S' S'':St}(h:oG pb db lb S S')(h':oG pb db lb S' S''):oG pb db lb S S'':=⟨Ay h.1 h'.1,fun c hc h1 h2 h3=>(h'.2 c (Ae hc h.1) h1 h2 h3).trans (h.2 c hc h1 h2 h3)⟩
theorem oG.same{pb db lb:Nat}{S0 S S':St}(h0:Same S0 S)(h:oG pb db lb S S')(h1:S0.nx≤pb)(h2:S0.nx≤db)(h3:S0.nx≤lb):Same S0 S':=⟨Ay h0.1 h.1,fun c hc=>(h.2 c (Ae hc h0.1) (by omega) (by omega) (by omega)).trans (h0.2 c hc)⟩
def aND(S0 S:St)(wb pb db lb:Nat)(ps:Int)(nv iv:AV)(g:aW)(P D L:List Int)(at_:Nat)(o:Option (List cC))(r:AV)(S':St):Prop:=
 oG pb db lb S S'∧∃P' D' L',WK S' wb pb db lb g.nodes.length ps nv iv P' D' L'∧match o with
 | some T=>(∃v,r= .tup [v,.bool true]∧aN 6 bT S0 v (g.nodes.drop (at_+T.length)))∧fU (·.1) P P' T at_∧fU (·.2.1) D D' T at_∧fU (·.2.2) L L' T at_
 | none=>r= .tup [.nilsl,.bool false]
def aNM(S0 S2:St)(wb pb db lb:Nat)(ps:Int)(nv iv a:AV)(g:aW)(P D L:List Int)(at_:Nat)(d:Int)(rec:Nat→Option (List cC))(ks:List Int)(k:Nat)(A:bH)(X:St):Prop:=
 A.inr=false∧oG pb db lb S2 X∧∃ (j:Nat) (T:List cC) (P' D' L':List Int) (v:AV),j+k=ks.length∧at_+1+T.length≤g.nodes.length∧fW rec ks (at_+1)=(fW rec (ks.drop j) (at_+1+T.length)).map (T++ ·)∧
  WK X wb pb db lb g.nodes.length ps nv iv P' D' L'∧fU (·.1) P P' T (at_+1)∧fU (·.2.1) D D' T (at_+1)∧fU (·.2.2) L L' T (at_+1)∧aN 6 bT S0 v (g.nodes.drop (at_+1+T.length))∧
  aD 0 A.F= .ptr wb 0∧aD 2 A.F= .int .i64 d∧aD 10 A.F= .int .i64 (at_:Int)∧aD 11 A.F=v∧aD 46 A.F=a∧aD 47 A.F= .int .i64 ((ks.length:Nat):Int)∧aD 48 A.F= .int .i64 (j:Int)
theorem aIh{S0:St}{nv iv:AV}{g:aW}{wb pb db lb:Nat}{ps:Int}(H:Has fns)(hG:aN 6 bT S0 nv g.nodes)(hwb:S0.nx≤wb)(hpb:S0.nx≤pb)(hdb:S0.nx≤db)(hlb:S0.nx≤lb)(ne1:pb≠db)(ne2:pb≠lb)(ne3:db≠lb)(ne4:wb≠pb)(ne5:wb≠db)(ne6:wb≠lb)(hN:g.nodes.length≤2000)(hlen:∀x∈g.nodes,x.next.length≤1000):
  ∀ (f:Nat) {S:St} {at_:Nat} {p d:Int} {rv:AV} {P D L:List Int},g.nodes.length+1 - at_≤f→0≤d→d≤at_→at_≤g.nodes.length→Same S0 S→WK S wb pb db lb g.nodes.length ps nv iv P D L→aN 6 bT S0 rv (g.nodes.drop at_)→
  fA fns (.fn 89 [] []) [.ptr wb 0,.int .i64 p,.int .i64 d,rv] S fun r S'=>aND S0 S wb pb db lb ps nv iv g P D L at_ (eE g.nodes.length (dB g) f at_ p d) r S':=by
 intro f
 induction f with
 | zero=>intro S at_ p d rv P D L hf hd0 hd hat;omega
 | succ f ih=>
  intro S at_ p d rv P D L hf hd0 hd hat hS hK hrv;have hrl:=hrv.len;rw[Da] at hrl;refine bP H.f89 (by simp) ?_;simp only[↓sU,sD,rE,↓reduceIte,rA];refine bE ?_;simp only[↓sU,sD,rE,↓reduceIte,rA];refine eG ?_;simp only[↓sU,sD,rE,↓reduceIte,rA,hrl];by_cases hlt:at_<g.nodes.length;rotate_left
  ·refine aM (by simp only[↓sU,sD,rE,↓reduceIte,rA,Ab (show((g.nodes.length - at_:Nat):Int)=0 by omega)]) ?_;refine bE ?_;simp only[↓sU,sD,rE,↓reduceIte,rA];refine aO ?_;simp only[↓sU,sD,rE,↓reduceIte,rA];simp only[eE,if_neg hlt];exact⟨oG.refl _ _ _ _,P,D,L,hK,rfl⟩
  refine aK (by simp only[↓sU,sD,rE,↓reduceIte,rA,Aa (show ¬ ((g.nodes.length - at_:Nat):Int)=0 by omega)]) (aI ?_);try simp only[↓sU,sD,rE,↓reduceIte,rA]
  obtain⟨x,hx⟩:∃x,g.nodes[at_]? =some x:=⟨_,Ac hlt⟩;have hnx:=wR hx;have hxl:=hlen x (Bm hx);have hnl:=hG.len;have hdrop:g.nodes.drop at_=x::g.nodes.drop (at_+1):=by
   rw[Br hlt];congr 1;rw[Ac hlt] at hx;exact Bk hx
  rw[hdrop] at hrv;have w1:IntKind.i64.wrap (((g.nodes.length:Nat):Int) - ((g.nodes.length - at_:Nat):Int))=(at_:Int):=by rw[wrap_i64 (by omega) (by omega)];omega
  refine bE ?_;simp only[↓sU,sD,rE,↓reduceIte,rA,bF,bG,aH,aG,cT hK.w.1,hnl,hrl,w1];have wlt:=hK.w.2;have hwn:¬ (wb=pb∨wb=db):=by omega
  refine aA (cR (fun b=>b=pb∨b=db) ?_);intro S1 s1;have hia1:=dI (b:=pb) (o:=false) hlt;have hia2:=dI (b:=db) (o:=false) hlt;simp only[↓sU,sD,rE,↓reduceIte,rA,bF,bO,bG,aH,aX,aG,cP hK.w.1,cU hK.w.1,wlt,hwn,Aq,hia1,hia2];have l1:=s1.1;have bp:=hK.bp;have bd:=hK.bd;have bl:=hK.bl;refine qD (p:=at_) (w:=p) rfl (by simp only[↓sU,sD,rE,↓reduceIte,rA]) (by simp only[↓sU,sD,rE,↓reduceIte,rA]) (by rw[s1.2 _ hK.bp];exact hK.gp) (by rw[hK.lp];exact hlt) (.inl rfl) ?_;intro S2 s2 n2 c2;simp only[↓sU,sD,rE,↓reduceIte,rA,hia2];refine qD (p:=at_) (w:=d) (show Nat.testBit 32767 13=true by decide) (by simp only[↓sU,sD,rE,↓reduceIte,rA]) (by simp only[↓sU,sD,rE,↓reduceIte,rA]) (by rw[s2.2 _ (by omega) (Co ne1),s1.2 _ hK.bd];exact hK.gd) (by rw[hK.ld];exact hlt) (.inr rfl) ?_;intro S3 s3 n3 c3;simp only[↓sU,sD,rE,↓reduceIte,rA];have b3:oG pb db lb S S3:=⟨by omega,fun c hc h1 h2 h3=>by rw[s3.2 _ (by omega) h2,s2.2 _ (by omega) h1,s1.2 _ hc]⟩;have hS3:Same S0 S3:=b3.same hS hpb hdb hlb;have hK3:WK S3 wb pb db lb g.nodes.length ps nv iv (P.set at_ p) (D.set at_ d) L:=⟨⟨by rw[b3.2 _ wlt ne4 ne5 ne6];exact hK.w.1,Ae wlt b3.1⟩,by rw[s3.2 _ (by omega) ne1];exact c2,c3,by rw[s3.2 _ (by omega) (Co ne3),s2.2 _ (by omega) (Co ne2),s1.2 _ hK.bl];exact hK.gl,by rw[Al];exact hK.lp,by rw[Al];exact hK.ld,hK.ll,by omega,by omega,by omega⟩;obtain⟨rv',hslc,hrv'⟩:=aN.tail hrv;have hsl1:∀F:Fr,qN (.slice 6) rv (some (.c (.int .i64 1))) none none F=some rv':=fun F=>hslc F _ rfl;refine bE ?_;simp only[↓sU,sD,rE,↓reduceIte,rA,hsl1];obtain⟨e,b,q,hia,hb,he,⟨a,bb,cc,rfl,ha,_,_⟩,_,hlf⟩:=aN.at hrv (by decide) (i:=0) rfl;have hl3:=hlf 3 a rfl;rw[←jO hS3 hb] at hl3;refine eG ?_;simp only[↓sU,sD,rE,↓reduceIte,rA,aIR,hia,aH,aG,hl3,ha.len,Ag];have hW:eE g.nodes.length (dB g) (f+1) at_ p d=(fW (fun r=>eE g.nodes.length (dB g) f r at_ (d+1)) x.next (at_+1)).map fun L=>(p,d,((at_+L.length:Nat):Int))::L:=by
   simp only[eE,if_pos hlt,hnx]
  rw[hW];refine aS (Q:=fun o A' X=>(o= .normal∧aNM S0 S3 wb pb db lb ps nv iv a g (P.set at_ p) (D.set at_ d) L at_ d (fun r=>eE g.nodes.length (dB g) f r at_ (d+1)) x.next 0 A' X)∨(o= .ret∧oG pb db lb S3 X∧fW (fun r=>eE g.nodes.length (dB g) f r at_ (d+1)) x.next (at_+1)=none∧aD 8 A'.F= .nilsl∧aD 9 A'.F= .bool false∧∃P' D' L',WK X wb pb db lb g.nodes.length ps nv iv P' D' L')) (aJ (bB (aNM S0 S3 wb pb db lb ps nv iv a g (P.set at_ p) (D.set at_ d) L at_ d (fun r=>eE g.nodes.length (dB g) f r at_ (d+1)) x.next) ?_ x.next.length _ _ ⟨rfl,oG.refl _ _ _ _,0,[],P.set at_ p,D.set at_ d,L,rv',by omega,by rw[Bu];omega,by simp,hK3,fU.nil _ _ _,fU.nil _ _ _,fU.nil _ _ _,hrv',by refine⟨?_,?_,?_,?_,?_,?_,?_⟩<;>simp only[↓sU,sD,rE,↓reduceIte,rA]⟩)) ?_
  ·rintro k ⟨F,inr⟩ X ⟨q0,hX,j,T,P',D',L',v,hjk,hTN,hkid,hKX,rP,rD,rL,hv,p0,p2,p10,p11,p46,p47,p48⟩;simp only at q0 p0 p2 p10 p11 p46 p47 p48;subst q0;have hSX:Same S0 X:=hX.same hS3 hpb hdb hlb;have haX:=ha.same hSX;have hvl:=hv.len;rw[Da] at hvl;refine bE ?_;simp only[↓sU,sD,rE,↓reduceIte,rA,p47,p48];by_cases hj:j<x.next.length
   ·refine aA (aM (by simp only[↓sU,sD,rE,↓reduceIte,rA,Ab (show(j:Int)<((x.next.length:Nat):Int) by omega)]) (aI ?_));simp only[↓sU,sD,rE,↓reduceIte,rA];have hias:=haX.iaddr hj;have hlds:=haX.ld hj;have hdr:x.next.drop j=x.next[j]::x.next.drop (j+1):=Br hj;have hgd:x.next.getD j 0=x.next[j]:=by rw[Ad,Ac hj];rfl
    rw[hgd] at hlds;rw[hdr] at hkid;generalize x.next[j]=c at *;have w2:IntKind.i64.wrap (((g.nodes.length:Nat):Int) - ((g.nodes.length - (at_+1+T.length):Nat):Int))=((at_+1+T.length:Nat):Int):=by rw[wrap_i64 (by omega) (by omega)];omega
    have w3:IntKind.i64.wrap (d+1)=d+1:=wrap_i64 (by omega) (by omega);have w4:IntKind.i64.wrap ((j:Int)+1)=((j+1:Nat):Int):=by rw[wrap_i64 (by omega) (by omega)];omega
    refine aA (aJ (aA (aF ?_)));simp only[↓sU,sD,rE,↓reduceIte,rA,p46,p48,aE,hias,hlds];refine eG ?_;simp only[↓sU,sD,rE,↓reduceIte,rA,p0,p11,bF,bG,aH,aG,cT hKX.w.1,hnl,hvl,w2];by_cases hc:c=((at_+1+T.length:Nat):Int);rotate_left
    ·refine aM (by simp only[↓sU,sD,rE,↓reduceIte,rA,Ab (show c≠((at_+1+T.length:Nat):Int) from hc)]) ?_;refine bE ?_;simp only[↓sU,sD,rE,↓reduceIte,rA];refine aO ?_;simp only[↓sU,sD,rE,↓reduceIte,rA];refine .inr ⟨hX,?_,P',D',L',hKX⟩;rw[hkid];simp only[fW,if_neg hc];rfl
    refine aK (by simp only[↓sU,sD,rE,↓reduceIte,rA,Aa (show ¬c≠((at_+1+T.length:Nat):Int) from fun h=>h hc)]) (aI ?_);try simp only[↓sU,sD,rE,↓reduceIte,rA]
    simp only[fW,if_pos hc] at hkid;refine bE ?_;simp only[↓sU,sD,rE,↓reduceIte,rA,p0,p2,p10,p11,w3];refine aY ?_;simp only[↓sU,sD,rE,↓reduceIte,rA];refine aP (ih (S:=X) (at_:=at_+1+T.length) (p:=at_) (d:=d+1) (by omega) (by omega) (by omega) hTN hSX hKX hv) ?_;rintro r Y ⟨hY,P2,D2,L2,hKY,hres⟩;cases hw:eE g.nodes.length (dB g) f (at_+1+T.length) at_ (d+1) with
    | none=>
     rw[hw] at hres hkid;subst hres;simp only[↓sU,sD,rE,↓reduceIte,rA,ex0,ex1];refine bE ?_;simp only[↓sU,sD,rE,↓reduceIte,rA,dH,Bq];refine aM (by simp only[↓sU,sD,rE,↓reduceIte,rA]) ?_;refine bE ?_;simp only[↓sU,sD,rE,↓reduceIte,rA];refine aO ?_;simp only[↓sU,sD,rE,↓reduceIte,rA];refine .inr ⟨hX.trans hY,?_,P2,D2,L2,hKY⟩;rw[hkid];rfl
    | some T1=>
     rw[hw] at hres hkid;obtain⟨⟨v2,rfl,hv2⟩,k1,k2,k3⟩:=hres;simp only[Option.bind_some,Option.map_map] at hkid;have hwl:=(uQ hw).1;simp only[↓sU,sD,rE,↓reduceIte,rA,ex0,ex1];refine bE ?_;simp only[↓sU,sD,rE,↓reduceIte,rA,dH,Bl];refine aK (by simp only[↓sU,sD,rE,↓reduceIte,rA]) (aI ?_);try simp only[↓sU,sD,rE,↓reduceIte,rA]
     refine aF ?_;simp only[↓sU,sD,rE,↓reduceIte,rA,p48,w4];refine⟨k - 1,by omega,rfl,hX.trans hY,j+1,T++T1,P2,D2,L2,v2,by omega,by rw[Ak];omega,?_,hKY,rP.append k1,rD.append k2,rL.append k3,by rw[Ak,←Cr];exact hv2,by refine⟨?_,?_,?_,?_,?_,?_,?_⟩<;>simp only[↓sU,sD,rE,↓reduceIte,rA,p0,p2,p10,p46,p47]⟩;rw[hkid,Ak,←Cr];congr 1;funext M;simp
   ·refine aA (aK (by simp only[↓sU,sD,rE,↓reduceIte,rA,Aa (show ¬ (j:Int)<((x.next.length:Nat):Int) by omega)]) (aU ?_));simp only[↓sU,sD,rE,↓reduceIte,rA];have hk0:k=0:=by omega
    subst hk0;exact .inl ⟨rfl,hX,j,T,P',D',L',v,hjk,hTN,hkid,hKX,rP,rD,rL,hv,by refine⟨?_,?_,?_,?_,?_,?_,?_⟩<;>simp only[↓sU,sD,rE,↓reduceIte,rA,p0,p2,p10,p11,p46,p47,p48]⟩
  rintro o ⟨F,inr⟩ X (⟨rfl,q0,hX,j,T,P',D',L',v,hjk,hTN,hkid,hKX,rP,rD,rL,hv,p0,p2,p10,p11,p46,p47,p48⟩ | ⟨rfl,hX,hno,p8,p9,P',D',L',hKX⟩);rotate_left
  ·rw[hno];simp only at p8 p9;simp only[↓sU,sD,rE,↓reduceIte,rA,p8,p9];exact⟨b3.trans hX,P',D',L',hKX,rfl⟩
  simp only at q0 p0 p10 p11;subst q0;rw[Cc (by omega)] at hkid;simp only[fW,Es,Bs] at hkid;rw[hkid];have hvl:=hv.len;rw[Da] at hvl;have w2:IntKind.i64.wrap (((g.nodes.length:Nat):Int) - ((g.nodes.length - (at_+1+T.length):Nat):Int))=((at_+1+T.length:Nat):Int):=by rw[wrap_i64 (by omega) (by omega)];omega
  have w5:IntKind.i64.wrap (((at_+1+T.length:Nat):Int) - 1)=((at_+T.length:Nat):Int):=by rw[wrap_i64 (by omega) (by omega)];omega
  have wltX:=hKX.w.2;have hia3:=dI (b:=lb) (o:=false) hlt;try simp only[↓sU,sD,rE,↓reduceIte,rA]
  refine aA (cR (fun b=>b=lb) ?_);intro S4 s4;simp only[↓sU,sD,rE,↓reduceIte,rA,p0,p10,p11,bF,bO,bG,aH,aX,aG,cT hKX.w.1,dF hKX.w.1,hnl,hvl,w2,w5,wltX,ne6,Aq,hia3,aN.self hG];have l4:=s4.1;have bpX:=hKX.bp;have bdX:=hKX.bd;have blX:=hKX.bl;refine qD (p:=at_) (w:=((at_+T.length:Nat):Int)) rfl (by simp only[↓sU,sD,rE,↓reduceIte,rA]) (by simp only[↓sU,sD,rE,↓reduceIte,rA]) (by rw[s4.2 _ hKX.bl];exact hKX.gl) (by rw[hKX.ll];exact hlt) rfl ?_;intro S5 s5 n5 c5;simp only[↓sU,sD,rE,↓reduceIte,rA];have b5:oG pb db lb X S5:=⟨by omega,fun c hc h1 h2 h3=>by rw[s5.2 _ (by omega) h3,s4.2 _ hc]⟩;refine bE ?_;simp only[↓sU,sD,rE,↓reduceIte,rA,p11];refine aO ?_;simp only[↓sU,sD,rE,↓reduceIte,rA];have hatP:at_<P.length:=by rw[hK.lp];exact hlt
  have hatD:at_<D.length:=by rw[hK.ld];exact hlt
  have hatL:at_<L.length:=by rw[hK.ll];exact hlt
  refine⟨b3.trans (hX.trans b5),P',D',L'.set at_ ((at_+T.length:Nat):Int),⟨⟨by rw[b5.2 _ wltX ne4 ne5 ne6];exact hKX.w.1,Ae wltX b5.1⟩,by rw[s5.2 _ (by omega) ne2,s4.2 _ hKX.bp];exact hKX.gp,by rw[s5.2 _ (by omega) ne3,s4.2 _ hKX.bd];exact hKX.gd,c5,hKX.lp,hKX.ld,by rw[Al];exact hKX.ll,by show _<S5.nx;omega,by show _<S5.nx;omega,by show _<S5.nx;omega⟩,⟨v,rfl,?_⟩,?_,?_,?_⟩
  ·rw[Au,show at_+(T.length+1)=at_+1+T.length by omega];exact hv
  ·exact fU.append (T:=[(p,d,((at_+T.length:Nat):Int))]) (fU.one hatP rfl) rP
  ·exact fU.append (T:=[(p,d,((at_+T.length:Nat):Int))]) (fU.one hatD rfl) rD
  ·exact fU.late rL hatL rfl
end Go.Ev.Gl
