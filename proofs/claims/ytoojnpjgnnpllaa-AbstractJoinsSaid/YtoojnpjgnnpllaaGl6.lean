import Derived.Test.YtoojnpjgnnpllaaGl5
open Nat renaming reduceEqDiff → rE, reduceAdd → rA
set_option maxHeartbeats 16000000
set_option linter.unusedSimpArgs false
set_option linter.unusedVariables false
namespace Go.Ev.Gl
variable {fns:T eG}
structure dG where
 kind:Int
 player:Int
 info:Int
 next:List Int
 weights:List Int
 pay:List Int
structure aAp where
 player:Int
 actions:Int
structure aR where
 players:Int
 nodes:List dG
 infos:List aAp
def iI(lo hi:Int)(l:List Int):Prop:=∃w∈l,w<lo∨hi<w
instance anyOutDec(lo hi:Int)(l:List Int):Decidable (iI lo hi l):=by unfold iI;exact inferInstance
def mK(x:dG):Prop:=x.player≠0∨x.info≠0∨(0:Int)<((x.pay.length:Nat):Int)∨((x.next.length:Nat):Int)<1∨(60:Int)<((x.next.length:Nat):Int)∨((x.weights.length:Nat):Int)≠((x.next.length:Nat):Int)
def vF(x:dG):Prop:=(0:Int)<((x.weights.length:Nat):Int)∨(0:Int)<((x.pay.length:Nat):Int)∨((x.next.length:Nat):Int)<1∨(10:Int)<((x.next.length:Nat):Int)
def mT(ps:Int)(x:dG):Prop:=x.player≠0∨x.info≠0∨(0:Int)<((x.next.length:Nat):Int)∨(0:Int)<((x.weights.length:Nat):Int)∨((x.pay.length:Nat):Int)≠ps
instance badCDec(x:dG):Decidable (mK x):=by unfold mK;exact inferInstance
instance badMDec(x:dG):Decidable (vF x):=by unfold vF;exact inferInstance
instance badEDec(ps:Int)(x:dG):Decidable (mT ps x):=by unfold mT;exact inferInstance
def gK(ps:Int)(ni:Nat)(x:dG):Int:=
 if x.kind=1 then(if mK x then 3 else if iI 1 1000 x.weights then 2 else 0)
 else if x.kind=2 then(if vF x then 3 else if x.player<0∨ps - 1<x.player∨x.info<0∨(ni:Int) - 1<x.info then 2 else 0)
 else if x.kind=3 then(if mT ps x then 3 else if iI (-1000000) 1000000 x.pay then 2 else 0)
 else 3
def bP(S:St)(cs:List AV)(x:dG):Prop:=∃a b c,cs= [.int .i64 x.kind,.int .i64 x.player,.int .i64 x.info,a,b,c]∧bK .i64 S a x.next∧bK .i64 S b x.weights∧bK .i64 S c x.pay
theorem bF:qA bP:=fun⟨a,b,c,h,h1,h2,h3⟩ hs=>⟨a,b,c,h,h1.same hs,h2.same hs,h3.same hs⟩
def cA(_:St)(cs:List AV)(x:aAp):Prop:=cs= [.int .i64 x.player,.int .i64 x.actions]
theorem bO:qA cA:=fun h _=>h
def aNc(S:St)(v:AV)(g:aR):Prop:=∃n i,v= .agg [.int .i64 g.players,n,i]∧aH 6 bP S n g.nodes∧aH 2 cA S i g.infos
theorem ldc{h:T AB}{b j:Nat}{cs:List AV}{x:AV}{o:Bool}{s:Nat}(hb:h.get b=some (.cells cs o s))(hj:cs[j]? =some x):eH (.ptr b (0+j)) false 1 h=some x:=by
 simp only[eH,mW,aW,kL,cN,hb,aK,jS,oS,Ao,hj]
theorem iA{h:T AB}{b n:Nat}{cs:List AV}{o:Bool}{s:Nat}(hb:h.get b=some (.cells cs o s))(hn:cs.length=n):eH (.ptr b 0) true n h=some (.agg cs):=by
 subst hn;simp only[eH,mW,aQ,xD,cN,hb,aK,jS];unfold cut;rw[jE,jZ,Dk,if_pos (Ah _),List.take_length];rfl
section
variable {h:T AB}{b:Nat}{x0 x1 x2 x3 x4 x5:AV}{o:Bool}{s:Nat}
theorem eC(hb:h.get b=some (.cells [x0,x1,x2,x3,x4,x5] o s)):eH (.ptr b (0+0)) false 1 h=some x0:=ldc hb rfl
theorem dE(hb:h.get b=some (.cells [x0,x1,x2,x3,x4,x5] o s)):eH (.ptr b (0+1)) false 1 h=some x1:=ldc hb rfl
theorem cQ(hb:h.get b=some (.cells [x0,x1,x2,x3,x4,x5] o s)):eH (.ptr b (0+2)) false 1 h=some x2:=ldc hb rfl
theorem cT(hb:h.get b=some (.cells [x0,x1,x2,x3,x4,x5] o s)):eH (.ptr b (0+3)) false 1 h=some x3:=ldc hb rfl
theorem dC(hb:h.get b=some (.cells [x0,x1,x2,x3,x4,x5] o s)):eH (.ptr b (0+4)) false 1 h=some x4:=ldc hb rfl
theorem dM(hb:h.get b=some (.cells [x0,x1,x2,x3,x4,x5] o s)):eH (.ptr b (0+5)) false 1 h=some x5:=ldc hb rfl
theorem ldN(hb:h.get b=some (.cells [x0,x1,x2,x3,x4,x5] o s)):eH (.ptr b 0) true 6 h=some (.agg [x0,x1,x2,x3,x4,x5]):=iA hb rfl
end
section
variable {k:Nat}{α:Type}{E:St→List AV→α→Prop}{S:St}{v:AV}{l:List α}
theorem aH.at(h:aH k E S v l)(hk:0<k){i:Nat}{a:α}(hi:l[i]? =some a):∃e b p,eU (.slice k) v i=some (.ptr b p)∧b<S.nx∧e.length=k∧E S e a∧eH (.ptr b p) true k S.h=some (.agg e)∧∀j x,e[j]? =some x→eH (.ptr b (p+j)) false 1 S.h=some x:=by
 obtain⟨e,b,p,h1,h2,h3,h4,cs,h5,h6⟩:=h.get hi;have hlt:=(Ai.1 hi).1;refine⟨e,b,p,by rw[←h1];exact h.iaddr hlt,h2,h3,h4,?_,fun j x hj=>?_⟩
 ·simp only[eH,mW,aQ,xD,h5,aK];have hcut:cut cs p k=some e:=by
   have hle:p+k≤cs.length:=by
    have:=h6 (k - 1) (e[k - 1]'(by omega)) (Ab (by omega));have:=(Ai.1 this).1;omega
   unfold cut;rw[jE,jZ,if_pos (by rw[Dq];omega)];congr 1;refine Dp (by rw[Ce,Dq];omega) fun j j1 j2=>?_;have:=h6 j e[j] (Ab j2);rw[List.getElem_take,List.getElem_drop];exact(Ai.1 this).2
  rw[hcut,aK]
 ·simp only[eH,mW,aW,kL,h5,aK,oS];exact h6 j x hj
end
def vH(x:dG):Prop:=(0:Int)<((x.pay.length:Nat):Int)∨(0:Int)<((x.weights.length:Nat):Int)∨((x.next.length:Nat):Int)<1∨(10:Int)<((x.next.length:Nat):Int)
instance badMDec'(x:dG):Decidable (vH x):=by unfold vH;exact inferInstance
theorem aF0(x:dG):vH x↔vF x:=by unfold vF vH;omega
def aCs(ps:Int)(ni:Nat)(x:dG):Prop:=x.player<0∨ps≤x.player∨x.info<0∨((ni:Nat):Int)≤x.info
instance badRDec(ps:Int)(ni:Nat)(x:dG):Decidable (aCs ps ni x):=by unfold aCs;exact inferInstance
theorem aFZ(ps:Int)(ni:Nat)(x:dG):aCs ps ni x↔(x.player<0∨ps - 1<x.player∨x.info<0∨(ni:Int) - 1<x.info):=by unfold aCs;omega
theorem uR{lo hi:Int}{l:List Int}{i:Nat}(hi':i<l.length)(h:¬iI lo hi (l.take i))(h2:¬ (l.getD i 0<lo∨hi<l.getD i 0)):¬iI lo hi (l.take (i+1)):=by
 rintro⟨w,hw,ho⟩;rw[Bp,Ab hi'] at hw;rcases Bx.1 hw with h1 | h1
 ·exact h ⟨w,h1,ho⟩
 ·simp at h1;rw[Ad,Ab hi'] at h2;subst h1;exact h2 ho
theorem yA{lo hi:Int}{l:List Int}{i:Nat}(hi':i<l.length)(h2:l.getD i 0<lo∨hi<l.getD i 0):iI lo hi l:=by
 rw[Ad,Ab hi'] at h2;exact⟨l[i],Bo hi',h2⟩
def aOq(S:St)(b t:Nat)(lo hi:Int)(l:List Int)(k:Nat)(A:bH)(X:St):Prop:=A.inr=false∧X=S∧∃i,i+k=l.length∧¬iI lo hi (l.take i)∧aB 3 A.F= .ptr b 0∧aB t A.F= .int .i64 (i:Int)
theorem aHA{S:St}{n i:AV}{ps:Int}{ni:Nat}{cs:List AV}{x:dG}(H:Has fns)(hx:bP S cs x)(hps:ps≤4)(hi:kO i=some (.int .i64 ((ni:Nat):Int))):gH fns (.fn 102 [] []) [.agg [.int .i64 ps,n,i],.agg cs] S fun r S'=>r= .int .i64 (gK ps ni x)∧Same S S':=by
 obtain⟨a,b,c,rfl,hn,hw,hp⟩:=hx;refine cI H.f102 (by simp) ?_;simp only[↓aF,aE,rE,↓reduceIte];refine bQ ?_;refine cM (by simp only[↓aF,aE,rE,↓reduceIte];exact bB _) ?_;intro S1 s1 n1 c1;refine cM (by simp only[↓aF,aE,rE,↓reduceIte];exact bB _) ?_;intro S2 s2 n2 g3;simp only[↓aF,aE,rE,↓reduceIte];have g2:S2.h.get S.nx=some (.cells [.int .i64 ps,n,i] false 0):=by rw[s2.2 _ (by omega)];exact c1
 have sS:=s1.trans s2;have hneg:Int.negSucc 999999= -1000000:=rfl;have hn2:=hn.same sS;have hw2:=hw.same sS;have hp2:=hp.same sS;refine gC ?_;simp only[↓aF,aE,rE,↓reduceIte,aC,aD,eC g3];refine aL (aA (aJ ?_));simp only[↓aF,aE,rE,↓reduceIte];unfold gK;have fin:∀F:Fr,iH fns (.seq (.reg [oq 4 (.mv (ci 0))]) .ret) ⟨F,false⟩ S2 (aOd [.t 4] fun r S'=>r= .int .i64 0∧Same S S'):=fun F=>by
  refine bQ ?_;simp only[↓aF,aE,rE,↓reduceIte];refine aS ?_;simp only[↓aF,aE,rE,↓reduceIte];exact sS
 by_cases k1:x.kind=1
 ·rw[if_pos k1];refine aO (by simp only[↓aF,aE,rE,↓reduceIte,Ac k1]) ?_;refine aA (aA (aY (Q:=fun o A' X=>o= .normal∧A'.inr=false∧X=S2∧aB 3 A'.F= .ptr S1.nx 0∧aB 45 A'.F= .bool (decide (mK x))) (aJ ?_) ?_))
  ·by_cases c0:x.player≠0
   ·rw[Ac (show mK x from .inl c0)];simp only[↓aF,aE,rE,↓reduceIte,aC,aD,dE g3,cQ g3,cT g3,dC g3,dM g3,jU g2,jR g2,hn2.len,hw2.len,hp2.len,hi,Ag,Ac c0]
   by_cases c1:x.info≠0
   ·rw[Ac (show mK x from .inr (.inl c1))];simp only[↓aF,aE,rE,↓reduceIte,aC,aD,dE g3,cQ g3,cT g3,dC g3,dM g3,jU g2,jR g2,hn2.len,hw2.len,hp2.len,hi,Ag,Aa c0,Ac c1]
   by_cases c2:(0:Int)<((x.pay.length:Nat):Int)
   ·rw[Ac (show mK x from .inr (.inr (.inl c2)))];simp only[↓aF,aE,rE,↓reduceIte,aC,aD,dE g3,cQ g3,cT g3,dC g3,dM g3,jU g2,jR g2,hn2.len,hw2.len,hp2.len,hi,Ag,Aa c0,Aa c1,Ac c2]
   by_cases c3:((x.next.length:Nat):Int)<1
   ·rw[Ac (show mK x from .inr (.inr (.inr (.inl c3))))];simp only[↓aF,aE,rE,↓reduceIte,aC,aD,dE g3,cQ g3,cT g3,dC g3,dM g3,jU g2,jR g2,hn2.len,hw2.len,hp2.len,hi,Ag,Aa c0,Aa c1,Aa c2,Ac c3]
   by_cases c4:(60:Int)<((x.next.length:Nat):Int)
   ·rw[Ac (show mK x from .inr (.inr (.inr (.inr (.inl c4)))))];simp only[↓aF,aE,rE,↓reduceIte,aC,aD,dE g3,cQ g3,cT g3,dC g3,dM g3,jU g2,jR g2,hn2.len,hw2.len,hp2.len,hi,Ag,Aa c0,Aa c1,Aa c2,Aa c3,Ac c4]
   by_cases c5:((x.weights.length:Nat):Int)≠((x.next.length:Nat):Int)
   ·rw[Ac (show mK x from .inr (.inr (.inr (.inr (.inr (c5))))))];simp only[↓aF,aE,rE,↓reduceIte,aC,aD,dE g3,cQ g3,cT g3,dC g3,dM g3,jU g2,jR g2,hn2.len,hw2.len,hp2.len,hi,Ag,Aa c0,Aa c1,Aa c2,Aa c3,Aa c4,Ac c5]
   rw[Aa (show ¬mK x by rintro(h0 | h1 | h2 | h3 | h4 | h5)<;>first | exact c0 h0 | exact c1 h1 | exact c2 h2 | exact c3 h3 | exact c4 h4 | exact c5 h5)];simp only[↓aF,aE,rE,↓reduceIte,aC,aD,dE g3,cQ g3,cT g3,dC g3,dM g3,jU g2,jR g2,hn2.len,hw2.len,hp2.len,hi,Ag,Aa c0,Aa c1,Aa c2,Aa c3,Aa c4,Aa c5]
  rintro o ⟨F,inr⟩ X ⟨rfl,q0,hX,p3,pb⟩;simp only at q0 p3 pb;subst q0;rw[hX];try simp only[↓aF,aE,rE,↓reduceIte]
  by_cases bad:mK x
  ·rw[if_pos bad];refine aO (by simp only[↓aF,aE,rE,↓reduceIte,pb,Ac bad]) ?_;refine bQ ?_;simp only[↓aF,aE,rE,↓reduceIte];refine aS ?_;simp only[↓aF,aE,rE,↓reduceIte];exact sS
  rw[if_neg bad];have hlen:x.weights.length≤60:=by unfold mK at bad;omega
  refine aN (by simp only[↓aF,aE,rE,↓reduceIte,pb,Aa bad]) (aI ?_);try simp only[↓aF,aE,rE,↓reduceIte]
  refine bQ ?_;simp only[↓aF,aE,rE,↓reduceIte];refine aL (bL (aOq S2 S1.nx 5 1 1000 x.weights) ?_ x.weights.length _ _ ⟨rfl,rfl,0,by omega,(by rintro⟨w,h,_⟩;simp at h),by refine⟨?_,?_⟩<;>simp only[↓aF,aE,rE,↓reduceIte,p3]⟩);clear p3 pb;rintro k ⟨F,inr⟩ X ⟨q0,hX,j,hjk,ha,p3,pt⟩;simp only at q0 p3 pt;subst q0;rw[hX];refine gC ?_;simp only[↓aF,aE,rE,↓reduceIte,pt,p3,aC,aD,dC g3,hw2.len,Ag];by_cases hj:j<x.weights.length
  ·refine aO (by simp only[↓aF,aE,rE,↓reduceIte,Ac (show(j:Int)<((x.weights.length:Nat):Int) by omega)]) (aI ?_);try simp only[↓aF,aE,rE,↓reduceIte]
   have hia:=hw2.iaddr hj;have hld:=hw2.ld hj;have htk:=uR (lo:=1) (hi:=1000) hj ha;have hget:=yA (lo:=1) (hi:=1000) hj;generalize x.weights.getD j 0=w at *;have w1:IntKind.i64.wrap ((j:Int)+1)=((j+1:Nat):Int):=by
    rw[wrap_i64 (by omega) (by omega)];omega
   refine aA (aL (aA (aY (Q:=fun o A' X=>o= .normal∧A'.inr=false∧X=S2∧aB 3 A'.F= .ptr S1.nx 0∧aB 5 A'.F= .int .i64 (j:Int)∧aB 66 A'.F= .bool (decide (w<1∨1000<w))) (aJ ?_) ?_)))
   ·by_cases h1:w<1
    ·rw[Ac (show w<1∨1000<w from .inl h1)];simp only[↓aF,aE,rE,↓reduceIte,pt,p3,aC,aD,dC g3,aG,hia,hld,hneg,Ac h1]
    ·by_cases h2:1000<w
     ·rw[Ac (show w<1∨1000<w from .inr h2)];simp only[↓aF,aE,rE,↓reduceIte,pt,p3,aC,aD,dC g3,aG,hia,hld,hneg,Aa h1,Ac h2]
     ·rw[Aa (show ¬ (w<1∨1000<w) by omega)];simp only[↓aF,aE,rE,↓reduceIte,pt,p3,aC,aD,dC g3,aG,hia,hld,hneg,Aa h1,Aa h2]
   clear p3 pt;rintro o ⟨F,inr⟩ X ⟨rfl,q0,hX,p3,pt,pb⟩;simp only at q0 p3 pt pb;subst q0;rw[hX];try simp only[↓aF,aE,rE,↓reduceIte]
   by_cases ho:w<1∨1000<w
   ·rw[if_pos (hget ho)];refine aO (by simp only[↓aF,aE,rE,↓reduceIte,pb,Ac ho]) ?_;refine bQ ?_;simp only[↓aF,aE,rE,↓reduceIte];refine aS ?_;simp only[↓aF,aE,rE,↓reduceIte];exact sS
   ·refine aN (by simp only[↓aF,aE,rE,↓reduceIte,pb,Aa ho]) (aI ?_);try simp only[↓aF,aE,rE,↓reduceIte]
    refine aJ ?_;simp only[↓aF,aE,rE,↓reduceIte,pt,w1];exact⟨k - 1,by omega,rfl,rfl,j+1,by omega,htk ho,by refine⟨?_,?_⟩<;>simp only[↓aF,aE,rE,↓reduceIte,p3]⟩
  ·refine aN (by simp only[↓aF,aE,rE,↓reduceIte,Aa (show ¬ (j:Int)<((x.weights.length:Nat):Int) by omega)]) (bM ?_);simp only[↓aF,aE,rE,↓reduceIte];have hno:¬iI 1 1000 x.weights:=by rw[Bb (by omega)] at ha;exact ha
   rw[if_neg hno];exact fin _
 rw[if_neg k1];refine aN (by simp only[↓aF,aE,rE,↓reduceIte,Aa k1]) ?_;refine bQ ?_;simp only[↓aF,aE,rE,↓reduceIte];by_cases k2:x.kind=2
 ·rw[if_pos k2];refine aO (by simp only[↓aF,aE,rE,↓reduceIte,Ac k2]) ?_;refine aA (aA (aY (Q:=fun o A' X=>o= .normal∧A'.inr=false∧X=S2∧aB 2 A'.F= .ptr S.nx 0∧aB 3 A'.F= .ptr S1.nx 0∧aB 90 A'.F= .bool (decide (vH x))) (aJ ?_) ?_))
  ·by_cases c0:(0:Int)<((x.pay.length:Nat):Int)
   ·rw[Ac (show vH x from .inl c0)];simp only[↓aF,aE,rE,↓reduceIte,aC,aD,dE g3,cQ g3,cT g3,dC g3,dM g3,jU g2,jR g2,hn2.len,hw2.len,hp2.len,hi,Ag,Ac c0]
   by_cases c1:(0:Int)<((x.weights.length:Nat):Int)
   ·rw[Ac (show vH x from .inr (.inl c1))];simp only[↓aF,aE,rE,↓reduceIte,aC,aD,dE g3,cQ g3,cT g3,dC g3,dM g3,jU g2,jR g2,hn2.len,hw2.len,hp2.len,hi,Ag,Aa c0,Ac c1]
   by_cases c2:((x.next.length:Nat):Int)<1
   ·rw[Ac (show vH x from .inr (.inr (.inl c2)))];simp only[↓aF,aE,rE,↓reduceIte,aC,aD,dE g3,cQ g3,cT g3,dC g3,dM g3,jU g2,jR g2,hn2.len,hw2.len,hp2.len,hi,Ag,Aa c0,Aa c1,Ac c2]
   by_cases c3:(10:Int)<((x.next.length:Nat):Int)
   ·rw[Ac (show vH x from .inr (.inr (.inr (c3))))];simp only[↓aF,aE,rE,↓reduceIte,aC,aD,dE g3,cQ g3,cT g3,dC g3,dM g3,jU g2,jR g2,hn2.len,hw2.len,hp2.len,hi,Ag,Aa c0,Aa c1,Aa c2,Ac c3]
   rw[Aa (show ¬vH x by rintro(h0 | h1 | h2 | h3)<;>first | exact c0 h0 | exact c1 h1 | exact c2 h2 | exact c3 h3)];simp only[↓aF,aE,rE,↓reduceIte,aC,aD,dE g3,cQ g3,cT g3,dC g3,dM g3,jU g2,jR g2,hn2.len,hw2.len,hp2.len,hi,Ag,Aa c0,Aa c1,Aa c2,Aa c3]
  rintro o ⟨F,inr⟩ X ⟨rfl,q0,hX,p2,p3,pb⟩;simp only at q0 p2 p3 pb;subst q0;rw[hX];try simp only[↓aF,aE,rE,↓reduceIte]
  by_cases bad:vH x
  ·rw[if_pos ((aF0 x).1 bad)];refine aO (by simp only[↓aF,aE,rE,↓reduceIte,pb,Ac bad]) ?_;refine bQ ?_;simp only[↓aF,aE,rE,↓reduceIte];refine aS ?_;simp only[↓aF,aE,rE,↓reduceIte];exact sS
  rw[if_neg (fun h=>bad ((aF0 x).2 h))];refine aN (by simp only[↓aF,aE,rE,↓reduceIte,pb,Aa bad]) (aI ?_);try simp only[↓aF,aE,rE,↓reduceIte]
  refine aA (aY (Q:=fun o A' X=>o= .normal∧A'.inr=false∧X=S2∧aB 113 A'.F= .bool (decide (aCs ps ni x))) (aJ ?_) ?_)
  ·by_cases c0:x.player<0
   ·rw[Ac (show aCs ps ni x from .inl c0)];simp only[↓aF,aE,rE,↓reduceIte,aC,aD,dE g3,cQ g3,cT g3,dC g3,dM g3,jU g2,jR g2,hn2.len,hw2.len,hp2.len,hi,Ag,p3,p2,Ac c0]
   by_cases c1:ps≤x.player
   ·rw[Ac (show aCs ps ni x from .inr (.inl c1))];simp only[↓aF,aE,rE,↓reduceIte,aC,aD,dE g3,cQ g3,cT g3,dC g3,dM g3,jU g2,jR g2,hn2.len,hw2.len,hp2.len,hi,Ag,p3,p2,Aa c0,Ac c1]
   by_cases c2:x.info<0
   ·rw[Ac (show aCs ps ni x from .inr (.inr (.inl c2)))];simp only[↓aF,aE,rE,↓reduceIte,aC,aD,dE g3,cQ g3,cT g3,dC g3,dM g3,jU g2,jR g2,hn2.len,hw2.len,hp2.len,hi,Ag,p3,p2,Aa c0,Aa c1,Ac c2]
   by_cases c3:((ni:Nat):Int)≤x.info
   ·rw[Ac (show aCs ps ni x from .inr (.inr (.inr (c3))))];simp only[↓aF,aE,rE,↓reduceIte,aC,aD,dE g3,cQ g3,cT g3,dC g3,dM g3,jU g2,jR g2,hn2.len,hw2.len,hp2.len,hi,Ag,p3,p2,Aa c0,Aa c1,Aa c2,Ac c3]
   rw[Aa (show ¬aCs ps ni x by rintro(h0 | h1 | h2 | h3)<;>first | exact c0 h0 | exact c1 h1 | exact c2 h2 | exact c3 h3)];simp only[↓aF,aE,rE,↓reduceIte,aC,aD,dE g3,cQ g3,cT g3,dC g3,dM g3,jU g2,jR g2,hn2.len,hw2.len,hp2.len,hi,Ag,p3,p2,Aa c0,Aa c1,Aa c2,Aa c3]
  rintro o ⟨F,inr⟩ X ⟨rfl,q0,hX,pb⟩;simp only at q0 pb;subst q0;rw[hX];try simp only[↓aF,aE,rE,↓reduceIte]
  by_cases bad:aCs ps ni x
  ·rw[if_pos ((aFZ ps ni x).1 bad)];refine aO (by simp only[↓aF,aE,rE,↓reduceIte,pb,Ac bad]) ?_;refine bQ ?_;simp only[↓aF,aE,rE,↓reduceIte];refine aS ?_;simp only[↓aF,aE,rE,↓reduceIte];exact sS
  rw[if_neg (fun h=>bad ((aFZ ps ni x).2 h))];refine aN (by simp only[↓aF,aE,rE,↓reduceIte,pb,Aa bad]) (aI ?_);simp only[↓aF,aE,rE,↓reduceIte];exact fin _
 rw[if_neg k2];refine aN (by simp only[↓aF,aE,rE,↓reduceIte,Aa k2]) ?_;refine bQ ?_;simp only[↓aF,aE,rE,↓reduceIte];by_cases k3:x.kind=3
 ·rw[if_pos k3];refine aO (by simp only[↓aF,aE,rE,↓reduceIte,Ac k3]) ?_;refine aA (aA (aY (Q:=fun o A' X=>o= .normal∧A'.inr=false∧X=S2∧aB 3 A'.F= .ptr S1.nx 0∧aB 143 A'.F= .bool (decide (mT ps x))) (aJ ?_) ?_))
  ·by_cases c0:x.player≠0
   ·rw[Ac (show mT ps x from .inl c0)];simp only[↓aF,aE,rE,↓reduceIte,aC,aD,dE g3,cQ g3,cT g3,dC g3,dM g3,jU g2,jR g2,hn2.len,hw2.len,hp2.len,hi,Ag,Ac c0]
   by_cases c1:x.info≠0
   ·rw[Ac (show mT ps x from .inr (.inl c1))];simp only[↓aF,aE,rE,↓reduceIte,aC,aD,dE g3,cQ g3,cT g3,dC g3,dM g3,jU g2,jR g2,hn2.len,hw2.len,hp2.len,hi,Ag,Aa c0,Ac c1]
   by_cases c2:(0:Int)<((x.next.length:Nat):Int)
   ·rw[Ac (show mT ps x from .inr (.inr (.inl c2)))];simp only[↓aF,aE,rE,↓reduceIte,aC,aD,dE g3,cQ g3,cT g3,dC g3,dM g3,jU g2,jR g2,hn2.len,hw2.len,hp2.len,hi,Ag,Aa c0,Aa c1,Ac c2]
   by_cases c3:(0:Int)<((x.weights.length:Nat):Int)
   ·rw[Ac (show mT ps x from .inr (.inr (.inr (.inl c3))))];simp only[↓aF,aE,rE,↓reduceIte,aC,aD,dE g3,cQ g3,cT g3,dC g3,dM g3,jU g2,jR g2,hn2.len,hw2.len,hp2.len,hi,Ag,Aa c0,Aa c1,Aa c2,Ac c3]
   by_cases c4:((x.pay.length:Nat):Int)≠ps
   ·rw[Ac (show mT ps x from .inr (.inr (.inr (.inr (c4)))))];simp only[↓aF,aE,rE,↓reduceIte,aC,aD,dE g3,cQ g3,cT g3,dC g3,dM g3,jU g2,jR g2,hn2.len,hw2.len,hp2.len,hi,Ag,Aa c0,Aa c1,Aa c2,Aa c3,Ac c4]
   rw[Aa (show ¬mT ps x by rintro(h0 | h1 | h2 | h3 | h4)<;>first | exact c0 h0 | exact c1 h1 | exact c2 h2 | exact c3 h3 | exact c4 h4)];simp only[↓aF,aE,rE,↓reduceIte,aC,aD,dE g3,cQ g3,cT g3,dC g3,dM g3,jU g2,jR g2,hn2.len,hw2.len,hp2.len,hi,Ag,Aa c0,Aa c1,Aa c2,Aa c3,Aa c4]
  rintro o ⟨F,inr⟩ X ⟨rfl,q0,hX,p3,pb⟩;simp only at q0 p3 pb;subst q0;rw[hX];try simp only[↓aF,aE,rE,↓reduceIte]
  by_cases bad:mT ps x
  ·rw[if_pos bad];refine aO (by simp only[↓aF,aE,rE,↓reduceIte,pb,Ac bad]) ?_;refine bQ ?_;simp only[↓aF,aE,rE,↓reduceIte];refine aS ?_;simp only[↓aF,aE,rE,↓reduceIte];exact sS
  rw[if_neg bad];have hlen:x.pay.length≤60:=by unfold mT at bad;omega
  refine aN (by simp only[↓aF,aE,rE,↓reduceIte,pb,Aa bad]) (aI ?_);try simp only[↓aF,aE,rE,↓reduceIte]
  refine bQ ?_;simp only[↓aF,aE,rE,↓reduceIte];refine aL (bL (aOq S2 S1.nx 6 (-1000000) 1000000 x.pay) ?_ x.pay.length _ _ ⟨rfl,rfl,0,by omega,(by rintro⟨w,h,_⟩;simp at h),by refine⟨?_,?_⟩<;>simp only[↓aF,aE,rE,↓reduceIte,p3]⟩);clear p3 pb;rintro k ⟨F,inr⟩ X ⟨q0,hX,j,hjk,ha,p3,pt⟩;simp only at q0 p3 pt;subst q0;rw[hX];refine gC ?_;simp only[↓aF,aE,rE,↓reduceIte,pt,p3,aC,aD,dM g3,hp2.len,Ag];by_cases hj:j<x.pay.length
  ·refine aO (by simp only[↓aF,aE,rE,↓reduceIte,Ac (show(j:Int)<((x.pay.length:Nat):Int) by omega)]) (aI ?_);try simp only[↓aF,aE,rE,↓reduceIte]
   have hia:=hp2.iaddr hj;have hld:=hp2.ld hj;have htk:=uR (lo:=(-1000000)) (hi:=1000000) hj ha;have hget:=yA (lo:=(-1000000)) (hi:=1000000) hj;generalize x.pay.getD j 0=w at *;have w1:IntKind.i64.wrap ((j:Int)+1)=((j+1:Nat):Int):=by
    rw[wrap_i64 (by omega) (by omega)];omega
   refine aA (aL (aA (aY (Q:=fun o A' X=>o= .normal∧A'.inr=false∧X=S2∧aB 3 A'.F= .ptr S1.nx 0∧aB 6 A'.F= .int .i64 (j:Int)∧aB 164 A'.F= .bool (decide (w<(-1000000)∨1000000<w))) (aJ ?_) ?_)))
   ·by_cases h1:w<(-1000000)
    ·rw[Ac (show w<(-1000000)∨1000000<w from .inl h1)];simp only[↓aF,aE,rE,↓reduceIte,pt,p3,aC,aD,dM g3,aG,hia,hld,hneg,Ac h1]
    ·by_cases h2:1000000<w
     ·rw[Ac (show w<(-1000000)∨1000000<w from .inr h2)];simp only[↓aF,aE,rE,↓reduceIte,pt,p3,aC,aD,dM g3,aG,hia,hld,hneg,Aa h1,Ac h2]
     ·rw[Aa (show ¬ (w<(-1000000)∨1000000<w) by omega)];simp only[↓aF,aE,rE,↓reduceIte,pt,p3,aC,aD,dM g3,aG,hia,hld,hneg,Aa h1,Aa h2]
   clear p3 pt;rintro o ⟨F,inr⟩ X ⟨rfl,q0,hX,p3,pt,pb⟩;simp only at q0 p3 pt pb;subst q0;rw[hX];try simp only[↓aF,aE,rE,↓reduceIte]
   by_cases ho:w<(-1000000)∨1000000<w
   ·rw[if_pos (hget ho)];refine aO (by simp only[↓aF,aE,rE,↓reduceIte,pb,Ac ho]) ?_;refine bQ ?_;simp only[↓aF,aE,rE,↓reduceIte];refine aS ?_;simp only[↓aF,aE,rE,↓reduceIte];exact sS
   ·refine aN (by simp only[↓aF,aE,rE,↓reduceIte,pb,Aa ho]) (aI ?_);try simp only[↓aF,aE,rE,↓reduceIte]
    refine aJ ?_;simp only[↓aF,aE,rE,↓reduceIte,pt,w1];exact⟨k - 1,by omega,rfl,rfl,j+1,by omega,htk ho,by refine⟨?_,?_⟩<;>simp only[↓aF,aE,rE,↓reduceIte,p3]⟩
  ·refine aN (by simp only[↓aF,aE,rE,↓reduceIte,Aa (show ¬ (j:Int)<((x.pay.length:Nat):Int) by omega)]) (bM ?_);simp only[↓aF,aE,rE,↓reduceIte];have hno:¬iI (-1000000) 1000000 x.pay:=by rw[Bb (by omega)] at ha;exact ha
   rw[if_neg hno];exact fin _
 rw[if_neg k3];refine aN (by simp only[↓aF,aE,rE,↓reduceIte,Aa k3]) ?_;refine bQ ?_;simp only[↓aF,aE,rE,↓reduceIte];refine aS ?_;simp only[↓aF,aE,rE,↓reduceIte];exact sS
theorem bK.self{k:IntKind}{S:St}{v:AV}{l:List Int}(h:bK k S v l):cC v v=true:=by
 rcases h with⟨_,h | h⟩ | ⟨b,off,cap,o,cs,rfl,_⟩
 ·subst h;rfl
 ·subst h;rfl
 ·exact nS ..
theorem aH.self{k:Nat}{α:Type}{E:St→List AV→α→Prop}{S:St}{v:AV}{l:List α}(h:aH k E S v l):cC v v=true:=by
 rcases h with⟨_,h | h⟩ | ⟨b,off,cap,o,cs,rfl,_⟩
 ·subst h;rfl
 ·subst h;rfl
 ·exact nS ..
theorem aJQ{k:IntKind}{S:St}{b:Nat}{z:Int}(hb:b<S.nx)(h:S.h.get b=some (.cells [.int k z] false 0)):bK k S (.sl b 0 1 1 false) [z]:=by
 refine .inr ⟨b,0,1,false,[.int k z],rfl,Ah _,hb,by unfold cN;rw[h];rfl,fun i x hi=>?_⟩;cases i with
 | zero=>simp at hi;subst hi;rfl
 | succ i=>simp at hi
theorem aCR{lo hi z:Int}:iI lo hi [z]↔z<lo∨hi<z:=by
 unfold iI;simp
theorem wQ{x0 x1 x2 x3 x4 x5:AV}(h0:cC x0 x0=true)(h1:cC x1 x1=true)(h2:cC x2 x2=true)(h3:cC x3 x3=true)(h4:cC x4 x4=true)(h5:cC x5 x5=true):cC (.agg [x0,x1,x2,x3,x4,x5]) (.agg [x0,x1,x2,x3,x4,x5])=true:=by
 simp only[cC,kB,h0,h1,h2,h3,h4,h5,aQ]
theorem aIQ{S:St}{b3 b4:Nat}{lo hi w:Int}(H:Has fns)(g3:S.h.get b3=some (.cells [.int .i64 lo] false 0))(g4:S.h.get b4=some (.cells [.int .i64 hi] false 0)):gH fns (.fn 184 [] [.ptr b3 0,.ptr b4 0]) [.int .i64 w] S fun r S'=>r= .bool (decide (w<lo∨hi<w))∧S'=S:=by
 have l3:eH (.ptr b3 0) false 1 S.h=some (.int .i64 lo):=ldc (j:=0) g3 rfl;have l4:eH (.ptr b4 0) false 1 S.h=some (.int .i64 hi):=ldc (j:=0) g4 rfl;refine cI H.f184 (by simp) ?_;simp only[↓aF,aE,rE,↓reduceIte];refine bQ ?_;simp only[↓aF,aE,rE,↓reduceIte];refine bQ ?_;by_cases h1:w<lo
 ·rw[Ac (show w<lo∨hi<w from .inl h1)];simp only[↓aF,aE,rE,↓reduceIte,l3,Ac h1];refine aS ?_;simp only[↓aF,aE,rE,↓reduceIte]
 ·by_cases h2:hi<w
  ·rw[Ac (show w<lo∨hi<w from .inr h2)];simp only[↓aF,aE,rE,↓reduceIte,l3,l4,Aa h1,Ac h2];refine aS ?_;simp only[↓aF,aE,rE,↓reduceIte]
  ·rw[Aa (show ¬ (w<lo∨hi<w) by omega)];simp only[↓aF,aE,rE,↓reduceIte,l3,l4,Aa h1,Aa h2];refine aS ?_;simp only[↓aF,aE,rE,↓reduceIte]
def aQo(S:St)(v f:AV)(lo hi:Int)(l:List Int)(k:Nat)(A:bH)(X:St):Prop:=A.inr=false∧X=S∧∃i,i+k=l.length∧¬iI lo hi (l.take i)∧aB 0 A.F=v∧aB 1 A.F=f∧aB 7 A.F= .int .i64 ((l.length:Nat):Int)∧aB 8 A.F= .int .i64 (i:Int)
theorem aHC{S:St}{b3 b4:Nat}{lo hi:Int}{v:AV}{l:List Int}(H:Has fns)(g3:S.h.get b3=some (.cells [.int .i64 lo] false 0))(g4:S.h.get b4=some (.cells [.int .i64 hi] false 0))(hl:bK .i64 S v l)(hlen:l.length≤1000000):gH fns (.fn 186 [] []) [v,.fn 184 [] [.ptr b3 0,.ptr b4 0]] S fun r S'=>(∃z,r= .int .i64 z∧(0≤z↔iI lo hi l))∧S'=S:=by
 refine cI H.f186 (by simp) ?_;simp only[↓aF,aE,rE,↓reduceIte];refine bQ ?_;simp only[↓aF,aE,rE,↓reduceIte];refine gC ?_;simp only[↓aF,aE,rE,↓reduceIte,hl.len,Ag];refine aL (bL (aQo S v (.fn 184 [] [.ptr b3 0,.ptr b4 0]) lo hi l) ?_ l.length _ _ ⟨rfl,rfl,0,by omega,(by rintro⟨w,h,_⟩;simp at h),by refine⟨?_,?_,?_,?_⟩<;>simp only[↓aF,aE,rE,↓reduceIte]⟩);rintro k ⟨F,inr⟩ X ⟨q0,hX,j,hjk,ha,p0,p1,p7,p8⟩;simp only at q0 p0 p1 p7 p8;subst q0;rw[hX];refine bQ ?_;simp only[↓aF,aE,rE,↓reduceIte,p7,p8];by_cases hj:j<l.length
 ·refine aA (aO (by simp only[↓aF,aE,rE,↓reduceIte,Ac (show(j:Int)<((l.length:Nat):Int) by omega)]) (aI ?_));simp only[↓aF,aE,rE,↓reduceIte];have hia:=hl.iaddr hj;have hld:=hl.ld hj;have htk:=uR (lo:=lo) (hi:=hi) hj ha;have hget:=yA (lo:=lo) (hi:=hi) hj;generalize l.getD j 0=w at *;have w1:IntKind.i64.wrap ((j:Int)+1)=((j+1:Nat):Int):=by rw[wrap_i64 (by omega) (by omega)];omega
  refine aA (aL (aA (aJ ?_)));simp only[↓aF,aE,rE,↓reduceIte,p8];refine bQ ?_;simp only[↓aF,aE,rE,↓reduceIte,p0,p1,aG,hia,hld];refine bG ?_;simp only[↓aF,aE,rE,↓reduceIte];refine aX (aIQ H g3 g4) ?_;rintro _ Y ⟨rfl,hY⟩;rw[hY];try simp only[↓aF,aE,rE,↓reduceIte]
  by_cases ho:w<lo∨hi<w
  ·refine aO (by simp only[↓aF,aE,rE,↓reduceIte,Ac ho]) ?_;refine bQ ?_;simp only[↓aF,aE,rE,↓reduceIte];refine aS ?_;simp only[↓aF,aE,rE,↓reduceIte];exact⟨_,rfl,⟨fun _=>hget ho,fun _=>by omega⟩⟩
  ·refine aN (by simp only[↓aF,aE,rE,↓reduceIte,Aa ho]) (aI ?_);try simp only[↓aF,aE,rE,↓reduceIte]
   refine aJ ?_;simp only[↓aF,aE,rE,↓reduceIte,p8,w1];exact⟨k - 1,by omega,rfl,rfl,j+1,by omega,htk ho,by refine⟨?_,?_,?_,?_⟩<;>simp only[↓aF,aE,rE,↓reduceIte,p0,p1,p7]⟩
 ·refine aA (aN (by simp only[↓aF,aE,rE,↓reduceIte,Aa (show ¬ (j:Int)<((l.length:Nat):Int) by omega)]) (bM ?_));simp only[↓aF,aE,rE,↓reduceIte];have hno:¬iI lo hi l:=by rw[Bb (by omega)] at ha;exact ha
  refine bQ ?_;simp only[↓aF,aE,rE,↓reduceIte];refine aS ?_;simp only[↓aF,aE,rE,↓reduceIte];exact⟨_,rfl,⟨fun h=>absurd h (by decide),fun h=>absurd h hno⟩⟩
theorem aG7{S:St}{b3 b4:Nat}{lo hi:Int}{v:AV}{l:List Int}(H:Has fns)(g3:S.h.get b3=some (.cells [.int .i64 lo] false 0))(g4:S.h.get b4=some (.cells [.int .i64 hi] false 0))(hl:bK .i64 S v l)(hlen:l.length≤1000000):gH fns (.fn 183 [] []) [v,.fn 184 [] [.ptr b3 0,.ptr b4 0]] S fun r S'=>r= .bool (decide (iI lo hi l))∧S'=S:=by
 refine cI H.f183 (by simp) ?_;simp only[↓aF,aE,rE,↓reduceIte];refine bQ ?_;simp only[↓aF,aE,rE,↓reduceIte];refine bQ ?_;simp only[↓aF,aE,rE,↓reduceIte];refine bG ?_;simp only[↓aF,aE,rE,↓reduceIte];refine aX (aHC H g3 g4 hl hlen) ?_;rintro _ Y ⟨⟨z,rfl,hz⟩,hY⟩;rw[hY];have hd:decide ((0:Int)≤z)=decide (iI lo hi l):=by rw[Cg,Ck,Ck];exact hz
 simp only[↓aF,aE,rE,↓reduceIte,hd];refine aS ?_;simp only[↓aF,aE,rE,↓reduceIte]
theorem qX{S:St}{lo hi:Int}{v:AV}{l:List Int}(H:Has fns)(hl:bK .i64 S v l)(hlen:l.length≤1000000):gH fns (.fn 180 [] []) [.int .i64 lo,.int .i64 hi,v] S fun r S'=>r= .int .i64 (if iI lo hi l then 2 else 0)∧Same S S':=by
 refine cI H.f180 (by simp) ?_;simp only[↓aF,aE,rE,↓reduceIte];refine bQ ?_;refine cM (by simp only[↓aF,aE,rE,↓reduceIte];exact cO _ _) ?_;intro S1 s1 n1 c1;refine cM (by simp only[↓aF,aE,rE,↓reduceIte];exact cO _ _) ?_;intro S2 s2 n2 c2;simp only[↓aF,aE,rE,↓reduceIte];have sS:=s1.trans s2;refine gC ?_;simp only[↓aF,aE,rE,↓reduceIte,zK];refine bG ?_;simp only[↓aF,aE,rE,↓reduceIte];refine aX (aG7 H (by rw[s2.2 _ (by omega)];exact c1) c2 (hl.same sS) hlen) ?_;rintro _ Y ⟨rfl,hY⟩;rw[hY];try simp only[↓aF,aE,rE,↓reduceIte]
 by_cases ho:iI lo hi l
 ·rw[if_pos ho];refine aO (by simp only[↓aF,aE,rE,↓reduceIte,Ac ho]) ?_;refine bQ ?_;simp only[↓aF,aE,rE,↓reduceIte];refine aS ?_;simp only[↓aF,aE,rE,↓reduceIte];exact sS
 ·rw[if_neg ho];refine aN (by simp only[↓aF,aE,rE,↓reduceIte,Aa ho]) (aI ?_);try simp only[↓aF,aE,rE,↓reduceIte]
  refine bQ ?_;simp only[↓aF,aE,rE,↓reduceIte];refine aS ?_;simp only[↓aF,aE,rE,↓reduceIte];exact sS
def uP(S:St)(wb:Nat)(ps:Int)(n i p d l:AV):Prop:=S.h.get wb=some (.cells [.int .i64 ps,n,i,p,d,l] false 0)∧wb<S.nx
theorem uP.same{S S':St}{wb:Nat}{ps:Int}{n i p d l:AV}(h:uP S wb ps n i p d l)(hs:Same S S'):uP S' wb ps n i p d l:=⟨(hs.2 _ h.2).trans h.1,Ae h.2 hs.1⟩
section
variable {S:St}{wb:Nat}{ps:Int}{n i p d l:AV}{ni:Nat}{cs:List AV}{x:dG}
theorem aGl(H:Has fns)(hx:bP S cs x):gH fns (.fn 173 [] []) [.ptr wb 0,.agg cs] S fun r S'=>r= .int .i64 (if mK x then 3 else if iI 1 1000 x.weights then 2 else 0)∧Same S S':=by
 obtain⟨a,b,c,rfl,hn,hw,hp⟩:=hx;refine cI H.f173 (by simp) ?_;simp only[↓aF,aE,rE,↓reduceIte];refine bQ ?_;refine cM (by simp only[↓aF,aE,rE,↓reduceIte];exact bB _) ?_;intro S2 s2 n2 g3;simp only[↓aF,aE,rE,↓reduceIte];have hn2:=hn.same s2;have hw2:=hw.same s2;have hp2:=hp.same s2;refine aA (aA (aY (Q:=fun o A' X=>o= .normal∧A'.inr=false∧X=S2∧aB 3 A'.F= .ptr S.nx 0∧aB 39 A'.F= .bool (decide (mK x))) (aJ ?_) ?_))
 ·by_cases c0:x.player≠0
  ·rw[Ac (show mK x from .inl c0)];simp only[↓aF,aE,rE,↓reduceIte,aC,aD,dE g3,cQ g3,cT g3,dC g3,dM g3,hn2.len,hw2.len,hp2.len,Ag,Ac c0]
  by_cases c1:x.info≠0
  ·rw[Ac (show mK x from .inr (.inl c1))];simp only[↓aF,aE,rE,↓reduceIte,aC,aD,dE g3,cQ g3,cT g3,dC g3,dM g3,hn2.len,hw2.len,hp2.len,Ag,Aa c0,Ac c1]
  by_cases c2:(0:Int)<((x.pay.length:Nat):Int)
  ·rw[Ac (show mK x from .inr (.inr (.inl c2)))];simp only[↓aF,aE,rE,↓reduceIte,aC,aD,dE g3,cQ g3,cT g3,dC g3,dM g3,hn2.len,hw2.len,hp2.len,Ag,Aa c0,Aa c1,Ac c2]
  by_cases c3:((x.next.length:Nat):Int)<1
  ·rw[Ac (show mK x from .inr (.inr (.inr (.inl c3))))];simp only[↓aF,aE,rE,↓reduceIte,aC,aD,dE g3,cQ g3,cT g3,dC g3,dM g3,hn2.len,hw2.len,hp2.len,Ag,Aa c0,Aa c1,Aa c2,Ac c3]
  by_cases c4:(60:Int)<((x.next.length:Nat):Int)
  ·rw[Ac (show mK x from .inr (.inr (.inr (.inr (.inl c4)))))];simp only[↓aF,aE,rE,↓reduceIte,aC,aD,dE g3,cQ g3,cT g3,dC g3,dM g3,hn2.len,hw2.len,hp2.len,Ag,Aa c0,Aa c1,Aa c2,Aa c3,Ac c4]
  by_cases c5:((x.weights.length:Nat):Int)≠((x.next.length:Nat):Int)
  ·rw[Ac (show mK x from .inr (.inr (.inr (.inr (.inr (c5))))))];simp only[↓aF,aE,rE,↓reduceIte,aC,aD,dE g3,cQ g3,cT g3,dC g3,dM g3,hn2.len,hw2.len,hp2.len,Ag,Aa c0,Aa c1,Aa c2,Aa c3,Aa c4,Ac c5]
  rw[Aa (show ¬mK x by rintro(h0 | h1 | h2 | h3 | h4 | h5)<;>first | exact c0 h0 | exact c1 h1 | exact c2 h2 | exact c3 h3 | exact c4 h4 | exact c5 h5)];simp only[↓aF,aE,rE,↓reduceIte,aC,aD,dE g3,cQ g3,cT g3,dC g3,dM g3,hn2.len,hw2.len,hp2.len,Ag,Aa c0,Aa c1,Aa c2,Aa c3,Aa c4,Aa c5]
 rintro o ⟨F,inr⟩ X ⟨rfl,q0,hX,p3,pb⟩;simp only at q0 p3 pb;subst q0;rw[hX];have sX:=s2;try simp only[↓aF,aE,rE,↓reduceIte]
 by_cases bad:mK x
 ·rw[if_pos bad];refine aO (by simp only[↓aF,aE,rE,↓reduceIte,pb,Ac bad]) ?_;refine bQ ?_;simp only[↓aF,aE,rE,↓reduceIte];refine aS ?_;simp only[↓aF,aE,rE,↓reduceIte];exact sX
 rw[if_neg bad];refine aN (by simp only[↓aF,aE,rE,↓reduceIte,pb,Aa bad]) (aI ?_);try simp only[↓aF,aE,rE,↓reduceIte]
 have hlen:x.weights.length≤60:=by unfold mK at bad;omega
 refine bQ ?_;simp only[↓aF,aE,rE,↓reduceIte,p3,aC,aD,dC g3];refine bG ?_;simp only[↓aF,aE,rE,↓reduceIte];refine aX (qX H hw2 (by omega)) ?_;rintro _ Y ⟨rfl,hY⟩;try simp only[↓aF,aE,rE,↓reduceIte]
 refine aS ?_;simp only[↓aF,aE,rE,↓reduceIte];exact s2.trans hY
theorem aJl(H:Has fns)(hx:bP S cs x)(hW:uP S wb ps n i p d l)(hps:1≤ps∧ps≤4)(hi:kO i=some (.int .i64 ((ni:Nat):Int)))(hni:ni≤1000)(hsi:cC i i=true):gH fns (.fn 174 [] []) [.ptr wb 0,.agg cs] S fun r S'=>r= .int .i64 (if vF x then 3 else if x.player<0∨ps - 1<x.player∨x.info<0∨(ni:Int) - 1<x.info then 2 else 0)∧Same S S':=by
 obtain⟨a,b,c,rfl,hn,hw,hp⟩:=hx;refine cI H.f174 (by simp) ?_;simp only[↓aF,aE,rE,↓reduceIte];refine bQ ?_;refine cM (by simp only[↓aF,aE,rE,↓reduceIte];exact bB _) ?_;intro S2 s2 n2 g3;simp only[↓aF,aE,rE,↓reduceIte];have hn2:=hn.same s2;have hw2:=hw.same s2;have hp2:=hp.same s2;have hW2:=hW.same s2;refine aA (aA (aY (Q:=fun o A' X=>o= .normal∧A'.inr=false∧X=S2∧aB 0 A'.F= .ptr wb 0∧aB 3 A'.F= .ptr S.nx 0∧aB 27 A'.F= .bool (decide (vF x))) (aJ ?_) ?_))
 ·by_cases c0:(0:Int)<((x.weights.length:Nat):Int)
  ·rw[Ac (show vF x from .inl c0)];simp only[↓aF,aE,rE,↓reduceIte,aC,aD,dE g3,cQ g3,cT g3,dC g3,dM g3,hn2.len,hw2.len,hp2.len,Ag,Ac c0]
  by_cases c1:(0:Int)<((x.pay.length:Nat):Int)
  ·rw[Ac (show vF x from .inr (.inl c1))];simp only[↓aF,aE,rE,↓reduceIte,aC,aD,dE g3,cQ g3,cT g3,dC g3,dM g3,hn2.len,hw2.len,hp2.len,Ag,Aa c0,Ac c1]
  by_cases c2:((x.next.length:Nat):Int)<1
  ·rw[Ac (show vF x from .inr (.inr (.inl c2)))];simp only[↓aF,aE,rE,↓reduceIte,aC,aD,dE g3,cQ g3,cT g3,dC g3,dM g3,hn2.len,hw2.len,hp2.len,Ag,Aa c0,Aa c1,Ac c2]
  by_cases c3:(10:Int)<((x.next.length:Nat):Int)
  ·rw[Ac (show vF x from .inr (.inr (.inr (c3))))];simp only[↓aF,aE,rE,↓reduceIte,aC,aD,dE g3,cQ g3,cT g3,dC g3,dM g3,hn2.len,hw2.len,hp2.len,Ag,Aa c0,Aa c1,Aa c2,Ac c3]
  rw[Aa (show ¬vF x by rintro(h0 | h1 | h2 | h3)<;>first | exact c0 h0 | exact c1 h1 | exact c2 h2 | exact c3 h3)];simp only[↓aF,aE,rE,↓reduceIte,aC,aD,dE g3,cQ g3,cT g3,dC g3,dM g3,hn2.len,hw2.len,hp2.len,Ag,Aa c0,Aa c1,Aa c2,Aa c3]
 rintro o ⟨F,inr⟩ X ⟨rfl,q0,hX,p0,p3,pb⟩;simp only at q0 p0 p3 pb;subst q0;rw[hX];have sX:=s2;try simp only[↓aF,aE,rE,↓reduceIte]
 by_cases bad:vF x
 ·rw[if_pos bad];refine aO (by simp only[↓aF,aE,rE,↓reduceIte,pb,Ac bad]) ?_;refine bQ ?_;simp only[↓aF,aE,rE,↓reduceIte];refine aS ?_;simp only[↓aF,aE,rE,↓reduceIte];exact sX
 rw[if_neg bad];refine aN (by simp only[↓aF,aE,rE,↓reduceIte,pb,Aa bad]) (aI ?_);try simp only[↓aF,aE,rE,↓reduceIte]
 have w1:IntKind.i64.wrap (ps - 1)=ps - 1:=wrap_i64 (by omega) (by omega);have w2:IntKind.i64.wrap ((ni:Int) - 1)=(ni:Int) - 1:=wrap_i64 (by omega) (by omega);have lt3:S.nx<S2.nx:=by omega
 refine aA (aA (sL (fun _=>False) ?_));intro S3 s3 h3 n3;simp only[Ay,Bv,rA] at n3;simp only[↓sU,sD,rE,↓reduceIte,rA,p0,p3,bJ,bX,bI,aC,aU,aD,eC hW2.1,dE g3,w1,hW2.2,lt3,Al];rw[mH (k:=.i64) (n:=x.player) (by simp only[↓sU,sD,rE,↓reduceIte,rA])];simp only[↓sU,sD,rE,↓reduceIte,rA];refine aCF (by decide) rfl ?_;intro S4 s4 n4 c4;simp only[↓sU,sD,rE,↓reduceIte,rA];have s34:Same S2 S4:=s4.same s3 (by omega);refine aX (qX H (aJQ (by omega) c4) (by simp)) ?_;rintro _ Y ⟨rfl,hY⟩;refine⟨hY,?_⟩;simp only[↓sU,sD,rE,↓reduceIte,rA,aCR];have sY:=s2.trans (s34.trans hY);refine bQ ?_;simp only[↓sU,sD,rE,↓reduceIte,rA];by_cases h1:x.player<0∨ps - 1<x.player
 ·rw[if_pos (show x.player<0∨ps - 1<x.player∨x.info<0∨(ni:Int) - 1<x.info by omega)];refine aO (by simp only[↓sU,sD,rE,↓reduceIte,rA,if_pos h1];rfl) ?_;refine bQ ?_;simp only[↓sU,sD,rE,↓reduceIte,rA,if_pos h1];refine aS ?_;simp only[↓sU,sD,rE,↓reduceIte,rA];exact sY
 refine aN (by simp only[↓sU,sD,rE,↓reduceIte,rA,if_neg h1];rfl) (aI ?_);try simp only[↓sU,sD,rE,↓reduceIte,rA]
 have hWY:=hW.same sY;have g3Y:Y.h.get S.nx=some (.cells [.int .i64 x.kind,.int .i64 x.player,.int .i64 x.info,a,b,c] false 0):=by rw[(s34.trans hY).2 _ lt3];exact g3
 have lt3Y:S.nx<Y.nx:=Ae lt3 (s34.trans hY).1;refine aA (sL (fun _=>False) ?_);intro S5 s5 h5 n5;simp only[Ay,Bv,rA] at n5;simp only[↓sU,sD,rE,↓reduceIte,rA,p0,p3,bJ,bX,bI,aC,aU,aD,cQ hWY.1,hi,hsi,cQ g3Y,w2,hWY.2,lt3Y,Al];rw[mH (k:=.i64) (n:=x.info) (by simp only[↓sU,sD,rE,↓reduceIte,rA])];simp only[↓sU,sD,rE,↓reduceIte,rA];refine aCF (by decide) rfl ?_;intro S6 s6 n6 c6;simp only[↓sU,sD,rE,↓reduceIte,rA];have s56:Same Y S6:=s6.same s5 (by omega);refine aX (qX H (aJQ (by omega) c6) (by simp)) ?_;rintro _ Z ⟨rfl,hZ⟩;refine⟨hZ,?_⟩;simp only[↓sU,sD,rE,↓reduceIte,rA,aCR];refine aS ?_;simp only[↓sU,sD,rE,↓reduceIte,rA];refine⟨?_,sY.trans (s56.trans hZ)⟩;by_cases h2:x.info<0∨(ni:Int) - 1<x.info
 ·rw[if_pos h2,if_pos (by omega)]
 ·rw[if_neg h2,if_neg (by omega)]
theorem aKj(H:Has fns)(hx:bP S cs x)(hW:uP S wb ps n i p d l)(hps:1≤ps∧ps≤4):gH fns (.fn 175 [] []) [.ptr wb 0,.agg cs] S fun r S'=>r= .int .i64 (if mT ps x then 3 else if iI (-1000000) 1000000 x.pay then 2 else 0)∧Same S S':=by
 obtain⟨a,b,c,rfl,hn,hw,hp⟩:=hx;refine cI H.f175 (by simp) ?_;simp only[↓aF,aE,rE,↓reduceIte];refine bQ ?_;refine cM (by simp only[↓aF,aE,rE,↓reduceIte];exact bB _) ?_;intro S2 s2 n2 g3;simp only[↓aF,aE,rE,↓reduceIte];have hn2:=hn.same s2;have hw2:=hw.same s2;have hp2:=hp.same s2;have hW2:=hW.same s2;have sn:=bK.self hn2;have sw:=bK.self hw2;have sp:=bK.self hp2;refine aA (aA (aY (Q:=fun o A' X=>o= .normal∧A'.inr=false∧Same S2 X∧aB 3 A'.F= .ptr S.nx 0∧aB 35 A'.F= .bool (decide (mT ps x))) (gP ?_) ?_))
 ·have sX:=Same.nx S2 31;by_cases c0:x.player≠0
  ·rw[Ac (show mT ps x from .inl c0)];simp only[↓aF,aE,rE,↓reduceIte,aC,aD,dE g3,cQ g3,cT g3,dC g3,dM g3,hn2.len,hw2.len,hp2.len,Ag,bJ,bX,bI,aU,fU,eC hW2.1,sn,sw,sp,Ac c0];exact Same.nx S2 _
  by_cases c1:x.info≠0
  ·rw[Ac (show mT ps x from .inr (.inl c1))];simp only[↓aF,aE,rE,↓reduceIte,aC,aD,dE g3,cQ g3,cT g3,dC g3,dM g3,hn2.len,hw2.len,hp2.len,Ag,bJ,bX,bI,aU,fU,eC hW2.1,sn,sw,sp,Aa c0,Ac c1];exact Same.nx S2 _
  by_cases c2:(0:Int)<((x.next.length:Nat):Int)
  ·rw[Ac (show mT ps x from .inr (.inr (.inl c2)))];simp only[↓aF,aE,rE,↓reduceIte,aC,aD,dE g3,cQ g3,cT g3,dC g3,dM g3,hn2.len,hw2.len,hp2.len,Ag,bJ,bX,bI,aU,fU,eC hW2.1,sn,sw,sp,Aa c0,Aa c1,Ac c2];exact Same.nx S2 _
  by_cases c3:(0:Int)<((x.weights.length:Nat):Int)
  ·rw[Ac (show mT ps x from .inr (.inr (.inr (.inl c3))))];simp only[↓aF,aE,rE,↓reduceIte,aC,aD,dE g3,cQ g3,cT g3,dC g3,dM g3,hn2.len,hw2.len,hp2.len,Ag,bJ,bX,bI,aU,fU,eC hW2.1,sn,sw,sp,Aa c0,Aa c1,Aa c2,Ac c3];exact Same.nx S2 _
  by_cases c4:((x.pay.length:Nat):Int)≠ps
  ·rw[Ac (show mT ps x from .inr (.inr (.inr (.inr (c4)))))];simp only[↓aF,aE,rE,↓reduceIte,aC,aD,dE g3,cQ g3,cT g3,dC g3,dM g3,hn2.len,hw2.len,hp2.len,Ag,bJ,bX,bI,aU,fU,eC hW2.1,sn,sw,sp,Aa c0,Aa c1,Aa c2,Aa c3,Ac c4];exact Same.nx S2 _
  rw[Aa (show ¬mT ps x by rintro(h0 | h1 | h2 | h3 | h4)<;>first | exact c0 h0 | exact c1 h1 | exact c2 h2 | exact c3 h3 | exact c4 h4)];simp only[↓aF,aE,rE,↓reduceIte,aC,aD,dE g3,cQ g3,cT g3,dC g3,dM g3,hn2.len,hw2.len,hp2.len,Ag,bJ,bX,bI,aU,fU,eC hW2.1,sn,sw,sp,Aa c0,Aa c1,Aa c2,Aa c3,Aa c4];exact Same.nx S2 _
 rintro o ⟨F,inr⟩ X ⟨rfl,q0,hX,p3,pb⟩;simp only at q0 p3 pb;subst q0;have sX:=s2.trans hX;have g3X:X.h.get S.nx=some (.cells [.int .i64 x.kind,.int .i64 x.player,.int .i64 x.info,a,b,c] false 0):=by rw[hX.2 _ (by omega)];exact g3
 try simp only[↓aF,aE,rE,↓reduceIte]
 by_cases bad:mT ps x
 ·rw[if_pos bad];refine aO (by simp only[↓aF,aE,rE,↓reduceIte,pb,Ac bad]) ?_;refine bQ ?_;simp only[↓aF,aE,rE,↓reduceIte];refine aS ?_;simp only[↓aF,aE,rE,↓reduceIte];exact sX
 rw[if_neg bad];refine aN (by simp only[↓aF,aE,rE,↓reduceIte,pb,Aa bad]) (aI ?_);try simp only[↓aF,aE,rE,↓reduceIte]
 have hlen:x.pay.length≤60:=by unfold mT at bad;omega
 have hneg:Int.negSucc 999999= -1000000:=rfl;refine bQ ?_;simp only[↓aF,aE,rE,↓reduceIte,p3,aC,aD,dM g3X];refine bG ?_;simp only[↓aF,aE,rE,↓reduceIte,hneg];refine aX (qX H (hp2.same hX) (by omega)) ?_;rintro _ Y ⟨rfl,hY⟩;try simp only[↓aF,aE,rE,↓reduceIte]
 refine aS ?_;simp only[↓aF,aE,rE,↓reduceIte];exact sX.trans hY
end
section
variable {S:St}{wb:Nat}{ps:Int}{n i p d l:AV}{ni:Nat}{cs:List AV}{x:dG}
theorem aJe(H:Has fns)(hx:bP S cs x)(hW:uP S wb ps n i p d l)(hps:1≤ps∧ps≤4)(hi:kO i=some (.int .i64 ((ni:Nat):Int)))(hni:ni≤1000)(hsi:cC i i=true):gH fns (.fn 162 [] []) [.ptr wb 0,.agg cs] S fun r S'=>r= .int .i64 (gK ps ni x)∧Same S S':=by
 obtain⟨a,b,c,rfl,hn,hw,hp⟩:=id hx;refine cI H.f162 (by simp) ?_;simp only[↓aF,aE,rE,↓reduceIte];refine bQ ?_;refine cM (by simp only[↓aF,aE,rE,↓reduceIte];exact bB _) ?_;intro S1 s1 n1 g3;simp only[↓aF,aE,rE,↓reduceIte];have hbd:∀ (F:Fr) (h:T AB),fV (.build [.nilfn,.nilfn,.nilfn,.nilfn] [(1,1,.c (.fn 173 [] [])),(2,1,.c (.fn 174 [] [])),(3,1,.c (.fn 175 [] []))]) F h=some (.agg [.nilfn,.fn 173 [] [],.fn 174 [] [],.fn 175 [] []]):=fun _ _=>rfl;refine bQ ?_;simp only[↓aF,aE,rE,↓reduceIte,hbd];refine cH ?_;intro S2 s2 n2 c2;refine dB (b:=S1.nx) (by simp only[↓aF,aE,rE,↓reduceIte]) (by simp only[↓aF,aE,rE,↓reduceIte];exact bB _) c2 rfl rfl ?_;intro S3 s3 n3 c3;simp only[↓aF,aE,rE,↓reduceIte];have s13:Same S1 S3:=s3.same s2 (Ah _);have sS:=s1.trans s13;have g3:S3.h.get S.nx=some (.cells [.int .i64 x.kind,.int .i64 x.player,.int .i64 x.info,a,b,c] false 0):=by rw[s13.2 _ (by omega)];exact g3
 have lt3:S.nx<S3.nx:=by omega
 have lt5:S1.nx<S3.nx:=by omega
 have hx3:bP S3 [.int .i64 x.kind,.int .i64 x.player,.int .i64 x.info,a,b,c] x:=bF hx sS;have hW3:=hW.same sS;have sl:=wQ (cS .i64 x.kind) (cS .i64 x.player) (cS .i64 x.info) (bK.self hn) (bK.self hw) (bK.self hp);unfold gK;refine aA (aA (aY (Q:=fun o A' X=>o= .normal∧A'.inr=false∧X=S3∧aB 0 A'.F= .ptr wb 0∧aB 3 A'.F= .ptr S.nx 0∧aB 5 A'.F= .ptr S1.nx 0∧aB 14 A'.F= .bool (decide (x.kind<1∨3<x.kind))) (aJ ?_) ?_))
 ·by_cases h1:x.kind<1
  ·rw[Ac (show x.kind<1∨3<x.kind from .inl h1)];simp only[↓aF,aE,rE,↓reduceIte,aC,aD,eC g3,Ac h1]
  ·by_cases h2:3<x.kind
   ·rw[Ac (show x.kind<1∨3<x.kind from .inr h2)];simp only[↓aF,aE,rE,↓reduceIte,aC,aD,eC g3,Aa h1,Ac h2]
   ·rw[Aa (show ¬ (x.kind<1∨3<x.kind) by omega)];simp only[↓aF,aE,rE,↓reduceIte,aC,aD,eC g3,Aa h1,Aa h2]
 rintro o ⟨F,inr⟩ X ⟨rfl,q0,hX,p0,p3,p5,pb⟩;simp only at q0 p0 p3 p5 pb;subst q0;rw[hX];try simp only[↓aF,aE,rE,↓reduceIte]
 by_cases bad:x.kind<1∨3<x.kind
 ·rw[if_neg (by omega),if_neg (by omega),if_neg (by omega)];refine aO (by simp only[↓aF,aE,rE,↓reduceIte,pb,Ac bad]) ?_;refine bQ ?_;simp only[↓aF,aE,rE,↓reduceIte];refine aS ?_;simp only[↓aF,aE,rE,↓reduceIte];exact sS
 refine aN (by simp only[↓aF,aE,rE,↓reduceIte,pb,Aa bad]) (aI ?_);try simp only[↓aF,aE,rE,↓reduceIte]
 have hld:∀j y,[AV.nilfn,.fn 173 [] [],.fn 174 [] [],.fn 175 [] []][j]? =some y→eH (.ptr S1.nx j) false 1 S3.h=some y:=fun j y hy=>by have:=ldc (j:=j) c3 hy;rw[Ao] at this;exact this
 have n1':fI (.int .i64 1)=some 1:=rfl;have n2':fI (.int .i64 2)=some 2:=rfl;have n3':fI (.int .i64 3)=some 3:=rfl;have i1:eU (.arr 4 1) (.ptr S1.nx 0) 1=some (.ptr S1.nx 1):=rfl;have i2:eU (.arr 4 1) (.ptr S1.nx 0) 2=some (.ptr S1.nx 2):=rfl;have i3:eU (.arr 4 1) (.ptr S1.nx 0) 3=some (.ptr S1.nx 3):=rfl;have l1:=hld 1 _ rfl;have l2:=hld 2 _ rfl;have l3:=hld 3 _ rfl;have f1:cC (.fn 173 [] []) (.fn 173 [] [])=true:=rfl;have f2:cC (.fn 174 [] []) (.fn 174 [] [])=true:=rfl;have f3:cC (.fn 175 [] []) (.fn 175 [] [])=true:=rfl;have g3':=ldN g3;refine aA (iE (fun _=>False) ?_);intro S4 s4;by_cases k1:x.kind=1
 ·rw[if_pos k1];rw[k1] at g3 g3' sl hx3;simp only[↓sU,sD,rE,↓reduceIte,rA,p0,p3,p5,aC,aU,aD,eC g3,n1',i1,l1,f1,g3',sl,lt3,lt5,Al];refine dS rfl ?_;simp only[↓sU,sD,rE,↓reduceIte,rA];refine aX (aGl H (by have:=bF hx (sS.trans s4);rw[k1] at this;exact this)) ?_;rintro _ Y ⟨rfl,hY⟩;refine⟨hY,?_⟩;try simp only[↓sU,sD,rE,↓reduceIte,rA]
  refine aS ?_;simp only[↓sU,sD,rE,↓reduceIte,rA];exact sS.trans (s4.trans hY)
 by_cases k2:x.kind=2
 ·rw[if_neg k1,if_pos k2];rw[k2] at g3 g3' sl;simp only[↓sU,sD,rE,↓reduceIte,rA,p0,p3,p5,aC,aU,aD,eC g3,n2',i2,l2,f2,g3',sl,lt3,lt5,Al];refine dS rfl ?_;simp only[↓sU,sD,rE,↓reduceIte,rA];refine aX (aJl H (by have:=bF hx (sS.trans s4);rw[k2] at this;exact this) (hW3.same s4) hps hi hni hsi) ?_;rintro _ Y ⟨rfl,hY⟩;refine⟨hY,?_⟩;try simp only[↓sU,sD,rE,↓reduceIte,rA]
  refine aS ?_;simp only[↓sU,sD,rE,↓reduceIte,rA];exact sS.trans (s4.trans hY)
 have k3:x.kind=3:=by omega
 rw[if_neg k1,if_neg k2,if_pos k3];rw[k3] at g3 g3' sl;simp only[↓sU,sD,rE,↓reduceIte,rA,p0,p3,p5,aC,aU,aD,eC g3,n3',i3,l3,f3,g3',sl,lt3,lt5,Al];refine dS rfl ?_;simp only[↓sU,sD,rE,↓reduceIte,rA];refine aX (aKj H (by have:=bF hx (sS.trans s4);rw[k3] at this;exact this) (hW3.same s4) hps) ?_;rintro _ Y ⟨rfl,hY⟩;refine⟨hY,?_⟩;try simp only[↓sU,sD,rE,↓reduceIte,rA]
 refine aS ?_;simp only[↓sU,sD,rE,↓reduceIte,rA];exact sS.trans (s4.trans hY)
end
abbrev dH:=Int×Int×Int
def iP(rec:Nat→Option (List dH)):List Int→Nat→Option (List dH)
 | [],_=>some []
 | c::l,r=>if c=(r:Int) then(rec r).bind fun L1=>(iP rec l (r+L1.length)).map (L1++ ·) else none
def fO(N:Nat)(nx:Nat→List Int):Nat→Nat→Int→Int→Option (List dH)
 | 0,_,_,_=>none
 | f+1,at_,p,d=>if at_<N then(iP (fun r=>fO N nx f r at_ (d+1)) (nx at_) (at_+1)).map fun L=>(p,d,((at_+L.length:Nat):Int))::L else none
def wW(m:Int)(L:List dH):Int:=L.foldl (fun m t=>mx m t.2.1) m
theorem aF2(m:Int)(L L':List dH):wW m (L++L')=wW (wW m L) L':=List.foldl_append ..
theorem aIH(m:Int)(t:dH)(L:List dH):wW m (t::L)=wW (mx m t.2.1) L:=rfl
def dU(g:aR)(i:Nat):List Int:=((g.nodes[i]?).map (·.next)).getD []
theorem yL{g:aR}{i:Nat}{x:dG}(h:g.nodes[i]? =some x):dU g i=x.next:=by unfold dU;rw[h];rfl
theorem aEm{rec:Nat→Option (List dH)}{N:Nat}(hr:∀r L,rec r=some L→r+L.length≤N∧0<L.length):∀ {l:List Int} {r:Nat} {L:List dH},r≤N→iP rec l r=some L→r+L.length≤N
 | [],r,L,h,hk=>by simp only[iP,An] at hk;subst hk;simpa using h
 | c::l,r,L,h,hk=>by
  simp only[iP] at hk;split at hk
  ·obtain⟨L1,h1,h2⟩:=Db.1 hk;obtain⟨L2,h3,rfl⟩:=Aw.1 h2;have:=aEm hr (hr r L1 h1).1 h3;rw[Am];omega
  ·cases hk
theorem wG{N:Nat}{nx:Nat→List Int}:∀ {f at_:Nat} {p d:Int} {L:List dH},fO N nx f at_ p d=some L→at_+L.length≤N∧0<L.length
 | 0,at_,p,d,L,h=>by cases h
 | f+1,at_,p,d,L,h=>by
  simp only[fO] at h;split at h
  ·rename_i hlt;obtain⟨L',h1,rfl⟩:=Aw.1 h;have:=aEm (N:=N) (fun r L hr=>wG hr) (show at_+1≤N by omega) h1;rw[Ay];omega
  ·cases h
theorem aH.tail{k:Nat}{α:Type}{E:St→List AV→α→Prop}{S:St}{v:AV}{a:α}{l:List α}(h:aH k E S v (a::l)):∃v',(∀ (F:Fr) (x:cL),fI (x.val F)=some 1→xX (.slice k) v (some x) none none F=some v')∧aH k E S v' l:=by
 rcases h with⟨h0,_⟩ | ⟨b,off,cap,o,cs,rfl,hc,hb,hcs,hel⟩
 ·cases h0
 ·rw[Ay] at hc;have e1:Nat.ble cap cap=true:=Au (Ah _);have e2:Nat.ble (l.length+1) cap=true:=Au hc;have e3:Nat.ble 1 (l.length+1)=true:=Au (by omega);by_cases h1:cap=1
  ·have hl:l= []:=Bw.1 (by omega);subst hl;subst h1;have e4:Nat.beq 1 1=true:=rfl;refine⟨bN o .emp (.sl b off 0 0 false),fun F x hx=>?_,?_⟩
   ·simp only[xX,aKF,oU,jY,aK,hx,Ay,Bv];cases o<;>rfl
   ·cases o with
    | true=>exact .inl ⟨rfl,.inr rfl⟩
    | false=>exact .inr ⟨b,off,0,false,cs,rfl,Ah _,hb,hcs,fun i a hi=>by simp at hi⟩
  ·have e4:Nat.beq cap 1=false:=by rw[Ef];intro h;rw[Bh] at h;omega
   refine⟨.sl b (off+1 * k) (l.length+1 - 1) (cap - 1) o,fun F x hx=>?_,.inr ⟨b,off+1 * k,cap - 1,o,cs,by simp,by omega,hb,hcs,fun i a' hi=>?_⟩⟩
   ·simp only[xX,aKF,oU,jY,aK,hx,Ay,e1,e2,e3,aQ,e4,aW,Option.isNone_none];cases o<;>rfl
   ·obtain⟨e,h1,h2,h3⟩:=hel (i+1) a' (by simpa using hi);refine⟨e,h1,fun j x hj=>?_,h3⟩;have:=h2 j x hj;rw[show off+1 * k+i * k+j=off+(i+1) * k+j by rw[Dy];omega];exact this
theorem aEK(a b:Int):lK true [.int .i64 a,.int .i64 b]=some (.int .i64 (mx a b)):=by rw[aMu,aOa,aNT]
def aG4(S:St)(db:Nat)(at_:Nat)(deep:Int)(o:Option (List dH))(r:AV)(S':St):Prop:=
 bS db S S'∧match o with
 | some L=>r= .int .i64 ((at_+L.length:Nat):Int)∧S'.h.get db=some (.cells [.int .i64 (wW deep L)] false 0)
 | none=>r= .int .i64 (-1)∧∃z,S'.h.get db=some (.cells [.int .i64 z] false 0)
def aMV(S1:St)(gb db at_:Nat)(d deep1:Int)(rec:Nat→Option (List dH))(ks:List Int)(k:Nat)(A:bH)(X:St):Prop:=
 A.inr=false∧bS db S1 X∧∃ (j:Nat) (L:List dH),j+k=ks.length∧at_+1+L.length≤2000∧iP rec ks (at_+1)=(iP rec (ks.drop j) (at_+1+L.length)).map (L++ ·)∧aB 1 A.F= .int .i64 (at_:Int)∧aB 2 A.F= .int .i64 d∧aB 3 A.F= .ptr db 0∧aB 4 A.F= .ptr gb 0∧aB 9 A.F= .int .i64 ((at_+1+L.length:Nat):Int)∧aB 10 A.F= .int .i64 (j:Int)∧X.h.get db=some (.cells [.int .i64 (wW deep1 L)] false 0)
theorem aHa{S0:St}{gv:AV}{g:aR}{db:Nat}(H:Has fns)(hG:aNc S0 gv g)(hdb:S0.nx≤db)(hN:g.nodes.length≤2000):∀ (f:Nat) {S:St} {at_:Nat} {p d deep:Int},g.nodes.length+1 - at_≤f→0≤d→d≤at_→at_≤3000→(∀x∈g.nodes,x.next.length≤1000)→Same S0 S→db<S.nx→S.h.get db=some (.cells [.int .i64 deep] false 0)→
  gH fns (.fn 103 [] []) [gv,.int .i64 (at_:Int),.int .i64 d,.ptr db 0] S fun r S'=>aG4 S db at_ deep (fO g.nodes.length (dU g) f at_ p d) r S':=by
 intro f
 induction f with
 | zero=>
  intro S at_ p d deep hf hd0 hd hat hlen hS hlt hdeep;obtain⟨nv,iv,rfl,hn,hi⟩:=id hG;have hnS:=aH.same (E:=bP) bF hn hS;refine cI H.f103 (by simp) ?_;simp only[↓aF,aE,rE,↓reduceIte];refine bQ ?_;refine cM (by simp only[↓aF,aE,rE,↓reduceIte];exact bB _) ?_;intro S1 s1 n1 c1;simp only[↓aF,aE,rE,↓reduceIte];refine gC ?_;simp only[↓aF,aE,rE,↓reduceIte,aC,aD,aIc c1,hnS.len];refine aO (by simp only[↓aF,aE,rE,↓reduceIte,Ac (show((g.nodes.length:Nat):Int)≤(at_:Int) by omega)]) ?_;refine bQ ?_;simp only[↓aF,aE,rE,↓reduceIte];refine aS ?_;simp only[↓aF,aE,rE,↓reduceIte];exact⟨⟨s1.1,fun c hc _=>s1.2 c hc⟩,rfl,deep,by rw[s1.2 _ hlt];exact hdeep⟩
 | succ f ih=>
  intro S at_ p d deep hf hd0 hd hat hlen hS hlt hdeep;obtain⟨nv,iv,rfl,hn,hi⟩:=id hG;have hnS:=aH.same (E:=bP) bF hn hS;refine cI H.f103 (by simp) ?_;simp only[↓aF,aE,rE,↓reduceIte];refine bQ ?_;refine cM (by simp only[↓aF,aE,rE,↓reduceIte];exact bB _) ?_;intro S1 s1 n1 c1;simp only[↓aF,aE,rE,↓reduceIte];have hdeep1:S1.h.get db=some (.cells [.int .i64 deep] false 0):=by rw[s1.2 _ hlt];exact hdeep
  have b1:bS db S S1:=⟨s1.1,fun c hc _=>s1.2 c hc⟩;refine gC ?_;simp only[↓aF,aE,rE,↓reduceIte,aC,aD,aIc c1,hnS.len];by_cases hlt':at_<g.nodes.length;rotate_left
  ·refine aO (by simp only[↓aF,aE,rE,↓reduceIte,Ac (show((g.nodes.length:Nat):Int)≤(at_:Int) by omega)]) ?_;refine bQ ?_;simp only[↓aF,aE,rE,↓reduceIte];refine aS ?_;simp only[↓aF,aE,rE,↓reduceIte];refine⟨b1,?_⟩;simp only[fO,if_neg hlt'];exact⟨rfl,deep,hdeep1⟩
  refine aN (by simp only[↓aF,aE,rE,↓reduceIte,Aa (show ¬ ((g.nodes.length:Nat):Int)≤(at_:Int) by omega)]) (aI ?_);try simp only[↓aF,aE,rE,↓reduceIte]
  obtain⟨x,hx⟩:∃x,g.nodes[at_]? =some x:=⟨_,Ab hlt'⟩;have hnx:=yL hx;have hxl:=hlen x (Bc hx);have w1:IntKind.i64.wrap ((at_:Int)+1)=((at_+1:Nat):Int):=by rw[wrap_i64 (by omega) (by omega)];omega
  have w2:IntKind.i64.wrap (d+1)=d+1:=wrap_i64 (by omega) (by omega);have ldd:eH (.ptr db 0) false 1 S1.h=some (.int .i64 deep):=ldc (j:=0) hdeep1 rfl;refine bQ ?_;simp only[↓aF,aE,rE,↓reduceIte,bJ,bI,ldd,aKV,iF,lT,aEK];refine dB (b:=db) (by simp only[↓aF,aE,rE,↓reduceIte]) (by simp only[↓aF,aE,rE,↓reduceIte];exact cO _ _) hdeep1 rfl rfl ?_;intro S2 s2 n2 c2;simp only[↓aF,aE,rE,↓reduceIte];have b2:=b1.trans s2;have gb2:S2.h.get S.nx=some (.cells [.int .i64 g.players,nv,iv] false 0):=by rw[s2.2 _ (by omega) (by omega)];exact c1
  refine bQ ?_;simp only[↓aF,aE,rE,↓reduceIte,w1];refine gC ?_;simp only[↓aF,aE,rE,↓reduceIte];have hW:fO g.nodes.length (dU g) (f+1) at_ p d=(iP (fun r=>fO g.nodes.length (dU g) f r at_ (d+1)) x.next (at_+1)).map fun L=>(p,d,((at_+L.length:Nat):Int))::L:=by
   simp only[fO,if_pos hlt',hnx]
  rw[hW];refine aY (Q:=fun o A' X=>(o= .normal∧aMV S2 S.nx db at_ d (mx deep d) (fun r=>fO g.nodes.length (dU g) f r at_ (d+1)) x.next 0 A' X)∨(o= .ret∧bS db S2 X∧iP (fun r=>fO g.nodes.length (dU g) f r at_ (d+1)) x.next (at_+1)=none∧aB 8 A'.F= .int .i64 (-1)∧∃z,X.h.get db=some (.cells [.int .i64 z] false 0))) (aL (bL (aMV S2 S.nx db at_ d (mx deep d) (fun r=>fO g.nodes.length (dU g) f r at_ (d+1)) x.next) ?_ x.next.length _ _ ⟨rfl,bS.refl _ _,0,[],by omega,by rw[Bv];omega,by simp,by simp only[↓aF,aE,rE,↓reduceIte],by simp only[↓aF,aE,rE,↓reduceIte],by simp only[↓aF,aE,rE,↓reduceIte],by simp only[↓aF,aE,rE,↓reduceIte],by simp only[↓aF,aE,rE,↓reduceIte];rfl,by simp only[↓aF,aE,rE,↓reduceIte],c2⟩)) ?_
  ·rintro k ⟨F,inr⟩ X ⟨q0,hX,j,L,hjk,hL20,hkid,p1,p2,p3,p4,p9,p10,hdX⟩;simp only at q0 p1 p2 p3 p4 p9 p10;subst q0;have hbX:=b2.trans hX;have hSX:Same S0 X:=bS.same hS hbX hdb;have gbX:X.h.get S.nx=some (.cells [.int .i64 g.players,nv,iv] false 0):=by rw[hX.2 _ (by omega) (by omega)];exact gb2
   obtain⟨e,b,q,hia,hb,he,⟨a,bb,cc,rfl,ha,_,_⟩,_,hlf⟩:=aH.at (aH.same (E:=bP) bF hn hSX) (by decide) hx;have hl3:=hlf 3 a rfl;refine gC ?_;simp only[↓aF,aE,rE,↓reduceIte,p1,p4,p10,aC,aD,aIc gbX,aG,hia,hl3,ha.len,Ag];by_cases hj:j<x.next.length
   ·refine aO (by simp only[↓aF,aE,rE,↓reduceIte,Ac (show(j:Int)<((x.next.length:Nat):Int) by omega)]) (aI ?_);try simp only[↓aF,aE,rE,↓reduceIte]
    have hias:=ha.iaddr hj;have hlds:=ha.ld hj;have hdrop:x.next.drop j=x.next[j]::x.next.drop (j+1):=Bt hj;have hgd:x.next.getD j 0=x.next[j]:=by rw[Ad,Ab hj];rfl
    rw[hgd] at hlds;rw[hdrop] at hkid;generalize x.next[j]=c at *;refine aA (aL (aA (aA (aJ ?_))));simp only[↓aF,aE,rE,↓reduceIte,p1,p4,p9,p10,aC,aD,aIc gbX,aG,hia,hl3,hias,hlds];by_cases hc:c=((at_+1+L.length:Nat):Int);rotate_left
    ·refine aO (by simp only[↓aF,aE,rE,↓reduceIte,Ac (show c≠((at_+1+L.length:Nat):Int) from hc)]) ?_;refine bQ ?_;simp only[↓aF,aE,rE,↓reduceIte];refine aS ?_;simp only[↓aF,aE,rE,↓reduceIte];refine .inr ⟨hX,?_,rfl,_,hdX⟩;rw[hkid];simp only[iP,if_neg hc];rfl
    refine aN (by simp only[↓aF,aE,rE,↓reduceIte,Aa (show ¬c≠((at_+1+L.length:Nat):Int) from fun h=>h hc)]) (aI ?_);try simp only[↓aF,aE,rE,↓reduceIte]
    simp only[iP,if_pos hc] at hkid;have hr:at_+1+L.length≤3000:=by omega
    refine bQ ?_;simp only[↓aF,aE,rE,↓reduceIte,p2,p3,p4,p9,ld3 gbX,w2];refine bG ?_;simp only[↓aF,aE,rE,↓reduceIte];refine aX (ih (S:=X) (at_:=at_+1+L.length) (p:=at_) (d:=d+1) (by omega) (by omega) (by omega) hr hlen hSX (Ae hlt hbX.1) hdX) ?_;rintro r Y ⟨hY,hres⟩;cases hw:fO g.nodes.length (dU g) f (at_+1+L.length) at_ (d+1) with
    | none=>
     rw[hw] at hres hkid;obtain⟨rfl,hz⟩:=hres;try simp only[↓aF,aE,rE,↓reduceIte]
     refine bQ ?_;simp only[↓aF,aE,rE,↓reduceIte];refine aO (by simp only[↓aF,aE,rE,↓reduceIte];rfl) ?_;refine bQ ?_;simp only[↓aF,aE,rE,↓reduceIte];refine aS ?_;simp only[↓aF,aE,rE,↓reduceIte];refine .inr ⟨hX.trans hY,?_,rfl,hz⟩;rw[hkid];rfl
    | some L1=>
     rw[hw] at hres hkid;obtain⟨rfl,hdY⟩:=hres;have hwl:=(wG hw).1;simp only[Option.bind_some,Option.map_map] at hkid;try simp only[↓aF,aE,rE,↓reduceIte]
     refine bQ ?_;simp only[↓aF,aE,rE,↓reduceIte];refine aN (by simp only[↓aF,aE,rE,↓reduceIte,Aa (show ¬ ((at_+1+L.length+L1.length:Nat):Int)<0 by omega)]) (aI ?_);try simp only[↓aF,aE,rE,↓reduceIte]
     refine aJ ?_;have w3:IntKind.i64.wrap ((j:Int)+1)=((j+1:Nat):Int):=by rw[wrap_i64 (by omega) (by omega)];omega
     simp only[↓aF,aE,rE,↓reduceIte,p10,w3];refine⟨k - 1,by omega,rfl,hX.trans hY,j+1,L++L1,by omega,by rw[Am];omega,?_,by simp only[↓aF,aE,rE,↓reduceIte,p1],by simp only[↓aF,aE,rE,↓reduceIte,p2],by simp only[↓aF,aE,rE,↓reduceIte,p3],by simp only[↓aF,aE,rE,↓reduceIte,p4],by simp only[↓aF,aE,rE,↓reduceIte,Am];congr 1;omega,by simp only[↓aF,aE,rE,↓reduceIte],?_⟩
     ·rw[hkid,Am,←Co];congr 1;funext M;simp
     ·rw[aF2];exact hdY
   ·refine aN (by simp only[↓aF,aE,rE,↓reduceIte,Aa (show ¬ (j:Int)<((x.next.length:Nat):Int) by omega)]) (bM ?_);simp only[↓aF,aE,rE,↓reduceIte];have hk0:k=0:=by omega
    subst hk0;exact .inl ⟨rfl,hX,j,L,hjk,hL20,hkid,by simp only[↓aF,aE,rE,↓reduceIte,p1],by simp only[↓aF,aE,rE,↓reduceIte,p2],by simp only[↓aF,aE,rE,↓reduceIte,p3],by simp only[↓aF,aE,rE,↓reduceIte,p4],by simp only[↓aF,aE,rE,↓reduceIte,p9],by simp only[↓aF,aE,rE,↓reduceIte,p10],hdX⟩
  rintro o ⟨F,inr⟩ X (⟨rfl,q0,hX,j,L,hjk,hL20,hkid,p1,p2,p3,p4,p9,p10,hdX⟩ | ⟨rfl,hX,hno,p8,hz⟩)
  ·simp only at q0 p9;subst q0;rw[Ch (by omega)] at hkid;simp only[iP,Dl,Dd] at hkid;rw[hkid];try simp only[↓aF,aE,rE,↓reduceIte]
   refine bQ ?_;simp only[↓aF,aE,rE,↓reduceIte,p9];refine aS ?_;simp only[↓aF,aE,rE,↓reduceIte];refine⟨b2.trans hX,?_,?_⟩
   ·congr 1;simp;omega
   ·exact hdX
  ·rw[hno];simp only at p8;simp only[↓aF,aE,rE,↓reduceIte,p8];exact⟨b2.trans hX,rfl,hz⟩
def aP(l:List Int):List AV:=l.map (AV.int .i64)
theorem mI(l:List Int):(aP l).length=l.length:=by simp [aP]
theorem jJ{S S':St}(h:Same S S'){b p n:Nat}{agg:Bool}(hb:b<S.nx):eH (.ptr b p) agg n S'.h=eH (.ptr b p) agg n S.h:=by
 have e:=tJ h hb;simp only[eH,mW,xD,kL,e]
theorem qL{S:St}{b p:Nat}{w:Int}{l:List Int}{o:Bool}{sz:Nat}(h:S.h.get b=some (.cells (aP l) o sz))(hp:p<l.length):rU (.ptr b p) 1 [.int .i64 w] S=some (.undef,⟨S.h.set b (some (.cells (aP (l.set p w)) o sz)),S.nx⟩):=by
 have hput:put (aP l) p [AV.int .i64 w]=some (aP (l.set p w)):=by
  rw[put_eq,if_pos (by rw[mI];simp;omega)];congr 1;unfold aP;rw[List.map_set,List.set_eq_take_append_cons_drop,if_pos (by simp;omega)];simp
 simp only[rU,rZ,h,aK,aAO,hput];rfl
theorem aDf{S:St}{b N sz:Nat}{l:List Int}{o:Bool}(h:S.h.get b=some (.cells (aP l) o sz))(hb:b<S.nx)(hl:l.length=N):bK .i64 S (.sl b 0 N N false) l:=by
 subst hl;refine .inr ⟨b,0,l.length,false,aP l,rfl,Ah _,hb,by unfold cN;rw[h];rfl,fun i x hi=>?_⟩;rw[Ao];unfold aP;rw[Aq,hi];rfl
theorem dT{b N i:Nat}{o:Bool}(hi:i<N):eU (.slice 1) (.sl b 0 N N o) i=some (.ptr b i):=ia8 hi
theorem tG{W:Nat→Prop}{h0:T AB}{base m i:Nat}{l:List AO}{F:Fr}{S:St}{last:Option Nat}{Q:Fr→St→List iJ→Prop}{x v:cL}{b p sz:Nat}{w:Int}{P:List Int}{o:Bool}(h:kQ last m=true)(hx:x.val F= .ptr b p)(hv:v.val F= .int .i64 w)(hb:S.h.get b=some (.cells (aP P) o sz))(hp:p<P.length)(hW:W b)
  (hr:∀S1,bS b S S1→S1.nx=S.nx→S1.h.get b=some (.cells (aP (P.set p w)) o sz)→fK fns W h0 base l (i+1) F S1 [] (some i) Q):fK fns W h0 base (⟨none,.x (.st 1 x v),none,m⟩::l) i F S [] last Q:=by
 have hS:bS b S ⟨S.h.set b (some (.cells (aP (P.set p w)) o sz)),S.nx⟩:=(bS.refl b S).put _;refine rG (S1:=⟨S.h.set b (some (.cells (aP (P.set p w)) o sz)),S.nx⟩) h ?_ ⟨Ah _,fun c hc hw=>?_⟩ (hr _ hS rfl ?_)
 ·rw[hv,cO,aK,hx];exact qL (S:=S) hb hp
 ·simp only;rw[T.get_set,if_neg (show ¬c=b from fun e=>hw (by rw[e];exact hW))];rfl
 ·simp only;rw[T.get_set,if_pos rfl]
def vR(T:List dH)(a j:Nat):Option dH:=if a≤j then T[j - a]? else none
def gR(sel:dH→Int)(P P':List Int)(T:List dH)(a:Nat):Prop:=P'.length=P.length∧∀j,P'.getD j 0=((vR T a j).map sel).getD (P.getD j 0)
theorem gR.nil(sel:dH→Int)(P:List Int)(a:Nat):gR sel P P [] a:=⟨rfl,fun j=>by unfold vR;split<;>simp⟩
theorem aLS{T:List dH}{a j:Nat}{t:dH}(h:vR T a j=some t):a≤j∧j<a+T.length:=by
 unfold vR at h;split at h
 ·have:=(Ai.1 h).1;omega
 ·cases h
theorem aIF{T:List dH}{a j:Nat}(h:j<a∨a+T.length≤j):vR T a j=none:=by
 unfold vR;split
 ·exact Ca (by omega)
 ·rfl
theorem aBK(T T':List dH)(a j:Nat):vR (T++T') a j=(vR T a j).or (vR T' (a+T.length) j):=by
 unfold vR;by_cases h:a≤j
 ·rw[if_pos h,if_pos h,Ed];by_cases h1:j - a<T.length
  ·rw[if_pos h1,if_neg (by omega),Ab h1];rfl
  ·rw[if_neg h1,if_pos (by omega),Ca (l:=T) (i:=j - a) (by omega),show j - a - T.length=j - (a+T.length) by omega];rfl
 ·rw[if_neg h,if_neg h,if_neg (by omega)];rfl
theorem gR.append{sel:dH→Int}{P P1 P2:List Int}{T T':List dH}{a:Nat}(h1:gR sel P P1 T a)(h2:gR sel P1 P2 T' (a+T.length)):gR sel P P2 (T++T') a:=by
 refine⟨h2.1.trans h1.1,fun j=>?_⟩;rw[h2.2,h1.2,aBK];cases hc:vR T a j with
 | none=>rfl
 | some t=>
  have:=aLS hc;rw[aIF (by omega)];rfl
theorem fX{P:List Int}{i j:Nat}{v:Int}(hi:i<P.length):(P.set i v).getD j 0=if j=i then v else P.getD j 0:=by
 rw[Ad,Ct];by_cases h:i=j
 ·subst h;rw[if_pos rfl,if_pos rfl,if_pos hi];rfl
 ·rw[if_neg h,if_neg (Bq h),Ad]
theorem aGJ(t:dH)(a j:Nat):vR [t] a j=if j=a then some t else none:=by
 unfold vR;by_cases h:j=a
 ·subst h;simp
 ·rw[if_neg h];split
  ·exact Ca (by simp;omega)
  ·rfl
theorem gR.one{sel:dH→Int}{P:List Int}{t:dH}{a:Nat}{v:Int}(ha:a<P.length)(hv:sel t=v):gR sel P (P.set a v) [t] a:=by
 refine⟨Ap ..,fun j=>?_⟩;rw[fX ha,aGJ];by_cases h:j=a
 ·rw[if_pos h,if_pos h,←hv];rfl
 ·rw[if_neg h,if_neg h];rfl
theorem gR.late{sel:dH→Int}{P P1:List Int}{t:dH}{L:List dH}{a:Nat}{v:Int}(h:gR sel P P1 L (a+1))(ha:a<P.length)(hv:sel t=v):gR sel P (P1.set a v) (t::L) a:=by
 refine⟨by rw[Ap];exact h.1,fun j=>?_⟩;rw[fX (by rw[h.1];exact ha),h.2];have e:vR (t::L) a j=(vR [t] a j).or (vR L (a+1) j):=aBK [t] L a j;rw[e,aGJ];by_cases hj:j=a
 ·rw[if_pos hj,if_pos hj,←hv];rfl
 ·rw[if_neg hj,if_neg hj];rfl
structure WK(S:St)(wb pb db lb N:Nat)(ps:Int)(nv iv:AV)(P D L:List Int):Prop where
 w:uP S wb ps nv iv (.sl pb 0 N N false) (.sl db 0 N N false) (.sl lb 0 N N false)
 gp:S.h.get pb=some (.cells (aP P) false 0)
 gd:S.h.get db=some (.cells (aP D) false 0)
 gl:S.h.get lb=some (.cells (aP L) false 0)
 lp:P.length=N
 ld:D.length=N
 ll:L.length=N
 bp:pb<S.nx
 bd:db<S.nx
 bl:lb<S.nx
def qJ(pb db lb:Nat)(S S':St):Prop:=S.nx≤S'.nx∧∀c,c<S.nx→c≠pb→c≠db→c≠lb→S'.h.get c=S.h.get c
theorem qJ.refl(pb db lb:Nat)(S:St):qJ pb db lb S S:=⟨Ah _,fun _ _ _ _ _=>rfl⟩
theorem qJ.trans{pb db lb:Nat}{S S' S'':St}(h:qJ pb db lb S S')(h':qJ pb db lb S' S''):qJ pb db lb S S'':=⟨Ak h.1 h'.1,fun c hc h1 h2 h3=>(h'.2 c (Ae hc h.1) h1 h2 h3).trans (h.2 c hc h1 h2 h3)⟩
theorem qJ.same{pb db lb:Nat}{S0 S S':St}(h0:Same S0 S)(h:qJ pb db lb S S')(h1:S0.nx≤pb)(h2:S0.nx≤db)(h3:S0.nx≤lb):Same S0 S':=⟨Ak h0.1 h.1,fun c hc=>(h.2 c (Ae hc h0.1) (by omega) (by omega) (by omega)).trans (h0.2 c hc)⟩
def aPw(S0 S:St)(wb pb db lb:Nat)(ps:Int)(nv iv:AV)(g:aR)(P D L:List Int)(at_:Nat)(o:Option (List dH))(r:AV)(S':St):Prop:=
 qJ pb db lb S S'∧∃P' D' L',WK S' wb pb db lb g.nodes.length ps nv iv P' D' L'∧match o with
 | some T=>(∃v,r= .tup [v,.bool true]∧aH 6 bP S0 v (g.nodes.drop (at_+T.length)))∧gR (·.1) P P' T at_∧gR (·.2.1) D D' T at_∧gR (·.2.2) L L' T at_
 | none=>r= .tup [.nilsl,.bool false]
def aPT(S0 S2:St)(wb pb db lb:Nat)(ps:Int)(nv iv a:AV)(g:aR)(P D L:List Int)(at_:Nat)(d:Int)(rec:Nat→Option (List dH))(ks:List Int)(k:Nat)(A:bH)(X:St):Prop:=
 A.inr=false∧qJ pb db lb S2 X∧∃ (j:Nat) (T:List dH) (P' D' L':List Int) (v:AV),j+k=ks.length∧at_+1+T.length≤g.nodes.length∧iP rec ks (at_+1)=(iP rec (ks.drop j) (at_+1+T.length)).map (T++ ·)∧
  WK X wb pb db lb g.nodes.length ps nv iv P' D' L'∧gR (·.1) P P' T (at_+1)∧gR (·.2.1) D D' T (at_+1)∧gR (·.2.2) L L' T (at_+1)∧aH 6 bP S0 v (g.nodes.drop (at_+1+T.length))∧
  aB 0 A.F= .ptr wb 0∧aB 2 A.F= .int .i64 d∧aB 10 A.F= .int .i64 (at_:Int)∧aB 11 A.F=v∧aB 46 A.F=a∧aB 47 A.F= .int .i64 ((ks.length:Nat):Int)∧aB 48 A.F= .int .i64 (j:Int)
theorem aJg{S0:St}{nv iv:AV}{g:aR}{wb pb db lb:Nat}{ps:Int}(H:Has fns)(hG:aH 6 bP S0 nv g.nodes)(hwb:S0.nx≤wb)(hpb:S0.nx≤pb)(hdb:S0.nx≤db)(hlb:S0.nx≤lb)(ne1:pb≠db)(ne2:pb≠lb)(ne3:db≠lb)(ne4:wb≠pb)(ne5:wb≠db)(ne6:wb≠lb)(hN:g.nodes.length≤2000)(hlen:∀x∈g.nodes,x.next.length≤1000):
  ∀ (f:Nat) {S:St} {at_:Nat} {p d:Int} {rv:AV} {P D L:List Int},g.nodes.length+1 - at_≤f→0≤d→d≤at_→at_≤g.nodes.length→Same S0 S→WK S wb pb db lb g.nodes.length ps nv iv P D L→aH 6 bP S0 rv (g.nodes.drop at_)→
  gH fns (.fn 163 [] []) [.ptr wb 0,.int .i64 p,.int .i64 d,rv] S fun r S'=>aPw S0 S wb pb db lb ps nv iv g P D L at_ (fO g.nodes.length (dU g) f at_ p d) r S':=by
 intro f
 induction f with
 | zero=>intro S at_ p d rv P D L hf hd0 hd hat;omega
 | succ f ih=>
  intro S at_ p d rv P D L hf hd0 hd hat hS hK hrv;have hrl:=hrv.len;rw[Dq] at hrl;refine cI H.f163 (by simp) ?_;simp only[↓sU,sD,rE,↓reduceIte,rA];refine bQ ?_;simp only[↓sU,sD,rE,↓reduceIte,rA];refine gC ?_;simp only[↓sU,sD,rE,↓reduceIte,rA,hrl];by_cases hlt:at_<g.nodes.length;rotate_left
  ·refine aO (by simp only[↓sU,sD,rE,↓reduceIte,rA,Ac (show((g.nodes.length - at_:Nat):Int)=0 by omega)]) ?_;refine bQ ?_;simp only[↓sU,sD,rE,↓reduceIte,rA];refine aS ?_;simp only[↓sU,sD,rE,↓reduceIte,rA];simp only[fO,if_neg hlt];exact⟨qJ.refl _ _ _ _,P,D,L,hK,rfl⟩
  refine aN (by simp only[↓sU,sD,rE,↓reduceIte,rA,Aa (show ¬ ((g.nodes.length - at_:Nat):Int)=0 by omega)]) (aI ?_);try simp only[↓sU,sD,rE,↓reduceIte,rA]
  obtain⟨x,hx⟩:∃x,g.nodes[at_]? =some x:=⟨_,Ab hlt⟩;have hnx:=yL hx;have hxl:=hlen x (Bc hx);have hnl:=hG.len;have hdrop:g.nodes.drop at_=x::g.nodes.drop (at_+1):=by
   rw[Bt hlt];congr 1;rw[Ab hlt] at hx;exact Bn hx
  rw[hdrop] at hrv;have w1:IntKind.i64.wrap (((g.nodes.length:Nat):Int) - ((g.nodes.length - at_:Nat):Int))=(at_:Int):=by rw[wrap_i64 (by omega) (by omega)];omega
  refine bQ ?_;simp only[↓sU,sD,rE,↓reduceIte,rA,bJ,bI,aC,aD,dE hK.w.1,hnl,hrl,w1];have wlt:=hK.w.2;have hwn:¬ (wb=pb∨wb=db):=by omega
  refine aA (iE (fun b=>b=pb∨b=db) ?_);intro S1 s1;have hia1:=dT (b:=pb) (o:=false) hlt;have hia2:=dT (b:=db) (o:=false) hlt;simp only[↓sU,sD,rE,↓reduceIte,rA,bJ,bX,bI,aC,aU,aD,cT hK.w.1,dC hK.w.1,wlt,hwn,Al,hia1,hia2];have l1:=s1.1;have bp:=hK.bp;have bd:=hK.bd;have bl:=hK.bl;refine tG (p:=at_) (w:=p) rfl (by simp only[↓sU,sD,rE,↓reduceIte,rA]) (by simp only[↓sU,sD,rE,↓reduceIte,rA]) (by rw[s1.2 _ hK.bp];exact hK.gp) (by rw[hK.lp];exact hlt) (.inl rfl) ?_;intro S2 s2 n2 c2;simp only[↓sU,sD,rE,↓reduceIte,rA,hia2];refine tG (p:=at_) (w:=d) (show Nat.testBit 32767 13=true by decide) (by simp only[↓sU,sD,rE,↓reduceIte,rA]) (by simp only[↓sU,sD,rE,↓reduceIte,rA]) (by rw[s2.2 _ (by omega) (Bq ne1),s1.2 _ hK.bd];exact hK.gd) (by rw[hK.ld];exact hlt) (.inr rfl) ?_;intro S3 s3 n3 c3;simp only[↓sU,sD,rE,↓reduceIte,rA];have b3:qJ pb db lb S S3:=⟨by omega,fun c hc h1 h2 h3=>by rw[s3.2 _ (by omega) h2,s2.2 _ (by omega) h1,s1.2 _ hc]⟩;have hS3:Same S0 S3:=b3.same hS hpb hdb hlb;have hK3:WK S3 wb pb db lb g.nodes.length ps nv iv (P.set at_ p) (D.set at_ d) L:=⟨⟨by rw[b3.2 _ wlt ne4 ne5 ne6];exact hK.w.1,Ae wlt b3.1⟩,by rw[s3.2 _ (by omega) ne1];exact c2,c3,by rw[s3.2 _ (by omega) (Bq ne3),s2.2 _ (by omega) (Bq ne2),s1.2 _ hK.bl];exact hK.gl,by rw[Ap];exact hK.lp,by rw[Ap];exact hK.ld,hK.ll,by omega,by omega,by omega⟩;obtain⟨rv',hslc,hrv'⟩:=aH.tail hrv;have hsl1:∀F:Fr,xX (.slice 6) rv (some (.c (.int .i64 1))) none none F=some rv':=fun F=>hslc F _ rfl;refine bQ ?_;simp only[↓sU,sD,rE,↓reduceIte,rA,hsl1];obtain⟨e,b,q,hia,hb,he,⟨a,bb,cc,rfl,ha,_,_⟩,_,hlf⟩:=aH.at hrv (by decide) (i:=0) rfl;have hl3:=hlf 3 a rfl;rw[←jJ hS3 hb] at hl3;refine gC ?_;simp only[↓sU,sD,rE,↓reduceIte,rA,aIC,hia,aC,aD,hl3,ha.len,Ag];have hW:fO g.nodes.length (dU g) (f+1) at_ p d=(iP (fun r=>fO g.nodes.length (dU g) f r at_ (d+1)) x.next (at_+1)).map fun L=>(p,d,((at_+L.length:Nat):Int))::L:=by
   simp only[fO,if_pos hlt,hnx]
  rw[hW];refine aY (Q:=fun o A' X=>(o= .normal∧aPT S0 S3 wb pb db lb ps nv iv a g (P.set at_ p) (D.set at_ d) L at_ d (fun r=>fO g.nodes.length (dU g) f r at_ (d+1)) x.next 0 A' X)∨(o= .ret∧qJ pb db lb S3 X∧iP (fun r=>fO g.nodes.length (dU g) f r at_ (d+1)) x.next (at_+1)=none∧aB 8 A'.F= .nilsl∧aB 9 A'.F= .bool false∧∃P' D' L',WK X wb pb db lb g.nodes.length ps nv iv P' D' L')) (aL (bL (aPT S0 S3 wb pb db lb ps nv iv a g (P.set at_ p) (D.set at_ d) L at_ d (fun r=>fO g.nodes.length (dU g) f r at_ (d+1)) x.next) ?_ x.next.length _ _ ⟨rfl,qJ.refl _ _ _ _,0,[],P.set at_ p,D.set at_ d,L,rv',by omega,by rw[Bv];omega,by simp,hK3,gR.nil _ _ _,gR.nil _ _ _,gR.nil _ _ _,hrv',by refine⟨?_,?_,?_,?_,?_,?_,?_⟩<;>simp only[↓sU,sD,rE,↓reduceIte,rA]⟩)) ?_
  ·rintro k ⟨F,inr⟩ X ⟨q0,hX,j,T,P',D',L',v,hjk,hTN,hkid,hKX,rP,rD,rL,hv,p0,p2,p10,p11,p46,p47,p48⟩;simp only at q0 p0 p2 p10 p11 p46 p47 p48;subst q0;have hSX:Same S0 X:=hX.same hS3 hpb hdb hlb;have haX:=ha.same hSX;have hvl:=hv.len;rw[Dq] at hvl;refine bQ ?_;simp only[↓sU,sD,rE,↓reduceIte,rA,p47,p48];by_cases hj:j<x.next.length
   ·refine aA (aO (by simp only[↓sU,sD,rE,↓reduceIte,rA,Ac (show(j:Int)<((x.next.length:Nat):Int) by omega)]) (aI ?_));simp only[↓sU,sD,rE,↓reduceIte,rA];have hias:=haX.iaddr hj;have hlds:=haX.ld hj;have hdr:x.next.drop j=x.next[j]::x.next.drop (j+1):=Bt hj;have hgd:x.next.getD j 0=x.next[j]:=by rw[Ad,Ab hj];rfl
    rw[hgd] at hlds;rw[hdr] at hkid;generalize x.next[j]=c at *;have w2:IntKind.i64.wrap (((g.nodes.length:Nat):Int) - ((g.nodes.length - (at_+1+T.length):Nat):Int))=((at_+1+T.length:Nat):Int):=by rw[wrap_i64 (by omega) (by omega)];omega
    have w3:IntKind.i64.wrap (d+1)=d+1:=wrap_i64 (by omega) (by omega);have w4:IntKind.i64.wrap ((j:Int)+1)=((j+1:Nat):Int):=by rw[wrap_i64 (by omega) (by omega)];omega
    refine aA (aL (aA (aJ ?_)));simp only[↓sU,sD,rE,↓reduceIte,rA,p46,p48,aG,hias,hlds];refine gC ?_;simp only[↓sU,sD,rE,↓reduceIte,rA,p0,p11,bJ,bI,aC,aD,dE hKX.w.1,hnl,hvl,w2];by_cases hc:c=((at_+1+T.length:Nat):Int);rotate_left
    ·refine aO (by simp only[↓sU,sD,rE,↓reduceIte,rA,Ac (show c≠((at_+1+T.length:Nat):Int) from hc)]) ?_;refine bQ ?_;simp only[↓sU,sD,rE,↓reduceIte,rA];refine aS ?_;simp only[↓sU,sD,rE,↓reduceIte,rA];refine .inr ⟨hX,?_,P',D',L',hKX⟩;rw[hkid];simp only[iP,if_neg hc];rfl
    refine aN (by simp only[↓sU,sD,rE,↓reduceIte,rA,Aa (show ¬c≠((at_+1+T.length:Nat):Int) from fun h=>h hc)]) (aI ?_);try simp only[↓sU,sD,rE,↓reduceIte,rA]
    simp only[iP,if_pos hc] at hkid;refine bQ ?_;simp only[↓sU,sD,rE,↓reduceIte,rA,p0,p2,p10,p11,w3];refine bG ?_;simp only[↓sU,sD,rE,↓reduceIte,rA];refine aX (ih (S:=X) (at_:=at_+1+T.length) (p:=at_) (d:=d+1) (by omega) (by omega) (by omega) hTN hSX hKX hv) ?_;rintro r Y ⟨hY,P2,D2,L2,hKY,hres⟩;cases hw:fO g.nodes.length (dU g) f (at_+1+T.length) at_ (d+1) with
    | none=>
     rw[hw] at hres hkid;subst hres;simp only[↓sU,sD,rE,↓reduceIte,rA,uW,vE];refine bQ ?_;simp only[↓sU,sD,rE,↓reduceIte,rA,gE,Ee];refine aO (by simp only[↓sU,sD,rE,↓reduceIte,rA]) ?_;refine bQ ?_;simp only[↓sU,sD,rE,↓reduceIte,rA];refine aS ?_;simp only[↓sU,sD,rE,↓reduceIte,rA];refine .inr ⟨hX.trans hY,?_,P2,D2,L2,hKY⟩;rw[hkid];rfl
    | some T1=>
     rw[hw] at hres hkid;obtain⟨⟨v2,rfl,hv2⟩,k1,k2,k3⟩:=hres;simp only[Option.bind_some,Option.map_map] at hkid;have hwl:=(wG hw).1;simp only[↓sU,sD,rE,↓reduceIte,rA,uW,vE];refine bQ ?_;simp only[↓sU,sD,rE,↓reduceIte,rA,gE,Cz];refine aN (by simp only[↓sU,sD,rE,↓reduceIte,rA]) (aI ?_);try simp only[↓sU,sD,rE,↓reduceIte,rA]
     refine aJ ?_;simp only[↓sU,sD,rE,↓reduceIte,rA,p48,w4];refine⟨k - 1,by omega,rfl,hX.trans hY,j+1,T++T1,P2,D2,L2,v2,by omega,by rw[Am];omega,?_,hKY,rP.append k1,rD.append k2,rL.append k3,by rw[Am,←Co];exact hv2,by refine⟨?_,?_,?_,?_,?_,?_,?_⟩<;>simp only[↓sU,sD,rE,↓reduceIte,rA,p0,p2,p10,p46,p47]⟩;rw[hkid,Am,←Co];congr 1;funext M;simp
   ·refine aA (aN (by simp only[↓sU,sD,rE,↓reduceIte,rA,Aa (show ¬ (j:Int)<((x.next.length:Nat):Int) by omega)]) (bM ?_));simp only[↓sU,sD,rE,↓reduceIte,rA];have hk0:k=0:=by omega
    subst hk0;exact .inl ⟨rfl,hX,j,T,P',D',L',v,hjk,hTN,hkid,hKX,rP,rD,rL,hv,by refine⟨?_,?_,?_,?_,?_,?_,?_⟩<;>simp only[↓sU,sD,rE,↓reduceIte,rA,p0,p2,p10,p11,p46,p47,p48]⟩
  rintro o ⟨F,inr⟩ X (⟨rfl,q0,hX,j,T,P',D',L',v,hjk,hTN,hkid,hKX,rP,rD,rL,hv,p0,p2,p10,p11,p46,p47,p48⟩ | ⟨rfl,hX,hno,p8,p9,P',D',L',hKX⟩);rotate_left
  ·rw[hno];simp only at p8 p9;simp only[↓sU,sD,rE,↓reduceIte,rA,p8,p9];exact⟨b3.trans hX,P',D',L',hKX,rfl⟩
  simp only at q0 p0 p10 p11;subst q0;rw[Ch (by omega)] at hkid;simp only[iP,Dl,Dd] at hkid;rw[hkid];have hvl:=hv.len;rw[Dq] at hvl;have w2:IntKind.i64.wrap (((g.nodes.length:Nat):Int) - ((g.nodes.length - (at_+1+T.length):Nat):Int))=((at_+1+T.length:Nat):Int):=by rw[wrap_i64 (by omega) (by omega)];omega
  have w5:IntKind.i64.wrap (((at_+1+T.length:Nat):Int) - 1)=((at_+T.length:Nat):Int):=by rw[wrap_i64 (by omega) (by omega)];omega
  have wltX:=hKX.w.2;have hia3:=dT (b:=lb) (o:=false) hlt;try simp only[↓sU,sD,rE,↓reduceIte,rA]
  refine aA (iE (fun b=>b=lb) ?_);intro S4 s4;simp only[↓sU,sD,rE,↓reduceIte,rA,p0,p10,p11,bJ,bX,bI,aC,aU,aD,dE hKX.w.1,dM hKX.w.1,hnl,hvl,w2,w5,wltX,ne6,Al,hia3,aH.self hG];have l4:=s4.1;have bpX:=hKX.bp;have bdX:=hKX.bd;have blX:=hKX.bl;refine tG (p:=at_) (w:=((at_+T.length:Nat):Int)) rfl (by simp only[↓sU,sD,rE,↓reduceIte,rA]) (by simp only[↓sU,sD,rE,↓reduceIte,rA]) (by rw[s4.2 _ hKX.bl];exact hKX.gl) (by rw[hKX.ll];exact hlt) rfl ?_;intro S5 s5 n5 c5;simp only[↓sU,sD,rE,↓reduceIte,rA];have b5:qJ pb db lb X S5:=⟨by omega,fun c hc h1 h2 h3=>by rw[s5.2 _ (by omega) h3,s4.2 _ hc]⟩;refine bQ ?_;simp only[↓sU,sD,rE,↓reduceIte,rA,p11];refine aS ?_;simp only[↓sU,sD,rE,↓reduceIte,rA];have hatP:at_<P.length:=by rw[hK.lp];exact hlt
  have hatD:at_<D.length:=by rw[hK.ld];exact hlt
  have hatL:at_<L.length:=by rw[hK.ll];exact hlt
  refine⟨b3.trans (hX.trans b5),P',D',L'.set at_ ((at_+T.length:Nat):Int),⟨⟨by rw[b5.2 _ wltX ne4 ne5 ne6];exact hKX.w.1,Ae wltX b5.1⟩,by rw[s5.2 _ (by omega) ne2,s4.2 _ hKX.bp];exact hKX.gp,by rw[s5.2 _ (by omega) ne3,s4.2 _ hKX.bd];exact hKX.gd,c5,hKX.lp,hKX.ld,by rw[Ap];exact hKX.ll,by show _<S5.nx;omega,by show _<S5.nx;omega,by show _<S5.nx;omega⟩,⟨v,rfl,?_⟩,?_,?_,?_⟩
  ·rw[Ay,show at_+(T.length+1)=at_+1+T.length by omega];exact hv
  ·exact gR.append (T:=[(p,d,((at_+T.length:Nat):Int))]) (gR.one hatP rfl) rP
  ·exact gR.append (T:=[(p,d,((at_+T.length:Nat):Int))]) (gR.one hatD rfl) rD
  ·exact gR.late rL hatL rfl
end Go.Ev.Gl
