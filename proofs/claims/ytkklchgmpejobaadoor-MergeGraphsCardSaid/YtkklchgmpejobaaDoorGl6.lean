import Derived.Test.YtkklchgmpejobaaDoorGl5
open Nat renaming reduceEqDiff → rE, reduceAdd → rA
set_option maxHeartbeats 16000000
set_option linter.unusedSimpArgs false
set_option linter.unusedVariables false
namespace Go.Ev.Gl
variable {fns:T cR}
structure dD where
 kind:Int
 player:Int
 info:Int
 next:List Int
 weights:List Int
 pay:List Int
structure aDc where
 player:Int
 actions:Int
structure aZ where
 players:Int
 nodes:List dD
 infos:List aDc
def fT(lo hi:Int)(l:List Int):Prop:=∃w∈l,w<lo∨hi<w
instance anyOutDec(lo hi:Int)(l:List Int):Decidable (fT lo hi l):=by unfold fT;exact inferInstance
def kS(x:dD):Prop:=x.player≠0∨x.info≠0∨(0:Int)<((x.pay.length:Nat):Int)∨((x.next.length:Nat):Int)<1∨(60:Int)<((x.next.length:Nat):Int)∨((x.weights.length:Nat):Int)≠((x.next.length:Nat):Int)
def tY(x:dD):Prop:=(0:Int)<((x.weights.length:Nat):Int)∨(0:Int)<((x.pay.length:Nat):Int)∨((x.next.length:Nat):Int)<1∨(10:Int)<((x.next.length:Nat):Int)
def lW(ps:Int)(x:dD):Prop:=x.player≠0∨x.info≠0∨(0:Int)<((x.next.length:Nat):Int)∨(0:Int)<((x.weights.length:Nat):Int)∨((x.pay.length:Nat):Int)≠ps
instance badCDec(x:dD):Decidable (kS x):=by unfold kS;exact inferInstance
instance badMDec(x:dD):Decidable (tY x):=by unfold tY;exact inferInstance
instance badEDec(ps:Int)(x:dD):Decidable (lW ps x):=by unfold lW;exact inferInstance
def fX(ps:Int)(ni:Nat)(x:dD):Int:=
 if x.kind=1 then(if kS x then 3 else if fT 1 1000 x.weights then 2 else 0)
 else if x.kind=2 then(if tY x then 3 else if x.player<0∨ps - 1<x.player∨x.info<0∨(ni:Int) - 1<x.info then 2 else 0)
 else if x.kind=3 then(if lW ps x then 3 else if fT (-1000000) 1000000 x.pay then 2 else 0)
 else 3
def bT(S:St)(cs:List AV)(x:dD):Prop:=∃a b c,cs= [.int .i64 x.kind,.int .i64 x.player,.int .i64 x.info,a,b,c]∧bJ .i64 S a x.next∧bJ .i64 S b x.weights∧bJ .i64 S c x.pay
theorem bE:mI bT:=fun⟨a,b,c,h,h1,h2,h3⟩ hs=>⟨a,b,c,h,h1.same hs,h2.same hs,h3.same hs⟩
def bZ(_:St)(cs:List AV)(x:aDc):Prop:=cs= [.int .i64 x.player,.int .i64 x.actions]
theorem bQ:mI bZ:=fun h _=>h
def nR(S:St)(v:AV)(g:aZ):Prop:=∃n i,v= .agg [.int .i64 g.players,n,i]∧aN 6 bT S n g.nodes∧aN 2 bZ S i g.infos
theorem nR.same{S S':St}{v:AV}{g:aZ}(h:nR S v g)(hs:Same S S'):nR S' v g:=by
 obtain⟨n,i,h1,h2,h3⟩:=h;exact⟨n,i,h1,aN.same (E:=bT) bE h2 hs,aN.same (E:=bZ) bQ h3 hs⟩
theorem ldc{h:T AB}{b j:Nat}{cs:List AV}{x:AV}{o:Bool}{s:Nat}(hb:h.get b=some (.cells cs o s))(hj:cs[j]? =some x):cJ (.ptr b (0+j)) false 1 h=some x:=by
 simp only[cJ,lL,aT,iJ,cK,hb,aO,gT,iO,Aw,hj]
theorem aIN{h:T AB}{b n:Nat}{cs:List AV}{o:Bool}{s:Nat}(hb:h.get b=some (.cells cs o s))(hn:cs.length=n):cJ (.ptr b 0) true n h=some (.agg cs):=by
 subst hn;simp only[cJ,lL,aM,tZ,cK,hb,aO,gT];unfold cut;rw[fO,gC,Co,if_pos (Ah _),Cn];rfl
section
variable {h:T AB}{b:Nat}{x0 x1 x2 x3 x4 x5:AV}{o:Bool}{s:Nat}
theorem eY(hb:h.get b=some (.cells [x0,x1,x2,x3,x4,x5] o s)):cJ (.ptr b (0+0)) false 1 h=some x0:=ldc hb rfl
theorem cO(hb:h.get b=some (.cells [x0,x1,x2,x3,x4,x5] o s)):cJ (.ptr b (0+1)) false 1 h=some x1:=ldc hb rfl
theorem cL(hb:h.get b=some (.cells [x0,x1,x2,x3,x4,x5] o s)):cJ (.ptr b (0+2)) false 1 h=some x2:=ldc hb rfl
theorem cN(hb:h.get b=some (.cells [x0,x1,x2,x3,x4,x5] o s)):cJ (.ptr b (0+3)) false 1 h=some x3:=ldc hb rfl
theorem cQ(hb:h.get b=some (.cells [x0,x1,x2,x3,x4,x5] o s)):cJ (.ptr b (0+4)) false 1 h=some x4:=ldc hb rfl
theorem cP(hb:h.get b=some (.cells [x0,x1,x2,x3,x4,x5] o s)):cJ (.ptr b (0+5)) false 1 h=some x5:=ldc hb rfl
theorem ldN(hb:h.get b=some (.cells [x0,x1,x2,x3,x4,x5] o s)):cJ (.ptr b 0) true 6 h=some (.agg [x0,x1,x2,x3,x4,x5]):=aIN hb rfl
end
section
variable {k:Nat}{α:Type}{E:St→List AV→α→Prop}{S:St}{v:AV}{l:List α}
theorem aN.at(h:aN k E S v l)(hk:0<k){i:Nat}{a:α}(hi:l[i]? =some a):∃e b p,fC (.slice k) v i=some (.ptr b p)∧b<S.nx∧e.length=k∧E S e a∧cJ (.ptr b p) true k S.h=some (.agg e)∧∀j x,e[j]? =some x→cJ (.ptr b (p+j)) false 1 S.h=some x:=by
 obtain⟨e,b,p,h1,h2,h3,h4,cs,h5,h6⟩:=h.get hi;have hlt:=(Af.1 hi).1;refine⟨e,b,p,by rw[←h1];exact h.iaddr hlt,h2,h3,h4,?_,fun j x hj=>?_⟩
 ·simp only[cJ,lL,aM,tZ,h5,aO];have hcut:cut cs p k=some e:=by
   have hle:p+k≤cs.length:=by
    have:=h6 (k - 1) (e[k - 1]'(by omega)) (Ad (by omega));have:=(Af.1 this).1;omega
   unfold cut;rw[fO,gC,if_pos (by rw[Cx];omega)];congr 1;refine Eq (by rw[Ca,Cx];omega) fun j j1 j2=>?_;have:=h6 j e[j] (Ad j2);rw[List.getElem_take,List.getElem_drop];exact(Af.1 this).2
  rw[hcut,aO]
 ·simp only[cJ,lL,aT,iJ,h5,aO,iO];exact h6 j x hj
end
def tG(x:dD):Prop:=(0:Int)<((x.pay.length:Nat):Int)∨(0:Int)<((x.weights.length:Nat):Int)∨((x.next.length:Nat):Int)<1∨(10:Int)<((x.next.length:Nat):Int)
instance badMDec'(x:dD):Decidable (tG x):=by unfold tG;exact inferInstance
theorem aEC(x:dD):tG x↔tY x:=by unfold tY tG;omega
def aCf(ps:Int)(ni:Nat)(x:dD):Prop:=x.player<0∨ps≤x.player∨x.info<0∨((ni:Nat):Int)≤x.info
instance badRDec(ps:Int)(ni:Nat)(x:dD):Decidable (aCf ps ni x):=by unfold aCf;exact inferInstance
theorem aFr(ps:Int)(ni:Nat)(x:dD):aCf ps ni x↔(x.player<0∨ps - 1<x.player∨x.info<0∨(ni:Int) - 1<x.info):=by unfold aCf;omega
theorem tN{lo hi:Int}{l:List Int}{i:Nat}(hi':i<l.length)(h:¬fT lo hi (l.take i))(h2:¬ (l.getD i 0<lo∨hi<l.getD i 0)):¬fT lo hi (l.take (i+1)):=by
 rintro⟨w,hw,ho⟩;rw[Bt,Ad hi'] at hw;rcases Bl.1 hw with h1 | h1
 ·exact h ⟨w,h1,ho⟩
 ·simp at h1;rw[Ai,Ad hi'] at h2;subst h1;exact h2 ho
theorem wQ{lo hi:Int}{l:List Int}{i:Nat}(hi':i<l.length)(h2:l.getD i 0<lo∨hi<l.getD i 0):fT lo hi l:=by
 rw[Ai,Ad hi'] at h2;exact⟨l[i],Ee hi',h2⟩
def aNv(S:St)(b t:Nat)(lo hi:Int)(l:List Int)(k:Nat)(A:bK)(X:St):Prop:=A.inr=false∧X=S∧∃i,i+k=l.length∧¬fT lo hi (l.take i)∧aH 3 A.F= .ptr b 0∧aH t A.F= .int .i64 (i:Int)
theorem aGp{S:St}{n i:AV}{ps:Int}{ni:Nat}{cs:List AV}{x:dD}(H:Has fns)(hx:bT S cs x)(hps:ps≤4)(hi:lE i=some (.int .i64 ((ni:Nat):Int))):fH fns (.fn 44 [] []) [.agg [.int .i64 ps,n,i],.agg cs] S fun r S'=>r= .int .i64 (fX ps ni x)∧Same S S':=by
 obtain⟨a,b,c,rfl,hn,hw,hp⟩:=hx;refine bP H.f44 (by simp) ?_;simp only[↓aA,aB,rE,↓reduceIte];refine bO ?_;refine cW (by simp only[↓aA,aB,rE,↓reduceIte];exact bL _) ?_;intro S1 s1 n1 c1;refine cW (by simp only[↓aA,aB,rE,↓reduceIte];exact bL _) ?_;intro S2 s2 n2 g3;simp only[↓aA,aB,rE,↓reduceIte];have g2:S2.h.get S.nx=some (.cells [.int .i64 ps,n,i] false 0):=by rw[s2.2 _ (by omega)];exact c1
 have sS:=s1.trans s2;have hneg:Int.negSucc 999999= -1000000:=rfl;have hn2:=hn.same sS;have hw2:=hw.same sS;have hp2:=hp.same sS;refine fZ ?_;simp only[↓aA,aB,rE,↓reduceIte,aF,aE,eY g3];refine aK (aC (aD ?_));simp only[↓aA,aB,rE,↓reduceIte];unfold fX;have fin:∀F:Fr,oL fns (.seq (.reg [oq 4 (.mv (ci 0))]) .ret) ⟨F,false⟩ S2 (aMk [.t 4] fun r S'=>r= .int .i64 0∧Same S S'):=fun F=>by
  refine bO ?_;simp only[↓aA,aB,rE,↓reduceIte];refine aS ?_;simp only[↓aA,aB,rE,↓reduceIte];exact sS
 by_cases k1:x.kind=1
 ·rw[if_pos k1];refine aQ (by simp only[↓aA,aB,rE,↓reduceIte,Ab k1]) ?_;refine aC (aC (aX (Q:=fun o A' X=>o= .normal∧A'.inr=false∧X=S2∧aH 3 A'.F= .ptr S1.nx 0∧aH 45 A'.F= .bool (decide (kS x))) (aD ?_) ?_))
  ·by_cases c0:x.player≠0
   ·rw[Ab (show kS x from .inl c0)];simp only[↓aA,aB,rE,↓reduceIte,aF,aE,cO g3,cL g3,cN g3,cQ g3,cP g3,iW g2,iT g2,hn2.len,hw2.len,hp2.len,hi,Ag,Ab c0]
   by_cases c1:x.info≠0
   ·rw[Ab (show kS x from .inr (.inl c1))];simp only[↓aA,aB,rE,↓reduceIte,aF,aE,cO g3,cL g3,cN g3,cQ g3,cP g3,iW g2,iT g2,hn2.len,hw2.len,hp2.len,hi,Ag,Aa c0,Ab c1]
   by_cases c2:(0:Int)<((x.pay.length:Nat):Int)
   ·rw[Ab (show kS x from .inr (.inr (.inl c2)))];simp only[↓aA,aB,rE,↓reduceIte,aF,aE,cO g3,cL g3,cN g3,cQ g3,cP g3,iW g2,iT g2,hn2.len,hw2.len,hp2.len,hi,Ag,Aa c0,Aa c1,Ab c2]
   by_cases c3:((x.next.length:Nat):Int)<1
   ·rw[Ab (show kS x from .inr (.inr (.inr (.inl c3))))];simp only[↓aA,aB,rE,↓reduceIte,aF,aE,cO g3,cL g3,cN g3,cQ g3,cP g3,iW g2,iT g2,hn2.len,hw2.len,hp2.len,hi,Ag,Aa c0,Aa c1,Aa c2,Ab c3]
   by_cases c4:(60:Int)<((x.next.length:Nat):Int)
   ·rw[Ab (show kS x from .inr (.inr (.inr (.inr (.inl c4)))))];simp only[↓aA,aB,rE,↓reduceIte,aF,aE,cO g3,cL g3,cN g3,cQ g3,cP g3,iW g2,iT g2,hn2.len,hw2.len,hp2.len,hi,Ag,Aa c0,Aa c1,Aa c2,Aa c3,Ab c4]
   by_cases c5:((x.weights.length:Nat):Int)≠((x.next.length:Nat):Int)
   ·rw[Ab (show kS x from .inr (.inr (.inr (.inr (.inr (c5))))))];simp only[↓aA,aB,rE,↓reduceIte,aF,aE,cO g3,cL g3,cN g3,cQ g3,cP g3,iW g2,iT g2,hn2.len,hw2.len,hp2.len,hi,Ag,Aa c0,Aa c1,Aa c2,Aa c3,Aa c4,Ab c5]
   rw[Aa (show ¬kS x by rintro(h0 | h1 | h2 | h3 | h4 | h5)<;>first | exact c0 h0 | exact c1 h1 | exact c2 h2 | exact c3 h3 | exact c4 h4 | exact c5 h5)];simp only[↓aA,aB,rE,↓reduceIte,aF,aE,cO g3,cL g3,cN g3,cQ g3,cP g3,iW g2,iT g2,hn2.len,hw2.len,hp2.len,hi,Ag,Aa c0,Aa c1,Aa c2,Aa c3,Aa c4,Aa c5]
  rintro o ⟨F,inr⟩ X ⟨rfl,q0,hX,p3,pb⟩;simp only at q0 p3 pb;subst q0;rw[hX];try simp only[↓aA,aB,rE,↓reduceIte]
  by_cases bad:kS x
  ·rw[if_pos bad];refine aQ (by simp only[↓aA,aB,rE,↓reduceIte,pb,Ab bad]) ?_;refine bO ?_;simp only[↓aA,aB,rE,↓reduceIte];refine aS ?_;simp only[↓aA,aB,rE,↓reduceIte];exact sS
  rw[if_neg bad];have hlen:x.weights.length≤60:=by unfold kS at bad;omega
  refine aL (by simp only[↓aA,aB,rE,↓reduceIte,pb,Aa bad]) (aJ ?_);try simp only[↓aA,aB,rE,↓reduceIte]
  refine bO ?_;simp only[↓aA,aB,rE,↓reduceIte];refine aK (bI (aNv S2 S1.nx 5 1 1000 x.weights) ?_ x.weights.length _ _ ⟨rfl,rfl,0,by omega,(by rintro⟨w,h,_⟩;simp at h),by refine⟨?_,?_⟩<;>simp only[↓aA,aB,rE,↓reduceIte,p3]⟩);clear p3 pb;rintro k ⟨F,inr⟩ X ⟨q0,hX,j,hjk,ha,p3,pt⟩;simp only at q0 p3 pt;subst q0;rw[hX];refine fZ ?_;simp only[↓aA,aB,rE,↓reduceIte,pt,p3,aF,aE,cQ g3,hw2.len,Ag];by_cases hj:j<x.weights.length
  ·refine aQ (by simp only[↓aA,aB,rE,↓reduceIte,Ab (show(j:Int)<((x.weights.length:Nat):Int) by omega)]) (aJ ?_);try simp only[↓aA,aB,rE,↓reduceIte]
   have hia:=hw2.iaddr hj;have hld:=hw2.ld hj;have htk:=tN (lo:=1) (hi:=1000) hj ha;have hget:=wQ (lo:=1) (hi:=1000) hj;generalize x.weights.getD j 0=w at *;have w1:IntKind.i64.wrap ((j:Int)+1)=((j+1:Nat):Int):=by
    rw[wrap_i64 (by omega) (by omega)];omega
   refine aC (aK (aC (aX (Q:=fun o A' X=>o= .normal∧A'.inr=false∧X=S2∧aH 3 A'.F= .ptr S1.nx 0∧aH 5 A'.F= .int .i64 (j:Int)∧aH 66 A'.F= .bool (decide (w<1∨1000<w))) (aD ?_) ?_)))
   ·by_cases h1:w<1
    ·rw[Ab (show w<1∨1000<w from .inl h1)];simp only[↓aA,aB,rE,↓reduceIte,pt,p3,aF,aE,cQ g3,aI,hia,hld,hneg,Ab h1]
    ·by_cases h2:1000<w
     ·rw[Ab (show w<1∨1000<w from .inr h2)];simp only[↓aA,aB,rE,↓reduceIte,pt,p3,aF,aE,cQ g3,aI,hia,hld,hneg,Aa h1,Ab h2]
     ·rw[Aa (show ¬ (w<1∨1000<w) by omega)];simp only[↓aA,aB,rE,↓reduceIte,pt,p3,aF,aE,cQ g3,aI,hia,hld,hneg,Aa h1,Aa h2]
   clear p3 pt;rintro o ⟨F,inr⟩ X ⟨rfl,q0,hX,p3,pt,pb⟩;simp only at q0 p3 pt pb;subst q0;rw[hX];try simp only[↓aA,aB,rE,↓reduceIte]
   by_cases ho:w<1∨1000<w
   ·rw[if_pos (hget ho)];refine aQ (by simp only[↓aA,aB,rE,↓reduceIte,pb,Ab ho]) ?_;refine bO ?_;simp only[↓aA,aB,rE,↓reduceIte];refine aS ?_;simp only[↓aA,aB,rE,↓reduceIte];exact sS
   ·refine aL (by simp only[↓aA,aB,rE,↓reduceIte,pb,Aa ho]) (aJ ?_);try simp only[↓aA,aB,rE,↓reduceIte]
    refine aD ?_;simp only[↓aA,aB,rE,↓reduceIte,pt,w1];exact⟨k - 1,by omega,rfl,rfl,j+1,by omega,htk ho,by refine⟨?_,?_⟩<;>simp only[↓aA,aB,rE,↓reduceIte,p3]⟩
  ·refine aL (by simp only[↓aA,aB,rE,↓reduceIte,Aa (show ¬ (j:Int)<((x.weights.length:Nat):Int) by omega)]) (bC ?_);simp only[↓aA,aB,rE,↓reduceIte];have hno:¬fT 1 1000 x.weights:=by rw[Bh (by omega)] at ha;exact ha
   rw[if_neg hno];exact fin _
 rw[if_neg k1];refine aL (by simp only[↓aA,aB,rE,↓reduceIte,Aa k1]) ?_;refine bO ?_;simp only[↓aA,aB,rE,↓reduceIte];by_cases k2:x.kind=2
 ·rw[if_pos k2];refine aQ (by simp only[↓aA,aB,rE,↓reduceIte,Ab k2]) ?_;refine aC (aC (aX (Q:=fun o A' X=>o= .normal∧A'.inr=false∧X=S2∧aH 2 A'.F= .ptr S.nx 0∧aH 3 A'.F= .ptr S1.nx 0∧aH 90 A'.F= .bool (decide (tG x))) (aD ?_) ?_))
  ·by_cases c0:(0:Int)<((x.pay.length:Nat):Int)
   ·rw[Ab (show tG x from .inl c0)];simp only[↓aA,aB,rE,↓reduceIte,aF,aE,cO g3,cL g3,cN g3,cQ g3,cP g3,iW g2,iT g2,hn2.len,hw2.len,hp2.len,hi,Ag,Ab c0]
   by_cases c1:(0:Int)<((x.weights.length:Nat):Int)
   ·rw[Ab (show tG x from .inr (.inl c1))];simp only[↓aA,aB,rE,↓reduceIte,aF,aE,cO g3,cL g3,cN g3,cQ g3,cP g3,iW g2,iT g2,hn2.len,hw2.len,hp2.len,hi,Ag,Aa c0,Ab c1]
   by_cases c2:((x.next.length:Nat):Int)<1
   ·rw[Ab (show tG x from .inr (.inr (.inl c2)))];simp only[↓aA,aB,rE,↓reduceIte,aF,aE,cO g3,cL g3,cN g3,cQ g3,cP g3,iW g2,iT g2,hn2.len,hw2.len,hp2.len,hi,Ag,Aa c0,Aa c1,Ab c2]
   by_cases c3:(10:Int)<((x.next.length:Nat):Int)
   ·rw[Ab (show tG x from .inr (.inr (.inr (c3))))];simp only[↓aA,aB,rE,↓reduceIte,aF,aE,cO g3,cL g3,cN g3,cQ g3,cP g3,iW g2,iT g2,hn2.len,hw2.len,hp2.len,hi,Ag,Aa c0,Aa c1,Aa c2,Ab c3]
   rw[Aa (show ¬tG x by rintro(h0 | h1 | h2 | h3)<;>first | exact c0 h0 | exact c1 h1 | exact c2 h2 | exact c3 h3)];simp only[↓aA,aB,rE,↓reduceIte,aF,aE,cO g3,cL g3,cN g3,cQ g3,cP g3,iW g2,iT g2,hn2.len,hw2.len,hp2.len,hi,Ag,Aa c0,Aa c1,Aa c2,Aa c3]
  rintro o ⟨F,inr⟩ X ⟨rfl,q0,hX,p2,p3,pb⟩;simp only at q0 p2 p3 pb;subst q0;rw[hX];try simp only[↓aA,aB,rE,↓reduceIte]
  by_cases bad:tG x
  ·rw[if_pos ((aEC x).1 bad)];refine aQ (by simp only[↓aA,aB,rE,↓reduceIte,pb,Ab bad]) ?_;refine bO ?_;simp only[↓aA,aB,rE,↓reduceIte];refine aS ?_;simp only[↓aA,aB,rE,↓reduceIte];exact sS
  rw[if_neg (fun h=>bad ((aEC x).2 h))];refine aL (by simp only[↓aA,aB,rE,↓reduceIte,pb,Aa bad]) (aJ ?_);try simp only[↓aA,aB,rE,↓reduceIte]
  refine aC (aX (Q:=fun o A' X=>o= .normal∧A'.inr=false∧X=S2∧aH 113 A'.F= .bool (decide (aCf ps ni x))) (aD ?_) ?_)
  ·by_cases c0:x.player<0
   ·rw[Ab (show aCf ps ni x from .inl c0)];simp only[↓aA,aB,rE,↓reduceIte,aF,aE,cO g3,cL g3,cN g3,cQ g3,cP g3,iW g2,iT g2,hn2.len,hw2.len,hp2.len,hi,Ag,p3,p2,Ab c0]
   by_cases c1:ps≤x.player
   ·rw[Ab (show aCf ps ni x from .inr (.inl c1))];simp only[↓aA,aB,rE,↓reduceIte,aF,aE,cO g3,cL g3,cN g3,cQ g3,cP g3,iW g2,iT g2,hn2.len,hw2.len,hp2.len,hi,Ag,p3,p2,Aa c0,Ab c1]
   by_cases c2:x.info<0
   ·rw[Ab (show aCf ps ni x from .inr (.inr (.inl c2)))];simp only[↓aA,aB,rE,↓reduceIte,aF,aE,cO g3,cL g3,cN g3,cQ g3,cP g3,iW g2,iT g2,hn2.len,hw2.len,hp2.len,hi,Ag,p3,p2,Aa c0,Aa c1,Ab c2]
   by_cases c3:((ni:Nat):Int)≤x.info
   ·rw[Ab (show aCf ps ni x from .inr (.inr (.inr (c3))))];simp only[↓aA,aB,rE,↓reduceIte,aF,aE,cO g3,cL g3,cN g3,cQ g3,cP g3,iW g2,iT g2,hn2.len,hw2.len,hp2.len,hi,Ag,p3,p2,Aa c0,Aa c1,Aa c2,Ab c3]
   rw[Aa (show ¬aCf ps ni x by rintro(h0 | h1 | h2 | h3)<;>first | exact c0 h0 | exact c1 h1 | exact c2 h2 | exact c3 h3)];simp only[↓aA,aB,rE,↓reduceIte,aF,aE,cO g3,cL g3,cN g3,cQ g3,cP g3,iW g2,iT g2,hn2.len,hw2.len,hp2.len,hi,Ag,p3,p2,Aa c0,Aa c1,Aa c2,Aa c3]
  rintro o ⟨F,inr⟩ X ⟨rfl,q0,hX,pb⟩;simp only at q0 pb;subst q0;rw[hX];try simp only[↓aA,aB,rE,↓reduceIte]
  by_cases bad:aCf ps ni x
  ·rw[if_pos ((aFr ps ni x).1 bad)];refine aQ (by simp only[↓aA,aB,rE,↓reduceIte,pb,Ab bad]) ?_;refine bO ?_;simp only[↓aA,aB,rE,↓reduceIte];refine aS ?_;simp only[↓aA,aB,rE,↓reduceIte];exact sS
  rw[if_neg (fun h=>bad ((aFr ps ni x).2 h))];refine aL (by simp only[↓aA,aB,rE,↓reduceIte,pb,Aa bad]) (aJ ?_);simp only[↓aA,aB,rE,↓reduceIte];exact fin _
 rw[if_neg k2];refine aL (by simp only[↓aA,aB,rE,↓reduceIte,Aa k2]) ?_;refine bO ?_;simp only[↓aA,aB,rE,↓reduceIte];by_cases k3:x.kind=3
 ·rw[if_pos k3];refine aQ (by simp only[↓aA,aB,rE,↓reduceIte,Ab k3]) ?_;refine aC (aC (aX (Q:=fun o A' X=>o= .normal∧A'.inr=false∧X=S2∧aH 3 A'.F= .ptr S1.nx 0∧aH 143 A'.F= .bool (decide (lW ps x))) (aD ?_) ?_))
  ·by_cases c0:x.player≠0
   ·rw[Ab (show lW ps x from .inl c0)];simp only[↓aA,aB,rE,↓reduceIte,aF,aE,cO g3,cL g3,cN g3,cQ g3,cP g3,iW g2,iT g2,hn2.len,hw2.len,hp2.len,hi,Ag,Ab c0]
   by_cases c1:x.info≠0
   ·rw[Ab (show lW ps x from .inr (.inl c1))];simp only[↓aA,aB,rE,↓reduceIte,aF,aE,cO g3,cL g3,cN g3,cQ g3,cP g3,iW g2,iT g2,hn2.len,hw2.len,hp2.len,hi,Ag,Aa c0,Ab c1]
   by_cases c2:(0:Int)<((x.next.length:Nat):Int)
   ·rw[Ab (show lW ps x from .inr (.inr (.inl c2)))];simp only[↓aA,aB,rE,↓reduceIte,aF,aE,cO g3,cL g3,cN g3,cQ g3,cP g3,iW g2,iT g2,hn2.len,hw2.len,hp2.len,hi,Ag,Aa c0,Aa c1,Ab c2]
   by_cases c3:(0:Int)<((x.weights.length:Nat):Int)
   ·rw[Ab (show lW ps x from .inr (.inr (.inr (.inl c3))))];simp only[↓aA,aB,rE,↓reduceIte,aF,aE,cO g3,cL g3,cN g3,cQ g3,cP g3,iW g2,iT g2,hn2.len,hw2.len,hp2.len,hi,Ag,Aa c0,Aa c1,Aa c2,Ab c3]
   by_cases c4:((x.pay.length:Nat):Int)≠ps
   ·rw[Ab (show lW ps x from .inr (.inr (.inr (.inr (c4)))))];simp only[↓aA,aB,rE,↓reduceIte,aF,aE,cO g3,cL g3,cN g3,cQ g3,cP g3,iW g2,iT g2,hn2.len,hw2.len,hp2.len,hi,Ag,Aa c0,Aa c1,Aa c2,Aa c3,Ab c4]
   rw[Aa (show ¬lW ps x by rintro(h0 | h1 | h2 | h3 | h4)<;>first | exact c0 h0 | exact c1 h1 | exact c2 h2 | exact c3 h3 | exact c4 h4)];simp only[↓aA,aB,rE,↓reduceIte,aF,aE,cO g3,cL g3,cN g3,cQ g3,cP g3,iW g2,iT g2,hn2.len,hw2.len,hp2.len,hi,Ag,Aa c0,Aa c1,Aa c2,Aa c3,Aa c4]
  rintro o ⟨F,inr⟩ X ⟨rfl,q0,hX,p3,pb⟩;simp only at q0 p3 pb;subst q0;rw[hX];try simp only[↓aA,aB,rE,↓reduceIte]
  by_cases bad:lW ps x
  ·rw[if_pos bad];refine aQ (by simp only[↓aA,aB,rE,↓reduceIte,pb,Ab bad]) ?_;refine bO ?_;simp only[↓aA,aB,rE,↓reduceIte];refine aS ?_;simp only[↓aA,aB,rE,↓reduceIte];exact sS
  rw[if_neg bad];have hlen:x.pay.length≤60:=by unfold lW at bad;omega
  refine aL (by simp only[↓aA,aB,rE,↓reduceIte,pb,Aa bad]) (aJ ?_);try simp only[↓aA,aB,rE,↓reduceIte]
  refine bO ?_;simp only[↓aA,aB,rE,↓reduceIte];refine aK (bI (aNv S2 S1.nx 6 (-1000000) 1000000 x.pay) ?_ x.pay.length _ _ ⟨rfl,rfl,0,by omega,(by rintro⟨w,h,_⟩;simp at h),by refine⟨?_,?_⟩<;>simp only[↓aA,aB,rE,↓reduceIte,p3]⟩);clear p3 pb;rintro k ⟨F,inr⟩ X ⟨q0,hX,j,hjk,ha,p3,pt⟩;simp only at q0 p3 pt;subst q0;rw[hX];refine fZ ?_;simp only[↓aA,aB,rE,↓reduceIte,pt,p3,aF,aE,cP g3,hp2.len,Ag];by_cases hj:j<x.pay.length
  ·refine aQ (by simp only[↓aA,aB,rE,↓reduceIte,Ab (show(j:Int)<((x.pay.length:Nat):Int) by omega)]) (aJ ?_);try simp only[↓aA,aB,rE,↓reduceIte]
   have hia:=hp2.iaddr hj;have hld:=hp2.ld hj;have htk:=tN (lo:=(-1000000)) (hi:=1000000) hj ha;have hget:=wQ (lo:=(-1000000)) (hi:=1000000) hj;generalize x.pay.getD j 0=w at *;have w1:IntKind.i64.wrap ((j:Int)+1)=((j+1:Nat):Int):=by
    rw[wrap_i64 (by omega) (by omega)];omega
   refine aC (aK (aC (aX (Q:=fun o A' X=>o= .normal∧A'.inr=false∧X=S2∧aH 3 A'.F= .ptr S1.nx 0∧aH 6 A'.F= .int .i64 (j:Int)∧aH 164 A'.F= .bool (decide (w<(-1000000)∨1000000<w))) (aD ?_) ?_)))
   ·by_cases h1:w<(-1000000)
    ·rw[Ab (show w<(-1000000)∨1000000<w from .inl h1)];simp only[↓aA,aB,rE,↓reduceIte,pt,p3,aF,aE,cP g3,aI,hia,hld,hneg,Ab h1]
    ·by_cases h2:1000000<w
     ·rw[Ab (show w<(-1000000)∨1000000<w from .inr h2)];simp only[↓aA,aB,rE,↓reduceIte,pt,p3,aF,aE,cP g3,aI,hia,hld,hneg,Aa h1,Ab h2]
     ·rw[Aa (show ¬ (w<(-1000000)∨1000000<w) by omega)];simp only[↓aA,aB,rE,↓reduceIte,pt,p3,aF,aE,cP g3,aI,hia,hld,hneg,Aa h1,Aa h2]
   clear p3 pt;rintro o ⟨F,inr⟩ X ⟨rfl,q0,hX,p3,pt,pb⟩;simp only at q0 p3 pt pb;subst q0;rw[hX];try simp only[↓aA,aB,rE,↓reduceIte]
   by_cases ho:w<(-1000000)∨1000000<w
   ·rw[if_pos (hget ho)];refine aQ (by simp only[↓aA,aB,rE,↓reduceIte,pb,Ab ho]) ?_;refine bO ?_;simp only[↓aA,aB,rE,↓reduceIte];refine aS ?_;simp only[↓aA,aB,rE,↓reduceIte];exact sS
   ·refine aL (by simp only[↓aA,aB,rE,↓reduceIte,pb,Aa ho]) (aJ ?_);try simp only[↓aA,aB,rE,↓reduceIte]
    refine aD ?_;simp only[↓aA,aB,rE,↓reduceIte,pt,w1];exact⟨k - 1,by omega,rfl,rfl,j+1,by omega,htk ho,by refine⟨?_,?_⟩<;>simp only[↓aA,aB,rE,↓reduceIte,p3]⟩
  ·refine aL (by simp only[↓aA,aB,rE,↓reduceIte,Aa (show ¬ (j:Int)<((x.pay.length:Nat):Int) by omega)]) (bC ?_);simp only[↓aA,aB,rE,↓reduceIte];have hno:¬fT (-1000000) 1000000 x.pay:=by rw[Bh (by omega)] at ha;exact ha
   rw[if_neg hno];exact fin _
 rw[if_neg k3];refine aL (by simp only[↓aA,aB,rE,↓reduceIte,Aa k3]) ?_;refine bO ?_;simp only[↓aA,aB,rE,↓reduceIte];refine aS ?_;simp only[↓aA,aB,rE,↓reduceIte];exact sS
theorem bJ.self{k:IntKind}{S:St}{v:AV}{l:List Int}(h:bJ k S v l):bW v v=true:=by
 rcases h with⟨_,h | h⟩ | ⟨b,off,cap,o,cs,rfl,_⟩
 ·subst h;rfl
 ·subst h;rfl
 ·exact uY ..
theorem aN.self{k:Nat}{α:Type}{E:St→List AV→α→Prop}{S:St}{v:AV}{l:List α}(h:aN k E S v l):bW v v=true:=by
 rcases h with⟨_,h | h⟩ | ⟨b,off,cap,o,cs,rfl,_⟩
 ·subst h;rfl
 ·subst h;rfl
 ·exact uY ..
theorem aJ2{k:IntKind}{S:St}{b:Nat}{z:Int}(hb:b<S.nx)(h:S.h.get b=some (.cells [.int k z] false 0)):bJ k S (.sl b 0 1 1 false) [z]:=by
 refine .inr ⟨b,0,1,false,[.int k z],rfl,Ah _,hb,by unfold cK;rw[h];rfl,fun i x hi=>?_⟩;cases i with
 | zero=>simp at hi;subst hi;rfl
 | succ i=>simp at hi
theorem aCt{lo hi z:Int}:fT lo hi [z]↔z<lo∨hi<z:=by
 unfold fT;simp
theorem aAj{x0 x1 x2 x3 x4 x5:AV}(h0:bW x0 x0=true)(h1:bW x1 x1=true)(h2:bW x2 x2=true)(h3:bW x3 x3=true)(h4:bW x4 x4=true)(h5:bW x5 x5=true):bW (.agg [x0,x1,x2,x3,x4,x5]) (.agg [x0,x1,x2,x3,x4,x5])=true:=by
 simp only[bW,kE,h0,h1,h2,h3,h4,h5,aM]
theorem aH9{S:St}{b3 b4:Nat}{lo hi w:Int}(H:Has fns)(g3:S.h.get b3=some (.cells [.int .i64 lo] false 0))(g4:S.h.get b4=some (.cells [.int .i64 hi] false 0)):fH fns (.fn 101 [] [.ptr b3 0,.ptr b4 0]) [.int .i64 w] S fun r S'=>r= .bool (decide (w<lo∨hi<w))∧S'=S:=by
 have l3:cJ (.ptr b3 0) false 1 S.h=some (.int .i64 lo):=ldc (j:=0) g3 rfl;have l4:cJ (.ptr b4 0) false 1 S.h=some (.int .i64 hi):=ldc (j:=0) g4 rfl;refine bP H.f101 (by simp) ?_;simp only[↓aA,aB,rE,↓reduceIte];refine bO ?_;simp only[↓aA,aB,rE,↓reduceIte];refine bO ?_;by_cases h1:w<lo
 ·rw[Ab (show w<lo∨hi<w from .inl h1)];simp only[↓aA,aB,rE,↓reduceIte,l3,Ab h1];refine aS ?_;simp only[↓aA,aB,rE,↓reduceIte]
 ·by_cases h2:hi<w
  ·rw[Ab (show w<lo∨hi<w from .inr h2)];simp only[↓aA,aB,rE,↓reduceIte,l3,l4,Aa h1,Ab h2];refine aS ?_;simp only[↓aA,aB,rE,↓reduceIte]
  ·rw[Aa (show ¬ (w<lo∨hi<w) by omega)];simp only[↓aA,aB,rE,↓reduceIte,l3,l4,Aa h1,Aa h2];refine aS ?_;simp only[↓aA,aB,rE,↓reduceIte]
def aNR(S:St)(v f:AV)(lo hi:Int)(l:List Int)(k:Nat)(A:bK)(X:St):Prop:=A.inr=false∧X=S∧∃i,i+k=l.length∧¬fT lo hi (l.take i)∧aH 0 A.F=v∧aH 1 A.F=f∧aH 7 A.F= .int .i64 ((l.length:Nat):Int)∧aH 8 A.F= .int .i64 (i:Int)
theorem aGk{S:St}{b3 b4:Nat}{lo hi:Int}{v:AV}{l:List Int}(H:Has fns)(g3:S.h.get b3=some (.cells [.int .i64 lo] false 0))(g4:S.h.get b4=some (.cells [.int .i64 hi] false 0))(hl:bJ .i64 S v l)(hlen:l.length≤1000000):fH fns (.fn 107 [] []) [v,.fn 101 [] [.ptr b3 0,.ptr b4 0]] S fun r S'=>(∃z,r= .int .i64 z∧(0≤z↔fT lo hi l))∧S'=S:=by
 refine bP H.f107 (by simp) ?_;simp only[↓aA,aB,rE,↓reduceIte];refine bO ?_;simp only[↓aA,aB,rE,↓reduceIte];refine fZ ?_;simp only[↓aA,aB,rE,↓reduceIte,hl.len,Ag];refine aK (bI (aNR S v (.fn 101 [] [.ptr b3 0,.ptr b4 0]) lo hi l) ?_ l.length _ _ ⟨rfl,rfl,0,by omega,(by rintro⟨w,h,_⟩;simp at h),by refine⟨?_,?_,?_,?_⟩<;>simp only[↓aA,aB,rE,↓reduceIte]⟩);rintro k ⟨F,inr⟩ X ⟨q0,hX,j,hjk,ha,p0,p1,p7,p8⟩;simp only at q0 p0 p1 p7 p8;subst q0;rw[hX];refine bO ?_;simp only[↓aA,aB,rE,↓reduceIte,p7,p8];by_cases hj:j<l.length
 ·refine aC (aQ (by simp only[↓aA,aB,rE,↓reduceIte,Ab (show(j:Int)<((l.length:Nat):Int) by omega)]) (aJ ?_));simp only[↓aA,aB,rE,↓reduceIte];have hia:=hl.iaddr hj;have hld:=hl.ld hj;have htk:=tN (lo:=lo) (hi:=hi) hj ha;have hget:=wQ (lo:=lo) (hi:=hi) hj;generalize l.getD j 0=w at *;have w1:IntKind.i64.wrap ((j:Int)+1)=((j+1:Nat):Int):=by rw[wrap_i64 (by omega) (by omega)];omega
  refine aC (aK (aC (aD ?_)));simp only[↓aA,aB,rE,↓reduceIte,p8];refine bO ?_;simp only[↓aA,aB,rE,↓reduceIte,p0,p1,aI,hia,hld];refine aV ?_;simp only[↓aA,aB,rE,↓reduceIte];refine aP (aH9 H g3 g4) ?_;rintro _ Y ⟨rfl,hY⟩;rw[hY];try simp only[↓aA,aB,rE,↓reduceIte]
  by_cases ho:w<lo∨hi<w
  ·refine aQ (by simp only[↓aA,aB,rE,↓reduceIte,Ab ho]) ?_;refine bO ?_;simp only[↓aA,aB,rE,↓reduceIte];refine aS ?_;simp only[↓aA,aB,rE,↓reduceIte];exact⟨_,rfl,⟨fun _=>hget ho,fun _=>by omega⟩⟩
  ·refine aL (by simp only[↓aA,aB,rE,↓reduceIte,Aa ho]) (aJ ?_);try simp only[↓aA,aB,rE,↓reduceIte]
   refine aD ?_;simp only[↓aA,aB,rE,↓reduceIte,p8,w1];exact⟨k - 1,by omega,rfl,rfl,j+1,by omega,htk ho,by refine⟨?_,?_,?_,?_⟩<;>simp only[↓aA,aB,rE,↓reduceIte,p0,p1,p7]⟩
 ·refine aC (aL (by simp only[↓aA,aB,rE,↓reduceIte,Aa (show ¬ (j:Int)<((l.length:Nat):Int) by omega)]) (bC ?_));simp only[↓aA,aB,rE,↓reduceIte];have hno:¬fT lo hi l:=by rw[Bh (by omega)] at ha;exact ha
  refine bO ?_;simp only[↓aA,aB,rE,↓reduceIte];refine aS ?_;simp only[↓aA,aB,rE,↓reduceIte];exact⟨_,rfl,⟨fun h=>absurd h (by decide),fun h=>absurd h hno⟩⟩
theorem aGm{S:St}{b3 b4:Nat}{lo hi:Int}{v:AV}{l:List Int}(H:Has fns)(g3:S.h.get b3=some (.cells [.int .i64 lo] false 0))(g4:S.h.get b4=some (.cells [.int .i64 hi] false 0))(hl:bJ .i64 S v l)(hlen:l.length≤1000000):fH fns (.fn 100 [] []) [v,.fn 101 [] [.ptr b3 0,.ptr b4 0]] S fun r S'=>r= .bool (decide (fT lo hi l))∧S'=S:=by
 refine bP H.f100 (by simp) ?_;simp only[↓aA,aB,rE,↓reduceIte];refine bO ?_;simp only[↓aA,aB,rE,↓reduceIte];refine bO ?_;simp only[↓aA,aB,rE,↓reduceIte];refine aV ?_;simp only[↓aA,aB,rE,↓reduceIte];refine aP (aGk H g3 g4 hl hlen) ?_;rintro _ Y ⟨⟨z,rfl,hz⟩,hY⟩;rw[hY];have hd:decide ((0:Int)≤z)=decide (fT lo hi l):=by rw[Bu,Dd,Dd];exact hz
 simp only[↓aA,aB,rE,↓reduceIte,hd];refine aS ?_;simp only[↓aA,aB,rE,↓reduceIte]
theorem pA{S:St}{lo hi:Int}{v:AV}{l:List Int}(H:Has fns)(hl:bJ .i64 S v l)(hlen:l.length≤1000000):fH fns (.fn 91 [] []) [.int .i64 lo,.int .i64 hi,v] S fun r S'=>r= .int .i64 (if fT lo hi l then 2 else 0)∧Same S S':=by
 refine bP H.f91 (by simp) ?_;simp only[↓aA,aB,rE,↓reduceIte];refine bO ?_;refine cW (by simp only[↓aA,aB,rE,↓reduceIte];exact cS _ _) ?_;intro S1 s1 n1 c1;refine cW (by simp only[↓aA,aB,rE,↓reduceIte];exact cS _ _) ?_;intro S2 s2 n2 c2;simp only[↓aA,aB,rE,↓reduceIte];have sS:=s1.trans s2;refine fZ ?_;simp only[↓aA,aB,rE,↓reduceIte,tE];refine aV ?_;simp only[↓aA,aB,rE,↓reduceIte];refine aP (aGm H (by rw[s2.2 _ (by omega)];exact c1) c2 (hl.same sS) hlen) ?_;rintro _ Y ⟨rfl,hY⟩;rw[hY];try simp only[↓aA,aB,rE,↓reduceIte]
 by_cases ho:fT lo hi l
 ·rw[if_pos ho];refine aQ (by simp only[↓aA,aB,rE,↓reduceIte,Ab ho]) ?_;refine bO ?_;simp only[↓aA,aB,rE,↓reduceIte];refine aS ?_;simp only[↓aA,aB,rE,↓reduceIte];exact sS
 ·rw[if_neg ho];refine aL (by simp only[↓aA,aB,rE,↓reduceIte,Aa ho]) (aJ ?_);try simp only[↓aA,aB,rE,↓reduceIte]
  refine bO ?_;simp only[↓aA,aB,rE,↓reduceIte];refine aS ?_;simp only[↓aA,aB,rE,↓reduceIte];exact sS
def yX(S:St)(wb:Nat)(ps:Int)(n i p d l:AV):Prop:=S.h.get wb=some (.cells [.int .i64 ps,n,i,p,d,l] false 0)∧wb<S.nx
theorem yX.same{S S':St}{wb:Nat}{ps:Int}{n i p d l:AV}(h:yX S wb ps n i p d l)(hs:Same S S'):yX S' wb ps n i p d l:=⟨(hs.2 _ h.2).trans h.1,Ae h.2 hs.1⟩
section
variable {S:St}{wb:Nat}{ps:Int}{n i p d l:AV}{ni:Nat}{cs:List AV}{x:dD}
theorem aEw(H:Has fns)(hx:bT S cs x):fH fns (.fn 75 [] []) [.ptr wb 0,.agg cs] S fun r S'=>r= .int .i64 (if kS x then 3 else if fT 1 1000 x.weights then 2 else 0)∧Same S S':=by
 obtain⟨a,b,c,rfl,hn,hw,hp⟩:=hx;refine bP H.f75 (by simp) ?_;simp only[↓aA,aB,rE,↓reduceIte];refine bO ?_;refine cW (by simp only[↓aA,aB,rE,↓reduceIte];exact bL _) ?_;intro S2 s2 n2 g3;simp only[↓aA,aB,rE,↓reduceIte];have hn2:=hn.same s2;have hw2:=hw.same s2;have hp2:=hp.same s2;refine aC (aC (aX (Q:=fun o A' X=>o= .normal∧A'.inr=false∧X=S2∧aH 3 A'.F= .ptr S.nx 0∧aH 39 A'.F= .bool (decide (kS x))) (aD ?_) ?_))
 ·by_cases c0:x.player≠0
  ·rw[Ab (show kS x from .inl c0)];simp only[↓aA,aB,rE,↓reduceIte,aF,aE,cO g3,cL g3,cN g3,cQ g3,cP g3,hn2.len,hw2.len,hp2.len,Ag,Ab c0]
  by_cases c1:x.info≠0
  ·rw[Ab (show kS x from .inr (.inl c1))];simp only[↓aA,aB,rE,↓reduceIte,aF,aE,cO g3,cL g3,cN g3,cQ g3,cP g3,hn2.len,hw2.len,hp2.len,Ag,Aa c0,Ab c1]
  by_cases c2:(0:Int)<((x.pay.length:Nat):Int)
  ·rw[Ab (show kS x from .inr (.inr (.inl c2)))];simp only[↓aA,aB,rE,↓reduceIte,aF,aE,cO g3,cL g3,cN g3,cQ g3,cP g3,hn2.len,hw2.len,hp2.len,Ag,Aa c0,Aa c1,Ab c2]
  by_cases c3:((x.next.length:Nat):Int)<1
  ·rw[Ab (show kS x from .inr (.inr (.inr (.inl c3))))];simp only[↓aA,aB,rE,↓reduceIte,aF,aE,cO g3,cL g3,cN g3,cQ g3,cP g3,hn2.len,hw2.len,hp2.len,Ag,Aa c0,Aa c1,Aa c2,Ab c3]
  by_cases c4:(60:Int)<((x.next.length:Nat):Int)
  ·rw[Ab (show kS x from .inr (.inr (.inr (.inr (.inl c4)))))];simp only[↓aA,aB,rE,↓reduceIte,aF,aE,cO g3,cL g3,cN g3,cQ g3,cP g3,hn2.len,hw2.len,hp2.len,Ag,Aa c0,Aa c1,Aa c2,Aa c3,Ab c4]
  by_cases c5:((x.weights.length:Nat):Int)≠((x.next.length:Nat):Int)
  ·rw[Ab (show kS x from .inr (.inr (.inr (.inr (.inr (c5))))))];simp only[↓aA,aB,rE,↓reduceIte,aF,aE,cO g3,cL g3,cN g3,cQ g3,cP g3,hn2.len,hw2.len,hp2.len,Ag,Aa c0,Aa c1,Aa c2,Aa c3,Aa c4,Ab c5]
  rw[Aa (show ¬kS x by rintro(h0 | h1 | h2 | h3 | h4 | h5)<;>first | exact c0 h0 | exact c1 h1 | exact c2 h2 | exact c3 h3 | exact c4 h4 | exact c5 h5)];simp only[↓aA,aB,rE,↓reduceIte,aF,aE,cO g3,cL g3,cN g3,cQ g3,cP g3,hn2.len,hw2.len,hp2.len,Ag,Aa c0,Aa c1,Aa c2,Aa c3,Aa c4,Aa c5]
 rintro o ⟨F,inr⟩ X ⟨rfl,q0,hX,p3,pb⟩;simp only at q0 p3 pb;subst q0;rw[hX];have sX:=s2;try simp only[↓aA,aB,rE,↓reduceIte]
 by_cases bad:kS x
 ·rw[if_pos bad];refine aQ (by simp only[↓aA,aB,rE,↓reduceIte,pb,Ab bad]) ?_;refine bO ?_;simp only[↓aA,aB,rE,↓reduceIte];refine aS ?_;simp only[↓aA,aB,rE,↓reduceIte];exact sX
 rw[if_neg bad];refine aL (by simp only[↓aA,aB,rE,↓reduceIte,pb,Aa bad]) (aJ ?_);try simp only[↓aA,aB,rE,↓reduceIte]
 have hlen:x.weights.length≤60:=by unfold kS at bad;omega
 refine bO ?_;simp only[↓aA,aB,rE,↓reduceIte,p3,aF,aE,cQ g3];refine aV ?_;simp only[↓aA,aB,rE,↓reduceIte];refine aP (pA H hw2 (by omega)) ?_;rintro _ Y ⟨rfl,hY⟩;try simp only[↓aA,aB,rE,↓reduceIte]
 refine aS ?_;simp only[↓aA,aB,rE,↓reduceIte];exact s2.trans hY
theorem aH3(H:Has fns)(hx:bT S cs x)(hW:yX S wb ps n i p d l)(hps:1≤ps∧ps≤4)(hi:lE i=some (.int .i64 ((ni:Nat):Int)))(hni:ni≤1000)(hsi:bW i i=true):fH fns (.fn 76 [] []) [.ptr wb 0,.agg cs] S fun r S'=>r= .int .i64 (if tY x then 3 else if x.player<0∨ps - 1<x.player∨x.info<0∨(ni:Int) - 1<x.info then 2 else 0)∧Same S S':=by
 obtain⟨a,b,c,rfl,hn,hw,hp⟩:=hx;refine bP H.f76 (by simp) ?_;simp only[↓aA,aB,rE,↓reduceIte];refine bO ?_;refine cW (by simp only[↓aA,aB,rE,↓reduceIte];exact bL _) ?_;intro S2 s2 n2 g3;simp only[↓aA,aB,rE,↓reduceIte];have hn2:=hn.same s2;have hw2:=hw.same s2;have hp2:=hp.same s2;have hW2:=hW.same s2;refine aC (aC (aX (Q:=fun o A' X=>o= .normal∧A'.inr=false∧X=S2∧aH 0 A'.F= .ptr wb 0∧aH 3 A'.F= .ptr S.nx 0∧aH 27 A'.F= .bool (decide (tY x))) (aD ?_) ?_))
 ·by_cases c0:(0:Int)<((x.weights.length:Nat):Int)
  ·rw[Ab (show tY x from .inl c0)];simp only[↓aA,aB,rE,↓reduceIte,aF,aE,cO g3,cL g3,cN g3,cQ g3,cP g3,hn2.len,hw2.len,hp2.len,Ag,Ab c0]
  by_cases c1:(0:Int)<((x.pay.length:Nat):Int)
  ·rw[Ab (show tY x from .inr (.inl c1))];simp only[↓aA,aB,rE,↓reduceIte,aF,aE,cO g3,cL g3,cN g3,cQ g3,cP g3,hn2.len,hw2.len,hp2.len,Ag,Aa c0,Ab c1]
  by_cases c2:((x.next.length:Nat):Int)<1
  ·rw[Ab (show tY x from .inr (.inr (.inl c2)))];simp only[↓aA,aB,rE,↓reduceIte,aF,aE,cO g3,cL g3,cN g3,cQ g3,cP g3,hn2.len,hw2.len,hp2.len,Ag,Aa c0,Aa c1,Ab c2]
  by_cases c3:(10:Int)<((x.next.length:Nat):Int)
  ·rw[Ab (show tY x from .inr (.inr (.inr (c3))))];simp only[↓aA,aB,rE,↓reduceIte,aF,aE,cO g3,cL g3,cN g3,cQ g3,cP g3,hn2.len,hw2.len,hp2.len,Ag,Aa c0,Aa c1,Aa c2,Ab c3]
  rw[Aa (show ¬tY x by rintro(h0 | h1 | h2 | h3)<;>first | exact c0 h0 | exact c1 h1 | exact c2 h2 | exact c3 h3)];simp only[↓aA,aB,rE,↓reduceIte,aF,aE,cO g3,cL g3,cN g3,cQ g3,cP g3,hn2.len,hw2.len,hp2.len,Ag,Aa c0,Aa c1,Aa c2,Aa c3]
 rintro o ⟨F,inr⟩ X ⟨rfl,q0,hX,p0,p3,pb⟩;simp only at q0 p0 p3 pb;subst q0;rw[hX];have sX:=s2;try simp only[↓aA,aB,rE,↓reduceIte]
 by_cases bad:tY x
 ·rw[if_pos bad];refine aQ (by simp only[↓aA,aB,rE,↓reduceIte,pb,Ab bad]) ?_;refine bO ?_;simp only[↓aA,aB,rE,↓reduceIte];refine aS ?_;simp only[↓aA,aB,rE,↓reduceIte];exact sX
 rw[if_neg bad];refine aL (by simp only[↓aA,aB,rE,↓reduceIte,pb,Aa bad]) (aJ ?_);try simp only[↓aA,aB,rE,↓reduceIte]
 have w1:IntKind.i64.wrap (ps - 1)=ps - 1:=wrap_i64 (by omega) (by omega);have w2:IntKind.i64.wrap ((ni:Int) - 1)=(ni:Int) - 1:=wrap_i64 (by omega) (by omega);have lt3:S.nx<S2.nx:=by omega
 refine aC (aC (iN (fun _=>False) ?_));intro S3 s3 h3 n3;simp only[Al,Az,rA] at n3;simp only[↓sU,sD,rE,↓reduceIte,rA,p0,p3,cG,cH,cE,aF,aU,aE,eY hW2.1,cO g3,w1,hW2.2,lt3,Au];rw[mS (k:=.i64) (n:=x.player) (by simp only[↓sU,sD,rE,↓reduceIte,rA])];simp only[↓sU,sD,rE,↓reduceIte,rA];refine aBH (by decide) rfl ?_;intro S4 s4 n4 c4;simp only[↓sU,sD,rE,↓reduceIte,rA];have s34:Same S2 S4:=s4.same s3 (by omega);refine aP (pA H (aJ2 (by omega) c4) (by simp)) ?_;rintro _ Y ⟨rfl,hY⟩;refine⟨hY,?_⟩;simp only[↓sU,sD,rE,↓reduceIte,rA,aCt];have sY:=s2.trans (s34.trans hY);refine bO ?_;simp only[↓sU,sD,rE,↓reduceIte,rA];by_cases h1:x.player<0∨ps - 1<x.player
 ·rw[if_pos (show x.player<0∨ps - 1<x.player∨x.info<0∨(ni:Int) - 1<x.info by omega)];refine aQ (by simp only[↓sU,sD,rE,↓reduceIte,rA,if_pos h1];rfl) ?_;refine bO ?_;simp only[↓sU,sD,rE,↓reduceIte,rA,if_pos h1];refine aS ?_;simp only[↓sU,sD,rE,↓reduceIte,rA];exact sY
 refine aL (by simp only[↓sU,sD,rE,↓reduceIte,rA,if_neg h1];rfl) (aJ ?_);try simp only[↓sU,sD,rE,↓reduceIte,rA]
 have hWY:=hW.same sY;have g3Y:Y.h.get S.nx=some (.cells [.int .i64 x.kind,.int .i64 x.player,.int .i64 x.info,a,b,c] false 0):=by rw[(s34.trans hY).2 _ lt3];exact g3
 have lt3Y:S.nx<Y.nx:=Ae lt3 (s34.trans hY).1;refine aC (iN (fun _=>False) ?_);intro S5 s5 h5 n5;simp only[Al,Az,rA] at n5;simp only[↓sU,sD,rE,↓reduceIte,rA,p0,p3,cG,cH,cE,aF,aU,aE,cL hWY.1,hi,hsi,cL g3Y,w2,hWY.2,lt3Y,Au];rw[mS (k:=.i64) (n:=x.info) (by simp only[↓sU,sD,rE,↓reduceIte,rA])];simp only[↓sU,sD,rE,↓reduceIte,rA];refine aBH (by decide) rfl ?_;intro S6 s6 n6 c6;simp only[↓sU,sD,rE,↓reduceIte,rA];have s56:Same Y S6:=s6.same s5 (by omega);refine aP (pA H (aJ2 (by omega) c6) (by simp)) ?_;rintro _ Z ⟨rfl,hZ⟩;refine⟨hZ,?_⟩;simp only[↓sU,sD,rE,↓reduceIte,rA,aCt];refine aS ?_;simp only[↓sU,sD,rE,↓reduceIte,rA];refine⟨?_,sY.trans (s56.trans hZ)⟩;by_cases h2:x.info<0∨(ni:Int) - 1<x.info
 ·rw[if_pos h2,if_pos (by omega)]
 ·rw[if_neg h2,if_neg (by omega)]
theorem aIX(H:Has fns)(hx:bT S cs x)(hW:yX S wb ps n i p d l)(hps:1≤ps∧ps≤4):fH fns (.fn 77 [] []) [.ptr wb 0,.agg cs] S fun r S'=>r= .int .i64 (if lW ps x then 3 else if fT (-1000000) 1000000 x.pay then 2 else 0)∧Same S S':=by
 obtain⟨a,b,c,rfl,hn,hw,hp⟩:=hx;refine bP H.f77 (by simp) ?_;simp only[↓aA,aB,rE,↓reduceIte];refine bO ?_;refine cW (by simp only[↓aA,aB,rE,↓reduceIte];exact bL _) ?_;intro S2 s2 n2 g3;simp only[↓aA,aB,rE,↓reduceIte];have hn2:=hn.same s2;have hw2:=hw.same s2;have hp2:=hp.same s2;have hW2:=hW.same s2;have sn:=bJ.self hn2;have sw:=bJ.self hw2;have sp:=bJ.self hp2;refine aC (aC (aX (Q:=fun o A' X=>o= .normal∧A'.inr=false∧Same S2 X∧aH 3 A'.F= .ptr S.nx 0∧aH 35 A'.F= .bool (decide (lW ps x))) (sH ?_) ?_))
 ·have sX:=Same.nx S2 31;by_cases c0:x.player≠0
  ·rw[Ab (show lW ps x from .inl c0)];simp only[↓aA,aB,rE,↓reduceIte,aF,aE,cO g3,cL g3,cN g3,cQ g3,cP g3,hn2.len,hw2.len,hp2.len,Ag,cG,cH,cE,aU,eQ,eY hW2.1,sn,sw,sp,Ab c0];exact Same.nx S2 _
  by_cases c1:x.info≠0
  ·rw[Ab (show lW ps x from .inr (.inl c1))];simp only[↓aA,aB,rE,↓reduceIte,aF,aE,cO g3,cL g3,cN g3,cQ g3,cP g3,hn2.len,hw2.len,hp2.len,Ag,cG,cH,cE,aU,eQ,eY hW2.1,sn,sw,sp,Aa c0,Ab c1];exact Same.nx S2 _
  by_cases c2:(0:Int)<((x.next.length:Nat):Int)
  ·rw[Ab (show lW ps x from .inr (.inr (.inl c2)))];simp only[↓aA,aB,rE,↓reduceIte,aF,aE,cO g3,cL g3,cN g3,cQ g3,cP g3,hn2.len,hw2.len,hp2.len,Ag,cG,cH,cE,aU,eQ,eY hW2.1,sn,sw,sp,Aa c0,Aa c1,Ab c2];exact Same.nx S2 _
  by_cases c3:(0:Int)<((x.weights.length:Nat):Int)
  ·rw[Ab (show lW ps x from .inr (.inr (.inr (.inl c3))))];simp only[↓aA,aB,rE,↓reduceIte,aF,aE,cO g3,cL g3,cN g3,cQ g3,cP g3,hn2.len,hw2.len,hp2.len,Ag,cG,cH,cE,aU,eQ,eY hW2.1,sn,sw,sp,Aa c0,Aa c1,Aa c2,Ab c3];exact Same.nx S2 _
  by_cases c4:((x.pay.length:Nat):Int)≠ps
  ·rw[Ab (show lW ps x from .inr (.inr (.inr (.inr (c4)))))];simp only[↓aA,aB,rE,↓reduceIte,aF,aE,cO g3,cL g3,cN g3,cQ g3,cP g3,hn2.len,hw2.len,hp2.len,Ag,cG,cH,cE,aU,eQ,eY hW2.1,sn,sw,sp,Aa c0,Aa c1,Aa c2,Aa c3,Ab c4];exact Same.nx S2 _
  rw[Aa (show ¬lW ps x by rintro(h0 | h1 | h2 | h3 | h4)<;>first | exact c0 h0 | exact c1 h1 | exact c2 h2 | exact c3 h3 | exact c4 h4)];simp only[↓aA,aB,rE,↓reduceIte,aF,aE,cO g3,cL g3,cN g3,cQ g3,cP g3,hn2.len,hw2.len,hp2.len,Ag,cG,cH,cE,aU,eQ,eY hW2.1,sn,sw,sp,Aa c0,Aa c1,Aa c2,Aa c3,Aa c4];exact Same.nx S2 _
 rintro o ⟨F,inr⟩ X ⟨rfl,q0,hX,p3,pb⟩;simp only at q0 p3 pb;subst q0;have sX:=s2.trans hX;have g3X:X.h.get S.nx=some (.cells [.int .i64 x.kind,.int .i64 x.player,.int .i64 x.info,a,b,c] false 0):=by rw[hX.2 _ (by omega)];exact g3
 try simp only[↓aA,aB,rE,↓reduceIte]
 by_cases bad:lW ps x
 ·rw[if_pos bad];refine aQ (by simp only[↓aA,aB,rE,↓reduceIte,pb,Ab bad]) ?_;refine bO ?_;simp only[↓aA,aB,rE,↓reduceIte];refine aS ?_;simp only[↓aA,aB,rE,↓reduceIte];exact sX
 rw[if_neg bad];refine aL (by simp only[↓aA,aB,rE,↓reduceIte,pb,Aa bad]) (aJ ?_);try simp only[↓aA,aB,rE,↓reduceIte]
 have hlen:x.pay.length≤60:=by unfold lW at bad;omega
 have hneg:Int.negSucc 999999= -1000000:=rfl;refine bO ?_;simp only[↓aA,aB,rE,↓reduceIte,p3,aF,aE,cP g3X];refine aV ?_;simp only[↓aA,aB,rE,↓reduceIte,hneg];refine aP (pA H (hp2.same hX) (by omega)) ?_;rintro _ Y ⟨rfl,hY⟩;try simp only[↓aA,aB,rE,↓reduceIte]
 refine aS ?_;simp only[↓aA,aB,rE,↓reduceIte];exact sX.trans hY
end
section
variable {S:St}{wb:Nat}{ps:Int}{n i p d l:AV}{ni:Nat}{cs:List AV}{x:dD}
theorem aIw(H:Has fns)(hx:bT S cs x)(hW:yX S wb ps n i p d l)(hps:1≤ps∧ps≤4)(hi:lE i=some (.int .i64 ((ni:Nat):Int)))(hni:ni≤1000)(hsi:bW i i=true):fH fns (.fn 60 [] []) [.ptr wb 0,.agg cs] S fun r S'=>r= .int .i64 (fX ps ni x)∧Same S S':=by
 obtain⟨a,b,c,rfl,hn,hw,hp⟩:=id hx;refine bP H.f60 (by simp) ?_;simp only[↓aA,aB,rE,↓reduceIte];refine bO ?_;refine cW (by simp only[↓aA,aB,rE,↓reduceIte];exact bL _) ?_;intro S1 s1 n1 g3;simp only[↓aA,aB,rE,↓reduceIte];have hbd:∀ (F:Fr) (h:T AB),gB (.build [.nilfn,.nilfn,.nilfn,.nilfn] [(1,1,.c (.fn 75 [] [])),(2,1,.c (.fn 76 [] [])),(3,1,.c (.fn 77 [] []))]) F h=some (.agg [.nilfn,.fn 75 [] [],.fn 76 [] [],.fn 77 [] []]):=fun _ _=>rfl;refine bO ?_;simp only[↓aA,aB,rE,↓reduceIte,hbd];refine dB ?_;intro S2 s2 n2 c2;refine gH (b:=S1.nx) (by simp only[↓aA,aB,rE,↓reduceIte]) (by simp only[↓aA,aB,rE,↓reduceIte];exact bL _) c2 rfl rfl ?_;intro S3 s3 n3 c3;simp only[↓aA,aB,rE,↓reduceIte];have s13:Same S1 S3:=s3.same s2 (Ah _);have sS:=s1.trans s13;have g3:S3.h.get S.nx=some (.cells [.int .i64 x.kind,.int .i64 x.player,.int .i64 x.info,a,b,c] false 0):=by rw[s13.2 _ (by omega)];exact g3
 have lt3:S.nx<S3.nx:=by omega
 have lt5:S1.nx<S3.nx:=by omega
 have hx3:bT S3 [.int .i64 x.kind,.int .i64 x.player,.int .i64 x.info,a,b,c] x:=bE hx sS;have hW3:=hW.same sS;have sl:=aAj (eE .i64 x.kind) (eE .i64 x.player) (eE .i64 x.info) (bJ.self hn) (bJ.self hw) (bJ.self hp);unfold fX;refine aC (aC (aX (Q:=fun o A' X=>o= .normal∧A'.inr=false∧X=S3∧aH 0 A'.F= .ptr wb 0∧aH 3 A'.F= .ptr S.nx 0∧aH 5 A'.F= .ptr S1.nx 0∧aH 14 A'.F= .bool (decide (x.kind<1∨3<x.kind))) (aD ?_) ?_))
 ·by_cases h1:x.kind<1
  ·rw[Ab (show x.kind<1∨3<x.kind from .inl h1)];simp only[↓aA,aB,rE,↓reduceIte,aF,aE,eY g3,Ab h1]
  ·by_cases h2:3<x.kind
   ·rw[Ab (show x.kind<1∨3<x.kind from .inr h2)];simp only[↓aA,aB,rE,↓reduceIte,aF,aE,eY g3,Aa h1,Ab h2]
   ·rw[Aa (show ¬ (x.kind<1∨3<x.kind) by omega)];simp only[↓aA,aB,rE,↓reduceIte,aF,aE,eY g3,Aa h1,Aa h2]
 rintro o ⟨F,inr⟩ X ⟨rfl,q0,hX,p0,p3,p5,pb⟩;simp only at q0 p0 p3 p5 pb;subst q0;rw[hX];try simp only[↓aA,aB,rE,↓reduceIte]
 by_cases bad:x.kind<1∨3<x.kind
 ·rw[if_neg (by omega),if_neg (by omega),if_neg (by omega)];refine aQ (by simp only[↓aA,aB,rE,↓reduceIte,pb,Ab bad]) ?_;refine bO ?_;simp only[↓aA,aB,rE,↓reduceIte];refine aS ?_;simp only[↓aA,aB,rE,↓reduceIte];exact sS
 refine aL (by simp only[↓aA,aB,rE,↓reduceIte,pb,Aa bad]) (aJ ?_);try simp only[↓aA,aB,rE,↓reduceIte]
 have hld:∀j y,[AV.nilfn,.fn 75 [] [],.fn 76 [] [],.fn 77 [] []][j]? =some y→cJ (.ptr S1.nx j) false 1 S3.h=some y:=fun j y hy=>by have:=ldc (j:=j) c3 hy;rw[Aw] at this;exact this
 have n1':eG (.int .i64 1)=some 1:=rfl;have n2':eG (.int .i64 2)=some 2:=rfl;have n3':eG (.int .i64 3)=some 3:=rfl;have i1:fC (.arr 4 1) (.ptr S1.nx 0) 1=some (.ptr S1.nx 1):=rfl;have i2:fC (.arr 4 1) (.ptr S1.nx 0) 2=some (.ptr S1.nx 2):=rfl;have i3:fC (.arr 4 1) (.ptr S1.nx 0) 3=some (.ptr S1.nx 3):=rfl;have l1:=hld 1 _ rfl;have l2:=hld 2 _ rfl;have l3:=hld 3 _ rfl;have f1:bW (.fn 75 [] []) (.fn 75 [] [])=true:=rfl;have f2:bW (.fn 76 [] []) (.fn 76 [] [])=true:=rfl;have f3:bW (.fn 77 [] []) (.fn 77 [] [])=true:=rfl;have g3':=ldN g3;refine aC (dC (fun _=>False) ?_);intro S4 s4;by_cases k1:x.kind=1
 ·rw[if_pos k1];rw[k1] at g3 g3' sl hx3;simp only[↓sU,sD,rE,↓reduceIte,rA,p0,p3,p5,aF,aU,aE,eY g3,n1',i1,l1,f1,g3',sl,lt3,lt5,Au];refine cF rfl ?_;simp only[↓sU,sD,rE,↓reduceIte,rA];refine aP (aEw H (by have:=bE hx (sS.trans s4);rw[k1] at this;exact this)) ?_;rintro _ Y ⟨rfl,hY⟩;refine⟨hY,?_⟩;try simp only[↓sU,sD,rE,↓reduceIte,rA]
  refine aS ?_;simp only[↓sU,sD,rE,↓reduceIte,rA];exact sS.trans (s4.trans hY)
 by_cases k2:x.kind=2
 ·rw[if_neg k1,if_pos k2];rw[k2] at g3 g3' sl;simp only[↓sU,sD,rE,↓reduceIte,rA,p0,p3,p5,aF,aU,aE,eY g3,n2',i2,l2,f2,g3',sl,lt3,lt5,Au];refine cF rfl ?_;simp only[↓sU,sD,rE,↓reduceIte,rA];refine aP (aH3 H (by have:=bE hx (sS.trans s4);rw[k2] at this;exact this) (hW3.same s4) hps hi hni hsi) ?_;rintro _ Y ⟨rfl,hY⟩;refine⟨hY,?_⟩;try simp only[↓sU,sD,rE,↓reduceIte,rA]
  refine aS ?_;simp only[↓sU,sD,rE,↓reduceIte,rA];exact sS.trans (s4.trans hY)
 have k3:x.kind=3:=by omega
 rw[if_neg k1,if_neg k2,if_pos k3];rw[k3] at g3 g3' sl;simp only[↓sU,sD,rE,↓reduceIte,rA,p0,p3,p5,aF,aU,aE,eY g3,n3',i3,l3,f3,g3',sl,lt3,lt5,Au];refine cF rfl ?_;simp only[↓sU,sD,rE,↓reduceIte,rA];refine aP (aIX H (by have:=bE hx (sS.trans s4);rw[k3] at this;exact this) (hW3.same s4) hps) ?_;rintro _ Y ⟨rfl,hY⟩;refine⟨hY,?_⟩;try simp only[↓sU,sD,rE,↓reduceIte,rA]
 refine aS ?_;simp only[↓sU,sD,rE,↓reduceIte,rA];exact sS.trans (s4.trans hY)
end
abbrev eR:=Int×Int×Int
def jK(rec:Nat→Option (List eR)):List Int→Nat→Option (List eR)
 | [],_=>some []
 | c::l,r=>if c=(r:Int) then(rec r).bind fun L1=>(jK rec l (r+L1.length)).map (L1++ ·) else none
def gK(N:Nat)(nx:Nat→List Int):Nat→Nat→Int→Int→Option (List eR)
 | 0,_,_,_=>none
 | f+1,at_,p,d=>if at_<N then(jK (fun r=>gK N nx f r at_ (d+1)) (nx at_) (at_+1)).map fun L=>(p,d,((at_+L.length:Nat):Int))::L else none
def vM(m:Int)(L:List eR):Int:=L.foldl (fun m t=>mx m t.2.1) m
theorem aEQ(m:Int)(L L':List eR):vM m (L++L')=vM (vM m L) L':=List.foldl_append ..
theorem aH0(m:Int)(t:eR)(L:List eR):vM m (t::L)=vM (mx m t.2.1) L:=rfl
def fS(g:aZ)(i:Nat):List Int:=((g.nodes[i]?).map (·.next)).getD []
theorem aBX{g:aZ}{i:Nat}{x:dD}(h:g.nodes[i]? =some x):fS g i=x.next:=by unfold fS;rw[h];rfl
theorem aC9{rec:Nat→Option (List eR)}{N:Nat}(hr:∀r L,rec r=some L→r+L.length≤N∧0<L.length):∀ {l:List Int} {r:Nat} {L:List eR},r≤N→jK rec l r=some L→r+L.length≤N
 | [],r,L,h,hk=>by simp only[jK,Aj] at hk;subst hk;simpa using h
 | c::l,r,L,h,hk=>by
  simp only[jK] at hk;split at hk
  ·obtain⟨L1,h1,h2⟩:=Dt.1 hk;obtain⟨L2,h3,rfl⟩:=Ap.1 h2;have:=aC9 hr (hr r L1 h1).1 h3;rw[Am];omega
  ·cases hk
theorem uU{N:Nat}{nx:Nat→List Int}:∀ {f at_:Nat} {p d:Int} {L:List eR},gK N nx f at_ p d=some L→at_+L.length≤N∧0<L.length
 | 0,at_,p,d,L,h=>by cases h
 | f+1,at_,p,d,L,h=>by
  simp only[gK] at h;split at h
  ·rename_i hlt;obtain⟨L',h1,rfl⟩:=Ap.1 h;have:=aC9 (N:=N) (fun r L hr=>uU hr) (show at_+1≤N by omega) h1;rw[Al];omega
  ·cases h
theorem aN.tail{k:Nat}{α:Type}{E:St→List AV→α→Prop}{S:St}{v:AV}{a:α}{l:List α}(h:aN k E S v (a::l)):∃v',(∀ (F:Fr) (x:cC),eG (x.val F)=some 1→pT (.slice k) v (some x) none none F=some v')∧aN k E S v' l:=by
 rcases h with⟨h0,_⟩ | ⟨b,off,cap,o,cs,rfl,hc,hb,hcs,hel⟩
 ·cases h0
 ·rw[Al] at hc;have e1:Nat.ble cap cap=true:=Ak (Ah _);have e2:Nat.ble (l.length+1) cap=true:=Ak hc;have e3:Nat.ble 1 (l.length+1)=true:=Ak (by omega);by_cases h1:cap=1
  ·have hl:l= []:=Cb.1 (by omega);subst hl;subst h1;have e4:Nat.beq 1 1=true:=rfl;refine⟨bG o .emp (.sl b off 0 0 false),fun F x hx=>?_,?_⟩
   ·simp only[pT,aI2,kI,gE,aO,hx,Al,Az];cases o<;>rfl
   ·cases o with
    | true=>exact .inl ⟨rfl,.inr rfl⟩
    | false=>exact .inr ⟨b,off,0,false,cs,rfl,Ah _,hb,hcs,fun i a hi=>by simp at hi⟩
  ·have e4:Nat.beq cap 1=false:=by rw[Cf];intro h;rw[Aq] at h;omega
   refine⟨.sl b (off+1 * k) (l.length+1 - 1) (cap - 1) o,fun F x hx=>?_,.inr ⟨b,off+1 * k,cap - 1,o,cs,by simp,by omega,hb,hcs,fun i a' hi=>?_⟩⟩
   ·simp only[pT,aI2,kI,gE,aO,hx,Al,e1,e2,e3,aM,e4,aT,Option.isNone_none];cases o<;>rfl
   ·obtain⟨e,h1,h2,h3⟩:=hel (i+1) a' (by simpa using hi);refine⟨e,h1,fun j x hj=>?_,h3⟩;have:=h2 j x hj;rw[show off+1 * k+i * k+j=off+(i+1) * k+j by rw[Em];omega];exact this
theorem aBm(a b:Int):mE true [.int .i64 a,.int .i64 b]=some (.int .i64 (mx a b)):=by rw[aLo,aLW,aMw]
def aGr(S:St)(db:Nat)(at_:Nat)(deep:Int)(o:Option (List eR))(r:AV)(S':St):Prop:=
 bB db S S'∧match o with
 | some L=>r= .int .i64 ((at_+L.length:Nat):Int)∧S'.h.get db=some (.cells [.int .i64 (vM deep L)] false 0)
 | none=>r= .int .i64 (-1)∧∃z,S'.h.get db=some (.cells [.int .i64 z] false 0)
def aLJ(S1:St)(gb db at_:Nat)(d deep1:Int)(rec:Nat→Option (List eR))(ks:List Int)(k:Nat)(A:bK)(X:St):Prop:=
 A.inr=false∧bB db S1 X∧∃ (j:Nat) (L:List eR),j+k=ks.length∧at_+1+L.length≤2000∧jK rec ks (at_+1)=(jK rec (ks.drop j) (at_+1+L.length)).map (L++ ·)∧aH 1 A.F= .int .i64 (at_:Int)∧aH 2 A.F= .int .i64 d∧aH 3 A.F= .ptr db 0∧aH 4 A.F= .ptr gb 0∧aH 9 A.F= .int .i64 ((at_+1+L.length:Nat):Int)∧aH 10 A.F= .int .i64 (j:Int)∧X.h.get db=some (.cells [.int .i64 (vM deep1 L)] false 0)
theorem aGO{S0:St}{gv:AV}{g:aZ}{db:Nat}(H:Has fns)(hG:nR S0 gv g)(hdb:S0.nx≤db)(hN:g.nodes.length≤2000):∀ (f:Nat) {S:St} {at_:Nat} {p d deep:Int},g.nodes.length+1 - at_≤f→0≤d→d≤at_→at_≤3000→(∀x∈g.nodes,x.next.length≤1000)→Same S0 S→db<S.nx→S.h.get db=some (.cells [.int .i64 deep] false 0)→
  fH fns (.fn 45 [] []) [gv,.int .i64 (at_:Int),.int .i64 d,.ptr db 0] S fun r S'=>aGr S db at_ deep (gK g.nodes.length (fS g) f at_ p d) r S':=by
 intro f
 induction f with
 | zero=>
  intro S at_ p d deep hf hd0 hd hat hlen hS hlt hdeep;obtain⟨nv,iv,rfl,hn,hi⟩:=id hG;have hnS:=aN.same (E:=bT) bE hn hS;refine bP H.f45 (by simp) ?_;simp only[↓aA,aB,rE,↓reduceIte];refine bO ?_;refine cW (by simp only[↓aA,aB,rE,↓reduceIte];exact bL _) ?_;intro S1 s1 n1 c1;simp only[↓aA,aB,rE,↓reduceIte];refine fZ ?_;simp only[↓aA,aB,rE,↓reduceIte,aF,aE,aHn c1,hnS.len];refine aQ (by simp only[↓aA,aB,rE,↓reduceIte,Ab (show((g.nodes.length:Nat):Int)≤(at_:Int) by omega)]) ?_;refine bO ?_;simp only[↓aA,aB,rE,↓reduceIte];refine aS ?_;simp only[↓aA,aB,rE,↓reduceIte];exact⟨⟨s1.1,fun c hc _=>s1.2 c hc⟩,rfl,deep,by rw[s1.2 _ hlt];exact hdeep⟩
 | succ f ih=>
  intro S at_ p d deep hf hd0 hd hat hlen hS hlt hdeep;obtain⟨nv,iv,rfl,hn,hi⟩:=id hG;have hnS:=aN.same (E:=bT) bE hn hS;refine bP H.f45 (by simp) ?_;simp only[↓aA,aB,rE,↓reduceIte];refine bO ?_;refine cW (by simp only[↓aA,aB,rE,↓reduceIte];exact bL _) ?_;intro S1 s1 n1 c1;simp only[↓aA,aB,rE,↓reduceIte];have hdeep1:S1.h.get db=some (.cells [.int .i64 deep] false 0):=by rw[s1.2 _ hlt];exact hdeep
  have b1:bB db S S1:=⟨s1.1,fun c hc _=>s1.2 c hc⟩;refine fZ ?_;simp only[↓aA,aB,rE,↓reduceIte,aF,aE,aHn c1,hnS.len];by_cases hlt':at_<g.nodes.length;rotate_left
  ·refine aQ (by simp only[↓aA,aB,rE,↓reduceIte,Ab (show((g.nodes.length:Nat):Int)≤(at_:Int) by omega)]) ?_;refine bO ?_;simp only[↓aA,aB,rE,↓reduceIte];refine aS ?_;simp only[↓aA,aB,rE,↓reduceIte];refine⟨b1,?_⟩;simp only[gK,if_neg hlt'];exact⟨rfl,deep,hdeep1⟩
  refine aL (by simp only[↓aA,aB,rE,↓reduceIte,Aa (show ¬ ((g.nodes.length:Nat):Int)≤(at_:Int) by omega)]) (aJ ?_);try simp only[↓aA,aB,rE,↓reduceIte]
  obtain⟨x,hx⟩:∃x,g.nodes[at_]? =some x:=⟨_,Ad hlt'⟩;have hnx:=aBX hx;have hxl:=hlen x (Bc hx);have w1:IntKind.i64.wrap ((at_:Int)+1)=((at_+1:Nat):Int):=by rw[wrap_i64 (by omega) (by omega)];omega
  have w2:IntKind.i64.wrap (d+1)=d+1:=wrap_i64 (by omega) (by omega);have ldd:cJ (.ptr db 0) false 1 S1.h=some (.int .i64 deep):=ldc (j:=0) hdeep1 rfl;refine bO ?_;simp only[↓aA,aB,rE,↓reduceIte,cG,cE,ldd,aD1,gJ,lR,aBm];refine gH (b:=db) (by simp only[↓aA,aB,rE,↓reduceIte]) (by simp only[↓aA,aB,rE,↓reduceIte];exact cS _ _) hdeep1 rfl rfl ?_;intro S2 s2 n2 c2;simp only[↓aA,aB,rE,↓reduceIte];have b2:=b1.trans s2;have gb2:S2.h.get S.nx=some (.cells [.int .i64 g.players,nv,iv] false 0):=by rw[s2.2 _ (by omega) (by omega)];exact c1
  refine bO ?_;simp only[↓aA,aB,rE,↓reduceIte,w1];refine fZ ?_;simp only[↓aA,aB,rE,↓reduceIte];have hW:gK g.nodes.length (fS g) (f+1) at_ p d=(jK (fun r=>gK g.nodes.length (fS g) f r at_ (d+1)) x.next (at_+1)).map fun L=>(p,d,((at_+L.length:Nat):Int))::L:=by
   simp only[gK,if_pos hlt',hnx]
  rw[hW];refine aX (Q:=fun o A' X=>(o= .normal∧aLJ S2 S.nx db at_ d (mx deep d) (fun r=>gK g.nodes.length (fS g) f r at_ (d+1)) x.next 0 A' X)∨(o= .ret∧bB db S2 X∧jK (fun r=>gK g.nodes.length (fS g) f r at_ (d+1)) x.next (at_+1)=none∧aH 8 A'.F= .int .i64 (-1)∧∃z,X.h.get db=some (.cells [.int .i64 z] false 0))) (aK (bI (aLJ S2 S.nx db at_ d (mx deep d) (fun r=>gK g.nodes.length (fS g) f r at_ (d+1)) x.next) ?_ x.next.length _ _ ⟨rfl,bB.refl _ _,0,[],by omega,by rw[Az];omega,by simp,by simp only[↓aA,aB,rE,↓reduceIte],by simp only[↓aA,aB,rE,↓reduceIte],by simp only[↓aA,aB,rE,↓reduceIte],by simp only[↓aA,aB,rE,↓reduceIte],by simp only[↓aA,aB,rE,↓reduceIte];rfl,by simp only[↓aA,aB,rE,↓reduceIte],c2⟩)) ?_
  ·rintro k ⟨F,inr⟩ X ⟨q0,hX,j,L,hjk,hL20,hkid,p1,p2,p3,p4,p9,p10,hdX⟩;simp only at q0 p1 p2 p3 p4 p9 p10;subst q0;have hbX:=b2.trans hX;have hSX:Same S0 X:=bB.same hS hbX hdb;have gbX:X.h.get S.nx=some (.cells [.int .i64 g.players,nv,iv] false 0):=by rw[hX.2 _ (by omega) (by omega)];exact gb2
   obtain⟨e,b,q,hia,hb,he,⟨a,bb,cc,rfl,ha,_,_⟩,_,hlf⟩:=aN.at (aN.same (E:=bT) bE hn hSX) (by decide) hx;have hl3:=hlf 3 a rfl;refine fZ ?_;simp only[↓aA,aB,rE,↓reduceIte,p1,p4,p10,aF,aE,aHn gbX,aI,hia,hl3,ha.len,Ag];by_cases hj:j<x.next.length
   ·refine aQ (by simp only[↓aA,aB,rE,↓reduceIte,Ab (show(j:Int)<((x.next.length:Nat):Int) by omega)]) (aJ ?_);try simp only[↓aA,aB,rE,↓reduceIte]
    have hias:=ha.iaddr hj;have hlds:=ha.ld hj;have hdrop:x.next.drop j=x.next[j]::x.next.drop (j+1):=Cy hj;have hgd:x.next.getD j 0=x.next[j]:=by rw[Ai,Ad hj];rfl
    rw[hgd] at hlds;rw[hdrop] at hkid;generalize x.next[j]=c at *;refine aC (aK (aC (aC (aD ?_))));simp only[↓aA,aB,rE,↓reduceIte,p1,p4,p9,p10,aF,aE,aHn gbX,aI,hia,hl3,hias,hlds];by_cases hc:c=((at_+1+L.length:Nat):Int);rotate_left
    ·refine aQ (by simp only[↓aA,aB,rE,↓reduceIte,Ab (show c≠((at_+1+L.length:Nat):Int) from hc)]) ?_;refine bO ?_;simp only[↓aA,aB,rE,↓reduceIte];refine aS ?_;simp only[↓aA,aB,rE,↓reduceIte];refine .inr ⟨hX,?_,rfl,_,hdX⟩;rw[hkid];simp only[jK,if_neg hc];rfl
    refine aL (by simp only[↓aA,aB,rE,↓reduceIte,Aa (show ¬c≠((at_+1+L.length:Nat):Int) from fun h=>h hc)]) (aJ ?_);try simp only[↓aA,aB,rE,↓reduceIte]
    simp only[jK,if_pos hc] at hkid;have hr:at_+1+L.length≤3000:=by omega
    refine bO ?_;simp only[↓aA,aB,rE,↓reduceIte,p2,p3,p4,p9,ld3 gbX,w2];refine aV ?_;simp only[↓aA,aB,rE,↓reduceIte];refine aP (ih (S:=X) (at_:=at_+1+L.length) (p:=at_) (d:=d+1) (by omega) (by omega) (by omega) hr hlen hSX (Ae hlt hbX.1) hdX) ?_;rintro r Y ⟨hY,hres⟩;cases hw:gK g.nodes.length (fS g) f (at_+1+L.length) at_ (d+1) with
    | none=>
     rw[hw] at hres hkid;obtain⟨rfl,hz⟩:=hres;try simp only[↓aA,aB,rE,↓reduceIte]
     refine bO ?_;simp only[↓aA,aB,rE,↓reduceIte];refine aQ (by simp only[↓aA,aB,rE,↓reduceIte];rfl) ?_;refine bO ?_;simp only[↓aA,aB,rE,↓reduceIte];refine aS ?_;simp only[↓aA,aB,rE,↓reduceIte];refine .inr ⟨hX.trans hY,?_,rfl,hz⟩;rw[hkid];rfl
    | some L1=>
     rw[hw] at hres hkid;obtain⟨rfl,hdY⟩:=hres;have hwl:=(uU hw).1;simp only[Option.bind_some,Option.map_map] at hkid;try simp only[↓aA,aB,rE,↓reduceIte]
     refine bO ?_;simp only[↓aA,aB,rE,↓reduceIte];refine aL (by simp only[↓aA,aB,rE,↓reduceIte,Aa (show ¬ ((at_+1+L.length+L1.length:Nat):Int)<0 by omega)]) (aJ ?_);try simp only[↓aA,aB,rE,↓reduceIte]
     refine aD ?_;have w3:IntKind.i64.wrap ((j:Int)+1)=((j+1:Nat):Int):=by rw[wrap_i64 (by omega) (by omega)];omega
     simp only[↓aA,aB,rE,↓reduceIte,p10,w3];refine⟨k - 1,by omega,rfl,hX.trans hY,j+1,L++L1,by omega,by rw[Am];omega,?_,by simp only[↓aA,aB,rE,↓reduceIte,p1],by simp only[↓aA,aB,rE,↓reduceIte,p2],by simp only[↓aA,aB,rE,↓reduceIte,p3],by simp only[↓aA,aB,rE,↓reduceIte,p4],by simp only[↓aA,aB,rE,↓reduceIte,Am];congr 1;omega,by simp only[↓aA,aB,rE,↓reduceIte],?_⟩
     ·rw[hkid,Am,←Ch];congr 1;funext M;simp
     ·rw[aEQ];exact hdY
   ·refine aL (by simp only[↓aA,aB,rE,↓reduceIte,Aa (show ¬ (j:Int)<((x.next.length:Nat):Int) by omega)]) (bC ?_);simp only[↓aA,aB,rE,↓reduceIte];have hk0:k=0:=by omega
    subst hk0;exact .inl ⟨rfl,hX,j,L,hjk,hL20,hkid,by simp only[↓aA,aB,rE,↓reduceIte,p1],by simp only[↓aA,aB,rE,↓reduceIte,p2],by simp only[↓aA,aB,rE,↓reduceIte,p3],by simp only[↓aA,aB,rE,↓reduceIte,p4],by simp only[↓aA,aB,rE,↓reduceIte,p9],by simp only[↓aA,aB,rE,↓reduceIte,p10],hdX⟩
  rintro o ⟨F,inr⟩ X (⟨rfl,q0,hX,j,L,hjk,hL20,hkid,p1,p2,p3,p4,p9,p10,hdX⟩ | ⟨rfl,hX,hno,p8,hz⟩)
  ·simp only at q0 p9;subst q0;rw[Cr (by omega)] at hkid;simp only[jK,Ej,Cm] at hkid;rw[hkid];try simp only[↓aA,aB,rE,↓reduceIte]
   refine bO ?_;simp only[↓aA,aB,rE,↓reduceIte,p9];refine aS ?_;simp only[↓aA,aB,rE,↓reduceIte];refine⟨b2.trans hX,?_,?_⟩
   ·congr 1;simp;omega
   ·exact hdX
  ·rw[hno];simp only at p8;simp only[↓aA,aB,rE,↓reduceIte,p8];exact⟨b2.trans hX,rfl,hz⟩
def bF(l:List Int):List AV:=l.map (AV.int .i64)
theorem aBr(l:List Int):(bF l).length=l.length:=by simp [bF]
theorem aCF{S S':St}(h:Same S S'){b p n:Nat}{agg:Bool}(hb:b<S.nx):cJ (.ptr b p) agg n S'.h=cJ (.ptr b p) agg n S.h:=by
 have e:=rV h hb;simp only[cJ,lL,tZ,iJ,e]
theorem aCY{S:St}{b p:Nat}{w:Int}{l:List Int}{o:Bool}{sz:Nat}(h:S.h.get b=some (.cells (bF l) o sz))(hp:p<l.length):lO (.ptr b p) 1 [.int .i64 w] S=some (.undef,⟨S.h.set b (some (.cells (bF (l.set p w)) o sz)),S.nx⟩):=by
 have hput:put (bF l) p [AV.int .i64 w]=some (bF (l.set p w)):=by
  rw[put_eq,if_pos (by rw[aBr];simp;omega)];congr 1;unfold bF;rw[List.map_set,List.set_eq_take_append_cons_drop,if_pos (by simp;omega)];simp
 simp only[lO,pN,h,aO,vZ,hput];rfl
theorem jM{S:St}{b N sz:Nat}{l:List Int}{o:Bool}(h:S.h.get b=some (.cells (bF l) o sz))(hb:b<S.nx)(hl:l.length=N):bJ .i64 S (.sl b 0 N N false) l:=by
 subst hl;refine .inr ⟨b,0,l.length,false,bF l,rfl,Ah _,hb,by unfold cK;rw[h];rfl,fun i x hi=>?_⟩;rw[Aw];unfold bF;rw[Bb,hi];rfl
theorem gP{b N i:Nat}{o:Bool}(hi:i<N):fC (.slice 1) (.sl b 0 N N o) i=some (.ptr b i):=ia8 hi
theorem aAc{W:Nat→Prop}{h0:T AB}{base m i:Nat}{l:List AO}{F:Fr}{S:St}{last:Option Nat}{Q:Fr→St→List iE→Prop}{x v:cC}{b p sz:Nat}{w:Int}{P:List Int}{o:Bool}(h:kF last m=true)(hx:x.val F= .ptr b p)(hv:v.val F= .int .i64 w)(hb:S.h.get b=some (.cells (bF P) o sz))(hp:p<P.length)(hW:W b)
  (hr:∀S1,bB b S S1→S1.nx=S.nx→S1.h.get b=some (.cells (bF (P.set p w)) o sz)→eS fns W h0 base l (i+1) F S1 [] (some i) Q):eS fns W h0 base (⟨none,.x (.st 1 x v),none,m⟩::l) i F S [] last Q:=by
 have hS:bB b S ⟨S.h.set b (some (.cells (bF (P.set p w)) o sz)),S.nx⟩:=(bB.refl b S).put _;refine rF (S1:=⟨S.h.set b (some (.cells (bF (P.set p w)) o sz)),S.nx⟩) h ?_ ⟨Ah _,fun c hc hw=>?_⟩ (hr _ hS rfl ?_)
 ·rw[hv,cS,aO,hx];exact aCY (S:=S) hb hp
 ·simp only;rw[T.get_set,if_neg (show ¬c=b from fun e=>hw (by rw[e];exact hW))];rfl
 ·simp only;rw[T.get_set,if_pos rfl]
def tC(T:List eR)(a j:Nat):Option eR:=if a≤j then T[j - a]? else none
def fR(sel:eR→Int)(P P':List Int)(T:List eR)(a:Nat):Prop:=P'.length=P.length∧∀j,P'.getD j 0=((tC T a j).map sel).getD (P.getD j 0)
theorem fR.nil(sel:eR→Int)(P:List Int)(a:Nat):fR sel P P [] a:=⟨rfl,fun j=>by unfold tC;split<;>simp⟩
theorem aKj{T:List eR}{a j:Nat}{t:eR}(h:tC T a j=some t):a≤j∧j<a+T.length:=by
 unfold tC at h;split at h
 ·have:=(Af.1 h).1;omega
 ·cases h
theorem aHC{T:List eR}{a j:Nat}(h:j<a∨a+T.length≤j):tC T a j=none:=by
 unfold tC;split
 ·exact Ck (by omega)
 ·rfl
theorem aAI(T T':List eR)(a j:Nat):tC (T++T') a j=(tC T a j).or (tC T' (a+T.length) j):=by
 unfold tC;by_cases h:a≤j
 ·rw[if_pos h,if_pos h,List.getElem?_append];by_cases h1:j - a<T.length
  ·rw[if_pos h1,if_neg (by omega),Ad h1];rfl
  ·rw[if_neg h1,if_pos (by omega),Ck (l:=T) (i:=j - a) (by omega),show j - a - T.length=j - (a+T.length) by omega];rfl
 ·rw[if_neg h,if_neg h,if_neg (by omega)];rfl
theorem fR.append{sel:eR→Int}{P P1 P2:List Int}{T T':List eR}{a:Nat}(h1:fR sel P P1 T a)(h2:fR sel P1 P2 T' (a+T.length)):fR sel P P2 (T++T') a:=by
 refine⟨h2.1.trans h1.1,fun j=>?_⟩;rw[h2.2,h1.2,aAI];cases hc:tC T a j with
 | none=>rfl
 | some t=>
  have:=aKj hc;rw[aHC (by omega)];rfl
theorem eI{P:List Int}{i j:Nat}{v:Int}(hi:i<P.length):(P.set i v).getD j 0=if j=i then v else P.getD j 0:=by
 rw[Ai,List.getElem?_set];by_cases h:i=j
 ·subst h;rw[if_pos rfl,if_pos rfl,if_pos hi];rfl
 ·rw[if_neg h,if_neg (Cv h),Ai]
theorem aE4(t:eR)(a j:Nat):tC [t] a j=if j=a then some t else none:=by
 unfold tC;by_cases h:j=a
 ·subst h;simp
 ·rw[if_neg h];split
  ·exact Ck (by simp;omega)
  ·rfl
theorem fR.one{sel:eR→Int}{P:List Int}{t:eR}{a:Nat}{v:Int}(ha:a<P.length)(hv:sel t=v):fR sel P (P.set a v) [t] a:=by
 refine⟨Bx ..,fun j=>?_⟩;rw[eI ha,aE4];by_cases h:j=a
 ·rw[if_pos h,if_pos h,←hv];rfl
 ·rw[if_neg h,if_neg h];rfl
theorem fR.late{sel:eR→Int}{P P1:List Int}{t:eR}{L:List eR}{a:Nat}{v:Int}(h:fR sel P P1 L (a+1))(ha:a<P.length)(hv:sel t=v):fR sel P (P1.set a v) (t::L) a:=by
 refine⟨by rw[Bx];exact h.1,fun j=>?_⟩;rw[eI (by rw[h.1];exact ha),h.2];have e:tC (t::L) a j=(tC [t] a j).or (tC L (a+1) j):=aAI [t] L a j;rw[e,aE4];by_cases hj:j=a
 ·rw[if_pos hj,if_pos hj,←hv];rfl
 ·rw[if_neg hj,if_neg hj];rfl
structure WK(S:St)(wb pb db lb N:Nat)(ps:Int)(nv iv:AV)(P D L:List Int):Prop where
 w:yX S wb ps nv iv (.sl pb 0 N N false) (.sl db 0 N N false) (.sl lb 0 N N false)
 gp:S.h.get pb=some (.cells (bF P) false 0)
 gd:S.h.get db=some (.cells (bF D) false 0)
 gl:S.h.get lb=some (.cells (bF L) false 0)
 lp:P.length=N
 ld:D.length=N
 ll:L.length=N
 bp:pb<S.nx
 bd:db<S.nx
 bl:lb<S.nx
def wR(pb db lb:Nat)(S S':St):Prop:=S.nx≤S'.nx∧∀c,c<S.nx→c≠pb→c≠db→c≠lb→S'.h.get c=S.h.get c
theorem wR.refl(pb db lb:Nat)(S:St):wR pb db lb S S:=⟨Ah _,fun _ _ _ _ _=>rfl⟩
theorem wR.trans{pb db lb:Nat}{S S' S'':St}(h:wR pb db lb S S')(h':wR pb db lb S' S''):wR pb db lb S S'':=⟨Ax h.1 h'.1,fun c hc h1 h2 h3=>(h'.2 c (Ae hc h.1) h1 h2 h3).trans (h.2 c hc h1 h2 h3)⟩
theorem wR.same{pb db lb:Nat}{S0 S S':St}(h0:Same S0 S)(h:wR pb db lb S S')(h1:S0.nx≤pb)(h2:S0.nx≤db)(h3:S0.nx≤lb):Same S0 S':=⟨Ax h0.1 h.1,fun c hc=>(h.2 c (Ae hc h0.1) (by omega) (by omega) (by omega)).trans (h0.2 c hc)⟩
def aMJ(S0 S:St)(wb pb db lb:Nat)(ps:Int)(nv iv:AV)(g:aZ)(P D L:List Int)(at_:Nat)(o:Option (List eR))(r:AV)(S':St):Prop:=
 wR pb db lb S S'∧∃P' D' L',WK S' wb pb db lb g.nodes.length ps nv iv P' D' L'∧match o with
 | some T=>(∃v,r= .tup [v,.bool true]∧aN 6 bT S0 v (g.nodes.drop (at_+T.length)))∧fR (·.1) P P' T at_∧fR (·.2.1) D D' T at_∧fR (·.2.2) L L' T at_
 | none=>r= .tup [.nilsl,.bool false]
def aNt(S0 S2:St)(wb pb db lb:Nat)(ps:Int)(nv iv a:AV)(g:aZ)(P D L:List Int)(at_:Nat)(d:Int)(rec:Nat→Option (List eR))(ks:List Int)(k:Nat)(A:bK)(X:St):Prop:=
 A.inr=false∧wR pb db lb S2 X∧∃ (j:Nat) (T:List eR) (P' D' L':List Int) (v:AV),j+k=ks.length∧at_+1+T.length≤g.nodes.length∧jK rec ks (at_+1)=(jK rec (ks.drop j) (at_+1+T.length)).map (T++ ·)∧
  WK X wb pb db lb g.nodes.length ps nv iv P' D' L'∧fR (·.1) P P' T (at_+1)∧fR (·.2.1) D D' T (at_+1)∧fR (·.2.2) L L' T (at_+1)∧aN 6 bT S0 v (g.nodes.drop (at_+1+T.length))∧
  aH 0 A.F= .ptr wb 0∧aH 2 A.F= .int .i64 d∧aH 10 A.F= .int .i64 (at_:Int)∧aH 11 A.F=v∧aH 46 A.F=a∧aH 47 A.F= .int .i64 ((ks.length:Nat):Int)∧aH 48 A.F= .int .i64 (j:Int)
theorem aH6{S0:St}{nv iv:AV}{g:aZ}{wb pb db lb:Nat}{ps:Int}(H:Has fns)(hG:aN 6 bT S0 nv g.nodes)(hwb:S0.nx≤wb)(hpb:S0.nx≤pb)(hdb:S0.nx≤db)(hlb:S0.nx≤lb)(ne1:pb≠db)(ne2:pb≠lb)(ne3:db≠lb)(ne4:wb≠pb)(ne5:wb≠db)(ne6:wb≠lb)(hN:g.nodes.length≤2000)(hlen:∀x∈g.nodes,x.next.length≤1000):
  ∀ (f:Nat) {S:St} {at_:Nat} {p d:Int} {rv:AV} {P D L:List Int},g.nodes.length+1 - at_≤f→0≤d→d≤at_→at_≤g.nodes.length→Same S0 S→WK S wb pb db lb g.nodes.length ps nv iv P D L→aN 6 bT S0 rv (g.nodes.drop at_)→
  fH fns (.fn 61 [] []) [.ptr wb 0,.int .i64 p,.int .i64 d,rv] S fun r S'=>aMJ S0 S wb pb db lb ps nv iv g P D L at_ (gK g.nodes.length (fS g) f at_ p d) r S':=by
 intro f
 induction f with
 | zero=>intro S at_ p d rv P D L hf hd0 hd hat;omega
 | succ f ih=>
  intro S at_ p d rv P D L hf hd0 hd hat hS hK hrv;have hrl:=hrv.len;rw[Cx] at hrl;refine bP H.f61 (by simp) ?_;simp only[↓sU,sD,rE,↓reduceIte,rA];refine bO ?_;simp only[↓sU,sD,rE,↓reduceIte,rA];refine fZ ?_;simp only[↓sU,sD,rE,↓reduceIte,rA,hrl];by_cases hlt:at_<g.nodes.length;rotate_left
  ·refine aQ (by simp only[↓sU,sD,rE,↓reduceIte,rA,Ab (show((g.nodes.length - at_:Nat):Int)=0 by omega)]) ?_;refine bO ?_;simp only[↓sU,sD,rE,↓reduceIte,rA];refine aS ?_;simp only[↓sU,sD,rE,↓reduceIte,rA];simp only[gK,if_neg hlt];exact⟨wR.refl _ _ _ _,P,D,L,hK,rfl⟩
  refine aL (by simp only[↓sU,sD,rE,↓reduceIte,rA,Aa (show ¬ ((g.nodes.length - at_:Nat):Int)=0 by omega)]) (aJ ?_);try simp only[↓sU,sD,rE,↓reduceIte,rA]
  obtain⟨x,hx⟩:∃x,g.nodes[at_]? =some x:=⟨_,Ad hlt⟩;have hnx:=aBX hx;have hxl:=hlen x (Bc hx);have hnl:=hG.len;have hdrop:g.nodes.drop at_=x::g.nodes.drop (at_+1):=by
   rw[Cy hlt];congr 1;rw[Ad hlt] at hx;exact Bw hx
  rw[hdrop] at hrv;have w1:IntKind.i64.wrap (((g.nodes.length:Nat):Int) - ((g.nodes.length - at_:Nat):Int))=(at_:Int):=by rw[wrap_i64 (by omega) (by omega)];omega
  refine bO ?_;simp only[↓sU,sD,rE,↓reduceIte,rA,cG,cE,aF,aE,cO hK.w.1,hnl,hrl,w1];have wlt:=hK.w.2;have hwn:¬ (wb=pb∨wb=db):=by omega
  refine aC (dC (fun b=>b=pb∨b=db) ?_);intro S1 s1;have hia1:=gP (b:=pb) (o:=false) hlt;have hia2:=gP (b:=db) (o:=false) hlt;simp only[↓sU,sD,rE,↓reduceIte,rA,cG,cH,cE,aF,aU,aE,cN hK.w.1,cQ hK.w.1,wlt,hwn,Au,hia1,hia2];have l1:=s1.1;have bp:=hK.bp;have bd:=hK.bd;have bl:=hK.bl;refine aAc (p:=at_) (w:=p) rfl (by simp only[↓sU,sD,rE,↓reduceIte,rA]) (by simp only[↓sU,sD,rE,↓reduceIte,rA]) (by rw[s1.2 _ hK.bp];exact hK.gp) (by rw[hK.lp];exact hlt) (.inl rfl) ?_;intro S2 s2 n2 c2;simp only[↓sU,sD,rE,↓reduceIte,rA,hia2];refine aAc (p:=at_) (w:=d) (show Nat.testBit 32767 13=true by decide) (by simp only[↓sU,sD,rE,↓reduceIte,rA]) (by simp only[↓sU,sD,rE,↓reduceIte,rA]) (by rw[s2.2 _ (by omega) (Cv ne1),s1.2 _ hK.bd];exact hK.gd) (by rw[hK.ld];exact hlt) (.inr rfl) ?_;intro S3 s3 n3 c3;simp only[↓sU,sD,rE,↓reduceIte,rA];have b3:wR pb db lb S S3:=⟨by omega,fun c hc h1 h2 h3=>by rw[s3.2 _ (by omega) h2,s2.2 _ (by omega) h1,s1.2 _ hc]⟩;have hS3:Same S0 S3:=b3.same hS hpb hdb hlb;have hK3:WK S3 wb pb db lb g.nodes.length ps nv iv (P.set at_ p) (D.set at_ d) L:=⟨⟨by rw[b3.2 _ wlt ne4 ne5 ne6];exact hK.w.1,Ae wlt b3.1⟩,by rw[s3.2 _ (by omega) ne1];exact c2,c3,by rw[s3.2 _ (by omega) (Cv ne3),s2.2 _ (by omega) (Cv ne2),s1.2 _ hK.bl];exact hK.gl,by rw[Bx];exact hK.lp,by rw[Bx];exact hK.ld,hK.ll,by omega,by omega,by omega⟩;obtain⟨rv',hslc,hrv'⟩:=aN.tail hrv;have hsl1:∀F:Fr,pT (.slice 6) rv (some (.c (.int .i64 1))) none none F=some rv':=fun F=>hslc F _ rfl;refine bO ?_;simp only[↓sU,sD,rE,↓reduceIte,rA,hsl1];obtain⟨e,b,q,hia,hb,he,⟨a,bb,cc,rfl,ha,_,_⟩,_,hlf⟩:=aN.at hrv (by decide) (i:=0) rfl;have hl3:=hlf 3 a rfl;rw[←aCF hS3 hb] at hl3;refine fZ ?_;simp only[↓sU,sD,rE,↓reduceIte,rA,aLS,hia,aF,aE,hl3,ha.len,Ag];have hW:gK g.nodes.length (fS g) (f+1) at_ p d=(jK (fun r=>gK g.nodes.length (fS g) f r at_ (d+1)) x.next (at_+1)).map fun L=>(p,d,((at_+L.length:Nat):Int))::L:=by
   simp only[gK,if_pos hlt,hnx]
  rw[hW];refine aX (Q:=fun o A' X=>(o= .normal∧aNt S0 S3 wb pb db lb ps nv iv a g (P.set at_ p) (D.set at_ d) L at_ d (fun r=>gK g.nodes.length (fS g) f r at_ (d+1)) x.next 0 A' X)∨(o= .ret∧wR pb db lb S3 X∧jK (fun r=>gK g.nodes.length (fS g) f r at_ (d+1)) x.next (at_+1)=none∧aH 8 A'.F= .nilsl∧aH 9 A'.F= .bool false∧∃P' D' L',WK X wb pb db lb g.nodes.length ps nv iv P' D' L')) (aK (bI (aNt S0 S3 wb pb db lb ps nv iv a g (P.set at_ p) (D.set at_ d) L at_ d (fun r=>gK g.nodes.length (fS g) f r at_ (d+1)) x.next) ?_ x.next.length _ _ ⟨rfl,wR.refl _ _ _ _,0,[],P.set at_ p,D.set at_ d,L,rv',by omega,by rw[Az];omega,by simp,hK3,fR.nil _ _ _,fR.nil _ _ _,fR.nil _ _ _,hrv',by refine⟨?_,?_,?_,?_,?_,?_,?_⟩<;>simp only[↓sU,sD,rE,↓reduceIte,rA]⟩)) ?_
  ·rintro k ⟨F,inr⟩ X ⟨q0,hX,j,T,P',D',L',v,hjk,hTN,hkid,hKX,rP,rD,rL,hv,p0,p2,p10,p11,p46,p47,p48⟩;simp only at q0 p0 p2 p10 p11 p46 p47 p48;subst q0;have hSX:Same S0 X:=hX.same hS3 hpb hdb hlb;have haX:=ha.same hSX;have hvl:=hv.len;rw[Cx] at hvl;refine bO ?_;simp only[↓sU,sD,rE,↓reduceIte,rA,p47,p48];by_cases hj:j<x.next.length
   ·refine aC (aQ (by simp only[↓sU,sD,rE,↓reduceIte,rA,Ab (show(j:Int)<((x.next.length:Nat):Int) by omega)]) (aJ ?_));simp only[↓sU,sD,rE,↓reduceIte,rA];have hias:=haX.iaddr hj;have hlds:=haX.ld hj;have hdr:x.next.drop j=x.next[j]::x.next.drop (j+1):=Cy hj;have hgd:x.next.getD j 0=x.next[j]:=by rw[Ai,Ad hj];rfl
    rw[hgd] at hlds;rw[hdr] at hkid;generalize x.next[j]=c at *;have w2:IntKind.i64.wrap (((g.nodes.length:Nat):Int) - ((g.nodes.length - (at_+1+T.length):Nat):Int))=((at_+1+T.length:Nat):Int):=by rw[wrap_i64 (by omega) (by omega)];omega
    have w3:IntKind.i64.wrap (d+1)=d+1:=wrap_i64 (by omega) (by omega);have w4:IntKind.i64.wrap ((j:Int)+1)=((j+1:Nat):Int):=by rw[wrap_i64 (by omega) (by omega)];omega
    refine aC (aK (aC (aD ?_)));simp only[↓sU,sD,rE,↓reduceIte,rA,p46,p48,aI,hias,hlds];refine fZ ?_;simp only[↓sU,sD,rE,↓reduceIte,rA,p0,p11,cG,cE,aF,aE,cO hKX.w.1,hnl,hvl,w2];by_cases hc:c=((at_+1+T.length:Nat):Int);rotate_left
    ·refine aQ (by simp only[↓sU,sD,rE,↓reduceIte,rA,Ab (show c≠((at_+1+T.length:Nat):Int) from hc)]) ?_;refine bO ?_;simp only[↓sU,sD,rE,↓reduceIte,rA];refine aS ?_;simp only[↓sU,sD,rE,↓reduceIte,rA];refine .inr ⟨hX,?_,P',D',L',hKX⟩;rw[hkid];simp only[jK,if_neg hc];rfl
    refine aL (by simp only[↓sU,sD,rE,↓reduceIte,rA,Aa (show ¬c≠((at_+1+T.length:Nat):Int) from fun h=>h hc)]) (aJ ?_);try simp only[↓sU,sD,rE,↓reduceIte,rA]
    simp only[jK,if_pos hc] at hkid;refine bO ?_;simp only[↓sU,sD,rE,↓reduceIte,rA,p0,p2,p10,p11,w3];refine aV ?_;simp only[↓sU,sD,rE,↓reduceIte,rA];refine aP (ih (S:=X) (at_:=at_+1+T.length) (p:=at_) (d:=d+1) (by omega) (by omega) (by omega) hTN hSX hKX hv) ?_;rintro r Y ⟨hY,P2,D2,L2,hKY,hres⟩;cases hw:gK g.nodes.length (fS g) f (at_+1+T.length) at_ (d+1) with
    | none=>
     rw[hw] at hres hkid;subst hres;simp only[↓sU,sD,rE,↓reduceIte,rA,ex0,ex1];refine bO ?_;simp only[↓sU,sD,rE,↓reduceIte,rA,eH,Bn];refine aQ (by simp only[↓sU,sD,rE,↓reduceIte,rA]) ?_;refine bO ?_;simp only[↓sU,sD,rE,↓reduceIte,rA];refine aS ?_;simp only[↓sU,sD,rE,↓reduceIte,rA];refine .inr ⟨hX.trans hY,?_,P2,D2,L2,hKY⟩;rw[hkid];rfl
    | some T1=>
     rw[hw] at hres hkid;obtain⟨⟨v2,rfl,hv2⟩,k1,k2,k3⟩:=hres;simp only[Option.bind_some,Option.map_map] at hkid;have hwl:=(uU hw).1;simp only[↓sU,sD,rE,↓reduceIte,rA,ex0,ex1];refine bO ?_;simp only[↓sU,sD,rE,↓reduceIte,rA,eH,Bi];refine aL (by simp only[↓sU,sD,rE,↓reduceIte,rA]) (aJ ?_);try simp only[↓sU,sD,rE,↓reduceIte,rA]
     refine aD ?_;simp only[↓sU,sD,rE,↓reduceIte,rA,p48,w4];refine⟨k - 1,by omega,rfl,hX.trans hY,j+1,T++T1,P2,D2,L2,v2,by omega,by rw[Am];omega,?_,hKY,rP.append k1,rD.append k2,rL.append k3,by rw[Am,←Ch];exact hv2,by refine⟨?_,?_,?_,?_,?_,?_,?_⟩<;>simp only[↓sU,sD,rE,↓reduceIte,rA,p0,p2,p10,p46,p47]⟩;rw[hkid,Am,←Ch];congr 1;funext M;simp
   ·refine aC (aL (by simp only[↓sU,sD,rE,↓reduceIte,rA,Aa (show ¬ (j:Int)<((x.next.length:Nat):Int) by omega)]) (bC ?_));simp only[↓sU,sD,rE,↓reduceIte,rA];have hk0:k=0:=by omega
    subst hk0;exact .inl ⟨rfl,hX,j,T,P',D',L',v,hjk,hTN,hkid,hKX,rP,rD,rL,hv,by refine⟨?_,?_,?_,?_,?_,?_,?_⟩<;>simp only[↓sU,sD,rE,↓reduceIte,rA,p0,p2,p10,p11,p46,p47,p48]⟩
  rintro o ⟨F,inr⟩ X (⟨rfl,q0,hX,j,T,P',D',L',v,hjk,hTN,hkid,hKX,rP,rD,rL,hv,p0,p2,p10,p11,p46,p47,p48⟩ | ⟨rfl,hX,hno,p8,p9,P',D',L',hKX⟩);rotate_left
  ·rw[hno];simp only at p8 p9;simp only[↓sU,sD,rE,↓reduceIte,rA,p8,p9];exact⟨b3.trans hX,P',D',L',hKX,rfl⟩
  simp only at q0 p0 p10 p11;subst q0;rw[Cr (by omega)] at hkid;simp only[jK,Ej,Cm] at hkid;rw[hkid];have hvl:=hv.len;rw[Cx] at hvl;have w2:IntKind.i64.wrap (((g.nodes.length:Nat):Int) - ((g.nodes.length - (at_+1+T.length):Nat):Int))=((at_+1+T.length:Nat):Int):=by rw[wrap_i64 (by omega) (by omega)];omega
  have w5:IntKind.i64.wrap (((at_+1+T.length:Nat):Int) - 1)=((at_+T.length:Nat):Int):=by rw[wrap_i64 (by omega) (by omega)];omega
  have wltX:=hKX.w.2;have hia3:=gP (b:=lb) (o:=false) hlt;try simp only[↓sU,sD,rE,↓reduceIte,rA]
  refine aC (dC (fun b=>b=lb) ?_);intro S4 s4;simp only[↓sU,sD,rE,↓reduceIte,rA,p0,p10,p11,cG,cH,cE,aF,aU,aE,cO hKX.w.1,cP hKX.w.1,hnl,hvl,w2,w5,wltX,ne6,Au,hia3,aN.self hG];have l4:=s4.1;have bpX:=hKX.bp;have bdX:=hKX.bd;have blX:=hKX.bl;refine aAc (p:=at_) (w:=((at_+T.length:Nat):Int)) rfl (by simp only[↓sU,sD,rE,↓reduceIte,rA]) (by simp only[↓sU,sD,rE,↓reduceIte,rA]) (by rw[s4.2 _ hKX.bl];exact hKX.gl) (by rw[hKX.ll];exact hlt) rfl ?_;intro S5 s5 n5 c5;simp only[↓sU,sD,rE,↓reduceIte,rA];have b5:wR pb db lb X S5:=⟨by omega,fun c hc h1 h2 h3=>by rw[s5.2 _ (by omega) h3,s4.2 _ hc]⟩;refine bO ?_;simp only[↓sU,sD,rE,↓reduceIte,rA,p11];refine aS ?_;simp only[↓sU,sD,rE,↓reduceIte,rA];have hatP:at_<P.length:=by rw[hK.lp];exact hlt
  have hatD:at_<D.length:=by rw[hK.ld];exact hlt
  have hatL:at_<L.length:=by rw[hK.ll];exact hlt
  refine⟨b3.trans (hX.trans b5),P',D',L'.set at_ ((at_+T.length:Nat):Int),⟨⟨by rw[b5.2 _ wltX ne4 ne5 ne6];exact hKX.w.1,Ae wltX b5.1⟩,by rw[s5.2 _ (by omega) ne2,s4.2 _ hKX.bp];exact hKX.gp,by rw[s5.2 _ (by omega) ne3,s4.2 _ hKX.bd];exact hKX.gd,c5,hKX.lp,hKX.ld,by rw[Bx];exact hKX.ll,by show _<S5.nx;omega,by show _<S5.nx;omega,by show _<S5.nx;omega⟩,⟨v,rfl,?_⟩,?_,?_,?_⟩
  ·rw[Al,show at_+(T.length+1)=at_+1+T.length by omega];exact hv
  ·exact fR.append (T:=[(p,d,((at_+T.length:Nat):Int))]) (fR.one hatP rfl) rP
  ·exact fR.append (T:=[(p,d,((at_+T.length:Nat):Int))]) (fR.one hatD rfl) rD
  ·exact fR.late rL hatL rfl
end Go.Ev.Gl
