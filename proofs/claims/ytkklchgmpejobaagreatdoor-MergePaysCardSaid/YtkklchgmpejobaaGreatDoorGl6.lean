import Derived.Test.YtkklchgmpejobaaGreatDoorGl5
open Nat renaming reduceEqDiff → rE, reduceAdd → rA
set_option maxHeartbeats 16000000
set_option linter.unusedSimpArgs false
set_option linter.unusedVariables false
namespace Go.Ev.Gl
variable {fns:T cV}
structure bU where
 kind:Int
 player:Int
 info:Int
 next:List Int
 weights:List Int
 pay:List Int
structure mT where
 player:Int
 actions:Int
structure bH where
 players:Int
 nodes:List bU
 infos:List mT
def jI(lo hi:Int)(l:List Int):Prop:=∃w∈l,w<lo∨hi<w
instance anyOutDec(lo hi:Int)(l:List Int):Decidable (jI lo hi l):=by unfold jI;exact inferInstance
def tH(x:bU):Prop:=x.player≠0∨x.info≠0∨(0:Int)<((x.pay.length:Nat):Int)∨((x.next.length:Nat):Int)<1∨(60:Int)<((x.next.length:Nat):Int)∨((x.weights.length:Nat):Int)≠((x.next.length:Nat):Int)
def xY(x:bU):Prop:=(0:Int)<((x.weights.length:Nat):Int)∨(0:Int)<((x.pay.length:Nat):Int)∨((x.next.length:Nat):Int)<1∨(10:Int)<((x.next.length:Nat):Int)
def uU(ps:Int)(x:bU):Prop:=x.player≠0∨x.info≠0∨(0:Int)<((x.next.length:Nat):Int)∨(0:Int)<((x.weights.length:Nat):Int)∨((x.pay.length:Nat):Int)≠ps
instance badCDec(x:bU):Decidable (tH x):=by unfold tH;exact inferInstance
instance badMDec(x:bU):Decidable (xY x):=by unfold xY;exact inferInstance
instance badEDec(ps:Int)(x:bU):Decidable (uU ps x):=by unfold uU;exact inferInstance
def iV(ps:Int)(ni:Nat)(x:bU):Int:=
 if x.kind=1 then(if tH x then 3 else if jI 1 1000 x.weights then 2 else 0)
 else if x.kind=2 then(if xY x then 3 else if x.player<0∨ps - 1<x.player∨x.info<0∨(ni:Int) - 1<x.info then 2 else 0)
 else if x.kind=3 then(if uU ps x then 3 else if jI (-1000000) 1000000 x.pay then 2 else 0)
 else 3
def dJ(S:St)(cs:List AV)(x:bU):Prop:=∃a b c,cs= [.int .i64 x.kind,.int .i64 x.player,.int .i64 x.info,a,b,c]∧cD .i64 S a x.next∧cD .i64 S b x.weights∧cD .i64 S c x.pay
theorem cT:aE8 dJ:=fun⟨a,b,c,h,h1,h2,h3⟩ hs=>⟨a,b,c,h,h1.same hs,h2.same hs,h3.same hs⟩
def fP(_:St)(cs:List AV)(x:mT):Prop:=cs= [.int .i64 x.player,.int .i64 x.actions]
theorem fO:aE8 fP:=fun h _=>h
def nS(S:St)(v:AV)(g:bH):Prop:=∃n i,v= .agg [.int .i64 g.players,n,i]∧bB 6 dJ S n g.nodes∧bB 2 fP S i g.infos
theorem nS.same{S S':St}{v:AV}{g:bH}(h:nS S v g)(hs:Same S S'):nS S' v g:=by
 obtain⟨n,i,h1,h2,h3⟩:=h;exact⟨n,i,h1,bB.same (E:=dJ) cT h2 hs,bB.same (E:=fP) fO h3 hs⟩
theorem ldc{h:T AB}{b j:Nat}{cs:List AV}{x:AV}{o:Bool}{s:Nat}(hb:h.get b=some (.cells cs o s))(hj:cs[j]? =some x):dB (.ptr b (0+j)) false 1 h=some x:=by
 simp only[dB,oJ,aQ,lP,cL,hb,aK,mV,nD,Ao,hj]
theorem aJc{h:T AB}{b n:Nat}{cs:List AV}{o:Bool}{s:Nat}(hb:h.get b=some (.cells cs o s))(hn:cs.length=n):dB (.ptr b 0) true n h=some (.agg cs):=by
 subst hn;simp only[dB,oJ,aL,vG,cL,hb,aK,mV];unfold cut;rw[fI,fT,Ct,if_pos (Ag _),Ch];rfl
section
variable {h:T AB}{b:Nat}{x0 x1 x2 x3 x4 x5:AV}{o:Bool}{s:Nat}
theorem gT(hb:h.get b=some (.cells [x0,x1,x2,x3,x4,x5] o s)):dB (.ptr b (0+0)) false 1 h=some x0:=ldc hb rfl
theorem gM(hb:h.get b=some (.cells [x0,x1,x2,x3,x4,x5] o s)):dB (.ptr b (0+1)) false 1 h=some x1:=ldc hb rfl
theorem gR(hb:h.get b=some (.cells [x0,x1,x2,x3,x4,x5] o s)):dB (.ptr b (0+2)) false 1 h=some x2:=ldc hb rfl
theorem gE(hb:h.get b=some (.cells [x0,x1,x2,x3,x4,x5] o s)):dB (.ptr b (0+3)) false 1 h=some x3:=ldc hb rfl
theorem iD(hb:h.get b=some (.cells [x0,x1,x2,x3,x4,x5] o s)):dB (.ptr b (0+4)) false 1 h=some x4:=ldc hb rfl
theorem jJ(hb:h.get b=some (.cells [x0,x1,x2,x3,x4,x5] o s)):dB (.ptr b (0+5)) false 1 h=some x5:=ldc hb rfl
theorem ldN(hb:h.get b=some (.cells [x0,x1,x2,x3,x4,x5] o s)):dB (.ptr b 0) true 6 h=some (.agg [x0,x1,x2,x3,x4,x5]):=aJc hb rfl
end
section
variable {k:Nat}{α:Type}{E:St→List AV→α→Prop}{S:St}{v:AV}{l:List α}
theorem bB.at(h:bB k E S v l)(hk:0<k){i:Nat}{a:α}(hi:l[i]? =some a):∃e b p,eS (.slice k) v i=some (.ptr b p)∧b<S.nx∧e.length=k∧E S e a∧dB (.ptr b p) true k S.h=some (.agg e)∧∀j x,e[j]? =some x→dB (.ptr b (p+j)) false 1 S.h=some x:=by
 obtain⟨e,b,p,h1,h2,h3,h4,cs,h5,h6⟩:=h.get hi;have hlt:=(Af.1 hi).1;refine⟨e,b,p,by rw[←h1];exact h.iaddr hlt,h2,h3,h4,?_,fun j x hj=>?_⟩
 ·simp only[dB,oJ,aL,vG,h5,aK];have hcut:cut cs p k=some e:=by
   have hle:p+k≤cs.length:=by
    have:=h6 (k - 1) (e[k - 1]'(by omega)) (Ab (by omega));have:=(Af.1 this).1;omega
   unfold cut;rw[fI,fT,if_pos (by rw[Cq];omega)];congr 1;refine Eb (by rw[Cc,Cq];omega) fun j j1 j2=>?_;have:=h6 j e[j] (Ab j2);rw[List.getElem_take,List.getElem_drop];exact(Af.1 this).2
  rw[hcut,aK]
 ·simp only[dB,oJ,aQ,lP,h5,aK,nD];exact h6 j x hj
end
theorem aGW{lo hi:Int}{l:List Int}{i:Nat}(hi':i<l.length)(h:¬jI lo hi (l.take i))(h2:¬ (l.getD i 0<lo∨hi<l.getD i 0)):¬jI lo hi (l.take (i+1)):=by
 rintro⟨w,hw,ho⟩;rw[Bw,Ab hi'] at hw;rcases Bf.1 hw with h1 | h1
 ·exact h ⟨w,h1,ho⟩
 ·simp at h1;rw[Ae,Ab hi'] at h2;subst h1;exact h2 ho
theorem aIB{lo hi:Int}{l:List Int}{i:Nat}(hi':i<l.length)(h2:l.getD i 0<lo∨hi<l.getD i 0):jI lo hi l:=by
 rw[Ae,Ab hi'] at h2;exact⟨l[i],Br hi',h2⟩
theorem cD.self{k:IntKind}{S:St}{v:AV}{l:List Int}(h:cD k S v l):cM v v=true:=by
 rcases h with⟨_,h | h⟩ | ⟨b,off,cap,o,cs,rfl,_⟩
 ·subst h;rfl
 ·subst h;rfl
 ·exact tU ..
theorem bB.self{k:Nat}{α:Type}{E:St→List AV→α→Prop}{S:St}{v:AV}{l:List α}(h:bB k E S v l):cM v v=true:=by
 rcases h with⟨_,h | h⟩ | ⟨b,off,cap,o,cs,rfl,_⟩
 ·subst h;rfl
 ·subst h;rfl
 ·exact tU ..
theorem aLJ{k:IntKind}{S:St}{b:Nat}{z:Int}(hb:b<S.nx)(h:S.h.get b=some (.cells [.int k z] false 0)):cD k S (.sl b 0 1 1 false) [z]:=by
 refine .inr ⟨b,0,1,false,[.int k z],rfl,Ag _,hb,by unfold cL;rw[h];rfl,fun i x hi=>?_⟩;cases i with
 | zero=>simp at hi;subst hi;rfl
 | succ i=>simp at hi
theorem aDQ{lo hi z:Int}:jI lo hi [z]↔z<lo∨hi<z:=by
 unfold jI;simp
theorem aEO{x0 x1 x2 x3 x4 x5:AV}(h0:cM x0 x0=true)(h1:cM x1 x1=true)(h2:cM x2 x2=true)(h3:cM x3 x3=true)(h4:cM x4 x4=true)(h5:cM x5 x5=true):cM (.agg [x0,x1,x2,x3,x4,x5]) (.agg [x0,x1,x2,x3,x4,x5])=true:=by
 simp only[cM,oN,h0,h1,h2,h3,h4,h5,aL]
theorem aK0{S:St}{b3 b4:Nat}{lo hi w:Int}(H:Has fns)(g3:S.h.get b3=some (.cells [.int .i64 lo] false 0))(g4:S.h.get b4=some (.cells [.int .i64 hi] false 0)):fR fns (.fn 111 [] [.ptr b3 0,.ptr b4 0]) [.int .i64 w] S fun r S'=>r= .bool (decide (w<lo∨hi<w))∧S'=S:=by
 have l3:dB (.ptr b3 0) false 1 S.h=some (.int .i64 lo):=ldc (j:=0) g3 rfl;have l4:dB (.ptr b4 0) false 1 S.h=some (.int .i64 hi):=ldc (j:=0) g4 rfl;refine cE H.f111 (by simp) ?_;refine ac ?_;refine cC ?_;refine ac ?_;refine cC ?_;by_cases h1:w<lo
 ·rw[Ad (show w<lo∨hi<w from .inl h1)];simp only[↓aA,aB,rE,↓reduceIte,l3,Ad h1];refine aU ?_;simp only[↓aA,aB,rE,↓reduceIte]
 ·by_cases h2:hi<w
  ·rw[Ad (show w<lo∨hi<w from .inr h2)];simp only[↓aA,aB,rE,↓reduceIte,l3,l4,Aa h1,Ad h2];refine aU ?_;simp only[↓aA,aB,rE,↓reduceIte]
  ·rw[Aa (show ¬ (w<lo∨hi<w) by omega)];simp only[↓aA,aB,rE,↓reduceIte,l3,l4,Aa h1,Aa h2];refine aU ?_;simp only[↓aA,aB,rE,↓reduceIte]
def aRI(S:St)(v f:AV)(lo hi:Int)(l:List Int)(k:Nat)(A:bQ)(X:St):Prop:=A.inr=false∧X=S∧∃i,i+k=l.length∧¬jI lo hi (l.take i)∧aD 0 A.F=v∧aD 1 A.F=f∧aD 7 A.F= .int .i64 ((l.length:Nat):Int)∧aD 8 A.F= .int .i64 (i:Int)
theorem aHO{S:St}{b3 b4:Nat}{lo hi:Int}{v:AV}{l:List Int}(H:Has fns)(g3:S.h.get b3=some (.cells [.int .i64 lo] false 0))(g4:S.h.get b4=some (.cells [.int .i64 hi] false 0))(hl:cD .i64 S v l)(hlen:l.length≤1000000):fR fns (.fn 117 [] []) [v,.fn 111 [] [.ptr b3 0,.ptr b4 0]] S fun r S'=>(∃z,r= .int .i64 z∧(0≤z↔jI lo hi l))∧S'=S:=by
 refine cE H.f117 (by simp) ?_;refine ac ?_;refine cC ?_;refine ac ?_;refine iP ?_;simp only[↓aA,aB,rE,↓reduceIte,hl.len,Ak];refine aN (bT (aRI S v (.fn 111 [] [.ptr b3 0,.ptr b4 0]) lo hi l) ?_ l.length _ _ ⟨rfl,rfl,0,by omega,(by rintro⟨w,h,_⟩;simp at h),by refine⟨?_,?_,?_,?_⟩<;>simp only[↓aA,aB,rE,↓reduceIte]⟩);rintro k ⟨F,inr⟩ X ⟨q0,hX,j,hjk,ha,p0,p1,p7,p8⟩;simp only at q0 p0 p1 p7 p8;subst q0;rw[hX];refine cC ?_;simp only[↓aA,aB,rE,↓reduceIte,p7,p8];by_cases hj:j<l.length
 ·refine aC (aR (by simp only[↓aA,aB,rE,↓reduceIte,Ad (show(j:Int)<((l.length:Nat):Int) by omega)]) (aM ?_));simp only[↓aA,aB,rE,↓reduceIte];have hia:=hl.iaddr hj;have hld:=hl.ld hj;have htk:=aGW (lo:=lo) (hi:=hi) hj ha;have hget:=aIB (lo:=lo) (hi:=hi) hj;generalize l.getD j 0=w at *;have w1:IntKind.i64.wrap ((j:Int)+1)=((j+1:Nat):Int):=by rw[wrap_i64 (by omega) (by omega)];omega
  refine aC (aN (aC (aG ?_)));simp only[↓aA,aB,rE,↓reduceIte,p8];refine cC ?_;simp only[↓aA,aB,rE,↓reduceIte,p0,p1,aH,hia,hld];refine aY ?_;refine ac ?_;refine aP (aK0 H g3 g4) ?_;rintro _ Y ⟨rfl,hY⟩;rw[hY];try simp only[↓aA,aB,rE,↓reduceIte]
  by_cases ho:w<lo∨hi<w
  ·refine aR (by simp only[↓aA,aB,rE,↓reduceIte,Ad ho]) ?_;refine cC ?_;refine ac ?_;refine aU ?_;simp only[↓aA,aB,rE,↓reduceIte];exact⟨_,rfl,⟨fun _=>hget ho,fun _=>by omega⟩⟩
  ·refine aO (by simp only[↓aA,aB,rE,↓reduceIte,Aa ho]) (aM ?_);try simp only[↓aA,aB,rE,↓reduceIte]
   refine aG ?_;simp only[↓aA,aB,rE,↓reduceIte,p8,w1];exact⟨k - 1,by omega,rfl,rfl,j+1,by omega,htk ho,by refine⟨?_,?_,?_,?_⟩<;>simp only[↓aA,aB,rE,↓reduceIte,p0,p1,p7]⟩
 ·refine aC (aO (by simp only[↓aA,aB,rE,↓reduceIte,Aa (show ¬ (j:Int)<((l.length:Nat):Int) by omega)]) (bK ?_));simp only[↓aA,aB,rE,↓reduceIte];have hno:¬jI lo hi l:=by rw[Bj (by omega)] at ha;exact ha
  refine cC ?_;refine ac ?_;refine aU ?_;simp only[↓aA,aB,rE,↓reduceIte];exact⟨_,rfl,⟨fun h=>absurd h (by decide),fun h=>absurd h hno⟩⟩
theorem aIe{S:St}{b3 b4:Nat}{lo hi:Int}{v:AV}{l:List Int}(H:Has fns)(g3:S.h.get b3=some (.cells [.int .i64 lo] false 0))(g4:S.h.get b4=some (.cells [.int .i64 hi] false 0))(hl:cD .i64 S v l)(hlen:l.length≤1000000):fR fns (.fn 110 [] []) [v,.fn 111 [] [.ptr b3 0,.ptr b4 0]] S fun r S'=>r= .bool (decide (jI lo hi l))∧S'=S:=by
 refine cE H.f110 (by simp) ?_;refine ac ?_;refine cC ?_;refine ac ?_;refine cC ?_;refine ac ?_;refine aY ?_;refine ac ?_;refine aP (aHO H g3 g4 hl hlen) ?_;rintro _ Y ⟨⟨z,rfl,hz⟩,hY⟩;rw[hY];have hd:decide ((0:Int)≤z)=decide (jI lo hi l):=by rw[Cp,Fd,Fd];exact hz
 simp only[↓aA,aB,rE,↓reduceIte,hd];refine aU ?_;simp only[↓aA,aB,rE,↓reduceIte]
theorem rB{S:St}{lo hi:Int}{v:AV}{l:List Int}(H:Has fns)(hl:cD .i64 S v l)(hlen:l.length≤1000000):fR fns (.fn 100 [] []) [.int .i64 lo,.int .i64 hi,v] S fun r S'=>r= .int .i64 (if jI lo hi l then 2 else 0)∧Same S S':=by
 refine cE H.f100 (by simp) ?_;refine ac ?_;refine cC ?_;refine eH (by simp only[↓aA,aB,rE,↓reduceIte];exact cQ _ _) ?_;intro S1 s1 n1 c1;refine eH (by simp only[↓aA,aB,rE,↓reduceIte];exact cQ _ _) ?_;intro S2 s2 n2 c2;simp only[↓aA,aB,rE,↓reduceIte];have sS:=s1.trans s2;refine iP ?_;simp only[↓aA,aB,rE,↓reduceIte,qK];refine aY ?_;refine ac ?_;refine aP (aIe H (by rw[s2.2 _ (by omega)];exact c1) c2 (hl.same sS) hlen) ?_;rintro _ Y ⟨rfl,hY⟩;rw[hY];try simp only[↓aA,aB,rE,↓reduceIte]
 by_cases ho:jI lo hi l
 ·rw[if_pos ho];refine aR (by simp only[↓aA,aB,rE,↓reduceIte,Ad ho]) ?_;refine cC ?_;refine ac ?_;refine aU ?_;simp only[↓aA,aB,rE,↓reduceIte];exact sS
 ·rw[if_neg ho];refine aO (by simp only[↓aA,aB,rE,↓reduceIte,Aa ho]) (aM ?_);try simp only[↓aA,aB,rE,↓reduceIte]
  refine cC ?_;refine ac ?_;refine aU ?_;simp only[↓aA,aB,rE,↓reduceIte];exact sS
def aAg(S:St)(wb:Nat)(ps:Int)(n i p d l:AV):Prop:=S.h.get wb=some (.cells [.int .i64 ps,n,i,p,d,l] false 0)∧wb<S.nx
theorem aAg.same{S S':St}{wb:Nat}{ps:Int}{n i p d l:AV}(h:aAg S wb ps n i p d l)(hs:Same S S'):aAg S' wb ps n i p d l:=⟨(hs.2 _ h.2).trans h.1,Ah h.2 hs.1⟩
section
variable {S:St}{wb:Nat}{ps:Int}{n i p d l:AV}{ni:Nat}{cs:List AV}{x:bU}
theorem aGD(H:Has fns)(hx:dJ S cs x):fR fns (.fn 82 [] []) [.ptr wb 0,.agg cs] S fun r S'=>r= .int .i64 (if tH x then 3 else if jI 1 1000 x.weights then 2 else 0)∧Same S S':=by
 obtain⟨a,b,c,rfl,hn,hw,hp⟩:=hx;refine cE H.f82 (by simp) ?_;refine ac ?_;refine cC ?_;refine eH (by simp only[↓aA,aB,rE,↓reduceIte];exact bM _) ?_;intro S2 s2 n2 g3;simp only[↓aA,aB,rE,↓reduceIte];have hn2:=hn.same s2;have hw2:=hw.same s2;have hp2:=hp.same s2;refine aC (aC (bD (Q:=fun o A' X=>o= .normal∧A'.inr=false∧X=S2∧aD 3 A'.F= .ptr S.nx 0∧aD 39 A'.F= .bool (decide (tH x))) (aG ?_) ?_))
 ·by_cases c0:x.player≠0
  ·rw[Ad (show tH x from .inl c0)];simp only[↓aA,aB,rE,↓reduceIte,aE,aF,gM g3,gR g3,gE g3,iD g3,jJ g3,hn2.len,hw2.len,hp2.len,Ak,Ad c0]
  by_cases c1:x.info≠0
  ·rw[Ad (show tH x from .inr (.inl c1))];simp only[↓aA,aB,rE,↓reduceIte,aE,aF,gM g3,gR g3,gE g3,iD g3,jJ g3,hn2.len,hw2.len,hp2.len,Ak,Aa c0,Ad c1]
  by_cases c2:(0:Int)<((x.pay.length:Nat):Int)
  ·rw[Ad (show tH x from .inr (.inr (.inl c2)))];simp only[↓aA,aB,rE,↓reduceIte,aE,aF,gM g3,gR g3,gE g3,iD g3,jJ g3,hn2.len,hw2.len,hp2.len,Ak,Aa c0,Aa c1,Ad c2]
  by_cases c3:((x.next.length:Nat):Int)<1
  ·rw[Ad (show tH x from .inr (.inr (.inr (.inl c3))))];simp only[↓aA,aB,rE,↓reduceIte,aE,aF,gM g3,gR g3,gE g3,iD g3,jJ g3,hn2.len,hw2.len,hp2.len,Ak,Aa c0,Aa c1,Aa c2,Ad c3]
  by_cases c4:(60:Int)<((x.next.length:Nat):Int)
  ·rw[Ad (show tH x from .inr (.inr (.inr (.inr (.inl c4)))))];simp only[↓aA,aB,rE,↓reduceIte,aE,aF,gM g3,gR g3,gE g3,iD g3,jJ g3,hn2.len,hw2.len,hp2.len,Ak,Aa c0,Aa c1,Aa c2,Aa c3,Ad c4]
  by_cases c5:((x.weights.length:Nat):Int)≠((x.next.length:Nat):Int)
  ·rw[Ad (show tH x from .inr (.inr (.inr (.inr (.inr (c5))))))];simp only[↓aA,aB,rE,↓reduceIte,aE,aF,gM g3,gR g3,gE g3,iD g3,jJ g3,hn2.len,hw2.len,hp2.len,Ak,Aa c0,Aa c1,Aa c2,Aa c3,Aa c4,Ad c5]
  rw[Aa (show ¬tH x by rintro(h0 | h1 | h2 | h3 | h4 | h5)<;>first | exact c0 h0 | exact c1 h1 | exact c2 h2 | exact c3 h3 | exact c4 h4 | exact c5 h5)];simp only[↓aA,aB,rE,↓reduceIte,aE,aF,gM g3,gR g3,gE g3,iD g3,jJ g3,hn2.len,hw2.len,hp2.len,Ak,Aa c0,Aa c1,Aa c2,Aa c3,Aa c4,Aa c5]
 rintro o ⟨F,inr⟩ X ⟨rfl,q0,hX,p3,pb⟩;simp only at q0 p3 pb;subst q0;rw[hX];have sX:=s2;try simp only[↓aA,aB,rE,↓reduceIte]
 by_cases bad:tH x
 ·rw[if_pos bad];refine aR (by simp only[↓aA,aB,rE,↓reduceIte,pb,Ad bad]) ?_;refine cC ?_;refine ac ?_;refine aU ?_;simp only[↓aA,aB,rE,↓reduceIte];exact sX
 rw[if_neg bad];refine aO (by simp only[↓aA,aB,rE,↓reduceIte,pb,Aa bad]) (aM ?_);try simp only[↓aA,aB,rE,↓reduceIte]
 have hlen:x.weights.length≤60:=by unfold tH at bad;omega
 refine cC ?_;simp only[↓aA,aB,rE,↓reduceIte,p3,aE,aF,iD g3];refine aY ?_;refine ac ?_;refine aP (rB H hw2 (by omega)) ?_;rintro _ Y ⟨rfl,hY⟩;try simp only[↓aA,aB,rE,↓reduceIte]
 refine aU ?_;simp only[↓aA,aB,rE,↓reduceIte];exact s2.trans hY
theorem aKL(H:Has fns)(hx:dJ S cs x)(hW:aAg S wb ps n i p d l)(hps:1≤ps∧ps≤4)(hi:lH i=some (.int .i64 ((ni:Nat):Int)))(hni:ni≤1000)(hsi:cM i i=true):fR fns (.fn 83 [] []) [.ptr wb 0,.agg cs] S fun r S'=>r= .int .i64 (if xY x then 3 else if x.player<0∨ps - 1<x.player∨x.info<0∨(ni:Int) - 1<x.info then 2 else 0)∧Same S S':=by
 obtain⟨a,b,c,rfl,hn,hw,hp⟩:=hx;refine cE H.f83 (by simp) ?_;refine ac ?_;refine cC ?_;refine eH (by simp only[↓aA,aB,rE,↓reduceIte];exact bM _) ?_;intro S2 s2 n2 g3;simp only[↓aA,aB,rE,↓reduceIte];have hn2:=hn.same s2;have hw2:=hw.same s2;have hp2:=hp.same s2;have hW2:=hW.same s2;refine aC (aC (bD (Q:=fun o A' X=>o= .normal∧A'.inr=false∧X=S2∧aD 0 A'.F= .ptr wb 0∧aD 3 A'.F= .ptr S.nx 0∧aD 27 A'.F= .bool (decide (xY x))) (aG ?_) ?_))
 ·by_cases c0:(0:Int)<((x.weights.length:Nat):Int)
  ·rw[Ad (show xY x from .inl c0)];simp only[↓aA,aB,rE,↓reduceIte,aE,aF,gM g3,gR g3,gE g3,iD g3,jJ g3,hn2.len,hw2.len,hp2.len,Ak,Ad c0]
  by_cases c1:(0:Int)<((x.pay.length:Nat):Int)
  ·rw[Ad (show xY x from .inr (.inl c1))];simp only[↓aA,aB,rE,↓reduceIte,aE,aF,gM g3,gR g3,gE g3,iD g3,jJ g3,hn2.len,hw2.len,hp2.len,Ak,Aa c0,Ad c1]
  by_cases c2:((x.next.length:Nat):Int)<1
  ·rw[Ad (show xY x from .inr (.inr (.inl c2)))];simp only[↓aA,aB,rE,↓reduceIte,aE,aF,gM g3,gR g3,gE g3,iD g3,jJ g3,hn2.len,hw2.len,hp2.len,Ak,Aa c0,Aa c1,Ad c2]
  by_cases c3:(10:Int)<((x.next.length:Nat):Int)
  ·rw[Ad (show xY x from .inr (.inr (.inr (c3))))];simp only[↓aA,aB,rE,↓reduceIte,aE,aF,gM g3,gR g3,gE g3,iD g3,jJ g3,hn2.len,hw2.len,hp2.len,Ak,Aa c0,Aa c1,Aa c2,Ad c3]
  rw[Aa (show ¬xY x by rintro(h0 | h1 | h2 | h3)<;>first | exact c0 h0 | exact c1 h1 | exact c2 h2 | exact c3 h3)];simp only[↓aA,aB,rE,↓reduceIte,aE,aF,gM g3,gR g3,gE g3,iD g3,jJ g3,hn2.len,hw2.len,hp2.len,Ak,Aa c0,Aa c1,Aa c2,Aa c3]
 rintro o ⟨F,inr⟩ X ⟨rfl,q0,hX,p0,p3,pb⟩;simp only at q0 p0 p3 pb;subst q0;rw[hX];have sX:=s2;try simp only[↓aA,aB,rE,↓reduceIte]
 by_cases bad:xY x
 ·rw[if_pos bad];refine aR (by simp only[↓aA,aB,rE,↓reduceIte,pb,Ad bad]) ?_;refine cC ?_;refine ac ?_;refine aU ?_;simp only[↓aA,aB,rE,↓reduceIte];exact sX
 rw[if_neg bad];refine aO (by simp only[↓aA,aB,rE,↓reduceIte,pb,Aa bad]) (aM ?_);try simp only[↓aA,aB,rE,↓reduceIte]
 have w1:IntKind.i64.wrap (ps - 1)=ps - 1:=wrap_i64 (by omega) (by omega);have w2:IntKind.i64.wrap ((ni:Int) - 1)=(ni:Int) - 1:=wrap_i64 (by omega) (by omega);have lt3:S.nx<S2.nx:=by omega
 refine aC (aC (qE (fun _=>False) ?_));intro S3 s3 h3 n3;simp only[Am,Bo,rA] at n3;simp only[↓sU,sD,rE,↓reduceIte,rA,p0,p3,bE,bO,bF,aE,aW,aF,gT hW2.1,gM g3,w1,hW2.2,lt3,Ay];rw[kQ (k:=.i64) (n:=x.player) (aq)];refine am ?_;refine aDT (by decide) rfl ?_;intro S4 s4 n4 c4;simp only[↓sU,sD,rE,↓reduceIte,rA];have s34:Same S2 S4:=s4.same s3 (by omega);refine aP (rB H (aLJ (by omega) c4) (by simp)) ?_;rintro _ Y ⟨rfl,hY⟩;refine⟨hY,?_⟩;simp only[↓sU,sD,rE,↓reduceIte,rA,aDQ];have sY:=s2.trans (s34.trans hY);refine cC ?_;simp only[↓sU,sD,rE,↓reduceIte,rA];by_cases h1:x.player<0∨ps - 1<x.player
 ·rw[if_pos (show x.player<0∨ps - 1<x.player∨x.info<0∨(ni:Int) - 1<x.info by omega)];refine aR (by simp only[↓sU,sD,rE,↓reduceIte,rA,if_pos h1];rfl) ?_;refine cC ?_;simp only[↓sU,sD,rE,↓reduceIte,rA,if_pos h1];refine aU ?_;simp only[↓sU,sD,rE,↓reduceIte,rA];exact sY
 refine aO (by simp only[↓sU,sD,rE,↓reduceIte,rA,if_neg h1];rfl) (aM ?_);try simp only[↓sU,sD,rE,↓reduceIte,rA]
 have hWY:=hW.same sY;have g3Y:Y.h.get S.nx=some (.cells [.int .i64 x.kind,.int .i64 x.player,.int .i64 x.info,a,b,c] false 0):=by rw[(s34.trans hY).2 _ lt3];exact g3
 have lt3Y:S.nx<Y.nx:=Ah lt3 (s34.trans hY).1;refine aC (qE (fun _=>False) ?_);intro S5 s5 h5 n5;simp only[Am,Bo,rA] at n5;simp only[↓sU,sD,rE,↓reduceIte,rA,p0,p3,bE,bO,bF,aE,aW,aF,gR hWY.1,hi,hsi,gR g3Y,w2,hWY.2,lt3Y,Ay];rw[kQ (k:=.i64) (n:=x.info) (aq)];refine am ?_;refine aDT (by decide) rfl ?_;intro S6 s6 n6 c6;simp only[↓sU,sD,rE,↓reduceIte,rA];have s56:Same Y S6:=s6.same s5 (by omega);refine aP (rB H (aLJ (by omega) c6) (by simp)) ?_;rintro _ Z ⟨rfl,hZ⟩;refine⟨hZ,?_⟩;simp only[↓sU,sD,rE,↓reduceIte,rA,aDQ];refine aU ?_;refine am ?_;refine⟨?_,sY.trans (s56.trans hZ)⟩;by_cases h2:x.info<0∨(ni:Int) - 1<x.info
 ·rw[if_pos h2,if_pos (by omega)]
 ·rw[if_neg h2,if_neg (by omega)]
theorem aMk(H:Has fns)(hx:dJ S cs x)(hW:aAg S wb ps n i p d l)(hps:1≤ps∧ps≤4):fR fns (.fn 84 [] []) [.ptr wb 0,.agg cs] S fun r S'=>r= .int .i64 (if uU ps x then 3 else if jI (-1000000) 1000000 x.pay then 2 else 0)∧Same S S':=by
 obtain⟨a,b,c,rfl,hn,hw,hp⟩:=hx;refine cE H.f84 (by simp) ?_;refine ac ?_;refine cC ?_;refine eH (by simp only[↓aA,aB,rE,↓reduceIte];exact bM _) ?_;intro S2 s2 n2 g3;simp only[↓aA,aB,rE,↓reduceIte];have hn2:=hn.same s2;have hw2:=hw.same s2;have hp2:=hp.same s2;have hW2:=hW.same s2;have sn:=cD.self hn2;have sw:=cD.self hw2;have sp:=cD.self hp2;refine aC (aC (bD (Q:=fun o A' X=>o= .normal∧A'.inr=false∧Same S2 X∧aD 3 A'.F= .ptr S.nx 0∧aD 35 A'.F= .bool (decide (uU ps x))) (kO ?_) ?_))
 ·have sX:=Same.nx S2 31;by_cases c0:x.player≠0
  ·rw[Ad (show uU ps x from .inl c0)];simp only[↓aA,aB,rE,↓reduceIte,aE,aF,gM g3,gR g3,gE g3,iD g3,jJ g3,hn2.len,hw2.len,hp2.len,Ak,bE,bO,bF,aW,gJ,gT hW2.1,sn,sw,sp,Ad c0];exact Same.nx S2 _
  by_cases c1:x.info≠0
  ·rw[Ad (show uU ps x from .inr (.inl c1))];simp only[↓aA,aB,rE,↓reduceIte,aE,aF,gM g3,gR g3,gE g3,iD g3,jJ g3,hn2.len,hw2.len,hp2.len,Ak,bE,bO,bF,aW,gJ,gT hW2.1,sn,sw,sp,Aa c0,Ad c1];exact Same.nx S2 _
  by_cases c2:(0:Int)<((x.next.length:Nat):Int)
  ·rw[Ad (show uU ps x from .inr (.inr (.inl c2)))];simp only[↓aA,aB,rE,↓reduceIte,aE,aF,gM g3,gR g3,gE g3,iD g3,jJ g3,hn2.len,hw2.len,hp2.len,Ak,bE,bO,bF,aW,gJ,gT hW2.1,sn,sw,sp,Aa c0,Aa c1,Ad c2];exact Same.nx S2 _
  by_cases c3:(0:Int)<((x.weights.length:Nat):Int)
  ·rw[Ad (show uU ps x from .inr (.inr (.inr (.inl c3))))];simp only[↓aA,aB,rE,↓reduceIte,aE,aF,gM g3,gR g3,gE g3,iD g3,jJ g3,hn2.len,hw2.len,hp2.len,Ak,bE,bO,bF,aW,gJ,gT hW2.1,sn,sw,sp,Aa c0,Aa c1,Aa c2,Ad c3];exact Same.nx S2 _
  by_cases c4:((x.pay.length:Nat):Int)≠ps
  ·rw[Ad (show uU ps x from .inr (.inr (.inr (.inr (c4)))))];simp only[↓aA,aB,rE,↓reduceIte,aE,aF,gM g3,gR g3,gE g3,iD g3,jJ g3,hn2.len,hw2.len,hp2.len,Ak,bE,bO,bF,aW,gJ,gT hW2.1,sn,sw,sp,Aa c0,Aa c1,Aa c2,Aa c3,Ad c4];exact Same.nx S2 _
  rw[Aa (show ¬uU ps x by rintro(h0 | h1 | h2 | h3 | h4)<;>first | exact c0 h0 | exact c1 h1 | exact c2 h2 | exact c3 h3 | exact c4 h4)];simp only[↓aA,aB,rE,↓reduceIte,aE,aF,gM g3,gR g3,gE g3,iD g3,jJ g3,hn2.len,hw2.len,hp2.len,Ak,bE,bO,bF,aW,gJ,gT hW2.1,sn,sw,sp,Aa c0,Aa c1,Aa c2,Aa c3,Aa c4];exact Same.nx S2 _
 rintro o ⟨F,inr⟩ X ⟨rfl,q0,hX,p3,pb⟩;simp only at q0 p3 pb;subst q0;have sX:=s2.trans hX;have g3X:X.h.get S.nx=some (.cells [.int .i64 x.kind,.int .i64 x.player,.int .i64 x.info,a,b,c] false 0):=by rw[hX.2 _ (by omega)];exact g3
 try simp only[↓aA,aB,rE,↓reduceIte]
 by_cases bad:uU ps x
 ·rw[if_pos bad];refine aR (by simp only[↓aA,aB,rE,↓reduceIte,pb,Ad bad]) ?_;refine cC ?_;refine ac ?_;refine aU ?_;simp only[↓aA,aB,rE,↓reduceIte];exact sX
 rw[if_neg bad];refine aO (by simp only[↓aA,aB,rE,↓reduceIte,pb,Aa bad]) (aM ?_);try simp only[↓aA,aB,rE,↓reduceIte]
 have hlen:x.pay.length≤60:=by unfold uU at bad;omega
 have hneg:Int.negSucc 999999= -1000000:=rfl;refine cC ?_;simp only[↓aA,aB,rE,↓reduceIte,p3,aE,aF,jJ g3X];refine aY ?_;simp only[↓aA,aB,rE,↓reduceIte,hneg];refine aP (rB H (hp2.same hX) (by omega)) ?_;rintro _ Y ⟨rfl,hY⟩;try simp only[↓aA,aB,rE,↓reduceIte]
 refine aU ?_;simp only[↓aA,aB,rE,↓reduceIte];exact sX.trans hY
end
section
variable {S:St}{wb:Nat}{ps:Int}{n i p d l:AV}{ni:Nat}{cs:List AV}{x:bU}
theorem aJO(H:Has fns)(hx:dJ S cs x)(hW:aAg S wb ps n i p d l)(hps:1≤ps∧ps≤4)(hi:lH i=some (.int .i64 ((ni:Nat):Int)))(hni:ni≤1000)(hsi:cM i i=true):fR fns (.fn 63 [] []) [.ptr wb 0,.agg cs] S fun r S'=>r= .int .i64 (iV ps ni x)∧Same S S':=by
 obtain⟨a,b,c,rfl,hn,hw,hp⟩:=id hx;refine cE H.f63 (by simp) ?_;refine ac ?_;refine cC ?_;refine eH (by simp only[↓aA,aB,rE,↓reduceIte];exact bM _) ?_;intro S1 s1 n1 g3;simp only[↓aA,aB,rE,↓reduceIte];have hbd:∀ (F:Fr) (h:T AB),iI (.build [.nilfn,.nilfn,.nilfn,.nilfn] [(1,1,.c (.fn 82 [] [])),(2,1,.c (.fn 83 [] [])),(3,1,.c (.fn 84 [] []))]) F h=some (.agg [.nilfn,.fn 82 [] [],.fn 83 [] [],.fn 84 [] []]):=fun _ _=>rfl;refine cC ?_;simp only[↓aA,aB,rE,↓reduceIte,hbd];refine cR ?_;intro S2 s2 n2 c2;refine fC (b:=S1.nx) (ae) (by simp only[↓aA,aB,rE,↓reduceIte];exact bM _) c2 rfl rfl ?_;intro S3 s3 n3 c3;simp only[↓aA,aB,rE,↓reduceIte];have s13:Same S1 S3:=s3.same s2 (Ag _);have sS:=s1.trans s13;have g3:S3.h.get S.nx=some (.cells [.int .i64 x.kind,.int .i64 x.player,.int .i64 x.info,a,b,c] false 0):=by rw[s13.2 _ (by omega)];exact g3
 have lt3:S.nx<S3.nx:=by omega
 have lt5:S1.nx<S3.nx:=by omega
 have hx3:dJ S3 [.int .i64 x.kind,.int .i64 x.player,.int .i64 x.info,a,b,c] x:=cT hx sS;have hW3:=hW.same sS;have sl:=aEO (fV .i64 x.kind) (fV .i64 x.player) (fV .i64 x.info) (cD.self hn) (cD.self hw) (cD.self hp);unfold iV;refine aC (aC (bD (Q:=fun o A' X=>o= .normal∧A'.inr=false∧X=S3∧aD 0 A'.F= .ptr wb 0∧aD 3 A'.F= .ptr S.nx 0∧aD 5 A'.F= .ptr S1.nx 0∧aD 14 A'.F= .bool (decide (x.kind<1∨3<x.kind))) (aG ?_) ?_))
 ·by_cases h1:x.kind<1
  ·rw[Ad (show x.kind<1∨3<x.kind from .inl h1)];simp only[↓aA,aB,rE,↓reduceIte,aE,aF,gT g3,Ad h1]
  ·by_cases h2:3<x.kind
   ·rw[Ad (show x.kind<1∨3<x.kind from .inr h2)];simp only[↓aA,aB,rE,↓reduceIte,aE,aF,gT g3,Aa h1,Ad h2]
   ·rw[Aa (show ¬ (x.kind<1∨3<x.kind) by omega)];simp only[↓aA,aB,rE,↓reduceIte,aE,aF,gT g3,Aa h1,Aa h2]
 rintro o ⟨F,inr⟩ X ⟨rfl,q0,hX,p0,p3,p5,pb⟩;simp only at q0 p0 p3 p5 pb;subst q0;rw[hX];try simp only[↓aA,aB,rE,↓reduceIte]
 by_cases bad:x.kind<1∨3<x.kind
 ·rw[if_neg (by omega),if_neg (by omega),if_neg (by omega)];refine aR (by simp only[↓aA,aB,rE,↓reduceIte,pb,Ad bad]) ?_;refine cC ?_;refine ac ?_;refine aU ?_;simp only[↓aA,aB,rE,↓reduceIte];exact sS
 refine aO (by simp only[↓aA,aB,rE,↓reduceIte,pb,Aa bad]) (aM ?_);try simp only[↓aA,aB,rE,↓reduceIte]
 have hld:∀j y,[AV.nilfn,.fn 82 [] [],.fn 83 [] [],.fn 84 [] []][j]? =some y→dB (.ptr S1.nx j) false 1 S3.h=some y:=fun j y hy=>by have:=ldc (j:=j) c3 hy;rw[Ao] at this;exact this
 have n1':fB (.int .i64 1)=some 1:=rfl;have n2':fB (.int .i64 2)=some 2:=rfl;have n3':fB (.int .i64 3)=some 3:=rfl;have i1:eS (.arr 4 1) (.ptr S1.nx 0) 1=some (.ptr S1.nx 1):=rfl;have i2:eS (.arr 4 1) (.ptr S1.nx 0) 2=some (.ptr S1.nx 2):=rfl;have i3:eS (.arr 4 1) (.ptr S1.nx 0) 3=some (.ptr S1.nx 3):=rfl;have l1:=hld 1 _ rfl;have l2:=hld 2 _ rfl;have l3:=hld 3 _ rfl;have f1:cM (.fn 82 [] []) (.fn 82 [] [])=true:=rfl;have f2:cM (.fn 83 [] []) (.fn 83 [] [])=true:=rfl;have f3:cM (.fn 84 [] []) (.fn 84 [] [])=true:=rfl;have g3':=ldN g3;refine aC (dK (fun _=>False) ?_);intro S4 s4;by_cases k1:x.kind=1
 ·rw[if_pos k1];rw[k1] at g3 g3' sl hx3;simp only[↓sU,sD,rE,↓reduceIte,rA,p0,p3,p5,aE,aW,aF,gT g3,n1',i1,l1,f1,g3',sl,lt3,lt5,Ay];refine cP rfl ?_;refine am ?_;refine aP (aGD H (by have:=cT hx (sS.trans s4);rw[k1] at this;exact this)) ?_;rintro _ Y ⟨rfl,hY⟩;refine⟨hY,?_⟩;try simp only[↓sU,sD,rE,↓reduceIte,rA]
  refine aU ?_;simp only[↓sU,sD,rE,↓reduceIte,rA];exact sS.trans (s4.trans hY)
 by_cases k2:x.kind=2
 ·rw[if_neg k1,if_pos k2];rw[k2] at g3 g3' sl;simp only[↓sU,sD,rE,↓reduceIte,rA,p0,p3,p5,aE,aW,aF,gT g3,n2',i2,l2,f2,g3',sl,lt3,lt5,Ay];refine cP rfl ?_;refine am ?_;refine aP (aKL H (by have:=cT hx (sS.trans s4);rw[k2] at this;exact this) (hW3.same s4) hps hi hni hsi) ?_;rintro _ Y ⟨rfl,hY⟩;refine⟨hY,?_⟩;try simp only[↓sU,sD,rE,↓reduceIte,rA]
  refine aU ?_;simp only[↓sU,sD,rE,↓reduceIte,rA];exact sS.trans (s4.trans hY)
 have k3:x.kind=3:=by omega
 rw[if_neg k1,if_neg k2,if_pos k3];rw[k3] at g3 g3' sl;simp only[↓sU,sD,rE,↓reduceIte,rA,p0,p3,p5,aE,aW,aF,gT g3,n3',i3,l3,f3,g3',sl,lt3,lt5,Ay];refine cP rfl ?_;refine am ?_;refine aP (aMk H (by have:=cT hx (sS.trans s4);rw[k3] at this;exact this) (hW3.same s4) hps) ?_;rintro _ Y ⟨rfl,hY⟩;refine⟨hY,?_⟩;try simp only[↓sU,sD,rE,↓reduceIte,rA]
 refine aU ?_;simp only[↓sU,sD,rE,↓reduceIte,rA];exact sS.trans (s4.trans hY)
end
abbrev dH:=Int×Int×Int
def iE(rec:Nat→Option (List dH)):List Int→Nat→Option (List dH)
 | [],_=>some []
 | c::l,r=>if c=(r:Int) then(rec r).bind fun L1=>(iE rec l (r+L1.length)).map (L1++ ·) else none
def iQ(N:Nat)(nx:Nat→List Int):Nat→Nat→Int→Int→Option (List dH)
 | 0,_,_,_=>none
 | f+1,at_,p,d=>if at_<N then(iE (fun r=>iQ N nx f r at_ (d+1)) (nx at_) (at_+1)).map fun L=>(p,d,((at_+L.length:Nat):Int))::L else none
def aCd(m:Int)(L:List dH):Int:=L.foldl (fun m t=>mx m t.2.1) m
theorem aEJ(m:Int)(t:dH)(L:List dH):aCd m (t::L)=aCd (mx m t.2.1) L:=rfl
def iU(g:bH)(i:Nat):List Int:=((g.nodes[i]?).map (·.next)).getD []
theorem aCX{g:bH}{i:Nat}{x:bU}(h:g.nodes[i]? =some x):iU g i=x.next:=by unfold iU;rw[h];rfl
theorem aEi{rec:Nat→Option (List dH)}{N:Nat}(hr:∀r L,rec r=some L→r+L.length≤N∧0<L.length):∀ {l:List Int} {r:Nat} {L:List dH},r≤N→iE rec l r=some L→r+L.length≤N
 | [],r,L,h,hk=>by simp only[iE,Al] at hk;subst hk;simpa using h
 | c::l,r,L,h,hk=>by
  simp only[iE] at hk;split at hk
  ·obtain⟨L1,h1,h2⟩:=Dl.1 hk;obtain⟨L2,h3,rfl⟩:=Au.1 h2;have:=aEi hr (hr r L1 h1).1 h3;rw[Ai];omega
  ·cases hk
theorem xE{N:Nat}{nx:Nat→List Int}:∀ {f at_:Nat} {p d:Int} {L:List dH},iQ N nx f at_ p d=some L→at_+L.length≤N∧0<L.length
 | 0,at_,p,d,L,h=>by cases h
 | f+1,at_,p,d,L,h=>by
  simp only[iQ] at h;split at h
  ·rename_i hlt;obtain⟨L',h1,rfl⟩:=Au.1 h;have:=aEi (N:=N) (fun r L hr=>xE hr) (show at_+1≤N by omega) h1;rw[Am];omega
  ·cases h
theorem bB.tail{k:Nat}{α:Type}{E:St→List AV→α→Prop}{S:St}{v:AV}{a:α}{l:List α}(h:bB k E S v (a::l)):∃v',(∀ (F:Fr) (x:cK),fB (x.val F)=some 1→qX (.slice k) v (some x) none none F=some v')∧bB k E S v' l:=by
 rcases h with⟨h0,_⟩ | ⟨b,off,cap,o,cs,rfl,hc,hb,hcs,hel⟩
 ·cases h0
 ·rw[Am] at hc;have e1:Nat.ble cap cap=true:=Aj (Ag _);have e2:Nat.ble (l.length+1) cap=true:=Aj hc;have e3:Nat.ble 1 (l.length+1)=true:=Aj (by omega);by_cases h1:cap=1
  ·have hl:l= []:=Cf.1 (by omega);subst hl;subst h1;have e4:Nat.beq 1 1=true:=rfl;refine⟨bN o .emp (.sl b off 0 0 false),fun F x hx=>?_,?_⟩
   ·simp only[qX,aIg,jS,iR,aK,hx,Am,Bo];cases o<;>rfl
   ·cases o with
    | true=>exact .inl ⟨rfl,.inr rfl⟩
    | false=>exact .inr ⟨b,off,0,false,cs,rfl,Ag _,hb,hcs,fun i a hi=>by simp at hi⟩
  ·have e4:Nat.beq cap 1=false:=by rw[Bv];intro h;rw[Bb] at h;omega
   refine⟨.sl b (off+1 * k) (l.length+1 - 1) (cap - 1) o,fun F x hx=>?_,.inr ⟨b,off+1 * k,cap - 1,o,cs,by simp,by omega,hb,hcs,fun i a' hi=>?_⟩⟩
   ·simp only[qX,aIg,jS,iR,aK,hx,Am,e1,e2,e3,aL,e4,aQ,Option.isNone_none];cases o<;>rfl
   ·obtain⟨e,h1,h2,h3⟩:=hel (i+1) a' (by simpa using hi);refine⟨e,h1,fun j x hj=>?_,h3⟩;have:=h2 j x hj;rw[show off+1 * k+i * k+j=off+(i+1) * k+j by rw[Dx];omega];exact this
theorem aFL(a b:Int):kR true [.int .i64 a,.int .i64 b]=some (.int .i64 (mx a b)):=by rw[aOU,aPg,aPL]
def bG(l:List Int):List AV:=l.map (AV.int .i64)
theorem aDv(l:List Int):(bG l).length=l.length:=by simp [bG]
theorem sI{S S':St}(h:Same S S'){b p n:Nat}{agg:Bool}(hb:b<S.nx):dB (.ptr b p) agg n S'.h=dB (.ptr b p) agg n S.h:=by
 have e:=uL h hb;simp only[dB,oJ,vG,lP,e]
theorem aCg{S:St}{b p:Nat}{w:Int}{l:List Int}{o:Bool}{sz:Nat}(h:S.h.get b=some (.cells (bG l) o sz))(hp:p<l.length):lI (.ptr b p) 1 [.int .i64 w] S=some (.undef,⟨S.h.set b (some (.cells (bG (l.set p w)) o sz)),S.nx⟩):=by
 have hput:put (bG l) p [AV.int .i64 w]=some (bG (l.set p w)):=by
  rw[put_eq,if_pos (by rw[aDv];simp;omega)];congr 1;unfold bG;rw[List.map_set,List.set_eq_take_append_cons_drop,if_pos (by simp;omega)];simp
 simp only[lI,qH,h,aK,zG,hput];rfl
theorem mG{S:St}{b N sz:Nat}{l:List Int}{o:Bool}(h:S.h.get b=some (.cells (bG l) o sz))(hb:b<S.nx)(hl:l.length=N):cD .i64 S (.sl b 0 N N false) l:=by
 subst hl;refine .inr ⟨b,0,l.length,false,bG l,rfl,Ag _,hb,by unfold cL;rw[h];rfl,fun i x hi=>?_⟩;rw[Ao];unfold bG;rw[Be,hi];rfl
theorem iN{b N i:Nat}{o:Bool}(hi:i<N):eS (.slice 1) (.sl b 0 N N o) i=some (.ptr b i):=ia8 hi
theorem aA3{W:Nat→Prop}{h0:T AB}{base m i:Nat}{l:List AO}{F:Fr}{S:St}{last:Option Nat}{Q:Fr→St→List iM→Prop}{x v:cK}{b p sz:Nat}{w:Int}{P:List Int}{o:Bool}(h:mC last m=true)(hx:x.val F= .ptr b p)(hv:v.val F= .int .i64 w)(hb:S.h.get b=some (.cells (bG P) o sz))(hp:p<P.length)(hW:W b)
  (hr:∀S1,bJ b S S1→S1.nx=S.nx→S1.h.get b=some (.cells (bG (P.set p w)) o sz)→gG fns W h0 base l (i+1) F S1 [] (some i) Q):gG fns W h0 base (⟨none,.x (.st 1 x v),none,m⟩::l) i F S [] last Q:=by
 have hS:bJ b S ⟨S.h.set b (some (.cells (bG (P.set p w)) o sz)),S.nx⟩:=(bJ.refl b S).put _;refine aAc (S1:=⟨S.h.set b (some (.cells (bG (P.set p w)) o sz)),S.nx⟩) h ?_ ⟨Ag _,fun c hc hw=>?_⟩ (hr _ hS rfl ?_)
 ·rw[hv,cQ,aK,hx];exact aCg (S:=S) hb hp
 ·simp only;rw[T.get_set,if_neg (show ¬c=b from fun e=>hw (by rw[e];exact hW))];rfl
 ·simp only;rw[T.get_set,if_pos rfl]
def vK(T:List dH)(a j:Nat):Option dH:=if a≤j then T[j - a]? else none
def iG(sel:dH→Int)(P P':List Int)(T:List dH)(a:Nat):Prop:=P'.length=P.length∧∀j,P'.getD j 0=((vK T a j).map sel).getD (P.getD j 0)
theorem iG.nil(sel:dH→Int)(P:List Int)(a:Nat):iG sel P P [] a:=⟨rfl,fun j=>by unfold vK;split<;>simp⟩
theorem aNu{T:List dH}{a j:Nat}{t:dH}(h:vK T a j=some t):a≤j∧j<a+T.length:=by
 unfold vK at h;split at h
 ·have:=(Af.1 h).1;omega
 ·cases h
theorem aJU{T:List dH}{a j:Nat}(h:j<a∨a+T.length≤j):vK T a j=none:=by
 unfold vK;split
 ·exact Bn (by omega)
 ·rfl
theorem aBZ(T T':List dH)(a j:Nat):vK (T++T') a j=(vK T a j).or (vK T' (a+T.length) j):=by
 unfold vK;by_cases h:a≤j
 ·rw[if_pos h,if_pos h,Ec];by_cases h1:j - a<T.length
  ·rw[if_pos h1,if_neg (by omega),Ab h1];rfl
  ·rw[if_neg h1,if_pos (by omega),Bn (l:=T) (i:=j - a) (by omega),show j - a - T.length=j - (a+T.length) by omega];rfl
 ·rw[if_neg h,if_neg h,if_neg (by omega)];rfl
theorem iG.append{sel:dH→Int}{P P1 P2:List Int}{T T':List dH}{a:Nat}(h1:iG sel P P1 T a)(h2:iG sel P1 P2 T' (a+T.length)):iG sel P P2 (T++T') a:=by
 refine⟨h2.1.trans h1.1,fun j=>?_⟩;rw[h2.2,h1.2,aBZ];cases hc:vK T a j with
 | none=>rfl
 | some t=>
  have:=aNu hc;rw[aJU (by omega)];rfl
theorem fH{P:List Int}{i j:Nat}{v:Int}(hi:i<P.length):(P.set i v).getD j 0=if j=i then v else P.getD j 0:=by
 rw[Ae,Ef];by_cases h:i=j
 ·subst h;rw[if_pos rfl,if_pos rfl,if_pos hi];rfl
 ·rw[if_neg h,if_neg (Da h),Ae]
theorem aHn(t:dH)(a j:Nat):vK [t] a j=if j=a then some t else none:=by
 unfold vK;by_cases h:j=a
 ·subst h;simp
 ·rw[if_neg h];split
  ·exact Bn (by simp;omega)
  ·rfl
theorem iG.one{sel:dH→Int}{P:List Int}{t:dH}{a:Nat}{v:Int}(ha:a<P.length)(hv:sel t=v):iG sel P (P.set a v) [t] a:=by
 refine⟨Bm ..,fun j=>?_⟩;rw[fH ha,aHn];by_cases h:j=a
 ·rw[if_pos h,if_pos h,←hv];rfl
 ·rw[if_neg h,if_neg h];rfl
theorem iG.late{sel:dH→Int}{P P1:List Int}{t:dH}{L:List dH}{a:Nat}{v:Int}(h:iG sel P P1 L (a+1))(ha:a<P.length)(hv:sel t=v):iG sel P (P1.set a v) (t::L) a:=by
 refine⟨by rw[Bm];exact h.1,fun j=>?_⟩;rw[fH (by rw[h.1];exact ha),h.2];have e:vK (t::L) a j=(vK [t] a j).or (vK L (a+1) j):=aBZ [t] L a j;rw[e,aHn];by_cases hj:j=a
 ·rw[if_pos hj,if_pos hj,←hv];rfl
 ·rw[if_neg hj,if_neg hj];rfl
structure WK(S:St)(wb pb db lb N:Nat)(ps:Int)(nv iv:AV)(P D L:List Int):Prop where
 w:aAg S wb ps nv iv (.sl pb 0 N N false) (.sl db 0 N N false) (.sl lb 0 N N false)
 gp:S.h.get pb=some (.cells (bG P) false 0)
 gd:S.h.get db=some (.cells (bG D) false 0)
 gl:S.h.get lb=some (.cells (bG L) false 0)
 lp:P.length=N
 ld:D.length=N
 ll:L.length=N
 bp:pb<S.nx
 bd:db<S.nx
 bl:lb<S.nx
def yY(pb db lb:Nat)(S S':St):Prop:=S.nx≤S'.nx∧∀c,c<S.nx→c≠pb→c≠db→c≠lb→S'.h.get c=S.h.get c
theorem yY.refl(pb db lb:Nat)(S:St):yY pb db lb S S:=⟨Ag _,fun _ _ _ _ _=>rfl⟩
theorem yY.trans{pb db lb:Nat}{S S' S'':St}(h:yY pb db lb S S')(h':yY pb db lb S' S''):yY pb db lb S S'':=⟨Ap h.1 h'.1,fun c hc h1 h2 h3=>(h'.2 c (Ah hc h.1) h1 h2 h3).trans (h.2 c hc h1 h2 h3)⟩
theorem yY.same{pb db lb:Nat}{S0 S S':St}(h0:Same S0 S)(h:yY pb db lb S S')(h1:S0.nx≤pb)(h2:S0.nx≤db)(h3:S0.nx≤lb):Same S0 S':=⟨Ap h0.1 h.1,fun c hc=>(h.2 c (Ah hc h0.1) (by omega) (by omega) (by omega)).trans (h0.2 c hc)⟩
def aQp(S0 S:St)(wb pb db lb:Nat)(ps:Int)(nv iv:AV)(g:bH)(P D L:List Int)(at_:Nat)(o:Option (List dH))(r:AV)(S':St):Prop:=
 yY pb db lb S S'∧∃P' D' L',WK S' wb pb db lb g.nodes.length ps nv iv P' D' L'∧match o with
 | some T=>(∃v,r= .tup [v,.bool true]∧bB 6 dJ S0 v (g.nodes.drop (at_+T.length)))∧iG (·.1) P P' T at_∧iG (·.2.1) D D' T at_∧iG (·.2.2) L L' T at_
 | none=>r= .tup [.nilsl,.bool false]
def aQY(S0 S2:St)(wb pb db lb:Nat)(ps:Int)(nv iv a:AV)(g:bH)(P D L:List Int)(at_:Nat)(d:Int)(rec:Nat→Option (List dH))(ks:List Int)(k:Nat)(A:bQ)(X:St):Prop:=
 A.inr=false∧yY pb db lb S2 X∧∃ (j:Nat) (T:List dH) (P' D' L':List Int) (v:AV),j+k=ks.length∧at_+1+T.length≤g.nodes.length∧iE rec ks (at_+1)=(iE rec (ks.drop j) (at_+1+T.length)).map (T++ ·)∧
  WK X wb pb db lb g.nodes.length ps nv iv P' D' L'∧iG (·.1) P P' T (at_+1)∧iG (·.2.1) D D' T (at_+1)∧iG (·.2.2) L L' T (at_+1)∧bB 6 dJ S0 v (g.nodes.drop (at_+1+T.length))∧
  aD 0 A.F= .ptr wb 0∧aD 2 A.F= .int .i64 d∧aD 10 A.F= .int .i64 (at_:Int)∧aD 11 A.F=v∧aD 46 A.F=a∧aD 47 A.F= .int .i64 ((ks.length:Nat):Int)∧aD 48 A.F= .int .i64 (j:Int)
theorem aK3{S0:St}{nv iv:AV}{g:bH}{wb pb db lb:Nat}{ps:Int}(H:Has fns)(hG:bB 6 dJ S0 nv g.nodes)(hwb:S0.nx≤wb)(hpb:S0.nx≤pb)(hdb:S0.nx≤db)(hlb:S0.nx≤lb)(ne1:pb≠db)(ne2:pb≠lb)(ne3:db≠lb)(ne4:wb≠pb)(ne5:wb≠db)(ne6:wb≠lb)(hN:g.nodes.length≤2000)(hlen:∀x∈g.nodes,x.next.length≤1000):
  ∀ (f:Nat) {S:St} {at_:Nat} {p d:Int} {rv:AV} {P D L:List Int},g.nodes.length+1 - at_≤f→0≤d→d≤at_→at_≤g.nodes.length→Same S0 S→WK S wb pb db lb g.nodes.length ps nv iv P D L→bB 6 dJ S0 rv (g.nodes.drop at_)→
  fR fns (.fn 64 [] []) [.ptr wb 0,.int .i64 p,.int .i64 d,rv] S fun r S'=>aQp S0 S wb pb db lb ps nv iv g P D L at_ (iQ g.nodes.length (iU g) f at_ p d) r S':=by
 intro f
 induction f with
 | zero=>intro S at_ p d rv P D L hf hd0 hd hat;omega
 | succ f ih=>
  intro S at_ p d rv P D L hf hd0 hd hat hS hK hrv;have hrl:=hrv.len;rw[Cq] at hrl;refine cE H.f64 (by simp) ?_;refine am ?_;refine cC ?_;refine am ?_;refine iP ?_;simp only[↓sU,sD,rE,↓reduceIte,rA,hrl];by_cases hlt:at_<g.nodes.length;rotate_left
  ·refine aR (by simp only[↓sU,sD,rE,↓reduceIte,rA,Ad (show((g.nodes.length - at_:Nat):Int)=0 by omega)]) ?_;refine cC ?_;refine am ?_;refine aU ?_;simp only[↓sU,sD,rE,↓reduceIte,rA];simp only[iQ,if_neg hlt];exact⟨yY.refl _ _ _ _,P,D,L,hK,rfl⟩
  refine aO (by simp only[↓sU,sD,rE,↓reduceIte,rA,Aa (show ¬ ((g.nodes.length - at_:Nat):Int)=0 by omega)]) (aM ?_);try simp only[↓sU,sD,rE,↓reduceIte,rA]
  obtain⟨x,hx⟩:∃x,g.nodes[at_]? =some x:=⟨_,Ab hlt⟩;have hnx:=aCX hx;have hxl:=hlen x (Aq hx);have hnl:=hG.len;have hdrop:g.nodes.drop at_=x::g.nodes.drop (at_+1):=by
   rw[Di hlt];congr 1;rw[Ab hlt] at hx;exact Cl hx
  rw[hdrop] at hrv;have w1:IntKind.i64.wrap (((g.nodes.length:Nat):Int) - ((g.nodes.length - at_:Nat):Int))=(at_:Int):=by rw[wrap_i64 (by omega) (by omega)];omega
  refine cC ?_;simp only[↓sU,sD,rE,↓reduceIte,rA,bE,bF,aE,aF,gM hK.w.1,hnl,hrl,w1];have wlt:=hK.w.2;have hwn:¬ (wb=pb∨wb=db):=by omega
  refine aC (dK (fun b=>b=pb∨b=db) ?_);intro S1 s1;have hia1:=iN (b:=pb) (o:=false) hlt;have hia2:=iN (b:=db) (o:=false) hlt;simp only[↓sU,sD,rE,↓reduceIte,rA,bE,bO,bF,aE,aW,aF,gE hK.w.1,iD hK.w.1,wlt,hwn,Ay,hia1,hia2];have l1:=s1.1;have bp:=hK.bp;have bd:=hK.bd;have bl:=hK.bl;refine aA3 (p:=at_) (w:=p) rfl (aq) (aq) (by rw[s1.2 _ hK.bp];exact hK.gp) (by rw[hK.lp];exact hlt) (.inl rfl) ?_;intro S2 s2 n2 c2;simp only[↓sU,sD,rE,↓reduceIte,rA,hia2];refine aA3 (p:=at_) (w:=d) (show Nat.testBit 32767 13=true by decide) (aq) (aq) (by rw[s2.2 _ (by omega) (Da ne1),s1.2 _ hK.bd];exact hK.gd) (by rw[hK.ld];exact hlt) (.inr rfl) ?_;intro S3 s3 n3 c3;simp only[↓sU,sD,rE,↓reduceIte,rA];have b3:yY pb db lb S S3:=⟨by omega,fun c hc h1 h2 h3=>by rw[s3.2 _ (by omega) h2,s2.2 _ (by omega) h1,s1.2 _ hc]⟩;have hS3:Same S0 S3:=b3.same hS hpb hdb hlb;have hK3:WK S3 wb pb db lb g.nodes.length ps nv iv (P.set at_ p) (D.set at_ d) L:=⟨⟨by rw[b3.2 _ wlt ne4 ne5 ne6];exact hK.w.1,Ah wlt b3.1⟩,by rw[s3.2 _ (by omega) ne1];exact c2,c3,by rw[s3.2 _ (by omega) (Da ne3),s2.2 _ (by omega) (Da ne2),s1.2 _ hK.bl];exact hK.gl,by rw[Bm];exact hK.lp,by rw[Bm];exact hK.ld,hK.ll,by omega,by omega,by omega⟩;obtain⟨rv',hslc,hrv'⟩:=bB.tail hrv;have hsl1:∀F:Fr,qX (.slice 6) rv (some (.c (.int .i64 1))) none none F=some rv':=fun F=>hslc F _ rfl;refine cC ?_;simp only[↓sU,sD,rE,↓reduceIte,rA,hsl1];obtain⟨e,b,q,hia,hb,he,⟨a,bb,cc,rfl,ha,_,_⟩,_,hlf⟩:=bB.at hrv (by decide) (i:=0) rfl;have hl3:=hlf 3 a rfl;rw[←sI hS3 hb] at hl3;refine iP ?_;simp only[↓sU,sD,rE,↓reduceIte,rA,aPA,hia,aE,aF,hl3,ha.len,Ak];have hW:iQ g.nodes.length (iU g) (f+1) at_ p d=(iE (fun r=>iQ g.nodes.length (iU g) f r at_ (d+1)) x.next (at_+1)).map fun L=>(p,d,((at_+L.length:Nat):Int))::L:=by
   simp only[iQ,if_pos hlt,hnx]
  rw[hW];refine bD (Q:=fun o A' X=>(o= .normal∧aQY S0 S3 wb pb db lb ps nv iv a g (P.set at_ p) (D.set at_ d) L at_ d (fun r=>iQ g.nodes.length (iU g) f r at_ (d+1)) x.next 0 A' X)∨(o= .ret∧yY pb db lb S3 X∧iE (fun r=>iQ g.nodes.length (iU g) f r at_ (d+1)) x.next (at_+1)=none∧aD 8 A'.F= .nilsl∧aD 9 A'.F= .bool false∧∃P' D' L',WK X wb pb db lb g.nodes.length ps nv iv P' D' L')) (aN (bT (aQY S0 S3 wb pb db lb ps nv iv a g (P.set at_ p) (D.set at_ d) L at_ d (fun r=>iQ g.nodes.length (iU g) f r at_ (d+1)) x.next) ?_ x.next.length _ _ ⟨rfl,yY.refl _ _ _ _,0,[],P.set at_ p,D.set at_ d,L,rv',by omega,by rw[Bo];omega,by simp,hK3,iG.nil _ _ _,iG.nil _ _ _,iG.nil _ _ _,hrv',by refine⟨?_,?_,?_,?_,?_,?_,?_⟩<;>simp only[↓sU,sD,rE,↓reduceIte,rA]⟩)) ?_
  ·rintro k ⟨F,inr⟩ X ⟨q0,hX,j,T,P',D',L',v,hjk,hTN,hkid,hKX,rP,rD,rL,hv,p0,p2,p10,p11,p46,p47,p48⟩;simp only at q0 p0 p2 p10 p11 p46 p47 p48;subst q0;have hSX:Same S0 X:=hX.same hS3 hpb hdb hlb;have haX:=ha.same hSX;have hvl:=hv.len;rw[Cq] at hvl;refine cC ?_;simp only[↓sU,sD,rE,↓reduceIte,rA,p47,p48];by_cases hj:j<x.next.length
   ·refine aC (aR (by simp only[↓sU,sD,rE,↓reduceIte,rA,Ad (show(j:Int)<((x.next.length:Nat):Int) by omega)]) (aM ?_));simp only[↓sU,sD,rE,↓reduceIte,rA];have hias:=haX.iaddr hj;have hlds:=haX.ld hj;have hdr:x.next.drop j=x.next[j]::x.next.drop (j+1):=Di hj;have hgd:x.next.getD j 0=x.next[j]:=by rw[Ae,Ab hj];rfl
    rw[hgd] at hlds;rw[hdr] at hkid;generalize x.next[j]=c at *;have w2:IntKind.i64.wrap (((g.nodes.length:Nat):Int) - ((g.nodes.length - (at_+1+T.length):Nat):Int))=((at_+1+T.length:Nat):Int):=by rw[wrap_i64 (by omega) (by omega)];omega
    have w3:IntKind.i64.wrap (d+1)=d+1:=wrap_i64 (by omega) (by omega);have w4:IntKind.i64.wrap ((j:Int)+1)=((j+1:Nat):Int):=by rw[wrap_i64 (by omega) (by omega)];omega
    refine aC (aN (aC (aG ?_)));simp only[↓sU,sD,rE,↓reduceIte,rA,p46,p48,aH,hias,hlds];refine iP ?_;simp only[↓sU,sD,rE,↓reduceIte,rA,p0,p11,bE,bF,aE,aF,gM hKX.w.1,hnl,hvl,w2];by_cases hc:c=((at_+1+T.length:Nat):Int);rotate_left
    ·refine aR (by simp only[↓sU,sD,rE,↓reduceIte,rA,Ad (show c≠((at_+1+T.length:Nat):Int) from hc)]) ?_;refine cC ?_;refine am ?_;refine aU ?_;refine am ?_;refine .inr ⟨hX,?_,P',D',L',hKX⟩;rw[hkid];simp only[iE,if_neg hc];rfl
    refine aO (by simp only[↓sU,sD,rE,↓reduceIte,rA,Aa (show ¬c≠((at_+1+T.length:Nat):Int) from fun h=>h hc)]) (aM ?_);try simp only[↓sU,sD,rE,↓reduceIte,rA]
    simp only[iE,if_pos hc] at hkid;refine cC ?_;simp only[↓sU,sD,rE,↓reduceIte,rA,p0,p2,p10,p11,w3];refine aY ?_;refine am ?_;refine aP (ih (S:=X) (at_:=at_+1+T.length) (p:=at_) (d:=d+1) (by omega) (by omega) (by omega) hTN hSX hKX hv) ?_;rintro r Y ⟨hY,P2,D2,L2,hKY,hres⟩;cases hw:iQ g.nodes.length (iU g) f (at_+1+T.length) at_ (d+1) with
    | none=>
     rw[hw] at hres hkid;subst hres;simp only[↓sU,sD,rE,↓reduceIte,rA,ex0,ex1];refine cC ?_;simp only[↓sU,sD,rE,↓reduceIte,rA,fQ,Bx];refine aR (aq) ?_;refine cC ?_;refine am ?_;refine aU ?_;refine am ?_;refine .inr ⟨hX.trans hY,?_,P2,D2,L2,hKY⟩;rw[hkid];rfl
    | some T1=>
     rw[hw] at hres hkid;obtain⟨⟨v2,rfl,hv2⟩,k1,k2,k3⟩:=hres;simp only[Option.bind_some,Option.map_map] at hkid;have hwl:=(xE hw).1;simp only[↓sU,sD,rE,↓reduceIte,rA,ex0,ex1];refine cC ?_;simp only[↓sU,sD,rE,↓reduceIte,rA,fQ,Bp];refine aO (aq) (aM ?_);try simp only[↓sU,sD,rE,↓reduceIte,rA]
     refine aG ?_;simp only[↓sU,sD,rE,↓reduceIte,rA,p48,w4];refine⟨k - 1,by omega,rfl,hX.trans hY,j+1,T++T1,P2,D2,L2,v2,by omega,by rw[Ai];omega,?_,hKY,rP.append k1,rD.append k2,rL.append k3,by rw[Ai,←Cv];exact hv2,by refine⟨?_,?_,?_,?_,?_,?_,?_⟩<;>simp only[↓sU,sD,rE,↓reduceIte,rA,p0,p2,p10,p46,p47]⟩;rw[hkid,Ai,←Cv];congr 1;funext M;simp
   ·refine aC (aO (by simp only[↓sU,sD,rE,↓reduceIte,rA,Aa (show ¬ (j:Int)<((x.next.length:Nat):Int) by omega)]) (bK ?_));simp only[↓sU,sD,rE,↓reduceIte,rA];have hk0:k=0:=by omega
    subst hk0;exact .inl ⟨rfl,hX,j,T,P',D',L',v,hjk,hTN,hkid,hKX,rP,rD,rL,hv,by refine⟨?_,?_,?_,?_,?_,?_,?_⟩<;>simp only[↓sU,sD,rE,↓reduceIte,rA,p0,p2,p10,p11,p46,p47,p48]⟩
  rintro o ⟨F,inr⟩ X (⟨rfl,q0,hX,j,T,P',D',L',v,hjk,hTN,hkid,hKX,rP,rD,rL,hv,p0,p2,p10,p11,p46,p47,p48⟩ | ⟨rfl,hX,hno,p8,p9,P',D',L',hKX⟩);rotate_left
  ·rw[hno];simp only at p8 p9;simp only[↓sU,sD,rE,↓reduceIte,rA,p8,p9];exact⟨b3.trans hX,P',D',L',hKX,rfl⟩
  simp only at q0 p0 p10 p11;subst q0;rw[Ez (by omega)] at hkid;simp only[iE,Fu,Bz] at hkid;rw[hkid];have hvl:=hv.len;rw[Cq] at hvl;have w2:IntKind.i64.wrap (((g.nodes.length:Nat):Int) - ((g.nodes.length - (at_+1+T.length):Nat):Int))=((at_+1+T.length:Nat):Int):=by rw[wrap_i64 (by omega) (by omega)];omega
  have w5:IntKind.i64.wrap (((at_+1+T.length:Nat):Int) - 1)=((at_+T.length:Nat):Int):=by rw[wrap_i64 (by omega) (by omega)];omega
  have wltX:=hKX.w.2;have hia3:=iN (b:=lb) (o:=false) hlt;try simp only[↓sU,sD,rE,↓reduceIte,rA]
  refine aC (dK (fun b=>b=lb) ?_);intro S4 s4;simp only[↓sU,sD,rE,↓reduceIte,rA,p0,p10,p11,bE,bO,bF,aE,aW,aF,gM hKX.w.1,jJ hKX.w.1,hnl,hvl,w2,w5,wltX,ne6,Ay,hia3,bB.self hG];have l4:=s4.1;have bpX:=hKX.bp;have bdX:=hKX.bd;have blX:=hKX.bl;refine aA3 (p:=at_) (w:=((at_+T.length:Nat):Int)) rfl (aq) (aq) (by rw[s4.2 _ hKX.bl];exact hKX.gl) (by rw[hKX.ll];exact hlt) rfl ?_;intro S5 s5 n5 c5;simp only[↓sU,sD,rE,↓reduceIte,rA];have b5:yY pb db lb X S5:=⟨by omega,fun c hc h1 h2 h3=>by rw[s5.2 _ (by omega) h3,s4.2 _ hc]⟩;refine cC ?_;simp only[↓sU,sD,rE,↓reduceIte,rA,p11];refine aU ?_;simp only[↓sU,sD,rE,↓reduceIte,rA];have hatP:at_<P.length:=by rw[hK.lp];exact hlt
  have hatD:at_<D.length:=by rw[hK.ld];exact hlt
  have hatL:at_<L.length:=by rw[hK.ll];exact hlt
  refine⟨b3.trans (hX.trans b5),P',D',L'.set at_ ((at_+T.length:Nat):Int),⟨⟨by rw[b5.2 _ wltX ne4 ne5 ne6];exact hKX.w.1,Ah wltX b5.1⟩,by rw[s5.2 _ (by omega) ne2,s4.2 _ hKX.bp];exact hKX.gp,by rw[s5.2 _ (by omega) ne3,s4.2 _ hKX.bd];exact hKX.gd,c5,hKX.lp,hKX.ld,by rw[Bm];exact hKX.ll,by show _<S5.nx;omega,by show _<S5.nx;omega,by show _<S5.nx;omega⟩,⟨v,rfl,?_⟩,?_,?_,?_⟩
  ·rw[Am,show at_+(T.length+1)=at_+1+T.length by omega];exact hv
  ·exact iG.append (T:=[(p,d,((at_+T.length:Nat):Int))]) (iG.one hatP rfl) rP
  ·exact iG.append (T:=[(p,d,((at_+T.length:Nat):Int))]) (iG.one hatD rfl) rD
  ·exact iG.late rL hatL rfl
end Go.Ev.Gl
