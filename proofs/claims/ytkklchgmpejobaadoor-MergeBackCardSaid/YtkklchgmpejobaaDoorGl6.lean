import Derived.Test.YtkklchgmpejobaaDoorGl5
open Nat renaming reduceEqDiff → rE, reduceAdd → rA
set_option maxHeartbeats 16000000
set_option linter.unusedSimpArgs false
set_option linter.unusedVariables false
namespace Go.Ev.Gl
variable {fns:T dB}
structure bS where
 kind:Int
 player:Int
 info:Int
 next:List Int
 weights:List Int
 pay:List Int
structure lR where
 player:Int
 actions:Int
structure bM where
 players:Int
 nodes:List bS
 infos:List lR
def iS(lo hi:Int)(l:List Int):Prop:=∃w∈l,w<lo∨hi<w
instance anyOutDec(lo hi:Int)(l:List Int):Decidable (iS lo hi l):=by unfold iS;exact inferInstance
def tC(x:bS):Prop:=x.player≠0∨x.info≠0∨(0:Int)<((x.pay.length:Nat):Int)∨((x.next.length:Nat):Int)<1∨(60:Int)<((x.next.length:Nat):Int)∨((x.weights.length:Nat):Int)≠((x.next.length:Nat):Int)
def xM(x:bS):Prop:=(0:Int)<((x.weights.length:Nat):Int)∨(0:Int)<((x.pay.length:Nat):Int)∨((x.next.length:Nat):Int)<1∨(10:Int)<((x.next.length:Nat):Int)
def tI(ps:Int)(x:bS):Prop:=x.player≠0∨x.info≠0∨(0:Int)<((x.next.length:Nat):Int)∨(0:Int)<((x.weights.length:Nat):Int)∨((x.pay.length:Nat):Int)≠ps
instance badCDec(x:bS):Decidable (tC x):=by unfold tC;exact inferInstance
instance badMDec(x:bS):Decidable (xM x):=by unfold xM;exact inferInstance
instance badEDec(ps:Int)(x:bS):Decidable (tI ps x):=by unfold tI;exact inferInstance
def iI(ps:Int)(ni:Nat)(x:bS):Int:=
 if x.kind=1 then(if tC x then 3 else if iS 1 1000 x.weights then 2 else 0)
 else if x.kind=2 then(if xM x then 3 else if x.player<0∨ps - 1<x.player∨x.info<0∨(ni:Int) - 1<x.info then 2 else 0)
 else if x.kind=3 then(if tI ps x then 3 else if iS (-1000000) 1000000 x.pay then 2 else 0)
 else 3
def dD(S:St)(cs:List AV)(x:bS):Prop:=∃a b c,cs= [.int .i64 x.kind,.int .i64 x.player,.int .i64 x.info,a,b,c]∧cE .i64 S a x.next∧cE .i64 S b x.weights∧cE .i64 S c x.pay
theorem cO:aFt dD:=fun⟨a,b,c,h,h1,h2,h3⟩ hs=>⟨a,b,c,h,h1.same hs,h2.same hs,h3.same hs⟩
def dM(_:St)(cs:List AV)(x:lR):Prop:=cs= [.int .i64 x.player,.int .i64 x.actions]
theorem dF:aFt dM:=fun h _=>h
def nN(S:St)(v:AV)(g:bM):Prop:=∃n i,v= .agg [.int .i64 g.players,n,i]∧aY 6 dD S n g.nodes∧aY 2 dM S i g.infos
theorem nN.same{S S':St}{v:AV}{g:bM}(h:nN S v g)(hs:Same S S'):nN S' v g:=by
 obtain⟨n,i,h1,h2,h3⟩:=h;exact⟨n,i,h1,aY.same (E:=dD) cO h2 hs,aY.same (E:=dM) dF h3 hs⟩
theorem ldc{h:T AB}{b j:Nat}{cs:List AV}{x:AV}{o:Bool}{s:Nat}(hb:h.get b=some (.cells cs o s))(hj:cs[j]? =some x):cW (.ptr b (0+j)) false 1 h=some x:=by
 simp only[cW,oC,aR,lA,cM,hb,aJ,mD,mP,Ap,hj]
theorem aIV{h:T AB}{b n:Nat}{cs:List AV}{o:Bool}{s:Nat}(hb:h.get b=some (.cells cs o s))(hn:cs.length=n):cW (.ptr b 0) true n h=some (.agg cs):=by
 subst hn;simp only[cW,oC,aL,uS,cM,hb,aJ,mD];unfold cut;rw[fF,fQ,Co,if_pos (Ag _),Ch];rfl
section
variable {h:T AB}{b:Nat}{x0 x1 x2 x3 x4 x5:AV}{o:Bool}{s:Nat}
theorem iN(hb:h.get b=some (.cells [x0,x1,x2,x3,x4,x5] o s)):cW (.ptr b (0+0)) false 1 h=some x0:=ldc hb rfl
theorem fY(hb:h.get b=some (.cells [x0,x1,x2,x3,x4,x5] o s)):cW (.ptr b (0+1)) false 1 h=some x1:=ldc hb rfl
theorem gR(hb:h.get b=some (.cells [x0,x1,x2,x3,x4,x5] o s)):cW (.ptr b (0+2)) false 1 h=some x2:=ldc hb rfl
theorem iO(hb:h.get b=some (.cells [x0,x1,x2,x3,x4,x5] o s)):cW (.ptr b (0+3)) false 1 h=some x3:=ldc hb rfl
theorem iM(hb:h.get b=some (.cells [x0,x1,x2,x3,x4,x5] o s)):cW (.ptr b (0+4)) false 1 h=some x4:=ldc hb rfl
theorem iY(hb:h.get b=some (.cells [x0,x1,x2,x3,x4,x5] o s)):cW (.ptr b (0+5)) false 1 h=some x5:=ldc hb rfl
theorem ldN(hb:h.get b=some (.cells [x0,x1,x2,x3,x4,x5] o s)):cW (.ptr b 0) true 6 h=some (.agg [x0,x1,x2,x3,x4,x5]):=aIV hb rfl
end
section
variable {k:Nat}{α:Type}{E:St→List AV→α→Prop}{S:St}{v:AV}{l:List α}
theorem aY.at(h:aY k E S v l)(hk:0<k){i:Nat}{a:α}(hi:l[i]? =some a):∃e b p,eQ (.slice k) v i=some (.ptr b p)∧b<S.nx∧e.length=k∧E S e a∧cW (.ptr b p) true k S.h=some (.agg e)∧∀j x,e[j]? =some x→cW (.ptr b (p+j)) false 1 S.h=some x:=by
 obtain⟨e,b,p,h1,h2,h3,h4,cs,h5,h6⟩:=h.get hi;have hlt:=(Ae.1 hi).1;refine⟨e,b,p,by rw[←h1];exact h.iaddr hlt,h2,h3,h4,?_,fun j x hj=>?_⟩
 ·simp only[cW,oC,aL,uS,h5,aJ];have hcut:cut cs p k=some e:=by
   have hle:p+k≤cs.length:=by
    have:=h6 (k - 1) (e[k - 1]'(by omega)) (Ad (by omega));have:=(Ae.1 this).1;omega
   unfold cut;rw[fF,fQ,if_pos (by rw[Cy];omega)];congr 1;refine Eg (by rw[Bz,Cy];omega) fun j j1 j2=>?_;have:=h6 j e[j] (Ad j2);rw[List.getElem_take,List.getElem_drop];exact(Ae.1 this).2
  rw[hcut,aJ]
 ·simp only[cW,oC,aR,lA,h5,aJ,mP];exact h6 j x hj
end
theorem aGX{lo hi:Int}{l:List Int}{i:Nat}(hi':i<l.length)(h:¬iS lo hi (l.take i))(h2:¬ (l.getD i 0<lo∨hi<l.getD i 0)):¬iS lo hi (l.take (i+1)):=by
 rintro⟨w,hw,ho⟩;rw[Bx,Ad hi'] at hw;rcases Be.1 hw with h1 | h1
 ·exact h ⟨w,h1,ho⟩
 ·simp at h1;rw[Ah,Ad hi'] at h2;subst h1;exact h2 ho
theorem aHy{lo hi:Int}{l:List Int}{i:Nat}(hi':i<l.length)(h2:l.getD i 0<lo∨hi<l.getD i 0):iS lo hi l:=by
 rw[Ah,Ad hi'] at h2;exact⟨l[i],Ci hi',h2⟩
theorem cE.self{k:IntKind}{S:St}{v:AV}{l:List Int}(h:cE k S v l):cL v v=true:=by
 rcases h with⟨_,h | h⟩ | ⟨b,off,cap,o,cs,rfl,_⟩
 ·subst h;rfl
 ·subst h;rfl
 ·exact uD ..
theorem aY.self{k:Nat}{α:Type}{E:St→List AV→α→Prop}{S:St}{v:AV}{l:List α}(h:aY k E S v l):cL v v=true:=by
 rcases h with⟨_,h | h⟩ | ⟨b,off,cap,o,cs,rfl,_⟩
 ·subst h;rfl
 ·subst h;rfl
 ·exact uD ..
theorem aMx{k:IntKind}{S:St}{b:Nat}{z:Int}(hb:b<S.nx)(h:S.h.get b=some (.cells [.int k z] false 0)):cE k S (.sl b 0 1 1 false) [z]:=by
 refine .inr ⟨b,0,1,false,[.int k z],rfl,Ag _,hb,by unfold cM;rw[h];rfl,fun i x hi=>?_⟩;cases i with
 | zero=>simp at hi;subst hi;rfl
 | succ i=>simp at hi
theorem aCj{lo hi z:Int}:iS lo hi [z]↔z<lo∨hi<z:=by
 unfold iS;simp
theorem aA8{x0 x1 x2 x3 x4 x5:AV}(h0:cL x0 x0=true)(h1:cL x1 x1=true)(h2:cL x2 x2=true)(h3:cL x3 x3=true)(h4:cL x4 x4=true)(h5:cL x5 x5=true):cL (.agg [x0,x1,x2,x3,x4,x5]) (.agg [x0,x1,x2,x3,x4,x5])=true:=by
 simp only[cL,oI,h0,h1,h2,h3,h4,h5,aL]
theorem aJV{S:St}{b3 b4:Nat}{lo hi w:Int}(H:Has fns)(g3:S.h.get b3=some (.cells [.int .i64 lo] false 0))(g4:S.h.get b4=some (.cells [.int .i64 hi] false 0)):fP fns (.fn 101 [] [.ptr b3 0,.ptr b4 0]) [.int .i64 w] S fun r S'=>r= .bool (decide (w<lo∨hi<w))∧S'=S:=by
 have l3:cW (.ptr b3 0) false 1 S.h=some (.int .i64 lo):=ldc (j:=0) g3 rfl;have l4:cW (.ptr b4 0) false 1 S.h=some (.int .i64 hi):=ldc (j:=0) g4 rfl;refine cC H.f101 (by simp) ?_;simp only[↓aA,aB,rE,↓reduceIte];refine cD ?_;simp only[↓aA,aB,rE,↓reduceIte];refine cD ?_;by_cases h1:w<lo
 ·rw[Ac (show w<lo∨hi<w from .inl h1)];simp only[↓aA,aB,rE,↓reduceIte,l3,Ac h1];refine aU ?_;simp only[↓aA,aB,rE,↓reduceIte]
 ·by_cases h2:hi<w
  ·rw[Ac (show w<lo∨hi<w from .inr h2)];simp only[↓aA,aB,rE,↓reduceIte,l3,l4,Aa h1,Ac h2];refine aU ?_;simp only[↓aA,aB,rE,↓reduceIte]
  ·rw[Aa (show ¬ (w<lo∨hi<w) by omega)];simp only[↓aA,aB,rE,↓reduceIte,l3,l4,Aa h1,Aa h2];refine aU ?_;simp only[↓aA,aB,rE,↓reduceIte]
def aQZ(S:St)(v f:AV)(lo hi:Int)(l:List Int)(k:Nat)(A:bR)(X:St):Prop:=A.inr=false∧X=S∧∃i,i+k=l.length∧¬iS lo hi (l.take i)∧aD 0 A.F=v∧aD 1 A.F=f∧aD 7 A.F= .int .i64 ((l.length:Nat):Int)∧aD 8 A.F= .int .i64 (i:Int)
theorem aHR{S:St}{b3 b4:Nat}{lo hi:Int}{v:AV}{l:List Int}(H:Has fns)(g3:S.h.get b3=some (.cells [.int .i64 lo] false 0))(g4:S.h.get b4=some (.cells [.int .i64 hi] false 0))(hl:cE .i64 S v l)(hlen:l.length≤1000000):fP fns (.fn 107 [] []) [v,.fn 101 [] [.ptr b3 0,.ptr b4 0]] S fun r S'=>(∃z,r= .int .i64 z∧(0≤z↔iS lo hi l))∧S'=S:=by
 refine cC H.f107 (by simp) ?_;simp only[↓aA,aB,rE,↓reduceIte];refine cD ?_;simp only[↓aA,aB,rE,↓reduceIte];refine jB ?_;simp only[↓aA,aB,rE,↓reduceIte,hl.len,Al];refine aP (cB (aQZ S v (.fn 101 [] [.ptr b3 0,.ptr b4 0]) lo hi l) ?_ l.length _ _ ⟨rfl,rfl,0,by omega,(by rintro⟨w,h,_⟩;simp at h),by refine⟨?_,?_,?_,?_⟩<;>simp only[↓aA,aB,rE,↓reduceIte]⟩);rintro k ⟨F,inr⟩ X ⟨q0,hX,j,hjk,ha,p0,p1,p7,p8⟩;simp only at q0 p0 p1 p7 p8;subst q0;rw[hX];refine cD ?_;simp only[↓aA,aB,rE,↓reduceIte,p7,p8];by_cases hj:j<l.length
 ·refine aC (aT (by simp only[↓aA,aB,rE,↓reduceIte,Ac (show(j:Int)<((l.length:Nat):Int) by omega)]) (aM ?_));simp only[↓aA,aB,rE,↓reduceIte];have hia:=hl.iaddr hj;have hld:=hl.ld hj;have htk:=aGX (lo:=lo) (hi:=hi) hj ha;have hget:=aHy (lo:=lo) (hi:=hi) hj;generalize l.getD j 0=w at *;have w1:IntKind.i64.wrap ((j:Int)+1)=((j+1:Nat):Int):=by rw[wrap_i64 (by omega) (by omega)];omega
  refine aC (aP (aC (aE ?_)));simp only[↓aA,aB,rE,↓reduceIte,p8];refine cD ?_;simp only[↓aA,aB,rE,↓reduceIte,p0,p1,aK,hia,hld];refine bB ?_;simp only[↓aA,aB,rE,↓reduceIte];refine aN (aJV H g3 g4) ?_;rintro _ Y ⟨rfl,hY⟩;rw[hY];try simp only[↓aA,aB,rE,↓reduceIte]
  by_cases ho:w<lo∨hi<w
  ·refine aT (by simp only[↓aA,aB,rE,↓reduceIte,Ac ho]) ?_;refine cD ?_;simp only[↓aA,aB,rE,↓reduceIte];refine aU ?_;simp only[↓aA,aB,rE,↓reduceIte];exact⟨_,rfl,⟨fun _=>hget ho,fun _=>by omega⟩⟩
  ·refine aO (by simp only[↓aA,aB,rE,↓reduceIte,Aa ho]) (aM ?_);try simp only[↓aA,aB,rE,↓reduceIte]
   refine aE ?_;simp only[↓aA,aB,rE,↓reduceIte,p8,w1];exact⟨k - 1,by omega,rfl,rfl,j+1,by omega,htk ho,by refine⟨?_,?_,?_,?_⟩<;>simp only[↓aA,aB,rE,↓reduceIte,p0,p1,p7]⟩
 ·refine aC (aO (by simp only[↓aA,aB,rE,↓reduceIte,Aa (show ¬ (j:Int)<((l.length:Nat):Int) by omega)]) (bN ?_));simp only[↓aA,aB,rE,↓reduceIte];have hno:¬iS lo hi l:=by rw[Bg (by omega)] at ha;exact ha
  refine cD ?_;simp only[↓aA,aB,rE,↓reduceIte];refine aU ?_;simp only[↓aA,aB,rE,↓reduceIte];exact⟨_,rfl,⟨fun h=>absurd h (by decide),fun h=>absurd h hno⟩⟩
theorem aH3{S:St}{b3 b4:Nat}{lo hi:Int}{v:AV}{l:List Int}(H:Has fns)(g3:S.h.get b3=some (.cells [.int .i64 lo] false 0))(g4:S.h.get b4=some (.cells [.int .i64 hi] false 0))(hl:cE .i64 S v l)(hlen:l.length≤1000000):fP fns (.fn 100 [] []) [v,.fn 101 [] [.ptr b3 0,.ptr b4 0]] S fun r S'=>r= .bool (decide (iS lo hi l))∧S'=S:=by
 refine cC H.f100 (by simp) ?_;simp only[↓aA,aB,rE,↓reduceIte];refine cD ?_;simp only[↓aA,aB,rE,↓reduceIte];refine cD ?_;simp only[↓aA,aB,rE,↓reduceIte];refine bB ?_;simp only[↓aA,aB,rE,↓reduceIte];refine aN (aHR H g3 g4 hl hlen) ?_;rintro _ Y ⟨⟨z,rfl,hz⟩,hY⟩;rw[hY];have hd:decide ((0:Int)≤z)=decide (iS lo hi l):=by rw[Cl,Ey,Ey];exact hz
 simp only[↓aA,aB,rE,↓reduceIte,hd];refine aU ?_;simp only[↓aA,aB,rE,↓reduceIte]
theorem qW{S:St}{lo hi:Int}{v:AV}{l:List Int}(H:Has fns)(hl:cE .i64 S v l)(hlen:l.length≤1000000):fP fns (.fn 91 [] []) [.int .i64 lo,.int .i64 hi,v] S fun r S'=>r= .int .i64 (if iS lo hi l then 2 else 0)∧Same S S':=by
 refine cC H.f91 (by simp) ?_;simp only[↓aA,aB,rE,↓reduceIte];refine cD ?_;refine dJ (by simp only[↓aA,aB,rE,↓reduceIte];exact cS _ _) ?_;intro S1 s1 n1 c1;refine dJ (by simp only[↓aA,aB,rE,↓reduceIte];exact cS _ _) ?_;intro S2 s2 n2 c2;simp only[↓aA,aB,rE,↓reduceIte];have sS:=s1.trans s2;refine jB ?_;simp only[↓aA,aB,rE,↓reduceIte,pG];refine bB ?_;simp only[↓aA,aB,rE,↓reduceIte];refine aN (aH3 H (by rw[s2.2 _ (by omega)];exact c1) c2 (hl.same sS) hlen) ?_;rintro _ Y ⟨rfl,hY⟩;rw[hY];try simp only[↓aA,aB,rE,↓reduceIte]
 by_cases ho:iS lo hi l
 ·rw[if_pos ho];refine aT (by simp only[↓aA,aB,rE,↓reduceIte,Ac ho]) ?_;refine cD ?_;simp only[↓aA,aB,rE,↓reduceIte];refine aU ?_;simp only[↓aA,aB,rE,↓reduceIte];exact sS
 ·rw[if_neg ho];refine aO (by simp only[↓aA,aB,rE,↓reduceIte,Aa ho]) (aM ?_);try simp only[↓aA,aB,rE,↓reduceIte]
  refine cD ?_;simp only[↓aA,aB,rE,↓reduceIte];refine aU ?_;simp only[↓aA,aB,rE,↓reduceIte];exact sS
def zZ(S:St)(wb:Nat)(ps:Int)(n i p d l:AV):Prop:=S.h.get wb=some (.cells [.int .i64 ps,n,i,p,d,l] false 0)∧wb<S.nx
theorem zZ.same{S S':St}{wb:Nat}{ps:Int}{n i p d l:AV}(h:zZ S wb ps n i p d l)(hs:Same S S'):zZ S' wb ps n i p d l:=⟨(hs.2 _ h.2).trans h.1,Af h.2 hs.1⟩
section
variable {S:St}{wb:Nat}{ps:Int}{n i p d l:AV}{ni:Nat}{cs:List AV}{x:bS}
theorem aF0(H:Has fns)(hx:dD S cs x):fP fns (.fn 75 [] []) [.ptr wb 0,.agg cs] S fun r S'=>r= .int .i64 (if tC x then 3 else if iS 1 1000 x.weights then 2 else 0)∧Same S S':=by
 obtain⟨a,b,c,rfl,hn,hw,hp⟩:=hx;refine cC H.f75 (by simp) ?_;simp only[↓aA,aB,rE,↓reduceIte];refine cD ?_;refine dJ (by simp only[↓aA,aB,rE,↓reduceIte];exact bK _) ?_;intro S2 s2 n2 g3;simp only[↓aA,aB,rE,↓reduceIte];have hn2:=hn.same s2;have hw2:=hw.same s2;have hp2:=hp.same s2;refine aC (aC (bF (Q:=fun o A' X=>o= .normal∧A'.inr=false∧X=S2∧aD 3 A'.F= .ptr S.nx 0∧aD 39 A'.F= .bool (decide (tC x))) (aE ?_) ?_))
 ·by_cases c0:x.player≠0
  ·rw[Ac (show tC x from .inl c0)];simp only[↓aA,aB,rE,↓reduceIte,aG,aF,fY g3,gR g3,iO g3,iM g3,iY g3,hn2.len,hw2.len,hp2.len,Al,Ac c0]
  by_cases c1:x.info≠0
  ·rw[Ac (show tC x from .inr (.inl c1))];simp only[↓aA,aB,rE,↓reduceIte,aG,aF,fY g3,gR g3,iO g3,iM g3,iY g3,hn2.len,hw2.len,hp2.len,Al,Aa c0,Ac c1]
  by_cases c2:(0:Int)<((x.pay.length:Nat):Int)
  ·rw[Ac (show tC x from .inr (.inr (.inl c2)))];simp only[↓aA,aB,rE,↓reduceIte,aG,aF,fY g3,gR g3,iO g3,iM g3,iY g3,hn2.len,hw2.len,hp2.len,Al,Aa c0,Aa c1,Ac c2]
  by_cases c3:((x.next.length:Nat):Int)<1
  ·rw[Ac (show tC x from .inr (.inr (.inr (.inl c3))))];simp only[↓aA,aB,rE,↓reduceIte,aG,aF,fY g3,gR g3,iO g3,iM g3,iY g3,hn2.len,hw2.len,hp2.len,Al,Aa c0,Aa c1,Aa c2,Ac c3]
  by_cases c4:(60:Int)<((x.next.length:Nat):Int)
  ·rw[Ac (show tC x from .inr (.inr (.inr (.inr (.inl c4)))))];simp only[↓aA,aB,rE,↓reduceIte,aG,aF,fY g3,gR g3,iO g3,iM g3,iY g3,hn2.len,hw2.len,hp2.len,Al,Aa c0,Aa c1,Aa c2,Aa c3,Ac c4]
  by_cases c5:((x.weights.length:Nat):Int)≠((x.next.length:Nat):Int)
  ·rw[Ac (show tC x from .inr (.inr (.inr (.inr (.inr (c5))))))];simp only[↓aA,aB,rE,↓reduceIte,aG,aF,fY g3,gR g3,iO g3,iM g3,iY g3,hn2.len,hw2.len,hp2.len,Al,Aa c0,Aa c1,Aa c2,Aa c3,Aa c4,Ac c5]
  rw[Aa (show ¬tC x by rintro(h0 | h1 | h2 | h3 | h4 | h5)<;>first | exact c0 h0 | exact c1 h1 | exact c2 h2 | exact c3 h3 | exact c4 h4 | exact c5 h5)];simp only[↓aA,aB,rE,↓reduceIte,aG,aF,fY g3,gR g3,iO g3,iM g3,iY g3,hn2.len,hw2.len,hp2.len,Al,Aa c0,Aa c1,Aa c2,Aa c3,Aa c4,Aa c5]
 rintro o ⟨F,inr⟩ X ⟨rfl,q0,hX,p3,pb⟩;simp only at q0 p3 pb;subst q0;rw[hX];have sX:=s2;try simp only[↓aA,aB,rE,↓reduceIte]
 by_cases bad:tC x
 ·rw[if_pos bad];refine aT (by simp only[↓aA,aB,rE,↓reduceIte,pb,Ac bad]) ?_;refine cD ?_;simp only[↓aA,aB,rE,↓reduceIte];refine aU ?_;simp only[↓aA,aB,rE,↓reduceIte];exact sX
 rw[if_neg bad];refine aO (by simp only[↓aA,aB,rE,↓reduceIte,pb,Aa bad]) (aM ?_);try simp only[↓aA,aB,rE,↓reduceIte]
 have hlen:x.weights.length≤60:=by unfold tC at bad;omega
 refine cD ?_;simp only[↓aA,aB,rE,↓reduceIte,p3,aG,aF,iM g3];refine bB ?_;simp only[↓aA,aB,rE,↓reduceIte];refine aN (qW H hw2 (by omega)) ?_;rintro _ Y ⟨rfl,hY⟩;try simp only[↓aA,aB,rE,↓reduceIte]
 refine aU ?_;simp only[↓aA,aB,rE,↓reduceIte];exact s2.trans hY
theorem aJa(H:Has fns)(hx:dD S cs x)(hW:zZ S wb ps n i p d l)(hps:1≤ps∧ps≤4)(hi:kS i=some (.int .i64 ((ni:Nat):Int)))(hni:ni≤1000)(hsi:cL i i=true):fP fns (.fn 76 [] []) [.ptr wb 0,.agg cs] S fun r S'=>r= .int .i64 (if xM x then 3 else if x.player<0∨ps - 1<x.player∨x.info<0∨(ni:Int) - 1<x.info then 2 else 0)∧Same S S':=by
 obtain⟨a,b,c,rfl,hn,hw,hp⟩:=hx;refine cC H.f76 (by simp) ?_;simp only[↓aA,aB,rE,↓reduceIte];refine cD ?_;refine dJ (by simp only[↓aA,aB,rE,↓reduceIte];exact bK _) ?_;intro S2 s2 n2 g3;simp only[↓aA,aB,rE,↓reduceIte];have hn2:=hn.same s2;have hw2:=hw.same s2;have hp2:=hp.same s2;have hW2:=hW.same s2;refine aC (aC (bF (Q:=fun o A' X=>o= .normal∧A'.inr=false∧X=S2∧aD 0 A'.F= .ptr wb 0∧aD 3 A'.F= .ptr S.nx 0∧aD 27 A'.F= .bool (decide (xM x))) (aE ?_) ?_))
 ·by_cases c0:(0:Int)<((x.weights.length:Nat):Int)
  ·rw[Ac (show xM x from .inl c0)];simp only[↓aA,aB,rE,↓reduceIte,aG,aF,fY g3,gR g3,iO g3,iM g3,iY g3,hn2.len,hw2.len,hp2.len,Al,Ac c0]
  by_cases c1:(0:Int)<((x.pay.length:Nat):Int)
  ·rw[Ac (show xM x from .inr (.inl c1))];simp only[↓aA,aB,rE,↓reduceIte,aG,aF,fY g3,gR g3,iO g3,iM g3,iY g3,hn2.len,hw2.len,hp2.len,Al,Aa c0,Ac c1]
  by_cases c2:((x.next.length:Nat):Int)<1
  ·rw[Ac (show xM x from .inr (.inr (.inl c2)))];simp only[↓aA,aB,rE,↓reduceIte,aG,aF,fY g3,gR g3,iO g3,iM g3,iY g3,hn2.len,hw2.len,hp2.len,Al,Aa c0,Aa c1,Ac c2]
  by_cases c3:(10:Int)<((x.next.length:Nat):Int)
  ·rw[Ac (show xM x from .inr (.inr (.inr (c3))))];simp only[↓aA,aB,rE,↓reduceIte,aG,aF,fY g3,gR g3,iO g3,iM g3,iY g3,hn2.len,hw2.len,hp2.len,Al,Aa c0,Aa c1,Aa c2,Ac c3]
  rw[Aa (show ¬xM x by rintro(h0 | h1 | h2 | h3)<;>first | exact c0 h0 | exact c1 h1 | exact c2 h2 | exact c3 h3)];simp only[↓aA,aB,rE,↓reduceIte,aG,aF,fY g3,gR g3,iO g3,iM g3,iY g3,hn2.len,hw2.len,hp2.len,Al,Aa c0,Aa c1,Aa c2,Aa c3]
 rintro o ⟨F,inr⟩ X ⟨rfl,q0,hX,p0,p3,pb⟩;simp only at q0 p0 p3 pb;subst q0;rw[hX];have sX:=s2;try simp only[↓aA,aB,rE,↓reduceIte]
 by_cases bad:xM x
 ·rw[if_pos bad];refine aT (by simp only[↓aA,aB,rE,↓reduceIte,pb,Ac bad]) ?_;refine cD ?_;simp only[↓aA,aB,rE,↓reduceIte];refine aU ?_;simp only[↓aA,aB,rE,↓reduceIte];exact sX
 rw[if_neg bad];refine aO (by simp only[↓aA,aB,rE,↓reduceIte,pb,Aa bad]) (aM ?_);try simp only[↓aA,aB,rE,↓reduceIte]
 have w1:IntKind.i64.wrap (ps - 1)=ps - 1:=wrap_i64 (by omega) (by omega);have w2:IntKind.i64.wrap ((ni:Int) - 1)=(ni:Int) - 1:=wrap_i64 (by omega) (by omega);have lt3:S.nx<S2.nx:=by omega
 refine aC (aC (qE (fun _=>False) ?_));intro S3 s3 h3 n3;simp only[An,Bp,rA] at n3;simp only[↓sU,sD,rE,↓reduceIte,rA,p0,p3,bD,bO,bE,aG,aX,aF,iN hW2.1,fY g3,w1,hW2.2,lt3,Aq];rw[lI (k:=.i64) (n:=x.player) (by simp only[↓sU,sD,rE,↓reduceIte,rA])];simp only[↓sU,sD,rE,↓reduceIte,rA];refine aCv (by decide) rfl ?_;intro S4 s4 n4 c4;simp only[↓sU,sD,rE,↓reduceIte,rA];have s34:Same S2 S4:=s4.same s3 (by omega);refine aN (qW H (aMx (by omega) c4) (by simp)) ?_;rintro _ Y ⟨rfl,hY⟩;refine⟨hY,?_⟩;simp only[↓sU,sD,rE,↓reduceIte,rA,aCj];have sY:=s2.trans (s34.trans hY);refine cD ?_;simp only[↓sU,sD,rE,↓reduceIte,rA];by_cases h1:x.player<0∨ps - 1<x.player
 ·rw[if_pos (show x.player<0∨ps - 1<x.player∨x.info<0∨(ni:Int) - 1<x.info by omega)];refine aT (by simp only[↓sU,sD,rE,↓reduceIte,rA,if_pos h1];rfl) ?_;refine cD ?_;simp only[↓sU,sD,rE,↓reduceIte,rA,if_pos h1];refine aU ?_;simp only[↓sU,sD,rE,↓reduceIte,rA];exact sY
 refine aO (by simp only[↓sU,sD,rE,↓reduceIte,rA,if_neg h1];rfl) (aM ?_);try simp only[↓sU,sD,rE,↓reduceIte,rA]
 have hWY:=hW.same sY;have g3Y:Y.h.get S.nx=some (.cells [.int .i64 x.kind,.int .i64 x.player,.int .i64 x.info,a,b,c] false 0):=by rw[(s34.trans hY).2 _ lt3];exact g3
 have lt3Y:S.nx<Y.nx:=Af lt3 (s34.trans hY).1;refine aC (qE (fun _=>False) ?_);intro S5 s5 h5 n5;simp only[An,Bp,rA] at n5;simp only[↓sU,sD,rE,↓reduceIte,rA,p0,p3,bD,bO,bE,aG,aX,aF,gR hWY.1,hi,hsi,gR g3Y,w2,hWY.2,lt3Y,Aq];rw[lI (k:=.i64) (n:=x.info) (by simp only[↓sU,sD,rE,↓reduceIte,rA])];simp only[↓sU,sD,rE,↓reduceIte,rA];refine aCv (by decide) rfl ?_;intro S6 s6 n6 c6;simp only[↓sU,sD,rE,↓reduceIte,rA];have s56:Same Y S6:=s6.same s5 (by omega);refine aN (qW H (aMx (by omega) c6) (by simp)) ?_;rintro _ Z ⟨rfl,hZ⟩;refine⟨hZ,?_⟩;simp only[↓sU,sD,rE,↓reduceIte,rA,aCj];refine aU ?_;simp only[↓sU,sD,rE,↓reduceIte,rA];refine⟨?_,sY.trans (s56.trans hZ)⟩;by_cases h2:x.info<0∨(ni:Int) - 1<x.info
 ·rw[if_pos h2,if_pos (by omega)]
 ·rw[if_neg h2,if_neg (by omega)]
theorem aKX(H:Has fns)(hx:dD S cs x)(hW:zZ S wb ps n i p d l)(hps:1≤ps∧ps≤4):fP fns (.fn 77 [] []) [.ptr wb 0,.agg cs] S fun r S'=>r= .int .i64 (if tI ps x then 3 else if iS (-1000000) 1000000 x.pay then 2 else 0)∧Same S S':=by
 obtain⟨a,b,c,rfl,hn,hw,hp⟩:=hx;refine cC H.f77 (by simp) ?_;simp only[↓aA,aB,rE,↓reduceIte];refine cD ?_;refine dJ (by simp only[↓aA,aB,rE,↓reduceIte];exact bK _) ?_;intro S2 s2 n2 g3;simp only[↓aA,aB,rE,↓reduceIte];have hn2:=hn.same s2;have hw2:=hw.same s2;have hp2:=hp.same s2;have hW2:=hW.same s2;have sn:=cE.self hn2;have sw:=cE.self hw2;have sp:=cE.self hp2;refine aC (aC (bF (Q:=fun o A' X=>o= .normal∧A'.inr=false∧Same S2 X∧aD 3 A'.F= .ptr S.nx 0∧aD 35 A'.F= .bool (decide (tI ps x))) (tF ?_) ?_))
 ·have sX:=Same.nx S2 31;by_cases c0:x.player≠0
  ·rw[Ac (show tI ps x from .inl c0)];simp only[↓aA,aB,rE,↓reduceIte,aG,aF,fY g3,gR g3,iO g3,iM g3,iY g3,hn2.len,hw2.len,hp2.len,Al,bD,bO,bE,aX,gG,iN hW2.1,sn,sw,sp,Ac c0];exact Same.nx S2 _
  by_cases c1:x.info≠0
  ·rw[Ac (show tI ps x from .inr (.inl c1))];simp only[↓aA,aB,rE,↓reduceIte,aG,aF,fY g3,gR g3,iO g3,iM g3,iY g3,hn2.len,hw2.len,hp2.len,Al,bD,bO,bE,aX,gG,iN hW2.1,sn,sw,sp,Aa c0,Ac c1];exact Same.nx S2 _
  by_cases c2:(0:Int)<((x.next.length:Nat):Int)
  ·rw[Ac (show tI ps x from .inr (.inr (.inl c2)))];simp only[↓aA,aB,rE,↓reduceIte,aG,aF,fY g3,gR g3,iO g3,iM g3,iY g3,hn2.len,hw2.len,hp2.len,Al,bD,bO,bE,aX,gG,iN hW2.1,sn,sw,sp,Aa c0,Aa c1,Ac c2];exact Same.nx S2 _
  by_cases c3:(0:Int)<((x.weights.length:Nat):Int)
  ·rw[Ac (show tI ps x from .inr (.inr (.inr (.inl c3))))];simp only[↓aA,aB,rE,↓reduceIte,aG,aF,fY g3,gR g3,iO g3,iM g3,iY g3,hn2.len,hw2.len,hp2.len,Al,bD,bO,bE,aX,gG,iN hW2.1,sn,sw,sp,Aa c0,Aa c1,Aa c2,Ac c3];exact Same.nx S2 _
  by_cases c4:((x.pay.length:Nat):Int)≠ps
  ·rw[Ac (show tI ps x from .inr (.inr (.inr (.inr (c4)))))];simp only[↓aA,aB,rE,↓reduceIte,aG,aF,fY g3,gR g3,iO g3,iM g3,iY g3,hn2.len,hw2.len,hp2.len,Al,bD,bO,bE,aX,gG,iN hW2.1,sn,sw,sp,Aa c0,Aa c1,Aa c2,Aa c3,Ac c4];exact Same.nx S2 _
  rw[Aa (show ¬tI ps x by rintro(h0 | h1 | h2 | h3 | h4)<;>first | exact c0 h0 | exact c1 h1 | exact c2 h2 | exact c3 h3 | exact c4 h4)];simp only[↓aA,aB,rE,↓reduceIte,aG,aF,fY g3,gR g3,iO g3,iM g3,iY g3,hn2.len,hw2.len,hp2.len,Al,bD,bO,bE,aX,gG,iN hW2.1,sn,sw,sp,Aa c0,Aa c1,Aa c2,Aa c3,Aa c4];exact Same.nx S2 _
 rintro o ⟨F,inr⟩ X ⟨rfl,q0,hX,p3,pb⟩;simp only at q0 p3 pb;subst q0;have sX:=s2.trans hX;have g3X:X.h.get S.nx=some (.cells [.int .i64 x.kind,.int .i64 x.player,.int .i64 x.info,a,b,c] false 0):=by rw[hX.2 _ (by omega)];exact g3
 try simp only[↓aA,aB,rE,↓reduceIte]
 by_cases bad:tI ps x
 ·rw[if_pos bad];refine aT (by simp only[↓aA,aB,rE,↓reduceIte,pb,Ac bad]) ?_;refine cD ?_;simp only[↓aA,aB,rE,↓reduceIte];refine aU ?_;simp only[↓aA,aB,rE,↓reduceIte];exact sX
 rw[if_neg bad];refine aO (by simp only[↓aA,aB,rE,↓reduceIte,pb,Aa bad]) (aM ?_);try simp only[↓aA,aB,rE,↓reduceIte]
 have hlen:x.pay.length≤60:=by unfold tI at bad;omega
 have hneg:Int.negSucc 999999= -1000000:=rfl;refine cD ?_;simp only[↓aA,aB,rE,↓reduceIte,p3,aG,aF,iY g3X];refine bB ?_;simp only[↓aA,aB,rE,↓reduceIte,hneg];refine aN (qW H (hp2.same hX) (by omega)) ?_;rintro _ Y ⟨rfl,hY⟩;try simp only[↓aA,aB,rE,↓reduceIte]
 refine aU ?_;simp only[↓aA,aB,rE,↓reduceIte];exact sX.trans hY
end
section
variable {S:St}{wb:Nat}{ps:Int}{n i p d l:AV}{ni:Nat}{cs:List AV}{x:bS}
theorem aJ4(H:Has fns)(hx:dD S cs x)(hW:zZ S wb ps n i p d l)(hps:1≤ps∧ps≤4)(hi:kS i=some (.int .i64 ((ni:Nat):Int)))(hni:ni≤1000)(hsi:cL i i=true):fP fns (.fn 60 [] []) [.ptr wb 0,.agg cs] S fun r S'=>r= .int .i64 (iI ps ni x)∧Same S S':=by
 obtain⟨a,b,c,rfl,hn,hw,hp⟩:=id hx;refine cC H.f60 (by simp) ?_;simp only[↓aA,aB,rE,↓reduceIte];refine cD ?_;refine dJ (by simp only[↓aA,aB,rE,↓reduceIte];exact bK _) ?_;intro S1 s1 n1 g3;simp only[↓aA,aB,rE,↓reduceIte];have hbd:∀ (F:Fr) (h:T AB),hJ (.build [.nilfn,.nilfn,.nilfn,.nilfn] [(1,1,.c (.fn 75 [] [])),(2,1,.c (.fn 76 [] [])),(3,1,.c (.fn 77 [] []))]) F h=some (.agg [.nilfn,.fn 75 [] [],.fn 76 [] [],.fn 77 [] []]):=fun _ _=>rfl;refine cD ?_;simp only[↓aA,aB,rE,↓reduceIte,hbd];refine cR ?_;intro S2 s2 n2 c2;refine fB (b:=S1.nx) (by simp only[↓aA,aB,rE,↓reduceIte]) (by simp only[↓aA,aB,rE,↓reduceIte];exact bK _) c2 rfl rfl ?_;intro S3 s3 n3 c3;simp only[↓aA,aB,rE,↓reduceIte];have s13:Same S1 S3:=s3.same s2 (Ag _);have sS:=s1.trans s13;have g3:S3.h.get S.nx=some (.cells [.int .i64 x.kind,.int .i64 x.player,.int .i64 x.info,a,b,c] false 0):=by rw[s13.2 _ (by omega)];exact g3
 have lt3:S.nx<S3.nx:=by omega
 have lt5:S1.nx<S3.nx:=by omega
 have hx3:dD S3 [.int .i64 x.kind,.int .i64 x.player,.int .i64 x.info,a,b,c] x:=cO hx sS;have hW3:=hW.same sS;have sl:=aA8 (fV .i64 x.kind) (fV .i64 x.player) (fV .i64 x.info) (cE.self hn) (cE.self hw) (cE.self hp);unfold iI;refine aC (aC (bF (Q:=fun o A' X=>o= .normal∧A'.inr=false∧X=S3∧aD 0 A'.F= .ptr wb 0∧aD 3 A'.F= .ptr S.nx 0∧aD 5 A'.F= .ptr S1.nx 0∧aD 14 A'.F= .bool (decide (x.kind<1∨3<x.kind))) (aE ?_) ?_))
 ·by_cases h1:x.kind<1
  ·rw[Ac (show x.kind<1∨3<x.kind from .inl h1)];simp only[↓aA,aB,rE,↓reduceIte,aG,aF,iN g3,Ac h1]
  ·by_cases h2:3<x.kind
   ·rw[Ac (show x.kind<1∨3<x.kind from .inr h2)];simp only[↓aA,aB,rE,↓reduceIte,aG,aF,iN g3,Aa h1,Ac h2]
   ·rw[Aa (show ¬ (x.kind<1∨3<x.kind) by omega)];simp only[↓aA,aB,rE,↓reduceIte,aG,aF,iN g3,Aa h1,Aa h2]
 rintro o ⟨F,inr⟩ X ⟨rfl,q0,hX,p0,p3,p5,pb⟩;simp only at q0 p0 p3 p5 pb;subst q0;rw[hX];try simp only[↓aA,aB,rE,↓reduceIte]
 by_cases bad:x.kind<1∨3<x.kind
 ·rw[if_neg (by omega),if_neg (by omega),if_neg (by omega)];refine aT (by simp only[↓aA,aB,rE,↓reduceIte,pb,Ac bad]) ?_;refine cD ?_;simp only[↓aA,aB,rE,↓reduceIte];refine aU ?_;simp only[↓aA,aB,rE,↓reduceIte];exact sS
 refine aO (by simp only[↓aA,aB,rE,↓reduceIte,pb,Aa bad]) (aM ?_);try simp only[↓aA,aB,rE,↓reduceIte]
 have hld:∀j y,[AV.nilfn,.fn 75 [] [],.fn 76 [] [],.fn 77 [] []][j]? =some y→cW (.ptr S1.nx j) false 1 S3.h=some y:=fun j y hy=>by have:=ldc (j:=j) c3 hy;rw[Ap] at this;exact this
 have n1':fA (.int .i64 1)=some 1:=rfl;have n2':fA (.int .i64 2)=some 2:=rfl;have n3':fA (.int .i64 3)=some 3:=rfl;have i1:eQ (.arr 4 1) (.ptr S1.nx 0) 1=some (.ptr S1.nx 1):=rfl;have i2:eQ (.arr 4 1) (.ptr S1.nx 0) 2=some (.ptr S1.nx 2):=rfl;have i3:eQ (.arr 4 1) (.ptr S1.nx 0) 3=some (.ptr S1.nx 3):=rfl;have l1:=hld 1 _ rfl;have l2:=hld 2 _ rfl;have l3:=hld 3 _ rfl;have f1:cL (.fn 75 [] []) (.fn 75 [] [])=true:=rfl;have f2:cL (.fn 76 [] []) (.fn 76 [] [])=true:=rfl;have f3:cL (.fn 77 [] []) (.fn 77 [] [])=true:=rfl;have g3':=ldN g3;refine aC (dI (fun _=>False) ?_);intro S4 s4;by_cases k1:x.kind=1
 ·rw[if_pos k1];rw[k1] at g3 g3' sl hx3;simp only[↓sU,sD,rE,↓reduceIte,rA,p0,p3,p5,aG,aX,aF,iN g3,n1',i1,l1,f1,g3',sl,lt3,lt5,Aq];refine cN rfl ?_;simp only[↓sU,sD,rE,↓reduceIte,rA];refine aN (aF0 H (by have:=cO hx (sS.trans s4);rw[k1] at this;exact this)) ?_;rintro _ Y ⟨rfl,hY⟩;refine⟨hY,?_⟩;try simp only[↓sU,sD,rE,↓reduceIte,rA]
  refine aU ?_;simp only[↓sU,sD,rE,↓reduceIte,rA];exact sS.trans (s4.trans hY)
 by_cases k2:x.kind=2
 ·rw[if_neg k1,if_pos k2];rw[k2] at g3 g3' sl;simp only[↓sU,sD,rE,↓reduceIte,rA,p0,p3,p5,aG,aX,aF,iN g3,n2',i2,l2,f2,g3',sl,lt3,lt5,Aq];refine cN rfl ?_;simp only[↓sU,sD,rE,↓reduceIte,rA];refine aN (aJa H (by have:=cO hx (sS.trans s4);rw[k2] at this;exact this) (hW3.same s4) hps hi hni hsi) ?_;rintro _ Y ⟨rfl,hY⟩;refine⟨hY,?_⟩;try simp only[↓sU,sD,rE,↓reduceIte,rA]
  refine aU ?_;simp only[↓sU,sD,rE,↓reduceIte,rA];exact sS.trans (s4.trans hY)
 have k3:x.kind=3:=by omega
 rw[if_neg k1,if_neg k2,if_pos k3];rw[k3] at g3 g3' sl;simp only[↓sU,sD,rE,↓reduceIte,rA,p0,p3,p5,aG,aX,aF,iN g3,n3',i3,l3,f3,g3',sl,lt3,lt5,Aq];refine cN rfl ?_;simp only[↓sU,sD,rE,↓reduceIte,rA];refine aN (aKX H (by have:=cO hx (sS.trans s4);rw[k3] at this;exact this) (hW3.same s4) hps) ?_;rintro _ Y ⟨rfl,hY⟩;refine⟨hY,?_⟩;try simp only[↓sU,sD,rE,↓reduceIte,rA]
 refine aU ?_;simp only[↓sU,sD,rE,↓reduceIte,rA];exact sS.trans (s4.trans hY)
end
abbrev fR:=Int×Int×Int
def iG(rec:Nat→Option (List fR)):List Int→Nat→Option (List fR)
 | [],_=>some []
 | c::l,r=>if c=(r:Int) then(rec r).bind fun L1=>(iG rec l (r+L1.length)).map (L1++ ·) else none
def jL(N:Nat)(nx:Nat→List Int):Nat→Nat→Int→Int→Option (List fR)
 | 0,_,_,_=>none
 | f+1,at_,p,d=>if at_<N then(iG (fun r=>jL N nx f r at_ (d+1)) (nx at_) (at_+1)).map fun L=>(p,d,((at_+L.length:Nat):Int))::L else none
def aBY(m:Int)(L:List fR):Int:=L.foldl (fun m t=>mx m t.2.1) m
theorem aEg(m:Int)(t:fR)(L:List fR):aBY m (t::L)=aBY (mx m t.2.1) L:=rfl
def jX(g:bM)(i:Nat):List Int:=((g.nodes[i]?).map (·.next)).getD []
theorem aCs{g:bM}{i:Nat}{x:bS}(h:g.nodes[i]? =some x):jX g i=x.next:=by unfold jX;rw[h];rfl
theorem aEc{rec:Nat→Option (List fR)}{N:Nat}(hr:∀r L,rec r=some L→r+L.length≤N∧0<L.length):∀ {l:List Int} {r:Nat} {L:List fR},r≤N→iG rec l r=some L→r+L.length≤N
 | [],r,L,h,hk=>by simp only[iG,Ak] at hk;subst hk;simpa using h
 | c::l,r,L,h,hk=>by
  simp only[iG] at hk;split at hk
  ·obtain⟨L1,h1,h2⟩:=Dt.1 hk;obtain⟨L2,h3,rfl⟩:=Av.1 h2;have:=aEc hr (hr r L1 h1).1 h3;rw[Ai];omega
  ·cases hk
theorem xH{N:Nat}{nx:Nat→List Int}:∀ {f at_:Nat} {p d:Int} {L:List fR},jL N nx f at_ p d=some L→at_+L.length≤N∧0<L.length
 | 0,at_,p,d,L,h=>by cases h
 | f+1,at_,p,d,L,h=>by
  simp only[jL] at h;split at h
  ·rename_i hlt;obtain⟨L',h1,rfl⟩:=Av.1 h;have:=aEc (N:=N) (fun r L hr=>xH hr) (show at_+1≤N by omega) h1;rw[An];omega
  ·cases h
theorem aY.tail{k:Nat}{α:Type}{E:St→List AV→α→Prop}{S:St}{v:AV}{a:α}{l:List α}(h:aY k E S v (a::l)):∃v',(∀ (F:Fr) (x:cK),fA (x.val F)=some 1→qJ (.slice k) v (some x) none none F=some v')∧aY k E S v' l:=by
 rcases h with⟨h0,_⟩ | ⟨b,off,cap,o,cs,rfl,hc,hb,hcs,hel⟩
 ·cases h0
 ·rw[An] at hc;have e1:Nat.ble cap cap=true:=Aj (Ag _);have e2:Nat.ble (l.length+1) cap=true:=Aj hc;have e3:Nat.ble 1 (l.length+1)=true:=Aj (by omega);by_cases h1:cap=1
  ·have hl:l= []:=Cc.1 (by omega);subst hl;subst h1;have e4:Nat.beq 1 1=true:=rfl;refine⟨bL o .emp (.sl b off 0 0 false),fun F x hx=>?_,?_⟩
   ·simp only[qJ,aH2,jM,iL,aJ,hx,An,Bp];cases o<;>rfl
   ·cases o with
    | true=>exact .inl ⟨rfl,.inr rfl⟩
    | false=>exact .inr ⟨b,off,0,false,cs,rfl,Ag _,hb,hcs,fun i a hi=>by simp at hi⟩
  ·have e4:Nat.beq cap 1=false:=by rw[Br];intro h;rw[Ax] at h;omega
   refine⟨.sl b (off+1 * k) (l.length+1 - 1) (cap - 1) o,fun F x hx=>?_,.inr ⟨b,off+1 * k,cap - 1,o,cs,by simp,by omega,hb,hcs,fun i a' hi=>?_⟩⟩
   ·simp only[qJ,aH2,jM,iL,aJ,hx,An,e1,e2,e3,aL,e4,aR,Option.isNone_none];cases o<;>rfl
   ·obtain⟨e,h1,h2,h3⟩:=hel (i+1) a' (by simpa using hi);refine⟨e,h1,fun j x hj=>?_,h3⟩;have:=h2 j x hj;rw[show off+1 * k+i * k+j=off+(i+1) * k+j by rw[Du];omega];exact this
theorem aIX(a b:Int):lJ true [.int .i64 a,.int .i64 b]=some (.int .i64 (mx a b)):=by rw[aMY,aOG,aPa]
def bG(l:List Int):List AV:=l.map (AV.int .i64)
theorem aDE(l:List Int):(bG l).length=l.length:=by simp [bG]
theorem rG{S S':St}(h:Same S S'){b p n:Nat}{agg:Bool}(hb:b<S.nx):cW (.ptr b p) agg n S'.h=cW (.ptr b p) agg n S.h:=by
 have e:=tV h hb;simp only[cW,oC,uS,lA,e]
theorem aD1{S:St}{b p:Nat}{w:Int}{l:List Int}{o:Bool}{sz:Nat}(h:S.h.get b=some (.cells (bG l) o sz))(hp:p<l.length):kR (.ptr b p) 1 [.int .i64 w] S=some (.undef,⟨S.h.set b (some (.cells (bG (l.set p w)) o sz)),S.nx⟩):=by
 have hput:put (bG l) p [AV.int .i64 w]=some (bG (l.set p w)):=by
  rw[put_eq,if_pos (by rw[aDE];simp;omega)];congr 1;unfold bG;rw[List.map_set,List.set_eq_take_append_cons_drop,if_pos (by simp;omega)];simp
 simp only[kR,pF,h,aJ,yK,hput];rfl
theorem mQ{S:St}{b N sz:Nat}{l:List Int}{o:Bool}(h:S.h.get b=some (.cells (bG l) o sz))(hb:b<S.nx)(hl:l.length=N):cE .i64 S (.sl b 0 N N false) l:=by
 subst hl;refine .inr ⟨b,0,l.length,false,bG l,rfl,Ag _,hb,by unfold cM;rw[h];rfl,fun i x hi=>?_⟩;rw[Ap];unfold bG;rw[Bi,hi];rfl
theorem jD{b N i:Nat}{o:Bool}(hi:i<N):eQ (.slice 1) (.sl b 0 N N o) i=some (.ptr b i):=ia8 hi
theorem aBi{W:Nat→Prop}{h0:T AB}{base m i:Nat}{l:List AO}{F:Fr}{S:St}{last:Option Nat}{Q:Fr→St→List iD→Prop}{x v:cK}{b p sz:Nat}{w:Int}{P:List Int}{o:Bool}(h:lP last m=true)(hx:x.val F= .ptr b p)(hv:v.val F= .int .i64 w)(hb:S.h.get b=some (.cells (bG P) o sz))(hp:p<P.length)(hW:W b)
  (hr:∀S1,bH b S S1→S1.nx=S.nx→S1.h.get b=some (.cells (bG (P.set p w)) o sz)→fW fns W h0 base l (i+1) F S1 [] (some i) Q):fW fns W h0 base (⟨none,.x (.st 1 x v),none,m⟩::l) i F S [] last Q:=by
 have hS:bH b S ⟨S.h.set b (some (.cells (bG (P.set p w)) o sz)),S.nx⟩:=(bH.refl b S).put _;refine aAz (S1:=⟨S.h.set b (some (.cells (bG (P.set p w)) o sz)),S.nx⟩) h ?_ ⟨Ag _,fun c hc hw=>?_⟩ (hr _ hS rfl ?_)
 ·rw[hv,cS,aJ,hx];exact aD1 (S:=S) hb hp
 ·simp only;rw[T.get_set,if_neg (show ¬c=b from fun e=>hw (by rw[e];exact hW))];rfl
 ·simp only;rw[T.get_set,if_pos rfl]
def vQ(T:List fR)(a j:Nat):Option fR:=if a≤j then T[j - a]? else none
def gO(sel:fR→Int)(P P':List Int)(T:List fR)(a:Nat):Prop:=P'.length=P.length∧∀j,P'.getD j 0=((vQ T a j).map sel).getD (P.getD j 0)
theorem gO.nil(sel:fR→Int)(P:List Int)(a:Nat):gO sel P P [] a:=⟨rfl,fun j=>by unfold vQ;split<;>simp⟩
theorem aNb{T:List fR}{a j:Nat}{t:fR}(h:vQ T a j=some t):a≤j∧j<a+T.length:=by
 unfold vQ at h;split at h
 ·have:=(Ae.1 h).1;omega
 ·cases h
theorem aJL{T:List fR}{a j:Nat}(h:j<a∨a+T.length≤j):vQ T a j=none:=by
 unfold vQ;split
 ·exact Bo (by omega)
 ·rfl
theorem aBp(T T':List fR)(a j:Nat):vQ (T++T') a j=(vQ T a j).or (vQ T' (a+T.length) j):=by
 unfold vQ;by_cases h:a≤j
 ·rw[if_pos h,if_pos h,Dw];by_cases h1:j - a<T.length
  ·rw[if_pos h1,if_neg (by omega),Ad h1];rfl
  ·rw[if_neg h1,if_pos (by omega),Bo (l:=T) (i:=j - a) (by omega),show j - a - T.length=j - (a+T.length) by omega];rfl
 ·rw[if_neg h,if_neg h,if_neg (by omega)];rfl
theorem gO.append{sel:fR→Int}{P P1 P2:List Int}{T T':List fR}{a:Nat}(h1:gO sel P P1 T a)(h2:gO sel P1 P2 T' (a+T.length)):gO sel P P2 (T++T') a:=by
 refine⟨h2.1.trans h1.1,fun j=>?_⟩;rw[h2.2,h1.2,aBp];cases hc:vQ T a j with
 | none=>rfl
 | some t=>
  have:=aNb hc;rw[aJL (by omega)];rfl
theorem gE{P:List Int}{i j:Nat}{v:Int}(hi:i<P.length):(P.set i v).getD j 0=if j=i then v else P.getD j 0:=by
 rw[Ah,Dz];by_cases h:i=j
 ·subst h;rw[if_pos rfl,if_pos rfl,if_pos hi];rfl
 ·rw[if_neg h,if_neg (Cv h),Ah]
theorem aFL(t:fR)(a j:Nat):vQ [t] a j=if j=a then some t else none:=by
 unfold vQ;by_cases h:j=a
 ·subst h;simp
 ·rw[if_neg h];split
  ·exact Bo (by simp;omega)
  ·rfl
theorem gO.one{sel:fR→Int}{P:List Int}{t:fR}{a:Nat}{v:Int}(ha:a<P.length)(hv:sel t=v):gO sel P (P.set a v) [t] a:=by
 refine⟨Bn ..,fun j=>?_⟩;rw[gE ha,aFL];by_cases h:j=a
 ·rw[if_pos h,if_pos h,←hv];rfl
 ·rw[if_neg h,if_neg h];rfl
theorem gO.late{sel:fR→Int}{P P1:List Int}{t:fR}{L:List fR}{a:Nat}{v:Int}(h:gO sel P P1 L (a+1))(ha:a<P.length)(hv:sel t=v):gO sel P (P1.set a v) (t::L) a:=by
 refine⟨by rw[Bn];exact h.1,fun j=>?_⟩;rw[gE (by rw[h.1];exact ha),h.2];have e:vQ (t::L) a j=(vQ [t] a j).or (vQ L (a+1) j):=aBp [t] L a j;rw[e,aFL];by_cases hj:j=a
 ·rw[if_pos hj,if_pos hj,←hv];rfl
 ·rw[if_neg hj,if_neg hj];rfl
structure WK(S:St)(wb pb db lb N:Nat)(ps:Int)(nv iv:AV)(P D L:List Int):Prop where
 w:zZ S wb ps nv iv (.sl pb 0 N N false) (.sl db 0 N N false) (.sl lb 0 N N false)
 gp:S.h.get pb=some (.cells (bG P) false 0)
 gd:S.h.get db=some (.cells (bG D) false 0)
 gl:S.h.get lb=some (.cells (bG L) false 0)
 lp:P.length=N
 ld:D.length=N
 ll:L.length=N
 bp:pb<S.nx
 bd:db<S.nx
 bl:lb<S.nx
def zD(pb db lb:Nat)(S S':St):Prop:=S.nx≤S'.nx∧∀c,c<S.nx→c≠pb→c≠db→c≠lb→S'.h.get c=S.h.get c
theorem zD.refl(pb db lb:Nat)(S:St):zD pb db lb S S:=⟨Ag _,fun _ _ _ _ _=>rfl⟩
theorem zD.trans{pb db lb:Nat}{S S' S'':St}(h:zD pb db lb S S')(h':zD pb db lb S' S''):zD pb db lb S S'':=⟨Bb h.1 h'.1,fun c hc h1 h2 h3=>(h'.2 c (Af hc h.1) h1 h2 h3).trans (h.2 c hc h1 h2 h3)⟩
theorem zD.same{pb db lb:Nat}{S0 S S':St}(h0:Same S0 S)(h:zD pb db lb S S')(h1:S0.nx≤pb)(h2:S0.nx≤db)(h3:S0.nx≤lb):Same S0 S':=⟨Bb h0.1 h.1,fun c hc=>(h.2 c (Af hc h0.1) (by omega) (by omega) (by omega)).trans (h0.2 c hc)⟩
def aP9(S0 S:St)(wb pb db lb:Nat)(ps:Int)(nv iv:AV)(g:bM)(P D L:List Int)(at_:Nat)(o:Option (List fR))(r:AV)(S':St):Prop:=
 zD pb db lb S S'∧∃P' D' L',WK S' wb pb db lb g.nodes.length ps nv iv P' D' L'∧match o with
 | some T=>(∃v,r= .tup [v,.bool true]∧aY 6 dD S0 v (g.nodes.drop (at_+T.length)))∧gO (·.1) P P' T at_∧gO (·.2.1) D D' T at_∧gO (·.2.2) L L' T at_
 | none=>r= .tup [.nilsl,.bool false]
def aQd(S0 S2:St)(wb pb db lb:Nat)(ps:Int)(nv iv a:AV)(g:bM)(P D L:List Int)(at_:Nat)(d:Int)(rec:Nat→Option (List fR))(ks:List Int)(k:Nat)(A:bR)(X:St):Prop:=
 A.inr=false∧zD pb db lb S2 X∧∃ (j:Nat) (T:List fR) (P' D' L':List Int) (v:AV),j+k=ks.length∧at_+1+T.length≤g.nodes.length∧iG rec ks (at_+1)=(iG rec (ks.drop j) (at_+1+T.length)).map (T++ ·)∧
  WK X wb pb db lb g.nodes.length ps nv iv P' D' L'∧gO (·.1) P P' T (at_+1)∧gO (·.2.1) D D' T (at_+1)∧gO (·.2.2) L L' T (at_+1)∧aY 6 dD S0 v (g.nodes.drop (at_+1+T.length))∧
  aD 0 A.F= .ptr wb 0∧aD 2 A.F= .int .i64 d∧aD 10 A.F= .int .i64 (at_:Int)∧aD 11 A.F=v∧aD 46 A.F=a∧aD 47 A.F= .int .i64 ((ks.length:Nat):Int)∧aD 48 A.F= .int .i64 (j:Int)
theorem aJM{S0:St}{nv iv:AV}{g:bM}{wb pb db lb:Nat}{ps:Int}(H:Has fns)(hG:aY 6 dD S0 nv g.nodes)(hwb:S0.nx≤wb)(hpb:S0.nx≤pb)(hdb:S0.nx≤db)(hlb:S0.nx≤lb)(ne1:pb≠db)(ne2:pb≠lb)(ne3:db≠lb)(ne4:wb≠pb)(ne5:wb≠db)(ne6:wb≠lb)(hN:g.nodes.length≤2000)(hlen:∀x∈g.nodes,x.next.length≤1000):
  ∀ (f:Nat) {S:St} {at_:Nat} {p d:Int} {rv:AV} {P D L:List Int},g.nodes.length+1 - at_≤f→0≤d→d≤at_→at_≤g.nodes.length→Same S0 S→WK S wb pb db lb g.nodes.length ps nv iv P D L→aY 6 dD S0 rv (g.nodes.drop at_)→
  fP fns (.fn 61 [] []) [.ptr wb 0,.int .i64 p,.int .i64 d,rv] S fun r S'=>aP9 S0 S wb pb db lb ps nv iv g P D L at_ (jL g.nodes.length (jX g) f at_ p d) r S':=by
 intro f
 induction f with
 | zero=>intro S at_ p d rv P D L hf hd0 hd hat;omega
 | succ f ih=>
  intro S at_ p d rv P D L hf hd0 hd hat hS hK hrv;have hrl:=hrv.len;rw[Cy] at hrl;refine cC H.f61 (by simp) ?_;simp only[↓sU,sD,rE,↓reduceIte,rA];refine cD ?_;simp only[↓sU,sD,rE,↓reduceIte,rA];refine jB ?_;simp only[↓sU,sD,rE,↓reduceIte,rA,hrl];by_cases hlt:at_<g.nodes.length;rotate_left
  ·refine aT (by simp only[↓sU,sD,rE,↓reduceIte,rA,Ac (show((g.nodes.length - at_:Nat):Int)=0 by omega)]) ?_;refine cD ?_;simp only[↓sU,sD,rE,↓reduceIte,rA];refine aU ?_;simp only[↓sU,sD,rE,↓reduceIte,rA];simp only[jL,if_neg hlt];exact⟨zD.refl _ _ _ _,P,D,L,hK,rfl⟩
  refine aO (by simp only[↓sU,sD,rE,↓reduceIte,rA,Aa (show ¬ ((g.nodes.length - at_:Nat):Int)=0 by omega)]) (aM ?_);try simp only[↓sU,sD,rE,↓reduceIte,rA]
  obtain⟨x,hx⟩:∃x,g.nodes[at_]? =some x:=⟨_,Ad hlt⟩;have hnx:=aCs hx;have hxl:=hlen x (Aw hx);have hnl:=hG.len;have hdrop:g.nodes.drop at_=x::g.nodes.drop (at_+1):=by
   rw[Dp hlt];congr 1;rw[Ad hlt] at hx;exact Cf hx
  rw[hdrop] at hrv;have w1:IntKind.i64.wrap (((g.nodes.length:Nat):Int) - ((g.nodes.length - at_:Nat):Int))=(at_:Int):=by rw[wrap_i64 (by omega) (by omega)];omega
  refine cD ?_;simp only[↓sU,sD,rE,↓reduceIte,rA,bD,bE,aG,aF,fY hK.w.1,hnl,hrl,w1];have wlt:=hK.w.2;have hwn:¬ (wb=pb∨wb=db):=by omega
  refine aC (dI (fun b=>b=pb∨b=db) ?_);intro S1 s1;have hia1:=jD (b:=pb) (o:=false) hlt;have hia2:=jD (b:=db) (o:=false) hlt;simp only[↓sU,sD,rE,↓reduceIte,rA,bD,bO,bE,aG,aX,aF,iO hK.w.1,iM hK.w.1,wlt,hwn,Aq,hia1,hia2];have l1:=s1.1;have bp:=hK.bp;have bd:=hK.bd;have bl:=hK.bl;refine aBi (p:=at_) (w:=p) rfl (by simp only[↓sU,sD,rE,↓reduceIte,rA]) (by simp only[↓sU,sD,rE,↓reduceIte,rA]) (by rw[s1.2 _ hK.bp];exact hK.gp) (by rw[hK.lp];exact hlt) (.inl rfl) ?_;intro S2 s2 n2 c2;simp only[↓sU,sD,rE,↓reduceIte,rA,hia2];refine aBi (p:=at_) (w:=d) (show Nat.testBit 32767 13=true by decide) (by simp only[↓sU,sD,rE,↓reduceIte,rA]) (by simp only[↓sU,sD,rE,↓reduceIte,rA]) (by rw[s2.2 _ (by omega) (Cv ne1),s1.2 _ hK.bd];exact hK.gd) (by rw[hK.ld];exact hlt) (.inr rfl) ?_;intro S3 s3 n3 c3;simp only[↓sU,sD,rE,↓reduceIte,rA];have b3:zD pb db lb S S3:=⟨by omega,fun c hc h1 h2 h3=>by rw[s3.2 _ (by omega) h2,s2.2 _ (by omega) h1,s1.2 _ hc]⟩;have hS3:Same S0 S3:=b3.same hS hpb hdb hlb;have hK3:WK S3 wb pb db lb g.nodes.length ps nv iv (P.set at_ p) (D.set at_ d) L:=⟨⟨by rw[b3.2 _ wlt ne4 ne5 ne6];exact hK.w.1,Af wlt b3.1⟩,by rw[s3.2 _ (by omega) ne1];exact c2,c3,by rw[s3.2 _ (by omega) (Cv ne3),s2.2 _ (by omega) (Cv ne2),s1.2 _ hK.bl];exact hK.gl,by rw[Bn];exact hK.lp,by rw[Bn];exact hK.ld,hK.ll,by omega,by omega,by omega⟩;obtain⟨rv',hslc,hrv'⟩:=aY.tail hrv;have hsl1:∀F:Fr,qJ (.slice 6) rv (some (.c (.int .i64 1))) none none F=some rv':=fun F=>hslc F _ rfl;refine cD ?_;simp only[↓sU,sD,rE,↓reduceIte,rA,hsl1];obtain⟨e,b,q,hia,hb,he,⟨a,bb,cc,rfl,ha,_,_⟩,_,hlf⟩:=aY.at hrv (by decide) (i:=0) rfl;have hl3:=hlf 3 a rfl;rw[←rG hS3 hb] at hl3;refine jB ?_;simp only[↓sU,sD,rE,↓reduceIte,rA,aOB,hia,aG,aF,hl3,ha.len,Al];have hW:jL g.nodes.length (jX g) (f+1) at_ p d=(iG (fun r=>jL g.nodes.length (jX g) f r at_ (d+1)) x.next (at_+1)).map fun L=>(p,d,((at_+L.length:Nat):Int))::L:=by
   simp only[jL,if_pos hlt,hnx]
  rw[hW];refine bF (Q:=fun o A' X=>(o= .normal∧aQd S0 S3 wb pb db lb ps nv iv a g (P.set at_ p) (D.set at_ d) L at_ d (fun r=>jL g.nodes.length (jX g) f r at_ (d+1)) x.next 0 A' X)∨(o= .ret∧zD pb db lb S3 X∧iG (fun r=>jL g.nodes.length (jX g) f r at_ (d+1)) x.next (at_+1)=none∧aD 8 A'.F= .nilsl∧aD 9 A'.F= .bool false∧∃P' D' L',WK X wb pb db lb g.nodes.length ps nv iv P' D' L')) (aP (cB (aQd S0 S3 wb pb db lb ps nv iv a g (P.set at_ p) (D.set at_ d) L at_ d (fun r=>jL g.nodes.length (jX g) f r at_ (d+1)) x.next) ?_ x.next.length _ _ ⟨rfl,zD.refl _ _ _ _,0,[],P.set at_ p,D.set at_ d,L,rv',by omega,by rw[Bp];omega,by simp,hK3,gO.nil _ _ _,gO.nil _ _ _,gO.nil _ _ _,hrv',by refine⟨?_,?_,?_,?_,?_,?_,?_⟩<;>simp only[↓sU,sD,rE,↓reduceIte,rA]⟩)) ?_
  ·rintro k ⟨F,inr⟩ X ⟨q0,hX,j,T,P',D',L',v,hjk,hTN,hkid,hKX,rP,rD,rL,hv,p0,p2,p10,p11,p46,p47,p48⟩;simp only at q0 p0 p2 p10 p11 p46 p47 p48;subst q0;have hSX:Same S0 X:=hX.same hS3 hpb hdb hlb;have haX:=ha.same hSX;have hvl:=hv.len;rw[Cy] at hvl;refine cD ?_;simp only[↓sU,sD,rE,↓reduceIte,rA,p47,p48];by_cases hj:j<x.next.length
   ·refine aC (aT (by simp only[↓sU,sD,rE,↓reduceIte,rA,Ac (show(j:Int)<((x.next.length:Nat):Int) by omega)]) (aM ?_));simp only[↓sU,sD,rE,↓reduceIte,rA];have hias:=haX.iaddr hj;have hlds:=haX.ld hj;have hdr:x.next.drop j=x.next[j]::x.next.drop (j+1):=Dp hj;have hgd:x.next.getD j 0=x.next[j]:=by rw[Ah,Ad hj];rfl
    rw[hgd] at hlds;rw[hdr] at hkid;generalize x.next[j]=c at *;have w2:IntKind.i64.wrap (((g.nodes.length:Nat):Int) - ((g.nodes.length - (at_+1+T.length):Nat):Int))=((at_+1+T.length:Nat):Int):=by rw[wrap_i64 (by omega) (by omega)];omega
    have w3:IntKind.i64.wrap (d+1)=d+1:=wrap_i64 (by omega) (by omega);have w4:IntKind.i64.wrap ((j:Int)+1)=((j+1:Nat):Int):=by rw[wrap_i64 (by omega) (by omega)];omega
    refine aC (aP (aC (aE ?_)));simp only[↓sU,sD,rE,↓reduceIte,rA,p46,p48,aK,hias,hlds];refine jB ?_;simp only[↓sU,sD,rE,↓reduceIte,rA,p0,p11,bD,bE,aG,aF,fY hKX.w.1,hnl,hvl,w2];by_cases hc:c=((at_+1+T.length:Nat):Int);rotate_left
    ·refine aT (by simp only[↓sU,sD,rE,↓reduceIte,rA,Ac (show c≠((at_+1+T.length:Nat):Int) from hc)]) ?_;refine cD ?_;simp only[↓sU,sD,rE,↓reduceIte,rA];refine aU ?_;simp only[↓sU,sD,rE,↓reduceIte,rA];refine .inr ⟨hX,?_,P',D',L',hKX⟩;rw[hkid];simp only[iG,if_neg hc];rfl
    refine aO (by simp only[↓sU,sD,rE,↓reduceIte,rA,Aa (show ¬c≠((at_+1+T.length:Nat):Int) from fun h=>h hc)]) (aM ?_);try simp only[↓sU,sD,rE,↓reduceIte,rA]
    simp only[iG,if_pos hc] at hkid;refine cD ?_;simp only[↓sU,sD,rE,↓reduceIte,rA,p0,p2,p10,p11,w3];refine bB ?_;simp only[↓sU,sD,rE,↓reduceIte,rA];refine aN (ih (S:=X) (at_:=at_+1+T.length) (p:=at_) (d:=d+1) (by omega) (by omega) (by omega) hTN hSX hKX hv) ?_;rintro r Y ⟨hY,P2,D2,L2,hKY,hres⟩;cases hw:jL g.nodes.length (jX g) f (at_+1+T.length) at_ (d+1) with
    | none=>
     rw[hw] at hres hkid;subst hres;simp only[↓sU,sD,rE,↓reduceIte,rA,ex0,ex1];refine cD ?_;simp only[↓sU,sD,rE,↓reduceIte,rA,fJ,Bs];refine aT (by simp only[↓sU,sD,rE,↓reduceIte,rA]) ?_;refine cD ?_;simp only[↓sU,sD,rE,↓reduceIte,rA];refine aU ?_;simp only[↓sU,sD,rE,↓reduceIte,rA];refine .inr ⟨hX.trans hY,?_,P2,D2,L2,hKY⟩;rw[hkid];rfl
    | some T1=>
     rw[hw] at hres hkid;obtain⟨⟨v2,rfl,hv2⟩,k1,k2,k3⟩:=hres;simp only[Option.bind_some,Option.map_map] at hkid;have hwl:=(xH hw).1;simp only[↓sU,sD,rE,↓reduceIte,rA,ex0,ex1];refine cD ?_;simp only[↓sU,sD,rE,↓reduceIte,rA,fJ,Bm];refine aO (by simp only[↓sU,sD,rE,↓reduceIte,rA]) (aM ?_);try simp only[↓sU,sD,rE,↓reduceIte,rA]
     refine aE ?_;simp only[↓sU,sD,rE,↓reduceIte,rA,p48,w4];refine⟨k - 1,by omega,rfl,hX.trans hY,j+1,T++T1,P2,D2,L2,v2,by omega,by rw[Ai];omega,?_,hKY,rP.append k1,rD.append k2,rL.append k3,by rw[Ai,←Cr];exact hv2,by refine⟨?_,?_,?_,?_,?_,?_,?_⟩<;>simp only[↓sU,sD,rE,↓reduceIte,rA,p0,p2,p10,p46,p47]⟩;rw[hkid,Ai,←Cr];congr 1;funext M;simp
   ·refine aC (aO (by simp only[↓sU,sD,rE,↓reduceIte,rA,Aa (show ¬ (j:Int)<((x.next.length:Nat):Int) by omega)]) (bN ?_));simp only[↓sU,sD,rE,↓reduceIte,rA];have hk0:k=0:=by omega
    subst hk0;exact .inl ⟨rfl,hX,j,T,P',D',L',v,hjk,hTN,hkid,hKX,rP,rD,rL,hv,by refine⟨?_,?_,?_,?_,?_,?_,?_⟩<;>simp only[↓sU,sD,rE,↓reduceIte,rA,p0,p2,p10,p11,p46,p47,p48]⟩
  rintro o ⟨F,inr⟩ X (⟨rfl,q0,hX,j,T,P',D',L',v,hjk,hTN,hkid,hKX,rP,rD,rL,hv,p0,p2,p10,p11,p46,p47,p48⟩ | ⟨rfl,hX,hno,p8,p9,P',D',L',hKX⟩);rotate_left
  ·rw[hno];simp only at p8 p9;simp only[↓sU,sD,rE,↓reduceIte,rA,p8,p9];exact⟨b3.trans hX,P',D',L',hKX,rfl⟩
  simp only at q0 p0 p10 p11;subst q0;rw[Et (by omega)] at hkid;simp only[iG,Fg,Bt] at hkid;rw[hkid];have hvl:=hv.len;rw[Cy] at hvl;have w2:IntKind.i64.wrap (((g.nodes.length:Nat):Int) - ((g.nodes.length - (at_+1+T.length):Nat):Int))=((at_+1+T.length:Nat):Int):=by rw[wrap_i64 (by omega) (by omega)];omega
  have w5:IntKind.i64.wrap (((at_+1+T.length:Nat):Int) - 1)=((at_+T.length:Nat):Int):=by rw[wrap_i64 (by omega) (by omega)];omega
  have wltX:=hKX.w.2;have hia3:=jD (b:=lb) (o:=false) hlt;try simp only[↓sU,sD,rE,↓reduceIte,rA]
  refine aC (dI (fun b=>b=lb) ?_);intro S4 s4;simp only[↓sU,sD,rE,↓reduceIte,rA,p0,p10,p11,bD,bO,bE,aG,aX,aF,fY hKX.w.1,iY hKX.w.1,hnl,hvl,w2,w5,wltX,ne6,Aq,hia3,aY.self hG];have l4:=s4.1;have bpX:=hKX.bp;have bdX:=hKX.bd;have blX:=hKX.bl;refine aBi (p:=at_) (w:=((at_+T.length:Nat):Int)) rfl (by simp only[↓sU,sD,rE,↓reduceIte,rA]) (by simp only[↓sU,sD,rE,↓reduceIte,rA]) (by rw[s4.2 _ hKX.bl];exact hKX.gl) (by rw[hKX.ll];exact hlt) rfl ?_;intro S5 s5 n5 c5;simp only[↓sU,sD,rE,↓reduceIte,rA];have b5:zD pb db lb X S5:=⟨by omega,fun c hc h1 h2 h3=>by rw[s5.2 _ (by omega) h3,s4.2 _ hc]⟩;refine cD ?_;simp only[↓sU,sD,rE,↓reduceIte,rA,p11];refine aU ?_;simp only[↓sU,sD,rE,↓reduceIte,rA];have hatP:at_<P.length:=by rw[hK.lp];exact hlt
  have hatD:at_<D.length:=by rw[hK.ld];exact hlt
  have hatL:at_<L.length:=by rw[hK.ll];exact hlt
  refine⟨b3.trans (hX.trans b5),P',D',L'.set at_ ((at_+T.length:Nat):Int),⟨⟨by rw[b5.2 _ wltX ne4 ne5 ne6];exact hKX.w.1,Af wltX b5.1⟩,by rw[s5.2 _ (by omega) ne2,s4.2 _ hKX.bp];exact hKX.gp,by rw[s5.2 _ (by omega) ne3,s4.2 _ hKX.bd];exact hKX.gd,c5,hKX.lp,hKX.ld,by rw[Bn];exact hKX.ll,by show _<S5.nx;omega,by show _<S5.nx;omega,by show _<S5.nx;omega⟩,⟨v,rfl,?_⟩,?_,?_,?_⟩
  ·rw[An,show at_+(T.length+1)=at_+1+T.length by omega];exact hv
  ·exact gO.append (T:=[(p,d,((at_+T.length:Nat):Int))]) (gO.one hatP rfl) rP
  ·exact gO.append (T:=[(p,d,((at_+T.length:Nat):Int))]) (gO.one hatD rfl) rD
  ·exact gO.late rL hatL rfl
end Go.Ev.Gl
