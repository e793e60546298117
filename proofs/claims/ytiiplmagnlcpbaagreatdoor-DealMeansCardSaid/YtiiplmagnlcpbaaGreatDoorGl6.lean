import Derived.Test.YtiiplmagnlcpbaaGreatDoorGl5
set_option linter.unusedSimpArgs false
set_option linter.unusedVariables false
open Nat renaming reduceEqDiff -> rE, reduceAdd -> rA
set_option maxHeartbeats 0
namespace Go.Ev.Gl
variable {fns:T dD}
structure dI where
 kind:Int
 player:Int
 info:Int
 next:bm
 weights:bm
 pay:bm
structure pN where
 player:Int
 cd:Int
structure bD where
 b9:Int
 bw:List dI
 bz:List pN
def lC(lo hi:Int)(l:bm):Prop:=∃w∈l,w<lo\/hi<w
instance anyOutDec(lo hi:Int)(l:bm):Decidable (lC lo hi l):=by unfold lC;exact inferInstance
def uU(x:dI):Prop:=x.player≠0\/x.info≠0\/(0:Int)<(x.pay.length:Int)\/(x.next.length:Int)<1\/(60:Int)<(x.next.length:Int)\/(x.weights.length:Int)≠(x.next.length:Int)
def aAm(x:dI):Prop:=(0:Int)<(x.weights.length:Int)\/(0:Int)<(x.pay.length:Int)\/(x.next.length:Int)<1\/(10:Int)<(x.next.length:Int)
def wR(ps:Int)(x:dI):Prop:=x.player≠0\/x.info≠0\/(0:Int)<(x.next.length:Int)\/(0:Int)<(x.weights.length:Int)\/(x.pay.length:Int)≠ps
instance badCDec(x:dI):Decidable (uU x):=by unfold uU;exact inferInstance
instance badMDec(x:dI):Decidable (aAm x):=by unfold aAm;exact inferInstance
instance badEDec(ps:Int)(x:dI):Decidable (wR ps x):=by unfold wR;exact inferInstance
def jW(ps:Int)(ni:Nat)(x:dI):Int:=
 if x.kind=1 then(if uU x then 3 else if lC 1 1000 x.weights then 2 else 0)
 else if x.kind=2 then(if aAm x then 3 else if x.player<0\/ps - 1<x.player\/x.info<0\/(ni:Int) - 1<x.info then 2 else 0)
 else if x.kind=3 then(if wR ps x then 3 else if lC (-1000000) 1000000 x.pay then 2 else 0)
 else 3
def dC(S:St)(cs:bo)(x:dI):Prop:=∃a b c,cs= [.int .i64 x.kind,.int .i64 x.player,.int .i64 x.info,a,b,c]/\cH .i64 S a x.next/\cH .i64 S b x.weights/\cH .i64 S c x.pay
theorem cR:aKe dC:=fun⟨a,b,c,h,h1,h2,h3⟩ hs=>⟨a,b,c,h,h1.same hs,h2.same hs,h3.same hs⟩
def fO(_:St)(cs:bo)(x:pN):Prop:=cs= [.int .i64 x.player,.int .i64 x.cd]
theorem fC:aKe fO:=fun h _=>h
theorem ldc{h:T AB}{b j:Nat}{cs:bo}{x:AV}{o:Bool}{s:Nat}(hb:h.get b=some (.cells cs o s))(hj:cs[j]? =some x):dJ (.ptr b (0+j)) false 1 h=some x:=by
 simp only[dJ,iQ,aR,jQ,cA,hb,aH,dN,jY,Ao,hj]
theorem tR{h:T AB}{b n:Nat}{cs:bo}{o:Bool}{s:Nat}(hb:h.get b=some (.cells cs o s))(hn:cs.length=n):dJ (.ptr b 0) true n h=some (.agg cs):=by
 subst hn;simp only[dJ,iQ,aN,oM,cA,hb,aH,dN];unfold cut;rw[jC,jM,Dn,if_pos (Af _),Fk];rfl
section
variable {h:T AB}{b:Nat}{x0 x1 x2 x3 x4 x5:AV}{o:Bool}{s:Nat}
theorem mN(hb:h.get b=some (.cells [x0,x1,x2,x3,x4,x5] o s)):dJ (.ptr b (0+0)) false 1 h=some x0:=ldc hb rfl
theorem kD(hb:h.get b=some (.cells [x0,x1,x2,x3,x4,x5] o s)):dJ (.ptr b (0+1)) false 1 h=some x1:=ldc hb rfl
theorem kC(hb:h.get b=some (.cells [x0,x1,x2,x3,x4,x5] o s)):dJ (.ptr b (0+2)) false 1 h=some x2:=ldc hb rfl
theorem jU(hb:h.get b=some (.cells [x0,x1,x2,x3,x4,x5] o s)):dJ (.ptr b (0+3)) false 1 h=some x3:=ldc hb rfl
theorem kE(hb:h.get b=some (.cells [x0,x1,x2,x3,x4,x5] o s)):dJ (.ptr b (0+4)) false 1 h=some x4:=ldc hb rfl
theorem mV(hb:h.get b=some (.cells [x0,x1,x2,x3,x4,x5] o s)):dJ (.ptr b (0+5)) false 1 h=some x5:=ldc hb rfl
theorem ldN(hb:h.get b=some (.cells [x0,x1,x2,x3,x4,x5] o s)):dJ (.ptr b 0) true 6 h=some (.agg [x0,x1,x2,x3,x4,x5]):=tR hb rfl
end
section
variable {k:Nat}{α:Type}{E:St->bo->α->Prop}{S:St}{v:AV}{l:List α}
theorem bH.at(h:bH k E S v l)(hk:0<k){i:Nat}{a:α}(hi:l[i]? =some a):∃e b p,dT (.slice k) v i=some (.ptr b p)/\b<S.nx/\e.length=k/\E S e a/\dJ (.ptr b p) true k S.h=some (.agg e)/\∀j x,e[j]? =some x->dJ (.ptr b (p+j)) false 1 S.h=some x:=by
 have⟨e,b,p,h1,h2,h3,h4,cs,h5,h6⟩:=h.get hi;have hlt:=(Ai.1 hi).1;refine⟨e,b,p,by rw[<-h1];exact h.cq hlt,h2,h3,h4,?_,fun j x hj=>?_⟩
 ·simp only[dJ,iQ,aN,oM,h5,aH];have hcut:cut cs p k=some e:=by
   have hle:p+k<=cs.length:=by
    have:=h6 (k - 1) (e[k - 1]' au) (Ad au);have:=(Ai.1 this).1;omega
   unfold cut;rw[jC,jM,if_pos (by rw[Fp];omega)];congr 1;refine List.ext_getElem (by rw[Bq,Fp];omega) fun j j1 j2=>?_;have:=h6 j e[j] (Ad j2);rw[List.getElem_take,List.getElem_drop];exact(Ai.1 this).2
  rw[hcut,aH]
 ·simp only[dJ,iQ,aR,jQ,h5,aH,jY];exact h6 j x hj
end
theorem aIt{lo hi:Int}{l:bm}{i:Nat}(hi':i<l.length)(h:¬lC lo hi (l.take i))(h2:¬ (l.getD i 0<lo\/hi<l.getD i 0)):¬lC lo hi (l.take (i+1)):=by
 rintro⟨w,hw,ho⟩;rw[Dh,Ad hi'] at hw;rcases Bs.1 hw with h1 | h1
 ·exact h ⟨w,h1,ho⟩
 ·simp at h1;rw[Ae,Ad hi'] at h2;subst h1;exact h2 ho
theorem aJp{lo hi:Int}{l:bm}{i:Nat}(hi':i<l.length)(h2:l.getD i 0<lo\/hi<l.getD i 0):lC lo hi l:=by
 rw[Ae,Ad hi'] at h2;exact⟨l[i],Cv hi',h2⟩
theorem cH.self{k:IntKind}{S:St}{v:AV}{l:bm}(h:cH k S v l):cQ v v=true:=by
 rcases h with⟨_,h | h⟩ | ⟨b,off,cap,o,cs,rfl,_⟩
 ·subst h;rfl
 ·subst h;rfl
 ·exact rX ..
theorem bH.self{k:Nat}{α:Type}{E:St->bo->α->Prop}{S:St}{v:AV}{l:List α}(h:bH k E S v l):cQ v v=true:=by
 rcases h with⟨_,h | h⟩ | ⟨b,off,cap,o,cs,rfl,_⟩
 ·subst h;rfl
 ·subst h;rfl
 ·exact rX ..
theorem aOx{k:IntKind}{S:St}{b:Nat}{z:Int}(hb:b<S.nx)(h:S.h.get b=some (.cells [.int k z] false 0)):cH k S (.sl b 0 1 1 false) [z]:=by
 refine .inr ⟨b,0,1,false,[.int k z],rfl,Af _,hb,by unfold cA;rw[h];rfl,fun i x hi=>?_⟩;cases i with
 | zero=>simp at hi;subst hi;rfl
 | succ i=>simp at hi
theorem aEo{lo hi z:Int}:lC lo hi [z]↔z<lo\/hi<z:=by
 unfold lC;simp
theorem aFh{x0 x1 x2 x3 x4 x5:AV}(h0:cQ x0 x0=true)(h1:cQ x1 x1=true)(h2:cQ x2 x2=true)(h3:cQ x3 x3=true)(h4:cQ x4 x4=true)(h5:cQ x5 x5=true):cQ (.agg [x0,x1,x2,x3,x4,x5]) (.agg [x0,x1,x2,x3,x4,x5])=true:=by
 simp only[cQ,oZ,h0,h1,h2,h3,h4,h5,aN]
theorem aMm{S:St}{b3 b4:Nat}{lo hi w:Int}(H:Has fns)(g3:S.h.get b3=some (.cells [.int .i64 lo] false 0))(g4:S.h.get b4=some (.cells [.int .i64 hi] false 0)):eT fns (.fn 149 [] [.ptr b3 0,.ptr b4 0]) [.int .i64 w] S fun r S'=>r= .bool (decide (w<lo\/hi<w))/\S'=S:=by
 have l3:dJ (.ptr b3 0) false 1 S.h=some (.int .i64 lo):=ldc (j:=0) g3 rfl;have l4:dJ (.ptr b4 0) false 1 S.h=some (.int .i64 hi):=ldc (j:=0) g4 rfl;refine bL H.f149 (by simp) ?_;refine aj ?_;refine bK (aj ?_);refine bK ?_;by_cases h1:w<lo
 ·rw[Ac (show w<lo\/hi<w from .inl h1)];refine eo l3 (Ac h1) ?_;refine aK ?_;simp only[↓stU,aG,rE,↓reduceIte]
 ·by_cases h2:hi<w
  ·rw[Ac (show w<lo\/hi<w from .inr h2)];refine eu l3 l4 (Aa h1) (Ac h2) ?_;refine aK ?_;simp only[↓stU,aG,rE,↓reduceIte]
  ·rw[Aa (show ¬ (w<lo\/hi<w) by omega)];refine eu l3 l4 (Aa h1) (Aa h2) ?_;refine aK ?_;simp only[↓stU,aG,rE,↓reduceIte]
def aTr(S:St)(v f:AV)(lo hi:Int)(l:bm)(k:Nat)(A:bN)(X:St):Prop:=A.inr=false/\X=S/\∃i,i+k=l.length/\¬lC lo hi (l.take i)/\aB 0 A.F=v/\aB 1 A.F=f/\aB 7 A.F= .int .i64 (l.length:Int)/\aB 8 A.F= .int .i64 (i:Int)
theorem aJL{S:St}{b3 b4:Nat}{lo hi:Int}{v:AV}{l:bm}(H:Has fns)(g3:S.h.get b3=some (.cells [.int .i64 lo] false 0))(g4:S.h.get b4=some (.cells [.int .i64 hi] false 0))(hl:cH .i64 S v l)(hlen:l.length<=1000000):eT fns (.fn 154 [] []) [v,.fn 149 [] [.ptr b3 0,.ptr b4 0]] S fun r S'=>(∃z,r= .int .i64 z/\(0<=z↔lC lo hi l))/\S'=S:=by
 refine bL H.f154 (by simp) ?_;refine aj ?_;refine bK (aj ?_);refine fA (eo hl.len @Ak ?_);refine aQ (bX (aTr S v (.fn 149 [] [.ptr b3 0,.ptr b4 0]) lo hi l) ?_ l.length _ _ ⟨rfl,rfl,0,au,(by rintro⟨w,h,_⟩;simp at h),by refine⟨?_,?_,?_,?_⟩<;>simp only[↓stU,aG,rE,↓reduceIte]⟩);rintro k ⟨F,inr⟩ X ⟨q0,hX,j,hjk,ha,p0,p1,p7,p8⟩;simp only at q0 p0 p1 p7 p8;subst q0;rw[hX];refine bK (eo p7 p8 ?_);by_cases hj:j<l.length
 ·refine aE (aP (by simp only[↓stU,aG,rE,↓reduceIte,Ac (show(j:Int)<(l.length:Int) by omega)]) (aJ ?_));refine aj ?_;have hia:=hl.cq hj;have hld:=hl.ld hj;have htk:=aIt (lo:=lo) (hi:=hi) hj ha;have hget:=aJp (lo:=lo) (hi:=hi) hj;generalize l.getD j 0=w at *;have w1:=dk j
  refine aE (aQ (aE (aM ?_)));refine ek p8 ?_;refine bK (fa p0 p1 @aW hia hld ?_);refine aL (aj ?_);refine aF (aMm H g3 g4) ?_;rintro _ Y ⟨rfl,hY⟩;rw[hY];try refine aj ?_
  by_cases ho:w<lo\/hi<w
  ·refine aP (by simp only[↓stU,aG,rE,↓reduceIte,Ac ho]) ?_;refine bK (aj ?_);refine aK (aj ?_);exact⟨_,rfl,⟨fun _=>hget ho,fun _=>au⟩⟩
  ·refine aO (by simp only[↓stU,aG,rE,↓reduceIte,Aa ho]) (aJ ?_);try refine aj ?_
   refine aM (eo p8 w1 ?_);exact⟨k - 1,au,rfl,rfl,j+1,au,htk ho,by refine⟨?_,?_,?_,?_⟩<;>simp only[↓stU,aG,rE,↓reduceIte,p0,p1,p7]⟩
 ·refine aE (aO (by simp only[↓stU,aG,rE,↓reduceIte,Aa (show ¬ (j:Int)<(l.length:Int) by omega)]) (bS ?_));refine aj ?_;have hno:¬lC lo hi l:=by rw[Ay au] at ha;exact ha
  refine bK (aj ?_);refine aK (aj ?_);exact⟨_,rfl,⟨fun h=>absurd h ay,fun h=>absurd h hno⟩⟩
theorem aJV{S:St}{b3 b4:Nat}{lo hi:Int}{v:AV}{l:bm}(H:Has fns)(g3:S.h.get b3=some (.cells [.int .i64 lo] false 0))(g4:S.h.get b4=some (.cells [.int .i64 hi] false 0))(hl:cH .i64 S v l)(hlen:l.length<=1000000):eT fns (.fn 148 [] []) [v,.fn 149 [] [.ptr b3 0,.ptr b4 0]] S fun r S'=>r= .bool (decide (lC lo hi l))/\S'=S:=by
 refine bL H.f148 (by simp) ?_;refine aj ?_;refine bK (aj ?_);refine bK (aj ?_);refine aL (aj ?_);refine aF (aJL H g3 g4 hl hlen) ?_;rintro _ Y ⟨⟨z,rfl,hz⟩,hY⟩;rw[hY];have hd:decide ((0:Int)<=z)=decide (lC lo hi l):=by rw[Dd,Gp,Gp];exact hz
 refine ek hd ?_;refine aK ?_;simp only[↓stU,aG,rE,↓reduceIte]
theorem sM{S:St}{lo hi:Int}{v:AV}{l:bm}(H:Has fns)(hl:cH .i64 S v l)(hlen:l.length<=1000000):eT fns (.fn 130 [] []) [.int .i64 lo,.int .i64 hi,v] S fun r S'=>r= .int .i64 (if lC lo hi l then 2 else 0)/\Same S S':=by
 refine bL H.f130 (by simp) ?_;refine aj ?_;refine bK ?_;refine cD (by refine aj ?_;exact cN _ _) ?_;intro S1 s1 n1 c1;refine cD (by refine aj ?_;exact cN _ _) ?_;intro S2 s2 n2 c2;refine aj ?_;have sS:=s1.trans s2;refine fA (ek @uF ?_);refine aL (aj ?_);refine aF (aJV H (by rw[s2.2 _ au];exact c1) c2 (hl.same sS) hlen) ?_;rintro _ Y ⟨rfl,hY⟩;rw[hY];try refine aj ?_
 by_cases ho:lC lo hi l
 ·rw[if_pos ho];refine aP (by simp only[↓stU,aG,rE,↓reduceIte,Ac ho]) ?_;refine bK (aj ?_);refine aK (aj ?_);exact sS
 ·rw[if_neg ho];refine aO (by simp only[↓stU,aG,rE,↓reduceIte,Aa ho]) (aJ ?_);try refine aj ?_
  refine bK (aj ?_);refine aK (aj ?_);exact sS
def aBC(S:St)(wb:Nat)(ps:Int)(n i p d l:AV):Prop:=S.h.get wb=some (.cells [.int .i64 ps,n,i,p,d,l] false 0)/\wb<S.nx
theorem aBC.same{S S':St}{wb:Nat}{ps:Int}{n i p d l:AV}(h:aBC S wb ps n i p d l)(hs:Same S S'):aBC S' wb ps n i p d l:=⟨(hs.2 _ h.2).trans h.1,Ag h.2 hs.1⟩
section
variable {S:St}{wb:Nat}{ps:Int}{n i p d l:AV}{ni:Nat}{cs:bo}{x:dI}
theorem aH3(H:Has fns)(hx:dC S cs x):eT fns (.fn 110 [] []) [.ptr wb 0,.agg cs] S fun r S'=>r= .int .i64 (if uU x then 3 else if lC 1 1000 x.weights then 2 else 0)/\Same S S':=by
 obtain⟨a,b,c,rfl,hn,hw,hp⟩:=hx;refine bL H.f110 (by simp) ?_;refine aj ?_;refine bK ?_;refine cD (by refine aj ?_;exact aS _) ?_;intro S2 s2 n2 g3;refine aj ?_;have hn2:=hn.same s2;have hw2:=hw.same s2;have hp2:=hp.same s2;refine aE (aE (bG (Q:=fun o A' X=>o= .normal/\A'.inr=false/\X=S2/\aB 3 A'.F= .ptr S.nx 0/\aB 39 A'.F= .bool (decide (uU x))) (aM ?_) ?_))
 ·by_cases c0:x.player≠0
  ·rw[Ac (show uU x from .inl c0)];simp only[↓stU,aG,rE,↓reduceIte,aD,aC,kD g3,kC g3,jU g3,kE g3,mV g3,hn2.len,hw2.len,hp2.len,Ak,Ac c0]
  by_cases c1:x.info≠0
  ·rw[Ac (show uU x from .inr (.inl c1))];simp only[↓stU,aG,rE,↓reduceIte,aD,aC,kD g3,kC g3,jU g3,kE g3,mV g3,hn2.len,hw2.len,hp2.len,Ak,Aa c0,Ac c1]
  by_cases c2:(0:Int)<(x.pay.length:Int)
  ·rw[Ac (show uU x from .inr (.inr (.inl c2)))];simp only[↓stU,aG,rE,↓reduceIte,aD,aC,kD g3,kC g3,jU g3,kE g3,mV g3,hn2.len,hw2.len,hp2.len,Ak,Aa c0,Aa c1,Ac c2]
  by_cases c3:(x.next.length:Int)<1
  ·rw[Ac (show uU x from .inr (.inr (.inr (.inl c3))))];simp only[↓stU,aG,rE,↓reduceIte,aD,aC,kD g3,kC g3,jU g3,kE g3,mV g3,hn2.len,hw2.len,hp2.len,Ak,Aa c0,Aa c1,Aa c2,Ac c3]
  by_cases c4:(60:Int)<(x.next.length:Int)
  ·rw[Ac (show uU x from .inr (.inr (.inr (.inr (.inl c4)))))];simp only[↓stU,aG,rE,↓reduceIte,aD,aC,kD g3,kC g3,jU g3,kE g3,mV g3,hn2.len,hw2.len,hp2.len,Ak,Aa c0,Aa c1,Aa c2,Aa c3,Ac c4]
  by_cases c5:(x.weights.length:Int)≠(x.next.length:Int)
  ·rw[Ac (show uU x from .inr (.inr (.inr (.inr (.inr (c5))))))];simp only[↓stU,aG,rE,↓reduceIte,aD,aC,kD g3,kC g3,jU g3,kE g3,mV g3,hn2.len,hw2.len,hp2.len,Ak,Aa c0,Aa c1,Aa c2,Aa c3,Aa c4,Ac c5]
  rw[Aa (show ¬uU x by rintro(h0 | h1 | h2 | h3 | h4 | h5)<;>first | exact c0 h0 | exact c1 h1 | exact c2 h2 | exact c3 h3 | exact c4 h4 | exact c5 h5)];simp only[↓stU,aG,rE,↓reduceIte,aD,aC,kD g3,kC g3,jU g3,kE g3,mV g3,hn2.len,hw2.len,hp2.len,Ak,Aa c0,Aa c1,Aa c2,Aa c3,Aa c4,Aa c5]
 rintro o ⟨F,inr⟩ X ⟨rfl,q0,hX,p3,pb⟩;simp only at q0 p3 pb;subst q0;rw[hX];have sX:=s2;try refine aj ?_
 by_cases bad:uU x
 ·rw[if_pos bad];refine aP (by simp only[↓stU,aG,rE,↓reduceIte,pb,Ac bad]) ?_;refine bK (aj ?_);refine aK (aj ?_);exact sX
 rw[if_neg bad];refine aO (by simp only[↓stU,aG,rE,↓reduceIte,pb,Aa bad]) (aJ ?_);try refine aj ?_
 have hlen:x.weights.length<=60:=by unfold uU at bad;omega
 refine bK (eu p3 @aD @aC (kE g3) ?_);refine aL (aj ?_);refine aF (sM H hw2 au) ?_;rintro _ Y ⟨rfl,hY⟩;try refine aj ?_
 refine aK (aj ?_);exact s2.trans hY
theorem aMh(H:Has fns)(hx:dC S cs x)(hW:aBC S wb ps n i p d l)(hps:1<=ps/\ps<=4)(hi:lB i=some (.int .i64 ((ni:Nat):Int)))(hni:ni<=1000)(hsi:cQ i i=true):eT fns (.fn 111 [] []) [.ptr wb 0,.agg cs] S fun r S'=>r= .int .i64 (if aAm x then 3 else if x.player<0\/ps - 1<x.player\/x.info<0\/(ni:Int) - 1<x.info then 2 else 0)/\Same S S':=by
 obtain⟨a,b,c,rfl,hn,hw,hp⟩:=hx;refine bL H.f111 (by simp) ?_;refine aj ?_;refine bK ?_;refine cD (by refine aj ?_;exact aS _) ?_;intro S2 s2 n2 g3;refine aj ?_;have hn2:=hn.same s2;have hw2:=hw.same s2;have hp2:=hp.same s2;have hW2:=hW.same s2;refine aE (aE (bG (Q:=fun o A' X=>o= .normal/\A'.inr=false/\X=S2/\aB 0 A'.F= .ptr wb 0/\aB 3 A'.F= .ptr S.nx 0/\aB 27 A'.F= .bool (decide (aAm x))) (aM ?_) ?_))
 ·by_cases c0:(0:Int)<(x.weights.length:Int)
  ·rw[Ac (show aAm x from .inl c0)];simp only[↓stU,aG,rE,↓reduceIte,aD,aC,kD g3,kC g3,jU g3,kE g3,mV g3,hn2.len,hw2.len,hp2.len,Ak,Ac c0]
  by_cases c1:(0:Int)<(x.pay.length:Int)
  ·rw[Ac (show aAm x from .inr (.inl c1))];simp only[↓stU,aG,rE,↓reduceIte,aD,aC,kD g3,kC g3,jU g3,kE g3,mV g3,hn2.len,hw2.len,hp2.len,Ak,Aa c0,Ac c1]
  by_cases c2:(x.next.length:Int)<1
  ·rw[Ac (show aAm x from .inr (.inr (.inl c2)))];simp only[↓stU,aG,rE,↓reduceIte,aD,aC,kD g3,kC g3,jU g3,kE g3,mV g3,hn2.len,hw2.len,hp2.len,Ak,Aa c0,Aa c1,Ac c2]
  by_cases c3:(10:Int)<(x.next.length:Int)
  ·rw[Ac (show aAm x from .inr (.inr (.inr (c3))))];simp only[↓stU,aG,rE,↓reduceIte,aD,aC,kD g3,kC g3,jU g3,kE g3,mV g3,hn2.len,hw2.len,hp2.len,Ak,Aa c0,Aa c1,Aa c2,Ac c3]
  rw[Aa (show ¬aAm x by rintro(h0 | h1 | h2 | h3)<;>first | exact c0 h0 | exact c1 h1 | exact c2 h2 | exact c3 h3)];simp only[↓stU,aG,rE,↓reduceIte,aD,aC,kD g3,kC g3,jU g3,kE g3,mV g3,hn2.len,hw2.len,hp2.len,Ak,Aa c0,Aa c1,Aa c2,Aa c3]
 rintro o ⟨F,inr⟩ X ⟨rfl,q0,hX,p0,p3,pb⟩;simp only at q0 p0 p3 pb;subst q0;rw[hX];have sX:=s2;try refine aj ?_
 by_cases bad:aAm x
 ·rw[if_pos bad];refine aP (by simp only[↓stU,aG,rE,↓reduceIte,pb,Ac bad]) ?_;refine bK (aj ?_);refine aK (aj ?_);exact sX
 rw[if_neg bad];refine aO (by simp only[↓stU,aG,rE,↓reduceIte,pb,Aa bad]) (aJ ?_);try refine aj ?_
 have w1:IntKind.i64.wrap (ps - 1)=ps - 1:=wrap_i64 au au;have w2:IntKind.i64.wrap ((ni:Int) - 1)=(ni:Int) - 1:=wrap_i64 au au;have lt3:S.nx<S2.nx:=by omega
 refine aE (aE (uD (fun _=>False) ?_));intro S3 s3 h3 n3;simp only[Av,Co,rA] at n3;simp only[↓sU,sD,rE,↓reduceIte,rA,p0,p3,aY,bT,bB,aD,aX,aC,mN hW2.1,kD g3,w1,hW2.2,lt3,Am];rw[lI (k:=.i64) (n:=x.player) (af)];refine ae ?_;refine aAb ay rfl ?_;intro S4 s4 n4 c4;refine ae ?_;have s34:Same S2 S4:=s4.same s3 au;refine aF (sM H (aOx au c4) (by simp)) ?_;rintro _ Y ⟨rfl,hY⟩;refine⟨hY,?_⟩;refine cp @aEo ?_;have sY:=s2.trans (s34.trans hY);refine bK (ae ?_);by_cases h1:x.player<0\/ps - 1<x.player
 ·rw[if_pos (show x.player<0\/ps - 1<x.player\/x.info<0\/(ni:Int) - 1<x.info by omega)];refine aP (by simp only[↓sU,sD,rE,↓reduceIte,rA,if_pos h1];rfl) ?_;refine bK ?_;simp only[↓sU,sD,rE,↓reduceIte,rA,if_pos h1];refine aK (ae ?_);exact sY
 refine aO (by simp only[↓sU,sD,rE,↓reduceIte,rA,if_neg h1];rfl) (aJ ?_);try refine ae ?_
 have hWY:=hW.same sY;have g3Y:Y.h.get S.nx=some (.cells [.int .i64 x.kind,.int .i64 x.player,.int .i64 x.info,a,b,c] false 0):=by rw[(s34.trans hY).2 _ lt3];exact g3
 have lt3Y:S.nx<Y.nx:=Ag lt3 (s34.trans hY).1;refine aE (uD (fun _=>False) ?_);intro S5 s5 h5 n5;simp only[Av,Co,rA] at n5;simp only[↓sU,sD,rE,↓reduceIte,rA,p0,p3,aY,bT,bB,aD,aX,aC,kC hWY.1,hi,hsi,kC g3Y,w2,hWY.2,lt3Y,Am];rw[lI (k:=.i64) (n:=x.info) (af)];refine ae ?_;refine aAb ay rfl ?_;intro S6 s6 n6 c6;refine ae ?_;have s56:Same Y S6:=s6.same s5 au;refine aF (sM H (aOx au c6) (by simp)) ?_;rintro _ Z ⟨rfl,hZ⟩;refine⟨hZ,?_⟩;refine cp @aEo ?_;refine aK (ae ?_);refine⟨?_,sY.trans (s56.trans hZ)⟩;by_cases h2:x.info<0\/(ni:Int) - 1<x.info
 ·rw[if_pos h2,if_pos au]
 ·rw[if_neg h2,if_neg au]
theorem aPc(H:Has fns)(hx:dC S cs x)(hW:aBC S wb ps n i p d l)(hps:1<=ps/\ps<=4):eT fns (.fn 112 [] []) [.ptr wb 0,.agg cs] S fun r S'=>r= .int .i64 (if wR ps x then 3 else if lC (-1000000) 1000000 x.pay then 2 else 0)/\Same S S':=by
 obtain⟨a,b,c,rfl,hn,hw,hp⟩:=hx;refine bL H.f112 (by simp) ?_;refine aj ?_;refine bK ?_;refine cD (by refine aj ?_;exact aS _) ?_;intro S2 s2 n2 g3;refine aj ?_;have hn2:=hn.same s2;have hw2:=hw.same s2;have hp2:=hp.same s2;have hW2:=hW.same s2;have sn:=cH.self hn2;have sw:=cH.self hw2;have sp:=cH.self hp2;refine aE (aE (bG (Q:=fun o A' X=>o= .normal/\A'.inr=false/\Same S2 X/\aB 3 A'.F= .ptr S.nx 0/\aB 35 A'.F= .bool (decide (wR ps x))) (jK ?_) ?_))
 ·have sX:=Same.nx S2 31;by_cases c0:x.player≠0
  ·rw[Ac (show wR ps x from .inl c0)];simp only[↓stU,aG,rE,↓reduceIte,aD,aC,kD g3,kC g3,jU g3,kE g3,mV g3,hn2.len,hw2.len,hp2.len,Ak,aY,bT,bB,aX,iI,mN hW2.1,sn,sw,sp,Ac c0];exact Same.nx S2 _
  by_cases c1:x.info≠0
  ·rw[Ac (show wR ps x from .inr (.inl c1))];simp only[↓stU,aG,rE,↓reduceIte,aD,aC,kD g3,kC g3,jU g3,kE g3,mV g3,hn2.len,hw2.len,hp2.len,Ak,aY,bT,bB,aX,iI,mN hW2.1,sn,sw,sp,Aa c0,Ac c1];exact Same.nx S2 _
  by_cases c2:(0:Int)<(x.next.length:Int)
  ·rw[Ac (show wR ps x from .inr (.inr (.inl c2)))];simp only[↓stU,aG,rE,↓reduceIte,aD,aC,kD g3,kC g3,jU g3,kE g3,mV g3,hn2.len,hw2.len,hp2.len,Ak,aY,bT,bB,aX,iI,mN hW2.1,sn,sw,sp,Aa c0,Aa c1,Ac c2];exact Same.nx S2 _
  by_cases c3:(0:Int)<(x.weights.length:Int)
  ·rw[Ac (show wR ps x from .inr (.inr (.inr (.inl c3))))];simp only[↓stU,aG,rE,↓reduceIte,aD,aC,kD g3,kC g3,jU g3,kE g3,mV g3,hn2.len,hw2.len,hp2.len,Ak,aY,bT,bB,aX,iI,mN hW2.1,sn,sw,sp,Aa c0,Aa c1,Aa c2,Ac c3];exact Same.nx S2 _
  by_cases c4:(x.pay.length:Int)≠ps
  ·rw[Ac (show wR ps x from .inr (.inr (.inr (.inr (c4)))))];simp only[↓stU,aG,rE,↓reduceIte,aD,aC,kD g3,kC g3,jU g3,kE g3,mV g3,hn2.len,hw2.len,hp2.len,Ak,aY,bT,bB,aX,iI,mN hW2.1,sn,sw,sp,Aa c0,Aa c1,Aa c2,Aa c3,Ac c4];exact Same.nx S2 _
  rw[Aa (show ¬wR ps x by rintro(h0 | h1 | h2 | h3 | h4)<;>first | exact c0 h0 | exact c1 h1 | exact c2 h2 | exact c3 h3 | exact c4 h4)];simp only[↓stU,aG,rE,↓reduceIte,aD,aC,kD g3,kC g3,jU g3,kE g3,mV g3,hn2.len,hw2.len,hp2.len,Ak,aY,bT,bB,aX,iI,mN hW2.1,sn,sw,sp,Aa c0,Aa c1,Aa c2,Aa c3,Aa c4];exact Same.nx S2 _
 rintro o ⟨F,inr⟩ X ⟨rfl,q0,hX,p3,pb⟩;simp only at q0 p3 pb;subst q0;have sX:=s2.trans hX;have g3X:X.h.get S.nx=some (.cells [.int .i64 x.kind,.int .i64 x.player,.int .i64 x.info,a,b,c] false 0):=by rw[hX.2 _ au];exact g3
 try refine aj ?_
 by_cases bad:wR ps x
 ·rw[if_pos bad];refine aP (by simp only[↓stU,aG,rE,↓reduceIte,pb,Ac bad]) ?_;refine bK (aj ?_);refine aK (aj ?_);exact sX
 rw[if_neg bad];refine aO (by simp only[↓stU,aG,rE,↓reduceIte,pb,Aa bad]) (aJ ?_);try refine aj ?_
 have hlen:x.pay.length<=60:=by unfold wR at bad;omega
 have hneg:Int.negSucc 999999= -1000000:=rfl;refine bK (eu p3 @aD @aC (mV g3X) ?_);refine aL (ek hneg ?_);refine aF (sM H (hp2.same hX) au) ?_;rintro _ Y ⟨rfl,hY⟩;try refine aj ?_
 refine aK (aj ?_);exact sX.trans hY
end
section
variable {S:St}{wb:Nat}{ps:Int}{n i p d l:AV}{ni:Nat}{cs:bo}{x:dI}
theorem aLD(H:Has fns)(hx:dC S cs x)(hW:aBC S wb ps n i p d l)(hps:1<=ps/\ps<=4)(hi:lB i=some (.int .i64 ((ni:Nat):Int)))(hni:ni<=1000)(hsi:cQ i i=true):eT fns (.fn 91 [] []) [.ptr wb 0,.agg cs] S fun r S'=>r= .int .i64 (jW ps ni x)/\Same S S':=by
 obtain⟨a,b,c,rfl,hn,hw,hp⟩:=id hx;refine bL H.f91 (by simp) ?_;refine aj ?_;refine bK ?_;refine cD (by refine aj ?_;exact aS _) ?_;intro S1 s1 n1 g3;refine aj ?_;have hbd:∀ (F:Fr) (h:T AB),iT (.build [.nilfn,.nilfn,.nilfn,.nilfn] [(1,1,.c (.fn 110 [] [])),(2,1,.c (.fn 111 [] [])),(3,1,.c (.fn 112 [] []))]) F h=some (.agg [.nilfn,.fn 110 [] [],.fn 111 [] [],.fn 112 [] []]):=fun _ _=>rfl;refine bK (ek hbd ?_);refine cM ?_;intro S2 s2 n2 c2;refine dH (b:=S1.nx) (ak) (by refine aj ?_;exact aS _) c2 rfl rfl ?_;intro S3 s3 n3 c3;refine aj ?_;have s13:Same S1 S3:=s3.same s2 (Af _);have sS:=s1.trans s13;have g3:S3.h.get S.nx=some (.cells [.int .i64 x.kind,.int .i64 x.player,.int .i64 x.info,a,b,c] false 0):=by rw[s13.2 _ au];exact g3
 have lt3:S.nx<S3.nx:=by omega
 have lt5:S1.nx<S3.nx:=by omega
 have hx3:dC S3 [.int .i64 x.kind,.int .i64 x.player,.int .i64 x.info,a,b,c] x:=cR hx sS;have hW3:=hW.same sS;have sl:=aFh (kO .i64 x.kind) (kO .i64 x.player) (kO .i64 x.info) (cH.self hn) (cH.self hw) (cH.self hp);unfold jW;refine aE (aE (bG (Q:=fun o A' X=>o= .normal/\A'.inr=false/\X=S3/\aB 0 A'.F= .ptr wb 0/\aB 3 A'.F= .ptr S.nx 0/\aB 5 A'.F= .ptr S1.nx 0/\aB 14 A'.F= .bool (decide (x.kind<1\/3<x.kind))) (aM ?_) ?_))
 ·by_cases h1:x.kind<1
  ·rw[Ac (show x.kind<1\/3<x.kind from .inl h1)];simp only[↓stU,aG,rE,↓reduceIte,aD,aC,mN g3,Ac h1]
  ·by_cases h2:3<x.kind
   ·rw[Ac (show x.kind<1\/3<x.kind from .inr h2)];simp only[↓stU,aG,rE,↓reduceIte,aD,aC,mN g3,Aa h1,Ac h2]
   ·rw[Aa (show ¬ (x.kind<1\/3<x.kind) by omega)];simp only[↓stU,aG,rE,↓reduceIte,aD,aC,mN g3,Aa h1,Aa h2]
 rintro o ⟨F,inr⟩ X ⟨rfl,q0,hX,p0,p3,p5,pb⟩;simp only at q0 p0 p3 p5 pb;subst q0;rw[hX];try refine aj ?_
 by_cases bad:x.kind<1\/3<x.kind
 ·rw[if_neg au,if_neg au,if_neg au];refine aP (by simp only[↓stU,aG,rE,↓reduceIte,pb,Ac bad]) ?_;refine bK (aj ?_);refine aK (aj ?_);exact sS
 refine aO (by simp only[↓stU,aG,rE,↓reduceIte,pb,Aa bad]) (aJ ?_);try refine aj ?_
 have hld:∀j y,[AV.nilfn,.fn 110 [] [],.fn 111 [] [],.fn 112 [] []][j]? =some y->dJ (.ptr S1.nx j) false 1 S3.h=some y:=fun j y hy=>by have:=ldc (j:=j) c3 hy;rw[Ao] at this;exact this
 have n1':dS (.int .i64 1)=some 1:=rfl;have n2':dS (.int .i64 2)=some 2:=rfl;have n3':dS (.int .i64 3)=some 3:=rfl;have i1:dT (.arr 4 1) (.ptr S1.nx 0) 1=some (.ptr S1.nx 1):=rfl;have i2:dT (.arr 4 1) (.ptr S1.nx 0) 2=some (.ptr S1.nx 2):=rfl;have i3:dT (.arr 4 1) (.ptr S1.nx 0) 3=some (.ptr S1.nx 3):=rfl;have l1:=hld 1 _ rfl;have l2:=hld 2 _ rfl;have l3:=hld 3 _ rfl;have f1:cQ (.fn 110 [] []) (.fn 110 [] [])=true:=rfl;have f2:cQ (.fn 111 [] []) (.fn 111 [] [])=true:=rfl;have f3:cQ (.fn 112 [] []) (.fn 112 [] [])=true:=rfl;have g3':=ldN g3;refine aE (fJ (fun _=>False) ?_);intro S4 s4;by_cases k1:x.kind=1
 ·rw[if_pos k1];rw[k1] at g3 g3' sl hx3;simp only[↓sU,sD,rE,↓reduceIte,rA,p0,p3,p5,aD,aX,aC,mN g3,n1',i1,l1,f1,g3',sl,lt3,lt5,Am];refine cF rfl ?_;refine ae ?_;refine aF (aH3 H (by have:=cR hx (sS.trans s4);rw[k1] at this;exact this)) ?_;rintro _ Y ⟨rfl,hY⟩;refine⟨hY,?_⟩;try refine ae ?_
  refine aK (ae ?_);exact sS.trans (s4.trans hY)
 by_cases k2:x.kind=2
 ·rw[if_neg k1,if_pos k2];rw[k2] at g3 g3' sl;simp only[↓sU,sD,rE,↓reduceIte,rA,p0,p3,p5,aD,aX,aC,mN g3,n2',i2,l2,f2,g3',sl,lt3,lt5,Am];refine cF rfl ?_;refine ae ?_;refine aF (aMh H (by have:=cR hx (sS.trans s4);rw[k2] at this;exact this) (hW3.same s4) hps hi hni hsi) ?_;rintro _ Y ⟨rfl,hY⟩;refine⟨hY,?_⟩;try refine ae ?_
  refine aK (ae ?_);exact sS.trans (s4.trans hY)
 have k3:x.kind=3:=by omega
 rw[if_neg k1,if_neg k2,if_pos k3];rw[k3] at g3 g3' sl;simp only[↓sU,sD,rE,↓reduceIte,rA,p0,p3,p5,aD,aX,aC,mN g3,n3',i3,l3,f3,g3',sl,lt3,lt5,Am];refine cF rfl ?_;refine ae ?_;refine aF (aPc H (by have:=cR hx (sS.trans s4);rw[k3] at this;exact this) (hW3.same s4) hps) ?_;rintro _ Y ⟨rfl,hY⟩;refine⟨hY,?_⟩;try refine ae ?_
 refine aK (ae ?_);exact sS.trans (s4.trans hY)
end
abbrev dP:=Int×Int×Int
def gS(rec:Nat->Option (List dP)):bm->Nat->Option (List dP)
 | [],_=>some []
 | c::l,r=>if c=(r:Int) then(rec r).bind fun L1=>(gS rec l (r+L1.length)).map (L1++ ·) else none
def iL(N:Nat)(nx:Nat->bm):Nat->Nat->Int->Int->Option (List dP)
 | 0,_,_,_=>none
 | f+1,at_,p,d=>if at_<N then(gS (fun r=>iL N nx f r at_ (d+1)) (nx at_) (at_+1)).map fun L=>(p,d,((at_+L.length:Nat):Int))::L else none
def aCH(m:Int)(L:List dP):Int:=L.foldl (fun m t=>mx m t.2.1) m
theorem aFw(m:Int)(t:dP)(L:List dP):aCH m (t::L)=aCH (mx m t.2.1) L:=rfl
def iB(g:bD)(i:Nat):bm:=((g.bw[i]?).map (·.next)).getD []
theorem aEh{g:bD}{i:Nat}{x:dI}(h:g.bw[i]? =some x):iB g i=x.next:=by unfold iB;rw[h];rfl
theorem aFS{rec:Nat->Option (List dP)}{N:Nat}(hr:∀r L,rec r=some L->r+L.length<=N/\0<L.length):∀ {l:bm} {r:Nat} {L:List dP},r<=N->gS rec l r=some L->r+L.length<=N
 | [],r,L,h,hk=>by simp only[gS,Al] at hk;subst hk;simpa using h
 | c::l,r,L,h,hk=>by
  simp only[gS] at hk;split at hk
  ·have⟨L1,h1,h2⟩:=Du.1 hk;obtain⟨L2,h3,rfl⟩:=Ax.1 h2;have:=aFS hr (hr r L1 h1).1 h3;rw[Aj];omega
  ·cases hk
theorem aBT{N:Nat}{nx:Nat->bm}:∀ {f at_:Nat} {p d:Int} {L:List dP},iL N nx f at_ p d=some L->at_+L.length<=N/\0<L.length
 | 0,at_,p,d,L,h=>by cases h
 | f+1,at_,p,d,L,h=>by
  simp only[iL] at h;split at h
  ·rename_i hlt;obtain⟨L',h1,rfl⟩:=Ax.1 h;have:=aFS (N:=N) (fun r L hr=>aBT hr) (show at_+1<=N by omega) h1;rw[Av];omega
  ·cases h
theorem bH.tail{k:Nat}{α:Type}{E:St->bo->α->Prop}{S:St}{v:AV}{a:α}{l:List α}(h:bH k E S v (a::l)):∃v',(∀ (F:Fr) (x:cP),dS (x.val F)=some 1->oS (.slice k) v (some x) none none F=some v')/\bH k E S v' l:=by
 rcases h with⟨h0,_⟩ | ⟨b,off,cap,o,cs,rfl,hc,hb,hcs,hel⟩
 ·cases h0
 ·rw[Av] at hc;have e1:Nat.ble cap cap=true:=Ah (Af _);have e2:Nat.ble (l.length+1) cap=true:=Ah hc;have e3:Nat.ble 1 (l.length+1)=true:=Ah au;by_cases h1:cap=1
  ·have hl:l= []:=Cf.1 au;subst hl;subst h1;have e4:Nat.beq 1 1=true:=rfl;refine⟨bO o .emp (.sl b off 0 0 false),fun F x hx=>?_,?_⟩
   ·simp only[oS,aDR,jP,iU,aH,hx,Av,Co];cases o<;>rfl
   ·cases o with
    | true=>exact .inl ⟨rfl,.inr rfl⟩
    | false=>exact .inr ⟨b,off,0,false,cs,rfl,Af _,hb,hcs,fun i a hi=>by simp at hi⟩
  ·have e4:Nat.beq cap 1=false:=by rw[Ca];intro h;rw[Az] at h;omega
   refine⟨.sl b (off+1 * k) (l.length+1 - 1) (cap - 1) o,fun F x hx=>?_,.inr ⟨b,off+1 * k,cap - 1,o,cs,by simp,au,hb,hcs,fun i a' hi=>?_⟩⟩
   ·simp only[oS,aDR,jP,iU,aH,hx,Av,e1,e2,e3,aN,e4,aR,Option.isNone_none];cases o<;>rfl
   ·have⟨e,h1,h2,h3⟩:=hel (i+1) a' (by simpa using hi);refine⟨e,h1,fun j x hj=>?_,h3⟩;have:=h2 j x hj;rw[show off+1 * k+i * k+j=off+(i+1) * k+j by rw[Ch];omega];exact this
theorem aPF(a b:Int):pI true [.int .i64 a,.int .i64 b]=some (.int .i64 (mx a b)):=by rw[aCK,aGG,aGm]
def bE(l:bm):bo:=l.map (AV.int .i64)
theorem aEc(l:bm):(bE l).length=l.length:=by simp [bE]
theorem aAs{S S':St}(h:Same S S'){b p n:Nat}{agg:Bool}(hb:b<S.nx):dJ (.ptr b p) agg n S'.h=dJ (.ptr b p) agg n S.h:=by
 have e:=vY h hb;simp only[dJ,iQ,oM,jQ,e]
theorem aGl{S:St}{b p:Nat}{w:Int}{l:bm}{o:Bool}{sz:Nat}(h:S.h.get b=some (.cells (bE l) o sz))(hp:p<l.length):oT (.ptr b p) 1 [.int .i64 w] S=some (.undef,⟨S.h.set b (some (.cells (bE (l.set p w)) o sz)),S.nx⟩):=by
 have hput:put (bE l) p [AV.int .i64 w]=some (bE (l.set p w)):=by
  rw[put_eq,if_pos (by rw[aEc];simp;omega)];congr 1;unfold bE;rw[List.map_set,Ez,if_pos (by simp;omega)];simp
 simp only[oT,mU,h,aH,rJ,hput];rfl
theorem aI2{S:St}{b N sz:Nat}{l:bm}{o:Bool}(h:S.h.get b=some (.cells (bE l) o sz))(hb:b<S.nx)(hl:l.length=N):cH .i64 S (.sl b 0 N N false) l:=by
 subst hl;refine .inr ⟨b,0,l.length,false,bE l,rfl,Af _,hb,by unfold cA;rw[h];rfl,fun i x hi=>?_⟩;rw[Ao];unfold bE;rw[Bz,hi];rfl
theorem mR{b N i:Nat}{o:Bool}(hi:i<N):dT (.slice 1) (.sl b 0 N N o) i=some (.ptr b i):=ia8 hi
theorem aCa{W:Nat->Prop}{h0:T AB}{base m i:Nat}{l:List AO}{F:Fr}{S:St}{last:Option Nat}{Q:Fr->St->List kB->Prop}{x v:cP}{b p sz:Nat}{w:Int}{P:bm}{o:Bool}(h:oB last m=true)(hx:x.val F= .ptr b p)(hv:v.val F= .int .i64 w)(hb:S.h.get b=some (.cells (bE P) o sz))(hp:p<P.length)(hW:W b)
  (hr:∀S1,cB b S S1->S1.nx=S.nx->S1.h.get b=some (.cells (bE (P.set p w)) o sz)->hJ fns W h0 base l (i+1) F S1 [] (some i) Q):hJ fns W h0 base (⟨none,.x (.st 1 x v),none,m⟩::l) i F S [] last Q:=by
 have hS:cB b S ⟨S.h.set b (some (.cells (bE (P.set p w)) o sz)),S.nx⟩:=(cB.refl b S).put _;refine aGb (S1:=⟨S.h.set b (some (.cells (bE (P.set p w)) o sz)),S.nx⟩) h ?_ ⟨Af _,fun c hc hw=>?_⟩ (hr _ hS rfl ?_)
 ·rw[hv,cN,aH,hx];exact aGl (S:=S) hb hp
 ·simp only;rw[dq,if_neg (show ¬c=b from fun e=>hw (by rw[e];exact hW))];rfl
 ·simp only;rw[dq,if_pos rfl]
def xA(T:List dP)(a j:Nat):Option dP:=if a<=j then T[j - a]? else none
def iS(sel:dP->Int)(P P':bm)(T:List dP)(a:Nat):Prop:=P'.length=P.length/\∀j,P'.getD j 0=((xA T a j).map sel).getD (P.getD j 0)
theorem iS.nil(sel:dP->Int)(P:bm)(a:Nat):iS sel P P [] a:=⟨rfl,fun j=>by unfold xA;split<;>simp⟩
theorem aQA{T:List dP}{a j:Nat}{t:dP}(h:xA T a j=some t):a<=j/\j<a+T.length:=by
 unfold xA at h;split at h
 ·have:=(Ai.1 h).1;omega
 ·cases h
theorem aLU{T:List dP}{a j:Nat}(h:j<a\/a+T.length<=j):xA T a j=none:=by
 unfold xA;split
 ·exact Bo au
 ·rfl
theorem aCG(T T':List dP)(a j:Nat):xA (T++T') a j=(xA T a j).or (xA T' (a+T.length) j):=by
 unfold xA;by_cases h:a<=j
 ·rw[if_pos h,if_pos h,Gw];by_cases h1:j - a<T.length
  ·rw[if_pos h1,if_neg au,Ad h1];rfl
  ·rw[if_neg h1,if_pos au,Bo (l:=T) (i:=j - a) au,show j - a - T.length=j - (a+T.length) by omega];rfl
 ·rw[if_neg h,if_neg h,if_neg au];rfl
theorem iS.append{sel:dP->Int}{P P1 P2:bm}{T T':List dP}{a:Nat}(h1:iS sel P P1 T a)(h2:iS sel P1 P2 T' (a+T.length)):iS sel P P2 (T++T') a:=by
 refine⟨h2.1.trans h1.1,fun j=>?_⟩;rw[h2.2,h1.2,aCG];cases hc:xA T a j with
 | none=>rfl
 | some t=>
  have:=aQA hc;rw[aLU au];rfl
theorem jA{P:bm}{i j:Nat}{v:Int}(hi:i<P.length):(P.set i v).getD j 0=if j=i then v else P.getD j 0:=by
 rw[Ae,List.getElem?_set];by_cases h:i=j
 ·subst h;rw[if_pos rfl,if_pos rfl,if_pos hi];rfl
 ·rw[if_neg h,if_neg (Dy h),Ae]
theorem aHF(t:dP)(a j:Nat):xA [t] a j=if j=a then some t else none:=by
 unfold xA;by_cases h:j=a
 ·subst h;simp
 ·rw[if_neg h];split
  ·exact Bo (by simp;omega)
  ·rfl
theorem iS.one{sel:dP->Int}{P:bm}{t:dP}{a:Nat}{v:Int}(ha:a<P.length)(hv:sel t=v):iS sel P (P.set a v) [t] a:=by
 refine⟨Cl ..,fun j=>?_⟩;rw[jA ha,aHF];by_cases h:j=a
 ·rw[if_pos h,if_pos h,<-hv];rfl
 ·rw[if_neg h,if_neg h];rfl
theorem iS.late{sel:dP->Int}{P P1:bm}{t:dP}{L:List dP}{a:Nat}{v:Int}(h:iS sel P P1 L (a+1))(ha:a<P.length)(hv:sel t=v):iS sel P (P1.set a v) (t::L) a:=by
 refine⟨by rw[Cl];exact h.1,fun j=>?_⟩;rw[jA (by rw[h.1];exact ha),h.2];have e:xA (t::L) a j=(xA [t] a j).or (xA L (a+1) j):=aCG [t] L a j;rw[e,aHF];by_cases hj:j=a
 ·rw[if_pos hj,if_pos hj,<-hv];rfl
 ·rw[if_neg hj,if_neg hj];rfl
structure WK(S:St)(wb pb db lb N:Nat)(ps:Int)(nv iv:AV)(P D L:bm):Prop where
 w:aBC S wb ps nv iv (.sl pb 0 N N false) (.sl db 0 N N false) (.sl lb 0 N N false)
 gp:S.h.get pb=some (.cells (bE P) false 0)
 gd:S.h.get db=some (.cells (bE D) false 0)
 gl:S.h.get lb=some (.cells (bE L) false 0)
 lp:P.length=N
 ld:D.length=N
 ll:L.length=N
 bp:pb<S.nx
 bd:db<S.nx
 bl:lb<S.nx
def aAG(pb db lb:Nat)(S S':St):Prop:=S.nx<=S'.nx/\∀c,c<S.nx->c≠pb->c≠db->c≠lb->S'.h.get c=S.h.get c
theorem aAG.refl(pb db lb:Nat)(S:St):aAG pb db lb S S:=⟨Af _,fun _ _ _ _ _=>rfl⟩
theorem aAG.trans{pb db lb:Nat}{S S' S'':St}(h:aAG pb db lb S S')(h':aAG pb db lb S' S''):aAG pb db lb S S'':=⟨Bb h.1 h'.1,fun c hc h1 h2 h3=>(h'.2 c (Ag hc h.1) h1 h2 h3).trans (h.2 c hc h1 h2 h3)⟩
theorem aAG.same{pb db lb:Nat}{S0 S S':St}(h0:Same S0 S)(h:aAG pb db lb S S')(h1:S0.nx<=pb)(h2:S0.nx<=db)(h3:S0.nx<=lb):Same S0 S':=⟨Bb h0.1 h.1,fun c hc=>(h.2 c (Ag hc h0.1) au au au).trans (h0.2 c hc)⟩
def aSw(S0 S:St)(wb pb db lb:Nat)(ps:Int)(nv iv:AV)(g:bD)(P D L:bm)(at_:Nat)(o:Option (List dP))(r:AV)(S':St):Prop:=
 aAG pb db lb S S'/\∃P' D' L',WK S' wb pb db lb g.bw.length ps nv iv P' D' L'/\match o with
 | some T=>(∃v,r= .tup [v,.bool true]/\bH 6 dC S0 v (g.bw.drop (at_+T.length)))/\iS (·.1) P P' T at_/\iS (·.2.1) D D' T at_/\iS (·.2.2) L L' T at_
 | none=>r= .tup [.ce,.bool false]
def aSG(S0 S2:St)(wb pb db lb:Nat)(ps:Int)(nv iv a:AV)(g:bD)(P D L:bm)(at_:Nat)(d:Int)(rec:Nat->Option (List dP))(ks:bm)(k:Nat)(A:bN)(X:St):Prop:=
 A.inr=false/\aAG pb db lb S2 X/\∃ (j:Nat) (T:List dP) (P' D' L':bm) (v:AV),j+k=ks.length/\at_+1+T.length<=g.bw.length/\gS rec ks (at_+1)=(gS rec (ks.drop j) (at_+1+T.length)).map (T++ ·)/\
  WK X wb pb db lb g.bw.length ps nv iv P' D' L'/\iS (·.1) P P' T (at_+1)/\iS (·.2.1) D D' T (at_+1)/\iS (·.2.2) L L' T (at_+1)/\bH 6 dC S0 v (g.bw.drop (at_+1+T.length))/\
  aB 0 A.F= .ptr wb 0/\aB 2 A.F= .int .i64 d/\aB 10 A.F= .int .i64 (at_:Int)/\aB 11 A.F=v/\aB 46 A.F=a/\aB 47 A.F= .int .i64 (ks.length:Int)/\aB 48 A.F= .int .i64 (j:Int)
theorem aL0{S0:St}{nv iv:AV}{g:bD}{wb pb db lb:Nat}{ps:Int}(H:Has fns)(hG:bH 6 dC S0 nv g.bw)(hwb:S0.nx<=wb)(hpb:S0.nx<=pb)(hdb:S0.nx<=db)(hlb:S0.nx<=lb)(ne1:pb≠db)(ne2:pb≠lb)(ne3:db≠lb)(ne4:wb≠pb)(ne5:wb≠db)(ne6:wb≠lb)(hN:g.bw.length<=2000)(hlen:∀x∈g.bw,x.next.length<=1000):
  ∀ (f:Nat) {S:St} {at_:Nat} {p d:Int} {rv:AV} {P D L:bm},g.bw.length+1 - at_<=f->0<=d->d<=at_->at_<=g.bw.length->Same S0 S->WK S wb pb db lb g.bw.length ps nv iv P D L->bH 6 dC S0 rv (g.bw.drop at_)->
  eT fns (.fn 92 [] []) [.ptr wb 0,.int .i64 p,.int .i64 d,rv] S fun r S'=>aSw S0 S wb pb db lb ps nv iv g P D L at_ (iL g.bw.length (iB g) f at_ p d) r S':=by
 intro f
 induction f with
 | zero=>intro S at_ p d rv P D L hf hd0 hd hat;omega
 | succ f ih=>
  intro S at_ p d rv P D L hf hd0 hd hat hS hK hrv;have hrl:=hrv.len;rw[Fp] at hrl;refine bL H.f92 (by simp) ?_;refine ae ?_;refine bK (ae ?_);refine fA (cp hrl ?_);by_cases hlt:at_<g.bw.length;rotate_left
  ·refine aP (by simp only[↓sU,sD,rE,↓reduceIte,rA,Ac (show((g.bw.length - at_:Nat):Int)=0 by omega)]) ?_;refine bK (ae ?_);refine aK ?_;simp only[↓sU,sD,rE,↓reduceIte,rA];simp only[iL,if_neg hlt];exact⟨aAG.refl _ _ _ _,P,D,L,hK,rfl⟩
  refine aO (by simp only[↓sU,sD,rE,↓reduceIte,rA,Aa (show ¬ ((g.bw.length - at_:Nat):Int)=0 by omega)]) (aJ ?_);try refine ae ?_
  obtain⟨x,hx⟩:∃x,g.bw[at_]? =some x:=⟨_,Ad hlt⟩;have hnx:=aEh hx;have hxl:=hlen x (Cm hx);have hnl:=hG.len;have hdrop:g.bw.drop at_=x::g.bw.drop (at_+1):=by
   rw[Bw hlt];congr 1;rw[Ad hlt] at hx;exact Cd hx
  rw[hdrop] at hrv;have w1:IntKind.i64.wrap ((g.bw.length:Int) - ((g.bw.length - at_:Nat):Int))=(at_:Int):=by rw[wrap_i64 au au];omega
  refine bK (dy @aY @bB @aD @aC (kD hK.w.1) hnl hrl w1 ?_);have wlt:=hK.w.2;have hwn:¬ (wb=pb\/wb=db):=by omega
  refine aE (fJ (fun b=>b=pb\/b=db) ?_);intro S1 s1;have hia1:=mR (b:=pb) (o:=false) hlt;have hia2:=mR (b:=db) (o:=false) hlt;simp only[↓sU,sD,rE,↓reduceIte,rA,aY,bT,bB,aD,aX,aC,jU hK.w.1,kE hK.w.1,wlt,hwn,Am,hia1,hia2];have l1:=s1.1;have bp:=hK.bp;have bd:=hK.bd;have bl:=hK.bl;refine aCa (p:=at_) (w:=p) rfl (af) (af) (by rw[s1.2 _ hK.bp];exact hK.gp) (by rw[hK.lp];exact hlt) (.inl rfl) ?_;intro S2 s2 n2 c2;refine cp hia2 ?_;refine aCa (p:=at_) (w:=d) (show Nat.testBit 32767 13=true by decide) (af) (af) (by rw[s2.2 _ au (Dy ne1),s1.2 _ hK.bd];exact hK.gd) (by rw[hK.ld];exact hlt) (.inr rfl) ?_;intro S3 s3 n3 c3;refine ae ?_;have b3:aAG pb db lb S S3:=⟨au,fun c hc h1 h2 h3=>by rw[s3.2 _ au h2,s2.2 _ au h1,s1.2 _ hc]⟩;have hS3:Same S0 S3:=b3.same hS hpb hdb hlb;have hK3:WK S3 wb pb db lb g.bw.length ps nv iv (P.set at_ p) (D.set at_ d) L:=⟨⟨by rw[b3.2 _ wlt ne4 ne5 ne6];exact hK.w.1,Ag wlt b3.1⟩,by rw[s3.2 _ au ne1];exact c2,c3,by rw[s3.2 _ au (Dy ne3),s2.2 _ au (Dy ne2),s1.2 _ hK.bl];exact hK.gl,by rw[Cl];exact hK.lp,by rw[Cl];exact hK.ld,hK.ll,au,au,au⟩;have⟨rv',hslc,hrv'⟩:=bH.tail hrv;have hsl1:∀F:Fr,oS (.slice 6) rv (some (.c (.int .i64 1))) none none F=some rv':=fun F=>hslc F _ rfl;refine bK (cp hsl1 ?_);obtain⟨e,b,q,hia,hb,he,⟨a,bb,cc,rfl,ha,_,_⟩,_,hlf⟩:=bH.at hrv ay (i:=0) rfl;have hl3:=hlf 3 a rfl;rw[<-aAs hS3 hb] at hl3;refine fA (dx @aMA hia @aD @aC hl3 ha.len @Ak ?_);have hW:iL g.bw.length (iB g) (f+1) at_ p d=(gS (fun r=>iL g.bw.length (iB g) f r at_ (d+1)) x.next (at_+1)).map fun L=>(p,d,((at_+L.length:Nat):Int))::L:=by
   simp only[iL,if_pos hlt,hnx]
  rw[hW];refine bG (Q:=fun o A' X=>(o= .normal/\aSG S0 S3 wb pb db lb ps nv iv a g (P.set at_ p) (D.set at_ d) L at_ d (fun r=>iL g.bw.length (iB g) f r at_ (d+1)) x.next 0 A' X)\/(o= .ret/\aAG pb db lb S3 X/\gS (fun r=>iL g.bw.length (iB g) f r at_ (d+1)) x.next (at_+1)=none/\aB 8 A'.F= .ce/\aB 9 A'.F= .bool false/\∃P' D' L',WK X wb pb db lb g.bw.length ps nv iv P' D' L')) (aQ (bX (aSG S0 S3 wb pb db lb ps nv iv a g (P.set at_ p) (D.set at_ d) L at_ d (fun r=>iL g.bw.length (iB g) f r at_ (d+1)) x.next) ?_ x.next.length _ _ ⟨rfl,aAG.refl _ _ _ _,0,[],P.set at_ p,D.set at_ d,L,rv',au,by rw[Co];omega,by simp,hK3,iS.nil _ _ _,iS.nil _ _ _,iS.nil _ _ _,hrv',by refine⟨?_,?_,?_,?_,?_,?_,?_⟩<;>simp only[↓sU,sD,rE,↓reduceIte,rA]⟩)) ?_
  ·rintro k ⟨F,inr⟩ X ⟨q0,hX,j,T,P',D',L',v,hjk,hTN,hkid,hKX,rP,rD,rL,hv,p0,p2,p10,p11,p46,p47,p48⟩;simp only at q0 p0 p2 p10 p11 p46 p47 p48;subst q0;have hSX:Same S0 X:=hX.same hS3 hpb hdb hlb;have haX:=ha.same hSX;have hvl:=hv.len;rw[Fp] at hvl;refine bK (c9 p47 p48 ?_);by_cases hj:j<x.next.length
   ·refine aE (aP (by simp only[↓sU,sD,rE,↓reduceIte,rA,Ac (show(j:Int)<(x.next.length:Int) by omega)]) (aJ ?_));refine ae ?_;have hias:=haX.cq hj;have hlds:=haX.ld hj;have hdr:x.next.drop j=x.next[j]::x.next.drop (j+1):=Bw hj;have hgd:x.next.getD j 0=x.next[j]:=by rw[Ae,Ad hj];rfl
    rw[hgd] at hlds;rw[hdr] at hkid;generalize x.next[j]=c at *;have w2:IntKind.i64.wrap ((g.bw.length:Int) - ((g.bw.length - (at_+1+T.length):Nat):Int))=((at_+1+T.length:Nat):Int):=by rw[wrap_i64 au au];omega
    have w3:IntKind.i64.wrap (d+1)=d+1:=wrap_i64 au au;have w4:=dk j
    refine aE (aQ (aE (aM ?_)));refine du p46 p48 @aW hias hlds ?_;refine fA ?_;simp only[↓sU,sD,rE,↓reduceIte,rA,p0,p11,aY,bB,aD,aC,kD hKX.w.1,hnl,hvl,w2];by_cases hc:c=((at_+1+T.length:Nat):Int);rotate_left
    ·refine aP (by simp only[↓sU,sD,rE,↓reduceIte,rA,Ac (show c≠((at_+1+T.length:Nat):Int) from hc)]) ?_;refine bK (ae ?_);refine aK (ae ?_);refine .inr ⟨hX,?_,P',D',L',hKX⟩;rw[hkid];simp only[gS,if_neg hc];rfl
    refine aO (by simp only[↓sU,sD,rE,↓reduceIte,rA,Aa (show ¬c≠((at_+1+T.length:Nat):Int) from fun h=>h hc)]) (aJ ?_);try refine ae ?_
    simp only[gS,if_pos hc] at hkid;refine bK (du p0 p2 p10 p11 w3 ?_);refine aL (ae ?_);refine aF (ih (S:=X) (at_:=at_+1+T.length) (p:=at_) (d:=d+1) au au au hTN hSX hKX hv) ?_;rintro r Y ⟨hY,P2,D2,L2,hKY,hres⟩;cases hw:iL g.bw.length (iB g) f (at_+1+T.length) at_ (d+1) with
    | none=>
     rw[hw] at hres hkid;subst hres;refine c9 @tU @tP ?_;refine bK ?_;simp only[↓sU,sD,rE,↓reduceIte,rA,uX,Bool.not_false];refine aP (af) ?_;refine bK (ae ?_);refine aK (ae ?_);refine .inr ⟨hX.trans hY,?_,P2,D2,L2,hKY⟩;rw[hkid];rfl
    | some T1=>
     rw[hw] at hres hkid;obtain⟨⟨v2,rfl,hv2⟩,k1,k2,k3⟩:=hres;simp only[Option.bind_some,Option.map_map] at hkid;have hwl:=(aBT hw).1;refine c9 @tU @tP ?_;refine bK ?_;simp only[↓sU,sD,rE,↓reduceIte,rA,uX,Bool.not_true];refine aO (af) (aJ ?_);try refine ae ?_
     refine aM (c9 p48 w4 ?_);refine⟨k - 1,au,rfl,hX.trans hY,j+1,T++T1,P2,D2,L2,v2,au,by rw[Aj];omega,?_,hKY,rP.append k1,rD.append k2,rL.append k3,by rw[Aj,<-Cx];exact hv2,by refine⟨?_,?_,?_,?_,?_,?_,?_⟩<;>simp only[↓sU,sD,rE,↓reduceIte,rA,p0,p2,p10,p46,p47]⟩;rw[hkid,Aj,<-Cx];congr 1;funext M;simp
   ·refine aE (aO (by simp only[↓sU,sD,rE,↓reduceIte,rA,Aa (show ¬ (j:Int)<(x.next.length:Int) by omega)]) (bS ?_));refine ae ?_;have hk0:k=0:=by omega
    subst hk0;exact .inl ⟨rfl,hX,j,T,P',D',L',v,hjk,hTN,hkid,hKX,rP,rD,rL,hv,by refine⟨?_,?_,?_,?_,?_,?_,?_⟩<;>simp only[↓sU,sD,rE,↓reduceIte,rA,p0,p2,p10,p11,p46,p47,p48]⟩
  rintro o ⟨F,inr⟩ X (⟨rfl,q0,hX,j,T,P',D',L',v,hjk,hTN,hkid,hKX,rP,rD,rL,hv,p0,p2,p10,p11,p46,p47,p48⟩ | ⟨rfl,hX,hno,p8,p9,P',D',L',hKX⟩);rotate_left
  ·rw[hno];simp only at p8 p9;refine c9 p8 p9 ?_;exact⟨b3.trans hX,P',D',L',hKX,rfl⟩
  simp only at q0 p0 p10 p11;subst q0;rw[Dp au] at hkid;simp only[gS,Gq,Cb] at hkid;rw[hkid];have hvl:=hv.len;rw[Fp] at hvl;have w2:IntKind.i64.wrap ((g.bw.length:Int) - ((g.bw.length - (at_+1+T.length):Nat):Int))=((at_+1+T.length:Nat):Int):=by rw[wrap_i64 au au];omega
  have w5:IntKind.i64.wrap (((at_+1+T.length:Nat):Int) - 1)=((at_+T.length:Nat):Int):=by rw[wrap_i64 au au];omega
  have wltX:=hKX.w.2;have hia3:=mR (b:=lb) (o:=false) hlt;try refine ae ?_
  refine aE (fJ (fun b=>b=lb) ?_);intro S4 s4;simp only[↓sU,sD,rE,↓reduceIte,rA,p0,p10,p11,aY,bT,bB,aD,aX,aC,kD hKX.w.1,mV hKX.w.1,hnl,hvl,w2,w5,wltX,ne6,Am,hia3,bH.self hG];have l4:=s4.1;have bpX:=hKX.bp;have bdX:=hKX.bd;have blX:=hKX.bl;refine aCa (p:=at_) (w:=((at_+T.length:Nat):Int)) rfl (af) (af) (by rw[s4.2 _ hKX.bl];exact hKX.gl) (by rw[hKX.ll];exact hlt) rfl ?_;intro S5 s5 n5 c5;refine ae ?_;have b5:aAG pb db lb X S5:=⟨au,fun c hc h1 h2 h3=>by rw[s5.2 _ au h3,s4.2 _ hc]⟩;refine bK (cp p11 ?_);refine aK (ae ?_);have hatP:at_<P.length:=by rw[hK.lp];exact hlt
  have hatD:at_<D.length:=by rw[hK.ld];exact hlt
  have hatL:at_<L.length:=by rw[hK.ll];exact hlt
  refine⟨b3.trans (hX.trans b5),P',D',L'.set at_ ((at_+T.length:Nat):Int),⟨⟨by rw[b5.2 _ wltX ne4 ne5 ne6];exact hKX.w.1,Ag wltX b5.1⟩,by rw[s5.2 _ au ne2,s4.2 _ hKX.bp];exact hKX.gp,by rw[s5.2 _ au ne3,s4.2 _ hKX.bd];exact hKX.gd,c5,hKX.lp,hKX.ld,by rw[Cl];exact hKX.ll,by show _<S5.nx;omega,by show _<S5.nx;omega,by show _<S5.nx;omega⟩,⟨v,rfl,?_⟩,?_,?_,?_⟩
  ·rw[Av,show at_+(T.length+1)=at_+1+T.length by omega];exact hv
  ·exact iS.append (T:=[(p,d,((at_+T.length:Nat):Int))]) (iS.one hatP rfl) rP
  ·exact iS.append (T:=[(p,d,((at_+T.length:Nat):Int))]) (iS.one hatD rfl) rD
  ·exact iS.late rL hatL rfl
end Go.Ev.Gl
