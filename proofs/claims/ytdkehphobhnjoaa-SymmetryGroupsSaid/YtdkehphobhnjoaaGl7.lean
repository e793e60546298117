import Derived.Test.YtdkehphobhnjoaaGl6
open Nat renaming reduceEqDiff → rE, reduceAdd → rA
set_option maxHeartbeats 16000000
set_option linter.unusedSimpArgs false
set_option linter.unusedVariables false
namespace Go.Ev.Gl
variable {fns:T dE}
theorem vZ{S:St}{a:Int}(H:Has fns):fA fns (.fn 76 [] []) [.int .i64 a] S fun r S'=>r= .bool false∧S'=S:=by
 refine bP H.f76 (by simp) ?_;simp only[↓aC,aB,rE,↓reduceIte];refine bE ?_;simp only[↓aC,aB,rE,↓reduceIte];refine bE ?_;simp only[↓aC,aB,rE,↓reduceIte,Aa (show ¬a≠a from fun h=>h rfl)];refine aO ?_;simp only[↓aC,aB,rE,↓reduceIte]
theorem aIa{S:St}{a b:Int}(H:Has fns):fA fns (.fn 100 [] []) [.int .i64 a,.int .i64 b] S fun r S'=>r= .bool (decide (a<b))∧S'=S:=by
 refine bP H.f100 (by simp) ?_;simp only[↓aC,aB,rE,↓reduceIte];refine bE ?_;simp only[↓aC,aB,rE,↓reduceIte];refine bE ?_;simp only[↓aC,aB,rE,↓reduceIte];refine aY ?_;simp only[↓aC,aB,rE,↓reduceIte];refine aP (vZ H) ?_;rintro _ X ⟨rfl,hX⟩;rw[hX];simp only[↓aC,aB,rE,↓reduceIte];refine aO ?_;simp only[↓aC,aB,rE,↓reduceIte]
def aF5(m:Int)(l:List Int):Int:=l.foldl mx m
def aOc(S:St)(v:AV)(l:List Int)(m0:Int)(k:Nat)(A:bH)(X:St):Prop:=A.inr=false∧X=S∧∃i,i+k=l.length∧0<i∧aD 0 A.F=v∧aD 3 A.F= .int .i64 (aF5 m0 ((l.take i).drop 1))∧aD 4 A.F= .int .i64 (i:Int)
theorem aKq{S:St}{v:AV}{l:List Int}(H:Has fns)(hl:bN .i64 S v l)(hne:0<l.length)(hlen:l.length≤1000000):fA fns (.fn 90 [] []) [v] S fun r S'=>r= .int .i64 (aF5 (l.getD 0 0) (l.drop 1))∧S'=S:=by
 refine bP H.f90 (by simp) ?_;simp only[↓aC,aB,rE,↓reduceIte];refine bE ?_;simp only[↓aC,aB,rE,↓reduceIte];refine eG ?_;simp only[↓aC,aB,rE,↓reduceIte,hl.len,Ag];refine aK (by simp only[↓aC,aB,rE,↓reduceIte,Aa (show ¬ ((l.length:Nat):Int)<1 by omega)]) (aI ?_);try simp only[↓aC,aB,rE,↓reduceIte]
 have hia:=hl.iaddr hne;have hld:=hl.ld hne;refine bE ?_;simp only[↓aC,aB,rE,↓reduceIte,aIR,hia,hld];refine eG ?_;simp only[↓aC,aB,rE,↓reduceIte];refine aJ (bB (aOc S v l (l.getD 0 0)) ?_ (l.length - 1) _ _ ⟨rfl,rfl,1,by omega,by decide,by simp only[↓aC,aB,rE,↓reduceIte],by simp only[↓aC,aB,rE,↓reduceIte];rw[Cc (by rw[Ca];omega)];rfl,by simp only[↓aC,aB,rE,↓reduceIte]⟩);rintro k ⟨F,inr⟩ X ⟨q0,hX,i,hik,hi0,p0,p3,p4⟩;simp only at q0 p0 p3 p4;subst q0;rw[hX];refine eG ?_;simp only[↓aC,aB,rE,↓reduceIte,p0,p4,hl.len,Ag];by_cases hi:i<l.length
 ·refine aM (by simp only[↓aC,aB,rE,↓reduceIte,Ab (show(i:Int)<((l.length:Nat):Int) by omega)]) (aI ?_);try simp only[↓aC,aB,rE,↓reduceIte]
  have hia:=hl.iaddr hi;have hld:=hl.ld hi;have htk:(l.take (i+1)).drop 1=(l.take i).drop 1++ [l.getD i 0]:=by
   rw[Bi,Ac hi,List.drop_append,Ca,show 1 - min i l.length=0 by omega,Ad,Ac hi];rfl
  have w1:IntKind.i64.wrap ((i:Int)+1)=((i+1:Nat):Int):=by rw[wrap_i64 (by omega) (by omega)];omega
  refine aA (aJ (aF ?_));simp only[↓aC,aB,rE,↓reduceIte,p0,p3,p4,aE,hia,hld,aJ0,aDA];refine aF ?_;simp only[↓aC,aB,rE,↓reduceIte,p4,w1];refine⟨k - 1,by omega,rfl,rfl,i+1,by omega,by omega,by simp only[↓aC,aB,rE,↓reduceIte,p0],?_,by simp only[↓aC,aB,rE,↓reduceIte]⟩;simp only[↓aC,aB,rE,↓reduceIte];rw[htk];unfold aF5;rw[List.foldl_append];rfl
 ·refine aK (by simp only[↓aC,aB,rE,↓reduceIte,Aa (show ¬ (i:Int)<((l.length:Nat):Int) by omega)]) (aU ?_);simp only[↓aC,aB,rE,↓reduceIte];rw[Ax (by omega)] at p3;refine bE ?_;simp only[↓aC,aB,rE,↓reduceIte,p3];refine aO ?_;simp only[↓aC,aB,rE,↓reduceIte]
def aO4(S:St)(v:AV)(l:List Int)(z:Int)(k:Nat)(A:bH)(X:St):Prop:=A.inr=false∧X=S∧∃i,i+k=l.length∧¬z∈l.take i∧aD 0 A.F=v∧aD 1 A.F= .int .i64 z∧aD 7 A.F= .int .i64 ((l.length:Nat):Int)∧aD 8 A.F= .int .i64 (i:Int)
theorem aFt{S:St}{v:AV}{l:List Int}{z:Int}(H:Has fns)(hl:bN .i64 S v l)(hlen:l.length≤1000000):fA fns (.fn 99 [] []) [v,.int .i64 z] S fun r S'=>(∃j,r= .int .i64 j∧(0≤j↔z∈l))∧S'=S:=by
 refine bP H.f99 (by simp) ?_;simp only[↓aC,aB,rE,↓reduceIte];refine bE ?_;simp only[↓aC,aB,rE,↓reduceIte];refine eG ?_;simp only[↓aC,aB,rE,↓reduceIte,hl.len,Ag];refine aJ (bB (aO4 S v l z) ?_ l.length _ _ ⟨rfl,rfl,0,by omega,by simp,by refine⟨?_,?_,?_,?_⟩<;>simp only[↓aC,aB,rE,↓reduceIte]⟩);rintro k ⟨F,inr⟩ X ⟨q0,hX,j,hjk,ha,p0,p1,p7,p8⟩;simp only at q0 p0 p1 p7 p8;subst q0;rw[hX];refine bE ?_;simp only[↓aC,aB,rE,↓reduceIte,p7,p8];by_cases hj:j<l.length
 ·refine aA (aM (by simp only[↓aC,aB,rE,↓reduceIte,Ab (show(j:Int)<((l.length:Nat):Int) by omega)]) (aI ?_));simp only[↓aC,aB,rE,↓reduceIte];have hia:=hl.iaddr hj;have hld:=hl.ld hj;have hgd:l.getD j 0=l[j]:=by rw[Ad,Ac hj];rfl
  have htk:l.take (j+1)=l.take j++ [l.getD j 0]:=by rw[Bi,Ac hj,hgd];rfl
  have hmem:l.getD j 0∈l:=by rw[hgd];exact Bh hj
  generalize l.getD j 0=w at *;have w1:IntKind.i64.wrap ((j:Int)+1)=((j+1:Nat):Int):=by rw[wrap_i64 (by omega) (by omega)];omega
  refine aA (aJ (aA (aF ?_)));simp only[↓aC,aB,rE,↓reduceIte,p8];refine bE ?_;simp only[↓aC,aB,rE,↓reduceIte,p0,p1,aE,hia,hld];by_cases ho:z=w
  ·refine aM (by simp only[↓aC,aB,rE,↓reduceIte,Ab ho]) ?_;refine bE ?_;simp only[↓aC,aB,rE,↓reduceIte];refine aO ?_;simp only[↓aC,aB,rE,↓reduceIte];exact⟨_,rfl,⟨fun _=>by rw[ho];exact hmem,fun _=>by omega⟩⟩
  ·refine aK (by simp only[↓aC,aB,rE,↓reduceIte,Aa ho]) (aI ?_);try simp only[↓aC,aB,rE,↓reduceIte]
   refine aF ?_;simp only[↓aC,aB,rE,↓reduceIte,p8,w1];refine⟨k - 1,by omega,rfl,rfl,j+1,by omega,?_,by refine⟨?_,?_,?_,?_⟩<;>simp only[↓aC,aB,rE,↓reduceIte,p0,p1,p7]⟩;rw[htk];intro h;rcases Bv.1 h with h | h
   ·exact ha h
   ·simp at h;exact ho h
 ·refine aA (aK (by simp only[↓aC,aB,rE,↓reduceIte,Aa (show ¬ (j:Int)<((l.length:Nat):Int) by omega)]) (aU ?_));simp only[↓aC,aB,rE,↓reduceIte];rw[Ax (by omega)] at ha;refine bE ?_;simp only[↓aC,aB,rE,↓reduceIte];refine aO ?_;simp only[↓aC,aB,rE,↓reduceIte];exact⟨_,rfl,⟨fun h=>absurd h (by decide),fun h=>absurd h ha⟩⟩
theorem aCx{S:St}{v:AV}{l:List Int}{z:Int}(H:Has fns)(hl:bN .i64 S v l)(hlen:l.length≤1000000):fA fns (.fn 96 [] []) [v,.int .i64 z] S fun r S'=>r= .bool (decide (z∈l))∧S'=S:=by
 refine bP H.f96 (by simp) ?_;simp only[↓aC,aB,rE,↓reduceIte];refine bE ?_;simp only[↓aC,aB,rE,↓reduceIte];refine bE ?_;simp only[↓aC,aB,rE,↓reduceIte];refine aY ?_;simp only[↓aC,aB,rE,↓reduceIte];refine aP (aFt H hl hlen) ?_;rintro _ Y ⟨⟨j,rfl,hj⟩,hY⟩;rw[hY];have hd:decide ((0:Int)≤j)=decide (z∈l):=by rw[Cf,Ck,Ck];exact hj
 simp only[↓aC,aB,rE,↓reduceIte,hd];refine aO ?_;simp only[↓aC,aB,rE,↓reduceIte]
def aMn(l:List Int)(a b:Nat):Prop:=∀i,a<i→i<b→¬l.getD i 0<l.getD (i - 1) 0
def aB4(l:List Int):Prop:=aMn l 0 l.length
def aPd(S:St)(v:AV)(l:List Int)(k:Nat)(A:bH)(X:St):Prop:=A.inr=false∧Same S X∧∃i:Int,(k:Int)=max i 0∧ -1≤i∧i<max 1 (l.length:Int)∧aMn l i.toNat l.length∧aD 0 A.F=v∧aD 3 A.F= .int .i64 i
theorem aFg{S:St}{v:AV}{l:List Int}(H:Has fns)(hl:bN .i64 S v l)(hlen:l.length≤1000000):fA fns (.fn 97 [] []) [v] S fun r S'=>(∃t,r= .bool t∧(t=true↔aB4 l))∧Same S S':=by
 refine bP H.f97 (by simp) ?_;simp only[↓aC,aB,rE,↓reduceIte];refine bE ?_;simp only[↓aC,aB,rE,↓reduceIte];have w0:IntKind.i64.wrap (((l.length:Nat):Int) - 1)=((l.length:Nat):Int) - 1:=wrap_i64 (by omega) (by omega);refine eG ?_;simp only[↓aC,aB,rE,↓reduceIte,hl.len,Ag,w0];refine aJ (bB (aPd S v l) ?_ (l.length - 1) _ _ ⟨rfl,Same.refl S,((l.length:Nat):Int) - 1,by omega,by omega,by omega,fun i h1 h2=>by omega,by refine⟨?_,?_⟩<;>simp only[↓aC,aB,rE,↓reduceIte]⟩);rintro k ⟨F,inr⟩ X ⟨q0,hX,i,hik,hi1,hi2,hup,p0,p3⟩;simp only at q0 p0 p3;subst q0;have hlX:=hl.same hX;refine eG ?_;simp only[↓aC,aB,rE,↓reduceIte,p3];by_cases hi:0<i
 ·refine aM (by simp only[↓aC,aB,rE,↓reduceIte,Ab hi]) (aI ?_);try simp only[↓aC,aB,rE,↓reduceIte]
  obtain⟨n,rfl⟩:∃n:Nat,i=(n:Int):=⟨i.toNat,by omega⟩;have h1:n<l.length:=by omega
  have h0:n - 1<l.length:=by omega
  have w1:IntKind.i64.wrap ((n:Int) - 1)=((n - 1:Nat):Int):=by rw[wrap_i64 (by omega) (by omega)];omega
  have ia1:=hlX.iaddr h1;have ia0:=hlX.iaddr h0;have ld1:=hlX.ld h1;have ld0:=hlX.ld h0;have hself:=bN.self hl;obtain⟨b,hb⟩:∃b off cap o,v= .sl b off l.length cap o∧b<X.nx:=by
   rcases hlX with⟨h0,_⟩ | ⟨b,off,cap,o,cs,rfl,_,hb,_⟩
   ·rw[h0] at h1;simp at h1
   ·exact⟨b,off,cap,o,rfl,hb⟩
  obtain⟨off,cap,o,rfl,hbX⟩:=hb;simp only[aAn] at ia1 ia0 ld1 ld0;refine aA (aJ (aA (cR (fun _=>False) ?_)));intro S1 s1;simp only[↓sU,sD,rE,↓reduceIte,rA,p0,p3,aE,ia1,w1,ia0,ld1,ld0,hbX,Aq];refine bX rfl ?_;simp only[↓sU,sD,rE,↓reduceIte,rA];refine aP (aIa H) ?_;rintro _ Y ⟨rfl,hY⟩;rw[hY];refine⟨Same.refl _,?_⟩;try simp only[↓sU,sD,rE,↓reduceIte,rA]
  by_cases ho:l.getD n 0<l.getD (n - 1) 0
  ·refine aM (by simp only[↓sU,sD,rE,↓reduceIte,rA,Ab ho]) ?_;refine bE ?_;simp only[↓sU,sD,rE,↓reduceIte,rA];refine aO ?_;simp only[↓sU,sD,rE,↓reduceIte,rA];exact⟨⟨_,rfl,⟨fun h=>(by cases h),fun h=>absurd ho (h n (by omega) h1)⟩⟩,hX.trans s1⟩
  ·refine aK (by simp only[↓sU,sD,rE,↓reduceIte,rA,Aa ho]) (aI ?_);try simp only[↓sU,sD,rE,↓reduceIte,rA]
   refine aF ?_;simp only[↓sU,sD,rE,↓reduceIte,rA,p3,w1];refine⟨k - 1,by omega,rfl,hX.trans s1,((n - 1:Nat):Int),by omega,by omega,by omega,fun j h1 h2=>?_,by refine⟨?_,?_⟩<;>simp only[↓sU,sD,rE,↓reduceIte,rA,p0]⟩;by_cases hj:j=n
   ·rw[hj];exact ho
   ·exact hup j (by omega) h2
 ·refine aK (by simp only[↓aC,aB,rE,↓reduceIte,Aa hi]) (aU ?_);simp only[↓aC,aB,rE,↓reduceIte];refine bE ?_;simp only[↓aC,aB,rE,↓reduceIte];refine aO ?_;simp only[↓aC,aB,rE,↓reduceIte];exact⟨⟨_,rfl,⟨fun _ j h1 h2=>hup j (by omega) h2,fun _=>rfl⟩⟩,hX⟩
def kD:List dW→Nat→Nat→Nat
 | [],_,_=>0
 | x::l,s,i=>if x.kind=2∧x.info=(i:Int) then s+1 else kD l (s+1) i
def fB(g:aW):List Int:=(List.range g.infos.length).map fun i=>((kD g.nodes 0 i:Nat):Int)
def infoAt(g:aW)(i:Int):aBH:=g.infos.getD i.toNat ⟨0,0⟩
def mis(g:aW)(x:dW):Prop:=x.kind=2∧¬ ((infoAt g x.info).player=x.player∧(infoAt g x.info).actions=((x.next.length:Nat):Int))
instance misDec(g:aW)(x:dW):Decidable (mis g x):=by unfold mis;exact inferInstance
open Classical in
noncomputable def yM(g:aW):Int:=if ∃x∈g.nodes,mis g x then 10 else if(0:Int)∈fB g then 18 else if aB4 (fB g) then 0 else 9
def aDy(g:aW):Prop:=∀x∈g.nodes,x.kind=2→0≤x.info∧x.info<g.infos.length
theorem aJ2(a b c d:Int):gO .neq (.struct [(0,.int),(1,.int)]) (.agg [.int .i64 a,.int .i64 b]) (.agg [.int .i64 c,.int .i64 d])=some (.bool (decide (¬ (a=c∧b=d)))):=by
 have k:∀y z:Int,xD .int (.int .i64 y) (.int .i64 z)=some (decide (y=z)):=fun y z=>by
  show bL (keq .i64 .i64) (some (ieq y z)) none=_;rw[eH,aQ,iK];congr 1
 have e:eqv (.struct [(0,.int),(1,.int)]) (.agg [.int .i64 a,.int .i64 b]) (.agg [.int .i64 c,.int .i64 d])=some (decide (a=c∧b=d)):=by
  show eqs [(0,.int),(1,.int)] [.int .i64 a,.int .i64 b] [.int .i64 c,.int .i64 d]=_;unfold eqs;show(match xD .int (.int .i64 a) (.int .i64 c) with | some true=>_ | some false=>_ | none=>_)=_;rw[k];by_cases h:a=c
  ·rw[Ab h];unfold eqs;show(match xD .int (.int .i64 b) (.int .i64 d) with | some true=>_ | some false=>_ | none=>_)=_;rw[k];by_cases h2:b=d
   ·rw[Ab h2,Ab ⟨h,h2⟩];rfl
   ·rw[Aa h2,Aa (fun h3=>h2 h3.2)]
  ·rw[Aa h,Aa (fun h3=>h h3.1)]
 show aZ (eqv (.struct [(0,.int),(1,.int)]) _ _) _=_;rw[e,aT];congr 2;by_cases h:a=c∧b=d
 ·rw[Ab h,Aa (fun h2=>h2 h)];rfl
 ·rw[Aa h,Ab h];rfl
def aMA(S:St)(wb fb:Nat)(g:aW)(k:Nat)(A:bH)(X:St):Prop:=A.inr=false∧Same S X∧∃F:List Int,k≤g.nodes.length∧F.length=g.infos.length∧(∀j,j<g.infos.length→F.getD j 0=((kD (g.nodes.drop k) k j:Nat):Int))∧X.h.get fb=some (.cells (bC F) false 0)∧fb<X.nx∧
 aD 0 A.F= .ptr wb 0∧aD 3 A.F= .sl fb 0 g.infos.length g.infos.length false∧aD 4 A.F= .int .i64 ((k:Int) - 1)
def aNQ(S1:St)(wb:Nat)(fv nv:AV)(g:aW)(k:Nat)(A:bH)(X:St):Prop:=A.inr=false∧Same S1 X∧∃i,i+k=g.nodes.length∧(∀x∈g.nodes.take i,¬mis g x)∧aD 0 A.F= .ptr wb 0∧aD 3 A.F=fv∧aD 47 A.F=nv∧aD 48 A.F= .int .i64 ((g.nodes.length:Nat):Int)∧aD 49 A.F= .int .i64 (i:Int)
theorem aHK{S:St}{wb:Nat}{ps:Int}{nv iv pv dv lv:AV}{g:aW}(H:Has fns)(hW:qJ S wb ps nv iv pv dv lv)(hn:aN 6 bT S nv g.nodes)(hi:aN 2 cV S iv g.infos)(hN:g.nodes.length≤2000)(hI:g.infos.length≤200)(hok:aDy g):
  fA fns (.fn 91 [] []) [.ptr wb 0] S fun r S'=>r= .int .i64 (yM g)∧Same S S':=by
 refine bP H.f91 (by simp) ?_;simp only[↓aC,aB,rE,↓reduceIte,rA];refine bE ?_;simp only[↓aC,aB,rE,↓reduceIte,rA];refine bE ?_;simp only[↓aC,aB,rE,↓reduceIte,rA,bF,bG,aH,aG,cQ hW.1,hi.len];refine fX (mI (n:=g.infos.length) (by simp only[↓aC,aB,rE,↓reduceIte,rA,aE]) (by simp only[↓aC,aB,rE,↓reduceIte,rA,aE]) (by unfold room;omega) (by unfold room;omega)) ?_;intro S1 s1 n1 c1;simp only[↓aC,aB,rE,↓reduceIte,rA];have hz:repeatL [AV.int .i64 0] g.infos.length=bC (List.replicate g.infos.length 0):=by rw[repeatL_one];simp [bC]
 rw[hz] at c1;have hW1:=hW.same s1;have w0:IntKind.i64.wrap (((g.nodes.length:Nat):Int) - 1)=((g.nodes.length:Nat):Int) - 1:=wrap_i64 (by omega) (by omega);refine aA (aS (Q:=fun o A' X=>o= .normal∧aMA S wb S.nx g 0 A' X) (aA (aF ?_)) ?_)
 ·simp only[↓aC,aB,rE,↓reduceIte,rA,bF,bG,aH,aG,cT hW1.1,hn.len,w0];refine aJ (bB (aMA S wb S.nx g) ?_ g.nodes.length _ _ ⟨rfl,s1,_,Ah _,Ao ..,fun j hj=>?_,c1,by omega,by refine⟨?_,?_,?_⟩<;>simp only[↓aC,aB,rE,↓reduceIte,rA]⟩);rotate_left
  ·rw[Cc (Ah _),Ad,Cx];split<;>rfl
  rintro k ⟨F,inr⟩ X ⟨q0,hX,Fl,hkN,hFl,hF,hfb,hfbX,p0,p3,p4⟩;simp only at q0 p0 p3 p4;subst q0;refine eG ?_;simp only[↓aC,aB,rE,↓reduceIte,rA,p4];by_cases hk:0<k
  ·refine aM (by simp only[↓aC,aB,rE,↓reduceIte,rA,Ab (show(0:Int)≤(k:Int) - 1 by omega)]) (aI ?_);try simp only[↓aC,aB,rE,↓reduceIte,rA]
   have e1:(k:Int) - 1=((k - 1:Nat):Int):=by omega
   rw[e1] at p4;have hlt:k - 1<g.nodes.length:=by omega
   obtain⟨x,hx⟩:∃x,g.nodes[k - 1]? =some x:=⟨_,Ac hlt⟩;have hxm:=Bm hx;have hWX:=hW.same hX;obtain⟨e,b,q,hia,hb,he,⟨a,bb,cc,rfl,ha,hbb,hcc⟩,hag,_⟩:=aN.at (aN.same (E:=bT) bI hn hX) (by decide) hx;have hdrop:g.nodes.drop (k - 1)=x::g.nodes.drop k:=by
    rw[Br hlt,show k - 1+1=k by omega];congr 1;rw[Ac hlt] at hx;exact Bk hx
   have w1:IntKind.i64.wrap (((k - 1:Nat):Int)+1)=(k:Int):=by rw[wrap_i64 (by omega) (by omega)];omega
   have w2:IntKind.i64.wrap (((k - 1:Nat):Int) - 1)=((k - 1:Nat):Int) - 1:=wrap_i64 (by omega) (by omega);refine aA (aJ (aA (aF ?_)));simp only[↓aC,aB,rE,↓reduceIte,rA,p0,p4,bF,bG,aH,aG,cT hWX.1,aE,hia,hag];refine dO ?_;intro X1 x1 m1 d1;refine fI (b:=X.nx) (by simp only[↓aC,aB,rE,↓reduceIte,rA]) (by simp only[↓aC,aB,rE,↓reduceIte,rA];exact bJ _) d1 rfl rfl ?_;intro X2 x2 m2 d2;simp only[↓aC,aB,rE,↓reduceIte,rA];have hX2:Same X X2:=x2.same x1 (Ah _);have hfb2:X2.h.get S.nx=some (.cells (bC Fl) false 0):=by rw[hX2.2 _ hfbX];exact hfb
   refine bE ?_;simp only[↓aC,aB,rE,↓reduceIte,rA,aH,aG,dK d2];have hfin:∀ (G:Fr) (Y:St) (Fl':List Int),aD 0 G= .ptr wb 0→aD 3 G= .sl S.nx 0 g.infos.length g.infos.length false→aD 4 G= .int .i64 ((k - 1:Nat):Int)→Same S Y→Fl'.length=g.infos.length→(∀j,j<g.infos.length→Fl'.getD j 0=((kD (g.nodes.drop (k - 1)) (k - 1) j:Nat):Int))→Y.h.get S.nx=some (.cells (bC Fl') false 0)→S.nx<Y.nx→qL fns [mt 24 4,oq 25 (bi .sub (.t 24) (ci 1)),mt 4 25] G Y fun F' S'=>∃k',k'<k∧aMA S wb S.nx g k' ⟨F',false⟩ S':=fun G Y Fl' g0 g3 g4 hY h1 h2 h3 h4=>by
    simp only[↓aC,aB,rE,↓reduceIte,rA,g4,w2];exact⟨k - 1,by omega,rfl,hY,Fl',by omega,h1,h2,h3,h4,by refine⟨?_,?_,?_⟩<;>simp only[↓aC,aB,rE,↓reduceIte,rA,g0,g3]⟩
   by_cases hk2:x.kind=2
   ·refine aM (by simp only[↓aC,aB,rE,↓reduceIte,rA,Ab hk2]) ?_;obtain⟨i0,i1⟩:=hok x hxm hk2;obtain⟨n,hn'⟩:∃n:Nat,x.info=(n:Int):=⟨x.info.toNat,by omega⟩;have hni:n<g.infos.length:=by omega
    rw[hn'] at d2;have hif:=dI (b:=S.nx) (o:=false) hni;refine aF ?_;simp only[↓aC,aB,rE,↓reduceIte,rA,p0,p3,p4,aH,aG,cQ d2,w1,aE,hif];refine fD (fun call=>by simp only[↓aC,aB,rE,↓reduceIte,rA,eJ,cI];exact oC (S:=X2) hfb2 (by rw[hFl];exact hni)) ?_;simp only[↓aC,aB,rE,↓reduceIte,rA];refine aF ?_;refine aFG (hfin _ _ (Fl.set n (k:Int)) (by simp only[↓aC,aB,rE,↓reduceIte,rA,p0]) (by simp only[↓aC,aB,rE,↓reduceIte,rA,p3]) (by simp only[↓aC,aB,rE,↓reduceIte,rA,p4]) (((hX.trans hX2)).put (Ah _) _) (by rw[Al];exact hFl) (fun j hj=>?_) (by simp only;rw[T.get_set,if_pos rfl]) (by simp only;omega)) fun F' S' hh=>hh;rw[dP (by rw[hFl];exact hni),hdrop,hF j hj];simp only[kD];by_cases hjn:j=n
    ·rw[if_pos hjn,if_pos ⟨hk2,by rw[hn',hjn]⟩];omega
    ·rw[if_neg hjn,if_neg (fun h=>hjn (by omega)),show k - 1+1=k by omega]
   ·refine aK (by simp only[↓aC,aB,rE,↓reduceIte,rA,Aa hk2]) (aI ?_);try simp only[↓aC,aB,rE,↓reduceIte,rA]
    refine aF ?_;refine aFG (hfin _ X2 Fl (by simp only[↓aC,aB,rE,↓reduceIte,rA,p0]) (by simp only[↓aC,aB,rE,↓reduceIte,rA,p3]) (by simp only[↓aC,aB,rE,↓reduceIte,rA,p4]) (hX.trans hX2) hFl (fun j hj=>?_) hfb2 (by omega)) fun F' S' hh=>hh;rw[hdrop,hF j hj];simp only[kD];rw[if_neg (fun h=>hk2 h.1),show k - 1+1=k by omega]
  ·refine aK (by simp only[↓aC,aB,rE,↓reduceIte,rA,Aa (show ¬ (0:Int)≤(k:Int) - 1 by omega)]) (aU ?_);simp only[↓aC,aB,rE,↓reduceIte,rA];have hk0:k=0:=by omega
   subst hk0;exact⟨rfl,hX,Fl,hkN,hFl,hF,hfb,hfbX,by refine⟨?_,?_,?_⟩<;>simp only[↓aC,aB,rE,↓reduceIte,rA,p0,p3,p4]⟩
 rintro o ⟨F,inr⟩ S2 ⟨rfl,q0,s2,Fl,_,hFl,hF,hfb,hfb2,p0,p3,p4⟩;simp only at q0 p0 p3 p4;subst q0;have hFeq:Fl=fB g:=by
  unfold fB;refine Ez (by simp [hFl]) fun j j1 j2=>?_;have h1:=hF j (by omega);rw[Ad,Ac j1,Dj] at h1;rw[List.getElem_map,List.getElem_range];exact h1
 subst hFeq;have hW2:=hW.same s2;have hn2:=aN.same (E:=bT) bI hn s2;have hi2:=aN.same (E:=cV) cE hi s2;try simp only[↓aC,aB,rE,↓reduceIte,rA]
 refine aA (aS (Q:=fun o A' X=>(o= .normal∧aNQ S2 wb (.sl S.nx 0 g.infos.length g.infos.length false) nv g 0 A' X)∨(o= .ret∧Same S2 X∧(∃x∈g.nodes,mis g x)∧aD 2 A'.F= .int .i64 10)) (aA (aF ?_)) ?_)
 ·simp only[↓aC,aB,rE,↓reduceIte,rA,p0,bF,bG,aH,aG,cT hW2.1,hn2.len];refine aJ (bB (aNQ S2 wb (.sl S.nx 0 g.infos.length g.infos.length false) nv g) ?_ g.nodes.length _ _ ⟨rfl,Same.refl _,0,by omega,fun x hx=>(by simp at hx),by refine⟨?_,?_,?_,?_,?_⟩<;>simp only[↓aC,aB,rE,↓reduceIte,rA,p0,p3]⟩);clear p0 p3 p4;rintro k ⟨F,inr⟩ X ⟨q0,hX,i,hik,hm,p0,p3,p47,p48,p49⟩;simp only at q0 p0 p3 p47 p48 p49;subst q0;refine bE ?_;simp only[↓aC,aB,rE,↓reduceIte,rA,p48,p49];by_cases hlt:i<g.nodes.length
  ·refine aA (aM (by simp only[↓aC,aB,rE,↓reduceIte,rA,Ab (show(i:Int)<((g.nodes.length:Nat):Int) by omega)]) (aI ?_));simp only[↓aC,aB,rE,↓reduceIte,rA];obtain⟨x,hx⟩:∃x,g.nodes[i]? =some x:=⟨_,Ac hlt⟩;have hxm:=Bm hx;obtain⟨e,b,q,hia,hb,he,⟨a,bb,cc,rfl,ha,hbb,hcc⟩,hag,_⟩:=aN.at (aN.same (E:=bT) bI hn2 hX) (by decide) hx;have w1:IntKind.i64.wrap ((i:Int)+1)=((i+1:Nat):Int):=by rw[wrap_i64 (by omega) (by omega)];omega
   refine aA (aJ (aA (aF ?_)));simp only[↓aC,aB,rE,↓reduceIte,rA,p47,p49,aE,hia,hag];refine dO ?_;intro X1 x1 m1 d1;refine fI (b:=X.nx) (by simp only[↓aC,aB,rE,↓reduceIte,rA]) (by simp only[↓aC,aB,rE,↓reduceIte,rA];exact bJ _) d1 rfl rfl ?_;intro X2 x2 m2 d2;simp only[↓aC,aB,rE,↓reduceIte,rA];have hX2:Same X X2:=x2.same x1 (Ah _);have hS2X:=hX.trans hX2;have hWX:=hW2.same hS2X;have hla:=(ha.same hX2).len;have hsa:=bN.self ha;have hsi:=aN.self hi;refine aA (aS (Q:=fun o A' Y=>o= .normal∧A'.inr=false∧Same X2 Y∧aD 0 A'.F= .ptr wb 0∧aD 3 A'.F= .sl S.nx 0 g.infos.length g.infos.length false∧aD 47 A'.F=nv∧aD 48 A'.F= .int .i64 ((g.nodes.length:Nat):Int)∧aD 49 A'.F= .int .i64 (i:Int)∧aD 73 A'.F= .bool (decide (mis g x))) (gJ ?_) ?_)
   ·by_cases hk2:x.kind=2
    ·obtain⟨i0,i1⟩:=hok x hxm hk2;obtain⟨n,hn'⟩:∃n:Nat,x.info=(n:Int):=⟨x.info.toNat,by omega⟩;have hni:n<g.infos.length:=by omega
     obtain⟨y,hy⟩:∃y,g.infos[n]? =some y:=⟨_,Ac hni⟩;obtain⟨e',b',q',hia',hb',he',rfl,hag',_⟩:=aN.at (aN.same (E:=cV) cE hi2 hS2X) (by decide) hy;have hya:infoAt g x.info=y:=by unfold infoAt;rw[hn',Ad,show((n:Int)).toNat=n from rfl,hy];rfl
     have hmis:decide (mis g x)=decide (¬ (y.player=x.player∧y.actions=((x.next.length:Nat):Int))):=by
      rw[Cf,Ck,Ck];unfold mis;rw[hya];exact⟨fun h=>h.2,fun h=>⟨hk2,h⟩⟩
     rw[hmis];rw[hn'] at d2;have hs2:cB (.agg [.int .i64 y.player,.int .i64 y.actions]) (.agg [.int .i64 y.player,.int .i64 y.actions])=true:=aIm (dJ ..) (dJ ..);simp only[↓aC,aB,rE,↓reduceIte,rA,p0,p3,p47,p48,p49,bF,bO,bG,aH,aX,aG,dK d2,cT d2,cQ d2,cP d2,cQ hWX.1,aE,hia',hag',hla,hsa,hsi,hs2,Ag,mR,aMy,cI,aJ2,Ab hk2];exact Same.nx _ _
    ·rw[Aa (show ¬mis g x from fun h=>hk2 h.1)];simp only[↓aC,aB,rE,↓reduceIte,rA,p0,p3,p47,p48,p49,aH,aX,aG,dK d2,Aa hk2];exact Same.nx _ _
   clear p0 p3 p47 p48 p49;rintro o ⟨F,inr⟩ Y ⟨rfl,q0,hY,p0,p3,p47,p48,p49,pb⟩;simp only at q0 p0 p3 p47 p48 p49 pb;subst q0;have hS2Y:=hS2X.trans hY;try simp only[↓aC,aB,rE,↓reduceIte,rA]
   by_cases hmx:mis g x
   ·refine aM (by simp only[↓aC,aB,rE,↓reduceIte,rA,pb,Ab hmx]) ?_;refine bE ?_;simp only[↓aC,aB,rE,↓reduceIte,rA];refine aO ?_;simp only[↓aC,aB,rE,↓reduceIte,rA];exact .inr ⟨hS2Y,x,hxm,hmx⟩
   ·refine aK (by simp only[↓aC,aB,rE,↓reduceIte,rA,pb,Aa hmx]) (aI ?_);try simp only[↓aC,aB,rE,↓reduceIte,rA]
    refine aF ?_;simp only[↓aC,aB,rE,↓reduceIte,rA,p49,w1];refine⟨k - 1,by omega,rfl,hS2Y,i+1,by omega,fun y hy=>?_,by refine⟨?_,?_,?_,?_,?_⟩<;>simp only[↓aC,aB,rE,↓reduceIte,rA,p0,p3,p47,p48]⟩;rw[Bi,hx] at hy;rcases Bv.1 hy with h | h
    ·exact hm y h
    ·simp at h;rw[h];exact hmx
  ·refine aA (aK (by simp only[↓aC,aB,rE,↓reduceIte,rA,Aa (show ¬ (i:Int)<((g.nodes.length:Nat):Int) by omega)]) (aU ?_));simp only[↓aC,aB,rE,↓reduceIte,rA];have hk0:k=0:=by omega
   subst hk0;exact .inl ⟨rfl,hX,i,hik,hm,by refine⟨?_,?_,?_,?_,?_⟩<;>simp only[↓aC,aB,rE,↓reduceIte,rA,p0,p3,p47,p48,p49]⟩
 clear p0 p3 p4;rintro o ⟨F,inr⟩ X (⟨rfl,q0,hX,i,hik,hm,p0,p3,p47,p48,p49⟩ | ⟨rfl,hX,hmx,p2⟩);rotate_left
 ·simp only at p2;simp only[↓aC,aB,rE,↓reduceIte,rA,p2];unfold yM;rw[if_pos hmx];exact⟨rfl,s2.trans hX⟩
 simp only at q0 p0 p3;subst q0;rw[Ax (by omega)] at hm;unfold yM;rw[if_neg (fun⟨x,h1,h2⟩=>hm x h1 h2)];have sX:=s2.trans hX;have hfX:X.h.get S.nx=some (.cells (bC (fB g)) false 0):=by rw[hX.2 _ hfb2];exact hfb
 have hrow:=aBg (N:=g.infos.length) hfX (Ae hfb2 hX.1) hFl;try simp only[↓aC,aB,rE,↓reduceIte,rA]
 refine eG ?_;simp only[↓aC,aB,rE,↓reduceIte,rA,p3];refine aY ?_;simp only[↓aC,aB,rE,↓reduceIte,rA];refine aP (aCx H hrow (by omega)) ?_;rintro _ Y ⟨rfl,hY⟩;rw[hY];try simp only[↓aC,aB,rE,↓reduceIte,rA]
 by_cases h0:(0:Int)∈fB g
 ·rw[if_pos h0];refine aM (by simp only[↓aC,aB,rE,↓reduceIte,rA,Ab h0]) ?_;refine bE ?_;simp only[↓aC,aB,rE,↓reduceIte,rA];refine aO ?_;simp only[↓aC,aB,rE,↓reduceIte,rA];exact sX
 rw[if_neg h0];refine aK (by simp only[↓aC,aB,rE,↓reduceIte,rA,Aa h0]) (aI ?_);try simp only[↓aC,aB,rE,↓reduceIte,rA]
 refine eG ?_;simp only[↓aC,aB,rE,↓reduceIte,rA,p3];refine aY ?_;simp only[↓aC,aB,rE,↓reduceIte,rA];refine aP (aFg H hrow (by omega)) ?_;rintro _ Y ⟨⟨t,rfl,ht⟩,hY⟩;simp only[↓aC,aB,rE,↓reduceIte,rA,dH];cases t with
 | false=>
  rw[if_neg (fun h=>by have:=ht.2 h;cases this)];refine aM (by simp only[↓aC,aB,rE,↓reduceIte,rA];rfl) ?_;refine bE ?_;simp only[↓aC,aB,rE,↓reduceIte,rA];refine aO ?_;simp only[↓aC,aB,rE,↓reduceIte,rA];exact sX.trans hY
 | true=>
  rw[if_pos (ht.1 rfl)];refine aK (by simp only[↓aC,aB,rE,↓reduceIte,rA];rfl) (aI ?_);try simp only[↓aC,aB,rE,↓reduceIte,rA]
  refine bE ?_;simp only[↓aC,aB,rE,↓reduceIte,rA];refine aO ?_;simp only[↓aC,aB,rE,↓reduceIte,rA];exact sX.trans hY
def kO(g:aW):Prop:=g.players<1∨(4:Int)<g.players∨((g.nodes.length:Nat):Int)<1∨(2000:Int)<((g.nodes.length:Nat):Int)∨(200:Int)<((g.infos.length:Nat):Int)
instance badGDec(g:aW):Decidable (kO g):=by unfold kO;exact inferInstance
def jA(ps:Int)(ni:Nat):List dW→Int
 | []=>0
 | x::l=>if fM ps ni x≠0 then fM ps ni x else jA ps ni l
def eK(g:aW):Option (List cC):=eE g.nodes.length (dB g) (g.nodes.length+1) 0 (-1) 0
noncomputable def cM(g:aW):Int:=
 if kO g then 2 else if jA g.players g.infos.length g.nodes≠0 then jA g.players g.infos.length g.nodes else
 match eK g with
 | none=>9
 | some T=>if T.length≠g.nodes.length then 9 else if 40<vC 0 T then 5 else yM g
theorem fZ{ps:Int}{ni:Nat}:∀ {l:List dW},jA ps ni l=0→∀x∈l,fM ps ni x=0
 | [],_,x,hx=>by cases hx
 | y::l,h,x,hx=>by
  simp only[jA] at h;split at h
  ·rename_i hne;exact absurd h hne
  ·rename_i he;rcases Bg.1 hx with rfl | hx
   ·exact Du.1 he
   ·exact fZ h x hx
theorem aAl{ps:Int}{ni:Nat}{x:dW}(h:fM ps ni x=0):x.next.length≤1000:=by
 unfold fM at h;split at h
 ·split at h
  ·cases h
  ·rename_i hb;unfold kT at hb;omega
 ·split at h
  ·split at h
   ·cases h
   ·rename_i hb;unfold sK at hb;omega
  ·split at h
   ·split at h
    ·cases h
    ·rename_i hb;unfold lD at hb;omega
   ·cases h
theorem aAe{ps:Int}{ni:Nat}{x:dW}(h:fM ps ni x=0)(h2:x.kind=2):0≤x.info∧x.info<ni:=by
 unfold fM at h;rw[if_neg (by omega),if_pos h2] at h;split at h
 ·cases h
 ·split at h
  ·cases h
  ·omega
theorem stc{S:St}{b p:Nat}{w:AV}{cs:List AV}{o:Bool}{sz:Nat}(h:S.h.get b=some (.cells cs o sz))(hp:p<cs.length):lK (.ptr b p) 1 [w] S=some (.undef,⟨S.h.set b (some (.cells (cs.set p w) o sz)),S.nx⟩):=by
 have hput:put cs p [w]=some (cs.set p w):=by
  rw[put_eq,if_pos (by simp;omega)];congr 1;rw[List.set_eq_take_append_cons_drop,if_pos hp];simp
 simp only[lK,pD,h,aT,wL,hput];rfl
theorem yA{W:Nat→Prop}{h0 h':T AB}{base m i:Nat}{l:List AO}{F:Fr}{S:St}{ps ps':List iV}{last:Option Nat}{Q:Fr→St→List iV→Prop}{x v:cJ}{b p sz:Nat}{w:AV}{cs:List AV}{o:Bool}(hfl:cH m ps S.h=(ps',h'))(h:kV last m=true)(hx:x.val F= .ptr b p)(hv:(v.val F).cells=some [w])(hb:h'.get b=some (.cells cs o sz))(hp:p<cs.length)(hW:W b)
  (hr:fQ fns W h0 base l (i+1) F ⟨h'.set b (some (.cells (cs.set p w) o sz)),S.nx⟩ ps' (some i) Q):fQ fns W h0 base (⟨none,.x (.st 1 x v),none,m⟩::l) i F S ps last Q:=by
 refine xK (S1:=⟨h'.set b (some (.cells (cs.set p w) o sz)),S.nx⟩) h ?_ ?_ ?_
 ·rw[hfl,hv,aT,hx];exact stc (S:=⟨h',S.nx⟩) hb hp
 ·rw[hfl];refine⟨Ah _,fun c hc hw=>?_⟩;simp only;rw[T.get_set,if_neg (show ¬c=b from fun e=>hw (by rw[e];exact hW))]
 ·rw[hfl];exact hr
theorem sI{h:T AB}{b:Nat}{x0 x1 x2:AV}{o:Bool}{s:Nat}(hb:h.get b=some (.cells [x0,x1,x2] o s)):dT (.ptr b (0+0)) false 1 h=some x0:=ldc hb rfl
theorem eF{h:T AB}{b:Nat}{x0 x1 x2:AV}{o:Bool}{s:Nat}(hb:h.get b=some (.cells [x0,x1,x2] o s)):dT (.ptr b (0+1)) false 1 h=some x1:=ldc hb rfl
theorem lB{h:T AB}{b:Nat}{x0 x1 x2:AV}{o:Bool}{s:Nat}(hb:h.get b=some (.cells [x0,x1,x2] o s)):dT (.ptr b (0+2)) false 1 h=some x2:=ldc hb rfl
theorem gG{h:T AB}{b:Nat}{x0 x1 x2:AV}{o:Bool}{s:Nat}(hb:h.get b=some (.cells [x0,x1,x2] o s)):dT (.ptr b 0) true 3 h=some (.agg [x0,x1,x2]):=pK hb rfl
theorem wZ{m j id:Nat}{bl:AB}{ps:List iV}{h:T AB}(ht:Nat.testBit m j=false):cH m (⟨j,id,bl⟩::ps) h=(⟨j,id,bl⟩::(cH m ps h).1,(cH m ps h).2):=by
 conv=>lhs;unfold cH
 rw[show Nat.testBit m (iV.mk j id bl).i=false from ht,aV]
theorem fH{m j id:Nat}{bl:AB}{ps:List iV}{h:T AB}(ht:Nat.testBit m j=true):cH m (⟨j,id,bl⟩::ps) h=cH m ps (h.set id (some bl)):=by
 conv=>lhs;unfold cH
 rw[show Nat.testBit m (iV.mk j id bl).i=true from ht,aQ]
theorem nI{W:Nat→Prop}{h0:T AB}{base i:Nat}{l:List AO}{F:Fr}{S:St}{ps:List iV}{last:Option Nat}{Q:Fr→St→List iV→Prop}{d:Option Nat}{t s bytes n:Nat}{z:List AV}{lo co:cJ}(hl:eR (lo.val F)=some n)(hc:eR (co.val F)=some n)(h1:n≤room)(h2:bytes * n≤room)
  (hr:fQ fns W h0 base l (i+1) (cD d F (.sl (base+i) 0 n n false)) S (⟨i,base+i,.cells (repeatL z n) false 0⟩::ps) last Q):aFE fns W h0 base (vG (.mkSlice t s bytes z lo co) F (base+i)) d l i F S ps last Q:=by
 rw[mI hl hc h1 h2,nE];exact hr
theorem fU.full{sel:cC→Int}{P P':List Int}{T:List cC}(h:fU sel P P' T 0)(hl:T.length=P.length):P'=T.map sel:=by
 refine Ez (by rw[Bc,h.1,hl]) fun j j1 j2=>?_;have h1:=h.2 j;rw[Bc] at j2;unfold sT at h1;rw[if_pos (Cj _),Fc,Ac j2,Ad,Ac j1] at h1;rw[List.getElem_map];exact h1
theorem aGC{g:aW}{T:List cC}(h:eK g=some T):∃e L,T=(-1,0,e)::L:=by
 unfold eK at h;simp only[eE] at h;split at h
 ·obtain⟨L,_,rfl⟩:=Ap.1 h;exact⟨_,_,rfl⟩
 ·cases h
theorem aJH(m:Int)(L:List cC):aF5 m (L.map (·.2.1))=vC m L:=by
 unfold aF5 vC;rw[List.foldl_map]
theorem aKQ{P:T AB→Prop}{h:T AB}{w b1 b2 b3:Nat}{c1 c2 c3 z:Option AB}(n1:w≠b1)(n2:w≠b2)(n3:w≠b3)(n4:b1≠b2)(n5:b1≠b3)(n6:b2≠b3)
  (H:∀h':T AB,h'.get w=c3→h'.get b1=z→h'.get b2=z→h'.get b3=z→(∀c,c≠w→c≠b1→c≠b2→c≠b3→h'.get c=h.get c)→P h'):P ((((((h.set b1 z).set w c1).set b2 z).set w c2).set b3 z).set w c3):=by
 refine H _ ?_ ?_ ?_ ?_ fun c h1 h2 h3 h4=>?_
 ·rw[T.get_set,if_pos rfl]
 ·rw[T.get_set,if_neg (Co n1),T.get_set,if_neg n5,T.get_set,if_neg (Co n1),T.get_set,if_neg n4,T.get_set,if_neg (Co n1),T.get_set,if_pos rfl]
 ·rw[T.get_set,if_neg (Co n2),T.get_set,if_neg n6,T.get_set,if_neg (Co n2),T.get_set,if_pos rfl]
 ·rw[T.get_set,if_neg (Co n3),T.get_set,if_pos rfl]
 ·rw[T.get_set,if_neg h1,T.get_set,if_neg h4,T.get_set,if_neg h1,T.get_set,if_neg h3,T.get_set,if_neg h1,T.get_set,if_neg h2]
def aNU(S2:St)(gb wb:Nat)(nv:AV)(g:aW)(k:Nat)(A:bH)(X:St):Prop:=A.inr=false∧Same S2 X∧∃i,i+k=g.nodes.length∧jA g.players g.infos.length g.nodes=jA g.players g.infos.length (g.nodes.drop i)∧aD 1 A.F= .ptr gb 0∧aD 4 A.F= .ptr wb 0∧aD 40 A.F=nv∧aD 41 A.F= .int .i64 ((g.nodes.length:Nat):Int)∧aD 42 A.F= .int .i64 (i:Int)
def aMv(S S':St)(p nv iv:AV)(g:aW):Prop:=∃ (wb pb db lb:Nat) (T:List cC),p= .ptr wb 0∧S.nx≤wb∧eK g=some T∧T.length=g.nodes.length∧WK S' wb pb db lb g.nodes.length g.players nv iv (T.map (·.1)) (T.map (·.2.1)) (T.map (·.2.2))
theorem aE7{S:St}{nv iv:AV}{g:aW}(H:Has fns)(hn:aN 6 bT S nv g.nodes)(hi:aN 2 cV S iv g.infos)(hln:g.nodes.length≤100000):
  fA fns (.fn 79 [] []) [.agg [.int .i64 g.players,nv,iv]] S fun r S'=>Same S S'∧∃p,r= .tup [p,.int .i64 (cM g)]∧(cM g=0→aMv S S' p nv iv g):=by
 refine bP H.f79 (by simp) ?_;simp only[↓sU,sD,rE,↓reduceIte,rA];refine bE ?_;refine dG (by simp only[↓sU,sD,rE,↓reduceIte,rA];exact bJ _) ?_;intro S1 s1 n1 c1;simp only[↓sU,sD,rE,↓reduceIte,rA];have hnl:=hn.len;have hil:=hi.len;refine aA (aA (aS (Q:=fun o A' X=>o= .normal∧A'.inr=false∧X=S1∧aD 1 A'.F= .ptr S.nx 0∧aD 35 A'.F= .bool (decide (kO g))) (aF ?_) ?_))
 ·by_cases h1:g.players<1
  ·rw[Ab (show kO g from .inl h1)];simp only[↓sU,sD,rE,↓reduceIte,rA,aH,aG,sI c1,eF c1,lB c1,hnl,hil,Ab h1]
  by_cases h2:(4:Int)<g.players
  ·rw[Ab (show kO g from .inr (.inl h2))];simp only[↓sU,sD,rE,↓reduceIte,rA,aH,aG,sI c1,eF c1,lB c1,hnl,hil,Aa h1,Ab h2]
  by_cases h3:((g.nodes.length:Nat):Int)<1
  ·rw[Ab (show kO g from .inr (.inr (.inl h3)))];simp only[↓sU,sD,rE,↓reduceIte,rA,aH,aG,sI c1,eF c1,lB c1,hnl,hil,Aa h1,Aa h2,Ab h3]
  by_cases h4:(2000:Int)<((g.nodes.length:Nat):Int)
  ·rw[Ab (show kO g from .inr (.inr (.inr (.inl h4))))];simp only[↓sU,sD,rE,↓reduceIte,rA,aH,aG,sI c1,eF c1,lB c1,hnl,hil,Aa h1,Aa h2,Aa h3,Ab h4]
  by_cases h5:(200:Int)<((g.infos.length:Nat):Int)
  ·rw[Ab (show kO g from .inr (.inr (.inr (.inr h5))))];simp only[↓sU,sD,rE,↓reduceIte,rA,aH,aG,sI c1,eF c1,lB c1,hnl,hil,Aa h1,Aa h2,Aa h3,Aa h4,Ab h5]
  ·rw[Aa (show ¬kO g by unfold kO;omega)];simp only[↓sU,sD,rE,↓reduceIte,rA,aH,aG,sI c1,eF c1,lB c1,hnl,hil,Aa h1,Aa h2,Aa h3,Aa h4,Aa h5]
 rintro o ⟨F,inr⟩ X ⟨rfl,q0,hX,p1,pb⟩;simp only at q0 p1 pb;subst q0;rw[hX];clear hX;try simp only[↓sU,sD,rE,↓reduceIte,rA]
 by_cases bad:kO g
 ·have hE:cM g=2:=by unfold cM;rw[if_pos bad]
  rw[hE];refine aM (by simp only[↓sU,sD,rE,↓reduceIte,rA,pb,Ab bad]) ?_;refine bE ?_;simp only[↓sU,sD,rE,↓reduceIte,rA];refine aO ?_;simp only[↓sU,sD,rE,↓reduceIte,rA];exact⟨s1,_,rfl,fun h=>by cases h⟩
 refine aK (by simp only[↓sU,sD,rE,↓reduceIte,rA,pb,Aa bad]) (aI ?_);try simp only[↓sU,sD,rE,↓reduceIte,rA]
 have hps:1≤g.players∧g.players≤4:=by unfold kO at bad;omega
 have hN:g.nodes.length≤2000:=by unfold kO at bad;omega
 have hN0:0<g.nodes.length:=by unfold kO at bad;omega
 have hI:g.infos.length≤200:=by unfold kO at bad;omega
 have hbd:∀ (F:Fr) (h:T AB),aD 36 F= .agg [.int .i64 g.players,nv,iv]→gS (.build [.int .i64 0,.nilsl,.nilsl,.nilsl,.nilsl,.nilsl] [(0,3,.t 36)]) F h=some (.agg [.int .i64 g.players,nv,iv,.nilsl,.nilsl,.nilsl]):=fun F h he=>by
  show(aZ (gH _ (fF F [(0,3,.t 36)])) fun cs=>some (AV.agg cs))=_;simp only[fF,show(cJ.t 36).val F= .agg [.int .i64 g.players,nv,iv] from he];rfl
 refine bE ?_;simp only[↓aC,aB,rE,↓reduceIte,rA,p1,gG c1,hbd];refine dG (by simp only[↓aC,aB,rE,↓reduceIte];exact bJ _) ?_;intro S2 s2 n2 c2;simp only[↓sU,sD,rE,↓reduceIte,rA];have sS2:Same S S2:=s1.trans s2;have hW:qJ S2 S1.nx g.players nv iv .nilsl .nilsl .nilsl:=⟨c2,by omega⟩;have hn2:=aN.same (E:=bT) bI hn sS2;have gl2:S.nx<S2.nx:=by omega
 have c1':S2.h.get S.nx=some (.cells [.int .i64 g.players,nv,iv] false 0):=by rw[s2.2 _ (by omega)];exact c1
 refine aA (aS (Q:=fun o A' X=>(o= .normal∧aNU S2 S.nx S1.nx nv g 0 A' X)∨(o= .ret∧Same S2 X∧jA g.players g.infos.length g.nodes≠0∧aD 2 A'.F= .nilp∧aD 3 A'.F= .int .i64 (jA g.players g.infos.length g.nodes))) (aA (aF ?_)) ?_)
 ·simp only[↓sU,sD,rE,↓reduceIte,rA,p1,aH,aG,eF c1',hnl];refine aJ (bB (aNU S2 S.nx S1.nx nv g) ?_ g.nodes.length _ _ ⟨rfl,Same.refl _,0,by omega,by rw[Dj],by refine⟨?_,?_,?_,?_,?_⟩<;>simp only[↓sU,sD,rE,↓reduceIte,rA,p1]⟩);clear p1 pb;rintro k ⟨F,inr⟩ X ⟨q0,hX,i,hik,hE,p1,p4,p40,p41,p42⟩;simp only at q0 p1 p4 p40 p41 p42;subst q0;refine bE ?_;simp only[↓sU,sD,rE,↓reduceIte,rA,p41,p42];by_cases hlt:i<g.nodes.length
  ·refine aA (aM (by simp only[↓sU,sD,rE,↓reduceIte,rA,Ab (show(i:Int)<((g.nodes.length:Nat):Int) by omega)]) (aI ?_));simp only[↓sU,sD,rE,↓reduceIte,rA];obtain⟨x,hx⟩:∃x,g.nodes[i]? =some x:=⟨_,Ac hlt⟩;obtain⟨e,b,q,hia,hb,he,hNE,hag,_⟩:=aN.at (aN.same (E:=bT) bI hn2 hX) (by decide) hx;have hdrop:g.nodes.drop i=x::g.nodes.drop (i+1):=by
    rw[Br hlt];congr 1;rw[Ac hlt] at hx;exact Bk hx
   have w1:IntKind.i64.wrap ((i:Int)+1)=((i+1:Nat):Int):=by rw[wrap_i64 (by omega) (by omega)];omega
   refine aA (aJ (aA (aF ?_)));simp only[↓aC,aB,rE,↓reduceIte,rA,p40,p42,aE,hia,hag];refine dO ?_;intro X1 x1 m1 d1;refine fI (b:=X.nx) (by simp only[↓aC,aB,rE,↓reduceIte,rA]) (by simp only[↓aC,aB,rE,↓reduceIte,rA];exact bJ _) d1 rfl he ?_;intro X2 x2 m2 d2;simp only[↓aC,aB,rE,↓reduceIte,rA];have hX2:Same X X2:=x2.same x1 (Ah _);refine bE ?_;simp only[↓sU,sD,rE,↓reduceIte,rA,p4,pK d2 he];refine aY ?_;simp only[↓sU,sD,rE,↓reduceIte,rA];refine aP (aH7 H (bI hNE hX2) (hW.same (hX.trans hX2)) hps hil (by omega) (aN.self hi)) ?_;rintro _ Y ⟨rfl,hY⟩;have hSY:=(hX.trans hX2).trans hY;rw[hdrop] at hE;simp only[jA] at hE;try simp only[↓sU,sD,rE,↓reduceIte,rA]
   refine bE ?_;simp only[↓sU,sD,rE,↓reduceIte,rA];by_cases he0:fM g.players g.infos.length x=0
   ·rw[if_neg (fun h=>h he0)] at hE;refine aK (by simp only[↓sU,sD,rE,↓reduceIte,rA,Aa (show ¬fM g.players g.infos.length x≠0 from fun h=>h he0)]) (aI ?_);try simp only[↓sU,sD,rE,↓reduceIte,rA]
    refine aF ?_;simp only[↓sU,sD,rE,↓reduceIte,rA,p42,w1];exact⟨k - 1,by omega,rfl,hSY,i+1,by omega,hE,by refine⟨?_,?_,?_,?_,?_⟩<;>simp only[↓sU,sD,rE,↓reduceIte,rA,p1,p4,p40,p41]⟩
   ·rw[if_pos he0] at hE;refine aM (by simp only[↓sU,sD,rE,↓reduceIte,rA,Ab (show fM g.players g.infos.length x≠0 from he0)]) ?_;refine bE ?_;simp only[↓sU,sD,rE,↓reduceIte,rA];refine aO ?_;simp only[↓sU,sD,rE,↓reduceIte,rA];exact .inr ⟨hSY,by rw[hE];exact he0,by rw[hE]⟩
  ·refine aA (aK (by simp only[↓sU,sD,rE,↓reduceIte,rA,Aa (show ¬ (i:Int)<((g.nodes.length:Nat):Int) by omega)]) (aU ?_));simp only[↓sU,sD,rE,↓reduceIte,rA];have hk0:k=0:=by omega
   subst hk0;exact .inl ⟨rfl,hX,i,hik,hE,by refine⟨?_,?_,?_,?_,?_⟩<;>simp only[↓sU,sD,rE,↓reduceIte,rA,p1,p4,p40,p41,p42]⟩
 clear p1 pb;rintro o ⟨F,inr⟩ X (⟨rfl,q0,hX,i,hik,hE,p1,p4,p40,p41,p42⟩ | ⟨rfl,hX,hne,p2,p3⟩);rotate_left
 ·simp only at p2 p3;simp only[↓sU,sD,rE,↓reduceIte,rA,p2,p3];have hE:cM g=jA g.players g.infos.length g.nodes:=by unfold cM;rw[if_neg bad,if_pos hne]
  rw[hE];exact⟨sS2.trans hX,_,rfl,fun h=>absurd h hne⟩
 simp only at q0 p1 p4;subst q0;rw[Cc (by omega)] at hE;have hform:cM g=match eK g with | none=>9 | some T=>if T.length≠g.nodes.length then 9 else if 40<vC 0 T then 5 else yM g:=by
  conv=>lhs;unfold cM
  rw[if_neg bad,if_neg (fun h=>h hE)]
  first | done | (cases eK g<;>rfl)
 have sX:=sS2.trans hX;have cX:X.h.get S.nx=some (.cells [.int .i64 g.players,nv,iv] false 0):=by rw[hX.2 _ gl2];exact c1'
 have wX:=(hW.same hX).1;have ltw:=(hW.same hX).2;have ltg:S.nx<X.nx:=Ae gl2 hX.1;have nwg:¬S.nx=S1.nx:=by omega
 try simp only[↓sU,sD,rE,↓reduceIte,rA]
 refine aA (qA (fun b=>b=S1.nx) ?_);intro X1 x1 hx1 hm1;simp only[↓sU,sD,rE,↓reduceIte,rA,p1,p4,aH,aX,aG,eF cX,ltg,nwg,Aq,hnl,aN.self hn];refine nI (n:=g.nodes.length) (by simp only[↓sU,sD,rE,↓reduceIte,rA,aE]) (by simp only[↓sU,sD,rE,↓reduceIte,rA,aE]) (by unfold room;omega) (by unfold room;omega) ?_;simp only[↓sU,sD,rE,↓reduceIte,rA,p1,p4,aH,aX,aG,eF cX,ltg,nwg,Aq,hnl,aN.self hn];refine nI (n:=g.nodes.length) (by simp only[↓sU,sD,rE,↓reduceIte,rA,aE]) (by simp only[↓sU,sD,rE,↓reduceIte,rA,aE]) (by unfold room;omega) (by unfold room;omega) ?_;simp only[↓sU,sD,rE,↓reduceIte,rA,p1,p4,aH,aX,aG,eF cX,ltg,nwg,Aq,hnl,aN.self hn];refine nI (n:=g.nodes.length) (by simp only[↓sU,sD,rE,↓reduceIte,rA,aE]) (by simp only[↓sU,sD,rE,↓reduceIte,rA,aE]) (by unfold room;omega) (by unfold room;omega) ?_;simp only[↓sU,sD,rE,↓reduceIte,rA,p1,p4,bF,bO,bG,aH,aX,aG];have hz:repeatL [AV.int .i64 0] g.nodes.length=bC (List.replicate g.nodes.length 0):=by rw[repeatL_one];simp [bC]
 rw[hz];have n6:¬S1.nx=X.nx+6:=by omega
 have n10:¬S1.nx=X.nx+10:=by omega
 have n14:¬S1.nx=X.nx+14:=by omega
 refine yA (b:=S1.nx) (p:=3) (w:=.sl (X.nx+6) 0 g.nodes.length g.nodes.length false) (cs:=[.int .i64 g.players,nv,iv,.nilsl,.nilsl,.nilsl]) (o:=false) (sz:=0) ((wZ (show Nat.testBit 98425 14=false by decide)).trans (by rw[wZ (show Nat.testBit 98425 10=false by decide),fH (show Nat.testBit 98425 6=true by decide),cK])) rfl (by simp only[↓sU,sD,rE,↓reduceIte,rA]) (by simp only[↓sU,sD,rE,↓reduceIte,rA];rfl) (by rw[T.get_set,if_neg n6,hx1];exact wX) (by simp) rfl ?_;simp only[↓sU,sD,rE,↓reduceIte,rA,p1,p4,bF,bO,bG,aH,aX,aG];refine yA (b:=S1.nx) (p:=4) (w:=.sl (X.nx+10) 0 g.nodes.length g.nodes.length false) (cs:=[.int .i64 g.players,nv,iv,.sl (X.nx+6) 0 g.nodes.length g.nodes.length false,.nilsl,.nilsl]) (o:=false) (sz:=0) ((wZ (show Nat.testBit 1017851 14=false by decide)).trans (by rw[fH (show Nat.testBit 1017851 10=true by decide),cK])) rfl (by simp only[↓sU,sD,rE,↓reduceIte,rA]) (by simp only[↓sU,sD,rE,↓reduceIte,rA];rfl) (by rw[T.get_set,if_neg n10,T.get_set,if_pos rfl];rfl) (by simp) rfl ?_;simp only[↓sU,sD,rE,↓reduceIte,rA,p1,p4,bF,bO,bG,aH,aX,aG];refine yA (b:=S1.nx) (p:=5) (w:=.sl (X.nx+14) 0 g.nodes.length g.nodes.length false) (cs:=[.int .i64 g.players,nv,iv,.sl (X.nx+6) 0 g.nodes.length g.nodes.length false,.sl (X.nx+10) 0 g.nodes.length g.nodes.length false,.nilsl]) (o:=false) (sz:=0) ((fH (show Nat.testBit 8388607 14=true by decide)).trans (cK _ _)) rfl (by simp only[↓sU,sD,rE,↓reduceIte,rA]) (by simp only[↓sU,sD,rE,↓reduceIte,rA];rfl) (by rw[T.get_set,if_neg n14,T.get_set,if_pos rfl];rfl) (by simp) rfl ?_;simp only[↓sU,sD,rE,↓reduceIte,rA];refine aKQ (P:=fun h'=>mA fns _ _ ⟨h',X1.nx⟩ _) n6 n10 n14 (by omega) (by omega) (by omega) ?_;intro Zh gw g1 g2 g3 gr;have hm1:X1.nx=X.nx+24:=hm1;have sZ:Same S ⟨Zh,X1.nx⟩:=⟨by show S.nx≤X1.nx;have:=sX.1;omega,fun c hc=>by
  have:=sX.1;show Zh.get c=S.h.get c;rw[gr c (by omega) (by omega) (by omega) (by omega),hx1];exact sX.2 c hc⟩
 have cZ:Zh.get S.nx=some (.cells [.int .i64 g.players,nv,iv] false 0):=by
  rw[gr _ (by omega) (by omega) (by omega) (by omega),hx1];exact cX
 have hK:WK ⟨Zh,X1.nx⟩ S1.nx (X.nx+6) (X.nx+10) (X.nx+14) g.nodes.length g.players nv iv (List.replicate g.nodes.length 0) (List.replicate g.nodes.length 0) (List.replicate g.nodes.length 0):=⟨⟨gw,by show S1.nx<X1.nx;omega⟩,g1,g2,g3,Ao ..,Ao ..,Ao ..,by show _<X1.nx;omega,by show _<X1.nx;omega,by show _<X1.nx;omega⟩;generalize hZ:(⟨Zh,X1.nx⟩:St)=Z at *;have cZ:Z.h.get S.nx=some (.cells [.int .i64 g.players,nv,iv] false 0):=by rw[←hZ];exact cZ
 have lz:S1.nx<Z.nx:=hK.w.2;have hall:=fZ hE;refine eG ?_;simp only[↓sU,sD,rE,↓reduceIte,rA,p1,p4,aH,aG,eF cZ];refine aY ?_;simp only[↓sU,sD,rE,↓reduceIte,rA];rw[show Int.negSucc 0=(-1:Int) from rfl];refine aP (aIh (rv:=nv) H hn (by omega) (by have:=sX.1;omega) (by have:=sX.1;omega) (by have:=sX.1;omega) (by omega) (by omega) (by omega) n6 n10 n14 hN (fun x hx=>aAl (hall x hx)) (g.nodes.length+1) (at_:=0) (p:= -1) (d:=0) (by omega) (by decide) (by decide) (by omega) sZ hK (by rw[Dj];exact hn)) ?_;rintro r Y ⟨hY,P',D',L',hKY,hres⟩;have sY:Same S Y:=hY.same sZ (by have:=sX.1;omega) (by have:=sX.1;omega) (by have:=sX.1;omega);have hres':match eK g with | some T=>(∃v,r= .tup [v,.bool true]∧aN 6 bT S v (g.nodes.drop (0+T.length)))∧fU (·.1) (List.replicate g.nodes.length 0) P' T 0∧fU (·.2.1) (List.replicate g.nodes.length 0) D' T 0∧fU (·.2.2) (List.replicate g.nodes.length 0) L' T 0 | none=>r= .tup [.nilsl,.bool false]:=hres
 clear hres;cases hw:eK g with
 | none=>
  rw[hw] at hres' hform;subst hres';simp only at hform;rw[hform];simp only[↓sU,sD,rE,↓reduceIte,rA,ex0,ex1];refine bE ?_;simp only[↓sU,sD,rE,↓reduceIte,rA,dH,Bq];refine aM (by simp only[↓sU,sD,rE,↓reduceIte,rA]) ?_;refine bE ?_;simp only[↓sU,sD,rE,↓reduceIte,rA];refine aO ?_;simp only[↓sU,sD,rE,↓reduceIte,rA];exact⟨sY,_,rfl,fun h=>by cases h⟩
 | some T=>
  rw[hw] at hres' hform;obtain⟨⟨v,rfl,hv⟩,rP,rD,rL⟩:=hres';simp only at hform;have hTl:=(uQ (show eE g.nodes.length (dB g) (g.nodes.length+1) 0 (-1) 0=some T from hw)).1;have hvl:=hv.len;rw[Da] at hvl;simp only[↓sU,sD,rE,↓reduceIte,rA,ex0,ex1];refine bE ?_;simp only[↓sU,sD,rE,↓reduceIte,rA,dH,Bl,hvl];by_cases hT:T.length=g.nodes.length;rotate_left
  ·rw[hform,if_pos hT];refine aM (by simp only[↓sU,sD,rE,↓reduceIte,rA,Ab (show(0:Int)<((g.nodes.length - (0+T.length):Nat):Int) by omega)]) ?_;refine bE ?_;simp only[↓sU,sD,rE,↓reduceIte,rA];refine aO ?_;simp only[↓sU,sD,rE,↓reduceIte,rA];exact⟨sY,_,rfl,fun h=>by cases h⟩
  rw[if_neg (fun h=>h hT)] at hform;refine aK (by simp only[↓sU,sD,rE,↓reduceIte,rA,Aa (show ¬ (0:Int)<((g.nodes.length - (0+T.length):Nat):Int) by omega)]) (aI ?_);try simp only[↓sU,sD,rE,↓reduceIte,rA]
  have eP:=rP.full (by rw[Ao];exact hT);have eD:=rD.full (by rw[Ao];exact hT);have eL:=rL.full (by rw[Ao];exact hT);subst eP eD eL;have hrow:=aBg hKY.gd hKY.bd hKY.ld;obtain⟨e,L,hTe⟩:=aGC hw;have hmax:aF5 ((T.map (·.2.1)).getD 0 0) ((T.map (·.2.1)).drop 1)=vC 0 T:=by
   rw[hTe];show aF5 0 (L.map (·.2.1))=vC 0 ((-1,0,e)::L);rw[aJH,aIB];rfl
  refine eG ?_;simp only[↓sU,sD,rE,↓reduceIte,rA,p1,p4,bF,bG,aH,aG,cU hKY.w.1];refine aY ?_;simp only[↓sU,sD,rE,↓reduceIte,rA];refine aP (aKq H hrow (by rw[Bc];omega) (by rw[Bc];omega)) ?_;rintro _ Y2 ⟨rfl,hY2⟩;rw[hY2,hmax];simp only[↓sU,sD,rE,↓reduceIte,rA];by_cases h40:40<vC 0 T
  ·rw[hform,if_pos h40];refine aM (by simp only[↓sU,sD,rE,↓reduceIte,rA,Ab h40]) ?_;refine bE ?_;simp only[↓sU,sD,rE,↓reduceIte,rA];refine aO ?_;simp only[↓sU,sD,rE,↓reduceIte,rA];exact⟨sY,_,rfl,fun h=>by cases h⟩
  rw[if_neg h40] at hform;refine aK (by simp only[↓sU,sD,rE,↓reduceIte,rA,Aa h40]) (aI ?_);try simp only[↓sU,sD,rE,↓reduceIte,rA]
  refine bE ?_;simp only[↓sU,sD,rE,↓reduceIte,rA,p1,p4];refine aY ?_;simp only[↓sU,sD,rE,↓reduceIte,rA];refine aP (aHK H hKY.w (aN.same (E:=bT) bI hn sY) (aN.same (E:=cV) cE hi sY) hN hI (fun x hx h2=>aAe (hall x hx) h2)) ?_;rintro _ Y3 ⟨rfl,hY3⟩;try simp only[↓sU,sD,rE,↓reduceIte,rA,p4]
  refine aO ?_;simp only[↓sU,sD,rE,↓reduceIte,rA];rw[hform];refine⟨sY.trans hY3,_,rfl,fun _=>⟨S1.nx,_,_,_,T,rfl,by omega,hw,hT,⟨hKY.w.same hY3,by rw[hY3.2 _ hKY.bp];exact hKY.gp,by rw[hY3.2 _ hKY.bd];exact hKY.gd,by rw[hY3.2 _ hKY.bl];exact hKY.gl,hKY.lp,hKY.ld,hKY.ll,Ae hKY.bp hY3.1,Ae hKY.bd hY3.1,Ae hKY.bl hY3.1⟩⟩⟩
theorem aCH{S:St}{wb:Nat}{ps:Int}{n i p d l:AV}(H:Has fns)(hW:qJ S wb ps n i p d l):fA fns (.fn 65 [] []) [.ptr wb 0] S fun r S'=>r=p∧Same S S':=by
 refine bP H.f65 (by simp) ?_;simp only[↓sU,sD,rE,↓reduceIte,rA];refine bE ?_;simp only[↓sU,sD,rE,↓reduceIte,rA];refine bE ?_;simp only[↓sU,sD,rE,↓reduceIte,rA,bF,bG,aH,aG,cP hW.1];refine aO ?_;simp only[↓sU,sD,rE,↓reduceIte,rA];exact Same.refl _
def aMe(S S':St)(v:AV)(g:aW):Prop:=(cM g≠0→v= .nilsl)∧(cM g=0→∃T,eK g=some T∧T.length=g.nodes.length∧bN .i64 S' v (T.map (·.1)))
theorem aD4{S:St}{nv iv:AV}{g:aW}(H:Has fns)(hn:aN 6 bT S nv g.nodes)(hi:aN 2 cV S iv g.infos)(hln:g.nodes.length≤100000):
  fA fns (.fn 46 [] []) [.agg [.int .i64 g.players,nv,iv]] S fun r S'=>∃v,r= .tup [v,.int .i64 (cM g)]∧Same S S'∧aMe S S' v g:=by
 refine bP H.f46 (by simp) ?_;simp only[↓sU,sD,rE,↓reduceIte,rA];refine bE ?_;refine dG (by simp only[↓sU,sD,rE,↓reduceIte,rA];exact bJ _) ?_;intro S1 s1 n1 c1;simp only[↓sU,sD,rE,↓reduceIte,rA];refine bE ?_;simp only[↓sU,sD,rE,↓reduceIte,rA,gG c1];refine aY ?_;simp only[↓sU,sD,rE,↓reduceIte,rA];have hn1:=aN.same (E:=bT) bI hn s1;have hi1:=aN.same (E:=cV) cE hi s1;refine aP (Q:=fun r X=>∃v,r= .tup [v,.int .i64 (cM g)]∧Same S1 X∧aMe S1 X v g) ?_ ?_
 ·refine bP H.f64 (by simp) ?_;simp only[↓sU,sD,rE,↓reduceIte,rA];refine bE ?_;refine dG (by simp only[↓sU,sD,rE,↓reduceIte,rA];exact bJ _) ?_;intro S2 s2 n2 c2;simp only[↓sU,sD,rE,↓reduceIte,rA];refine bE ?_;simp only[↓sU,sD,rE,↓reduceIte,rA,gG c2];refine aY ?_;simp only[↓sU,sD,rE,↓reduceIte,rA];refine aP (aE7 H (aN.same (E:=bT) bI hn1 s2) (aN.same (E:=cV) cE hi1 s2) hln) ?_;rintro _ X ⟨hX,p,rfl,hok⟩;simp only[↓sU,sD,rE,↓reduceIte,rA,ex0,ex1];refine eG ?_;simp only[↓sU,sD,rE,↓reduceIte,rA];by_cases h0:cM g=0
  ·refine aK (by simp only[↓sU,sD,rE,↓reduceIte,rA,Aa (show ¬cM g≠0 from fun h=>h h0)]) (aI ?_);try simp only[↓sU,sD,rE,↓reduceIte,rA]
   obtain⟨wb,pb,db,lb,T,rfl,_,hT,hTl,hK⟩:=hok h0;refine bE ?_;simp only[↓sU,sD,rE,↓reduceIte,rA];refine aY ?_;simp only[↓sU,sD,rE,↓reduceIte,rA];refine aP (aCH H hK.w) ?_;rintro _ Y ⟨rfl,hY⟩;try simp only[↓sU,sD,rE,↓reduceIte,rA]
   refine aO ?_;simp only[↓sU,sD,rE,↓reduceIte,rA];rw[h0];refine⟨_,rfl,(s2.trans hX).trans hY,fun h=>absurd h0 h,fun _=>⟨T,hT,hTl,?_⟩⟩;exact(aBg hK.gp hK.bp hK.lp).same hY
  ·refine aM (by simp only[↓sU,sD,rE,↓reduceIte,rA,Ab (show cM g≠0 from h0)]) ?_;refine bE ?_;simp only[↓sU,sD,rE,↓reduceIte,rA];refine bE ?_;simp only[↓sU,sD,rE,↓reduceIte,rA];refine aO ?_;simp only[↓sU,sD,rE,↓reduceIte,rA];exact⟨_,rfl,s2.trans hX,fun _=>rfl,fun h=>absurd h h0⟩
 rintro _ X ⟨v,rfl,hX,hP⟩;simp only[↓sU,sD,rE,↓reduceIte,rA,ex0,ex1];refine aO ?_;simp only[↓sU,sD,rE,↓reduceIte,rA];exact⟨_,rfl,s1.trans hX,hP⟩
theorem aLi{S:St}{t:Nat}{x:AV}{o:Bool}{sz:Nat}(h:S.h.get t=some (.cells [x] o sz)):fP (.sl t 0 1 1 false) S.h 1 1=some [x]:=by
 show aZ (cS S.h t) (fun cs=>cut cs 0 (1 * 1))=_;unfold cS;rw[h];rfl
theorem jZ.push{bytes t:Nat}{S0 S:St}{v:AV}{l:List Int}{w:Int}(h:jZ 1 S0 S v l.length (bC l))(hS:Same S0 S)(ht:S.h.get t=some (.cells [.int .i64 w] false 0))(h1:l.length+1≤room)(h2:(l.length+1) * bytes≤room):
  ∃v' S',iN bytes 1 v (.sl t 0 1 1 false) S=some (v',S')∧jZ 1 S0 S' v' (l++ [w]).length (bC (l++ [w]))∧cL v'=some S.nx∧S'.nx=S.nx+1∧∀c,c<S.nx→cL v≠some c→S'.h.get c=S.h.get c:=by
 have hs:=aLi ht;have e0:bC (l++ [w])=bC l++ [.int .i64 w]:=by simp [bC]
 have e1:(l++ [w]).length=l.length+1:=by simp
 rw[e0,e1];generalize hn:l.length=n at *;rcases h with⟨rfl,rfl,h0⟩ | ⟨b,rfl,hb0,hb,hg,hc⟩
 ·refine⟨.sl S.nx 0 1 1 true,⟨S.h.set S.nx (some (.cells [.int .i64 w] true 1)),S.nx+1⟩,?_,.inr ⟨S.nx,by rw[An],hS.1,by simp,?_,?_⟩,rfl,rfl,fun c hc _=>(Same.alloc S _).2 c hc⟩
  ·show(aZ (some 1) fun j=>aZ (fP (.sl t 0 1 1 false) S.h 1 j) fun new=>aDN .nilsl bytes 1 j new S)=_;rw[aT,hs,aT];show uC bytes 1 1 [.int .i64 w] S=_;unfold uC;rw[show Nat.beq 1 0=false from rfl,aV,Am (by omega),aQ,Am (by rw[An] at h2;exact h2),aQ];rfl
  ·simp only;rw[T.get_set,if_pos rfl,h0];rfl
  ·rw[h0];rfl
 ·refine⟨.sl S.nx 0 (n+1) (n+1) true,⟨(S.h.set b none).set S.nx (some (.cells (bC l++ [.int .i64 w]) true 1)),S.nx+1⟩,?_,.inr ⟨S.nx,rfl,hS.1,by simp,?_,by rw[Ak,hc,Bz,Et,Nat.one_mul]⟩,rfl,rfl,fun c hc hne=>?_⟩
  ·show(aZ (some 1) fun j=>aZ (fP (.sl t 0 1 1 false) S.h 1 j) fun new=>aDN (.sl b 0 n n true) bytes 1 j new S)=_;rw[aT,hs,aT];show vT bytes 1 b 0 n n true 1 [.int .i64 w] S=_;unfold vT;have e2:Nat.ble (n+1) n=false:=by rw[Dh];intro h;have:=Aw h;omega
   rw[e2,aV,Am h1,aQ,Am h2,aQ,hg,aT];have e3:cut (bC l) 0 (n * 1)=some (bC l):=by
    unfold cut;rw[jX,kU,Dj,if_pos (by omega),Ax (by omega)]
   have e4:Nat.beq (0+n * 1) (jN (bC l))=true:=by rw[dV,hc,Bd];omega
   simp only[aEx,e3,aT,aQ,e4,show Nat.beq 1 1=true from rfl,grown,fK]
  ·simp only;rw[T.get_set,if_pos rfl]
  ·simp only;have:c≠b:=fun e=>hne (by rw[e];rfl);rw[T.get_set,if_neg (by omega),T.get_set,if_neg this]
theorem jZ.self{k n:Nat}{S0 S:St}{v:AV}{cs:List AV}(h:jZ k S0 S v n cs):cB v v=true:=by
 rcases h with⟨rfl,_⟩ | ⟨b,rfl,_⟩
 ·rfl
 ·exact mM ..
theorem jZ.cells{k n:Nat}{S0 S:St}{v:AV}{cs:List AV}(h:jZ k S0 S v n cs):v.cells=some [v]:=by
 rcases h with⟨rfl,_⟩ | ⟨b,rfl,_⟩<;>rfl
noncomputable def aLZ:List AO:=[mt 25 3,
oq 26 (.faddr 2 (.t 5)),
om 27 2 (ld 26),
mt 28 3,
oq 29 (.faddr 2 (.t 5)),
om 30 16 (ld 29),
om 31 56 (.iaddr (.slice 1) (.t 28) (.t 30)),
om 32 120 (ld 31),
mt 33 4,
⟨(some 34),(.a (.bslice 3 1 1 [(.int .i64 0)] [(0,(.t 33))])),none,256⟩,
⟨(some 35),(.x (.app 3 1 8 (.t 32) (.t 34))),none,1016⟩,
om 36 2047 (.iaddr (.slice 1) (.t 25) (.t 27)),
⟨none,(.x (.st 1 (.t 36) (.t 35))),none,4095⟩]
theorem fN{h:T AB}{b p:Nat}{cs:List AV}{x:AV}{o:Bool}{s:Nat}(hb:h.get b=some (.cells cs o s))(hj:cs[p]? =some x):dT (.ptr b p) false 1 h=some x:=by
 have:=ldc (j:=p) hb hj;rw[An] at this;exact this
theorem aJu{F:Fr}{S0 S:St}{inr:Bool}{ob nb n i NI:Nat}{cs:List AV}{a c0 c1 c3 c4 c5:AV}{l:List Int}{Q:Out→bH→St→Prop}(p3:aD 3 F= .sl ob 0 NI NI false)(p4:aD 4 F= .int .i64 (i:Int))(p5:aD 5 F= .ptr nb 0)
  (hnb:S.h.get nb=some (.cells [c0,c1,.int .i64 (n:Int),c3,c4,c5] false 0)) (hob:S.h.get ob=some (.cells cs false 0)) (hcs:cs.length=NI) (hn:cs[n]? =some a) (ha:jZ 1 S0 S a l.length (bC l)) (hS:Same S0 S) (lnb:nb<S.nx) (lob:ob<S.nx) (ne1:cL a≠some ob) (ne2:cL a≠some nb) (hl:l.length≤100000)
  (hQ:∀F' S' a',aD 1 F'=aD 1 F→aD 3 F'=aD 3 F→aD 4 F'=aD 4 F→S.nx≤S'.nx→S'.h.get ob=some (.cells (cs.set n a') false 0)→jZ 1 S0 S' a' (l++ [(i:Int)]).length (bC (l++ [(i:Int)]))→(∃b',cL a'=some b'∧S.nx≤b'∧b'<S'.nx)→(∀c,c<S.nx→c≠ob→cL a≠some c→S'.h.get c=S.h.get c)→Q .normal ⟨F',inr⟩ S'):mA fns (.drw aLZ) ⟨F,inr⟩ S Q:=by
 have hlt:n<cs.length:=(Ai.1 hn).1;have hia:=dI (b:=ob) (N:=NI) (o:=false) (show n<NI by omega);have hldo:=fN hob hn;have he:∀F id,aD 33 F= .int .i64 (i:Int)→vG (.bslice 3 1 1 [AV.int .i64 0] [(0,.t 33)]) F id=some (.sl id 0 1 1 false,.cells [.int .i64 (i:Int)] false 0):=fun F id h=>aA9 h;have sB:Same S ⟨S.h.set (S.nx+9) (some (.cells [.int .i64 (i:Int)] false 0)),S.nx+13⟩:=⟨by simp,fun c hc=>by simp only;rw[T.get_set,if_neg (by omega)]⟩;obtain⟨a',S1,eA,gA,bA,nA,rA⟩:=jZ.push (bytes:=8) (t:=S.nx+9) (w:=(i:Int)) (ha.step sB) (hS.trans sB) (by simp only;rw[T.get_set,if_pos rfl]) (by unfold room;omega) (by unfold room;omega);simp only at bA nA rA;have hob1:S1.h.get ob=some (.cells cs false 0):=by rw[rA _ (by omega) ne1];exact(sB.2 _ lob).trans hob
 have hnb1:S1.h.get nb=some (.cells [c0,c1,.int .i64 (n:Int),c3,c4,c5] false 0):=by rw[rA _ (by omega) ne2];exact(sB.2 _ lnb).trans hnb
 refine qX ?_;unfold aLZ;simp only[mF,eO,aDT,aH,aG,mZ,kI,lA,dR,rE,↓reduceIte,p3,p4,p5,aE,aT,hia,hldo,cQ hnb,uK,jH,mW,aX,aQ,aV,aG4,he,rA];refine aC7 (v:=a') (S1:=S1) rfl (fun call=>?_) ?_
 ·rw[mU (show Nat.testBit 1016 9=true by decide),mL];simp only[lA,dR,rE,↓reduceIte];exact eA
 rw[mU (show Nat.testBit 1016 9=true by decide)];simp only[mF,eO,mZ,lA,dR,rE,↓reduceIte,aE,aT,hia,jH,aV];refine aC7 (v:=.undef) (S1:=⟨S1.h.set ob (some (.cells (cs.set n a') false 0)),S1.nx⟩) (show Nat.testBit 4095 10=true by decide) (fun call=>?_) ?_
 ·rw[eJ];simp only[lA,dR,rE,↓reduceIte,gA.cells,aT];exact stc (S:=S1) hob1 hlt
 rw[oO];have hsa:=ha.self;refine⟨?_,?_⟩
 ·have e1:∀ (v:AV) (G:Fr) (sl p msk ii:Nat) (X1 X2:T AB) (b:Nat),aD sl G= .ptr b p→dT (.ptr b p) false 1 S.h=some v→cB v v=true→Nat.testBit msk 10=false→Nat.testBit 1016 ii=true→eY ⟨.ld false 1 (.t sl),G,v,ii,msk⟩ [(10,1016,X1),(12,4095,X2)] S.h=true:=fun v G sl p msk ii X1 X2 b h1 h2 h3 h4 h5=>by
   unfold eY;have e:gS (.ld false 1 (.t sl)) G S.h=some v:=by rw[kI,lA,h1];exact h2
   simp only[h4,h5,aV,aQ,e,fY,h3]
  have e2:∀ (v:AV) (G:Fr) (sl p msk ii:Nat) (X1 X2:T AB) (b:Nat),aD sl G= .ptr b p→dT (.ptr b p) false 1 S.h=some v→dT (.ptr b p) false 1 X1=some v→cB v v=true→Nat.testBit msk 10=false→Nat.testBit msk 12=false→Nat.testBit 1016 ii=false→Nat.testBit 4095 ii=true→eY ⟨.ld false 1 (.t sl),G,v,ii,msk⟩ [(10,1016,X1),(12,4095,X2)] S.h=true:=fun v G sl p msk ii X1 X2 b h1 h2 h2' h3 h4 h4' h5 h6=>by
   have e:gS (.ld false 1 (.t sl)) G S.h=some v:=by rw[kI,lA,h1];exact h2
   have e':gS (.ld false 1 (.t sl)) G X1=some v:=by rw[kI,lA,h1];exact h2'
   unfold eY;simp only[h4,h5,aV,aQ,e,fY,h3];unfold eY;simp only[h4',h6,aV,aQ,e',fY,h3]
  simp only[Ff,List.reverse_nil,Cm,Cz,lC,sP];rw[e1 a _ 31 n 120 7 _ _ ob (by simp only[dR,rE,↓reduceIte]) hldo hsa (by decide) (by decide),e1 _ _ 29 (0+2) 16 5 _ _ nb (by simp only[dR,rE,↓reduceIte]) (cQ hnb) (dJ ..) (by decide) (by decide),e2 _ _ 26 (0+2) 2 2 _ _ nb (by simp only[dR,rE,↓reduceIte]) (cQ hnb) (cQ hnb1) (dJ ..) (by decide) (by decide) (by decide) (by decide)];rfl
 ·have hobA:cL a'≠some ob:=by rw[bA];intro h;have:=Bk h;omega
  have hS1:S.nx≤S1.nx:=by omega
  refine hQ _ _ a' (by simp only[↓sU,sD,rE,↓reduceIte,rA]) (by simp only[↓sU,sD,rE,↓reduceIte,rA]) (by simp only[↓sU,sD,rE,↓reduceIte,rA]) hS1 (by simp only[cK];rw[T.get_set,if_pos rfl]) ?_ ⟨_,bA,by omega,by show _<S1.nx;omega⟩ fun c hc h1 h2=>?_
  ·rcases gA with h | ⟨b,h1,h2,h3,h4,h5⟩
   ·rw[h.1] at bA;cases bA
   ·refine .inr ⟨b,h1,h2,h3,?_,h5⟩;simp only[cK];rw[T.get_set,if_neg (fun e=>hobA (by rw[h1,←e];rfl))];exact h4
  ·simp only[cK];rw[T.get_set,if_neg h1,rA _ (by omega) h2];exact sB.2 _ hc
def jQ:List dW→Nat→Nat→List Int
 | [],_,_=>[]
 | x::l,s,i=>if x.kind=2∧x.info=(i:Int) then(s:Int)::jQ l (s+1) i else jQ l (s+1) i
theorem yX(x:dW)(i:Nat):∀ (l:List dW) (s:Nat),jQ (l++ [x]) s i=if x.kind=2∧x.info=(i:Int) then jQ l s i++ [((s+l.length:Nat):Int)] else jQ l s i
 | [],s=>by
  simp only[Cm,jQ,Bu,Bj]
 | y::l,s=>by
  simp only[Cz,jQ];rw[yX x i l (s+1),Au,show s+1+l.length=s+(l.length+1) by omega];split<;>split<;>rfl
theorem aFY(i:Nat):∀ (l:List dW) (s:Nat),(jQ l s i).length≤l.length
 | [],_=>Ah _
 | y::l,s=>by
  simp only[jQ];have:=aFY i l (s+1);split
  ·rw[Au,Au];omega
  ·rw[Au];omega
def aFU(g:aW):List (List Int):=(List.range g.infos.length).map (jQ g.nodes 0)
def kJ(S:St)(cs:List AV)(l:List Int):Prop:=∃a,cs= [a]∧bN .i64 S a l
theorem firm_sl:nY kJ:=fun⟨a,h,h1⟩ hs=>⟨a,h,h1.same hs⟩
theorem jZ.is{S0 S:St}{v:AV}{l:List Int}(h:jZ 1 S0 S v l.length (bC l)):bN .i64 S v l:=by
 rcases h with⟨rfl,h0,_⟩ | ⟨b,rfl,h1,h2,h3,h4⟩
 ·exact .inl ⟨Cg.1 h0,.inl rfl⟩
 ·refine .inr ⟨b,0,l.length,true,bC l,rfl,Ah _,h2,by unfold cS;rw[h3];rfl,fun i x hi=>?_⟩;rw[An];unfold bC;rw[Az,hi];rfl
theorem jZ.blk{k n c:Nat}{S0 S:St}{v:AV}{cs:List AV}(h:jZ k S0 S v n cs)(hc:cL v=some c):S0.nx≤c∧c<S.nx∧S.h.get c=some (.cells cs true k):=by
 rcases h with⟨rfl,_⟩ | ⟨b,rfl,h1,h2,h3,h4⟩
 ·cases hc
 ·cases hc;exact⟨h1,h2,h3⟩
theorem jZ.off{k n c s:Nat}{S0 S:St}{v:AV}{cs cs':List AV}(h:jZ k S0 S v n cs)(hc:S.h.get c=some (.cells cs' false s)):cL v≠some c:=fun e=>by
 have:=(h.blk e).2.2;rw[hc] at this;cases this
structure Fam(S0 X:St)(ob NI:Nat)(cs:List AV)(L:Nat→List Int):Prop where
 ho:X.h.get ob=some (.cells cs false 0)
 lt:ob<X.nx
 hl:cs.length=NI
 gr:∀ (j:Nat) (a:AV),cs[j]? =some a→jZ 1 S0 X a (L j).length (bC (L j))
 dj:∀ (j k:Nat) (a b:AV),j≠k→cs[j]? =some a→cs[k]? =some b→∀c,cL a=some c→cL b≠some c
theorem Fam.same{S0 X X':St}{ob NI:Nat}{cs:List AV}{L:Nat→List Int}(h:Fam S0 X ob NI cs L)(hs:Same X X'):Fam S0 X' ob NI cs L:=⟨(hs.2 _ h.lt).trans h.ho,Ae h.lt hs.1,h.hl,fun j a hj=>(h.gr j a hj).step hs,h.dj⟩
theorem Fam.push{S0 X X':St}{ob NI n:Nat}{cs:List AV}{L:Nat→List Int}{a a':AV}{w:Int}(h:Fam S0 X ob NI cs L)(hn:cs[n]? =some a)(hx:X.nx≤X'.nx)(ho:X'.h.get ob=some (.cells (cs.set n a') false 0))(hg:jZ 1 S0 X' a' (L n++ [w]).length (bC (L n++ [w])))(hb:∃b',cL a'=some b'∧X.nx≤b'∧b'<X'.nx)(hr:∀c,c<X.nx→c≠ob→cL a≠some c→X'.h.get c=X.h.get c):
  Fam S0 X' ob NI (cs.set n a') (fun j=>if j=n then L n++ [w] else L j):=by
 have hlt:=(Ai.1 hn).1;obtain⟨b',hb1,hb2,hb3⟩:=hb;have get:∀ (j:Nat) (c:AV),(cs.set n a')[j]? =some c→(j=n∧c=a')∨(j≠n∧cs[j]? =some c):=fun j c hj=>by
  rw[Dt] at hj;split at hj
  ·rename_i e;exact .inl ⟨e.symm,(Bk hj).symm⟩
  ·rename_i e;exact .inr ⟨fun e'=>e e'.symm,hj⟩
 refine⟨ho,Ae h.lt hx,by rw[Al];exact h.hl,fun j c hj=>?_,fun j k x y hjk hx' hy c hc hc'=>?_⟩
 ·rcases get j c hj with⟨rfl,rfl⟩ | ⟨hne,hj⟩
  ·simp only[↓reduceIte];exact hg
  ·simp only[if_neg hne];have hj':=h.gr j c hj;rcases hj' with h0 | ⟨b,h1,h2,h3,h4,h5⟩
   ·exact .inl h0
   ·have hbc:cL c=some b:=by rw[h1];rfl
    refine .inr ⟨b,h1,h2,Ae h3 hx,?_,h5⟩;rw[hr b h3 (fun e=>(h.gr j c hj).off h.ho (by rw[hbc,e])) (h.dj j n c a hne hj hn b hbc)];exact h4
 ·rcases get j x hx' with⟨rfl,rfl⟩ | ⟨hne,hj⟩
  ·rcases get k y hy with⟨rfl,rfl⟩ | ⟨hne2,hk⟩
   ·exact hjk rfl
   ·rw[hb1] at hc;have:=((h.gr k y hk).blk hc').2.1;have:=Bk hc;omega
  ·rcases get k y hy with⟨rfl,rfl⟩ | ⟨hne2,hk⟩
   ·rw[hb1] at hc';have:=((h.gr j x hj).blk hc).2.1;have:=Bk hc';omega
   ·exact h.dj j k x y hjk hj hk c hc hc'
theorem Fam.is{S0 X:St}{ob NI:Nat}{cs:List AV}{L:Nat→List Int}(h:Fam S0 X ob NI cs L):aN 1 kJ X (.sl ob 0 NI NI false) ((List.range NI).map L):=by
 refine .inr ⟨ob,0,NI,false,cs,by simp,by simp,h.lt,by unfold cS;rw[h.ho];rfl,fun i l hi=>?_⟩;rw[Az,Ap] at hi;obtain⟨i',hi',rfl⟩:=hi;have hlt:i<NI:=by have:=(Ai.1 hi').1;rwa [Db] at this
 rw[Cn hlt] at hi'
 ·cases hi';have hc:cs[i]? =some (cs[i]'(by rw[h.hl];exact hlt)):=Ac _;refine⟨[cs[i]'(by rw[h.hl];exact hlt)],rfl,fun j x hj=>?_,_,rfl,(h.gr i _ hc).is⟩;cases j with
  | zero=>
   cases hj;rw[An,Dn,Bj];exact hc
  | succ j=>simp at hj
def aNj(S:St)(gb ob:Nat)(nv iv:AV)(g:aW)(k:Nat)(A:bH)(X:St):Prop:=A.inr=false∧Same S X∧X.h.get gb=some (.cells [.int .i64 g.players,nv,iv] false 0)∧gb<X.nx∧gb≠ob∧∃i cs,i+k=g.nodes.length∧Fam S X ob g.infos.length cs (jQ (g.nodes.take i) 0)∧
 aD 1 A.F= .ptr gb 0∧aD 3 A.F= .sl ob 0 g.infos.length g.infos.length false∧aD 4 A.F= .int .i64 (i:Int)
theorem aE1{S:St}{nv iv:AV}{g:aW}(H:Has fns)(hn:aN 6 bT S nv g.nodes)(hi:aN 2 cV S iv g.infos)(hN:g.nodes.length≤100000)(hI:g.infos.length≤100000)(hok:aDy g):
  fA fns (.fn 55 [] []) [.agg [.int .i64 g.players,nv,iv]] S fun r S'=>Same S S'∧aN 1 kJ S' r (aFU g):=by
 refine bP H.f55 (by simp) ?_;simp only[↓sU,sD,rE,↓reduceIte,rA];refine bE ?_;refine dG (by simp only[↓sU,sD,rE,↓reduceIte,rA];exact bJ _) ?_;intro S1 s1 n1 c1;simp only[↓sU,sD,rE,↓reduceIte,rA];refine bE ?_;simp only[↓aC,aB,rE,↓reduceIte,rA,aH,aG,lB c1,hi.len];refine fX (mI (n:=g.infos.length) (by simp only[↓aC,aB,rE,↓reduceIte,rA,aE]) (by simp only[↓aC,aB,rE,↓reduceIte,rA,aE]) (by unfold room;omega) (by unfold room;omega)) ?_;intro S2 s2 n2 c2;simp only[↓aC,aB,rE,↓reduceIte,rA];rw[repeatL_one] at c2;have sS2:=s1.trans s2;have c1':S2.h.get S.nx=some (.cells [.int .i64 g.players,nv,iv] false 0):=by rw[s2.2 _ (by omega)];exact c1
 have hF0:Fam S S2 S1.nx g.infos.length (List.replicate g.infos.length .nilsl) (jQ (g.nodes.take 0) 0):=by
  refine⟨c2,by omega,Ao ..,fun j a hj=>?_,fun j k a b _ hj hk c hc=>?_⟩
  ·rw[Cx] at hj;split at hj
   ·cases hj;exact .inl ⟨rfl,rfl,rfl⟩
   ·cases hj
  ·rw[Cx] at hj;split at hj
   ·cases hj;cases hc
   ·cases hj
 refine aA (aS (Q:=fun o A' X=>o= .normal∧aNj S S.nx S1.nx nv iv g 0 A' X) (aA (aF ?_)) ?_)
 ·simp only[↓aC,aB,rE,↓reduceIte,rA];refine aJ (bB (aNj S S.nx S1.nx nv iv g) ?_ g.nodes.length _ _ ⟨rfl,sS2,c1',by omega,by omega,0,_,by omega,hF0,by refine⟨?_,?_,?_⟩<;>simp only[↓aC,aB,rE,↓reduceIte,rA]⟩);rintro k ⟨F,inr⟩ X ⟨q0,hX,cX,gX,ngo,i,cs,hik,hF,p1,p3,p4⟩;simp only at q0 p1 p3 p4;subst q0;have hnX:=aN.same (E:=bT) bI hn hX;refine eG ?_;simp only[↓aC,aB,rE,↓reduceIte,rA,p1,p4,aH,aG,eF cX,hn.len];by_cases hlt:i<g.nodes.length
  ·refine aM (by simp only[↓aC,aB,rE,↓reduceIte,rA,Ab (show(i:Int)<((g.nodes.length:Nat):Int) by omega)]) (aI ?_);try simp only[↓aC,aB,rE,↓reduceIte,rA]
   obtain⟨x,hx⟩:∃x,g.nodes[i]? =some x:=⟨_,Ac hlt⟩;have hxm:=Bm hx;obtain⟨e,b,q,hia,hb,he,⟨a,bb,cc,rfl,ha,hbb,hcc⟩,hag,_⟩:=aN.at hnX (by decide) hx;have w1:IntKind.i64.wrap ((i:Int)+1)=((i+1:Nat):Int):=by rw[wrap_i64 (by omega) (by omega)];omega
   have htk:g.nodes.take (i+1)=g.nodes.take i++ [x]:=by rw[Bi,hx];rfl
   have hti:(g.nodes.take i).length=i:=by rw[Ca];omega
   refine aA (aJ (aA (aF ?_)));simp only[↓aC,aB,rE,↓reduceIte,rA,p1,p4,aH,aG,eF cX,aE,hia,hag];refine dO ?_;intro X1 x1 m1 d1;refine fI (b:=X.nx) (by simp only[↓aC,aB,rE,↓reduceIte,rA]) (by simp only[↓aC,aB,rE,↓reduceIte,rA];exact bJ _) d1 rfl rfl ?_;intro X2 x2 m2 d2;simp only[↓aC,aB,rE,↓reduceIte,rA];have hX2:Same X X2:=x2.same x1 (Ah _);have cX2:X2.h.get S.nx=some (.cells [.int .i64 g.players,nv,iv] false 0):=by rw[hX2.2 _ gX];exact cX
   have hF2:=hF.same hX2;have ltX2:X.nx<X2.nx:=by omega
   have gX2:S.nx<X2.nx:=Ae gX hX2.1;have hSX2:=hX.trans hX2;refine bE ?_;simp only[↓aC,aB,rE,↓reduceIte,rA,aH,aG,dK d2];by_cases hk2:x.kind=2
   ·refine aM (by simp only[↓aC,aB,rE,↓reduceIte,rA,Ab hk2]) ?_;obtain⟨i0,i1⟩:=hok x hxm hk2;obtain⟨n,hn'⟩:∃n:Nat,x.info=(n:Int):=⟨x.info.toNat,by omega⟩;have hni:n<cs.length:=by rw[hF.hl];omega
    rw[hn'] at d2;have hcn:cs[n]? =some cs[n]:=Ac hni;have hgn:=hF2.gr n _ hcn;refine aJu (S0:=S) (ob:=S1.nx) (nb:=X.nx) (n:=n) (i:=i) (NI:=g.infos.length) (cs:=cs) (a:=cs[n]) (l:=jQ (g.nodes.take i) 0 n) (by simp only[↓aC,aB,rE,↓reduceIte,rA,p3]) (by simp only[↓aC,aB,rE,↓reduceIte,rA,p4]) (by simp only[↓aC,aB,rE,↓reduceIte,rA]) d2 hF2.ho hF.hl hcn hgn hSX2 ltX2 hF2.lt (hgn.off hF2.ho) (hgn.off d2) (by have:=aFY n (g.nodes.take i) 0;omega) ?_;intro F' X3 a' q1 q3 q4 hx3 ho3 hg3 hb3 hr3;have hF3:=hF2.push hcn hx3 ho3 hg3 hb3 hr3;refine aF ?_;simp only[↓aC,aB,rE,↓reduceIte,rA,q4,p4,w1];refine⟨k - 1,by omega,rfl,⟨Ay hSX2.1 hx3,fun c hc=>?_⟩,?_,Ae gX2 hx3,ngo,i+1,cs.set n a',by omega,?_,by refine⟨?_,?_,?_⟩<;>simp only[↓aC,aB,rE,↓reduceIte,rA,q1,p1,q3,p3]⟩
    ·have h1:=hSX2.1;rw[hr3 c (by omega) (by omega) (fun e=>by have:=(hgn.blk e).1;omega)];exact hSX2.2 c hc
    ·rw[hr3 _ gX2 ngo (hgn.off cX2)];exact cX2
    ·have e:(fun j=>if j=n then jQ (g.nodes.take i) 0 n++ [(i:Int)] else jQ (g.nodes.take i) 0 j)=jQ (g.nodes.take (i+1)) 0:=by
      funext j;rw[htk,yX,hti,An];by_cases hj:j=n
      ·rw[if_pos hj,if_pos ⟨hk2,by rw[hn',hj]⟩,hj]
      ·rw[if_neg hj,if_neg (fun h=>hj (by have:=h.2;omega))]
     rw[←e];exact hF3
   ·refine aK (by simp only[↓aC,aB,rE,↓reduceIte,rA,Aa hk2]) (aI ?_);try simp only[↓aC,aB,rE,↓reduceIte,rA]
    refine aF ?_;simp only[↓aC,aB,rE,↓reduceIte,rA,p4,w1];refine⟨k - 1,by omega,rfl,hSX2,cX2,gX2,ngo,i+1,cs,by omega,?_,by refine⟨?_,?_,?_⟩<;>simp only[↓aC,aB,rE,↓reduceIte,rA,p1,p3]⟩;have e:jQ (g.nodes.take i) 0=jQ (g.nodes.take (i+1)) 0:=by
     funext j;rw[htk,yX,if_neg (fun h=>hk2 h.1)]
    rw[←e];exact hF2
  ·refine aK (by simp only[↓aC,aB,rE,↓reduceIte,rA,Aa (show ¬ (i:Int)<((g.nodes.length:Nat):Int) by omega)]) (aU ?_);simp only[↓aC,aB,rE,↓reduceIte,rA];have hk0:k=0:=by omega
   subst hk0;exact⟨rfl,hX,cX,gX,ngo,i,cs,hik,hF,by refine⟨?_,?_,?_⟩<;>simp only[↓aC,aB,rE,↓reduceIte,rA,p1,p3,p4]⟩
 rintro o ⟨F,inr⟩ X ⟨rfl,q0,hX,cX,gX,ngo,i,cs,hik,hF,p1,p3,p4⟩;simp only at q0 p3;subst q0;rw[Ax (by omega)] at hF;try simp only[↓aC,aB,rE,↓reduceIte,rA]
 refine bE ?_;simp only[↓aC,aB,rE,↓reduceIte,rA,p3];refine aO ?_;simp only[↓aC,aB,rE,↓reduceIte,rA];exact⟨hX,hF.is⟩
theorem zB{x y z:AV}(h1:cB x x=true)(h2:cB y y=true)(h3:cB z z=true):cB (.agg [x,y,z]) (.agg [x,y,z])=true:=by
 simp [cB,jP,h1,h2,h3]
theorem pW(i:Nat):∀ (l:List dW) (s:Nat),(jQ l s i= []∧kD l s i=0)∨∃a L,jQ l s i=((a:Nat):Int)::L∧kD l s i=a+1
 | [],_=>.inl ⟨rfl,rfl⟩
 | x::l,s=>by
  simp only[jQ,kD];split
  ·exact .inr ⟨s,_,rfl,rfl⟩
  ·exact pW i l (s+1)
noncomputable def aMd:List AO:=[oq 54 (.ld true 3 (.t 1)),
oc 55 54 [(.t 54),(.c (.int .i64 0)),(.c (.int .i64 0)),(.t 5)] 1,
oq 56 (.faddr 1 (.t 1)),
om 57 4 (ld 56),
om 58 12 (.lenSl (.t 57)),
om 59 31 (bi .neq (.t 55) (.t 58))]
theorem aJ8{F:Fr}{S0 S:St}{inr:Bool}{gb db:Nat}{nv iv:AV}{g:aW}{Q:Out→bH→St→Prop}(H:Has fns)(p1:aD 1 F= .ptr gb 0)(p5:aD 5 F= .ptr db 0)(hn:aN 6 bT S0 nv g.nodes)(hi:aN 2 cV S0 iv g.infos)(hS:Same S0 S)(hg:S.h.get gb=some (.cells [.int .i64 g.players,nv,iv] false 0))(lg:gb<S.nx)(hd:S.h.get db=some (.cells [.int .i64 0] false 0))(ldd:db<S.nx)(ld0:S0.nx≤db)(ne:gb≠db)(hN:g.nodes.length≤2000)(hlen:∀x∈g.nodes,x.next.length≤1000)
  (hQ:∀F' S' v,aGK S db 0 0 (eK g) (.int .i64 v) S'→aD 1 F'=aD 1 F→aD 5 F'=aD 5 F→aD 59 F'= .bool (decide (v≠((g.nodes.length:Nat):Int)))→Q .normal ⟨F',inr⟩ S'):mA fns (.drw aMd) ⟨F,inr⟩ S Q:=by
 refine qX ?_;unfold aMd;have hl0:=gG hg;have hl1:=eF hg;simp only[mF,eO,kI,lA,dR,rE,↓reduceIte,p1,p5,hl0,mW,aQ];refine xJ rfl ?_;simp only[↓sU,sD,rE,↓reduceIte,rA,p5,cK];refine aP (aGt H ⟨nv,iv,rfl,hn,hi⟩ ld0 hN (g.nodes.length+1) (at_:=0) (p:= -1) (d:=0) (deep:=0) (by omega) (by decide) (by decide) (by omega) hlen (hS.trans (Same.nx S 6)) (by show db<S.nx+6;omega) hd) ?_;rintro r S1 hr;have hr:aGK ⟨S.h,S.nx+6⟩ db 0 0 (eK g) r S1:=hr;obtain⟨v,rfl⟩:∃v,r= .int .i64 v:=by
  cases hw:eK g with
  | none=>rw[hw] at hr;exact⟨_,hr.2.1⟩
  | some T=>rw[hw] at hr;exact⟨_,hr.2.1⟩
 have sb:bQ db S S1:=⟨by have:S.nx+6≤S1.nx:=hr.1.1;omega,fun c hc hne=>hr.1.2 c (by show c<S.nx+6;omega) hne⟩;have hg1:S1.h.get gb=some (.cells [.int .i64 g.players,nv,iv] false 0):=by rw[sb.2 _ lg ne];exact hg
 have hl1':=eF hg1;have hld:∀ (F:Fr),gS (.ld true 3 (.t 1)) F S.h=dT (aD 1 F) true 3 S.h:=fun F=>by rw[kI,lA]
 simp only[↓sU,sD,rE,↓reduceIte,rA,mF,eO,p1,aH,aX,aG,kI,mW,hl1',uI,hn.len,eX,aBa,qT,aQ,aV];rw[oO];refine⟨?_,?_⟩
 ·have sn:=aN.self hn;have si:=aN.self hi;have sg:=zB (dJ .i64 g.players) sn si;have e1:∀G:Fr,aD 56 G= .ptr gb 1→eY ⟨.ld false 1 (.t 56),G,nv,3,4⟩ [(1,1,S1.h)] S.h=true:=fun G h=>by
   have e:gS (ld 56) G S.h=some nv:=by rw[kI,lA,h];exact hl1
   have e':gS (ld 56) G S1.h=some nv:=by rw[kI,lA,h];exact hl1'
   unfold eY;simp only[show Nat.testBit 4 1=false by decide,show Nat.testBit 1 3=false by decide,aV,aQ,e,fY,sn];unfold eY;simp only[e',fY,sn]
  have e2:eY ⟨.ld true 3 (.t 1),F,.agg [.int .i64 g.players,nv,iv],0,0⟩ [(1,1,S1.h)] S.h=true:=by
   have e:gS (.ld true 3 (.t 1)) F S.h=some (.agg [.int .i64 g.players,nv,iv]):=by rw[kI,lA,p1];exact hl0
   unfold eY;simp only[show Nat.testBit 0 1=false by decide,show Nat.testBit 1 0=true by decide,aV,aQ,e,fY,sg]
  simp only[Ff,List.reverse_nil,Cm,lC,sP];rw[e1 _ (by simp only[dR,rE,↓reduceIte]),e2];rfl
 ·refine hQ _ _ v ?_ (by simp only[↓sU,sD,rE,↓reduceIte,rA]) (by simp only[↓sU,sD,rE,↓reduceIte,rA]) (by simp only[↓sU,sD,rE,↓reduceIte,rA]);simp only[cK];exact⟨sb,hr.2⟩
def aL5(S S1:St)(gb:Nat)(g:aW)(k:Nat)(A:bH)(X:St):Prop:=A.inr=false∧Same S1 X∧∃i,i+k=g.nodes.length∧jA g.players g.infos.length g.nodes=jA g.players g.infos.length (g.nodes.drop i)∧aD 1 A.F= .ptr gb 0∧aD 3 A.F= .int .i64 (i:Int)
def aMc(S1:St)(gb:Nat)(g:aW)(k:Nat)(A:bH)(X:St):Prop:=A.inr=false∧Same S1 X∧∃i,i+k=g.nodes.length∧(∀x∈g.nodes.take i,¬mis g x)∧aD 1 A.F= .ptr gb 0∧aD 6 A.F= .int .i64 (i:Int)
def aL8(S1:St)(sv:AV)(g:aW)(k:Nat)(A:bH)(X:St):Prop:=A.inr=false∧Same S1 X∧∃i,i+k=g.infos.length∧(∀j,j<i→jQ g.nodes 0 j≠ [])∧aD 8 A.F=sv∧aD 9 A.F= .int .i64 (i:Int)
def aL4(S1:St)(sv:AV)(g:aW)(k:Nat)(A:bH)(X:St):Prop:=A.inr=false∧Same S1 X∧∃i,i+k=g.infos.length+1∧1≤i∧aMn (fB g) 0 (min i g.infos.length)∧aD 8 A.F=sv∧aD 10 A.F= .int .i64 (i:Int)
theorem aAM{g:aW}{j:Nat}(hj:j<g.infos.length):(fB g).getD j 0=((kD g.nodes 0 j:Nat):Int):=by
 unfold fB;rw[Ad,Az,Cn hj];rfl
theorem zE{g:aW}{j:Nat}(hj:j<g.infos.length):(aFU g)[j]? =some (jQ g.nodes 0 j):=by
 unfold aFU;rw[Az,Cn hj];rfl
theorem aHO(g:aW):(aFU g).length=g.infos.length:=by simp [aFU]
theorem aAs{g:aW}:(0:Int)∈fB g↔∃j,j<g.infos.length∧jQ g.nodes 0 j= []:=by
 unfold fB;rw[Cy];constructor
 ·rintro⟨j,hj,h0⟩;rw[Fa] at hj;rcases pW j g.nodes 0 with h | ⟨a,L,h1,h2⟩
  ·exact⟨j,hj,h.1⟩
  ·rw[h2] at h0;omega
 ·rintro⟨j,hj,h0⟩;refine⟨j,Fa.2 hj,?_⟩;rcases pW j g.nodes 0 with h | ⟨a,L,h1,h2⟩
  ·rw[h.2];rfl
  ·rw[h0] at h1;cases h1
theorem aBQ{S:St}{nv iv:AV}{g:aW}(H:Has fns)(hn:aN 6 bT S nv g.nodes)(hi:aN 2 cV S iv g.infos)(hln:g.nodes.length≤100000):
  fA fns (.fn 26 [] []) [.agg [.int .i64 g.players,nv,iv]] S fun r S'=>r= .int .i64 (cM g)∧Same S S':=by
 refine bP H.f26 (by simp) ?_;simp only[↓sU,sD,rE,↓reduceIte,rA];refine bE ?_;refine dG (by simp only[↓sU,sD,rE,↓reduceIte,rA];exact bJ _) ?_;intro S1 s1 n1 c1;simp only[↓sU,sD,rE,↓reduceIte,rA];have hnl:=hn.len;have hil:=hi.len;have hn1:=aN.same (E:=bT) bI hn s1;have hi1:=aN.same (E:=cV) cE hi s1;have sn:=aN.self hn;have si:=aN.self hi;have sg:=zB (dJ .i64 g.players) sn si;have lg1:S.nx<S1.nx:=by omega
 refine aA (aA (aS (Q:=fun o A' X=>o= .normal∧A'.inr=false∧X=S1∧aD 1 A'.F= .ptr S.nx 0∧aD 36 A'.F= .bool (decide (kO g))) (aF ?_) ?_))
 ·by_cases h1:g.players<1
  ·rw[Ab (show kO g from .inl h1)];simp only[↓sU,sD,rE,↓reduceIte,rA,aH,aG,sI c1,eF c1,lB c1,hnl,hil,Ab h1]
  by_cases h2:(4:Int)<g.players
  ·rw[Ab (show kO g from .inr (.inl h2))];simp only[↓sU,sD,rE,↓reduceIte,rA,aH,aG,sI c1,eF c1,lB c1,hnl,hil,Aa h1,Ab h2]
  by_cases h3:((g.nodes.length:Nat):Int)<1
  ·rw[Ab (show kO g from .inr (.inr (.inl h3)))];simp only[↓sU,sD,rE,↓reduceIte,rA,aH,aG,sI c1,eF c1,lB c1,hnl,hil,Aa h1,Aa h2,Ab h3]
  by_cases h4:(2000:Int)<((g.nodes.length:Nat):Int)
  ·rw[Ab (show kO g from .inr (.inr (.inr (.inl h4))))];simp only[↓sU,sD,rE,↓reduceIte,rA,aH,aG,sI c1,eF c1,lB c1,hnl,hil,Aa h1,Aa h2,Aa h3,Ab h4]
  by_cases h5:(200:Int)<((g.infos.length:Nat):Int)
  ·rw[Ab (show kO g from .inr (.inr (.inr (.inr h5))))];simp only[↓sU,sD,rE,↓reduceIte,rA,aH,aG,sI c1,eF c1,lB c1,hnl,hil,Aa h1,Aa h2,Aa h3,Aa h4,Ab h5]
  ·rw[Aa (show ¬kO g by unfold kO;omega)];simp only[↓sU,sD,rE,↓reduceIte,rA,aH,aG,sI c1,eF c1,lB c1,hnl,hil,Aa h1,Aa h2,Aa h3,Aa h4,Aa h5]
 rintro o ⟨F,inr⟩ X ⟨rfl,q0,hX,p1,pb⟩;simp only at q0 p1 pb;subst q0;rw[hX];clear hX;try simp only[↓sU,sD,rE,↓reduceIte,rA]
 by_cases bad:kO g
 ·have hE:cM g=2:=by unfold cM;rw[if_pos bad]
  rw[hE];refine aM (by simp only[↓sU,sD,rE,↓reduceIte,rA,pb,Ab bad]) ?_;refine bE ?_;simp only[↓sU,sD,rE,↓reduceIte,rA];refine aO ?_;simp only[↓sU,sD,rE,↓reduceIte,rA];exact s1
 refine aK (by simp only[↓sU,sD,rE,↓reduceIte,rA,pb,Aa bad]) (aI ?_);try simp only[↓sU,sD,rE,↓reduceIte,rA]
 have hps:1≤g.players∧g.players≤4:=by unfold kO at bad;omega
 have hN:g.nodes.length≤2000:=by unfold kO at bad;omega
 have hN0:0<g.nodes.length:=by unfold kO at bad;omega
 have hI:g.infos.length≤200:=by unfold kO at bad;omega
 refine aA (aS (Q:=fun o A' X=>(o= .normal∧aL5 S S1 S.nx g 0 A' X)∨(o= .ret∧Same S1 X∧jA g.players g.infos.length g.nodes≠0∧aD 2 A'.F= .int .i64 (jA g.players g.infos.length g.nodes))) (aA (aF ?_)) ?_)
 ·simp only[↓sU,sD,rE,↓reduceIte,rA];refine aJ (bB (aL5 S S1 S.nx g) ?_ g.nodes.length _ _ ⟨rfl,Same.refl _,0,by omega,by rw[Dj],by refine⟨?_,?_⟩<;>simp only[↓sU,sD,rE,↓reduceIte,rA,p1]⟩);clear p1 pb;rintro k ⟨F,inr⟩ X ⟨q0,hX,i,hik,hE,p1,p3⟩;simp only at q0 p1 p3;subst q0;have cX:X.h.get S.nx=some (.cells [.int .i64 g.players,nv,iv] false 0):=by rw[hX.2 _ lg1];exact c1
  have lgX:S.nx<X.nx:=Ae lg1 hX.1;refine eG ?_;simp only[↓sU,sD,rE,↓reduceIte,rA,p1,p3,aH,aG,eF cX,hnl];by_cases hlt:i<g.nodes.length
  ·refine aM (by simp only[↓sU,sD,rE,↓reduceIte,rA,Ab (show(i:Int)<((g.nodes.length:Nat):Int) by omega)]) (aI ?_);try simp only[↓sU,sD,rE,↓reduceIte,rA]
   obtain⟨x,hx⟩:∃x,g.nodes[i]? =some x:=⟨_,Ac hlt⟩;have hnX:=aN.same (E:=bT) bI hn1 hX;obtain⟨e,b,q,hia,hb,he,hNE,hag,_⟩:=aN.at hnX (by decide) hx;have hdrop:g.nodes.drop i=x::g.nodes.drop (i+1):=by
    rw[Br hlt];congr 1;rw[Ac hlt] at hx;exact Bk hx
   have w1:IntKind.i64.wrap ((i:Int)+1)=((i+1:Nat):Int):=by rw[wrap_i64 (by omega) (by omega)];omega
   have se:cB (.agg e) (.agg e)=true:=by
    obtain⟨a,bb,cc,rfl,ha,hbb,hcc⟩:=hNE;exact zM (dJ ..) (dJ ..) (dJ ..) (bN.self ha) (bN.self hbb) (bN.self hcc)
   refine aA (aJ (aA (cR (fun _=>False) ?_)));intro X1 x1;simp only[↓sU,sD,rE,↓reduceIte,rA,p1,p3,aH,aX,aG,gG cX,eF cX,sg,sn,lgX,hb,se,Aq,aE,hia,hag];refine bX rfl ?_;simp only[↓sU,sD,rE,↓reduceIte,rA];refine aP (aG1 H (bI hNE x1) hps.2 hil) ?_;rintro _ Y ⟨rfl,hY⟩;refine⟨hY,?_⟩;have hSY:=(hX.trans x1).trans hY;rw[hdrop] at hE;simp only[jA] at hE;try simp only[↓sU,sD,rE,↓reduceIte,rA]
   refine bE ?_;simp only[↓sU,sD,rE,↓reduceIte,rA];by_cases he0:fM g.players g.infos.length x=0
   ·rw[if_neg (fun h=>h he0)] at hE;refine aK (by simp only[↓sU,sD,rE,↓reduceIte,rA,Aa (show ¬fM g.players g.infos.length x≠0 from fun h=>h he0)]) (aI ?_);try simp only[↓sU,sD,rE,↓reduceIte,rA]
    refine aF ?_;simp only[↓sU,sD,rE,↓reduceIte,rA,p3,w1];exact⟨k - 1,by omega,rfl,hSY,i+1,by omega,hE,by refine⟨?_,?_⟩<;>simp only[↓sU,sD,rE,↓reduceIte,rA,p1]⟩
   ·rw[if_pos he0] at hE;refine aM (by simp only[↓sU,sD,rE,↓reduceIte,rA,Ab (show fM g.players g.infos.length x≠0 from he0)]) ?_;refine bE ?_;simp only[↓sU,sD,rE,↓reduceIte,rA];refine aO ?_;simp only[↓sU,sD,rE,↓reduceIte,rA];exact .inr ⟨hSY,by rw[hE];exact he0,by rw[hE]⟩
  ·refine aK (by simp only[↓sU,sD,rE,↓reduceIte,rA,Aa (show ¬ (i:Int)<((g.nodes.length:Nat):Int) by omega)]) (aU ?_);simp only[↓sU,sD,rE,↓reduceIte,rA];have hk0:k=0:=by omega
   subst hk0;exact .inl ⟨rfl,hX,i,hik,hE,by refine⟨?_,?_⟩<;>simp only[↓sU,sD,rE,↓reduceIte,rA,p1,p3]⟩
 clear p1 pb;rintro o ⟨F,inr⟩ X (⟨rfl,q0,hX,i,hik,hE,p1,p3⟩ | ⟨rfl,hX,hne,p2⟩);rotate_left
 ·simp only at p2;simp only[↓sU,sD,rE,↓reduceIte,rA,p2];have hE:cM g=jA g.players g.infos.length g.nodes:=by unfold cM;rw[if_neg bad,if_pos hne]
  rw[hE];exact⟨rfl,s1.trans hX⟩
 simp only at q0 p1;subst q0;rw[Cc (by omega)] at hE;have hall:=fZ hE;have hok:aDy g:=fun x hx h2=>aAe (hall x hx) h2;have hform:cM g=match eK g with | none=>9 | some T=>if T.length≠g.nodes.length then 9 else if 40<vC 0 T then 5 else yM g:=by
  conv=>lhs;unfold cM
  rw[if_neg bad,if_neg (fun h=>h hE)]
  first | done | (cases eK g<;>rfl)
 have sX:=s1.trans hX;have cX:X.h.get S.nx=some (.cells [.int .i64 g.players,nv,iv] false 0):=by rw[hX.2 _ lg1];exact c1
 have lgX:S.nx<X.nx:=Ae lg1 hX.1;try simp only[↓sU,sD,rE,↓reduceIte,rA]
 refine bE ?_;refine dO ?_;intro X1 x1 m1 d1;refine fI (b:=X.nx) (by simp only[↓sU,sD,rE,↓reduceIte,rA]) (by simp only[↓sU,sD,rE,↓reduceIte,rA];rfl) d1 rfl rfl ?_;intro X2 x2 m2 d2;simp only[↓sU,sD,rE,↓reduceIte,rA];have hX2:Same X X2:=x2.same x1 (Ah _);have cX2:X2.h.get S.nx=some (.cells [.int .i64 g.players,nv,iv] false 0):=by rw[hX2.2 _ lgX];exact cX
 have lX2:X.nx<X2.nx:=by omega
 refine aA (aA (aJ8 (S0:=S) (gb:=S.nx) (db:=X.nx) (g:=g) H (by simp only[↓sU,sD,rE,↓reduceIte,rA,p1]) (by simp only[↓sU,sD,rE,↓reduceIte,rA]) hn hi (sX.trans hX2) cX2 (by omega) d2 lX2 (by have:=sX.1;omega) (by omega) hN (fun x hx=>aAl (hall x hx)) ?_));intro F' S3 v hr q1 q5 q59;simp only[↓sU,sD,rE,↓reduceIte,rA,p1] at q1 q5;have sX2:=sX.trans hX2;have hdb:=sX.1;have s3:Same S S3:=⟨Ay sX2.1 hr.1.1,fun c hc=>(hr.1.2 c (Ae hc sX2.1) (by omega)).trans (sX2.2 c hc)⟩;have c3:S3.h.get S.nx=some (.cells [.int .i64 g.players,nv,iv] false 0):=by rw[hr.1.2 _ (by omega) (by omega)];exact cX2
 have l3:S.nx<S3.nx:=by have:=hr.1.1;omega
 cases hw:eK g with
 | none=>
  rw[hw] at hr hform;obtain⟨_,hv,_⟩:=hr;have hv:v= -1:=by cases hv;rfl
  simp only at hform;rw[hform];refine aM (by simp only[↓sU,sD,rE,↓reduceIte,rA,q59,Ab (show v≠((g.nodes.length:Nat):Int) by omega)]) ?_;refine bE ?_;simp only[↓sU,sD,rE,↓reduceIte,rA];refine aO ?_;simp only[↓sU,sD,rE,↓reduceIte,rA];exact s3
 | some T=>
  rw[hw] at hr hform;obtain⟨_,hv,hdeep⟩:=hr;have hv:v=((0+T.length:Nat):Int):=by cases hv;rfl
  simp only at hform;by_cases hT:T.length=g.nodes.length;rotate_left
  ·rw[hform,if_pos hT];refine aM (by simp only[↓sU,sD,rE,↓reduceIte,rA,q59,Ab (show v≠((g.nodes.length:Nat):Int) by omega)]) ?_;refine bE ?_;simp only[↓sU,sD,rE,↓reduceIte,rA];refine aO ?_;simp only[↓sU,sD,rE,↓reduceIte,rA];exact s3
  rw[if_neg (fun h=>h hT)] at hform;refine aK (by simp only[↓sU,sD,rE,↓reduceIte,rA,q59,Aa (show ¬v≠((g.nodes.length:Nat):Int) by omega)]) (aI ?_);try simp only[↓sU,sD,rE,↓reduceIte,rA]
  have ldeep:=fN (p:=0) hdeep rfl;refine eG ?_;simp only[↓sU,sD,rE,↓reduceIte,rA,q5,ldeep];by_cases h40:40<vC 0 T
  ·rw[hform,if_pos h40];refine aM (by simp only[↓sU,sD,rE,↓reduceIte,rA,Ab h40]) ?_;refine bE ?_;simp only[↓sU,sD,rE,↓reduceIte,rA];refine aO ?_;simp only[↓sU,sD,rE,↓reduceIte,rA];exact s3
  rw[if_neg h40] at hform;refine aK (by simp only[↓sU,sD,rE,↓reduceIte,rA,Aa h40]) (aI ?_);try simp only[↓sU,sD,rE,↓reduceIte,rA]
  rw[hform];clear hform hE hall q5 q59 hdeep ldeep;have hn3:=aN.same (E:=bT) bI hn s3;have hi3:=aN.same (E:=cV) cE hi s3;refine aA (aS (Q:=fun o A' Y=>(o= .normal∧aMc S3 S.nx g 0 A' Y)∨(o= .ret∧Same S3 Y∧(∃x∈g.nodes,mis g x)∧aD 2 A'.F= .int .i64 10)) (aA (aF ?_)) ?_)
  ·simp only[↓aC,aB,rE,↓reduceIte,rA];refine aJ (bB (aMc S3 S.nx g) ?_ g.nodes.length _ _ ⟨rfl,Same.refl _,0,by omega,fun x hx=>(by simp at hx),by refine⟨?_,?_⟩<;>simp only[↓aC,aB,rE,↓reduceIte,rA,q1]⟩);clear q1;rintro k ⟨F,inr⟩ X ⟨q0,hX,i,hik,hm,p1,p6⟩;simp only at q0 p1 p6;subst q0;have cX:X.h.get S.nx=some (.cells [.int .i64 g.players,nv,iv] false 0):=by rw[hX.2 _ l3];exact c3
   have lgX:S.nx<X.nx:=Ae l3 hX.1;refine eG ?_;simp only[↓aC,aB,rE,↓reduceIte,rA,p1,p6,aH,aG,eF cX,hnl];by_cases hlt:i<g.nodes.length
   ·refine aM (by simp only[↓aC,aB,rE,↓reduceIte,rA,Ab (show(i:Int)<((g.nodes.length:Nat):Int) by omega)]) (aI ?_);try simp only[↓aC,aB,rE,↓reduceIte,rA]
    obtain⟨x,hx⟩:∃x,g.nodes[i]? =some x:=⟨_,Ac hlt⟩;have hxm:=Bm hx;obtain⟨e,b,q,hia,hb,he,⟨a,bb,cc,rfl,ha,hbb,hcc⟩,hag,_⟩:=aN.at (aN.same (E:=bT) bI hn3 hX) (by decide) hx;have w1:IntKind.i64.wrap ((i:Int)+1)=((i+1:Nat):Int):=by rw[wrap_i64 (by omega) (by omega)];omega
    refine aA (aJ (aA (aF ?_)));simp only[↓aC,aB,rE,↓reduceIte,rA,p1,p6,aH,aG,eF cX,aE,hia,hag];refine dO ?_;intro X1 x1 m1 d1;refine fI (b:=X.nx) (by simp only[↓aC,aB,rE,↓reduceIte,rA]) (by simp only[↓aC,aB,rE,↓reduceIte,rA];exact bJ _) d1 rfl rfl ?_;intro X2 x2 m2 d2;simp only[↓aC,aB,rE,↓reduceIte,rA];have hX2:Same X X2:=x2.same x1 (Ah _);have hS2X:=hX.trans hX2;have cX2:X2.h.get S.nx=some (.cells [.int .i64 g.players,nv,iv] false 0):=by rw[hX2.2 _ lgX];exact cX
    have hla:=(ha.same hX2).len;have hsa:=bN.self ha;refine aA (aS (Q:=fun o A' Y=>o= .normal∧A'.inr=false∧Same X2 Y∧aD 1 A'.F= .ptr S.nx 0∧aD 6 A'.F= .int .i64 (i:Int)∧aD 101 A'.F= .bool (decide (mis g x))) (gJ ?_) ?_)
    ·by_cases hk2:x.kind=2
     ·obtain⟨i0,i1⟩:=hok x hxm hk2;obtain⟨n,hn'⟩:∃n:Nat,x.info=(n:Int):=⟨x.info.toNat,by omega⟩;have hni:n<g.infos.length:=by omega
      obtain⟨y,hy⟩:∃y,g.infos[n]? =some y:=⟨_,Ac hni⟩;obtain⟨e',b',q',hia',hb',he',rfl,hag',hlf'⟩:=aN.at (aN.same (E:=cV) cE hi3 hS2X) (by decide) hy;have hp0:=hlf' 0 _ rfl;have hp1:=hlf' 1 _ rfl;have hya:infoAt g x.info=y:=by unfold infoAt;rw[hn',Ad,show((n:Int)).toNat=n from rfl,hy];rfl
      have hmis:mis g x↔¬ (y.player=x.player∧y.actions=((x.next.length:Nat):Int)):=by
       unfold mis;rw[hya];exact⟨fun h=>h.2,fun h=>⟨hk2,h⟩⟩
      rw[hn'] at d2;by_cases hpl:y.player=x.player
      ·have hd1:decide (y.player≠x.player)=false:=Aa (fun h=>h hpl);have hd2:decide (mis g x)=decide (y.actions≠((x.next.length:Nat):Int)):=by
        rw[Cf,Ck,Ck,hmis];exact⟨fun h e=>h ⟨hpl,e⟩,fun h e=>h e.2⟩
       rw[hd2];simp only[↓aC,aB,rE,↓reduceIte,rA,p1,p6,aH,aX,aG,dK d2,cT d2,cQ d2,cP d2,lB cX2,aE,hia',hp0,hp1,hla,hsa,si,Ab hk2,hd1];exact Same.nx _ _
      ·have hd1:decide (y.player≠x.player)=true:=Ab hpl;have hd2:decide (mis g x)=true:=Ab (hmis.2 fun h=>hpl h.1);rw[hd2];simp only[↓aC,aB,rE,↓reduceIte,rA,p1,p6,aH,aX,aG,dK d2,cT d2,cQ d2,cP d2,lB cX2,aE,hia',hp0,hp1,hla,hsa,si,Ab hk2,hd1];exact Same.nx _ _
     ·rw[Aa (show ¬mis g x from fun h=>hk2 h.1)];simp only[↓aC,aB,rE,↓reduceIte,rA,p1,p6,aH,aX,aG,dK d2,Aa hk2];exact Same.nx _ _
    clear p1 p6;rintro o ⟨F,inr⟩ Y ⟨rfl,q0,hY,p1,p6,pb⟩;simp only at q0 p1 p6 pb;subst q0;have hS2Y:=hS2X.trans hY;try simp only[↓aC,aB,rE,↓reduceIte,rA]
    by_cases hmx:mis g x
    ·refine aM (by simp only[↓aC,aB,rE,↓reduceIte,rA,pb,Ab hmx]) ?_;refine bE ?_;simp only[↓aC,aB,rE,↓reduceIte,rA];refine aO ?_;simp only[↓aC,aB,rE,↓reduceIte,rA];exact .inr ⟨hS2Y,x,hxm,hmx⟩
    ·refine aK (by simp only[↓aC,aB,rE,↓reduceIte,rA,pb,Aa hmx]) (aI ?_);try simp only[↓aC,aB,rE,↓reduceIte,rA]
     refine aF ?_;simp only[↓aC,aB,rE,↓reduceIte,rA,p6,w1];refine⟨k - 1,by omega,rfl,hS2Y,i+1,by omega,fun y hy=>?_,by refine⟨?_,?_⟩<;>simp only[↓aC,aB,rE,↓reduceIte,rA,p1]⟩;rw[Bi,hx] at hy;rcases Bv.1 hy with h | h
     ·exact hm y h
     ·simp at h;rw[h];exact hmx
   ·refine aK (by simp only[↓aC,aB,rE,↓reduceIte,rA,Aa (show ¬ (i:Int)<((g.nodes.length:Nat):Int) by omega)]) (aU ?_);simp only[↓aC,aB,rE,↓reduceIte,rA];have hk0:k=0:=by omega
    subst hk0;exact .inl ⟨rfl,hX,i,hik,hm,by refine⟨?_,?_⟩<;>simp only[↓aC,aB,rE,↓reduceIte,rA,p1,p6]⟩
  clear q1;rintro o ⟨F,inr⟩ Y (⟨rfl,q0,hY,i,hik,hm,p1,p6⟩ | ⟨rfl,hY,hmx,p2⟩);rotate_left
  ·simp only at p2;simp only[↓aC,aB,rE,↓reduceIte,rA,p2];unfold yM;rw[if_pos hmx];exact⟨rfl,s3.trans hY⟩
  simp only at q0 p1;subst q0;rw[Ax (by omega)] at hm;unfold yM;rw[if_neg (fun⟨x,h1,h2⟩=>hm x h1 h2)];clear p6 hik hm i;have sY:=s3.trans hY;have cY:Y.h.get S.nx=some (.cells [.int .i64 g.players,nv,iv] false 0):=by rw[hY.2 _ l3];exact c3
  try simp only[↓aC,aB,rE,↓reduceIte,rA]
  refine bE ?_;simp only[↓aC,aB,rE,↓reduceIte,rA,p1,gG cY];refine aY ?_;simp only[↓aC,aB,rE,↓reduceIte,rA];refine aP (aE1 H (aN.same (E:=bT) bI hn sY) (aN.same (E:=cV) cE hi sY) hln (by omega) hok) ?_;rintro sv Z ⟨hZ,hsv⟩;try simp only[↓aC,aB,rE,↓reduceIte,rA]
  have sZ:=sY.trans hZ;have hsl:=hsv.len;rw[aHO] at hsl;refine aA (aS (Q:=fun o A' X=>(o= .normal∧aL8 Z sv g 0 A' X)∨(o= .ret∧Same Z X∧(0:Int)∈fB g∧aD 2 A'.F= .int .i64 18)) (aA (aF ?_)) ?_)
  ·simp only[↓aC,aB,rE,↓reduceIte,rA];refine aJ (bB (aL8 Z sv g) ?_ g.infos.length _ _ ⟨rfl,Same.refl _,0,by omega,fun j hj=>by omega,by refine⟨?_,?_⟩<;>simp only[↓aC,aB,rE,↓reduceIte,rA]⟩);rintro k ⟨F,inr⟩ X ⟨q0,hX,i,hik,hm,p8,p9⟩;simp only at q0 p8 p9;subst q0;refine eG ?_;simp only[↓aC,aB,rE,↓reduceIte,rA,p8,p9,hsl];by_cases hlt:i<g.infos.length
   ·refine aM (by simp only[↓aC,aB,rE,↓reduceIte,rA,Ab (show(i:Int)<((g.infos.length:Nat):Int) by omega)]) (aI ?_);try simp only[↓aC,aB,rE,↓reduceIte,rA]
    obtain⟨e,b,q,hia,hb,he,⟨a,rfl,ha⟩,_,hlf⟩:=aN.at (aN.same (E:=kJ) firm_sl hsv hX) (by decide) (zE hlt);have hl0:=hlf 0 a rfl;rw[Bj] at hl0;have hal:=ha.len;have w1:IntKind.i64.wrap ((i:Int)+1)=((i+1:Nat):Int):=by rw[wrap_i64 (by omega) (by omega)];omega
    refine aA (aJ (aA (aF ?_)));simp only[↓aC,aB,rE,↓reduceIte,rA,p8,p9,aE,hia,hl0,hal];by_cases h0:jQ g.nodes 0 i= []
    ·refine aM (by simp only[↓aC,aB,rE,↓reduceIte,rA,Ab (show(((jQ g.nodes 0 i).length:Nat):Int)=0 by rw[h0];rfl)]) ?_;refine bE ?_;simp only[↓aC,aB,rE,↓reduceIte,rA];refine aO ?_;simp only[↓aC,aB,rE,↓reduceIte,rA];exact .inr ⟨hX,aAs.2 ⟨i,hlt,h0⟩⟩
    ·have hpos:=List.length_pos_iff.2 h0;refine aK (by simp only[↓aC,aB,rE,↓reduceIte,rA,Aa (show ¬ (((jQ g.nodes 0 i).length:Nat):Int)=0 by omega)]) (aI ?_);try simp only[↓aC,aB,rE,↓reduceIte,rA]
     refine aF ?_;simp only[↓aC,aB,rE,↓reduceIte,rA,p9,w1];refine⟨k - 1,by omega,rfl,hX,i+1,by omega,fun j hj=>?_,by refine⟨?_,?_⟩<;>simp only[↓aC,aB,rE,↓reduceIte,rA,p8]⟩;by_cases hji:j=i
     ·rw[hji];exact h0
     ·exact hm j (by omega)
   ·refine aK (by simp only[↓aC,aB,rE,↓reduceIte,rA,Aa (show ¬ (i:Int)<((g.infos.length:Nat):Int) by omega)]) (aU ?_);simp only[↓aC,aB,rE,↓reduceIte,rA];have hk0:k=0:=by omega
    subst hk0;exact .inl ⟨rfl,hX,i,hik,hm,by refine⟨?_,?_⟩<;>simp only[↓aC,aB,rE,↓reduceIte,rA,p8,p9]⟩
  rintro o ⟨F,inr⟩ X (⟨rfl,q0,hX,i,hik,hm,p8,p9⟩ | ⟨rfl,hX,h0,p2⟩);rotate_left
  ·simp only at p2;simp only[↓aC,aB,rE,↓reduceIte,rA,p2];rw[if_pos h0];exact⟨rfl,sZ.trans hX⟩
  simp only at q0 p8;subst q0;have hne:∀j,j<g.infos.length→jQ g.nodes 0 j≠ []:=fun j hj=>hm j (by omega);rw[if_neg (fun h=>by obtain⟨j,hj,h0⟩:=aAs.1 h;exact hne j hj h0)];clear p9 hik hm i;try simp only[↓aC,aB,rE,↓reduceIte,rA]
  refine aA (aS (Q:=fun o A' Y=>(o= .normal∧∃k,aL4 X sv g k A' Y∧k≤1)∨(o= .ret∧Same X Y∧¬aB4 (fB g)∧aD 2 A'.F= .int .i64 9)) (aA (aF ?_)) ?_)
  ·simp only[↓aC,aB,rE,↓reduceIte,rA];refine aJ (bB (aL4 X sv g) ?_ g.infos.length _ _ ⟨rfl,Same.refl _,1,by omega,by omega,fun j j0 j1=>by omega,by refine⟨?_,?_⟩<;>simp only[↓aC,aB,rE,↓reduceIte,rA,p8]⟩);clear p8;rintro k ⟨F,inr⟩ Y ⟨q0,hY,i,hik,hi1,hm,p8,p10⟩;simp only at q0 p8 p10;subst q0;refine eG ?_;simp only[↓aC,aB,rE,↓reduceIte,rA,p8,p10,hsl];by_cases hlt:i<g.infos.length
   ·refine aM (by simp only[↓aC,aB,rE,↓reduceIte,rA,Ab (show(i:Int)<((g.infos.length:Nat):Int) by omega)]) (aI ?_);try simp only[↓aC,aB,rE,↓reduceIte,rA]
    have hsY:=aN.same (E:=kJ) firm_sl hsv (hX.trans hY);obtain⟨e,b,q,hia,hb,he,⟨a,rfl,ha⟩,_,hlf⟩:=aN.at hsY (by decide) (zE hlt);obtain⟨e',b',q',hia',hb',he',⟨a',rfl,ha'⟩,_,hlf'⟩:=aN.at hsY (by decide) (zE (show i - 1<g.infos.length by omega));have hl0:=hlf 0 a rfl;have hl0':=hlf' 0 a' rfl;rw[Bj] at hl0 hl0';have hp:=List.length_pos_iff.2 (hne i hlt);have hp':=List.length_pos_iff.2 (hne (i - 1) (by omega));have ia:=ha.iaddr hp;have la:=ha.ld hp;have ia':=ha'.iaddr hp';have la':=ha'.ld hp';have sa:=bN.self ha;have sa':=bN.self ha';have hlt2:(jQ g.nodes 0 i).getD 0 0<(jQ g.nodes 0 (i - 1)).getD 0 0↔(fB g).getD i 0<(fB g).getD (i - 1) 0:=by
     rw[aAM hlt,aAM (show i - 1<g.infos.length by omega)];rcases pW i g.nodes 0 with h | ⟨x,L,h1,h2⟩
     ·exact absurd h.1 (hne i hlt)
     ·rcases pW (i - 1) g.nodes 0 with h | ⟨x',L',h1',h2'⟩
      ·exact absurd h.1 (hne (i - 1) (by omega))
      ·rw[h1,h1',h2,h2'];show(x:Int)<(x':Int)↔_;omega
    have w1:IntKind.i64.wrap ((i:Int)+1)=((i+1:Nat):Int):=by rw[wrap_i64 (by omega) (by omega)];omega
    have w2:IntKind.i64.wrap ((i:Int) - 1)=((i - 1:Nat):Int):=by rw[wrap_i64 (by omega) (by omega)];omega
    refine aA (aJ (aA (gJ ?_)));simp only[↓aC,aB,rE,↓reduceIte,rA,p8,p10,aE,aIR,hia,hia',hl0,hl0',ia,la,ia',la',sa,sa',w2];by_cases hbad:(jQ g.nodes 0 i).getD 0 0<(jQ g.nodes 0 (i - 1)).getD 0 0
    ·refine aM (by simp only[↓aC,aB,rE,↓reduceIte,rA,Ab hbad]) ?_;refine bE ?_;simp only[↓aC,aB,rE,↓reduceIte,rA];refine aO ?_;simp only[↓aC,aB,rE,↓reduceIte,rA];refine .inr ⟨hY.trans (Same.nx _ _),fun h=>?_⟩;exact h i (by omega) (by simp [fB];omega) (hlt2.1 hbad)
    ·refine aK (by simp only[↓aC,aB,rE,↓reduceIte,rA,Aa hbad]) (aI ?_);try simp only[↓aC,aB,rE,↓reduceIte,rA]
     refine aF ?_;simp only[↓aC,aB,rE,↓reduceIte,rA,p10,w1];refine⟨k - 1,by omega,rfl,hY.trans (Same.nx _ _),i+1,by omega,by omega,fun j j0 j1=>?_,by refine⟨?_,?_⟩<;>simp only[↓aC,aB,rE,↓reduceIte,rA,p8]⟩;by_cases hji:j=i
     ·rw[hji];exact fun h=>hbad (hlt2.2 h)
     ·exact hm j j0 (by omega)
   ·refine aK (by simp only[↓aC,aB,rE,↓reduceIte,rA,Aa (show ¬ (i:Int)<((g.infos.length:Nat):Int) by omega)]) (aU ?_);simp only[↓aC,aB,rE,↓reduceIte,rA];exact .inl ⟨k,⟨rfl,hY,i,hik,hi1,hm,by refine⟨?_,?_⟩<;>simp only[↓aC,aB,rE,↓reduceIte,rA,p8,p10]⟩,by omega⟩
  clear p8;rintro o ⟨F,inr⟩ Y (⟨rfl,k,⟨q0,hY,i,hik,hi1,hm,p8,p10⟩,hk⟩ | ⟨rfl,hY,hno,p2⟩);rotate_left
  ·simp only at p2;simp only[↓aC,aB,rE,↓reduceIte,rA,p2];rw[if_neg hno];exact⟨rfl,(sZ.trans hX).trans hY⟩
  simp only at q0;subst q0;have hris:aB4 (fB g):=by
   unfold aB4;rw[show(fB g).length=g.infos.length by simp [fB]];rw[show min i g.infos.length=g.infos.length by omega] at hm;exact hm
  rw[if_pos hris];try simp only[↓aC,aB,rE,↓reduceIte,rA]
  refine bE ?_;simp only[↓aC,aB,rE,↓reduceIte,rA];refine aO ?_;simp only[↓aC,aB,rE,↓reduceIte,rA];exact(sZ.trans hX).trans hY
end Go.Ev.Gl
