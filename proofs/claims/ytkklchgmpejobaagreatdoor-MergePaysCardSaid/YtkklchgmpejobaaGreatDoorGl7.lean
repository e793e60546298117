import Derived.Test.YtkklchgmpejobaaGreatDoorGl6
open Nat renaming reduceEqDiff → rE, reduceAdd → rA
set_option maxHeartbeats 16000000
set_option linter.unusedSimpArgs false
set_option linter.unusedVariables false
namespace Go.Ev.Gl
variable {fns:T cV}
theorem yL{S:St}{a:Int}(H:Has fns):fR fns (.fn 81 [] []) [.int .i64 a] S fun r S'=>r= .bool false∧S'=S:=by
 refine cE H.f81 (by simp) ?_;refine ac ?_;refine cC ?_;refine ac ?_;refine cC ?_;simp only[↓aA,aB,rE,↓reduceIte,Aa (show ¬a≠a from fun h=>h rfl)];refine aU ?_;simp only[↓aA,aB,rE,↓reduceIte]
theorem aKR{S:St}{a b:Int}(H:Has fns):fR fns (.fn 102 [] []) [.int .i64 a,.int .i64 b] S fun r S'=>r= .bool (decide (a<b))∧S'=S:=by
 refine cE H.f102 (by simp) ?_;refine ac ?_;refine cC ?_;refine ac ?_;refine cC ?_;refine ac ?_;refine aY ?_;refine ac ?_;refine aP (yL H) ?_;rintro _ X ⟨rfl,hX⟩;rw[hX];refine ac ?_;refine aU ?_;simp only[↓aA,aB,rE,↓reduceIte]
def aIi(m:Int)(l:List Int):Int:=l.foldl mx m
def aQN(S:St)(v:AV)(l:List Int)(m0:Int)(k:Nat)(A:bQ)(X:St):Prop:=A.inr=false∧X=S∧∃i,i+k=l.length∧0<i∧aD 0 A.F=v∧aD 3 A.F= .int .i64 (aIi m0 ((l.take i).drop 1))∧aD 4 A.F= .int .i64 (i:Int)
theorem aMy{S:St}{v:AV}{l:List Int}(H:Has fns)(hl:cD .i64 S v l)(hne:0<l.length)(hlen:l.length≤1000000):fR fns (.fn 65 [] []) [v] S fun r S'=>r= .int .i64 (aIi (l.getD 0 0) (l.drop 1))∧S'=S:=by
 refine cE H.f65 (by simp) ?_;refine ac ?_;refine cC ?_;refine ac ?_;refine iP ?_;simp only[↓aA,aB,rE,↓reduceIte,hl.len,Ak];refine aO (by simp only[↓aA,aB,rE,↓reduceIte,Aa (show ¬ ((l.length:Nat):Int)<1 by omega)]) (aM ?_);try simp only[↓aA,aB,rE,↓reduceIte]
 have hia:=hl.iaddr hne;have hld:=hl.ld hne;refine cC ?_;simp only[↓aA,aB,rE,↓reduceIte,aPA,hia,hld];refine iP ?_;refine ac ?_;refine aN (bT (aQN S v l (l.getD 0 0)) ?_ (l.length - 1) _ _ ⟨rfl,rfl,1,by omega,by decide,ae,by simp only[↓aA,aB,rE,↓reduceIte];rw[Ez (by rw[Cc];omega)];rfl,ae⟩);rintro k ⟨F,inr⟩ X ⟨q0,hX,i,hik,hi0,p0,p3,p4⟩;simp only at q0 p0 p3 p4;subst q0;rw[hX];refine iP ?_;simp only[↓aA,aB,rE,↓reduceIte,p0,p4,hl.len,Ak];by_cases hi:i<l.length
 ·refine aR (by simp only[↓aA,aB,rE,↓reduceIte,Ad (show(i:Int)<((l.length:Nat):Int) by omega)]) (aM ?_);try simp only[↓aA,aB,rE,↓reduceIte]
  have hia:=hl.iaddr hi;have hld:=hl.ld hi;have htk:(l.take (i+1)).drop 1=(l.take i).drop 1++ [l.getD i 0]:=by
   rw[Bw,Ab hi,List.drop_append,Cc,show 1 - min i l.length=0 by omega,Ae,Ab hi];rfl
  have w1:IntKind.i64.wrap ((i:Int)+1)=((i+1:Nat):Int):=by rw[wrap_i64 (by omega) (by omega)];omega
  refine aC (aN (aG ?_));simp only[↓aA,aB,rE,↓reduceIte,p0,p3,p4,aH,hia,hld,aLO,aFL];refine aG ?_;simp only[↓aA,aB,rE,↓reduceIte,p4,w1];refine⟨k - 1,by omega,rfl,rfl,i+1,by omega,by omega,ag p0,?_,ae⟩;simp only[↓aA,aB,rE,↓reduceIte];rw[htk];unfold aIi;rw[List.foldl_append];rfl
 ·refine aO (by simp only[↓aA,aB,rE,↓reduceIte,Aa (show ¬ (i:Int)<((l.length:Nat):Int) by omega)]) (bK ?_);simp only[↓aA,aB,rE,↓reduceIte];rw[Bj (by omega)] at p3;refine cC ?_;simp only[↓aA,aB,rE,↓reduceIte,p3];refine aU ?_;simp only[↓aA,aB,rE,↓reduceIte]
def aRu(S:St)(v:AV)(l:List Int)(z:Int)(k:Nat)(A:bQ)(X:St):Prop:=A.inr=false∧X=S∧∃i,i+k=l.length∧¬z∈l.take i∧aD 0 A.F=v∧aD 1 A.F= .int .i64 z∧aD 7 A.F= .int .i64 ((l.length:Nat):Int)∧aD 8 A.F= .int .i64 (i:Int)
theorem aGr{S:St}{v:AV}{l:List Int}{z:Int}(H:Has fns)(hl:cD .i64 S v l)(hlen:l.length≤1000000):fR fns (.fn 101 [] []) [v,.int .i64 z] S fun r S'=>(∃j,r= .int .i64 j∧(0≤j↔z∈l))∧S'=S:=by
 refine cE H.f101 (by simp) ?_;refine ac ?_;refine cC ?_;refine ac ?_;refine iP ?_;simp only[↓aA,aB,rE,↓reduceIte,hl.len,Ak];refine aN (bT (aRu S v l z) ?_ l.length _ _ ⟨rfl,rfl,0,by omega,by simp,by refine⟨?_,?_,?_,?_⟩<;>simp only[↓aA,aB,rE,↓reduceIte]⟩);rintro k ⟨F,inr⟩ X ⟨q0,hX,j,hjk,ha,p0,p1,p7,p8⟩;simp only at q0 p0 p1 p7 p8;subst q0;rw[hX];refine cC ?_;simp only[↓aA,aB,rE,↓reduceIte,p7,p8];by_cases hj:j<l.length
 ·refine aC (aR (by simp only[↓aA,aB,rE,↓reduceIte,Ad (show(j:Int)<((l.length:Nat):Int) by omega)]) (aM ?_));simp only[↓aA,aB,rE,↓reduceIte];have hia:=hl.iaddr hj;have hld:=hl.ld hj;have hgd:l.getD j 0=l[j]:=by rw[Ae,Ab hj];rfl
  have htk:l.take (j+1)=l.take j++ [l.getD j 0]:=by rw[Bw,Ab hj,hgd];rfl
  have hmem:l.getD j 0∈l:=by rw[hgd];exact Br hj
  generalize l.getD j 0=w at *;have w1:IntKind.i64.wrap ((j:Int)+1)=((j+1:Nat):Int):=by rw[wrap_i64 (by omega) (by omega)];omega
  refine aC (aN (aC (aG ?_)));simp only[↓aA,aB,rE,↓reduceIte,p8];refine cC ?_;simp only[↓aA,aB,rE,↓reduceIte,p0,p1,aH,hia,hld];by_cases ho:z=w
  ·refine aR (by simp only[↓aA,aB,rE,↓reduceIte,Ad ho]) ?_;refine cC ?_;refine ac ?_;refine aU ?_;simp only[↓aA,aB,rE,↓reduceIte];exact⟨_,rfl,⟨fun _=>by rw[ho];exact hmem,fun _=>by omega⟩⟩
  ·refine aO (by simp only[↓aA,aB,rE,↓reduceIte,Aa ho]) (aM ?_);try simp only[↓aA,aB,rE,↓reduceIte]
   refine aG ?_;simp only[↓aA,aB,rE,↓reduceIte,p8,w1];refine⟨k - 1,by omega,rfl,rfl,j+1,by omega,?_,by refine⟨?_,?_,?_,?_⟩<;>simp only[↓aA,aB,rE,↓reduceIte,p0,p1,p7]⟩;rw[htk];intro h;rcases Bf.1 h with h | h
   ·exact ha h
   ·simp at h;exact ho h
 ·refine aC (aO (by simp only[↓aA,aB,rE,↓reduceIte,Aa (show ¬ (j:Int)<((l.length:Nat):Int) by omega)]) (bK ?_));simp only[↓aA,aB,rE,↓reduceIte];rw[Bj (by omega)] at ha;refine cC ?_;refine ac ?_;refine aU ?_;simp only[↓aA,aB,rE,↓reduceIte];exact⟨_,rfl,⟨fun h=>absurd h (by decide),fun h=>absurd h ha⟩⟩
theorem aDH{S:St}{v:AV}{l:List Int}{z:Int}(H:Has fns)(hl:cD .i64 S v l)(hlen:l.length≤1000000):fR fns (.fn 85 [] []) [v,.int .i64 z] S fun r S'=>r= .bool (decide (z∈l))∧S'=S:=by
 refine cE H.f85 (by simp) ?_;refine ac ?_;refine cC ?_;refine ac ?_;refine cC ?_;refine ac ?_;refine aY ?_;refine ac ?_;refine aP (aGr H hl hlen) ?_;rintro _ Y ⟨⟨j,rfl,hj⟩,hY⟩;rw[hY];have hd:decide ((0:Int)≤j)=decide (z∈l):=by rw[Cp,Fd,Fd];exact hj
 simp only[↓aA,aB,rE,↓reduceIte,hd];refine aU ?_;simp only[↓aA,aB,rE,↓reduceIte]
def aQq(l:List Int)(a b:Nat):Prop:=∀i,a<i→i<b→¬l.getD i 0<l.getD (i - 1) 0
def aLZ(l:List Int):Prop:=aQq l 0 l.length
def aRT(S:St)(v:AV)(l:List Int)(k:Nat)(A:bQ)(X:St):Prop:=A.inr=false∧Same S X∧∃i:Int,(k:Int)=max i 0∧ -1≤i∧i<max 1 (l.length:Int)∧aQq l i.toNat l.length∧aD 0 A.F=v∧aD 3 A.F= .int .i64 i
theorem aG0{S:St}{v:AV}{l:List Int}(H:Has fns)(hl:cD .i64 S v l)(hlen:l.length≤1000000):fR fns (.fn 86 [] []) [v] S fun r S'=>(∃t,r= .bool t∧(t=true↔aLZ l))∧Same S S':=by
 refine cE H.f86 (by simp) ?_;refine ac ?_;refine cC ?_;simp only[↓aA,aB,rE,↓reduceIte];have w0:IntKind.i64.wrap (((l.length:Nat):Int) - 1)=((l.length:Nat):Int) - 1:=wrap_i64 (by omega) (by omega);refine iP ?_;simp only[↓aA,aB,rE,↓reduceIte,hl.len,Ak,w0];refine aN (bT (aRT S v l) ?_ (l.length - 1) _ _ ⟨rfl,Same.refl S,((l.length:Nat):Int) - 1,by omega,by omega,by omega,fun i h1 h2=>by omega,by refine⟨?_,?_⟩<;>simp only[↓aA,aB,rE,↓reduceIte]⟩);rintro k ⟨F,inr⟩ X ⟨q0,hX,i,hik,hi1,hi2,hup,p0,p3⟩;simp only at q0 p0 p3;subst q0;have hlX:=hl.same hX;refine iP ?_;simp only[↓aA,aB,rE,↓reduceIte,p3];by_cases hi:0<i
 ·refine aR (by simp only[↓aA,aB,rE,↓reduceIte,Ad hi]) (aM ?_);try simp only[↓aA,aB,rE,↓reduceIte]
  obtain⟨n,rfl⟩:∃n:Nat,i=(n:Int):=⟨i.toNat,by omega⟩;have h1:n<l.length:=by omega
  have h0:n - 1<l.length:=by omega
  have w1:IntKind.i64.wrap ((n:Int) - 1)=((n - 1:Nat):Int):=by rw[wrap_i64 (by omega) (by omega)];omega
  have ia1:=hlX.iaddr h1;have ia0:=hlX.iaddr h0;have ld1:=hlX.ld h1;have ld0:=hlX.ld h0;have hself:=cD.self hl;obtain⟨b,hb⟩:∃b off cap o,v= .sl b off l.length cap o∧b<X.nx:=by
   rcases hlX with⟨h0,_⟩ | ⟨b,off,cap,o,cs,rfl,_,hb,_⟩
   ·rw[h0] at h1;simp at h1
   ·exact⟨b,off,cap,o,rfl,hb⟩
  obtain⟨off,cap,o,rfl,hbX⟩:=hb;simp only[aBM] at ia1 ia0 ld1 ld0;refine aC (aN (aC (dK (fun _=>False) ?_)));intro S1 s1;simp only[↓sU,sD,rE,↓reduceIte,rA,p0,p3,aH,ia1,w1,ia0,ld1,ld0,hbX,Ay];refine cP rfl ?_;refine am ?_;refine aP (aKR H) ?_;rintro _ Y ⟨rfl,hY⟩;rw[hY];refine⟨Same.refl _,?_⟩;try simp only[↓sU,sD,rE,↓reduceIte,rA]
  by_cases ho:l.getD n 0<l.getD (n - 1) 0
  ·refine aR (by simp only[↓sU,sD,rE,↓reduceIte,rA,Ad ho]) ?_;refine cC ?_;refine am ?_;refine aU ?_;simp only[↓sU,sD,rE,↓reduceIte,rA];exact⟨⟨_,rfl,⟨fun h=>(by cases h),fun h=>absurd ho (h n (by omega) h1)⟩⟩,hX.trans s1⟩
  ·refine aO (by simp only[↓sU,sD,rE,↓reduceIte,rA,Aa ho]) (aM ?_);try simp only[↓sU,sD,rE,↓reduceIte,rA]
   refine aG ?_;simp only[↓sU,sD,rE,↓reduceIte,rA,p3,w1];refine⟨k - 1,by omega,rfl,hX.trans s1,((n - 1:Nat):Int),by omega,by omega,by omega,fun j h1 h2=>?_,by refine⟨?_,?_⟩<;>simp only[↓sU,sD,rE,↓reduceIte,rA,p0]⟩;by_cases hj:j=n
   ·rw[hj];exact ho
   ·exact hup j (by omega) h2
 ·refine aO (by simp only[↓aA,aB,rE,↓reduceIte,Aa hi]) (bK ?_);refine ac ?_;refine cC ?_;refine ac ?_;refine aU ?_;simp only[↓aA,aB,rE,↓reduceIte];exact⟨⟨_,rfl,⟨fun _ j h1 h2=>hup j (by omega) h2,fun _=>rfl⟩⟩,hX⟩
def mO:List bU→Nat→Nat→Nat
 | [],_,_=>0
 | x::l,s,i=>if x.kind=2∧x.info=(i:Int) then s+1 else mO l (s+1) i
def lA(g:bH):List Int:=(List.range g.infos.length).map fun i=>((mO g.nodes 0 i:Nat):Int)
def infoAt(g:bH)(i:Int):mT:=g.infos.getD i.toNat ⟨0,0⟩
def mis(g:bH)(x:bU):Prop:=x.kind=2∧¬ ((infoAt g x.info).player=x.player∧(infoAt g x.info).actions=((x.next.length:Nat):Int))
instance misDec(g:bH)(x:bU):Decidable (mis g x):=by unfold mis;exact inferInstance
open Classical in
noncomputable def aBK(g:bH):Int:=if ∃x∈g.nodes,mis g x then 10 else if(0:Int)∈lA g then 18 else if aLZ (lA g) then 0 else 9
def aOv(g:bH):Prop:=∀x∈g.nodes,x.kind=2→0≤x.info∧x.info<g.infos.length
theorem aMT(a b c d:Int):eJ .neq (.struct [(0,.int),(1,.int)]) (.agg [.int .i64 a,.int .i64 b]) (.agg [.int .i64 c,.int .i64 d])=some (.bool (decide (¬ (a=c∧b=d)))):=by
 have k:∀y z:Int,zU .int (.int .i64 y) (.int .i64 z)=some (decide (y=z)):=fun y z=>by
  show bN (keq .i64 .i64) (some (ieq y z)) none=_;rw[eQ,aL,lG];congr 1
 have e:eqv (.struct [(0,.int),(1,.int)]) (.agg [.int .i64 a,.int .i64 b]) (.agg [.int .i64 c,.int .i64 d])=some (decide (a=c∧b=d)):=by
  show eqs [(0,.int),(1,.int)] [.int .i64 a,.int .i64 b] [.int .i64 c,.int .i64 d]=_;unfold eqs;show(match zU .int (.int .i64 a) (.int .i64 c) with | some true=>_ | some false=>_ | none=>_)=_;rw[k];by_cases h:a=c
  ·rw[Ad h];unfold eqs;show(match zU .int (.int .i64 b) (.int .i64 d) with | some true=>_ | some false=>_ | none=>_)=_;rw[k];by_cases h2:b=d
   ·rw[Ad h2,Ad ⟨h,h2⟩];rfl
   ·rw[Aa h2,Aa (fun h3=>h2 h3.2)]
  ·rw[Aa h,Aa (fun h3=>h h3.1)]
 show aX (eqv (.struct [(0,.int),(1,.int)]) _ _) _=_;rw[e,aK];congr 2;by_cases h:a=c∧b=d
 ·rw[Ad h,Aa (fun h2=>h2 h)];rfl
 ·rw[Aa h,Ad h];rfl
def aPu(S:St)(wb fb:Nat)(g:bH)(k:Nat)(A:bQ)(X:St):Prop:=A.inr=false∧Same S X∧∃F:List Int,k≤g.nodes.length∧F.length=g.infos.length∧(∀j,j<g.infos.length→F.getD j 0=((mO (g.nodes.drop k) k j:Nat):Int))∧X.h.get fb=some (.cells (bG F) false 0)∧fb<X.nx∧
 aD 0 A.F= .ptr wb 0∧aD 3 A.F= .sl fb 0 g.infos.length g.infos.length false∧aD 4 A.F= .int .i64 ((k:Int) - 1)
def aQx(S1:St)(wb:Nat)(fv nv:AV)(g:bH)(k:Nat)(A:bQ)(X:St):Prop:=A.inr=false∧Same S1 X∧∃i,i+k=g.nodes.length∧(∀x∈g.nodes.take i,¬mis g x)∧aD 0 A.F= .ptr wb 0∧aD 3 A.F=fv∧aD 47 A.F=nv∧aD 48 A.F= .int .i64 ((g.nodes.length:Nat):Int)∧aD 49 A.F= .int .i64 (i:Int)
theorem aKu{S:St}{wb:Nat}{ps:Int}{nv iv pv dv lv:AV}{g:bH}(H:Has fns)(hW:aAg S wb ps nv iv pv dv lv)(hn:bB 6 dJ S nv g.nodes)(hi:bB 2 fP S iv g.infos)(hN:g.nodes.length≤2000)(hI:g.infos.length≤200)(hok:aOv g):
  fR fns (.fn 66 [] []) [.ptr wb 0] S fun r S'=>r= .int .i64 (aBK g)∧Same S S':=by
 refine cE H.f66 (by simp) ?_;refine ah ?_;refine cC ?_;refine ah ?_;refine cC ?_;simp only[↓aA,aB,rE,↓reduceIte,rA,bE,bF,aE,aF,gR hW.1,hi.len];refine fX (pO (n:=g.infos.length) (by simp only[↓aA,aB,rE,↓reduceIte,rA,aH]) (by simp only[↓aA,aB,rE,↓reduceIte,rA,aH]) (by unfold room;omega) (by unfold room;omega)) ?_;intro S1 s1 n1 c1;simp only[↓aA,aB,rE,↓reduceIte,rA];have hz:repeatL [AV.int .i64 0] g.infos.length=bG (List.replicate g.infos.length 0):=by rw[repeatL_one];simp [bG]
 rw[hz] at c1;have hW1:=hW.same s1;have w0:IntKind.i64.wrap (((g.nodes.length:Nat):Int) - 1)=((g.nodes.length:Nat):Int) - 1:=wrap_i64 (by omega) (by omega);refine aC (bD (Q:=fun o A' X=>o= .normal∧aPu S wb S.nx g 0 A' X) (aC (aG ?_)) ?_)
 ·simp only[↓aA,aB,rE,↓reduceIte,rA,bE,bF,aE,aF,gM hW1.1,hn.len,w0];refine aN (bT (aPu S wb S.nx g) ?_ g.nodes.length _ _ ⟨rfl,s1,_,Ag _,Bg ..,fun j hj=>?_,c1,by omega,by refine⟨?_,?_,?_⟩<;>simp only[↓aA,aB,rE,↓reduceIte,rA]⟩);rotate_left
  ·rw[Ez (Ag _),Ae,De];split<;>rfl
  rintro k ⟨F,inr⟩ X ⟨q0,hX,Fl,hkN,hFl,hF,hfb,hfbX,p0,p3,p4⟩;simp only at q0 p0 p3 p4;subst q0;refine iP ?_;simp only[↓aA,aB,rE,↓reduceIte,rA,p4];by_cases hk:0<k
  ·refine aR (by simp only[↓aA,aB,rE,↓reduceIte,rA,Ad (show(0:Int)≤(k:Int) - 1 by omega)]) (aM ?_);try simp only[↓aA,aB,rE,↓reduceIte,rA]
   have e1:(k:Int) - 1=((k - 1:Nat):Int):=by omega
   rw[e1] at p4;have hlt:k - 1<g.nodes.length:=by omega
   obtain⟨x,hx⟩:∃x,g.nodes[k - 1]? =some x:=⟨_,Ab hlt⟩;have hxm:=Aq hx;have hWX:=hW.same hX;obtain⟨e,b,q,hia,hb,he,⟨a,bb,cc,rfl,ha,hbb,hcc⟩,hag,_⟩:=bB.at (bB.same (E:=dJ) cT hn hX) (by decide) hx;have hdrop:g.nodes.drop (k - 1)=x::g.nodes.drop k:=by
    rw[Di hlt,show k - 1+1=k by omega];congr 1;rw[Ab hlt] at hx;exact Cl hx
   have w1:IntKind.i64.wrap (((k - 1:Nat):Int)+1)=(k:Int):=by rw[wrap_i64 (by omega) (by omega)];omega
   have w2:IntKind.i64.wrap (((k - 1:Nat):Int) - 1)=((k - 1:Nat):Int) - 1:=wrap_i64 (by omega) (by omega);refine aC (aN (aC (aG ?_)));simp only[↓aA,aB,rE,↓reduceIte,rA,p0,p4,bE,bF,aE,aF,gM hWX.1,aH,hia,hag];refine cR ?_;intro X1 x1 m1 d1;refine fC (b:=X.nx) (ai) (by simp only[↓aA,aB,rE,↓reduceIte,rA];exact bM _) d1 rfl rfl ?_;intro X2 x2 m2 d2;simp only[↓aA,aB,rE,↓reduceIte,rA];have hX2:Same X X2:=x2.same x1 (Ag _);have hfb2:X2.h.get S.nx=some (.cells (bG Fl) false 0):=by rw[hX2.2 _ hfbX];exact hfb
   refine cC ?_;simp only[↓aA,aB,rE,↓reduceIte,rA,aE,aF,gT d2];have hfin:∀ (G:Fr) (Y:St) (Fl':List Int),aD 0 G= .ptr wb 0→aD 3 G= .sl S.nx 0 g.infos.length g.infos.length false→aD 4 G= .int .i64 ((k - 1:Nat):Int)→Same S Y→Fl'.length=g.infos.length→(∀j,j<g.infos.length→Fl'.getD j 0=((mO (g.nodes.drop (k - 1)) (k - 1) j:Nat):Int))→Y.h.get S.nx=some (.cells (bG Fl') false 0)→S.nx<Y.nx→tW fns [mt 24 4,oq 25 (bi .sub (.t 24) (ci 1)),mt 4 25] G Y fun F' S'=>∃k',k'<k∧aPu S wb S.nx g k' ⟨F',false⟩ S':=fun G Y Fl' g0 g3 g4 hY h1 h2 h3 h4=>by
    simp only[↓aA,aB,rE,↓reduceIte,rA,g4,w2];exact⟨k - 1,by omega,rfl,hY,Fl',by omega,h1,h2,h3,h4,by refine⟨?_,?_,?_⟩<;>simp only[↓aA,aB,rE,↓reduceIte,rA,g0,g3]⟩
   by_cases hk2:x.kind=2
   ·refine aR (by simp only[↓aA,aB,rE,↓reduceIte,rA,Ad hk2]) ?_;obtain⟨i0,i1⟩:=hok x hxm hk2;obtain⟨n,hn'⟩:∃n:Nat,x.info=(n:Int):=⟨x.info.toNat,by omega⟩;have hni:n<g.infos.length:=by omega
    rw[hn'] at d2;have hif:=iN (b:=S.nx) (o:=false) hni;refine aG ?_;simp only[↓aA,aB,rE,↓reduceIte,rA,p0,p3,p4,aE,aF,gR d2,w1,aH,hif];refine eR (fun call=>by simp only[↓aA,aB,rE,↓reduceIte,rA,dD,cQ];exact aCg (S:=X2) hfb2 (by rw[hFl];exact hni)) ?_;refine ah ?_;refine aG ?_;refine aG6 (hfin _ _ (Fl.set n (k:Int)) (aj p0) (aj p3) (aj p4) (((hX.trans hX2)).put (Ag _) _) (by rw[Bm];exact hFl) (fun j hj=>?_) (by simp only;rw[T.get_set,if_pos rfl]) (by simp only;omega)) fun F' S' hh=>hh;rw[fH (by rw[hFl];exact hni),hdrop,hF j hj];simp only[mO];by_cases hjn:j=n
    ·rw[if_pos hjn,if_pos ⟨hk2,by rw[hn',hjn]⟩];omega
    ·rw[if_neg hjn,if_neg (fun h=>hjn (by omega)),show k - 1+1=k by omega]
   ·refine aO (by simp only[↓aA,aB,rE,↓reduceIte,rA,Aa hk2]) (aM ?_);try simp only[↓aA,aB,rE,↓reduceIte,rA]
    refine aG ?_;refine aG6 (hfin _ X2 Fl (aj p0) (aj p3) (aj p4) (hX.trans hX2) hFl (fun j hj=>?_) hfb2 (by omega)) fun F' S' hh=>hh;rw[hdrop,hF j hj];simp only[mO];rw[if_neg (fun h=>hk2 h.1),show k - 1+1=k by omega]
  ·refine aO (by simp only[↓aA,aB,rE,↓reduceIte,rA,Aa (show ¬ (0:Int)≤(k:Int) - 1 by omega)]) (bK ?_);simp only[↓aA,aB,rE,↓reduceIte,rA];have hk0:k=0:=by omega
   subst hk0;exact⟨rfl,hX,Fl,hkN,hFl,hF,hfb,hfbX,by refine⟨?_,?_,?_⟩<;>simp only[↓aA,aB,rE,↓reduceIte,rA,p0,p3,p4]⟩
 rintro o ⟨F,inr⟩ S2 ⟨rfl,q0,s2,Fl,_,hFl,hF,hfb,hfb2,p0,p3,p4⟩;simp only at q0 p0 p3 p4;subst q0;have hFeq:Fl=lA g:=by
  unfold lA;refine Eb (by simp [hFl]) fun j j1 j2=>?_;have h1:=hF j (by omega);rw[Ae,Ab j1,Ct] at h1;rw[Em,List.getElem_range];exact h1
 subst hFeq;have hW2:=hW.same s2;have hn2:=bB.same (E:=dJ) cT hn s2;have hi2:=bB.same (E:=fP) fO hi s2;try simp only[↓aA,aB,rE,↓reduceIte,rA]
 refine aC (bD (Q:=fun o A' X=>(o= .normal∧aQx S2 wb (.sl S.nx 0 g.infos.length g.infos.length false) nv g 0 A' X)∨(o= .ret∧Same S2 X∧(∃x∈g.nodes,mis g x)∧aD 2 A'.F= .int .i64 10)) (aC (aG ?_)) ?_)
 ·simp only[↓aA,aB,rE,↓reduceIte,rA,p0,bE,bF,aE,aF,gM hW2.1,hn2.len];refine aN (bT (aQx S2 wb (.sl S.nx 0 g.infos.length g.infos.length false) nv g) ?_ g.nodes.length _ _ ⟨rfl,Same.refl _,0,by omega,fun x hx=>(by simp at hx),by refine⟨?_,?_,?_,?_,?_⟩<;>simp only[↓aA,aB,rE,↓reduceIte,rA,p0,p3]⟩);clear p0 p3 p4;rintro k ⟨F,inr⟩ X ⟨q0,hX,i,hik,hm,p0,p3,p47,p48,p49⟩;simp only at q0 p0 p3 p47 p48 p49;subst q0;refine cC ?_;simp only[↓aA,aB,rE,↓reduceIte,rA,p48,p49];by_cases hlt:i<g.nodes.length
  ·refine aC (aR (by simp only[↓aA,aB,rE,↓reduceIte,rA,Ad (show(i:Int)<((g.nodes.length:Nat):Int) by omega)]) (aM ?_));simp only[↓aA,aB,rE,↓reduceIte,rA];obtain⟨x,hx⟩:∃x,g.nodes[i]? =some x:=⟨_,Ab hlt⟩;have hxm:=Aq hx;obtain⟨e,b,q,hia,hb,he,⟨a,bb,cc,rfl,ha,hbb,hcc⟩,hag,_⟩:=bB.at (bB.same (E:=dJ) cT hn2 hX) (by decide) hx;have w1:IntKind.i64.wrap ((i:Int)+1)=((i+1:Nat):Int):=by rw[wrap_i64 (by omega) (by omega)];omega
   refine aC (aN (aC (aG ?_)));simp only[↓aA,aB,rE,↓reduceIte,rA,p47,p49,aH,hia,hag];refine cR ?_;intro X1 x1 m1 d1;refine fC (b:=X.nx) (ai) (by simp only[↓aA,aB,rE,↓reduceIte,rA];exact bM _) d1 rfl rfl ?_;intro X2 x2 m2 d2;simp only[↓aA,aB,rE,↓reduceIte,rA];have hX2:Same X X2:=x2.same x1 (Ag _);have hS2X:=hX.trans hX2;have hWX:=hW2.same hS2X;have hla:=(ha.same hX2).len;have hsa:=cD.self ha;have hsi:=bB.self hi;refine aC (bD (Q:=fun o A' Y=>o= .normal∧A'.inr=false∧Same X2 Y∧aD 0 A'.F= .ptr wb 0∧aD 3 A'.F= .sl S.nx 0 g.infos.length g.infos.length false∧aD 47 A'.F=nv∧aD 48 A'.F= .int .i64 ((g.nodes.length:Nat):Int)∧aD 49 A'.F= .int .i64 (i:Int)∧aD 73 A'.F= .bool (decide (mis g x))) (kO ?_) ?_)
   ·by_cases hk2:x.kind=2
    ·obtain⟨i0,i1⟩:=hok x hxm hk2;obtain⟨n,hn'⟩:∃n:Nat,x.info=(n:Int):=⟨x.info.toNat,by omega⟩;have hni:n<g.infos.length:=by omega
     obtain⟨y,hy⟩:∃y,g.infos[n]? =some y:=⟨_,Ab hni⟩;obtain⟨e',b',q',hia',hb',he',rfl,hag',_⟩:=bB.at (bB.same (E:=fP) fO hi2 hS2X) (by decide) hy;have hya:infoAt g x.info=y:=by unfold infoAt;rw[hn',Ae,show((n:Int)).toNat=n from rfl,hy];rfl
     have hmis:decide (mis g x)=decide (¬ (y.player=x.player∧y.actions=((x.next.length:Nat):Int))):=by
      rw[Cp,Fd,Fd];unfold mis;rw[hya];exact⟨fun h=>h.2,fun h=>⟨hk2,h⟩⟩
     rw[hmis];rw[hn'] at d2;have hs2:cM (.agg [.int .i64 y.player,.int .i64 y.actions]) (.agg [.int .i64 y.player,.int .i64 y.actions])=true:=aKo (fV ..) (fV ..);simp only[↓aA,aB,rE,↓reduceIte,rA,p0,p3,p47,p48,p49,bE,bO,bF,aE,aW,aF,gT d2,gM d2,gR d2,gE d2,gR hWX.1,aH,hia',hag',hla,hsa,hsi,hs2,Ak,uX,aPF,cQ,aMT,Ad hk2];exact Same.nx _ _
    ·rw[Aa (show ¬mis g x from fun h=>hk2 h.1)];simp only[↓aA,aB,rE,↓reduceIte,rA,p0,p3,p47,p48,p49,aE,aW,aF,gT d2,Aa hk2];exact Same.nx _ _
   clear p0 p3 p47 p48 p49;rintro o ⟨F,inr⟩ Y ⟨rfl,q0,hY,p0,p3,p47,p48,p49,pb⟩;simp only at q0 p0 p3 p47 p48 p49 pb;subst q0;have hS2Y:=hS2X.trans hY;try simp only[↓aA,aB,rE,↓reduceIte,rA]
   by_cases hmx:mis g x
   ·refine aR (by simp only[↓aA,aB,rE,↓reduceIte,rA,pb,Ad hmx]) ?_;refine cC ?_;refine ah ?_;refine aU ?_;simp only[↓aA,aB,rE,↓reduceIte,rA];exact .inr ⟨hS2Y,x,hxm,hmx⟩
   ·refine aO (by simp only[↓aA,aB,rE,↓reduceIte,rA,pb,Aa hmx]) (aM ?_);try simp only[↓aA,aB,rE,↓reduceIte,rA]
    refine aG ?_;simp only[↓aA,aB,rE,↓reduceIte,rA,p49,w1];refine⟨k - 1,by omega,rfl,hS2Y,i+1,by omega,fun y hy=>?_,by refine⟨?_,?_,?_,?_,?_⟩<;>simp only[↓aA,aB,rE,↓reduceIte,rA,p0,p3,p47,p48]⟩;rw[Bw,hx] at hy;rcases Bf.1 hy with h | h
    ·exact hm y h
    ·simp at h;rw[h];exact hmx
  ·refine aC (aO (by simp only[↓aA,aB,rE,↓reduceIte,rA,Aa (show ¬ (i:Int)<((g.nodes.length:Nat):Int) by omega)]) (bK ?_));simp only[↓aA,aB,rE,↓reduceIte,rA];have hk0:k=0:=by omega
   subst hk0;exact .inl ⟨rfl,hX,i,hik,hm,by refine⟨?_,?_,?_,?_,?_⟩<;>simp only[↓aA,aB,rE,↓reduceIte,rA,p0,p3,p47,p48,p49]⟩
 clear p0 p3 p4;rintro o ⟨F,inr⟩ X (⟨rfl,q0,hX,i,hik,hm,p0,p3,p47,p48,p49⟩ | ⟨rfl,hX,hmx,p2⟩);rotate_left
 ·simp only at p2;simp only[↓aA,aB,rE,↓reduceIte,rA,p2];unfold aBK;rw[if_pos hmx];exact⟨rfl,s2.trans hX⟩
 simp only at q0 p0 p3;subst q0;rw[Bj (by omega)] at hm;unfold aBK;rw[if_neg (fun⟨x,h1,h2⟩=>hm x h1 h2)];have sX:=s2.trans hX;have hfX:X.h.get S.nx=some (.cells (bG (lA g)) false 0):=by rw[hX.2 _ hfb2];exact hfb
 have hrow:=mG (N:=g.infos.length) hfX (Ah hfb2 hX.1) hFl;try simp only[↓aA,aB,rE,↓reduceIte,rA]
 refine iP ?_;simp only[↓aA,aB,rE,↓reduceIte,rA,p3];refine aY ?_;refine ah ?_;refine aP (aDH H hrow (by omega)) ?_;rintro _ Y ⟨rfl,hY⟩;rw[hY];try simp only[↓aA,aB,rE,↓reduceIte,rA]
 by_cases h0:(0:Int)∈lA g
 ·rw[if_pos h0];refine aR (by simp only[↓aA,aB,rE,↓reduceIte,rA,Ad h0]) ?_;refine cC ?_;refine ah ?_;refine aU ?_;simp only[↓aA,aB,rE,↓reduceIte,rA];exact sX
 rw[if_neg h0];refine aO (by simp only[↓aA,aB,rE,↓reduceIte,rA,Aa h0]) (aM ?_);try simp only[↓aA,aB,rE,↓reduceIte,rA]
 refine iP ?_;simp only[↓aA,aB,rE,↓reduceIte,rA,p3];refine aY ?_;refine ah ?_;refine aP (aG0 H hrow (by omega)) ?_;rintro _ Y ⟨⟨t,rfl,ht⟩,hY⟩;simp only[↓aA,aB,rE,↓reduceIte,rA,fQ];cases t with
 | false=>
  rw[if_neg (fun h=>by have:=ht.2 h;cases this)];refine aR (by simp only[↓aA,aB,rE,↓reduceIte,rA];rfl) ?_;refine cC ?_;refine ah ?_;refine aU ?_;simp only[↓aA,aB,rE,↓reduceIte,rA];exact sX.trans hY
 | true=>
  rw[if_pos (ht.1 rfl)];refine aO (by simp only[↓aA,aB,rE,↓reduceIte,rA];rfl) (aM ?_);try simp only[↓aA,aB,rE,↓reduceIte,rA]
  refine cC ?_;refine ah ?_;refine aU ?_;simp only[↓aA,aB,rE,↓reduceIte,rA];exact sX.trans hY
def tZ(g:bH):Prop:=g.players<1∨(4:Int)<g.players∨((g.nodes.length:Nat):Int)<1∨(2000:Int)<((g.nodes.length:Nat):Int)∨(200:Int)<((g.infos.length:Nat):Int)
instance badGDec(g:bH):Decidable (tZ g):=by unfold tZ;exact inferInstance
def oE(ps:Int)(ni:Nat):List bU→Int
 | []=>0
 | x::l=>if iV ps ni x≠0 then iV ps ni x else oE ps ni l
def lN(g:bH):Option (List dH):=iQ g.nodes.length (iU g) (g.nodes.length+1) 0 (-1) 0
noncomputable def iH(g:bH):Int:=
 if tZ g then 2 else if oE g.players g.infos.length g.nodes≠0 then oE g.players g.infos.length g.nodes else
 match lN g with
 | none=>9
 | some T=>if T.length≠g.nodes.length then 9 else if 40<aCd 0 T then 5 else aBK g
theorem kG{ps:Int}{ni:Nat}:∀ {l:List bU},oE ps ni l=0→∀x∈l,iV ps ni x=0
 | [],_,x,hx=>by cases hx
 | y::l,h,x,hx=>by
  simp only[oE] at h;split at h
  ·rename_i hne;exact absurd h hne
  ·rename_i he;rcases Bi.1 hx with rfl | hx
   ·exact Decidable.not_not.1 he
   ·exact kG h x hx
theorem aEr{ps:Int}{ni:Nat}{x:bU}(h:iV ps ni x=0):x.next.length≤1000:=by
 unfold iV at h;split at h
 ·split at h
  ·cases h
  ·rename_i hb;unfold tH at hb;omega
 ·split at h
  ·split at h
   ·cases h
   ·rename_i hb;unfold xY at hb;omega
  ·split at h
   ·split at h
    ·cases h
    ·rename_i hb;unfold uU at hb;omega
   ·cases h
theorem aEQ{ps:Int}{ni:Nat}{x:bU}(h:iV ps ni x=0)(h2:x.kind=2):0≤x.info∧x.info<ni:=by
 unfold iV at h;rw[if_neg (by omega),if_pos h2] at h;split at h
 ·cases h
 ·split at h
  ·cases h
  ·omega
theorem xW{S:St}{b p:Nat}{w:AV}{cs:List AV}{o:Bool}{sz:Nat}(h:S.h.get b=some (.cells cs o sz))(hp:p<cs.length):lI (.ptr b p) 1 [w] S=some (.undef,⟨S.h.set b (some (.cells (cs.set p w) o sz)),S.nx⟩):=by
 have hput:put cs p [w]=some (cs.set p w):=by
  rw[put_eq,if_pos (by simp;omega)];congr 1;rw[List.set_eq_take_append_cons_drop,if_pos hp];simp
 simp only[lI,qH,h,aK,zG,hput];rfl
theorem aDE{W:Nat→Prop}{h0 h':T AB}{base m i:Nat}{l:List AO}{F:Fr}{S:St}{ps ps':List iM}{last:Option Nat}{Q:Fr→St→List iM→Prop}{x v:cK}{b p sz:Nat}{w:AV}{cs:List AV}{o:Bool}(hfl:cG m ps S.h=(ps',h'))(h:mC last m=true)(hx:x.val F= .ptr b p)(hv:(v.val F).cells=some [w])(hb:h'.get b=some (.cells cs o sz))(hp:p<cs.length)(hW:W b)
  (hr:gG fns W h0 base l (i+1) F ⟨h'.set b (some (.cells (cs.set p w) o sz)),S.nx⟩ ps' (some i) Q):gG fns W h0 base (⟨none,.x (.st 1 x v),none,m⟩::l) i F S ps last Q:=by
 refine aAc (S1:=⟨h'.set b (some (.cells (cs.set p w) o sz)),S.nx⟩) h ?_ ?_ ?_
 ·rw[hfl,hv,aK,hx];exact xW (S:=⟨h',S.nx⟩) hb hp
 ·rw[hfl];refine⟨Ag _,fun c hc hw=>?_⟩;simp only;rw[T.get_set,if_neg (show ¬c=b from fun e=>hw (by rw[e];exact hW))]
 ·rw[hfl];exact hr
theorem yE{h:T AB}{b:Nat}{x0 x1 x2:AV}{o:Bool}{s:Nat}(hb:h.get b=some (.cells [x0,x1,x2] o s)):dB (.ptr b (0+0)) false 1 h=some x0:=ldc hb rfl
theorem fL{h:T AB}{b:Nat}{x0 x1 x2:AV}{o:Bool}{s:Nat}(hb:h.get b=some (.cells [x0,x1,x2] o s)):dB (.ptr b (0+1)) false 1 h=some x1:=ldc hb rfl
theorem yD{h:T AB}{b:Nat}{x0 x1 x2:AV}{o:Bool}{s:Nat}(hb:h.get b=some (.cells [x0,x1,x2] o s)):dB (.ptr b (0+2)) false 1 h=some x2:=ldc hb rfl
theorem lQ{h:T AB}{b:Nat}{x0 x1 x2:AV}{o:Bool}{s:Nat}(hb:h.get b=some (.cells [x0,x1,x2] o s)):dB (.ptr b 0) true 3 h=some (.agg [x0,x1,x2]):=aJc hb rfl
theorem yW{m j id:Nat}{bl:AB}{ps:List iM}{h:T AB}(ht:Nat.testBit m j=false):cG m (⟨j,id,bl⟩::ps) h=(⟨j,id,bl⟩::(cG m ps h).1,(cG m ps h).2):=by
 conv=>lhs;unfold cG
 rw[show Nat.testBit m (iM.mk j id bl).i=false from ht,aQ]
theorem aDY{m j id:Nat}{bl:AB}{ps:List iM}{h:T AB}(ht:Nat.testBit m j=true):cG m (⟨j,id,bl⟩::ps) h=cG m ps (h.set id (some bl)):=by
 conv=>lhs;unfold cG
 rw[show Nat.testBit m (iM.mk j id bl).i=true from ht,aL]
theorem aCu{W:Nat→Prop}{h0:T AB}{base i:Nat}{l:List AO}{F:Fr}{S:St}{ps:List iM}{last:Option Nat}{Q:Fr→St→List iM→Prop}{d:Option Nat}{t s bytes n:Nat}{z:List AV}{lo co:cK}(hl:fB (lo.val F)=some n)(hc:fB (co.val F)=some n)(h1:n≤room)(h2:bytes * n≤room)
  (hr:gG fns W h0 base l (i+1) (cI d F (.sl (base+i) 0 n n false)) S (⟨i,base+i,.cells (repeatL z n) false 0⟩::ps) last Q):aJb fns W h0 base (tQ (.mkSlice t s bytes z lo co) F (base+i)) d l i F S ps last Q:=by
 rw[pO hl hc h1 h2,mE];exact hr
theorem iG.full{sel:dH→Int}{P P':List Int}{T:List dH}(h:iG sel P P' T 0)(hl:T.length=P.length):P'=T.map sel:=by
 refine Eb (by rw[Az,h.1,hl]) fun j j1 j2=>?_;have h1:=h.2 j;rw[Az] at j2;unfold vK at h1;rw[if_pos (Bt _),Nat.sub_zero,Ab j2,Ae,Ab j1] at h1;rw[Em];exact h1
theorem aIv{g:bH}{T:List dH}(h:lN g=some T):∃e L,T=(-1,0,e)::L:=by
 unfold lN at h;simp only[iQ] at h;split at h
 ·obtain⟨L,_,rfl⟩:=Au.1 h;exact⟨_,_,rfl⟩
 ·cases h
theorem aL3(m:Int)(L:List dH):aIi m (L.map (·.2.1))=aCd m L:=by
 unfold aIi aCd;rw[List.foldl_map]
theorem aOx{P:T AB→Prop}{h:T AB}{w b1 b2 b3:Nat}{c1 c2 c3 z:Option AB}(n1:w≠b1)(n2:w≠b2)(n3:w≠b3)(n4:b1≠b2)(n5:b1≠b3)(n6:b2≠b3)
  (H:∀h':T AB,h'.get w=c3→h'.get b1=z→h'.get b2=z→h'.get b3=z→(∀c,c≠w→c≠b1→c≠b2→c≠b3→h'.get c=h.get c)→P h'):P ((((((h.set b1 z).set w c1).set b2 z).set w c2).set b3 z).set w c3):=by
 refine H _ ?_ ?_ ?_ ?_ fun c h1 h2 h3 h4=>?_
 ·rw[T.get_set,if_pos rfl]
 ·rw[T.get_set,if_neg (Da n1),T.get_set,if_neg n5,T.get_set,if_neg (Da n1),T.get_set,if_neg n4,T.get_set,if_neg (Da n1),T.get_set,if_pos rfl]
 ·rw[T.get_set,if_neg (Da n2),T.get_set,if_neg n6,T.get_set,if_neg (Da n2),T.get_set,if_pos rfl]
 ·rw[T.get_set,if_neg (Da n3),T.get_set,if_pos rfl]
 ·rw[T.get_set,if_neg h1,T.get_set,if_neg h4,T.get_set,if_neg h1,T.get_set,if_neg h3,T.get_set,if_neg h1,T.get_set,if_neg h2]
def aQo(S2:St)(gb wb:Nat)(nv:AV)(g:bH)(k:Nat)(A:bQ)(X:St):Prop:=A.inr=false∧Same S2 X∧∃i,i+k=g.nodes.length∧oE g.players g.infos.length g.nodes=oE g.players g.infos.length (g.nodes.drop i)∧aD 1 A.F= .ptr gb 0∧aD 4 A.F= .ptr wb 0∧aD 40 A.F=nv∧aD 41 A.F= .int .i64 ((g.nodes.length:Nat):Int)∧aD 42 A.F= .int .i64 (i:Int)
def aPt(S S':St)(p nv iv:AV)(g:bH):Prop:=∃ (wb pb db lb:Nat) (T:List dH),p= .ptr wb 0∧S.nx≤wb∧lN g=some T∧T.length=g.nodes.length∧WK S' wb pb db lb g.nodes.length g.players nv iv (T.map (·.1)) (T.map (·.2.1)) (T.map (·.2.2))
theorem aHt{S:St}{nv iv:AV}{g:bH}(H:Has fns)(hn:bB 6 dJ S nv g.nodes)(hi:bB 2 fP S iv g.infos)(hln:g.nodes.length≤100000):
  fR fns (.fn 48 [] []) [.agg [.int .i64 g.players,nv,iv]] S fun r S'=>Same S S'∧∃p,r= .tup [p,.int .i64 (iH g)]∧(iH g=0→aPt S S' p nv iv g):=by
 refine cE H.f48 (by simp) ?_;refine am ?_;refine cC ?_;refine eH (by simp only[↓sU,sD,rE,↓reduceIte,rA];exact bM _) ?_;intro S1 s1 n1 c1;simp only[↓sU,sD,rE,↓reduceIte,rA];have hnl:=hn.len;have hil:=hi.len;refine aC (aC (bD (Q:=fun o A' X=>o= .normal∧A'.inr=false∧X=S1∧aD 1 A'.F= .ptr S.nx 0∧aD 35 A'.F= .bool (decide (tZ g))) (aG ?_) ?_))
 ·by_cases h1:g.players<1
  ·rw[Ad (show tZ g from .inl h1)];simp only[↓sU,sD,rE,↓reduceIte,rA,aE,aF,yE c1,fL c1,yD c1,hnl,hil,Ad h1]
  by_cases h2:(4:Int)<g.players
  ·rw[Ad (show tZ g from .inr (.inl h2))];simp only[↓sU,sD,rE,↓reduceIte,rA,aE,aF,yE c1,fL c1,yD c1,hnl,hil,Aa h1,Ad h2]
  by_cases h3:((g.nodes.length:Nat):Int)<1
  ·rw[Ad (show tZ g from .inr (.inr (.inl h3)))];simp only[↓sU,sD,rE,↓reduceIte,rA,aE,aF,yE c1,fL c1,yD c1,hnl,hil,Aa h1,Aa h2,Ad h3]
  by_cases h4:(2000:Int)<((g.nodes.length:Nat):Int)
  ·rw[Ad (show tZ g from .inr (.inr (.inr (.inl h4))))];simp only[↓sU,sD,rE,↓reduceIte,rA,aE,aF,yE c1,fL c1,yD c1,hnl,hil,Aa h1,Aa h2,Aa h3,Ad h4]
  by_cases h5:(200:Int)<((g.infos.length:Nat):Int)
  ·rw[Ad (show tZ g from .inr (.inr (.inr (.inr h5))))];simp only[↓sU,sD,rE,↓reduceIte,rA,aE,aF,yE c1,fL c1,yD c1,hnl,hil,Aa h1,Aa h2,Aa h3,Aa h4,Ad h5]
  ·rw[Aa (show ¬tZ g by unfold tZ;omega)];simp only[↓sU,sD,rE,↓reduceIte,rA,aE,aF,yE c1,fL c1,yD c1,hnl,hil,Aa h1,Aa h2,Aa h3,Aa h4,Aa h5]
 rintro o ⟨F,inr⟩ X ⟨rfl,q0,hX,p1,pb⟩;simp only at q0 p1 pb;subst q0;rw[hX];clear hX;try simp only[↓sU,sD,rE,↓reduceIte,rA]
 by_cases bad:tZ g
 ·have hE:iH g=2:=by unfold iH;rw[if_pos bad]
  rw[hE];refine aR (by simp only[↓sU,sD,rE,↓reduceIte,rA,pb,Ad bad]) ?_;refine cC ?_;refine am ?_;refine aU ?_;simp only[↓sU,sD,rE,↓reduceIte,rA];exact⟨s1,_,rfl,fun h=>by cases h⟩
 refine aO (by simp only[↓sU,sD,rE,↓reduceIte,rA,pb,Aa bad]) (aM ?_);try simp only[↓sU,sD,rE,↓reduceIte,rA]
 have hps:1≤g.players∧g.players≤4:=by unfold tZ at bad;omega
 have hN:g.nodes.length≤2000:=by unfold tZ at bad;omega
 have hN0:0<g.nodes.length:=by unfold tZ at bad;omega
 have hI:g.infos.length≤200:=by unfold tZ at bad;omega
 have hbd:∀ (F:Fr) (h:T AB),aD 36 F= .agg [.int .i64 g.players,nv,iv]→iI (.build [.int .i64 0,.nilsl,.nilsl,.nilsl,.nilsl,.nilsl] [(0,3,.t 36)]) F h=some (.agg [.int .i64 g.players,nv,iv,.nilsl,.nilsl,.nilsl]):=fun F h he=>by
  show(aX (fG _ (eT F [(0,3,.t 36)])) fun cs=>some (AV.agg cs))=_;simp only[eT,show(cK.t 36).val F= .agg [.int .i64 g.players,nv,iv] from he];rfl
 refine cC ?_;simp only[↓aA,aB,rE,↓reduceIte,rA,p1,lQ c1,hbd];refine eH (by simp only[↓aA,aB,rE,↓reduceIte];exact bM _) ?_;intro S2 s2 n2 c2;simp only[↓sU,sD,rE,↓reduceIte,rA];have sS2:Same S S2:=s1.trans s2;have hW:aAg S2 S1.nx g.players nv iv .nilsl .nilsl .nilsl:=⟨c2,by omega⟩;have hn2:=bB.same (E:=dJ) cT hn sS2;have gl2:S.nx<S2.nx:=by omega
 have c1':S2.h.get S.nx=some (.cells [.int .i64 g.players,nv,iv] false 0):=by rw[s2.2 _ (by omega)];exact c1
 refine aC (bD (Q:=fun o A' X=>(o= .normal∧aQo S2 S.nx S1.nx nv g 0 A' X)∨(o= .ret∧Same S2 X∧oE g.players g.infos.length g.nodes≠0∧aD 2 A'.F= .nilp∧aD 3 A'.F= .int .i64 (oE g.players g.infos.length g.nodes))) (aC (aG ?_)) ?_)
 ·simp only[↓sU,sD,rE,↓reduceIte,rA,p1,aE,aF,fL c1',hnl];refine aN (bT (aQo S2 S.nx S1.nx nv g) ?_ g.nodes.length _ _ ⟨rfl,Same.refl _,0,by omega,by rw[Ct],by refine⟨?_,?_,?_,?_,?_⟩<;>simp only[↓sU,sD,rE,↓reduceIte,rA,p1]⟩);clear p1 pb;rintro k ⟨F,inr⟩ X ⟨q0,hX,i,hik,hE,p1,p4,p40,p41,p42⟩;simp only at q0 p1 p4 p40 p41 p42;subst q0;refine cC ?_;simp only[↓sU,sD,rE,↓reduceIte,rA,p41,p42];by_cases hlt:i<g.nodes.length
  ·refine aC (aR (by simp only[↓sU,sD,rE,↓reduceIte,rA,Ad (show(i:Int)<((g.nodes.length:Nat):Int) by omega)]) (aM ?_));simp only[↓sU,sD,rE,↓reduceIte,rA];obtain⟨x,hx⟩:∃x,g.nodes[i]? =some x:=⟨_,Ab hlt⟩;obtain⟨e,b,q,hia,hb,he,hNE,hag,_⟩:=bB.at (bB.same (E:=dJ) cT hn2 hX) (by decide) hx;have hdrop:g.nodes.drop i=x::g.nodes.drop (i+1):=by
    rw[Di hlt];congr 1;rw[Ab hlt] at hx;exact Cl hx
   have w1:IntKind.i64.wrap ((i:Int)+1)=((i+1:Nat):Int):=by rw[wrap_i64 (by omega) (by omega)];omega
   refine aC (aN (aC (aG ?_)));simp only[↓aA,aB,rE,↓reduceIte,rA,p40,p42,aH,hia,hag];refine cR ?_;intro X1 x1 m1 d1;refine fC (b:=X.nx) (ai) (by simp only[↓aA,aB,rE,↓reduceIte,rA];exact bM _) d1 rfl he ?_;intro X2 x2 m2 d2;simp only[↓aA,aB,rE,↓reduceIte,rA];have hX2:Same X X2:=x2.same x1 (Ag _);refine cC ?_;simp only[↓sU,sD,rE,↓reduceIte,rA,p4,aJc d2 he];refine aY ?_;refine am ?_;refine aP (aJO H (cT hNE hX2) (hW.same (hX.trans hX2)) hps hil (by omega) (bB.self hi)) ?_;rintro _ Y ⟨rfl,hY⟩;have hSY:=(hX.trans hX2).trans hY;rw[hdrop] at hE;simp only[oE] at hE;try simp only[↓sU,sD,rE,↓reduceIte,rA]
   refine cC ?_;simp only[↓sU,sD,rE,↓reduceIte,rA];by_cases he0:iV g.players g.infos.length x=0
   ·rw[if_neg (fun h=>h he0)] at hE;refine aO (by simp only[↓sU,sD,rE,↓reduceIte,rA,Aa (show ¬iV g.players g.infos.length x≠0 from fun h=>h he0)]) (aM ?_);try simp only[↓sU,sD,rE,↓reduceIte,rA]
    refine aG ?_;simp only[↓sU,sD,rE,↓reduceIte,rA,p42,w1];exact⟨k - 1,by omega,rfl,hSY,i+1,by omega,hE,by refine⟨?_,?_,?_,?_,?_⟩<;>simp only[↓sU,sD,rE,↓reduceIte,rA,p1,p4,p40,p41]⟩
   ·rw[if_pos he0] at hE;refine aR (by simp only[↓sU,sD,rE,↓reduceIte,rA,Ad (show iV g.players g.infos.length x≠0 from he0)]) ?_;refine cC ?_;refine am ?_;refine aU ?_;simp only[↓sU,sD,rE,↓reduceIte,rA];exact .inr ⟨hSY,by rw[hE];exact he0,by rw[hE]⟩
  ·refine aC (aO (by simp only[↓sU,sD,rE,↓reduceIte,rA,Aa (show ¬ (i:Int)<((g.nodes.length:Nat):Int) by omega)]) (bK ?_));simp only[↓sU,sD,rE,↓reduceIte,rA];have hk0:k=0:=by omega
   subst hk0;exact .inl ⟨rfl,hX,i,hik,hE,by refine⟨?_,?_,?_,?_,?_⟩<;>simp only[↓sU,sD,rE,↓reduceIte,rA,p1,p4,p40,p41,p42]⟩
 clear p1 pb;rintro o ⟨F,inr⟩ X (⟨rfl,q0,hX,i,hik,hE,p1,p4,p40,p41,p42⟩ | ⟨rfl,hX,hne,p2,p3⟩);rotate_left
 ·simp only at p2 p3;simp only[↓sU,sD,rE,↓reduceIte,rA,p2,p3];have hE:iH g=oE g.players g.infos.length g.nodes:=by unfold iH;rw[if_neg bad,if_pos hne]
  rw[hE];exact⟨sS2.trans hX,_,rfl,fun h=>absurd h hne⟩
 simp only at q0 p1 p4;subst q0;rw[Ez (by omega)] at hE;have hform:iH g=match lN g with | none=>9 | some T=>if T.length≠g.nodes.length then 9 else if 40<aCd 0 T then 5 else aBK g:=by
  conv=>lhs;unfold iH
  rw[if_neg bad,if_neg (fun h=>h hE)]
  first | done | (cases lN g<;>rfl)
 have sX:=sS2.trans hX;have cX:X.h.get S.nx=some (.cells [.int .i64 g.players,nv,iv] false 0):=by rw[hX.2 _ gl2];exact c1'
 have wX:=(hW.same hX).1;have ltw:=(hW.same hX).2;have ltg:S.nx<X.nx:=Ah gl2 hX.1;have nwg:¬S.nx=S1.nx:=by omega
 try simp only[↓sU,sD,rE,↓reduceIte,rA]
 refine aC (qE (fun b=>b=S1.nx) ?_);intro X1 x1 hx1 hm1;simp only[↓sU,sD,rE,↓reduceIte,rA,p1,p4,aE,aW,aF,fL cX,ltg,nwg,Ay,hnl,bB.self hn];refine aCu (n:=g.nodes.length) (by simp only[↓sU,sD,rE,↓reduceIte,rA,aH]) (by simp only[↓sU,sD,rE,↓reduceIte,rA,aH]) (by unfold room;omega) (by unfold room;omega) ?_;simp only[↓sU,sD,rE,↓reduceIte,rA,p1,p4,aE,aW,aF,fL cX,ltg,nwg,Ay,hnl,bB.self hn];refine aCu (n:=g.nodes.length) (by simp only[↓sU,sD,rE,↓reduceIte,rA,aH]) (by simp only[↓sU,sD,rE,↓reduceIte,rA,aH]) (by unfold room;omega) (by unfold room;omega) ?_;simp only[↓sU,sD,rE,↓reduceIte,rA,p1,p4,aE,aW,aF,fL cX,ltg,nwg,Ay,hnl,bB.self hn];refine aCu (n:=g.nodes.length) (by simp only[↓sU,sD,rE,↓reduceIte,rA,aH]) (by simp only[↓sU,sD,rE,↓reduceIte,rA,aH]) (by unfold room;omega) (by unfold room;omega) ?_;simp only[↓sU,sD,rE,↓reduceIte,rA,p1,p4,bE,bO,bF,aE,aW,aF];have hz:repeatL [AV.int .i64 0] g.nodes.length=bG (List.replicate g.nodes.length 0):=by rw[repeatL_one];simp [bG]
 rw[hz];have n6:¬S1.nx=X.nx+6:=by omega
 have n10:¬S1.nx=X.nx+10:=by omega
 have n14:¬S1.nx=X.nx+14:=by omega
 refine aDE (b:=S1.nx) (p:=3) (w:=.sl (X.nx+6) 0 g.nodes.length g.nodes.length false) (cs:=[.int .i64 g.players,nv,iv,.nilsl,.nilsl,.nilsl]) (o:=false) (sz:=0) ((yW (show Nat.testBit 98425 14=false by decide)).trans (by rw[yW (show Nat.testBit 98425 10=false by decide),aDY (show Nat.testBit 98425 6=true by decide),cB])) rfl (aq) (by simp only[↓sU,sD,rE,↓reduceIte,rA];rfl) (by rw[T.get_set,if_neg n6,hx1];exact wX) (by simp) rfl ?_;simp only[↓sU,sD,rE,↓reduceIte,rA,p1,p4,bE,bO,bF,aE,aW,aF];refine aDE (b:=S1.nx) (p:=4) (w:=.sl (X.nx+10) 0 g.nodes.length g.nodes.length false) (cs:=[.int .i64 g.players,nv,iv,.sl (X.nx+6) 0 g.nodes.length g.nodes.length false,.nilsl,.nilsl]) (o:=false) (sz:=0) ((yW (show Nat.testBit 1017851 14=false by decide)).trans (by rw[aDY (show Nat.testBit 1017851 10=true by decide),cB])) rfl (aq) (by simp only[↓sU,sD,rE,↓reduceIte,rA];rfl) (by rw[T.get_set,if_neg n10,T.get_set,if_pos rfl];rfl) (by simp) rfl ?_;simp only[↓sU,sD,rE,↓reduceIte,rA,p1,p4,bE,bO,bF,aE,aW,aF];refine aDE (b:=S1.nx) (p:=5) (w:=.sl (X.nx+14) 0 g.nodes.length g.nodes.length false) (cs:=[.int .i64 g.players,nv,iv,.sl (X.nx+6) 0 g.nodes.length g.nodes.length false,.sl (X.nx+10) 0 g.nodes.length g.nodes.length false,.nilsl]) (o:=false) (sz:=0) ((aDY (show Nat.testBit 8388607 14=true by decide)).trans (cB _ _)) rfl (aq) (by simp only[↓sU,sD,rE,↓reduceIte,rA];rfl) (by rw[T.get_set,if_neg n14,T.get_set,if_pos rfl];rfl) (by simp) rfl ?_;refine am ?_;refine aOx (P:=fun h'=>lJ fns _ _ ⟨h',X1.nx⟩ _) n6 n10 n14 (by omega) (by omega) (by omega) ?_;intro Zh gw g1 g2 g3 gr;have hm1:X1.nx=X.nx+24:=hm1;have sZ:Same S ⟨Zh,X1.nx⟩:=⟨by show S.nx≤X1.nx;have:=sX.1;omega,fun c hc=>by
  have:=sX.1;show Zh.get c=S.h.get c;rw[gr c (by omega) (by omega) (by omega) (by omega),hx1];exact sX.2 c hc⟩
 have cZ:Zh.get S.nx=some (.cells [.int .i64 g.players,nv,iv] false 0):=by
  rw[gr _ (by omega) (by omega) (by omega) (by omega),hx1];exact cX
 have hK:WK ⟨Zh,X1.nx⟩ S1.nx (X.nx+6) (X.nx+10) (X.nx+14) g.nodes.length g.players nv iv (List.replicate g.nodes.length 0) (List.replicate g.nodes.length 0) (List.replicate g.nodes.length 0):=⟨⟨gw,by show S1.nx<X1.nx;omega⟩,g1,g2,g3,Bg ..,Bg ..,Bg ..,by show _<X1.nx;omega,by show _<X1.nx;omega,by show _<X1.nx;omega⟩;generalize hZ:(⟨Zh,X1.nx⟩:St)=Z at *;have cZ:Z.h.get S.nx=some (.cells [.int .i64 g.players,nv,iv] false 0):=by rw[←hZ];exact cZ
 have lz:S1.nx<Z.nx:=hK.w.2;have hall:=kG hE;refine iP ?_;simp only[↓sU,sD,rE,↓reduceIte,rA,p1,p4,aE,aF,fL cZ];refine aY ?_;simp only[↓sU,sD,rE,↓reduceIte,rA];rw[show Int.negSucc 0=(-1:Int) from rfl];refine aP (aK3 (rv:=nv) H hn (by omega) (by have:=sX.1;omega) (by have:=sX.1;omega) (by have:=sX.1;omega) (by omega) (by omega) (by omega) n6 n10 n14 hN (fun x hx=>aEr (hall x hx)) (g.nodes.length+1) (at_:=0) (p:= -1) (d:=0) (by omega) (by decide) (by decide) (by omega) sZ hK (by rw[Ct];exact hn)) ?_;rintro r Y ⟨hY,P',D',L',hKY,hres⟩;have sY:Same S Y:=hY.same sZ (by have:=sX.1;omega) (by have:=sX.1;omega) (by have:=sX.1;omega);have hres':match lN g with | some T=>(∃v,r= .tup [v,.bool true]∧bB 6 dJ S v (g.nodes.drop (0+T.length)))∧iG (·.1) (List.replicate g.nodes.length 0) P' T 0∧iG (·.2.1) (List.replicate g.nodes.length 0) D' T 0∧iG (·.2.2) (List.replicate g.nodes.length 0) L' T 0 | none=>r= .tup [.nilsl,.bool false]:=hres
 clear hres;cases hw:lN g with
 | none=>
  rw[hw] at hres' hform;subst hres';simp only at hform;rw[hform];simp only[↓sU,sD,rE,↓reduceIte,rA,ex0,ex1];refine cC ?_;simp only[↓sU,sD,rE,↓reduceIte,rA,fQ,Bx];refine aR (aq) ?_;refine cC ?_;refine am ?_;refine aU ?_;simp only[↓sU,sD,rE,↓reduceIte,rA];exact⟨sY,_,rfl,fun h=>by cases h⟩
 | some T=>
  rw[hw] at hres' hform;obtain⟨⟨v,rfl,hv⟩,rP,rD,rL⟩:=hres';simp only at hform;have hTl:=(xE (show iQ g.nodes.length (iU g) (g.nodes.length+1) 0 (-1) 0=some T from hw)).1;have hvl:=hv.len;rw[Cq] at hvl;simp only[↓sU,sD,rE,↓reduceIte,rA,ex0,ex1];refine cC ?_;simp only[↓sU,sD,rE,↓reduceIte,rA,fQ,Bp,hvl];by_cases hT:T.length=g.nodes.length;rotate_left
  ·rw[hform,if_pos hT];refine aR (by simp only[↓sU,sD,rE,↓reduceIte,rA,Ad (show(0:Int)<((g.nodes.length - (0+T.length):Nat):Int) by omega)]) ?_;refine cC ?_;refine am ?_;refine aU ?_;simp only[↓sU,sD,rE,↓reduceIte,rA];exact⟨sY,_,rfl,fun h=>by cases h⟩
  rw[if_neg (fun h=>h hT)] at hform;refine aO (by simp only[↓sU,sD,rE,↓reduceIte,rA,Aa (show ¬ (0:Int)<((g.nodes.length - (0+T.length):Nat):Int) by omega)]) (aM ?_);try simp only[↓sU,sD,rE,↓reduceIte,rA]
  have eP:=rP.full (by rw[Bg];exact hT);have eD:=rD.full (by rw[Bg];exact hT);have eL:=rL.full (by rw[Bg];exact hT);subst eP eD eL;have hrow:=mG hKY.gd hKY.bd hKY.ld;obtain⟨e,L,hTe⟩:=aIv hw;have hmax:aIi ((T.map (·.2.1)).getD 0 0) ((T.map (·.2.1)).drop 1)=aCd 0 T:=by
   rw[hTe];show aIi 0 (L.map (·.2.1))=aCd 0 ((-1,0,e)::L);rw[aL3,aEJ];rfl
  refine iP ?_;simp only[↓sU,sD,rE,↓reduceIte,rA,p1,p4,bE,bF,aE,aF,iD hKY.w.1];refine aY ?_;refine am ?_;refine aP (aMy H hrow (by rw[Az];omega) (by rw[Az];omega)) ?_;rintro _ Y2 ⟨rfl,hY2⟩;rw[hY2,hmax];simp only[↓sU,sD,rE,↓reduceIte,rA];by_cases h40:40<aCd 0 T
  ·rw[hform,if_pos h40];refine aR (by simp only[↓sU,sD,rE,↓reduceIte,rA,Ad h40]) ?_;refine cC ?_;refine am ?_;refine aU ?_;simp only[↓sU,sD,rE,↓reduceIte,rA];exact⟨sY,_,rfl,fun h=>by cases h⟩
  rw[if_neg h40] at hform;refine aO (by simp only[↓sU,sD,rE,↓reduceIte,rA,Aa h40]) (aM ?_);try simp only[↓sU,sD,rE,↓reduceIte,rA]
  refine cC ?_;simp only[↓sU,sD,rE,↓reduceIte,rA,p1,p4];refine aY ?_;refine am ?_;refine aP (aKu H hKY.w (bB.same (E:=dJ) cT hn sY) (bB.same (E:=fP) fO hi sY) hN hI (fun x hx h2=>aEQ (hall x hx) h2)) ?_;rintro _ Y3 ⟨rfl,hY3⟩;try simp only[↓sU,sD,rE,↓reduceIte,rA,p4]
  refine aU ?_;simp only[↓sU,sD,rE,↓reduceIte,rA];rw[hform];refine⟨sY.trans hY3,_,rfl,fun _=>⟨S1.nx,_,_,_,T,rfl,by omega,hw,hT,⟨hKY.w.same hY3,by rw[hY3.2 _ hKY.bp];exact hKY.gp,by rw[hY3.2 _ hKY.bd];exact hKY.gd,by rw[hY3.2 _ hKY.bl];exact hKY.gl,hKY.lp,hKY.ld,hKY.ll,Ah hKY.bp hY3.1,Ah hKY.bd hY3.1,Ah hKY.bl hY3.1⟩⟩⟩
theorem aEV{S:St}{nv iv:AV}{g:bH}(H:Has fns)(hn:bB 6 dJ S nv g.nodes)(hi:bB 2 fP S iv g.infos)(hln:g.nodes.length≤100000):
  fR fns (.fn 31 [] []) [.agg [.int .i64 g.players,nv,iv]] S fun r S'=>r= .int .i64 (iH g)∧Same S S':=by
 refine cE H.f31 (by simp) ?_;refine am ?_;refine cC ?_;refine eH (by simp only[↓sU,sD,rE,↓reduceIte,rA];exact bM _) ?_;intro S1 s1 n1 c1;refine am ?_;refine cC ?_;simp only[↓sU,sD,rE,↓reduceIte,rA,lQ c1];refine aY ?_;refine am ?_;refine aP (aHt H (bB.same (E:=dJ) cT hn s1) (bB.same (E:=fP) fO hi s1) hln) ?_;rintro _ X ⟨hX,p,rfl,_⟩;simp only[↓sU,sD,rE,↓reduceIte,rA,ex0,ex1];refine cC ?_;refine am ?_;refine aU ?_;simp only[↓sU,sD,rE,↓reduceIte,rA];exact s1.trans hX
theorem aNU{S:St}{t:Nat}{x:AV}{o:Bool}{sz:Nat}(h:S.h.get t=some (.cells [x] o sz)):eG (.sl t 0 1 1 false) S.h 1 1=some [x]:=by
 show aX (cL S.h t) (fun cs=>cut cs 0 (1 * 1))=_;unfold cL;rw[h];rfl
theorem gQ.push{bytes t:Nat}{S0 S:St}{v:AV}{l:List Int}{w:Int}(h:gQ 1 S0 S v l.length (bG l))(hS:Same S0 S)(ht:S.h.get t=some (.cells [.int .i64 w] false 0))(h1:l.length+1≤room)(h2:(l.length+1) * bytes≤room):
  ∃v' S',iA bytes 1 v (.sl t 0 1 1 false) S=some (v',S')∧gQ 1 S0 S' v' (l++ [w]).length (bG (l++ [w]))∧aT v'=some S.nx∧S'.nx=S.nx+1∧∀c,c<S.nx→aT v≠some c→S'.h.get c=S.h.get c:=by
 have hs:=aNU ht;have e0:bG (l++ [w])=bG l++ [.int .i64 w]:=by simp [bG]
 have e1:(l++ [w]).length=l.length+1:=by simp
 rw[e0,e1];generalize hn:l.length=n at *;rcases h with⟨rfl,rfl,h0⟩ | ⟨b,rfl,hb0,hb,hg,hc⟩
 ·refine⟨.sl S.nx 0 1 1 true,⟨S.h.set S.nx (some (.cells [.int .i64 w] true 1)),S.nx+1⟩,?_,.inr ⟨S.nx,by rw[Ao],hS.1,by simp,?_,?_⟩,rfl,rfl,fun c hc _=>(Same.alloc S _).2 c hc⟩
  ·show(aX (some 1) fun j=>aX (eG (.sl t 0 1 1 false) S.h 1 j) fun new=>aCU .nilsl bytes 1 j new S)=_;rw[aK,hs,aK];show sE bytes 1 1 [.int .i64 w] S=_;unfold sE;rw[show Nat.beq 1 0=false from rfl,aQ,Aj (by omega),aL,Aj (by rw[Ao] at h2;exact h2),aL];rfl
  ·simp only;rw[T.get_set,if_pos rfl,h0];rfl
  ·rw[h0];rfl
 ·refine⟨.sl S.nx 0 (n+1) (n+1) true,⟨(S.h.set b none).set S.nx (some (.cells (bG l++ [.int .i64 w]) true 1)),S.nx+1⟩,?_,.inr ⟨S.nx,rfl,hS.1,by simp,?_,by rw[Ai,hc,An,Dx,Fm]⟩,rfl,rfl,fun c hc hne=>?_⟩
  ·show(aX (some 1) fun j=>aX (eG (.sl t 0 1 1 false) S.h 1 j) fun new=>aCU (.sl b 0 n n true) bytes 1 j new S)=_;rw[aK,hs,aK];show oV bytes 1 b 0 n n true 1 [.int .i64 w] S=_;unfold oV;have e2:Nat.ble (n+1) n=false:=by rw[Bv];intro h;have:=Ar h;omega
   rw[e2,aQ,Aj h1,aL,Aj h2,aL,hg,aK];have e3:cut (bG l) 0 (n * 1)=some (bG l):=by
    unfold cut;rw[fI,fT,Ct,if_pos (by omega),Bj (by omega)]
   have e4:Nat.beq (0+n * 1) (jK (bG l))=true:=by rw[dO,hc,Bb];omega
   simp only[aBP,e3,aK,aL,e4,show Nat.beq 1 1=true from rfl,grown,gD]
  ·simp only;rw[T.get_set,if_pos rfl]
  ·simp only;have:c≠b:=fun e=>hne (by rw[e];rfl);rw[T.get_set,if_neg (by omega),T.get_set,if_neg this]
theorem gQ.self{k n:Nat}{S0 S:St}{v:AV}{cs:List AV}(h:gQ k S0 S v n cs):cM v v=true:=by
 rcases h with⟨rfl,_⟩ | ⟨b,rfl,_⟩
 ·rfl
 ·exact tU ..
theorem gQ.cells{k n:Nat}{S0 S:St}{v:AV}{cs:List AV}(h:gQ k S0 S v n cs):v.cells=some [v]:=by
 rcases h with⟨rfl,_⟩ | ⟨b,rfl,_⟩<;>rfl
theorem cS{h:T AB}{b p:Nat}{cs:List AV}{x:AV}{o:Bool}{s:Nat}(hb:h.get b=some (.cells cs o s))(hj:cs[p]? =some x):dB (.ptr b p) false 1 h=some x:=by
 have:=ldc (j:=p) hb hj;rw[Ao] at this;exact this
theorem gQ.is{S0 S:St}{v:AV}{l:List Int}(h:gQ 1 S0 S v l.length (bG l)):cD .i64 S v l:=by
 rcases h with⟨rfl,h0,_⟩ | ⟨b,rfl,h1,h2,h3,h4⟩
 ·exact .inl ⟨Cf.1 h0,.inl rfl⟩
 ·refine .inr ⟨b,0,l.length,true,bG l,rfl,Ag _,h2,by unfold cL;rw[h3];rfl,fun i x hi=>?_⟩;rw[Ao];unfold bG;rw[Be,hi];rfl
theorem gQ.blk{k n c:Nat}{S0 S:St}{v:AV}{cs:List AV}(h:gQ k S0 S v n cs)(hc:aT v=some c):S0.nx≤c∧c<S.nx∧S.h.get c=some (.cells cs true k):=by
 rcases h with⟨rfl,_⟩ | ⟨b,rfl,h1,h2,h3,h4⟩
 ·cases hc
 ·cases hc;exact⟨h1,h2,h3⟩
theorem gQ.off{k n c s:Nat}{S0 S:St}{v:AV}{cs cs':List AV}(h:gQ k S0 S v n cs)(hc:S.h.get c=some (.cells cs' false s)):aT v≠some c:=fun e=>by
 have:=(h.blk e).2.2;rw[hc] at this;cases this
theorem aJK{x y z:AV}(h1:cM x x=true)(h2:cM y y=true)(h3:cM z z=true):cM (.agg [x,y,z]) (.agg [x,y,z])=true:=by
 simp [cM,oN,h1,h2,h3]
theorem aHq{g:bH}{j:Nat}(hj:j<g.infos.length):(lA g).getD j 0=((mO g.nodes 0 j:Nat):Int):=by
 unfold lA;rw[Ae,Be,Fj hj];rfl
end Go.Ev.Gl
