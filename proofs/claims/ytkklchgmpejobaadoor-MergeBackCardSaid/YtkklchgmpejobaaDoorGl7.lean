import Derived.Test.YtkklchgmpejobaaDoorGl6
open Nat renaming reduceEqDiff → rE, reduceAdd → rA
set_option maxHeartbeats 16000000
set_option linter.unusedSimpArgs false
set_option linter.unusedVariables false
namespace Go.Ev.Gl
variable {fns:T dB}
theorem zK{S:St}{a:Int}(H:Has fns):fP fns (.fn 70 [] []) [.int .i64 a] S fun r S'=>r= .bool false∧S'=S:=by
 refine cC H.f70 (by simp) ?_;simp only[↓aA,aB,rE,↓reduceIte];refine cD ?_;simp only[↓aA,aB,rE,↓reduceIte];refine cD ?_;simp only[↓aA,aB,rE,↓reduceIte,Aa (show ¬a≠a from fun h=>h rfl)];refine aU ?_;simp only[↓aA,aB,rE,↓reduceIte]
theorem aJA{S:St}{a b:Int}(H:Has fns):fP fns (.fn 93 [] []) [.int .i64 a,.int .i64 b] S fun r S'=>r= .bool (decide (a<b))∧S'=S:=by
 refine cC H.f93 (by simp) ?_;simp only[↓aA,aB,rE,↓reduceIte];refine cD ?_;simp only[↓aA,aB,rE,↓reduceIte];refine cD ?_;simp only[↓aA,aB,rE,↓reduceIte];refine bB ?_;simp only[↓aA,aB,rE,↓reduceIte];refine aN (zK H) ?_;rintro _ X ⟨rfl,hX⟩;rw[hX];simp only[↓aA,aB,rE,↓reduceIte];refine aU ?_;simp only[↓aA,aB,rE,↓reduceIte]
def aH0(m:Int)(l:List Int):Int:=l.foldl mx m
def aPD(S:St)(v:AV)(l:List Int)(m0:Int)(k:Nat)(A:bR)(X:St):Prop:=A.inr=false∧X=S∧∃i,i+k=l.length∧0<i∧aD 0 A.F=v∧aD 3 A.F= .int .i64 (aH0 m0 ((l.take i).drop 1))∧aD 4 A.F= .int .i64 (i:Int)
theorem aMk{S:St}{v:AV}{l:List Int}(H:Has fns)(hl:cE .i64 S v l)(hne:0<l.length)(hlen:l.length≤1000000):fP fns (.fn 62 [] []) [v] S fun r S'=>r= .int .i64 (aH0 (l.getD 0 0) (l.drop 1))∧S'=S:=by
 refine cC H.f62 (by simp) ?_;simp only[↓aA,aB,rE,↓reduceIte];refine cD ?_;simp only[↓aA,aB,rE,↓reduceIte];refine jB ?_;simp only[↓aA,aB,rE,↓reduceIte,hl.len,Al];refine aO (by simp only[↓aA,aB,rE,↓reduceIte,Aa (show ¬ ((l.length:Nat):Int)<1 by omega)]) (aM ?_);try simp only[↓aA,aB,rE,↓reduceIte]
 have hia:=hl.iaddr hne;have hld:=hl.ld hne;refine cD ?_;simp only[↓aA,aB,rE,↓reduceIte,aOB,hia,hld];refine jB ?_;simp only[↓aA,aB,rE,↓reduceIte];refine aP (cB (aPD S v l (l.getD 0 0)) ?_ (l.length - 1) _ _ ⟨rfl,rfl,1,by omega,by decide,by simp only[↓aA,aB,rE,↓reduceIte],by simp only[↓aA,aB,rE,↓reduceIte];rw[Et (by rw[Bz];omega)];rfl,by simp only[↓aA,aB,rE,↓reduceIte]⟩);rintro k ⟨F,inr⟩ X ⟨q0,hX,i,hik,hi0,p0,p3,p4⟩;simp only at q0 p0 p3 p4;subst q0;rw[hX];refine jB ?_;simp only[↓aA,aB,rE,↓reduceIte,p0,p4,hl.len,Al];by_cases hi:i<l.length
 ·refine aT (by simp only[↓aA,aB,rE,↓reduceIte,Ac (show(i:Int)<((l.length:Nat):Int) by omega)]) (aM ?_);try simp only[↓aA,aB,rE,↓reduceIte]
  have hia:=hl.iaddr hi;have hld:=hl.ld hi;have htk:(l.take (i+1)).drop 1=(l.take i).drop 1++ [l.getD i 0]:=by
   rw[Bx,Ad hi,List.drop_append,Bz,show 1 - min i l.length=0 by omega,Ah,Ad hi];rfl
  have w1:IntKind.i64.wrap ((i:Int)+1)=((i+1:Nat):Int):=by rw[wrap_i64 (by omega) (by omega)];omega
  refine aC (aP (aE ?_));simp only[↓aA,aB,rE,↓reduceIte,p0,p3,p4,aK,hia,hld,aL5,aIX];refine aE ?_;simp only[↓aA,aB,rE,↓reduceIte,p4,w1];refine⟨k - 1,by omega,rfl,rfl,i+1,by omega,by omega,by simp only[↓aA,aB,rE,↓reduceIte,p0],?_,by simp only[↓aA,aB,rE,↓reduceIte]⟩;simp only[↓aA,aB,rE,↓reduceIte];rw[htk];unfold aH0;rw[List.foldl_append];rfl
 ·refine aO (by simp only[↓aA,aB,rE,↓reduceIte,Aa (show ¬ (i:Int)<((l.length:Nat):Int) by omega)]) (bN ?_);simp only[↓aA,aB,rE,↓reduceIte];rw[Bg (by omega)] at p3;refine cD ?_;simp only[↓aA,aB,rE,↓reduceIte,p3];refine aU ?_;simp only[↓aA,aB,rE,↓reduceIte]
def aQU(S:St)(v:AV)(l:List Int)(z:Int)(k:Nat)(A:bR)(X:St):Prop:=A.inr=false∧X=S∧∃i,i+k=l.length∧¬z∈l.take i∧aD 0 A.F=v∧aD 1 A.F= .int .i64 z∧aD 7 A.F= .int .i64 ((l.length:Nat):Int)∧aD 8 A.F= .int .i64 (i:Int)
theorem aHa{S:St}{v:AV}{l:List Int}{z:Int}(H:Has fns)(hl:cE .i64 S v l)(hlen:l.length≤1000000):fP fns (.fn 92 [] []) [v,.int .i64 z] S fun r S'=>(∃j,r= .int .i64 j∧(0≤j↔z∈l))∧S'=S:=by
 refine cC H.f92 (by simp) ?_;simp only[↓aA,aB,rE,↓reduceIte];refine cD ?_;simp only[↓aA,aB,rE,↓reduceIte];refine jB ?_;simp only[↓aA,aB,rE,↓reduceIte,hl.len,Al];refine aP (cB (aQU S v l z) ?_ l.length _ _ ⟨rfl,rfl,0,by omega,by simp,by refine⟨?_,?_,?_,?_⟩<;>simp only[↓aA,aB,rE,↓reduceIte]⟩);rintro k ⟨F,inr⟩ X ⟨q0,hX,j,hjk,ha,p0,p1,p7,p8⟩;simp only at q0 p0 p1 p7 p8;subst q0;rw[hX];refine cD ?_;simp only[↓aA,aB,rE,↓reduceIte,p7,p8];by_cases hj:j<l.length
 ·refine aC (aT (by simp only[↓aA,aB,rE,↓reduceIte,Ac (show(j:Int)<((l.length:Nat):Int) by omega)]) (aM ?_));simp only[↓aA,aB,rE,↓reduceIte];have hia:=hl.iaddr hj;have hld:=hl.ld hj;have hgd:l.getD j 0=l[j]:=by rw[Ah,Ad hj];rfl
  have htk:l.take (j+1)=l.take j++ [l.getD j 0]:=by rw[Bx,Ad hj,hgd];rfl
  have hmem:l.getD j 0∈l:=by rw[hgd];exact Ci hj
  generalize l.getD j 0=w at *;have w1:IntKind.i64.wrap ((j:Int)+1)=((j+1:Nat):Int):=by rw[wrap_i64 (by omega) (by omega)];omega
  refine aC (aP (aC (aE ?_)));simp only[↓aA,aB,rE,↓reduceIte,p8];refine cD ?_;simp only[↓aA,aB,rE,↓reduceIte,p0,p1,aK,hia,hld];by_cases ho:z=w
  ·refine aT (by simp only[↓aA,aB,rE,↓reduceIte,Ac ho]) ?_;refine cD ?_;simp only[↓aA,aB,rE,↓reduceIte];refine aU ?_;simp only[↓aA,aB,rE,↓reduceIte];exact⟨_,rfl,⟨fun _=>by rw[ho];exact hmem,fun _=>by omega⟩⟩
  ·refine aO (by simp only[↓aA,aB,rE,↓reduceIte,Aa ho]) (aM ?_);try simp only[↓aA,aB,rE,↓reduceIte]
   refine aE ?_;simp only[↓aA,aB,rE,↓reduceIte,p8,w1];refine⟨k - 1,by omega,rfl,rfl,j+1,by omega,?_,by refine⟨?_,?_,?_,?_⟩<;>simp only[↓aA,aB,rE,↓reduceIte,p0,p1,p7]⟩;rw[htk];intro h;rcases Be.1 h with h | h
   ·exact ha h
   ·simp at h;exact ho h
 ·refine aC (aO (by simp only[↓aA,aB,rE,↓reduceIte,Aa (show ¬ (j:Int)<((l.length:Nat):Int) by omega)]) (bN ?_));simp only[↓aA,aB,rE,↓reduceIte];rw[Bg (by omega)] at ha;refine cD ?_;simp only[↓aA,aB,rE,↓reduceIte];refine aU ?_;simp only[↓aA,aB,rE,↓reduceIte];exact⟨_,rfl,⟨fun h=>absurd h (by decide),fun h=>absurd h ha⟩⟩
theorem aDJ{S:St}{v:AV}{l:List Int}{z:Int}(H:Has fns)(hl:cE .i64 S v l)(hlen:l.length≤1000000):fP fns (.fn 78 [] []) [v,.int .i64 z] S fun r S'=>r= .bool (decide (z∈l))∧S'=S:=by
 refine cC H.f78 (by simp) ?_;simp only[↓aA,aB,rE,↓reduceIte];refine cD ?_;simp only[↓aA,aB,rE,↓reduceIte];refine cD ?_;simp only[↓aA,aB,rE,↓reduceIte];refine bB ?_;simp only[↓aA,aB,rE,↓reduceIte];refine aN (aHa H hl hlen) ?_;rintro _ Y ⟨⟨j,rfl,hj⟩,hY⟩;rw[hY];have hd:decide ((0:Int)≤j)=decide (z∈l):=by rw[Cl,Ey,Ey];exact hj
 simp only[↓aA,aB,rE,↓reduceIte,hd];refine aU ?_;simp only[↓aA,aB,rE,↓reduceIte]
def aPR(l:List Int)(a b:Nat):Prop:=∀i,a<i→i<b→¬l.getD i 0<l.getD (i - 1) 0
def aKZ(l:List Int):Prop:=aPR l 0 l.length
def aQv(S:St)(v:AV)(l:List Int)(k:Nat)(A:bR)(X:St):Prop:=A.inr=false∧Same S X∧∃i:Int,(k:Int)=max i 0∧ -1≤i∧i<max 1 (l.length:Int)∧aPR l i.toNat l.length∧aD 0 A.F=v∧aD 3 A.F= .int .i64 i
theorem aF4{S:St}{v:AV}{l:List Int}(H:Has fns)(hl:cE .i64 S v l)(hlen:l.length≤1000000):fP fns (.fn 79 [] []) [v] S fun r S'=>(∃t,r= .bool t∧(t=true↔aKZ l))∧Same S S':=by
 refine cC H.f79 (by simp) ?_;simp only[↓aA,aB,rE,↓reduceIte];refine cD ?_;simp only[↓aA,aB,rE,↓reduceIte];have w0:IntKind.i64.wrap (((l.length:Nat):Int) - 1)=((l.length:Nat):Int) - 1:=wrap_i64 (by omega) (by omega);refine jB ?_;simp only[↓aA,aB,rE,↓reduceIte,hl.len,Al,w0];refine aP (cB (aQv S v l) ?_ (l.length - 1) _ _ ⟨rfl,Same.refl S,((l.length:Nat):Int) - 1,by omega,by omega,by omega,fun i h1 h2=>by omega,by refine⟨?_,?_⟩<;>simp only[↓aA,aB,rE,↓reduceIte]⟩);rintro k ⟨F,inr⟩ X ⟨q0,hX,i,hik,hi1,hi2,hup,p0,p3⟩;simp only at q0 p0 p3;subst q0;have hlX:=hl.same hX;refine jB ?_;simp only[↓aA,aB,rE,↓reduceIte,p3];by_cases hi:0<i
 ·refine aT (by simp only[↓aA,aB,rE,↓reduceIte,Ac hi]) (aM ?_);try simp only[↓aA,aB,rE,↓reduceIte]
  obtain⟨n,rfl⟩:∃n:Nat,i=(n:Int):=⟨i.toNat,by omega⟩;have h1:n<l.length:=by omega
  have h0:n - 1<l.length:=by omega
  have w1:IntKind.i64.wrap ((n:Int) - 1)=((n - 1:Nat):Int):=by rw[wrap_i64 (by omega) (by omega)];omega
  have ia1:=hlX.iaddr h1;have ia0:=hlX.iaddr h0;have ld1:=hlX.ld h1;have ld0:=hlX.ld h0;have hself:=cE.self hl;obtain⟨b,hb⟩:∃b off cap o,v= .sl b off l.length cap o∧b<X.nx:=by
   rcases hlX with⟨h0,_⟩ | ⟨b,off,cap,o,cs,rfl,_,hb,_⟩
   ·rw[h0] at h1;simp at h1
   ·exact⟨b,off,cap,o,rfl,hb⟩
  obtain⟨off,cap,o,rfl,hbX⟩:=hb;simp only[aBt] at ia1 ia0 ld1 ld0;refine aC (aP (aC (dI (fun _=>False) ?_)));intro S1 s1;simp only[↓sU,sD,rE,↓reduceIte,rA,p0,p3,aK,ia1,w1,ia0,ld1,ld0,hbX,Aq];refine cN rfl ?_;simp only[↓sU,sD,rE,↓reduceIte,rA];refine aN (aJA H) ?_;rintro _ Y ⟨rfl,hY⟩;rw[hY];refine⟨Same.refl _,?_⟩;try simp only[↓sU,sD,rE,↓reduceIte,rA]
  by_cases ho:l.getD n 0<l.getD (n - 1) 0
  ·refine aT (by simp only[↓sU,sD,rE,↓reduceIte,rA,Ac ho]) ?_;refine cD ?_;simp only[↓sU,sD,rE,↓reduceIte,rA];refine aU ?_;simp only[↓sU,sD,rE,↓reduceIte,rA];exact⟨⟨_,rfl,⟨fun h=>(by cases h),fun h=>absurd ho (h n (by omega) h1)⟩⟩,hX.trans s1⟩
  ·refine aO (by simp only[↓sU,sD,rE,↓reduceIte,rA,Aa ho]) (aM ?_);try simp only[↓sU,sD,rE,↓reduceIte,rA]
   refine aE ?_;simp only[↓sU,sD,rE,↓reduceIte,rA,p3,w1];refine⟨k - 1,by omega,rfl,hX.trans s1,((n - 1:Nat):Int),by omega,by omega,by omega,fun j h1 h2=>?_,by refine⟨?_,?_⟩<;>simp only[↓sU,sD,rE,↓reduceIte,rA,p0]⟩;by_cases hj:j=n
   ·rw[hj];exact ho
   ·exact hup j (by omega) h2
 ·refine aO (by simp only[↓aA,aB,rE,↓reduceIte,Aa hi]) (bN ?_);simp only[↓aA,aB,rE,↓reduceIte];refine cD ?_;simp only[↓aA,aB,rE,↓reduceIte];refine aU ?_;simp only[↓aA,aB,rE,↓reduceIte];exact⟨⟨_,rfl,⟨fun _ j h1 h2=>hup j (by omega) h2,fun _=>rfl⟩⟩,hX⟩
def mN:List bS→Nat→Nat→Nat
 | [],_,_=>0
 | x::l,s,i=>if x.kind=2∧x.info=(i:Int) then s+1 else mN l (s+1) i
def kK(g:bM):List Int:=(List.range g.infos.length).map fun i=>((mN g.nodes 0 i:Nat):Int)
def infoAt(g:bM)(i:Int):lR:=g.infos.getD i.toNat ⟨0,0⟩
def mis(g:bM)(x:bS):Prop:=x.kind=2∧¬ ((infoAt g x.info).player=x.player∧(infoAt g x.info).actions=((x.next.length:Nat):Int))
instance misDec(g:bM)(x:bS):Decidable (mis g x):=by unfold mis;exact inferInstance
open Classical in
noncomputable def aBy(g:bM):Int:=if ∃x∈g.nodes,mis g x then 10 else if(0:Int)∈kK g then 18 else if aKZ (kK g) then 0 else 9
def aN4(g:bM):Prop:=∀x∈g.nodes,x.kind=2→0≤x.info∧x.info<g.infos.length
theorem aLV(a b c d:Int):eX .neq (.struct [(0,.int),(1,.int)]) (.agg [.int .i64 a,.int .i64 b]) (.agg [.int .i64 c,.int .i64 d])=some (.bool (decide (¬ (a=c∧b=d)))):=by
 have k:∀y z:Int,zF .int (.int .i64 y) (.int .i64 z)=some (decide (y=z)):=fun y z=>by
  show bL (keq .i64 .i64) (some (ieq y z)) none=_;rw[eG,aL,jO];congr 1
 have e:eqv (.struct [(0,.int),(1,.int)]) (.agg [.int .i64 a,.int .i64 b]) (.agg [.int .i64 c,.int .i64 d])=some (decide (a=c∧b=d)):=by
  show eqs [(0,.int),(1,.int)] [.int .i64 a,.int .i64 b] [.int .i64 c,.int .i64 d]=_;unfold eqs;show(match zF .int (.int .i64 a) (.int .i64 c) with | some true=>_ | some false=>_ | none=>_)=_;rw[k];by_cases h:a=c
  ·rw[Ac h];unfold eqs;show(match zF .int (.int .i64 b) (.int .i64 d) with | some true=>_ | some false=>_ | none=>_)=_;rw[k];by_cases h2:b=d
   ·rw[Ac h2,Ac ⟨h,h2⟩];rfl
   ·rw[Aa h2,Aa (fun h3=>h2 h3.2)]
  ·rw[Aa h,Aa (fun h3=>h h3.1)]
 show aW (eqv (.struct [(0,.int),(1,.int)]) _ _) _=_;rw[e,aJ];congr 2;by_cases h:a=c∧b=d
 ·rw[Ac h,Aa (fun h2=>h2 h)];rfl
 ·rw[Aa h,Ac h];rfl
def aOl(S:St)(wb fb:Nat)(g:bM)(k:Nat)(A:bR)(X:St):Prop:=A.inr=false∧Same S X∧∃F:List Int,k≤g.nodes.length∧F.length=g.infos.length∧(∀j,j<g.infos.length→F.getD j 0=((mN (g.nodes.drop k) k j:Nat):Int))∧X.h.get fb=some (.cells (bG F) false 0)∧fb<X.nx∧
 aD 0 A.F= .ptr wb 0∧aD 3 A.F= .sl fb 0 g.infos.length g.infos.length false∧aD 4 A.F= .int .i64 ((k:Int) - 1)
def aPr(S1:St)(wb:Nat)(fv nv:AV)(g:bM)(k:Nat)(A:bR)(X:St):Prop:=A.inr=false∧Same S1 X∧∃i,i+k=g.nodes.length∧(∀x∈g.nodes.take i,¬mis g x)∧aD 0 A.F= .ptr wb 0∧aD 3 A.F=fv∧aD 47 A.F=nv∧aD 48 A.F= .int .i64 ((g.nodes.length:Nat):Int)∧aD 49 A.F= .int .i64 (i:Int)
theorem aKj{S:St}{wb:Nat}{ps:Int}{nv iv pv dv lv:AV}{g:bM}(H:Has fns)(hW:zZ S wb ps nv iv pv dv lv)(hn:aY 6 dD S nv g.nodes)(hi:aY 2 dM S iv g.infos)(hN:g.nodes.length≤2000)(hI:g.infos.length≤200)(hok:aN4 g):
  fP fns (.fn 63 [] []) [.ptr wb 0] S fun r S'=>r= .int .i64 (aBy g)∧Same S S':=by
 refine cC H.f63 (by simp) ?_;simp only[↓aA,aB,rE,↓reduceIte,rA];refine cD ?_;simp only[↓aA,aB,rE,↓reduceIte,rA];refine cD ?_;simp only[↓aA,aB,rE,↓reduceIte,rA,bD,bE,aG,aF,gR hW.1,hi.len];refine gF (rC (n:=g.infos.length) (by simp only[↓aA,aB,rE,↓reduceIte,rA,aK]) (by simp only[↓aA,aB,rE,↓reduceIte,rA,aK]) (by unfold room;omega) (by unfold room;omega)) ?_;intro S1 s1 n1 c1;simp only[↓aA,aB,rE,↓reduceIte,rA];have hz:repeatL [AV.int .i64 0] g.infos.length=bG (List.replicate g.infos.length 0):=by rw[repeatL_one];simp [bG]
 rw[hz] at c1;have hW1:=hW.same s1;have w0:IntKind.i64.wrap (((g.nodes.length:Nat):Int) - 1)=((g.nodes.length:Nat):Int) - 1:=wrap_i64 (by omega) (by omega);refine aC (bF (Q:=fun o A' X=>o= .normal∧aOl S wb S.nx g 0 A' X) (aC (aE ?_)) ?_)
 ·simp only[↓aA,aB,rE,↓reduceIte,rA,bD,bE,aG,aF,fY hW1.1,hn.len,w0];refine aP (cB (aOl S wb S.nx g) ?_ g.nodes.length _ _ ⟨rfl,s1,_,Ag _,Bh ..,fun j hj=>?_,c1,by omega,by refine⟨?_,?_,?_⟩<;>simp only[↓aA,aB,rE,↓reduceIte,rA]⟩);rotate_left
  ·rw[Et (Ag _),Ah,Eo];split<;>rfl
  rintro k ⟨F,inr⟩ X ⟨q0,hX,Fl,hkN,hFl,hF,hfb,hfbX,p0,p3,p4⟩;simp only at q0 p0 p3 p4;subst q0;refine jB ?_;simp only[↓aA,aB,rE,↓reduceIte,rA,p4];by_cases hk:0<k
  ·refine aT (by simp only[↓aA,aB,rE,↓reduceIte,rA,Ac (show(0:Int)≤(k:Int) - 1 by omega)]) (aM ?_);try simp only[↓aA,aB,rE,↓reduceIte,rA]
   have e1:(k:Int) - 1=((k - 1:Nat):Int):=by omega
   rw[e1] at p4;have hlt:k - 1<g.nodes.length:=by omega
   obtain⟨x,hx⟩:∃x,g.nodes[k - 1]? =some x:=⟨_,Ad hlt⟩;have hxm:=Aw hx;have hWX:=hW.same hX;obtain⟨e,b,q,hia,hb,he,⟨a,bb,cc,rfl,ha,hbb,hcc⟩,hag,_⟩:=aY.at (aY.same (E:=dD) cO hn hX) (by decide) hx;have hdrop:g.nodes.drop (k - 1)=x::g.nodes.drop k:=by
    rw[Dp hlt,show k - 1+1=k by omega];congr 1;rw[Ad hlt] at hx;exact Cf hx
   have w1:IntKind.i64.wrap (((k - 1:Nat):Int)+1)=(k:Int):=by rw[wrap_i64 (by omega) (by omega)];omega
   have w2:IntKind.i64.wrap (((k - 1:Nat):Int) - 1)=((k - 1:Nat):Int) - 1:=wrap_i64 (by omega) (by omega);refine aC (aP (aC (aE ?_)));simp only[↓aA,aB,rE,↓reduceIte,rA,p0,p4,bD,bE,aG,aF,fY hWX.1,aK,hia,hag];refine cR ?_;intro X1 x1 m1 d1;refine fB (b:=X.nx) (by simp only[↓aA,aB,rE,↓reduceIte,rA]) (by simp only[↓aA,aB,rE,↓reduceIte,rA];exact bK _) d1 rfl rfl ?_;intro X2 x2 m2 d2;simp only[↓aA,aB,rE,↓reduceIte,rA];have hX2:Same X X2:=x2.same x1 (Ag _);have hfb2:X2.h.get S.nx=some (.cells (bG Fl) false 0):=by rw[hX2.2 _ hfbX];exact hfb
   refine cD ?_;simp only[↓aA,aB,rE,↓reduceIte,rA,aG,aF,iN d2];have hfin:∀ (G:Fr) (Y:St) (Fl':List Int),aD 0 G= .ptr wb 0→aD 3 G= .sl S.nx 0 g.infos.length g.infos.length false→aD 4 G= .int .i64 ((k - 1:Nat):Int)→Same S Y→Fl'.length=g.infos.length→(∀j,j<g.infos.length→Fl'.getD j 0=((mN (g.nodes.drop (k - 1)) (k - 1) j:Nat):Int))→Y.h.get S.nx=some (.cells (bG Fl') false 0)→S.nx<Y.nx→uG fns [mt 24 4,oq 25 (bi .sub (.t 24) (ci 1)),mt 4 25] G Y fun F' S'=>∃k',k'<k∧aOl S wb S.nx g k' ⟨F',false⟩ S':=fun G Y Fl' g0 g3 g4 hY h1 h2 h3 h4=>by
    simp only[↓aA,aB,rE,↓reduceIte,rA,g4,w2];exact⟨k - 1,by omega,rfl,hY,Fl',by omega,h1,h2,h3,h4,by refine⟨?_,?_,?_⟩<;>simp only[↓aA,aB,rE,↓reduceIte,rA,g0,g3]⟩
   by_cases hk2:x.kind=2
   ·refine aT (by simp only[↓aA,aB,rE,↓reduceIte,rA,Ac hk2]) ?_;obtain⟨i0,i1⟩:=hok x hxm hk2;obtain⟨n,hn'⟩:∃n:Nat,x.info=(n:Int):=⟨x.info.toNat,by omega⟩;have hni:n<g.infos.length:=by omega
    rw[hn'] at d2;have hif:=jD (b:=S.nx) (o:=false) hni;refine aE ?_;simp only[↓aA,aB,rE,↓reduceIte,rA,p0,p3,p4,aG,aF,gR d2,w1,aK,hif];refine eZ (fun call=>by simp only[↓aA,aB,rE,↓reduceIte,rA,dG,cS];exact aD1 (S:=X2) hfb2 (by rw[hFl];exact hni)) ?_;simp only[↓aA,aB,rE,↓reduceIte,rA];refine aE ?_;refine aGP (hfin _ _ (Fl.set n (k:Int)) (by simp only[↓aA,aB,rE,↓reduceIte,rA,p0]) (by simp only[↓aA,aB,rE,↓reduceIte,rA,p3]) (by simp only[↓aA,aB,rE,↓reduceIte,rA,p4]) (((hX.trans hX2)).put (Ag _) _) (by rw[Bn];exact hFl) (fun j hj=>?_) (by simp only;rw[T.get_set,if_pos rfl]) (by simp only;omega)) fun F' S' hh=>hh;rw[gE (by rw[hFl];exact hni),hdrop,hF j hj];simp only[mN];by_cases hjn:j=n
    ·rw[if_pos hjn,if_pos ⟨hk2,by rw[hn',hjn]⟩];omega
    ·rw[if_neg hjn,if_neg (fun h=>hjn (by omega)),show k - 1+1=k by omega]
   ·refine aO (by simp only[↓aA,aB,rE,↓reduceIte,rA,Aa hk2]) (aM ?_);try simp only[↓aA,aB,rE,↓reduceIte,rA]
    refine aE ?_;refine aGP (hfin _ X2 Fl (by simp only[↓aA,aB,rE,↓reduceIte,rA,p0]) (by simp only[↓aA,aB,rE,↓reduceIte,rA,p3]) (by simp only[↓aA,aB,rE,↓reduceIte,rA,p4]) (hX.trans hX2) hFl (fun j hj=>?_) hfb2 (by omega)) fun F' S' hh=>hh;rw[hdrop,hF j hj];simp only[mN];rw[if_neg (fun h=>hk2 h.1),show k - 1+1=k by omega]
  ·refine aO (by simp only[↓aA,aB,rE,↓reduceIte,rA,Aa (show ¬ (0:Int)≤(k:Int) - 1 by omega)]) (bN ?_);simp only[↓aA,aB,rE,↓reduceIte,rA];have hk0:k=0:=by omega
   subst hk0;exact⟨rfl,hX,Fl,hkN,hFl,hF,hfb,hfbX,by refine⟨?_,?_,?_⟩<;>simp only[↓aA,aB,rE,↓reduceIte,rA,p0,p3,p4]⟩
 rintro o ⟨F,inr⟩ S2 ⟨rfl,q0,s2,Fl,_,hFl,hF,hfb,hfb2,p0,p3,p4⟩;simp only at q0 p0 p3 p4;subst q0;have hFeq:Fl=kK g:=by
  unfold kK;refine Eg (by simp [hFl]) fun j j1 j2=>?_;have h1:=hF j (by omega);rw[Ah,Ad j1,Co] at h1;rw[Ef,List.getElem_range];exact h1
 subst hFeq;have hW2:=hW.same s2;have hn2:=aY.same (E:=dD) cO hn s2;have hi2:=aY.same (E:=dM) dF hi s2;try simp only[↓aA,aB,rE,↓reduceIte,rA]
 refine aC (bF (Q:=fun o A' X=>(o= .normal∧aPr S2 wb (.sl S.nx 0 g.infos.length g.infos.length false) nv g 0 A' X)∨(o= .ret∧Same S2 X∧(∃x∈g.nodes,mis g x)∧aD 2 A'.F= .int .i64 10)) (aC (aE ?_)) ?_)
 ·simp only[↓aA,aB,rE,↓reduceIte,rA,p0,bD,bE,aG,aF,fY hW2.1,hn2.len];refine aP (cB (aPr S2 wb (.sl S.nx 0 g.infos.length g.infos.length false) nv g) ?_ g.nodes.length _ _ ⟨rfl,Same.refl _,0,by omega,fun x hx=>(by simp at hx),by refine⟨?_,?_,?_,?_,?_⟩<;>simp only[↓aA,aB,rE,↓reduceIte,rA,p0,p3]⟩);clear p0 p3 p4;rintro k ⟨F,inr⟩ X ⟨q0,hX,i,hik,hm,p0,p3,p47,p48,p49⟩;simp only at q0 p0 p3 p47 p48 p49;subst q0;refine cD ?_;simp only[↓aA,aB,rE,↓reduceIte,rA,p48,p49];by_cases hlt:i<g.nodes.length
  ·refine aC (aT (by simp only[↓aA,aB,rE,↓reduceIte,rA,Ac (show(i:Int)<((g.nodes.length:Nat):Int) by omega)]) (aM ?_));simp only[↓aA,aB,rE,↓reduceIte,rA];obtain⟨x,hx⟩:∃x,g.nodes[i]? =some x:=⟨_,Ad hlt⟩;have hxm:=Aw hx;obtain⟨e,b,q,hia,hb,he,⟨a,bb,cc,rfl,ha,hbb,hcc⟩,hag,_⟩:=aY.at (aY.same (E:=dD) cO hn2 hX) (by decide) hx;have w1:IntKind.i64.wrap ((i:Int)+1)=((i+1:Nat):Int):=by rw[wrap_i64 (by omega) (by omega)];omega
   refine aC (aP (aC (aE ?_)));simp only[↓aA,aB,rE,↓reduceIte,rA,p47,p49,aK,hia,hag];refine cR ?_;intro X1 x1 m1 d1;refine fB (b:=X.nx) (by simp only[↓aA,aB,rE,↓reduceIte,rA]) (by simp only[↓aA,aB,rE,↓reduceIte,rA];exact bK _) d1 rfl rfl ?_;intro X2 x2 m2 d2;simp only[↓aA,aB,rE,↓reduceIte,rA];have hX2:Same X X2:=x2.same x1 (Ag _);have hS2X:=hX.trans hX2;have hWX:=hW2.same hS2X;have hla:=(ha.same hX2).len;have hsa:=cE.self ha;have hsi:=aY.self hi;refine aC (bF (Q:=fun o A' Y=>o= .normal∧A'.inr=false∧Same X2 Y∧aD 0 A'.F= .ptr wb 0∧aD 3 A'.F= .sl S.nx 0 g.infos.length g.infos.length false∧aD 47 A'.F=nv∧aD 48 A'.F= .int .i64 ((g.nodes.length:Nat):Int)∧aD 49 A'.F= .int .i64 (i:Int)∧aD 73 A'.F= .bool (decide (mis g x))) (tF ?_) ?_)
   ·by_cases hk2:x.kind=2
    ·obtain⟨i0,i1⟩:=hok x hxm hk2;obtain⟨n,hn'⟩:∃n:Nat,x.info=(n:Int):=⟨x.info.toNat,by omega⟩;have hni:n<g.infos.length:=by omega
     obtain⟨y,hy⟩:∃y,g.infos[n]? =some y:=⟨_,Ad hni⟩;obtain⟨e',b',q',hia',hb',he',rfl,hag',_⟩:=aY.at (aY.same (E:=dM) dF hi2 hS2X) (by decide) hy;have hya:infoAt g x.info=y:=by unfold infoAt;rw[hn',Ah,show((n:Int)).toNat=n from rfl,hy];rfl
     have hmis:decide (mis g x)=decide (¬ (y.player=x.player∧y.actions=((x.next.length:Nat):Int))):=by
      rw[Cl,Ey,Ey];unfold mis;rw[hya];exact⟨fun h=>h.2,fun h=>⟨hk2,h⟩⟩
     rw[hmis];rw[hn'] at d2;have hs2:cL (.agg [.int .i64 y.player,.int .i64 y.actions]) (.agg [.int .i64 y.player,.int .i64 y.actions])=true:=aD4 (fV ..) (fV ..);simp only[↓aA,aB,rE,↓reduceIte,rA,p0,p3,p47,p48,p49,bD,bO,bE,aG,aX,aF,iN d2,fY d2,gR d2,iO d2,gR hWX.1,aK,hia',hag',hla,hsa,hsi,hs2,Al,tW,aOn,cS,aLV,Ac hk2];exact Same.nx _ _
    ·rw[Aa (show ¬mis g x from fun h=>hk2 h.1)];simp only[↓aA,aB,rE,↓reduceIte,rA,p0,p3,p47,p48,p49,aG,aX,aF,iN d2,Aa hk2];exact Same.nx _ _
   clear p0 p3 p47 p48 p49;rintro o ⟨F,inr⟩ Y ⟨rfl,q0,hY,p0,p3,p47,p48,p49,pb⟩;simp only at q0 p0 p3 p47 p48 p49 pb;subst q0;have hS2Y:=hS2X.trans hY;try simp only[↓aA,aB,rE,↓reduceIte,rA]
   by_cases hmx:mis g x
   ·refine aT (by simp only[↓aA,aB,rE,↓reduceIte,rA,pb,Ac hmx]) ?_;refine cD ?_;simp only[↓aA,aB,rE,↓reduceIte,rA];refine aU ?_;simp only[↓aA,aB,rE,↓reduceIte,rA];exact .inr ⟨hS2Y,x,hxm,hmx⟩
   ·refine aO (by simp only[↓aA,aB,rE,↓reduceIte,rA,pb,Aa hmx]) (aM ?_);try simp only[↓aA,aB,rE,↓reduceIte,rA]
    refine aE ?_;simp only[↓aA,aB,rE,↓reduceIte,rA,p49,w1];refine⟨k - 1,by omega,rfl,hS2Y,i+1,by omega,fun y hy=>?_,by refine⟨?_,?_,?_,?_,?_⟩<;>simp only[↓aA,aB,rE,↓reduceIte,rA,p0,p3,p47,p48]⟩;rw[Bx,hx] at hy;rcases Be.1 hy with h | h
    ·exact hm y h
    ·simp at h;rw[h];exact hmx
  ·refine aC (aO (by simp only[↓aA,aB,rE,↓reduceIte,rA,Aa (show ¬ (i:Int)<((g.nodes.length:Nat):Int) by omega)]) (bN ?_));simp only[↓aA,aB,rE,↓reduceIte,rA];have hk0:k=0:=by omega
   subst hk0;exact .inl ⟨rfl,hX,i,hik,hm,by refine⟨?_,?_,?_,?_,?_⟩<;>simp only[↓aA,aB,rE,↓reduceIte,rA,p0,p3,p47,p48,p49]⟩
 clear p0 p3 p4;rintro o ⟨F,inr⟩ X (⟨rfl,q0,hX,i,hik,hm,p0,p3,p47,p48,p49⟩ | ⟨rfl,hX,hmx,p2⟩);rotate_left
 ·simp only at p2;simp only[↓aA,aB,rE,↓reduceIte,rA,p2];unfold aBy;rw[if_pos hmx];exact⟨rfl,s2.trans hX⟩
 simp only at q0 p0 p3;subst q0;rw[Bg (by omega)] at hm;unfold aBy;rw[if_neg (fun⟨x,h1,h2⟩=>hm x h1 h2)];have sX:=s2.trans hX;have hfX:X.h.get S.nx=some (.cells (bG (kK g)) false 0):=by rw[hX.2 _ hfb2];exact hfb
 have hrow:=mQ (N:=g.infos.length) hfX (Af hfb2 hX.1) hFl;try simp only[↓aA,aB,rE,↓reduceIte,rA]
 refine jB ?_;simp only[↓aA,aB,rE,↓reduceIte,rA,p3];refine bB ?_;simp only[↓aA,aB,rE,↓reduceIte,rA];refine aN (aDJ H hrow (by omega)) ?_;rintro _ Y ⟨rfl,hY⟩;rw[hY];try simp only[↓aA,aB,rE,↓reduceIte,rA]
 by_cases h0:(0:Int)∈kK g
 ·rw[if_pos h0];refine aT (by simp only[↓aA,aB,rE,↓reduceIte,rA,Ac h0]) ?_;refine cD ?_;simp only[↓aA,aB,rE,↓reduceIte,rA];refine aU ?_;simp only[↓aA,aB,rE,↓reduceIte,rA];exact sX
 rw[if_neg h0];refine aO (by simp only[↓aA,aB,rE,↓reduceIte,rA,Aa h0]) (aM ?_);try simp only[↓aA,aB,rE,↓reduceIte,rA]
 refine jB ?_;simp only[↓aA,aB,rE,↓reduceIte,rA,p3];refine bB ?_;simp only[↓aA,aB,rE,↓reduceIte,rA];refine aN (aF4 H hrow (by omega)) ?_;rintro _ Y ⟨⟨t,rfl,ht⟩,hY⟩;simp only[↓aA,aB,rE,↓reduceIte,rA,fJ];cases t with
 | false=>
  rw[if_neg (fun h=>by have:=ht.2 h;cases this)];refine aT (by simp only[↓aA,aB,rE,↓reduceIte,rA];rfl) ?_;refine cD ?_;simp only[↓aA,aB,rE,↓reduceIte,rA];refine aU ?_;simp only[↓aA,aB,rE,↓reduceIte,rA];exact sX.trans hY
 | true=>
  rw[if_pos (ht.1 rfl)];refine aO (by simp only[↓aA,aB,rE,↓reduceIte,rA];rfl) (aM ?_);try simp only[↓aA,aB,rE,↓reduceIte,rA]
  refine cD ?_;simp only[↓aA,aB,rE,↓reduceIte,rA];refine aU ?_;simp only[↓aA,aB,rE,↓reduceIte,rA];exact sX.trans hY
def tH(g:bM):Prop:=g.players<1∨(4:Int)<g.players∨((g.nodes.length:Nat):Int)<1∨(2000:Int)<((g.nodes.length:Nat):Int)∨(200:Int)<((g.infos.length:Nat):Int)
instance badGDec(g:bM):Decidable (tH g):=by unfold tH;exact inferInstance
def nE(ps:Int)(ni:Nat):List bS→Int
 | []=>0
 | x::l=>if iI ps ni x≠0 then iI ps ni x else nE ps ni l
def uW(g:bM):Option (List fR):=jL g.nodes.length (jX g) (g.nodes.length+1) 0 (-1) 0
noncomputable def gM(g:bM):Int:=
 if tH g then 2 else if nE g.players g.infos.length g.nodes≠0 then nE g.players g.infos.length g.nodes else
 match uW g with
 | none=>9
 | some T=>if T.length≠g.nodes.length then 9 else if 40<aBY 0 T then 5 else aBy g
theorem jT{ps:Int}{ni:Nat}:∀ {l:List bS},nE ps ni l=0→∀x∈l,iI ps ni x=0
 | [],_,x,hx=>by cases hx
 | y::l,h,x,hx=>by
  simp only[nE] at h;split at h
  ·rename_i hne;exact absurd h hne
  ·rename_i he;rcases Bl.1 hx with rfl | hx
   ·exact Decidable.not_not.1 he
   ·exact jT h x hx
theorem aD7{ps:Int}{ni:Nat}{x:bS}(h:iI ps ni x=0):x.next.length≤1000:=by
 unfold iI at h;split at h
 ·split at h
  ·cases h
  ·rename_i hb;unfold tC at hb;omega
 ·split at h
  ·split at h
   ·cases h
   ·rename_i hb;unfold xM at hb;omega
  ·split at h
   ·split at h
    ·cases h
    ·rename_i hb;unfold tI at hb;omega
   ·cases h
theorem aEy{ps:Int}{ni:Nat}{x:bS}(h:iI ps ni x=0)(h2:x.kind=2):0≤x.info∧x.info<ni:=by
 unfold iI at h;rw[if_neg (by omega),if_pos h2] at h;split at h
 ·cases h
 ·split at h
  ·cases h
  ·omega
theorem xO{S:St}{b p:Nat}{w:AV}{cs:List AV}{o:Bool}{sz:Nat}(h:S.h.get b=some (.cells cs o sz))(hp:p<cs.length):kR (.ptr b p) 1 [w] S=some (.undef,⟨S.h.set b (some (.cells (cs.set p w) o sz)),S.nx⟩):=by
 have hput:put cs p [w]=some (cs.set p w):=by
  rw[put_eq,if_pos (by simp;omega)];congr 1;rw[List.set_eq_take_append_cons_drop,if_pos hp];simp
 simp only[kR,pF,h,aJ,yK,hput];rfl
theorem aCk{W:Nat→Prop}{h0 h':T AB}{base m i:Nat}{l:List AO}{F:Fr}{S:St}{ps ps':List iD}{last:Option Nat}{Q:Fr→St→List iD→Prop}{x v:cK}{b p sz:Nat}{w:AV}{cs:List AV}{o:Bool}(hfl:cG m ps S.h=(ps',h'))(h:lP last m=true)(hx:x.val F= .ptr b p)(hv:(v.val F).cells=some [w])(hb:h'.get b=some (.cells cs o sz))(hp:p<cs.length)(hW:W b)
  (hr:fW fns W h0 base l (i+1) F ⟨h'.set b (some (.cells (cs.set p w) o sz)),S.nx⟩ ps' (some i) Q):fW fns W h0 base (⟨none,.x (.st 1 x v),none,m⟩::l) i F S ps last Q:=by
 refine aAz (S1:=⟨h'.set b (some (.cells (cs.set p w) o sz)),S.nx⟩) h ?_ ?_ ?_
 ·rw[hfl,hv,aJ,hx];exact xO (S:=⟨h',S.nx⟩) hb hp
 ·rw[hfl];refine⟨Ag _,fun c hc hw=>?_⟩;simp only;rw[T.get_set,if_neg (show ¬c=b from fun e=>hw (by rw[e];exact hW))]
 ·rw[hfl];exact hr
theorem xT{h:T AB}{b:Nat}{x0 x1 x2:AV}{o:Bool}{s:Nat}(hb:h.get b=some (.cells [x0,x1,x2] o s)):cW (.ptr b (0+0)) false 1 h=some x0:=ldc hb rfl
theorem fL{h:T AB}{b:Nat}{x0 x1 x2:AV}{o:Bool}{s:Nat}(hb:h.get b=some (.cells [x0,x1,x2] o s)):cW (.ptr b (0+1)) false 1 h=some x1:=ldc hb rfl
theorem xP{h:T AB}{b:Nat}{x0 x1 x2:AV}{o:Bool}{s:Nat}(hb:h.get b=some (.cells [x0,x1,x2] o s)):cW (.ptr b (0+2)) false 1 h=some x2:=ldc hb rfl
theorem gS{h:T AB}{b:Nat}{x0 x1 x2:AV}{o:Bool}{s:Nat}(hb:h.get b=some (.cells [x0,x1,x2] o s)):cW (.ptr b 0) true 3 h=some (.agg [x0,x1,x2]):=aIV hb rfl
theorem yM{m j id:Nat}{bl:AB}{ps:List iD}{h:T AB}(ht:Nat.testBit m j=false):cG m (⟨j,id,bl⟩::ps) h=(⟨j,id,bl⟩::(cG m ps h).1,(cG m ps h).2):=by
 conv=>lhs;unfold cG
 rw[show Nat.testBit m (iD.mk j id bl).i=false from ht,aR]
theorem aC2{m j id:Nat}{bl:AB}{ps:List iD}{h:T AB}(ht:Nat.testBit m j=true):cG m (⟨j,id,bl⟩::ps) h=cG m ps (h.set id (some bl)):=by
 conv=>lhs;unfold cG
 rw[show Nat.testBit m (iD.mk j id bl).i=true from ht,aL]
theorem aC5{W:Nat→Prop}{h0:T AB}{base i:Nat}{l:List AO}{F:Fr}{S:St}{ps:List iD}{last:Option Nat}{Q:Fr→St→List iD→Prop}{d:Option Nat}{t s bytes n:Nat}{z:List AV}{lo co:cK}(hl:fA (lo.val F)=some n)(hc:fA (co.val F)=some n)(h1:n≤room)(h2:bytes * n≤room)
  (hr:fW fns W h0 base l (i+1) (cI d F (.sl (base+i) 0 n n false)) S (⟨i,base+i,.cells (repeatL z n) false 0⟩::ps) last Q):aIe fns W h0 base (tE (.mkSlice t s bytes z lo co) F (base+i)) d l i F S ps last Q:=by
 rw[rC hl hc h1 h2,lN];exact hr
theorem gO.full{sel:fR→Int}{P P':List Int}{T:List fR}(h:gO sel P P' T 0)(hl:T.length=P.length):P'=T.map sel:=by
 refine Eg (by rw[Bc,h.1,hl]) fun j j1 j2=>?_;have h1:=h.2 j;rw[Bc] at j2;unfold vQ at h1;rw[if_pos (Cb _),Nat.sub_zero,Ad j2,Ah,Ad j1] at h1;rw[Ef];exact h1
theorem aHw{g:bM}{T:List fR}(h:uW g=some T):∃e L,T=(-1,0,e)::L:=by
 unfold uW at h;simp only[jL] at h;split at h
 ·obtain⟨L,_,rfl⟩:=Av.1 h;exact⟨_,_,rfl⟩
 ·cases h
theorem aLh(m:Int)(L:List fR):aH0 m (L.map (·.2.1))=aBY m L:=by
 unfold aH0 aBY;rw[List.foldl_map]
theorem aM9{P:T AB→Prop}{h:T AB}{w b1 b2 b3:Nat}{c1 c2 c3 z:Option AB}(n1:w≠b1)(n2:w≠b2)(n3:w≠b3)(n4:b1≠b2)(n5:b1≠b3)(n6:b2≠b3)
  (H:∀h':T AB,h'.get w=c3→h'.get b1=z→h'.get b2=z→h'.get b3=z→(∀c,c≠w→c≠b1→c≠b2→c≠b3→h'.get c=h.get c)→P h'):P ((((((h.set b1 z).set w c1).set b2 z).set w c2).set b3 z).set w c3):=by
 refine H _ ?_ ?_ ?_ ?_ fun c h1 h2 h3 h4=>?_
 ·rw[T.get_set,if_pos rfl]
 ·rw[T.get_set,if_neg (Cv n1),T.get_set,if_neg n5,T.get_set,if_neg (Cv n1),T.get_set,if_neg n4,T.get_set,if_neg (Cv n1),T.get_set,if_pos rfl]
 ·rw[T.get_set,if_neg (Cv n2),T.get_set,if_neg n6,T.get_set,if_neg (Cv n2),T.get_set,if_pos rfl]
 ·rw[T.get_set,if_neg (Cv n3),T.get_set,if_pos rfl]
 ·rw[T.get_set,if_neg h1,T.get_set,if_neg h4,T.get_set,if_neg h1,T.get_set,if_neg h3,T.get_set,if_neg h1,T.get_set,if_neg h2]
def aP2(S2:St)(gb wb:Nat)(nv:AV)(g:bM)(k:Nat)(A:bR)(X:St):Prop:=A.inr=false∧Same S2 X∧∃i,i+k=g.nodes.length∧nE g.players g.infos.length g.nodes=nE g.players g.infos.length (g.nodes.drop i)∧aD 1 A.F= .ptr gb 0∧aD 4 A.F= .ptr wb 0∧aD 40 A.F=nv∧aD 41 A.F= .int .i64 ((g.nodes.length:Nat):Int)∧aD 42 A.F= .int .i64 (i:Int)
def aOv(S S':St)(p nv iv:AV)(g:bM):Prop:=∃ (wb pb db lb:Nat) (T:List fR),p= .ptr wb 0∧S.nx≤wb∧uW g=some T∧T.length=g.nodes.length∧WK S' wb pb db lb g.nodes.length g.players nv iv (T.map (·.1)) (T.map (·.2.1)) (T.map (·.2.2))
theorem aGL{S:St}{nv iv:AV}{g:bM}(H:Has fns)(hn:aY 6 dD S nv g.nodes)(hi:aY 2 dM S iv g.infos)(hln:g.nodes.length≤100000):
  fP fns (.fn 42 [] []) [.agg [.int .i64 g.players,nv,iv]] S fun r S'=>Same S S'∧∃p,r= .tup [p,.int .i64 (gM g)]∧(gM g=0→aOv S S' p nv iv g):=by
 refine cC H.f42 (by simp) ?_;simp only[↓sU,sD,rE,↓reduceIte,rA];refine cD ?_;refine dJ (by simp only[↓sU,sD,rE,↓reduceIte,rA];exact bK _) ?_;intro S1 s1 n1 c1;simp only[↓sU,sD,rE,↓reduceIte,rA];have hnl:=hn.len;have hil:=hi.len;refine aC (aC (bF (Q:=fun o A' X=>o= .normal∧A'.inr=false∧X=S1∧aD 1 A'.F= .ptr S.nx 0∧aD 35 A'.F= .bool (decide (tH g))) (aE ?_) ?_))
 ·by_cases h1:g.players<1
  ·rw[Ac (show tH g from .inl h1)];simp only[↓sU,sD,rE,↓reduceIte,rA,aG,aF,xT c1,fL c1,xP c1,hnl,hil,Ac h1]
  by_cases h2:(4:Int)<g.players
  ·rw[Ac (show tH g from .inr (.inl h2))];simp only[↓sU,sD,rE,↓reduceIte,rA,aG,aF,xT c1,fL c1,xP c1,hnl,hil,Aa h1,Ac h2]
  by_cases h3:((g.nodes.length:Nat):Int)<1
  ·rw[Ac (show tH g from .inr (.inr (.inl h3)))];simp only[↓sU,sD,rE,↓reduceIte,rA,aG,aF,xT c1,fL c1,xP c1,hnl,hil,Aa h1,Aa h2,Ac h3]
  by_cases h4:(2000:Int)<((g.nodes.length:Nat):Int)
  ·rw[Ac (show tH g from .inr (.inr (.inr (.inl h4))))];simp only[↓sU,sD,rE,↓reduceIte,rA,aG,aF,xT c1,fL c1,xP c1,hnl,hil,Aa h1,Aa h2,Aa h3,Ac h4]
  by_cases h5:(200:Int)<((g.infos.length:Nat):Int)
  ·rw[Ac (show tH g from .inr (.inr (.inr (.inr h5))))];simp only[↓sU,sD,rE,↓reduceIte,rA,aG,aF,xT c1,fL c1,xP c1,hnl,hil,Aa h1,Aa h2,Aa h3,Aa h4,Ac h5]
  ·rw[Aa (show ¬tH g by unfold tH;omega)];simp only[↓sU,sD,rE,↓reduceIte,rA,aG,aF,xT c1,fL c1,xP c1,hnl,hil,Aa h1,Aa h2,Aa h3,Aa h4,Aa h5]
 rintro o ⟨F,inr⟩ X ⟨rfl,q0,hX,p1,pb⟩;simp only at q0 p1 pb;subst q0;rw[hX];clear hX;try simp only[↓sU,sD,rE,↓reduceIte,rA]
 by_cases bad:tH g
 ·have hE:gM g=2:=by unfold gM;rw[if_pos bad]
  rw[hE];refine aT (by simp only[↓sU,sD,rE,↓reduceIte,rA,pb,Ac bad]) ?_;refine cD ?_;simp only[↓sU,sD,rE,↓reduceIte,rA];refine aU ?_;simp only[↓sU,sD,rE,↓reduceIte,rA];exact⟨s1,_,rfl,fun h=>by cases h⟩
 refine aO (by simp only[↓sU,sD,rE,↓reduceIte,rA,pb,Aa bad]) (aM ?_);try simp only[↓sU,sD,rE,↓reduceIte,rA]
 have hps:1≤g.players∧g.players≤4:=by unfold tH at bad;omega
 have hN:g.nodes.length≤2000:=by unfold tH at bad;omega
 have hN0:0<g.nodes.length:=by unfold tH at bad;omega
 have hI:g.infos.length≤200:=by unfold tH at bad;omega
 have hbd:∀ (F:Fr) (h:T AB),aD 36 F= .agg [.int .i64 g.players,nv,iv]→hJ (.build [.int .i64 0,.nilsl,.nilsl,.nilsl,.nilsl,.nilsl] [(0,3,.t 36)]) F h=some (.agg [.int .i64 g.players,nv,iv,.nilsl,.nilsl,.nilsl]):=fun F h he=>by
  show(aW (fI _ (eY F [(0,3,.t 36)])) fun cs=>some (AV.agg cs))=_;simp only[eY,show(cK.t 36).val F= .agg [.int .i64 g.players,nv,iv] from he];rfl
 refine cD ?_;simp only[↓aA,aB,rE,↓reduceIte,rA,p1,gS c1,hbd];refine dJ (by simp only[↓aA,aB,rE,↓reduceIte];exact bK _) ?_;intro S2 s2 n2 c2;simp only[↓sU,sD,rE,↓reduceIte,rA];have sS2:Same S S2:=s1.trans s2;have hW:zZ S2 S1.nx g.players nv iv .nilsl .nilsl .nilsl:=⟨c2,by omega⟩;have hn2:=aY.same (E:=dD) cO hn sS2;have gl2:S.nx<S2.nx:=by omega
 have c1':S2.h.get S.nx=some (.cells [.int .i64 g.players,nv,iv] false 0):=by rw[s2.2 _ (by omega)];exact c1
 refine aC (bF (Q:=fun o A' X=>(o= .normal∧aP2 S2 S.nx S1.nx nv g 0 A' X)∨(o= .ret∧Same S2 X∧nE g.players g.infos.length g.nodes≠0∧aD 2 A'.F= .nilp∧aD 3 A'.F= .int .i64 (nE g.players g.infos.length g.nodes))) (aC (aE ?_)) ?_)
 ·simp only[↓sU,sD,rE,↓reduceIte,rA,p1,aG,aF,fL c1',hnl];refine aP (cB (aP2 S2 S.nx S1.nx nv g) ?_ g.nodes.length _ _ ⟨rfl,Same.refl _,0,by omega,by rw[Co],by refine⟨?_,?_,?_,?_,?_⟩<;>simp only[↓sU,sD,rE,↓reduceIte,rA,p1]⟩);clear p1 pb;rintro k ⟨F,inr⟩ X ⟨q0,hX,i,hik,hE,p1,p4,p40,p41,p42⟩;simp only at q0 p1 p4 p40 p41 p42;subst q0;refine cD ?_;simp only[↓sU,sD,rE,↓reduceIte,rA,p41,p42];by_cases hlt:i<g.nodes.length
  ·refine aC (aT (by simp only[↓sU,sD,rE,↓reduceIte,rA,Ac (show(i:Int)<((g.nodes.length:Nat):Int) by omega)]) (aM ?_));simp only[↓sU,sD,rE,↓reduceIte,rA];obtain⟨x,hx⟩:∃x,g.nodes[i]? =some x:=⟨_,Ad hlt⟩;obtain⟨e,b,q,hia,hb,he,hNE,hag,_⟩:=aY.at (aY.same (E:=dD) cO hn2 hX) (by decide) hx;have hdrop:g.nodes.drop i=x::g.nodes.drop (i+1):=by
    rw[Dp hlt];congr 1;rw[Ad hlt] at hx;exact Cf hx
   have w1:IntKind.i64.wrap ((i:Int)+1)=((i+1:Nat):Int):=by rw[wrap_i64 (by omega) (by omega)];omega
   refine aC (aP (aC (aE ?_)));simp only[↓aA,aB,rE,↓reduceIte,rA,p40,p42,aK,hia,hag];refine cR ?_;intro X1 x1 m1 d1;refine fB (b:=X.nx) (by simp only[↓aA,aB,rE,↓reduceIte,rA]) (by simp only[↓aA,aB,rE,↓reduceIte,rA];exact bK _) d1 rfl he ?_;intro X2 x2 m2 d2;simp only[↓aA,aB,rE,↓reduceIte,rA];have hX2:Same X X2:=x2.same x1 (Ag _);refine cD ?_;simp only[↓sU,sD,rE,↓reduceIte,rA,p4,aIV d2 he];refine bB ?_;simp only[↓sU,sD,rE,↓reduceIte,rA];refine aN (aJ4 H (cO hNE hX2) (hW.same (hX.trans hX2)) hps hil (by omega) (aY.self hi)) ?_;rintro _ Y ⟨rfl,hY⟩;have hSY:=(hX.trans hX2).trans hY;rw[hdrop] at hE;simp only[nE] at hE;try simp only[↓sU,sD,rE,↓reduceIte,rA]
   refine cD ?_;simp only[↓sU,sD,rE,↓reduceIte,rA];by_cases he0:iI g.players g.infos.length x=0
   ·rw[if_neg (fun h=>h he0)] at hE;refine aO (by simp only[↓sU,sD,rE,↓reduceIte,rA,Aa (show ¬iI g.players g.infos.length x≠0 from fun h=>h he0)]) (aM ?_);try simp only[↓sU,sD,rE,↓reduceIte,rA]
    refine aE ?_;simp only[↓sU,sD,rE,↓reduceIte,rA,p42,w1];exact⟨k - 1,by omega,rfl,hSY,i+1,by omega,hE,by refine⟨?_,?_,?_,?_,?_⟩<;>simp only[↓sU,sD,rE,↓reduceIte,rA,p1,p4,p40,p41]⟩
   ·rw[if_pos he0] at hE;refine aT (by simp only[↓sU,sD,rE,↓reduceIte,rA,Ac (show iI g.players g.infos.length x≠0 from he0)]) ?_;refine cD ?_;simp only[↓sU,sD,rE,↓reduceIte,rA];refine aU ?_;simp only[↓sU,sD,rE,↓reduceIte,rA];exact .inr ⟨hSY,by rw[hE];exact he0,by rw[hE]⟩
  ·refine aC (aO (by simp only[↓sU,sD,rE,↓reduceIte,rA,Aa (show ¬ (i:Int)<((g.nodes.length:Nat):Int) by omega)]) (bN ?_));simp only[↓sU,sD,rE,↓reduceIte,rA];have hk0:k=0:=by omega
   subst hk0;exact .inl ⟨rfl,hX,i,hik,hE,by refine⟨?_,?_,?_,?_,?_⟩<;>simp only[↓sU,sD,rE,↓reduceIte,rA,p1,p4,p40,p41,p42]⟩
 clear p1 pb;rintro o ⟨F,inr⟩ X (⟨rfl,q0,hX,i,hik,hE,p1,p4,p40,p41,p42⟩ | ⟨rfl,hX,hne,p2,p3⟩);rotate_left
 ·simp only at p2 p3;simp only[↓sU,sD,rE,↓reduceIte,rA,p2,p3];have hE:gM g=nE g.players g.infos.length g.nodes:=by unfold gM;rw[if_neg bad,if_pos hne]
  rw[hE];exact⟨sS2.trans hX,_,rfl,fun h=>absurd h hne⟩
 simp only at q0 p1 p4;subst q0;rw[Et (by omega)] at hE;have hform:gM g=match uW g with | none=>9 | some T=>if T.length≠g.nodes.length then 9 else if 40<aBY 0 T then 5 else aBy g:=by
  conv=>lhs;unfold gM
  rw[if_neg bad,if_neg (fun h=>h hE)]
  first | done | (cases uW g<;>rfl)
 have sX:=sS2.trans hX;have cX:X.h.get S.nx=some (.cells [.int .i64 g.players,nv,iv] false 0):=by rw[hX.2 _ gl2];exact c1'
 have wX:=(hW.same hX).1;have ltw:=(hW.same hX).2;have ltg:S.nx<X.nx:=Af gl2 hX.1;have nwg:¬S.nx=S1.nx:=by omega
 try simp only[↓sU,sD,rE,↓reduceIte,rA]
 refine aC (qE (fun b=>b=S1.nx) ?_);intro X1 x1 hx1 hm1;simp only[↓sU,sD,rE,↓reduceIte,rA,p1,p4,aG,aX,aF,fL cX,ltg,nwg,Aq,hnl,aY.self hn];refine aC5 (n:=g.nodes.length) (by simp only[↓sU,sD,rE,↓reduceIte,rA,aK]) (by simp only[↓sU,sD,rE,↓reduceIte,rA,aK]) (by unfold room;omega) (by unfold room;omega) ?_;simp only[↓sU,sD,rE,↓reduceIte,rA,p1,p4,aG,aX,aF,fL cX,ltg,nwg,Aq,hnl,aY.self hn];refine aC5 (n:=g.nodes.length) (by simp only[↓sU,sD,rE,↓reduceIte,rA,aK]) (by simp only[↓sU,sD,rE,↓reduceIte,rA,aK]) (by unfold room;omega) (by unfold room;omega) ?_;simp only[↓sU,sD,rE,↓reduceIte,rA,p1,p4,aG,aX,aF,fL cX,ltg,nwg,Aq,hnl,aY.self hn];refine aC5 (n:=g.nodes.length) (by simp only[↓sU,sD,rE,↓reduceIte,rA,aK]) (by simp only[↓sU,sD,rE,↓reduceIte,rA,aK]) (by unfold room;omega) (by unfold room;omega) ?_;simp only[↓sU,sD,rE,↓reduceIte,rA,p1,p4,bD,bO,bE,aG,aX,aF];have hz:repeatL [AV.int .i64 0] g.nodes.length=bG (List.replicate g.nodes.length 0):=by rw[repeatL_one];simp [bG]
 rw[hz];have n6:¬S1.nx=X.nx+6:=by omega
 have n10:¬S1.nx=X.nx+10:=by omega
 have n14:¬S1.nx=X.nx+14:=by omega
 refine aCk (b:=S1.nx) (p:=3) (w:=.sl (X.nx+6) 0 g.nodes.length g.nodes.length false) (cs:=[.int .i64 g.players,nv,iv,.nilsl,.nilsl,.nilsl]) (o:=false) (sz:=0) ((yM (show Nat.testBit 98425 14=false by decide)).trans (by rw[yM (show Nat.testBit 98425 10=false by decide),aC2 (show Nat.testBit 98425 6=true by decide),cA])) rfl (by simp only[↓sU,sD,rE,↓reduceIte,rA]) (by simp only[↓sU,sD,rE,↓reduceIte,rA];rfl) (by rw[T.get_set,if_neg n6,hx1];exact wX) (by simp) rfl ?_;simp only[↓sU,sD,rE,↓reduceIte,rA,p1,p4,bD,bO,bE,aG,aX,aF];refine aCk (b:=S1.nx) (p:=4) (w:=.sl (X.nx+10) 0 g.nodes.length g.nodes.length false) (cs:=[.int .i64 g.players,nv,iv,.sl (X.nx+6) 0 g.nodes.length g.nodes.length false,.nilsl,.nilsl]) (o:=false) (sz:=0) ((yM (show Nat.testBit 1017851 14=false by decide)).trans (by rw[aC2 (show Nat.testBit 1017851 10=true by decide),cA])) rfl (by simp only[↓sU,sD,rE,↓reduceIte,rA]) (by simp only[↓sU,sD,rE,↓reduceIte,rA];rfl) (by rw[T.get_set,if_neg n10,T.get_set,if_pos rfl];rfl) (by simp) rfl ?_;simp only[↓sU,sD,rE,↓reduceIte,rA,p1,p4,bD,bO,bE,aG,aX,aF];refine aCk (b:=S1.nx) (p:=5) (w:=.sl (X.nx+14) 0 g.nodes.length g.nodes.length false) (cs:=[.int .i64 g.players,nv,iv,.sl (X.nx+6) 0 g.nodes.length g.nodes.length false,.sl (X.nx+10) 0 g.nodes.length g.nodes.length false,.nilsl]) (o:=false) (sz:=0) ((aC2 (show Nat.testBit 8388607 14=true by decide)).trans (cA _ _)) rfl (by simp only[↓sU,sD,rE,↓reduceIte,rA]) (by simp only[↓sU,sD,rE,↓reduceIte,rA];rfl) (by rw[T.get_set,if_neg n14,T.get_set,if_pos rfl];rfl) (by simp) rfl ?_;simp only[↓sU,sD,rE,↓reduceIte,rA];refine aM9 (P:=fun h'=>mA fns _ _ ⟨h',X1.nx⟩ _) n6 n10 n14 (by omega) (by omega) (by omega) ?_;intro Zh gw g1 g2 g3 gr;have hm1:X1.nx=X.nx+24:=hm1;have sZ:Same S ⟨Zh,X1.nx⟩:=⟨by show S.nx≤X1.nx;have:=sX.1;omega,fun c hc=>by
  have:=sX.1;show Zh.get c=S.h.get c;rw[gr c (by omega) (by omega) (by omega) (by omega),hx1];exact sX.2 c hc⟩
 have cZ:Zh.get S.nx=some (.cells [.int .i64 g.players,nv,iv] false 0):=by
  rw[gr _ (by omega) (by omega) (by omega) (by omega),hx1];exact cX
 have hK:WK ⟨Zh,X1.nx⟩ S1.nx (X.nx+6) (X.nx+10) (X.nx+14) g.nodes.length g.players nv iv (List.replicate g.nodes.length 0) (List.replicate g.nodes.length 0) (List.replicate g.nodes.length 0):=⟨⟨gw,by show S1.nx<X1.nx;omega⟩,g1,g2,g3,Bh ..,Bh ..,Bh ..,by show _<X1.nx;omega,by show _<X1.nx;omega,by show _<X1.nx;omega⟩;generalize hZ:(⟨Zh,X1.nx⟩:St)=Z at *;have cZ:Z.h.get S.nx=some (.cells [.int .i64 g.players,nv,iv] false 0):=by rw[←hZ];exact cZ
 have lz:S1.nx<Z.nx:=hK.w.2;have hall:=jT hE;refine jB ?_;simp only[↓sU,sD,rE,↓reduceIte,rA,p1,p4,aG,aF,fL cZ];refine bB ?_;simp only[↓sU,sD,rE,↓reduceIte,rA];rw[show Int.negSucc 0=(-1:Int) from rfl];refine aN (aJM (rv:=nv) H hn (by omega) (by have:=sX.1;omega) (by have:=sX.1;omega) (by have:=sX.1;omega) (by omega) (by omega) (by omega) n6 n10 n14 hN (fun x hx=>aD7 (hall x hx)) (g.nodes.length+1) (at_:=0) (p:= -1) (d:=0) (by omega) (by decide) (by decide) (by omega) sZ hK (by rw[Co];exact hn)) ?_;rintro r Y ⟨hY,P',D',L',hKY,hres⟩;have sY:Same S Y:=hY.same sZ (by have:=sX.1;omega) (by have:=sX.1;omega) (by have:=sX.1;omega);have hres':match uW g with | some T=>(∃v,r= .tup [v,.bool true]∧aY 6 dD S v (g.nodes.drop (0+T.length)))∧gO (·.1) (List.replicate g.nodes.length 0) P' T 0∧gO (·.2.1) (List.replicate g.nodes.length 0) D' T 0∧gO (·.2.2) (List.replicate g.nodes.length 0) L' T 0 | none=>r= .tup [.nilsl,.bool false]:=hres
 clear hres;cases hw:uW g with
 | none=>
  rw[hw] at hres' hform;subst hres';simp only at hform;rw[hform];simp only[↓sU,sD,rE,↓reduceIte,rA,ex0,ex1];refine cD ?_;simp only[↓sU,sD,rE,↓reduceIte,rA,fJ,Bs];refine aT (by simp only[↓sU,sD,rE,↓reduceIte,rA]) ?_;refine cD ?_;simp only[↓sU,sD,rE,↓reduceIte,rA];refine aU ?_;simp only[↓sU,sD,rE,↓reduceIte,rA];exact⟨sY,_,rfl,fun h=>by cases h⟩
 | some T=>
  rw[hw] at hres' hform;obtain⟨⟨v,rfl,hv⟩,rP,rD,rL⟩:=hres';simp only at hform;have hTl:=(xH (show jL g.nodes.length (jX g) (g.nodes.length+1) 0 (-1) 0=some T from hw)).1;have hvl:=hv.len;rw[Cy] at hvl;simp only[↓sU,sD,rE,↓reduceIte,rA,ex0,ex1];refine cD ?_;simp only[↓sU,sD,rE,↓reduceIte,rA,fJ,Bm,hvl];by_cases hT:T.length=g.nodes.length;rotate_left
  ·rw[hform,if_pos hT];refine aT (by simp only[↓sU,sD,rE,↓reduceIte,rA,Ac (show(0:Int)<((g.nodes.length - (0+T.length):Nat):Int) by omega)]) ?_;refine cD ?_;simp only[↓sU,sD,rE,↓reduceIte,rA];refine aU ?_;simp only[↓sU,sD,rE,↓reduceIte,rA];exact⟨sY,_,rfl,fun h=>by cases h⟩
  rw[if_neg (fun h=>h hT)] at hform;refine aO (by simp only[↓sU,sD,rE,↓reduceIte,rA,Aa (show ¬ (0:Int)<((g.nodes.length - (0+T.length):Nat):Int) by omega)]) (aM ?_);try simp only[↓sU,sD,rE,↓reduceIte,rA]
  have eP:=rP.full (by rw[Bh];exact hT);have eD:=rD.full (by rw[Bh];exact hT);have eL:=rL.full (by rw[Bh];exact hT);subst eP eD eL;have hrow:=mQ hKY.gd hKY.bd hKY.ld;obtain⟨e,L,hTe⟩:=aHw hw;have hmax:aH0 ((T.map (·.2.1)).getD 0 0) ((T.map (·.2.1)).drop 1)=aBY 0 T:=by
   rw[hTe];show aH0 0 (L.map (·.2.1))=aBY 0 ((-1,0,e)::L);rw[aLh,aEg];rfl
  refine jB ?_;simp only[↓sU,sD,rE,↓reduceIte,rA,p1,p4,bD,bE,aG,aF,iM hKY.w.1];refine bB ?_;simp only[↓sU,sD,rE,↓reduceIte,rA];refine aN (aMk H hrow (by rw[Bc];omega) (by rw[Bc];omega)) ?_;rintro _ Y2 ⟨rfl,hY2⟩;rw[hY2,hmax];simp only[↓sU,sD,rE,↓reduceIte,rA];by_cases h40:40<aBY 0 T
  ·rw[hform,if_pos h40];refine aT (by simp only[↓sU,sD,rE,↓reduceIte,rA,Ac h40]) ?_;refine cD ?_;simp only[↓sU,sD,rE,↓reduceIte,rA];refine aU ?_;simp only[↓sU,sD,rE,↓reduceIte,rA];exact⟨sY,_,rfl,fun h=>by cases h⟩
  rw[if_neg h40] at hform;refine aO (by simp only[↓sU,sD,rE,↓reduceIte,rA,Aa h40]) (aM ?_);try simp only[↓sU,sD,rE,↓reduceIte,rA]
  refine cD ?_;simp only[↓sU,sD,rE,↓reduceIte,rA,p1,p4];refine bB ?_;simp only[↓sU,sD,rE,↓reduceIte,rA];refine aN (aKj H hKY.w (aY.same (E:=dD) cO hn sY) (aY.same (E:=dM) dF hi sY) hN hI (fun x hx h2=>aEy (hall x hx) h2)) ?_;rintro _ Y3 ⟨rfl,hY3⟩;try simp only[↓sU,sD,rE,↓reduceIte,rA,p4]
  refine aU ?_;simp only[↓sU,sD,rE,↓reduceIte,rA];rw[hform];refine⟨sY.trans hY3,_,rfl,fun _=>⟨S1.nx,_,_,_,T,rfl,by omega,hw,hT,⟨hKY.w.same hY3,by rw[hY3.2 _ hKY.bp];exact hKY.gp,by rw[hY3.2 _ hKY.bd];exact hKY.gd,by rw[hY3.2 _ hKY.bl];exact hKY.gl,hKY.lp,hKY.ld,hKY.ll,Af hKY.bp hY3.1,Af hKY.bd hY3.1,Af hKY.bl hY3.1⟩⟩⟩
theorem aEA{S:St}{nv iv:AV}{g:bM}(H:Has fns)(hn:aY 6 dD S nv g.nodes)(hi:aY 2 dM S iv g.infos)(hln:g.nodes.length≤100000):
  fP fns (.fn 22 [] []) [.agg [.int .i64 g.players,nv,iv]] S fun r S'=>r= .int .i64 (gM g)∧Same S S':=by
 refine cC H.f22 (by simp) ?_;simp only[↓sU,sD,rE,↓reduceIte,rA];refine cD ?_;refine dJ (by simp only[↓sU,sD,rE,↓reduceIte,rA];exact bK _) ?_;intro S1 s1 n1 c1;simp only[↓sU,sD,rE,↓reduceIte,rA];refine cD ?_;simp only[↓sU,sD,rE,↓reduceIte,rA,gS c1];refine bB ?_;simp only[↓sU,sD,rE,↓reduceIte,rA];refine aN (aGL H (aY.same (E:=dD) cO hn s1) (aY.same (E:=dM) dF hi s1) hln) ?_;rintro _ X ⟨hX,p,rfl,_⟩;simp only[↓sU,sD,rE,↓reduceIte,rA,ex0,ex1];refine cD ?_;simp only[↓sU,sD,rE,↓reduceIte,rA];refine aU ?_;simp only[↓sU,sD,rE,↓reduceIte,rA];exact s1.trans hX
theorem aNi{S:St}{t:Nat}{x:AV}{o:Bool}{sz:Nat}(h:S.h.get t=some (.cells [x] o sz)):eH (.sl t 0 1 1 false) S.h 1 1=some [x]:=by
 show aW (cM S.h t) (fun cs=>cut cs 0 (1 * 1))=_;unfold cM;rw[h];rfl
theorem gQ.push{bytes t:Nat}{S0 S:St}{v:AV}{l:List Int}{w:Int}(h:gQ 1 S0 S v l.length (bG l))(hS:Same S0 S)(ht:S.h.get t=some (.cells [.int .i64 w] false 0))(h1:l.length+1≤room)(h2:(l.length+1) * bytes≤room):
  ∃v' S',gN bytes 1 v (.sl t 0 1 1 false) S=some (v',S')∧gQ 1 S0 S' v' (l++ [w]).length (bG (l++ [w]))∧aS v'=some S.nx∧S'.nx=S.nx+1∧∀c,c<S.nx→aS v≠some c→S'.h.get c=S.h.get c:=by
 have hs:=aNi ht;have e0:bG (l++ [w])=bG l++ [.int .i64 w]:=by simp [bG]
 have e1:(l++ [w]).length=l.length+1:=by simp
 rw[e0,e1];generalize hn:l.length=n at *;rcases h with⟨rfl,rfl,h0⟩ | ⟨b,rfl,hb0,hb,hg,hc⟩
 ·refine⟨.sl S.nx 0 1 1 true,⟨S.h.set S.nx (some (.cells [.int .i64 w] true 1)),S.nx+1⟩,?_,.inr ⟨S.nx,by rw[Ap],hS.1,by simp,?_,?_⟩,rfl,rfl,fun c hc _=>(Same.alloc S _).2 c hc⟩
  ·show(aW (some 1) fun j=>aW (eH (.sl t 0 1 1 false) S.h 1 j) fun new=>aDh .nilsl bytes 1 j new S)=_;rw[aJ,hs,aJ];show rM bytes 1 1 [.int .i64 w] S=_;unfold rM;rw[show Nat.beq 1 0=false from rfl,aR,Aj (by omega),aL,Aj (by rw[Ap] at h2;exact h2),aL];rfl
  ·simp only;rw[T.get_set,if_pos rfl,h0];rfl
  ·rw[h0];rfl
 ·refine⟨.sl S.nx 0 (n+1) (n+1) true,⟨(S.h.set b none).set S.nx (some (.cells (bG l++ [.int .i64 w]) true 1)),S.nx+1⟩,?_,.inr ⟨S.nx,rfl,hS.1,by simp,?_,by rw[Ai,hc,Am,Du,Fj]⟩,rfl,rfl,fun c hc hne=>?_⟩
  ·show(aW (some 1) fun j=>aW (eH (.sl t 0 1 1 false) S.h 1 j) fun new=>aDh (.sl b 0 n n true) bytes 1 j new S)=_;rw[aJ,hs,aJ];show oL bytes 1 b 0 n n true 1 [.int .i64 w] S=_;unfold oL;have e2:Nat.ble (n+1) n=false:=by rw[Br];intro h;have:=Ao h;omega
   rw[e2,aR,Aj h1,aL,Aj h2,aL,hg,aJ];have e3:cut (bG l) 0 (n * 1)=some (bG l):=by
    unfold cut;rw[fF,fQ,Co,if_pos (by omega),Bg (by omega)]
   have e4:Nat.beq (0+n * 1) (iW (bG l))=true:=by rw[dR,hc,Ax];omega
   simp only[aBs,e3,aJ,aL,e4,show Nat.beq 1 1=true from rfl,grown,fT]
  ·simp only;rw[T.get_set,if_pos rfl]
  ·simp only;have:c≠b:=fun e=>hne (by rw[e];rfl);rw[T.get_set,if_neg (by omega),T.get_set,if_neg this]
theorem gQ.self{k n:Nat}{S0 S:St}{v:AV}{cs:List AV}(h:gQ k S0 S v n cs):cL v v=true:=by
 rcases h with⟨rfl,_⟩ | ⟨b,rfl,_⟩
 ·rfl
 ·exact uD ..
theorem gQ.cells{k n:Nat}{S0 S:St}{v:AV}{cs:List AV}(h:gQ k S0 S v n cs):v.cells=some [v]:=by
 rcases h with⟨rfl,_⟩ | ⟨b,rfl,_⟩<;>rfl
theorem cT{h:T AB}{b p:Nat}{cs:List AV}{x:AV}{o:Bool}{s:Nat}(hb:h.get b=some (.cells cs o s))(hj:cs[p]? =some x):cW (.ptr b p) false 1 h=some x:=by
 have:=ldc (j:=p) hb hj;rw[Ap] at this;exact this
theorem gQ.is{S0 S:St}{v:AV}{l:List Int}(h:gQ 1 S0 S v l.length (bG l)):cE .i64 S v l:=by
 rcases h with⟨rfl,h0,_⟩ | ⟨b,rfl,h1,h2,h3,h4⟩
 ·exact .inl ⟨Cc.1 h0,.inl rfl⟩
 ·refine .inr ⟨b,0,l.length,true,bG l,rfl,Ag _,h2,by unfold cM;rw[h3];rfl,fun i x hi=>?_⟩;rw[Ap];unfold bG;rw[Bi,hi];rfl
theorem gQ.blk{k n c:Nat}{S0 S:St}{v:AV}{cs:List AV}(h:gQ k S0 S v n cs)(hc:aS v=some c):S0.nx≤c∧c<S.nx∧S.h.get c=some (.cells cs true k):=by
 rcases h with⟨rfl,_⟩ | ⟨b,rfl,h1,h2,h3,h4⟩
 ·cases hc
 ·cases hc;exact⟨h1,h2,h3⟩
theorem gQ.off{k n c s:Nat}{S0 S:St}{v:AV}{cs cs':List AV}(h:gQ k S0 S v n cs)(hc:S.h.get c=some (.cells cs' false s)):aS v≠some c:=fun e=>by
 have:=(h.blk e).2.2;rw[hc] at this;cases this
theorem aJu{x y z:AV}(h1:cL x x=true)(h2:cL y y=true)(h3:cL z z=true):cL (.agg [x,y,z]) (.agg [x,y,z])=true:=by
 simp [cL,oI,h1,h2,h3]
theorem aGQ{g:bM}{j:Nat}(hj:j<g.infos.length):(kK g).getD j 0=((mN g.nodes 0 j:Nat):Int):=by
 unfold kK;rw[Ah,Bi,Fc hj];rfl
end Go.Ev.Gl
