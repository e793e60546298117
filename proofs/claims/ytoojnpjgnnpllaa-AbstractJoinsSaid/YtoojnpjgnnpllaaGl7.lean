import Derived.Test.YtoojnpjgnnpllaaGl6
open Nat renaming reduceEqDiff → rE, reduceAdd → rA
set_option maxHeartbeats 16000000
set_option linter.unusedSimpArgs false
set_option linter.unusedVariables false
namespace Go.Ev.Gl
variable {fns:T eG}
theorem aHl{S:St}{a:Int}(H:Has fns):gH fns (.fn 185 [] []) [.int .i64 a] S fun r S'=>r= .bool false∧S'=S:=by
 refine cI H.f185 (by simp) ?_;simp only[↓aF,aE,rE,↓reduceIte];refine bQ ?_;simp only[↓aF,aE,rE,↓reduceIte];refine bQ ?_;simp only[↓aF,aE,rE,↓reduceIte,Aa (show ¬a≠a from fun h=>h rfl)];refine aS ?_;simp only[↓aF,aE,rE,↓reduceIte]
theorem aI2{S:St}{a b:Int}(H:Has fns):gH fns (.fn 182 [] []) [.int .i64 a,.int .i64 b] S fun r S'=>r= .bool (decide (a<b))∧S'=S:=by
 refine cI H.f182 (by simp) ?_;simp only[↓aF,aE,rE,↓reduceIte];refine bQ ?_;simp only[↓aF,aE,rE,↓reduceIte];refine bQ ?_;simp only[↓aF,aE,rE,↓reduceIte];refine bG ?_;simp only[↓aF,aE,rE,↓reduceIte];refine aX (aHl H) ?_;rintro _ X ⟨rfl,hX⟩;rw[hX];simp only[↓aF,aE,rE,↓reduceIte];refine aS ?_;simp only[↓aF,aE,rE,↓reduceIte]
def aHQ(m:Int)(l:List Int):Int:=l.foldl mx m
def aO1(S:St)(v:AV)(l:List Int)(m0:Int)(k:Nat)(A:bH)(X:St):Prop:=A.inr=false∧X=S∧∃i,i+k=l.length∧0<i∧aB 0 A.F=v∧aB 3 A.F= .int .i64 (aHQ m0 ((l.take i).drop 1))∧aB 4 A.F= .int .i64 (i:Int)
theorem aJU{S:St}{v:AV}{l:List Int}(H:Has fns)(hl:bK .i64 S v l)(hne:0<l.length)(hlen:l.length≤1000000):gH fns (.fn 164 [] []) [v] S fun r S'=>r= .int .i64 (aHQ (l.getD 0 0) (l.drop 1))∧S'=S:=by
 refine cI H.f164 (by simp) ?_;simp only[↓aF,aE,rE,↓reduceIte];refine bQ ?_;simp only[↓aF,aE,rE,↓reduceIte];refine gC ?_;simp only[↓aF,aE,rE,↓reduceIte,hl.len,Ag];refine aN (by simp only[↓aF,aE,rE,↓reduceIte,Aa (show ¬ ((l.length:Nat):Int)<1 by omega)]) (aI ?_);try simp only[↓aF,aE,rE,↓reduceIte]
 have hia:=hl.iaddr hne;have hld:=hl.ld hne;refine bQ ?_;simp only[↓aF,aE,rE,↓reduceIte,aIC,hia,hld];refine gC ?_;simp only[↓aF,aE,rE,↓reduceIte];refine aL (bL (aO1 S v l (l.getD 0 0)) ?_ (l.length - 1) _ _ ⟨rfl,rfl,1,by omega,by decide,by simp only[↓aF,aE,rE,↓reduceIte],by simp only[↓aF,aE,rE,↓reduceIte];rw[Ch (by rw[Ce];omega)];rfl,by simp only[↓aF,aE,rE,↓reduceIte]⟩);rintro k ⟨F,inr⟩ X ⟨q0,hX,i,hik,hi0,p0,p3,p4⟩;simp only at q0 p0 p3 p4;subst q0;rw[hX];refine gC ?_;simp only[↓aF,aE,rE,↓reduceIte,p0,p4,hl.len,Ag];by_cases hi:i<l.length
 ·refine aO (by simp only[↓aF,aE,rE,↓reduceIte,Ac (show(i:Int)<((l.length:Nat):Int) by omega)]) (aI ?_);try simp only[↓aF,aE,rE,↓reduceIte]
  have hia:=hl.iaddr hi;have hld:=hl.ld hi;have htk:(l.take (i+1)).drop 1=(l.take i).drop 1++ [l.getD i 0]:=by
   rw[Bp,Ab hi,List.drop_append,Ce,show 1 - min i l.length=0 by omega,Ad,Ab hi];rfl
  have w1:IntKind.i64.wrap ((i:Int)+1)=((i+1:Nat):Int):=by rw[wrap_i64 (by omega) (by omega)];omega
  refine aA (aL (aJ ?_));simp only[↓aF,aE,rE,↓reduceIte,p0,p3,p4,aG,hia,hld,aKV,aEK];refine aJ ?_;simp only[↓aF,aE,rE,↓reduceIte,p4,w1];refine⟨k - 1,by omega,rfl,rfl,i+1,by omega,by omega,by simp only[↓aF,aE,rE,↓reduceIte,p0],?_,by simp only[↓aF,aE,rE,↓reduceIte]⟩;simp only[↓aF,aE,rE,↓reduceIte];rw[htk];unfold aHQ;rw[List.foldl_append];rfl
 ·refine aN (by simp only[↓aF,aE,rE,↓reduceIte,Aa (show ¬ (i:Int)<((l.length:Nat):Int) by omega)]) (bM ?_);simp only[↓aF,aE,rE,↓reduceIte];rw[Bb (by omega)] at p3;refine bQ ?_;simp only[↓aF,aE,rE,↓reduceIte,p3];refine aS ?_;simp only[↓aF,aE,rE,↓reduceIte]
def aQZ(S:St)(v:AV)(l:List Int)(z:Int)(k:Nat)(A:bH)(X:St):Prop:=A.inr=false∧X=S∧∃i,i+k=l.length∧¬z∈l.take i∧aB 0 A.F=v∧aB 1 A.F= .int .i64 z∧aB 7 A.F= .int .i64 ((l.length:Nat):Int)∧aB 8 A.F= .int .i64 (i:Int)
theorem aGN{S:St}{v:AV}{l:List Int}{z:Int}(H:Has fns)(hl:bK .i64 S v l)(hlen:l.length≤1000000):gH fns (.fn 181 [] []) [v,.int .i64 z] S fun r S'=>(∃j,r= .int .i64 j∧(0≤j↔z∈l))∧S'=S:=by
 refine cI H.f181 (by simp) ?_;simp only[↓aF,aE,rE,↓reduceIte];refine bQ ?_;simp only[↓aF,aE,rE,↓reduceIte];refine gC ?_;simp only[↓aF,aE,rE,↓reduceIte,hl.len,Ag];refine aL (bL (aQZ S v l z) ?_ l.length _ _ ⟨rfl,rfl,0,by omega,by simp,by refine⟨?_,?_,?_,?_⟩<;>simp only[↓aF,aE,rE,↓reduceIte]⟩);rintro k ⟨F,inr⟩ X ⟨q0,hX,j,hjk,ha,p0,p1,p7,p8⟩;simp only at q0 p0 p1 p7 p8;subst q0;rw[hX];refine bQ ?_;simp only[↓aF,aE,rE,↓reduceIte,p7,p8];by_cases hj:j<l.length
 ·refine aA (aO (by simp only[↓aF,aE,rE,↓reduceIte,Ac (show(j:Int)<((l.length:Nat):Int) by omega)]) (aI ?_));simp only[↓aF,aE,rE,↓reduceIte];have hia:=hl.iaddr hj;have hld:=hl.ld hj;have hgd:l.getD j 0=l[j]:=by rw[Ad,Ab hj];rfl
  have htk:l.take (j+1)=l.take j++ [l.getD j 0]:=by rw[Bp,Ab hj,hgd];rfl
  have hmem:l.getD j 0∈l:=by rw[hgd];exact Bo hj
  generalize l.getD j 0=w at *;have w1:IntKind.i64.wrap ((j:Int)+1)=((j+1:Nat):Int):=by rw[wrap_i64 (by omega) (by omega)];omega
  refine aA (aL (aA (aJ ?_)));simp only[↓aF,aE,rE,↓reduceIte,p8];refine bQ ?_;simp only[↓aF,aE,rE,↓reduceIte,p0,p1,aG,hia,hld];by_cases ho:z=w
  ·refine aO (by simp only[↓aF,aE,rE,↓reduceIte,Ac ho]) ?_;refine bQ ?_;simp only[↓aF,aE,rE,↓reduceIte];refine aS ?_;simp only[↓aF,aE,rE,↓reduceIte];exact⟨_,rfl,⟨fun _=>by rw[ho];exact hmem,fun _=>by omega⟩⟩
  ·refine aN (by simp only[↓aF,aE,rE,↓reduceIte,Aa ho]) (aI ?_);try simp only[↓aF,aE,rE,↓reduceIte]
   refine aJ ?_;simp only[↓aF,aE,rE,↓reduceIte,p8,w1];refine⟨k - 1,by omega,rfl,rfl,j+1,by omega,?_,by refine⟨?_,?_,?_,?_⟩<;>simp only[↓aF,aE,rE,↓reduceIte,p0,p1,p7]⟩;rw[htk];intro h;rcases Bx.1 h with h | h
   ·exact ha h
   ·simp at h;exact ho h
 ·refine aA (aN (by simp only[↓aF,aE,rE,↓reduceIte,Aa (show ¬ (j:Int)<((l.length:Nat):Int) by omega)]) (bM ?_));simp only[↓aF,aE,rE,↓reduceIte];rw[Bb (by omega)] at ha;refine bQ ?_;simp only[↓aF,aE,rE,↓reduceIte];refine aS ?_;simp only[↓aF,aE,rE,↓reduceIte];exact⟨_,rfl,⟨fun h=>absurd h (by decide),fun h=>absurd h ha⟩⟩
theorem aCc{S:St}{v:AV}{l:List Int}{z:Int}(H:Has fns)(hl:bK .i64 S v l)(hlen:l.length≤1000000):gH fns (.fn 176 [] []) [v,.int .i64 z] S fun r S'=>r= .bool (decide (z∈l))∧S'=S:=by
 refine cI H.f176 (by simp) ?_;simp only[↓aF,aE,rE,↓reduceIte];refine bQ ?_;simp only[↓aF,aE,rE,↓reduceIte];refine bQ ?_;simp only[↓aF,aE,rE,↓reduceIte];refine bG ?_;simp only[↓aF,aE,rE,↓reduceIte];refine aX (aGN H hl hlen) ?_;rintro _ Y ⟨⟨j,rfl,hj⟩,hY⟩;rw[hY];have hd:decide ((0:Int)≤j)=decide (z∈l):=by rw[Cg,Ck,Ck];exact hj
 simp only[↓aF,aE,rE,↓reduceIte,hd];refine aS ?_;simp only[↓aF,aE,rE,↓reduceIte]
def aNe(l:List Int)(a b:Nat):Prop:=∀i,a<i→i<b→¬l.getD i 0<l.getD (i - 1) 0
def aDz(l:List Int):Prop:=aNe l 0 l.length
def aQT(S:St)(v:AV)(l:List Int)(k:Nat)(A:bH)(X:St):Prop:=A.inr=false∧Same S X∧∃i:Int,(k:Int)=max i 0∧ -1≤i∧i<max 1 (l.length:Int)∧aNe l i.toNat l.length∧aB 0 A.F=v∧aB 3 A.F= .int .i64 i
theorem aFN{S:St}{v:AV}{l:List Int}(H:Has fns)(hl:bK .i64 S v l)(hlen:l.length≤1000000):gH fns (.fn 177 [] []) [v] S fun r S'=>(∃t,r= .bool t∧(t=true↔aDz l))∧Same S S':=by
 refine cI H.f177 (by simp) ?_;simp only[↓aF,aE,rE,↓reduceIte];refine bQ ?_;simp only[↓aF,aE,rE,↓reduceIte];have w0:IntKind.i64.wrap (((l.length:Nat):Int) - 1)=((l.length:Nat):Int) - 1:=wrap_i64 (by omega) (by omega);refine gC ?_;simp only[↓aF,aE,rE,↓reduceIte,hl.len,Ag,w0];refine aL (bL (aQT S v l) ?_ (l.length - 1) _ _ ⟨rfl,Same.refl S,((l.length:Nat):Int) - 1,by omega,by omega,by omega,fun i h1 h2=>by omega,by refine⟨?_,?_⟩<;>simp only[↓aF,aE,rE,↓reduceIte]⟩);rintro k ⟨F,inr⟩ X ⟨q0,hX,i,hik,hi1,hi2,hup,p0,p3⟩;simp only at q0 p0 p3;subst q0;have hlX:=hl.same hX;refine gC ?_;simp only[↓aF,aE,rE,↓reduceIte,p3];by_cases hi:0<i
 ·refine aO (by simp only[↓aF,aE,rE,↓reduceIte,Ac hi]) (aI ?_);try simp only[↓aF,aE,rE,↓reduceIte]
  obtain⟨n,rfl⟩:∃n:Nat,i=(n:Int):=⟨i.toNat,by omega⟩;have h1:n<l.length:=by omega
  have h0:n - 1<l.length:=by omega
  have w1:IntKind.i64.wrap ((n:Int) - 1)=((n - 1:Nat):Int):=by rw[wrap_i64 (by omega) (by omega)];omega
  have ia1:=hlX.iaddr h1;have ia0:=hlX.iaddr h0;have ld1:=hlX.ld h1;have ld0:=hlX.ld h0;have hself:=bK.self hl;obtain⟨b,hb⟩:∃b off cap o,v= .sl b off l.length cap o∧b<X.nx:=by
   rcases hlX with⟨h0,_⟩ | ⟨b,off,cap,o,cs,rfl,_,hb,_⟩
   ·rw[h0] at h1;simp at h1
   ·exact⟨b,off,cap,o,rfl,hb⟩
  obtain⟨off,cap,o,rfl,hbX⟩:=hb;simp only[aCA] at ia1 ia0 ld1 ld0;refine aA (aL (aA (iE (fun _=>False) ?_)));intro S1 s1;simp only[↓sU,sD,rE,↓reduceIte,rA,p0,p3,aG,ia1,w1,ia0,ld1,ld0,hbX,Al];refine dS rfl ?_;simp only[↓sU,sD,rE,↓reduceIte,rA];refine aX (aI2 H) ?_;rintro _ Y ⟨rfl,hY⟩;rw[hY];refine⟨Same.refl _,?_⟩;try simp only[↓sU,sD,rE,↓reduceIte,rA]
  by_cases ho:l.getD n 0<l.getD (n - 1) 0
  ·refine aO (by simp only[↓sU,sD,rE,↓reduceIte,rA,Ac ho]) ?_;refine bQ ?_;simp only[↓sU,sD,rE,↓reduceIte,rA];refine aS ?_;simp only[↓sU,sD,rE,↓reduceIte,rA];exact⟨⟨_,rfl,⟨fun h=>(by cases h),fun h=>absurd ho (h n (by omega) h1)⟩⟩,hX.trans s1⟩
  ·refine aN (by simp only[↓sU,sD,rE,↓reduceIte,rA,Aa ho]) (aI ?_);try simp only[↓sU,sD,rE,↓reduceIte,rA]
   refine aJ ?_;simp only[↓sU,sD,rE,↓reduceIte,rA,p3,w1];refine⟨k - 1,by omega,rfl,hX.trans s1,((n - 1:Nat):Int),by omega,by omega,by omega,fun j h1 h2=>?_,by refine⟨?_,?_⟩<;>simp only[↓sU,sD,rE,↓reduceIte,rA,p0]⟩;by_cases hj:j=n
   ·rw[hj];exact ho
   ·exact hup j (by omega) h2
 ·refine aN (by simp only[↓aF,aE,rE,↓reduceIte,Aa hi]) (bM ?_);simp only[↓aF,aE,rE,↓reduceIte];refine bQ ?_;simp only[↓aF,aE,rE,↓reduceIte];refine aS ?_;simp only[↓aF,aE,rE,↓reduceIte];exact⟨⟨_,rfl,⟨fun _ j h1 h2=>hup j (by omega) h2,fun _=>rfl⟩⟩,hX⟩
def lR:List dG→Nat→Nat→Nat
 | [],_,_=>0
 | x::l,s,i=>if x.kind=2∧x.info=(i:Int) then s+1 else lR l (s+1) i
def gD(g:aR):List Int:=(List.range g.infos.length).map fun i=>((lR g.nodes 0 i:Nat):Int)
def infoAt(g:aR)(i:Int):aAp:=g.infos.getD i.toNat ⟨0,0⟩
def mis(g:aR)(x:dG):Prop:=x.kind=2∧¬ ((infoAt g x.info).player=x.player∧(infoAt g x.info).actions=((x.next.length:Nat):Int))
instance misDec(g:aR)(x:dG):Decidable (mis g x):=by unfold mis;exact inferInstance
open Classical in
noncomputable def zD(g:aR):Int:=if ∃x∈g.nodes,mis g x then 10 else if(0:Int)∈gD g then 18 else if aDz (gD g) then 0 else 9
def aFk(g:aR):Prop:=∀x∈g.nodes,x.kind=2→0≤x.info∧x.info<g.infos.length
theorem aK3(a b c d:Int):pO .neq (.struct [(0,.int),(1,.int)]) (.agg [.int .i64 a,.int .i64 b]) (.agg [.int .i64 c,.int .i64 d])=some (.bool (decide (¬ (a=c∧b=d)))):=by
 have k:∀y z:Int,vZ .int (.int .i64 y) (.int .i64 z)=some (decide (y=z)):=fun y z=>by
  show bN (keq .i64 .i64) (some (ieq y z)) none=_;rw[fC,aQ,iL];congr 1
 have e:eqv (.struct [(0,.int),(1,.int)]) (.agg [.int .i64 a,.int .i64 b]) (.agg [.int .i64 c,.int .i64 d])=some (decide (a=c∧b=d)):=by
  show eqs [(0,.int),(1,.int)] [.int .i64 a,.int .i64 b] [.int .i64 c,.int .i64 d]=_;unfold eqs;show(match vZ .int (.int .i64 a) (.int .i64 c) with | some true=>_ | some false=>_ | none=>_)=_;rw[k];by_cases h:a=c
  ·rw[Ac h];unfold eqs;show(match vZ .int (.int .i64 b) (.int .i64 d) with | some true=>_ | some false=>_ | none=>_)=_;rw[k];by_cases h2:b=d
   ·rw[Ac h2,Ac ⟨h,h2⟩];rfl
   ·rw[Aa h2,Aa (fun h3=>h2 h3.2)]
  ·rw[Aa h,Aa (fun h3=>h h3.1)]
 show aZ (eqv (.struct [(0,.int),(1,.int)]) _ _) _=_;rw[e,aK];congr 2;by_cases h:a=c∧b=d
 ·rw[Ac h,Aa (fun h2=>h2 h)];rfl
 ·rw[Aa h,Ac h];rfl
def aOc(S:St)(wb fb:Nat)(g:aR)(k:Nat)(A:bH)(X:St):Prop:=A.inr=false∧Same S X∧∃F:List Int,k≤g.nodes.length∧F.length=g.infos.length∧(∀j,j<g.infos.length→F.getD j 0=((lR (g.nodes.drop k) k j:Nat):Int))∧X.h.get fb=some (.cells (aP F) false 0)∧fb<X.nx∧
 aB 0 A.F= .ptr wb 0∧aB 3 A.F= .sl fb 0 g.infos.length g.infos.length false∧aB 4 A.F= .int .i64 ((k:Int) - 1)
def aPF(S1:St)(wb:Nat)(fv nv:AV)(g:aR)(k:Nat)(A:bH)(X:St):Prop:=A.inr=false∧Same S1 X∧∃i,i+k=g.nodes.length∧(∀x∈g.nodes.take i,¬mis g x)∧aB 0 A.F= .ptr wb 0∧aB 3 A.F=fv∧aB 47 A.F=nv∧aB 48 A.F= .int .i64 ((g.nodes.length:Nat):Int)∧aB 49 A.F= .int .i64 (i:Int)
theorem aJj{S:St}{wb:Nat}{ps:Int}{nv iv pv dv lv:AV}{g:aR}(H:Has fns)(hW:uP S wb ps nv iv pv dv lv)(hn:aH 6 bP S nv g.nodes)(hi:aH 2 cA S iv g.infos)(hN:g.nodes.length≤2000)(hI:g.infos.length≤200)(hok:aFk g):
  gH fns (.fn 165 [] []) [.ptr wb 0] S fun r S'=>r= .int .i64 (zD g)∧Same S S':=by
 refine cI H.f165 (by simp) ?_;simp only[↓aF,aE,rE,↓reduceIte,rA];refine bQ ?_;simp only[↓aF,aE,rE,↓reduceIte,rA];refine bQ ?_;simp only[↓aF,aE,rE,↓reduceIte,rA,bJ,bI,aC,aD,cQ hW.1,hi.len];refine gM (nK (n:=g.infos.length) (by simp only[↓aF,aE,rE,↓reduceIte,rA,aG]) (by simp only[↓aF,aE,rE,↓reduceIte,rA,aG]) (by unfold room;omega) (by unfold room;omega)) ?_;intro S1 s1 n1 c1;simp only[↓aF,aE,rE,↓reduceIte,rA];have hz:repeatL [AV.int .i64 0] g.infos.length=aP (List.replicate g.infos.length 0):=by rw[repeatL_one];simp [aP]
 rw[hz] at c1;have hW1:=hW.same s1;have w0:IntKind.i64.wrap (((g.nodes.length:Nat):Int) - 1)=((g.nodes.length:Nat):Int) - 1:=wrap_i64 (by omega) (by omega);refine aA (aY (Q:=fun o A' X=>o= .normal∧aOc S wb S.nx g 0 A' X) (aA (aJ ?_)) ?_)
 ·simp only[↓aF,aE,rE,↓reduceIte,rA,bJ,bI,aC,aD,dE hW1.1,hn.len,w0];refine aL (bL (aOc S wb S.nx g) ?_ g.nodes.length _ _ ⟨rfl,s1,_,Ah _,Ar ..,fun j hj=>?_,c1,by omega,by refine⟨?_,?_,?_⟩<;>simp only[↓aF,aE,rE,↓reduceIte,rA]⟩);rotate_left
  ·rw[Ch (Ah _),Ad,Cn];split<;>rfl
  rintro k ⟨F,inr⟩ X ⟨q0,hX,Fl,hkN,hFl,hF,hfb,hfbX,p0,p3,p4⟩;simp only at q0 p0 p3 p4;subst q0;refine gC ?_;simp only[↓aF,aE,rE,↓reduceIte,rA,p4];by_cases hk:0<k
  ·refine aO (by simp only[↓aF,aE,rE,↓reduceIte,rA,Ac (show(0:Int)≤(k:Int) - 1 by omega)]) (aI ?_);try simp only[↓aF,aE,rE,↓reduceIte,rA]
   have e1:(k:Int) - 1=((k - 1:Nat):Int):=by omega
   rw[e1] at p4;have hlt:k - 1<g.nodes.length:=by omega
   obtain⟨x,hx⟩:∃x,g.nodes[k - 1]? =some x:=⟨_,Ab hlt⟩;have hxm:=Bc hx;have hWX:=hW.same hX;obtain⟨e,b,q,hia,hb,he,⟨a,bb,cc,rfl,ha,hbb,hcc⟩,hag,_⟩:=aH.at (aH.same (E:=bP) bF hn hX) (by decide) hx;have hdrop:g.nodes.drop (k - 1)=x::g.nodes.drop k:=by
    rw[Bt hlt,show k - 1+1=k by omega];congr 1;rw[Ab hlt] at hx;exact Bn hx
   have w1:IntKind.i64.wrap (((k - 1:Nat):Int)+1)=(k:Int):=by rw[wrap_i64 (by omega) (by omega)];omega
   have w2:IntKind.i64.wrap (((k - 1:Nat):Int) - 1)=((k - 1:Nat):Int) - 1:=wrap_i64 (by omega) (by omega);refine aA (aL (aA (aJ ?_)));simp only[↓aF,aE,rE,↓reduceIte,rA,p0,p4,bJ,bI,aC,aD,dE hWX.1,aG,hia,hag];refine cH ?_;intro X1 x1 m1 d1;refine dB (b:=X.nx) (by simp only[↓aF,aE,rE,↓reduceIte,rA]) (by simp only[↓aF,aE,rE,↓reduceIte,rA];exact bB _) d1 rfl rfl ?_;intro X2 x2 m2 d2;simp only[↓aF,aE,rE,↓reduceIte,rA];have hX2:Same X X2:=x2.same x1 (Ah _);have hfb2:X2.h.get S.nx=some (.cells (aP Fl) false 0):=by rw[hX2.2 _ hfbX];exact hfb
   refine bQ ?_;simp only[↓aF,aE,rE,↓reduceIte,rA,aC,aD,eC d2];have hfin:∀ (G:Fr) (Y:St) (Fl':List Int),aB 0 G= .ptr wb 0→aB 3 G= .sl S.nx 0 g.infos.length g.infos.length false→aB 4 G= .int .i64 ((k - 1:Nat):Int)→Same S Y→Fl'.length=g.infos.length→(∀j,j<g.infos.length→Fl'.getD j 0=((lR (g.nodes.drop (k - 1)) (k - 1) j:Nat):Int))→Y.h.get S.nx=some (.cells (aP Fl') false 0)→S.nx<Y.nx→tX fns [mt 24 4,oq 25 (bi .sub (.t 24) (ci 1)),mt 4 25] G Y fun F' S'=>∃k',k'<k∧aOc S wb S.nx g k' ⟨F',false⟩ S':=fun G Y Fl' g0 g3 g4 hY h1 h2 h3 h4=>by
    simp only[↓aF,aE,rE,↓reduceIte,rA,g4,w2];exact⟨k - 1,by omega,rfl,hY,Fl',by omega,h1,h2,h3,h4,by refine⟨?_,?_,?_⟩<;>simp only[↓aF,aE,rE,↓reduceIte,rA,g0,g3]⟩
   by_cases hk2:x.kind=2
   ·refine aO (by simp only[↓aF,aE,rE,↓reduceIte,rA,Ac hk2]) ?_;obtain⟨i0,i1⟩:=hok x hxm hk2;obtain⟨n,hn'⟩:∃n:Nat,x.info=(n:Int):=⟨x.info.toNat,by omega⟩;have hni:n<g.infos.length:=by omega
    rw[hn'] at d2;have hif:=dT (b:=S.nx) (o:=false) hni;refine aJ ?_;simp only[↓aF,aE,rE,↓reduceIte,rA,p0,p3,p4,aC,aD,cQ d2,w1,aG,hif];refine fJ (fun call=>by simp only[↓aF,aE,rE,↓reduceIte,rA,dN,cO];exact qL (S:=X2) hfb2 (by rw[hFl];exact hni)) ?_;simp only[↓aF,aE,rE,↓reduceIte,rA];refine aJ ?_;refine aGk (hfin _ _ (Fl.set n (k:Int)) (by simp only[↓aF,aE,rE,↓reduceIte,rA,p0]) (by simp only[↓aF,aE,rE,↓reduceIte,rA,p3]) (by simp only[↓aF,aE,rE,↓reduceIte,rA,p4]) (((hX.trans hX2)).put (Ah _) _) (by rw[Ap];exact hFl) (fun j hj=>?_) (by simp only;rw[T.get_set,if_pos rfl]) (by simp only;omega)) fun F' S' hh=>hh;rw[fX (by rw[hFl];exact hni),hdrop,hF j hj];simp only[lR];by_cases hjn:j=n
    ·rw[if_pos hjn,if_pos ⟨hk2,by rw[hn',hjn]⟩];omega
    ·rw[if_neg hjn,if_neg (fun h=>hjn (by omega)),show k - 1+1=k by omega]
   ·refine aN (by simp only[↓aF,aE,rE,↓reduceIte,rA,Aa hk2]) (aI ?_);try simp only[↓aF,aE,rE,↓reduceIte,rA]
    refine aJ ?_;refine aGk (hfin _ X2 Fl (by simp only[↓aF,aE,rE,↓reduceIte,rA,p0]) (by simp only[↓aF,aE,rE,↓reduceIte,rA,p3]) (by simp only[↓aF,aE,rE,↓reduceIte,rA,p4]) (hX.trans hX2) hFl (fun j hj=>?_) hfb2 (by omega)) fun F' S' hh=>hh;rw[hdrop,hF j hj];simp only[lR];rw[if_neg (fun h=>hk2 h.1),show k - 1+1=k by omega]
  ·refine aN (by simp only[↓aF,aE,rE,↓reduceIte,rA,Aa (show ¬ (0:Int)≤(k:Int) - 1 by omega)]) (bM ?_);simp only[↓aF,aE,rE,↓reduceIte,rA];have hk0:k=0:=by omega
   subst hk0;exact⟨rfl,hX,Fl,hkN,hFl,hF,hfb,hfbX,by refine⟨?_,?_,?_⟩<;>simp only[↓aF,aE,rE,↓reduceIte,rA,p0,p3,p4]⟩
 rintro o ⟨F,inr⟩ S2 ⟨rfl,q0,s2,Fl,_,hFl,hF,hfb,hfb2,p0,p3,p4⟩;simp only at q0 p0 p3 p4;subst q0;have hFeq:Fl=gD g:=by
  unfold gD;refine Dp (by simp [hFl]) fun j j1 j2=>?_;have h1:=hF j (by omega);rw[Ad,Ab j1,Dk] at h1;rw[List.getElem_map,List.getElem_range];exact h1
 subst hFeq;have hW2:=hW.same s2;have hn2:=aH.same (E:=bP) bF hn s2;have hi2:=aH.same (E:=cA) bO hi s2;try simp only[↓aF,aE,rE,↓reduceIte,rA]
 refine aA (aY (Q:=fun o A' X=>(o= .normal∧aPF S2 wb (.sl S.nx 0 g.infos.length g.infos.length false) nv g 0 A' X)∨(o= .ret∧Same S2 X∧(∃x∈g.nodes,mis g x)∧aB 2 A'.F= .int .i64 10)) (aA (aJ ?_)) ?_)
 ·simp only[↓aF,aE,rE,↓reduceIte,rA,p0,bJ,bI,aC,aD,dE hW2.1,hn2.len];refine aL (bL (aPF S2 wb (.sl S.nx 0 g.infos.length g.infos.length false) nv g) ?_ g.nodes.length _ _ ⟨rfl,Same.refl _,0,by omega,fun x hx=>(by simp at hx),by refine⟨?_,?_,?_,?_,?_⟩<;>simp only[↓aF,aE,rE,↓reduceIte,rA,p0,p3]⟩);clear p0 p3 p4;rintro k ⟨F,inr⟩ X ⟨q0,hX,i,hik,hm,p0,p3,p47,p48,p49⟩;simp only at q0 p0 p3 p47 p48 p49;subst q0;refine bQ ?_;simp only[↓aF,aE,rE,↓reduceIte,rA,p48,p49];by_cases hlt:i<g.nodes.length
  ·refine aA (aO (by simp only[↓aF,aE,rE,↓reduceIte,rA,Ac (show(i:Int)<((g.nodes.length:Nat):Int) by omega)]) (aI ?_));simp only[↓aF,aE,rE,↓reduceIte,rA];obtain⟨x,hx⟩:∃x,g.nodes[i]? =some x:=⟨_,Ab hlt⟩;have hxm:=Bc hx;obtain⟨e,b,q,hia,hb,he,⟨a,bb,cc,rfl,ha,hbb,hcc⟩,hag,_⟩:=aH.at (aH.same (E:=bP) bF hn2 hX) (by decide) hx;have w1:IntKind.i64.wrap ((i:Int)+1)=((i+1:Nat):Int):=by rw[wrap_i64 (by omega) (by omega)];omega
   refine aA (aL (aA (aJ ?_)));simp only[↓aF,aE,rE,↓reduceIte,rA,p47,p49,aG,hia,hag];refine cH ?_;intro X1 x1 m1 d1;refine dB (b:=X.nx) (by simp only[↓aF,aE,rE,↓reduceIte,rA]) (by simp only[↓aF,aE,rE,↓reduceIte,rA];exact bB _) d1 rfl rfl ?_;intro X2 x2 m2 d2;simp only[↓aF,aE,rE,↓reduceIte,rA];have hX2:Same X X2:=x2.same x1 (Ah _);have hS2X:=hX.trans hX2;have hWX:=hW2.same hS2X;have hla:=(ha.same hX2).len;have hsa:=bK.self ha;have hsi:=aH.self hi;refine aA (aY (Q:=fun o A' Y=>o= .normal∧A'.inr=false∧Same X2 Y∧aB 0 A'.F= .ptr wb 0∧aB 3 A'.F= .sl S.nx 0 g.infos.length g.infos.length false∧aB 47 A'.F=nv∧aB 48 A'.F= .int .i64 ((g.nodes.length:Nat):Int)∧aB 49 A'.F= .int .i64 (i:Int)∧aB 73 A'.F= .bool (decide (mis g x))) (gP ?_) ?_)
   ·by_cases hk2:x.kind=2
    ·obtain⟨i0,i1⟩:=hok x hxm hk2;obtain⟨n,hn'⟩:∃n:Nat,x.info=(n:Int):=⟨x.info.toNat,by omega⟩;have hni:n<g.infos.length:=by omega
     obtain⟨y,hy⟩:∃y,g.infos[n]? =some y:=⟨_,Ab hni⟩;obtain⟨e',b',q',hia',hb',he',rfl,hag',_⟩:=aH.at (aH.same (E:=cA) bO hi2 hS2X) (by decide) hy;have hya:infoAt g x.info=y:=by unfold infoAt;rw[hn',Ad,show((n:Int)).toNat=n from rfl,hy];rfl
     have hmis:decide (mis g x)=decide (¬ (y.player=x.player∧y.actions=((x.next.length:Nat):Int))):=by
      rw[Cg,Ck,Ck];unfold mis;rw[hya];exact⟨fun h=>h.2,fun h=>⟨hk2,h⟩⟩
     rw[hmis];rw[hn'] at d2;have hs2:cC (.agg [.int .i64 y.player,.int .i64 y.actions]) (.agg [.int .i64 y.player,.int .i64 y.actions])=true:=wJ (cS ..) (cS ..);simp only[↓aF,aE,rE,↓reduceIte,rA,p0,p3,p47,p48,p49,bJ,bX,bI,aC,aU,aD,eC d2,dE d2,cQ d2,cT d2,cQ hWX.1,aG,hia',hag',hla,hsa,hsi,hs2,Ag,kK,aN7,cO,aK3,Ac hk2];exact Same.nx _ _
    ·rw[Aa (show ¬mis g x from fun h=>hk2 h.1)];simp only[↓aF,aE,rE,↓reduceIte,rA,p0,p3,p47,p48,p49,aC,aU,aD,eC d2,Aa hk2];exact Same.nx _ _
   clear p0 p3 p47 p48 p49;rintro o ⟨F,inr⟩ Y ⟨rfl,q0,hY,p0,p3,p47,p48,p49,pb⟩;simp only at q0 p0 p3 p47 p48 p49 pb;subst q0;have hS2Y:=hS2X.trans hY;try simp only[↓aF,aE,rE,↓reduceIte,rA]
   by_cases hmx:mis g x
   ·refine aO (by simp only[↓aF,aE,rE,↓reduceIte,rA,pb,Ac hmx]) ?_;refine bQ ?_;simp only[↓aF,aE,rE,↓reduceIte,rA];refine aS ?_;simp only[↓aF,aE,rE,↓reduceIte,rA];exact .inr ⟨hS2Y,x,hxm,hmx⟩
   ·refine aN (by simp only[↓aF,aE,rE,↓reduceIte,rA,pb,Aa hmx]) (aI ?_);try simp only[↓aF,aE,rE,↓reduceIte,rA]
    refine aJ ?_;simp only[↓aF,aE,rE,↓reduceIte,rA,p49,w1];refine⟨k - 1,by omega,rfl,hS2Y,i+1,by omega,fun y hy=>?_,by refine⟨?_,?_,?_,?_,?_⟩<;>simp only[↓aF,aE,rE,↓reduceIte,rA,p0,p3,p47,p48]⟩;rw[Bp,hx] at hy;rcases Bx.1 hy with h | h
    ·exact hm y h
    ·simp at h;rw[h];exact hmx
  ·refine aA (aN (by simp only[↓aF,aE,rE,↓reduceIte,rA,Aa (show ¬ (i:Int)<((g.nodes.length:Nat):Int) by omega)]) (bM ?_));simp only[↓aF,aE,rE,↓reduceIte,rA];have hk0:k=0:=by omega
   subst hk0;exact .inl ⟨rfl,hX,i,hik,hm,by refine⟨?_,?_,?_,?_,?_⟩<;>simp only[↓aF,aE,rE,↓reduceIte,rA,p0,p3,p47,p48,p49]⟩
 clear p0 p3 p4;rintro o ⟨F,inr⟩ X (⟨rfl,q0,hX,i,hik,hm,p0,p3,p47,p48,p49⟩ | ⟨rfl,hX,hmx,p2⟩);rotate_left
 ·simp only at p2;simp only[↓aF,aE,rE,↓reduceIte,rA,p2];unfold zD;rw[if_pos hmx];exact⟨rfl,s2.trans hX⟩
 simp only at q0 p0 p3;subst q0;rw[Bb (by omega)] at hm;unfold zD;rw[if_neg (fun⟨x,h1,h2⟩=>hm x h1 h2)];have sX:=s2.trans hX;have hfX:X.h.get S.nx=some (.cells (aP (gD g)) false 0):=by rw[hX.2 _ hfb2];exact hfb
 have hrow:=aDf (N:=g.infos.length) hfX (Ae hfb2 hX.1) hFl;try simp only[↓aF,aE,rE,↓reduceIte,rA]
 refine gC ?_;simp only[↓aF,aE,rE,↓reduceIte,rA,p3];refine bG ?_;simp only[↓aF,aE,rE,↓reduceIte,rA];refine aX (aCc H hrow (by omega)) ?_;rintro _ Y ⟨rfl,hY⟩;rw[hY];try simp only[↓aF,aE,rE,↓reduceIte,rA]
 by_cases h0:(0:Int)∈gD g
 ·rw[if_pos h0];refine aO (by simp only[↓aF,aE,rE,↓reduceIte,rA,Ac h0]) ?_;refine bQ ?_;simp only[↓aF,aE,rE,↓reduceIte,rA];refine aS ?_;simp only[↓aF,aE,rE,↓reduceIte,rA];exact sX
 rw[if_neg h0];refine aN (by simp only[↓aF,aE,rE,↓reduceIte,rA,Aa h0]) (aI ?_);try simp only[↓aF,aE,rE,↓reduceIte,rA]
 refine gC ?_;simp only[↓aF,aE,rE,↓reduceIte,rA,p3];refine bG ?_;simp only[↓aF,aE,rE,↓reduceIte,rA];refine aX (aFN H hrow (by omega)) ?_;rintro _ Y ⟨⟨t,rfl,ht⟩,hY⟩;simp only[↓aF,aE,rE,↓reduceIte,rA,gE];cases t with
 | false=>
  rw[if_neg (fun h=>by have:=ht.2 h;cases this)];refine aO (by simp only[↓aF,aE,rE,↓reduceIte,rA];rfl) ?_;refine bQ ?_;simp only[↓aF,aE,rE,↓reduceIte,rA];refine aS ?_;simp only[↓aF,aE,rE,↓reduceIte,rA];exact sX.trans hY
 | true=>
  rw[if_pos (ht.1 rfl)];refine aN (by simp only[↓aF,aE,rE,↓reduceIte,rA];rfl) (aI ?_);try simp only[↓aF,aE,rE,↓reduceIte,rA]
  refine bQ ?_;simp only[↓aF,aE,rE,↓reduceIte,rA];refine aS ?_;simp only[↓aF,aE,rE,↓reduceIte,rA];exact sX.trans hY
def lP(g:aR):Prop:=g.players<1∨(4:Int)<g.players∨((g.nodes.length:Nat):Int)<1∨(2000:Int)<((g.nodes.length:Nat):Int)∨(200:Int)<((g.infos.length:Nat):Int)
instance badGDec(g:aR):Decidable (lP g):=by unfold lP;exact inferInstance
def jX(ps:Int)(ni:Nat):List dG→Int
 | []=>0
 | x::l=>if gK ps ni x≠0 then gK ps ni x else jX ps ni l
def gS(g:aR):Option (List dH):=fO g.nodes.length (dU g) (g.nodes.length+1) 0 (-1) 0
noncomputable def cP(g:aR):Int:=
 if lP g then 2 else if jX g.players g.infos.length g.nodes≠0 then jX g.players g.infos.length g.nodes else
 match gS g with
 | none=>9
 | some T=>if T.length≠g.nodes.length then 9 else if 40<wW 0 T then 5 else zD g
theorem gN{ps:Int}{ni:Nat}:∀ {l:List dG},jX ps ni l=0→∀x∈l,gK ps ni x=0
 | [],_,x,hx=>by cases hx
 | y::l,h,x,hx=>by
  simp only[jX] at h;split at h
  ·rename_i hne;exact absurd h hne
  ·rename_i he;rcases Bm.1 hx with rfl | hx
   ·exact Cu.1 he
   ·exact gN h x hx
theorem aAN{ps:Int}{ni:Nat}{x:dG}(h:gK ps ni x=0):x.next.length≤1000:=by
 unfold gK at h;split at h
 ·split at h
  ·cases h
  ·rename_i hb;unfold mK at hb;omega
 ·split at h
  ·split at h
   ·cases h
   ·rename_i hb;unfold vF at hb;omega
  ·split at h
   ·split at h
    ·cases h
    ·rename_i hb;unfold mT at hb;omega
   ·cases h
theorem aBa{ps:Int}{ni:Nat}{x:dG}(h:gK ps ni x=0)(h2:x.kind=2):0≤x.info∧x.info<ni:=by
 unfold gK at h;rw[if_neg (by omega),if_pos h2] at h;split at h
 ·cases h
 ·split at h
  ·cases h
  ·omega
theorem stc{S:St}{b p:Nat}{w:AV}{cs:List AV}{o:Bool}{sz:Nat}(h:S.h.get b=some (.cells cs o sz))(hp:p<cs.length):rU (.ptr b p) 1 [w] S=some (.undef,⟨S.h.set b (some (.cells (cs.set p w) o sz)),S.nx⟩):=by
 have hput:put cs p [w]=some (cs.set p w):=by
  rw[put_eq,if_pos (by simp;omega)];congr 1;rw[List.set_eq_take_append_cons_drop,if_pos hp];simp
 simp only[rU,rZ,h,aK,aAO,hput];rfl
theorem zJ{W:Nat→Prop}{h0 h':T AB}{base m i:Nat}{l:List AO}{F:Fr}{S:St}{ps ps':List iJ}{last:Option Nat}{Q:Fr→St→List iJ→Prop}{x v:cL}{b p sz:Nat}{w:AV}{cs:List AV}{o:Bool}(hfl:cF m ps S.h=(ps',h'))(h:kQ last m=true)(hx:x.val F= .ptr b p)(hv:(v.val F).cells=some [w])(hb:h'.get b=some (.cells cs o sz))(hp:p<cs.length)(hW:W b)
  (hr:fK fns W h0 base l (i+1) F ⟨h'.set b (some (.cells (cs.set p w) o sz)),S.nx⟩ ps' (some i) Q):fK fns W h0 base (⟨none,.x (.st 1 x v),none,m⟩::l) i F S ps last Q:=by
 refine rG (S1:=⟨h'.set b (some (.cells (cs.set p w) o sz)),S.nx⟩) h ?_ ?_ ?_
 ·rw[hfl,hv,aK,hx];exact stc (S:=⟨h',S.nx⟩) hb hp
 ·rw[hfl];refine⟨Ah _,fun c hc hw=>?_⟩;simp only;rw[T.get_set,if_neg (show ¬c=b from fun e=>hw (by rw[e];exact hW))]
 ·rw[hfl];exact hr
theorem oY{h:T AB}{b:Nat}{x0 x1 x2:AV}{o:Bool}{s:Nat}(hb:h.get b=some (.cells [x0,x1,x2] o s)):eH (.ptr b (0+0)) false 1 h=some x0:=ldc hb rfl
theorem eY{h:T AB}{b:Nat}{x0 x1 x2:AV}{o:Bool}{s:Nat}(hb:h.get b=some (.cells [x0,x1,x2] o s)):eH (.ptr b (0+1)) false 1 h=some x1:=ldc hb rfl
theorem gG{h:T AB}{b:Nat}{x0 x1 x2:AV}{o:Bool}{s:Nat}(hb:h.get b=some (.cells [x0,x1,x2] o s)):eH (.ptr b (0+2)) false 1 h=some x2:=ldc hb rfl
theorem fR{h:T AB}{b:Nat}{x0 x1 x2:AV}{o:Bool}{s:Nat}(hb:h.get b=some (.cells [x0,x1,x2] o s)):eH (.ptr b 0) true 3 h=some (.agg [x0,x1,x2]):=iA hb rfl
theorem yW{m j id:Nat}{bl:AB}{ps:List iJ}{h:T AB}(ht:Nat.testBit m j=false):cF m (⟨j,id,bl⟩::ps) h=(⟨j,id,bl⟩::(cF m ps h).1,(cF m ps h).2):=by
 conv=>lhs;unfold cF
 rw[show Nat.testBit m (iJ.mk j id bl).i=false from ht,aW]
theorem eT{m j id:Nat}{bl:AB}{ps:List iJ}{h:T AB}(ht:Nat.testBit m j=true):cF m (⟨j,id,bl⟩::ps) h=cF m ps (h.set id (some bl)):=by
 conv=>lhs;unfold cF
 rw[show Nat.testBit m (iJ.mk j id bl).i=true from ht,aQ]
theorem oI{W:Nat→Prop}{h0:T AB}{base i:Nat}{l:List AO}{F:Fr}{S:St}{ps:List iJ}{last:Option Nat}{Q:Fr→St→List iJ→Prop}{d:Option Nat}{t s bytes n:Nat}{z:List AV}{lo co:cL}(hl:fI (lo.val F)=some n)(hc:fI (co.val F)=some n)(h1:n≤room)(h2:bytes * n≤room)
  (hr:fK fns W h0 base l (i+1) (cK d F (.sl (base+i) 0 n n false)) S (⟨i,base+i,.cells (repeatL z n) false 0⟩::ps) last Q):aF8 fns W h0 base (uL (.mkSlice t s bytes z lo co) F (base+i)) d l i F S ps last Q:=by
 rw[nK hl hc h1 h2,nL];exact hr
theorem gR.full{sel:dH→Int}{P P':List Int}{T:List dH}(h:gR sel P P' T 0)(hl:T.length=P.length):P'=T.map sel:=by
 refine Dp (by rw[Aj,h.1,hl]) fun j j1 j2=>?_;have h1:=h.2 j;rw[Aj] at j2;unfold vR at h1;rw[if_pos (De _),Nat.sub_zero,Ab j2,Ad,Ab j1] at h1;rw[List.getElem_map];exact h1
theorem aHb{g:aR}{T:List dH}(h:gS g=some T):∃e L,T=(-1,0,e)::L:=by
 unfold gS at h;simp only[fO] at h;split at h
 ·obtain⟨L,_,rfl⟩:=Aw.1 h;exact⟨_,_,rfl⟩
 ·cases h
theorem aJ9(m:Int)(L:List dH):aHQ m (L.map (·.2.1))=wW m L:=by
 unfold aHQ wW;rw[List.foldl_map]
theorem aLU{P:T AB→Prop}{h:T AB}{w b1 b2 b3:Nat}{c1 c2 c3 z:Option AB}(n1:w≠b1)(n2:w≠b2)(n3:w≠b3)(n4:b1≠b2)(n5:b1≠b3)(n6:b2≠b3)
  (H:∀h':T AB,h'.get w=c3→h'.get b1=z→h'.get b2=z→h'.get b3=z→(∀c,c≠w→c≠b1→c≠b2→c≠b3→h'.get c=h.get c)→P h'):P ((((((h.set b1 z).set w c1).set b2 z).set w c2).set b3 z).set w c3):=by
 refine H _ ?_ ?_ ?_ ?_ fun c h1 h2 h3 h4=>?_
 ·rw[T.get_set,if_pos rfl]
 ·rw[T.get_set,if_neg (Bq n1),T.get_set,if_neg n5,T.get_set,if_neg (Bq n1),T.get_set,if_neg n4,T.get_set,if_neg (Bq n1),T.get_set,if_pos rfl]
 ·rw[T.get_set,if_neg (Bq n2),T.get_set,if_neg n6,T.get_set,if_neg (Bq n2),T.get_set,if_pos rfl]
 ·rw[T.get_set,if_neg (Bq n3),T.get_set,if_pos rfl]
 ·rw[T.get_set,if_neg h1,T.get_set,if_neg h4,T.get_set,if_neg h1,T.get_set,if_neg h3,T.get_set,if_neg h1,T.get_set,if_neg h2]
def aOO(S2:St)(gb wb:Nat)(nv:AV)(g:aR)(k:Nat)(A:bH)(X:St):Prop:=A.inr=false∧Same S2 X∧∃i,i+k=g.nodes.length∧jX g.players g.infos.length g.nodes=jX g.players g.infos.length (g.nodes.drop i)∧aB 1 A.F= .ptr gb 0∧aB 4 A.F= .ptr wb 0∧aB 40 A.F=nv∧aB 41 A.F= .int .i64 ((g.nodes.length:Nat):Int)∧aB 42 A.F= .int .i64 (i:Int)
def aND(S S':St)(p nv iv:AV)(g:aR):Prop:=∃ (wb pb db lb:Nat) (T:List dH),p= .ptr wb 0∧S.nx≤wb∧gS g=some T∧T.length=g.nodes.length∧WK S' wb pb db lb g.nodes.length g.players nv iv (T.map (·.1)) (T.map (·.2.1)) (T.map (·.2.2))
theorem aGQ{S:St}{nv iv:AV}{g:aR}(H:Has fns)(hn:aH 6 bP S nv g.nodes)(hi:aH 2 cA S iv g.infos)(hln:g.nodes.length≤100000):
  gH fns (.fn 131 [] []) [.agg [.int .i64 g.players,nv,iv]] S fun r S'=>Same S S'∧∃p,r= .tup [p,.int .i64 (cP g)]∧(cP g=0→aND S S' p nv iv g):=by
 refine cI H.f131 (by simp) ?_;simp only[↓sU,sD,rE,↓reduceIte,rA];refine bQ ?_;refine cM (by simp only[↓sU,sD,rE,↓reduceIte,rA];exact bB _) ?_;intro S1 s1 n1 c1;simp only[↓sU,sD,rE,↓reduceIte,rA];have hnl:=hn.len;have hil:=hi.len;refine aA (aA (aY (Q:=fun o A' X=>o= .normal∧A'.inr=false∧X=S1∧aB 1 A'.F= .ptr S.nx 0∧aB 35 A'.F= .bool (decide (lP g))) (aJ ?_) ?_))
 ·by_cases h1:g.players<1
  ·rw[Ac (show lP g from .inl h1)];simp only[↓sU,sD,rE,↓reduceIte,rA,aC,aD,oY c1,eY c1,gG c1,hnl,hil,Ac h1]
  by_cases h2:(4:Int)<g.players
  ·rw[Ac (show lP g from .inr (.inl h2))];simp only[↓sU,sD,rE,↓reduceIte,rA,aC,aD,oY c1,eY c1,gG c1,hnl,hil,Aa h1,Ac h2]
  by_cases h3:((g.nodes.length:Nat):Int)<1
  ·rw[Ac (show lP g from .inr (.inr (.inl h3)))];simp only[↓sU,sD,rE,↓reduceIte,rA,aC,aD,oY c1,eY c1,gG c1,hnl,hil,Aa h1,Aa h2,Ac h3]
  by_cases h4:(2000:Int)<((g.nodes.length:Nat):Int)
  ·rw[Ac (show lP g from .inr (.inr (.inr (.inl h4))))];simp only[↓sU,sD,rE,↓reduceIte,rA,aC,aD,oY c1,eY c1,gG c1,hnl,hil,Aa h1,Aa h2,Aa h3,Ac h4]
  by_cases h5:(200:Int)<((g.infos.length:Nat):Int)
  ·rw[Ac (show lP g from .inr (.inr (.inr (.inr h5))))];simp only[↓sU,sD,rE,↓reduceIte,rA,aC,aD,oY c1,eY c1,gG c1,hnl,hil,Aa h1,Aa h2,Aa h3,Aa h4,Ac h5]
  ·rw[Aa (show ¬lP g by unfold lP;omega)];simp only[↓sU,sD,rE,↓reduceIte,rA,aC,aD,oY c1,eY c1,gG c1,hnl,hil,Aa h1,Aa h2,Aa h3,Aa h4,Aa h5]
 rintro o ⟨F,inr⟩ X ⟨rfl,q0,hX,p1,pb⟩;simp only at q0 p1 pb;subst q0;rw[hX];clear hX;try simp only[↓sU,sD,rE,↓reduceIte,rA]
 by_cases bad:lP g
 ·have hE:cP g=2:=by unfold cP;rw[if_pos bad]
  rw[hE];refine aO (by simp only[↓sU,sD,rE,↓reduceIte,rA,pb,Ac bad]) ?_;refine bQ ?_;simp only[↓sU,sD,rE,↓reduceIte,rA];refine aS ?_;simp only[↓sU,sD,rE,↓reduceIte,rA];exact⟨s1,_,rfl,fun h=>by cases h⟩
 refine aN (by simp only[↓sU,sD,rE,↓reduceIte,rA,pb,Aa bad]) (aI ?_);try simp only[↓sU,sD,rE,↓reduceIte,rA]
 have hps:1≤g.players∧g.players≤4:=by unfold lP at bad;omega
 have hN:g.nodes.length≤2000:=by unfold lP at bad;omega
 have hN0:0<g.nodes.length:=by unfold lP at bad;omega
 have hI:g.infos.length≤200:=by unfold lP at bad;omega
 have hbd:∀ (F:Fr) (h:T AB),aB 36 F= .agg [.int .i64 g.players,nv,iv]→fV (.build [.int .i64 0,.nilsl,.nilsl,.nilsl,.nilsl,.nilsl] [(0,3,.t 36)]) F h=some (.agg [.int .i64 g.players,nv,iv,.nilsl,.nilsl,.nilsl]):=fun F h he=>by
  show(aZ (eS _ (eB F [(0,3,.t 36)])) fun cs=>some (AV.agg cs))=_;simp only[eB,show(cL.t 36).val F= .agg [.int .i64 g.players,nv,iv] from he];rfl
 refine bQ ?_;simp only[↓aF,aE,rE,↓reduceIte,rA,p1,fR c1,hbd];refine cM (by simp only[↓aF,aE,rE,↓reduceIte];exact bB _) ?_;intro S2 s2 n2 c2;simp only[↓sU,sD,rE,↓reduceIte,rA];have sS2:Same S S2:=s1.trans s2;have hW:uP S2 S1.nx g.players nv iv .nilsl .nilsl .nilsl:=⟨c2,by omega⟩;have hn2:=aH.same (E:=bP) bF hn sS2;have gl2:S.nx<S2.nx:=by omega
 have c1':S2.h.get S.nx=some (.cells [.int .i64 g.players,nv,iv] false 0):=by rw[s2.2 _ (by omega)];exact c1
 refine aA (aY (Q:=fun o A' X=>(o= .normal∧aOO S2 S.nx S1.nx nv g 0 A' X)∨(o= .ret∧Same S2 X∧jX g.players g.infos.length g.nodes≠0∧aB 2 A'.F= .nilp∧aB 3 A'.F= .int .i64 (jX g.players g.infos.length g.nodes))) (aA (aJ ?_)) ?_)
 ·simp only[↓sU,sD,rE,↓reduceIte,rA,p1,aC,aD,eY c1',hnl];refine aL (bL (aOO S2 S.nx S1.nx nv g) ?_ g.nodes.length _ _ ⟨rfl,Same.refl _,0,by omega,by rw[Dk],by refine⟨?_,?_,?_,?_,?_⟩<;>simp only[↓sU,sD,rE,↓reduceIte,rA,p1]⟩);clear p1 pb;rintro k ⟨F,inr⟩ X ⟨q0,hX,i,hik,hE,p1,p4,p40,p41,p42⟩;simp only at q0 p1 p4 p40 p41 p42;subst q0;refine bQ ?_;simp only[↓sU,sD,rE,↓reduceIte,rA,p41,p42];by_cases hlt:i<g.nodes.length
  ·refine aA (aO (by simp only[↓sU,sD,rE,↓reduceIte,rA,Ac (show(i:Int)<((g.nodes.length:Nat):Int) by omega)]) (aI ?_));simp only[↓sU,sD,rE,↓reduceIte,rA];obtain⟨x,hx⟩:∃x,g.nodes[i]? =some x:=⟨_,Ab hlt⟩;obtain⟨e,b,q,hia,hb,he,hNE,hag,_⟩:=aH.at (aH.same (E:=bP) bF hn2 hX) (by decide) hx;have hdrop:g.nodes.drop i=x::g.nodes.drop (i+1):=by
    rw[Bt hlt];congr 1;rw[Ab hlt] at hx;exact Bn hx
   have w1:IntKind.i64.wrap ((i:Int)+1)=((i+1:Nat):Int):=by rw[wrap_i64 (by omega) (by omega)];omega
   refine aA (aL (aA (aJ ?_)));simp only[↓aF,aE,rE,↓reduceIte,rA,p40,p42,aG,hia,hag];refine cH ?_;intro X1 x1 m1 d1;refine dB (b:=X.nx) (by simp only[↓aF,aE,rE,↓reduceIte,rA]) (by simp only[↓aF,aE,rE,↓reduceIte,rA];exact bB _) d1 rfl he ?_;intro X2 x2 m2 d2;simp only[↓aF,aE,rE,↓reduceIte,rA];have hX2:Same X X2:=x2.same x1 (Ah _);refine bQ ?_;simp only[↓sU,sD,rE,↓reduceIte,rA,p4,iA d2 he];refine bG ?_;simp only[↓sU,sD,rE,↓reduceIte,rA];refine aX (aJe H (bF hNE hX2) (hW.same (hX.trans hX2)) hps hil (by omega) (aH.self hi)) ?_;rintro _ Y ⟨rfl,hY⟩;have hSY:=(hX.trans hX2).trans hY;rw[hdrop] at hE;simp only[jX] at hE;try simp only[↓sU,sD,rE,↓reduceIte,rA]
   refine bQ ?_;simp only[↓sU,sD,rE,↓reduceIte,rA];by_cases he0:gK g.players g.infos.length x=0
   ·rw[if_neg (fun h=>h he0)] at hE;refine aN (by simp only[↓sU,sD,rE,↓reduceIte,rA,Aa (show ¬gK g.players g.infos.length x≠0 from fun h=>h he0)]) (aI ?_);try simp only[↓sU,sD,rE,↓reduceIte,rA]
    refine aJ ?_;simp only[↓sU,sD,rE,↓reduceIte,rA,p42,w1];exact⟨k - 1,by omega,rfl,hSY,i+1,by omega,hE,by refine⟨?_,?_,?_,?_,?_⟩<;>simp only[↓sU,sD,rE,↓reduceIte,rA,p1,p4,p40,p41]⟩
   ·rw[if_pos he0] at hE;refine aO (by simp only[↓sU,sD,rE,↓reduceIte,rA,Ac (show gK g.players g.infos.length x≠0 from he0)]) ?_;refine bQ ?_;simp only[↓sU,sD,rE,↓reduceIte,rA];refine aS ?_;simp only[↓sU,sD,rE,↓reduceIte,rA];exact .inr ⟨hSY,by rw[hE];exact he0,by rw[hE]⟩
  ·refine aA (aN (by simp only[↓sU,sD,rE,↓reduceIte,rA,Aa (show ¬ (i:Int)<((g.nodes.length:Nat):Int) by omega)]) (bM ?_));simp only[↓sU,sD,rE,↓reduceIte,rA];have hk0:k=0:=by omega
   subst hk0;exact .inl ⟨rfl,hX,i,hik,hE,by refine⟨?_,?_,?_,?_,?_⟩<;>simp only[↓sU,sD,rE,↓reduceIte,rA,p1,p4,p40,p41,p42]⟩
 clear p1 pb;rintro o ⟨F,inr⟩ X (⟨rfl,q0,hX,i,hik,hE,p1,p4,p40,p41,p42⟩ | ⟨rfl,hX,hne,p2,p3⟩);rotate_left
 ·simp only at p2 p3;simp only[↓sU,sD,rE,↓reduceIte,rA,p2,p3];have hE:cP g=jX g.players g.infos.length g.nodes:=by unfold cP;rw[if_neg bad,if_pos hne]
  rw[hE];exact⟨sS2.trans hX,_,rfl,fun h=>absurd h hne⟩
 simp only at q0 p1 p4;subst q0;rw[Ch (by omega)] at hE;have hform:cP g=match gS g with | none=>9 | some T=>if T.length≠g.nodes.length then 9 else if 40<wW 0 T then 5 else zD g:=by
  conv=>lhs;unfold cP
  rw[if_neg bad,if_neg (fun h=>h hE)]
  first | done | (cases gS g<;>rfl)
 have sX:=sS2.trans hX;have cX:X.h.get S.nx=some (.cells [.int .i64 g.players,nv,iv] false 0):=by rw[hX.2 _ gl2];exact c1'
 have wX:=(hW.same hX).1;have ltw:=(hW.same hX).2;have ltg:S.nx<X.nx:=Ae gl2 hX.1;have nwg:¬S.nx=S1.nx:=by omega
 try simp only[↓sU,sD,rE,↓reduceIte,rA]
 refine aA (sL (fun b=>b=S1.nx) ?_);intro X1 x1 hx1 hm1;simp only[↓sU,sD,rE,↓reduceIte,rA,p1,p4,aC,aU,aD,eY cX,ltg,nwg,Al,hnl,aH.self hn];refine oI (n:=g.nodes.length) (by simp only[↓sU,sD,rE,↓reduceIte,rA,aG]) (by simp only[↓sU,sD,rE,↓reduceIte,rA,aG]) (by unfold room;omega) (by unfold room;omega) ?_;simp only[↓sU,sD,rE,↓reduceIte,rA,p1,p4,aC,aU,aD,eY cX,ltg,nwg,Al,hnl,aH.self hn];refine oI (n:=g.nodes.length) (by simp only[↓sU,sD,rE,↓reduceIte,rA,aG]) (by simp only[↓sU,sD,rE,↓reduceIte,rA,aG]) (by unfold room;omega) (by unfold room;omega) ?_;simp only[↓sU,sD,rE,↓reduceIte,rA,p1,p4,aC,aU,aD,eY cX,ltg,nwg,Al,hnl,aH.self hn];refine oI (n:=g.nodes.length) (by simp only[↓sU,sD,rE,↓reduceIte,rA,aG]) (by simp only[↓sU,sD,rE,↓reduceIte,rA,aG]) (by unfold room;omega) (by unfold room;omega) ?_;simp only[↓sU,sD,rE,↓reduceIte,rA,p1,p4,bJ,bX,bI,aC,aU,aD];have hz:repeatL [AV.int .i64 0] g.nodes.length=aP (List.replicate g.nodes.length 0):=by rw[repeatL_one];simp [aP]
 rw[hz];have n6:¬S1.nx=X.nx+6:=by omega
 have n10:¬S1.nx=X.nx+10:=by omega
 have n14:¬S1.nx=X.nx+14:=by omega
 refine zJ (b:=S1.nx) (p:=3) (w:=.sl (X.nx+6) 0 g.nodes.length g.nodes.length false) (cs:=[.int .i64 g.players,nv,iv,.nilsl,.nilsl,.nilsl]) (o:=false) (sz:=0) ((yW (show Nat.testBit 98425 14=false by decide)).trans (by rw[yW (show Nat.testBit 98425 10=false by decide),eT (show Nat.testBit 98425 6=true by decide),bE])) rfl (by simp only[↓sU,sD,rE,↓reduceIte,rA]) (by simp only[↓sU,sD,rE,↓reduceIte,rA];rfl) (by rw[T.get_set,if_neg n6,hx1];exact wX) (by simp) rfl ?_;simp only[↓sU,sD,rE,↓reduceIte,rA,p1,p4,bJ,bX,bI,aC,aU,aD];refine zJ (b:=S1.nx) (p:=4) (w:=.sl (X.nx+10) 0 g.nodes.length g.nodes.length false) (cs:=[.int .i64 g.players,nv,iv,.sl (X.nx+6) 0 g.nodes.length g.nodes.length false,.nilsl,.nilsl]) (o:=false) (sz:=0) ((yW (show Nat.testBit 1017851 14=false by decide)).trans (by rw[eT (show Nat.testBit 1017851 10=true by decide),bE])) rfl (by simp only[↓sU,sD,rE,↓reduceIte,rA]) (by simp only[↓sU,sD,rE,↓reduceIte,rA];rfl) (by rw[T.get_set,if_neg n10,T.get_set,if_pos rfl];rfl) (by simp) rfl ?_;simp only[↓sU,sD,rE,↓reduceIte,rA,p1,p4,bJ,bX,bI,aC,aU,aD];refine zJ (b:=S1.nx) (p:=5) (w:=.sl (X.nx+14) 0 g.nodes.length g.nodes.length false) (cs:=[.int .i64 g.players,nv,iv,.sl (X.nx+6) 0 g.nodes.length g.nodes.length false,.sl (X.nx+10) 0 g.nodes.length g.nodes.length false,.nilsl]) (o:=false) (sz:=0) ((eT (show Nat.testBit 8388607 14=true by decide)).trans (bE _ _)) rfl (by simp only[↓sU,sD,rE,↓reduceIte,rA]) (by simp only[↓sU,sD,rE,↓reduceIte,rA];rfl) (by rw[T.get_set,if_neg n14,T.get_set,if_pos rfl];rfl) (by simp) rfl ?_;simp only[↓sU,sD,rE,↓reduceIte,rA];refine aLU (P:=fun h'=>iH fns _ _ ⟨h',X1.nx⟩ _) n6 n10 n14 (by omega) (by omega) (by omega) ?_;intro Zh gw g1 g2 g3 gr;have hm1:X1.nx=X.nx+24:=hm1;have sZ:Same S ⟨Zh,X1.nx⟩:=⟨by show S.nx≤X1.nx;have:=sX.1;omega,fun c hc=>by
  have:=sX.1;show Zh.get c=S.h.get c;rw[gr c (by omega) (by omega) (by omega) (by omega),hx1];exact sX.2 c hc⟩
 have cZ:Zh.get S.nx=some (.cells [.int .i64 g.players,nv,iv] false 0):=by
  rw[gr _ (by omega) (by omega) (by omega) (by omega),hx1];exact cX
 have hK:WK ⟨Zh,X1.nx⟩ S1.nx (X.nx+6) (X.nx+10) (X.nx+14) g.nodes.length g.players nv iv (List.replicate g.nodes.length 0) (List.replicate g.nodes.length 0) (List.replicate g.nodes.length 0):=⟨⟨gw,by show S1.nx<X1.nx;omega⟩,g1,g2,g3,Ar ..,Ar ..,Ar ..,by show _<X1.nx;omega,by show _<X1.nx;omega,by show _<X1.nx;omega⟩;generalize hZ:(⟨Zh,X1.nx⟩:St)=Z at *;have cZ:Z.h.get S.nx=some (.cells [.int .i64 g.players,nv,iv] false 0):=by rw[←hZ];exact cZ
 have lz:S1.nx<Z.nx:=hK.w.2;have hall:=gN hE;refine gC ?_;simp only[↓sU,sD,rE,↓reduceIte,rA,p1,p4,aC,aD,eY cZ];refine bG ?_;simp only[↓sU,sD,rE,↓reduceIte,rA];rw[show Int.negSucc 0=(-1:Int) from rfl];refine aX (aJg (rv:=nv) H hn (by omega) (by have:=sX.1;omega) (by have:=sX.1;omega) (by have:=sX.1;omega) (by omega) (by omega) (by omega) n6 n10 n14 hN (fun x hx=>aAN (hall x hx)) (g.nodes.length+1) (at_:=0) (p:= -1) (d:=0) (by omega) (by decide) (by decide) (by omega) sZ hK (by rw[Dk];exact hn)) ?_;rintro r Y ⟨hY,P',D',L',hKY,hres⟩;have sY:Same S Y:=hY.same sZ (by have:=sX.1;omega) (by have:=sX.1;omega) (by have:=sX.1;omega);have hres':match gS g with | some T=>(∃v,r= .tup [v,.bool true]∧aH 6 bP S v (g.nodes.drop (0+T.length)))∧gR (·.1) (List.replicate g.nodes.length 0) P' T 0∧gR (·.2.1) (List.replicate g.nodes.length 0) D' T 0∧gR (·.2.2) (List.replicate g.nodes.length 0) L' T 0 | none=>r= .tup [.nilsl,.bool false]:=hres
 clear hres;cases hw:gS g with
 | none=>
  rw[hw] at hres' hform;subst hres';simp only at hform;rw[hform];simp only[↓sU,sD,rE,↓reduceIte,rA,uW,vE];refine bQ ?_;simp only[↓sU,sD,rE,↓reduceIte,rA,gE,Ee];refine aO (by simp only[↓sU,sD,rE,↓reduceIte,rA]) ?_;refine bQ ?_;simp only[↓sU,sD,rE,↓reduceIte,rA];refine aS ?_;simp only[↓sU,sD,rE,↓reduceIte,rA];exact⟨sY,_,rfl,fun h=>by cases h⟩
 | some T=>
  rw[hw] at hres' hform;obtain⟨⟨v,rfl,hv⟩,rP,rD,rL⟩:=hres';simp only at hform;have hTl:=(wG (show fO g.nodes.length (dU g) (g.nodes.length+1) 0 (-1) 0=some T from hw)).1;have hvl:=hv.len;rw[Dq] at hvl;simp only[↓sU,sD,rE,↓reduceIte,rA,uW,vE];refine bQ ?_;simp only[↓sU,sD,rE,↓reduceIte,rA,gE,Cz,hvl];by_cases hT:T.length=g.nodes.length;rotate_left
  ·rw[hform,if_pos hT];refine aO (by simp only[↓sU,sD,rE,↓reduceIte,rA,Ac (show(0:Int)<((g.nodes.length - (0+T.length):Nat):Int) by omega)]) ?_;refine bQ ?_;simp only[↓sU,sD,rE,↓reduceIte,rA];refine aS ?_;simp only[↓sU,sD,rE,↓reduceIte,rA];exact⟨sY,_,rfl,fun h=>by cases h⟩
  rw[if_neg (fun h=>h hT)] at hform;refine aN (by simp only[↓sU,sD,rE,↓reduceIte,rA,Aa (show ¬ (0:Int)<((g.nodes.length - (0+T.length):Nat):Int) by omega)]) (aI ?_);try simp only[↓sU,sD,rE,↓reduceIte,rA]
  have eP:=rP.full (by rw[Ar];exact hT);have eD:=rD.full (by rw[Ar];exact hT);have eL:=rL.full (by rw[Ar];exact hT);subst eP eD eL;have hrow:=aDf hKY.gd hKY.bd hKY.ld;obtain⟨e,L,hTe⟩:=aHb hw;have hmax:aHQ ((T.map (·.2.1)).getD 0 0) ((T.map (·.2.1)).drop 1)=wW 0 T:=by
   rw[hTe];show aHQ 0 (L.map (·.2.1))=wW 0 ((-1,0,e)::L);rw[aJ9,aIH];rfl
  refine gC ?_;simp only[↓sU,sD,rE,↓reduceIte,rA,p1,p4,bJ,bI,aC,aD,dC hKY.w.1];refine bG ?_;simp only[↓sU,sD,rE,↓reduceIte,rA];refine aX (aJU H hrow (by rw[Aj];omega) (by rw[Aj];omega)) ?_;rintro _ Y2 ⟨rfl,hY2⟩;rw[hY2,hmax];simp only[↓sU,sD,rE,↓reduceIte,rA];by_cases h40:40<wW 0 T
  ·rw[hform,if_pos h40];refine aO (by simp only[↓sU,sD,rE,↓reduceIte,rA,Ac h40]) ?_;refine bQ ?_;simp only[↓sU,sD,rE,↓reduceIte,rA];refine aS ?_;simp only[↓sU,sD,rE,↓reduceIte,rA];exact⟨sY,_,rfl,fun h=>by cases h⟩
  rw[if_neg h40] at hform;refine aN (by simp only[↓sU,sD,rE,↓reduceIte,rA,Aa h40]) (aI ?_);try simp only[↓sU,sD,rE,↓reduceIte,rA]
  refine bQ ?_;simp only[↓sU,sD,rE,↓reduceIte,rA,p1,p4];refine bG ?_;simp only[↓sU,sD,rE,↓reduceIte,rA];refine aX (aJj H hKY.w (aH.same (E:=bP) bF hn sY) (aH.same (E:=cA) bO hi sY) hN hI (fun x hx h2=>aBa (hall x hx) h2)) ?_;rintro _ Y3 ⟨rfl,hY3⟩;try simp only[↓sU,sD,rE,↓reduceIte,rA,p4]
  refine aS ?_;simp only[↓sU,sD,rE,↓reduceIte,rA];rw[hform];refine⟨sY.trans hY3,_,rfl,fun _=>⟨S1.nx,_,_,_,T,rfl,by omega,hw,hT,⟨hKY.w.same hY3,by rw[hY3.2 _ hKY.bp];exact hKY.gp,by rw[hY3.2 _ hKY.bd];exact hKY.gd,by rw[hY3.2 _ hKY.bl];exact hKY.gl,hKY.lp,hKY.ld,hKY.ll,Ae hKY.bp hY3.1,Ae hKY.bd hY3.1,Ae hKY.bl hY3.1⟩⟩⟩
theorem aDS{S:St}{wb:Nat}{ps:Int}{n i p d l:AV}(H:Has fns)(hW:uP S wb ps n i p d l):gH fns (.fn 159 [] []) [.ptr wb 0] S fun r S'=>r=p∧Same S S':=by
 refine cI H.f159 (by simp) ?_;simp only[↓sU,sD,rE,↓reduceIte,rA];refine bQ ?_;simp only[↓sU,sD,rE,↓reduceIte,rA];refine bQ ?_;simp only[↓sU,sD,rE,↓reduceIte,rA,bJ,bI,aC,aD,cT hW.1];refine aS ?_;simp only[↓sU,sD,rE,↓reduceIte,rA];exact Same.refl _
def aMQ(S S':St)(v:AV)(g:aR):Prop:=(cP g≠0→v= .nilsl)∧(cP g=0→∃T,gS g=some T∧T.length=g.nodes.length∧bK .i64 S' v (T.map (·.1)))
theorem aFm{S:St}{nv iv:AV}{g:aR}(H:Has fns)(hn:aH 6 bP S nv g.nodes)(hi:aH 2 cA S iv g.infos)(hln:g.nodes.length≤100000):
  gH fns (.fn 119 [] []) [.agg [.int .i64 g.players,nv,iv]] S fun r S'=>∃v,r= .tup [v,.int .i64 (cP g)]∧Same S S'∧aMQ S S' v g:=by
 refine cI H.f119 (by simp) ?_;simp only[↓sU,sD,rE,↓reduceIte,rA];refine bQ ?_;refine cM (by simp only[↓sU,sD,rE,↓reduceIte,rA];exact bB _) ?_;intro S1 s1 n1 c1;simp only[↓sU,sD,rE,↓reduceIte,rA];refine bQ ?_;simp only[↓sU,sD,rE,↓reduceIte,rA,fR c1];refine bG ?_;simp only[↓sU,sD,rE,↓reduceIte,rA];have hn1:=aH.same (E:=bP) bF hn s1;have hi1:=aH.same (E:=cA) bO hi s1;refine aX (Q:=fun r X=>∃v,r= .tup [v,.int .i64 (cP g)]∧Same S1 X∧aMQ S1 X v g) ?_ ?_
 ·refine cI H.f158 (by simp) ?_;simp only[↓sU,sD,rE,↓reduceIte,rA];refine bQ ?_;refine cM (by simp only[↓sU,sD,rE,↓reduceIte,rA];exact bB _) ?_;intro S2 s2 n2 c2;simp only[↓sU,sD,rE,↓reduceIte,rA];refine bQ ?_;simp only[↓sU,sD,rE,↓reduceIte,rA,fR c2];refine bG ?_;simp only[↓sU,sD,rE,↓reduceIte,rA];refine aX (aGQ H (aH.same (E:=bP) bF hn1 s2) (aH.same (E:=cA) bO hi1 s2) hln) ?_;rintro _ X ⟨hX,p,rfl,hok⟩;simp only[↓sU,sD,rE,↓reduceIte,rA,uW,vE];refine gC ?_;simp only[↓sU,sD,rE,↓reduceIte,rA];by_cases h0:cP g=0
  ·refine aN (by simp only[↓sU,sD,rE,↓reduceIte,rA,Aa (show ¬cP g≠0 from fun h=>h h0)]) (aI ?_);try simp only[↓sU,sD,rE,↓reduceIte,rA]
   obtain⟨wb,pb,db,lb,T,rfl,_,hT,hTl,hK⟩:=hok h0;refine bQ ?_;simp only[↓sU,sD,rE,↓reduceIte,rA];refine bG ?_;simp only[↓sU,sD,rE,↓reduceIte,rA];refine aX (aDS H hK.w) ?_;rintro _ Y ⟨rfl,hY⟩;try simp only[↓sU,sD,rE,↓reduceIte,rA]
   refine aS ?_;simp only[↓sU,sD,rE,↓reduceIte,rA];rw[h0];refine⟨_,rfl,(s2.trans hX).trans hY,fun h=>absurd h0 h,fun _=>⟨T,hT,hTl,?_⟩⟩;exact(aDf hK.gp hK.bp hK.lp).same hY
  ·refine aO (by simp only[↓sU,sD,rE,↓reduceIte,rA,Ac (show cP g≠0 from h0)]) ?_;refine bQ ?_;simp only[↓sU,sD,rE,↓reduceIte,rA];refine bQ ?_;simp only[↓sU,sD,rE,↓reduceIte,rA];refine aS ?_;simp only[↓sU,sD,rE,↓reduceIte,rA];exact⟨_,rfl,s2.trans hX,fun _=>rfl,fun h=>absurd h h0⟩
 rintro _ X ⟨v,rfl,hX,hP⟩;simp only[↓sU,sD,rE,↓reduceIte,rA,uW,vE];refine aS ?_;simp only[↓sU,sD,rE,↓reduceIte,rA];exact⟨_,rfl,s1.trans hX,hP⟩
theorem aM3{S:St}{t:Nat}{x:AV}{o:Bool}{sz:Nat}(h:S.h.get t=some (.cells [x] o sz)):fG (.sl t 0 1 1 false) S.h 1 1=some [x]:=by
 show aZ (cN S.h t) (fun cs=>cut cs 0 (1 * 1))=_;unfold cN;rw[h];rfl
theorem fP.push{bytes t:Nat}{S0 S:St}{v:AV}{l:List Int}{w:Int}(h:fP 1 S0 S v l.length (aP l))(hS:Same S0 S)(ht:S.h.get t=some (.cells [.int .i64 w] false 0))(h1:l.length+1≤room)(h2:(l.length+1) * bytes≤room):
  ∃v' S',jK bytes 1 v (.sl t 0 1 1 false) S=some (v',S')∧fP 1 S0 S' v' (l++ [w]).length (aP (l++ [w]))∧bD v'=some S.nx∧S'.nx=S.nx+1∧∀c,c<S.nx→bD v≠some c→S'.h.get c=S.h.get c:=by
 have hs:=aM3 ht;have e0:aP (l++ [w])=aP l++ [.int .i64 w]:=by simp [aP]
 have e1:(l++ [w]).length=l.length+1:=by simp
 rw[e0,e1];generalize hn:l.length=n at *;rcases h with⟨rfl,rfl,h0⟩ | ⟨b,rfl,hb0,hb,hg,hc⟩
 ·refine⟨.sl S.nx 0 1 1 true,⟨S.h.set S.nx (some (.cells [.int .i64 w] true 1)),S.nx+1⟩,?_,.inr ⟨S.nx,by rw[Ao],hS.1,by simp,?_,?_⟩,rfl,rfl,fun c hc _=>(Same.alloc S _).2 c hc⟩
  ·show(aZ (some 1) fun j=>aZ (fG (.sl t 0 1 1 false) S.h 1 j) fun new=>aCN .nilsl bytes 1 j new S)=_;rw[aK,hs,aK];show rX bytes 1 1 [.int .i64 w] S=_;unfold rX;rw[show Nat.beq 1 0=false from rfl,aW,Au (by omega),aQ,Au (by rw[Ao] at h2;exact h2),aQ];rfl
  ·simp only;rw[T.get_set,if_pos rfl,h0];rfl
  ·rw[h0];rfl
 ·refine⟨.sl S.nx 0 (n+1) (n+1) true,⟨(S.h.set b none).set S.nx (some (.cells (aP l++ [.int .i64 w]) true 1)),S.nx+1⟩,?_,.inr ⟨S.nx,rfl,hS.1,by simp,?_,by rw[Am,hc,Bi,Dy,Nat.one_mul]⟩,rfl,rfl,fun c hc hne=>?_⟩
  ·show(aZ (some 1) fun j=>aZ (fG (.sl t 0 1 1 false) S.h 1 j) fun new=>aCN (.sl b 0 n n true) bytes 1 j new S)=_;rw[aK,hs,aK];show qS bytes 1 b 0 n n true 1 [.int .i64 w] S=_;unfold qS;have e2:Nat.ble (n+1) n=false:=by rw[Ef];intro h;have:=Az h;omega
   rw[e2,aW,Au h1,aQ,Au h2,aQ,hg,aK];have e3:cut (aP l) 0 (n * 1)=some (aP l):=by
    unfold cut;rw[jE,jZ,Dk,if_pos (by omega),Bb (by omega)]
   have e4:Nat.beq (0+n * 1) (lI (aP l))=true:=by rw[fL,hc,Bh];omega
   simp only[aBh,e3,aK,aQ,e4,show Nat.beq 1 1=true from rfl,grown,fS]
  ·simp only;rw[T.get_set,if_pos rfl]
  ·simp only;have:c≠b:=fun e=>hne (by rw[e];rfl);rw[T.get_set,if_neg (by omega),T.get_set,if_neg this]
theorem fP.self{k n:Nat}{S0 S:St}{v:AV}{cs:List AV}(h:fP k S0 S v n cs):cC v v=true:=by
 rcases h with⟨rfl,_⟩ | ⟨b,rfl,_⟩
 ·rfl
 ·exact nS ..
theorem fP.cells{k n:Nat}{S0 S:St}{v:AV}{cs:List AV}(h:fP k S0 S v n cs):v.cells=some [v]:=by
 rcases h with⟨rfl,_⟩ | ⟨b,rfl,_⟩<;>rfl
noncomputable def aMJ:List AO:=[mt 25 3,
oq 26 (.faddr 2 (.t 5)),
om 27 2 (ld 26),
mt 28 3,
oq 29 (.faddr 2 (.t 5)),
om 30 16 (ld 29),
om 31 56 (.iaddr (.slice 1) (.t 28) (.t 30)),
om 32 120 (ld 31),
mt 33 4,
⟨(some 34),(.a (.bslice 3 1 1 [(.int .i64 0)] [(0,(.t 33))])),none,256⟩,
⟨(some 35),(.x (.app 3 1 8 (.t 32) (.t 34))),none,1016⟩,
om 36 2047 (.iaddr (.slice 1) (.t 25) (.t 27)),
⟨none,(.x (.st 1 (.t 36) (.t 35))),none,4095⟩]
theorem eE{h:T AB}{b p:Nat}{cs:List AV}{x:AV}{o:Bool}{s:Nat}(hb:h.get b=some (.cells cs o s))(hj:cs[p]? =some x):eH (.ptr b p) false 1 h=some x:=by
 have:=ldc (j:=p) hb hj;rw[Ao] at this;exact this
theorem aKP{F:Fr}{S0 S:St}{inr:Bool}{ob nb n i NI:Nat}{cs:List AV}{a c0 c1 c3 c4 c5:AV}{l:List Int}{Q:Out→bH→St→Prop}(p3:aB 3 F= .sl ob 0 NI NI false)(p4:aB 4 F= .int .i64 (i:Int))(p5:aB 5 F= .ptr nb 0)
  (hnb:S.h.get nb=some (.cells [c0,c1,.int .i64 (n:Int),c3,c4,c5] false 0)) (hob:S.h.get ob=some (.cells cs false 0)) (hcs:cs.length=NI) (hn:cs[n]? =some a) (ha:fP 1 S0 S a l.length (aP l)) (hS:Same S0 S) (lnb:nb<S.nx) (lob:ob<S.nx) (ne1:bD a≠some ob) (ne2:bD a≠some nb) (hl:l.length≤100000)
  (hQ:∀F' S' a',aB 1 F'=aB 1 F→aB 3 F'=aB 3 F→aB 4 F'=aB 4 F→S.nx≤S'.nx→S'.h.get ob=some (.cells (cs.set n a') false 0)→fP 1 S0 S' a' (l++ [(i:Int)]).length (aP (l++ [(i:Int)]))→(∃b',bD a'=some b'∧S.nx≤b'∧b'<S'.nx)→(∀c,c<S.nx→c≠ob→bD a≠some c→S'.h.get c=S.h.get c)→Q .normal ⟨F',inr⟩ S'):iH fns (.drw aMJ) ⟨F,inr⟩ S Q:=by
 have hlt:n<cs.length:=(Ai.1 hn).1;have hia:=dT (b:=ob) (N:=NI) (o:=false) (show n<NI by omega);have hldo:=eE hob hn;have he:∀F id,aB 33 F= .int .i64 (i:Int)→uL (.bslice 3 1 1 [AV.int .i64 0] [(0,.t 33)]) F id=some (.sl id 0 1 1 false,.cells [.int .i64 (i:Int)] false 0):=fun F id h=>mH h;have sB:Same S ⟨S.h.set (S.nx+9) (some (.cells [.int .i64 (i:Int)] false 0)),S.nx+13⟩:=⟨by simp,fun c hc=>by simp only;rw[T.get_set,if_neg (by omega)]⟩;obtain⟨a',S1,eA,gA,bA,nA,rA⟩:=fP.push (bytes:=8) (t:=S.nx+9) (w:=(i:Int)) (ha.step sB) (hS.trans sB) (by simp only;rw[T.get_set,if_pos rfl]) (by unfold room;omega) (by unfold room;omega);simp only at bA nA rA;have hob1:S1.h.get ob=some (.cells cs false 0):=by rw[rA _ (by omega) ne1];exact(sB.2 _ lob).trans hob
 have hnb1:S1.h.get nb=some (.cells [c0,c1,.int .i64 (n:Int),c3,c4,c5] false 0):=by rw[rA _ (by omega) ne2];exact(sB.2 _ lnb).trans hnb
 refine qO ?_;unfold aMJ;simp only[lA,dW,aFf,aC,aD,pK,lN,fD,cE,rE,↓reduceIte,p3,p4,p5,aG,aK,hia,hldo,cQ hnb,wR,kI,pL,aU,aQ,aW,aHx,he,rA];refine jP (v:=a') (S1:=S1) rfl (fun call=>?_) ?_
 ·rw[dF (show Nat.testBit 1016 9=true by decide),iG];simp only[fD,cE,rE,↓reduceIte];exact eA
 rw[dF (show Nat.testBit 1016 9=true by decide)];simp only[lA,dW,pK,fD,cE,rE,↓reduceIte,aG,aK,hia,kI,aW];refine jP (v:=.undef) (S1:=⟨S1.h.set ob (some (.cells (cs.set n a') false 0)),S1.nx⟩) (show Nat.testBit 4095 10=true by decide) (fun call=>?_) ?_
 ·rw[dN];simp only[fD,cE,rE,↓reduceIte,gA.cells,aK];exact stc (S:=S1) hob1 hlt
 rw[fZ];have hsa:=ha.self;refine⟨?_,?_⟩
 ·have e1:∀ (v:AV) (G:Fr) (sl p msk ii:Nat) (X1 X2:T AB) (b:Nat),aB sl G= .ptr b p→eH (.ptr b p) false 1 S.h=some v→cC v v=true→Nat.testBit msk 10=false→Nat.testBit 1016 ii=true→eI ⟨.ld false 1 (.t sl),G,v,ii,msk⟩ [(10,1016,X1),(12,4095,X2)] S.h=true:=fun v G sl p msk ii X1 X2 b h1 h2 h3 h4 h5=>by
   unfold eI;have e:fV (.ld false 1 (.t sl)) G S.h=some v:=by rw[lN,fD,h1];exact h2
   simp only[h4,h5,aW,aQ,e,jA,h3]
  have e2:∀ (v:AV) (G:Fr) (sl p msk ii:Nat) (X1 X2:T AB) (b:Nat),aB sl G= .ptr b p→eH (.ptr b p) false 1 S.h=some v→eH (.ptr b p) false 1 X1=some v→cC v v=true→Nat.testBit msk 10=false→Nat.testBit msk 12=false→Nat.testBit 1016 ii=false→Nat.testBit 4095 ii=true→eI ⟨.ld false 1 (.t sl),G,v,ii,msk⟩ [(10,1016,X1),(12,4095,X2)] S.h=true:=fun v G sl p msk ii X1 X2 b h1 h2 h2' h3 h4 h4' h5 h6=>by
   have e:fV (.ld false 1 (.t sl)) G S.h=some v:=by rw[lN,fD,h1];exact h2
   have e':fV (.ld false 1 (.t sl)) G X1=some v:=by rw[lN,fD,h1];exact h2'
   unfold eI;simp only[h4,h5,aW,aQ,e,jA,h3];unfold eI;simp only[h4',h6,aW,aQ,e',jA,h3]
  simp only[Bz,List.reverse_nil,Cc,Cf,mL,vP];rw[e1 a _ 31 n 120 7 _ _ ob (by simp only[cE,rE,↓reduceIte]) hldo hsa (by decide) (by decide),e1 _ _ 29 (0+2) 16 5 _ _ nb (by simp only[cE,rE,↓reduceIte]) (cQ hnb) (cS ..) (by decide) (by decide),e2 _ _ 26 (0+2) 2 2 _ _ nb (by simp only[cE,rE,↓reduceIte]) (cQ hnb) (cQ hnb1) (cS ..) (by decide) (by decide) (by decide) (by decide)];rfl
 ·have hobA:bD a'≠some ob:=by rw[bA];intro h;have:=Bn h;omega
  have hS1:S.nx≤S1.nx:=by omega
  refine hQ _ _ a' (by simp only[↓sU,sD,rE,↓reduceIte,rA]) (by simp only[↓sU,sD,rE,↓reduceIte,rA]) (by simp only[↓sU,sD,rE,↓reduceIte,rA]) hS1 (by simp only[bE];rw[T.get_set,if_pos rfl]) ?_ ⟨_,bA,by omega,by show _<S1.nx;omega⟩ fun c hc h1 h2=>?_
  ·rcases gA with h | ⟨b,h1,h2,h3,h4,h5⟩
   ·rw[h.1] at bA;cases bA
   ·refine .inr ⟨b,h1,h2,h3,?_,h5⟩;simp only[bE];rw[T.get_set,if_neg (fun e=>hobA (by rw[h1,←e];rfl))];exact h4
  ·simp only[bE];rw[T.get_set,if_neg h1,rA _ (by omega) h2];exact sB.2 _ hc
def lD:List dG→Nat→Nat→List Int
 | [],_,_=>[]
 | x::l,s,i=>if x.kind=2∧x.info=(i:Int) then(s:Int)::lD l (s+1) i else lD l (s+1) i
theorem aAC(x:dG)(i:Nat):∀ (l:List dG) (s:Nat),lD (l++ [x]) s i=if x.kind=2∧x.info=(i:Int) then lD l s i++ [((s+l.length:Nat):Int)] else lD l s i
 | [],s=>by
  simp only[Cc,lD,Bv,Br]
 | y::l,s=>by
  simp only[Cf,lD];rw[aAC x i l (s+1),Ay,show s+1+l.length=s+(l.length+1) by omega];split<;>split<;>rfl
theorem aFJ(i:Nat):∀ (l:List dG) (s:Nat),(lD l s i).length≤l.length
 | [],_=>Ah _
 | y::l,s=>by
  simp only[lD];have:=aFJ i l (s+1);split
  ·rw[Ay,Ay];omega
  ·rw[Ay];omega
def aGm(g:aR):List (List Int):=(List.range g.infos.length).map (lD g.nodes 0)
def iX(S:St)(cs:List AV)(l:List Int):Prop:=∃a,cs= [a]∧bK .i64 S a l
theorem firm_sl:qA iX:=fun⟨a,h,h1⟩ hs=>⟨a,h,h1.same hs⟩
theorem fP.is{S0 S:St}{v:AV}{l:List Int}(h:fP 1 S0 S v l.length (aP l)):bK .i64 S v l:=by
 rcases h with⟨rfl,h0,_⟩ | ⟨b,rfl,h1,h2,h3,h4⟩
 ·exact .inl ⟨Bw.1 h0,.inl rfl⟩
 ·refine .inr ⟨b,0,l.length,true,aP l,rfl,Ah _,h2,by unfold cN;rw[h3];rfl,fun i x hi=>?_⟩;rw[Ao];unfold aP;rw[Aq,hi];rfl
theorem fP.blk{k n c:Nat}{S0 S:St}{v:AV}{cs:List AV}(h:fP k S0 S v n cs)(hc:bD v=some c):S0.nx≤c∧c<S.nx∧S.h.get c=some (.cells cs true k):=by
 rcases h with⟨rfl,_⟩ | ⟨b,rfl,h1,h2,h3,h4⟩
 ·cases hc
 ·cases hc;exact⟨h1,h2,h3⟩
theorem fP.off{k n c s:Nat}{S0 S:St}{v:AV}{cs cs':List AV}(h:fP k S0 S v n cs)(hc:S.h.get c=some (.cells cs' false s)):bD v≠some c:=fun e=>by
 have:=(h.blk e).2.2;rw[hc] at this;cases this
structure Fam(S0 X:St)(ob NI:Nat)(cs:List AV)(L:Nat→List Int):Prop where
 ho:X.h.get ob=some (.cells cs false 0)
 lt:ob<X.nx
 hl:cs.length=NI
 gr:∀ (j:Nat) (a:AV),cs[j]? =some a→fP 1 S0 X a (L j).length (aP (L j))
 dj:∀ (j k:Nat) (a b:AV),j≠k→cs[j]? =some a→cs[k]? =some b→∀c,bD a=some c→bD b≠some c
theorem Fam.same{S0 X X':St}{ob NI:Nat}{cs:List AV}{L:Nat→List Int}(h:Fam S0 X ob NI cs L)(hs:Same X X'):Fam S0 X' ob NI cs L:=⟨(hs.2 _ h.lt).trans h.ho,Ae h.lt hs.1,h.hl,fun j a hj=>(h.gr j a hj).step hs,h.dj⟩
theorem Fam.push{S0 X X':St}{ob NI n:Nat}{cs:List AV}{L:Nat→List Int}{a a':AV}{w:Int}(h:Fam S0 X ob NI cs L)(hn:cs[n]? =some a)(hx:X.nx≤X'.nx)(ho:X'.h.get ob=some (.cells (cs.set n a') false 0))(hg:fP 1 S0 X' a' (L n++ [w]).length (aP (L n++ [w])))(hb:∃b',bD a'=some b'∧X.nx≤b'∧b'<X'.nx)(hr:∀c,c<X.nx→c≠ob→bD a≠some c→X'.h.get c=X.h.get c):
  Fam S0 X' ob NI (cs.set n a') (fun j=>if j=n then L n++ [w] else L j):=by
 have hlt:=(Ai.1 hn).1;obtain⟨b',hb1,hb2,hb3⟩:=hb;have get:∀ (j:Nat) (c:AV),(cs.set n a')[j]? =some c→(j=n∧c=a')∨(j≠n∧cs[j]? =some c):=fun j c hj=>by
  rw[Ct] at hj;split at hj
  ·rename_i e;exact .inl ⟨e.symm,(Bn hj).symm⟩
  ·rename_i e;exact .inr ⟨fun e'=>e e'.symm,hj⟩
 refine⟨ho,Ae h.lt hx,by rw[Ap];exact h.hl,fun j c hj=>?_,fun j k x y hjk hx' hy c hc hc'=>?_⟩
 ·rcases get j c hj with⟨rfl,rfl⟩ | ⟨hne,hj⟩
  ·simp only[↓reduceIte];exact hg
  ·simp only[if_neg hne];have hj':=h.gr j c hj;rcases hj' with h0 | ⟨b,h1,h2,h3,h4,h5⟩
   ·exact .inl h0
   ·have hbc:bD c=some b:=by rw[h1];rfl
    refine .inr ⟨b,h1,h2,Ae h3 hx,?_,h5⟩;rw[hr b h3 (fun e=>(h.gr j c hj).off h.ho (by rw[hbc,e])) (h.dj j n c a hne hj hn b hbc)];exact h4
 ·rcases get j x hx' with⟨rfl,rfl⟩ | ⟨hne,hj⟩
  ·rcases get k y hy with⟨rfl,rfl⟩ | ⟨hne2,hk⟩
   ·exact hjk rfl
   ·rw[hb1] at hc;have:=((h.gr k y hk).blk hc').2.1;have:=Bn hc;omega
  ·rcases get k y hy with⟨rfl,rfl⟩ | ⟨hne2,hk⟩
   ·rw[hb1] at hc';have:=((h.gr j x hj).blk hc).2.1;have:=Bn hc';omega
   ·exact h.dj j k x y hjk hj hk c hc hc'
theorem Fam.is{S0 X:St}{ob NI:Nat}{cs:List AV}{L:Nat→List Int}(h:Fam S0 X ob NI cs L):aH 1 iX X (.sl ob 0 NI NI false) ((List.range NI).map L):=by
 refine .inr ⟨ob,0,NI,false,cs,by simp,by simp,h.lt,by unfold cN;rw[h.ho];rfl,fun i l hi=>?_⟩;rw[Aq,Aw] at hi;obtain⟨i',hi',rfl⟩:=hi;have hlt:i<NI:=by have:=(Ai.1 hi').1;rwa [Bk] at this
 rw[Bl hlt] at hi'
 ·cases hi';have hc:cs[i]? =some (cs[i]'(by rw[h.hl];exact hlt)):=Ab _;refine⟨[cs[i]'(by rw[h.hl];exact hlt)],rfl,fun j x hj=>?_,_,rfl,(h.gr i _ hc).is⟩;cases j with
  | zero=>
   cases hj;rw[Ao,Dh,Br];exact hc
  | succ j=>simp at hj
def aPj(S:St)(gb ob:Nat)(nv iv:AV)(g:aR)(k:Nat)(A:bH)(X:St):Prop:=A.inr=false∧Same S X∧X.h.get gb=some (.cells [.int .i64 g.players,nv,iv] false 0)∧gb<X.nx∧gb≠ob∧∃i cs,i+k=g.nodes.length∧Fam S X ob g.infos.length cs (lD (g.nodes.take i) 0)∧
 aB 1 A.F= .ptr gb 0∧aB 3 A.F= .sl ob 0 g.infos.length g.infos.length false∧aB 4 A.F= .int .i64 (i:Int)
theorem aFO{S:St}{nv iv:AV}{g:aR}(H:Has fns)(hn:aH 6 bP S nv g.nodes)(hi:aH 2 cA S iv g.infos)(hN:g.nodes.length≤100000)(hI:g.infos.length≤100000)(hok:aFk g):
  gH fns (.fn 104 [] []) [.agg [.int .i64 g.players,nv,iv]] S fun r S'=>Same S S'∧aH 1 iX S' r (aGm g):=by
 refine cI H.f104 (by simp) ?_;simp only[↓sU,sD,rE,↓reduceIte,rA];refine bQ ?_;refine cM (by simp only[↓sU,sD,rE,↓reduceIte,rA];exact bB _) ?_;intro S1 s1 n1 c1;simp only[↓sU,sD,rE,↓reduceIte,rA];refine bQ ?_;simp only[↓aF,aE,rE,↓reduceIte,rA,aC,aD,gG c1,hi.len];refine gM (nK (n:=g.infos.length) (by simp only[↓aF,aE,rE,↓reduceIte,rA,aG]) (by simp only[↓aF,aE,rE,↓reduceIte,rA,aG]) (by unfold room;omega) (by unfold room;omega)) ?_;intro S2 s2 n2 c2;simp only[↓aF,aE,rE,↓reduceIte,rA];rw[repeatL_one] at c2;have sS2:=s1.trans s2;have c1':S2.h.get S.nx=some (.cells [.int .i64 g.players,nv,iv] false 0):=by rw[s2.2 _ (by omega)];exact c1
 have hF0:Fam S S2 S1.nx g.infos.length (List.replicate g.infos.length .nilsl) (lD (g.nodes.take 0) 0):=by
  refine⟨c2,by omega,Ar ..,fun j a hj=>?_,fun j k a b _ hj hk c hc=>?_⟩
  ·rw[Cn] at hj;split at hj
   ·cases hj;exact .inl ⟨rfl,rfl,rfl⟩
   ·cases hj
  ·rw[Cn] at hj;split at hj
   ·cases hj;cases hc
   ·cases hj
 refine aA (aY (Q:=fun o A' X=>o= .normal∧aPj S S.nx S1.nx nv iv g 0 A' X) (aA (aJ ?_)) ?_)
 ·simp only[↓aF,aE,rE,↓reduceIte,rA];refine aL (bL (aPj S S.nx S1.nx nv iv g) ?_ g.nodes.length _ _ ⟨rfl,sS2,c1',by omega,by omega,0,_,by omega,hF0,by refine⟨?_,?_,?_⟩<;>simp only[↓aF,aE,rE,↓reduceIte,rA]⟩);rintro k ⟨F,inr⟩ X ⟨q0,hX,cX,gX,ngo,i,cs,hik,hF,p1,p3,p4⟩;simp only at q0 p1 p3 p4;subst q0;have hnX:=aH.same (E:=bP) bF hn hX;refine gC ?_;simp only[↓aF,aE,rE,↓reduceIte,rA,p1,p4,aC,aD,eY cX,hn.len];by_cases hlt:i<g.nodes.length
  ·refine aO (by simp only[↓aF,aE,rE,↓reduceIte,rA,Ac (show(i:Int)<((g.nodes.length:Nat):Int) by omega)]) (aI ?_);try simp only[↓aF,aE,rE,↓reduceIte,rA]
   obtain⟨x,hx⟩:∃x,g.nodes[i]? =some x:=⟨_,Ab hlt⟩;have hxm:=Bc hx;obtain⟨e,b,q,hia,hb,he,⟨a,bb,cc,rfl,ha,hbb,hcc⟩,hag,_⟩:=aH.at hnX (by decide) hx;have w1:IntKind.i64.wrap ((i:Int)+1)=((i+1:Nat):Int):=by rw[wrap_i64 (by omega) (by omega)];omega
   have htk:g.nodes.take (i+1)=g.nodes.take i++ [x]:=by rw[Bp,hx];rfl
   have hti:(g.nodes.take i).length=i:=by rw[Ce];omega
   refine aA (aL (aA (aJ ?_)));simp only[↓aF,aE,rE,↓reduceIte,rA,p1,p4,aC,aD,eY cX,aG,hia,hag];refine cH ?_;intro X1 x1 m1 d1;refine dB (b:=X.nx) (by simp only[↓aF,aE,rE,↓reduceIte,rA]) (by simp only[↓aF,aE,rE,↓reduceIte,rA];exact bB _) d1 rfl rfl ?_;intro X2 x2 m2 d2;simp only[↓aF,aE,rE,↓reduceIte,rA];have hX2:Same X X2:=x2.same x1 (Ah _);have cX2:X2.h.get S.nx=some (.cells [.int .i64 g.players,nv,iv] false 0):=by rw[hX2.2 _ gX];exact cX
   have hF2:=hF.same hX2;have ltX2:X.nx<X2.nx:=by omega
   have gX2:S.nx<X2.nx:=Ae gX hX2.1;have hSX2:=hX.trans hX2;refine bQ ?_;simp only[↓aF,aE,rE,↓reduceIte,rA,aC,aD,eC d2];by_cases hk2:x.kind=2
   ·refine aO (by simp only[↓aF,aE,rE,↓reduceIte,rA,Ac hk2]) ?_;obtain⟨i0,i1⟩:=hok x hxm hk2;obtain⟨n,hn'⟩:∃n:Nat,x.info=(n:Int):=⟨x.info.toNat,by omega⟩;have hni:n<cs.length:=by rw[hF.hl];omega
    rw[hn'] at d2;have hcn:cs[n]? =some cs[n]:=Ab hni;have hgn:=hF2.gr n _ hcn;refine aKP (S0:=S) (ob:=S1.nx) (nb:=X.nx) (n:=n) (i:=i) (NI:=g.infos.length) (cs:=cs) (a:=cs[n]) (l:=lD (g.nodes.take i) 0 n) (by simp only[↓aF,aE,rE,↓reduceIte,rA,p3]) (by simp only[↓aF,aE,rE,↓reduceIte,rA,p4]) (by simp only[↓aF,aE,rE,↓reduceIte,rA]) d2 hF2.ho hF.hl hcn hgn hSX2 ltX2 hF2.lt (hgn.off hF2.ho) (hgn.off d2) (by have:=aFJ n (g.nodes.take i) 0;omega) ?_;intro F' X3 a' q1 q3 q4 hx3 ho3 hg3 hb3 hr3;have hF3:=hF2.push hcn hx3 ho3 hg3 hb3 hr3;refine aJ ?_;simp only[↓aF,aE,rE,↓reduceIte,rA,q4,p4,w1];refine⟨k - 1,by omega,rfl,⟨Ak hSX2.1 hx3,fun c hc=>?_⟩,?_,Ae gX2 hx3,ngo,i+1,cs.set n a',by omega,?_,by refine⟨?_,?_,?_⟩<;>simp only[↓aF,aE,rE,↓reduceIte,rA,q1,p1,q3,p3]⟩
    ·have h1:=hSX2.1;rw[hr3 c (by omega) (by omega) (fun e=>by have:=(hgn.blk e).1;omega)];exact hSX2.2 c hc
    ·rw[hr3 _ gX2 ngo (hgn.off cX2)];exact cX2
    ·have e:(fun j=>if j=n then lD (g.nodes.take i) 0 n++ [(i:Int)] else lD (g.nodes.take i) 0 j)=lD (g.nodes.take (i+1)) 0:=by
      funext j;rw[htk,aAC,hti,Ao];by_cases hj:j=n
      ·rw[if_pos hj,if_pos ⟨hk2,by rw[hn',hj]⟩,hj]
      ·rw[if_neg hj,if_neg (fun h=>hj (by have:=h.2;omega))]
     rw[←e];exact hF3
   ·refine aN (by simp only[↓aF,aE,rE,↓reduceIte,rA,Aa hk2]) (aI ?_);try simp only[↓aF,aE,rE,↓reduceIte,rA]
    refine aJ ?_;simp only[↓aF,aE,rE,↓reduceIte,rA,p4,w1];refine⟨k - 1,by omega,rfl,hSX2,cX2,gX2,ngo,i+1,cs,by omega,?_,by refine⟨?_,?_,?_⟩<;>simp only[↓aF,aE,rE,↓reduceIte,rA,p1,p3]⟩;have e:lD (g.nodes.take i) 0=lD (g.nodes.take (i+1)) 0:=by
     funext j;rw[htk,aAC,if_neg (fun h=>hk2 h.1)]
    rw[←e];exact hF2
  ·refine aN (by simp only[↓aF,aE,rE,↓reduceIte,rA,Aa (show ¬ (i:Int)<((g.nodes.length:Nat):Int) by omega)]) (bM ?_);simp only[↓aF,aE,rE,↓reduceIte,rA];have hk0:k=0:=by omega
   subst hk0;exact⟨rfl,hX,cX,gX,ngo,i,cs,hik,hF,by refine⟨?_,?_,?_⟩<;>simp only[↓aF,aE,rE,↓reduceIte,rA,p1,p3,p4]⟩
 rintro o ⟨F,inr⟩ X ⟨rfl,q0,hX,cX,gX,ngo,i,cs,hik,hF,p1,p3,p4⟩;simp only at q0 p3;subst q0;rw[Bb (by omega)] at hF;try simp only[↓aF,aE,rE,↓reduceIte,rA]
 refine bQ ?_;simp only[↓aF,aE,rE,↓reduceIte,rA,p3];refine aS ?_;simp only[↓aF,aE,rE,↓reduceIte,rA];exact⟨hX,hF.is⟩
theorem sF{x y z:AV}(h1:cC x x=true)(h2:cC y y=true)(h3:cC z z=true):cC (.agg [x,y,z]) (.agg [x,y,z])=true:=by
 simp [cC,kB,h1,h2,h3]
theorem sT(i:Nat):∀ (l:List dG) (s:Nat),(lD l s i= []∧lR l s i=0)∨∃a L,lD l s i=((a:Nat):Int)::L∧lR l s i=a+1
 | [],_=>.inl ⟨rfl,rfl⟩
 | x::l,s=>by
  simp only[lD,lR];split
  ·exact .inr ⟨s,_,rfl,rfl⟩
  ·exact sT i l (s+1)
noncomputable def aMG:List AO:=[oq 54 (.ld true 3 (.t 1)),
oc 55 103 [(.t 54),(.c (.int .i64 0)),(.c (.int .i64 0)),(.t 5)] 1,
oq 56 (.faddr 1 (.t 1)),
om 57 4 (ld 56),
om 58 12 (.lenSl (.t 57)),
om 59 31 (bi .neq (.t 55) (.t 58))]
theorem aKH{F:Fr}{S0 S:St}{inr:Bool}{gb db:Nat}{nv iv:AV}{g:aR}{Q:Out→bH→St→Prop}(H:Has fns)(p1:aB 1 F= .ptr gb 0)(p5:aB 5 F= .ptr db 0)(hn:aH 6 bP S0 nv g.nodes)(hi:aH 2 cA S0 iv g.infos)(hS:Same S0 S)(hg:S.h.get gb=some (.cells [.int .i64 g.players,nv,iv] false 0))(lg:gb<S.nx)(hd:S.h.get db=some (.cells [.int .i64 0] false 0))(ldd:db<S.nx)(ld0:S0.nx≤db)(ne:gb≠db)(hN:g.nodes.length≤2000)(hlen:∀x∈g.nodes,x.next.length≤1000)
  (hQ:∀F' S' v,aG4 S db 0 0 (gS g) (.int .i64 v) S'→aB 1 F'=aB 1 F→aB 5 F'=aB 5 F→aB 59 F'= .bool (decide (v≠((g.nodes.length:Nat):Int)))→Q .normal ⟨F',inr⟩ S'):iH fns (.drw aMG) ⟨F,inr⟩ S Q:=by
 refine qO ?_;unfold aMG;have hl0:=fR hg;have hl1:=eY hg;simp only[lA,dW,lN,fD,cE,rE,↓reduceIte,p1,p5,hl0,pL,aQ];refine vG rfl ?_;simp only[↓sU,sD,rE,↓reduceIte,rA,p5,bE];refine aX (aHa H ⟨nv,iv,rfl,hn,hi⟩ ld0 hN (g.nodes.length+1) (at_:=0) (p:= -1) (d:=0) (deep:=0) (by omega) (by decide) (by decide) (by omega) hlen (hS.trans (Same.nx S 6)) (by show db<S.nx+6;omega) hd) ?_;rintro r S1 hr;have hr:aG4 ⟨S.h,S.nx+6⟩ db 0 0 (gS g) r S1:=hr;obtain⟨v,rfl⟩:∃v,r= .int .i64 v:=by
  cases hw:gS g with
  | none=>rw[hw] at hr;exact⟨_,hr.2.1⟩
  | some T=>rw[hw] at hr;exact⟨_,hr.2.1⟩
 have sb:bS db S S1:=⟨by have:S.nx+6≤S1.nx:=hr.1.1;omega,fun c hc hne=>hr.1.2 c (by show c<S.nx+6;omega) hne⟩;have hg1:S1.h.get gb=some (.cells [.int .i64 g.players,nv,iv] false 0):=by rw[sb.2 _ lg ne];exact hg
 have hl1':=eY hg1;have hld:∀ (F:Fr),fV (.ld true 3 (.t 1)) F S.h=eH (aB 1 F) true 3 S.h:=fun F=>by rw[lN,fD]
 simp only[↓sU,sD,rE,↓reduceIte,rA,lA,dW,p1,aC,aU,aD,lN,pL,hl1',wP,hn.len,fU,aBY,uE,aQ,aW];rw[fZ];refine⟨?_,?_⟩
 ·have sn:=aH.self hn;have si:=aH.self hi;have sg:=sF (cS .i64 g.players) sn si;have e1:∀G:Fr,aB 56 G= .ptr gb 1→eI ⟨.ld false 1 (.t 56),G,nv,3,4⟩ [(1,1,S1.h)] S.h=true:=fun G h=>by
   have e:fV (ld 56) G S.h=some nv:=by rw[lN,fD,h];exact hl1
   have e':fV (ld 56) G S1.h=some nv:=by rw[lN,fD,h];exact hl1'
   unfold eI;simp only[show Nat.testBit 4 1=false by decide,show Nat.testBit 1 3=false by decide,aW,aQ,e,jA,sn];unfold eI;simp only[e',jA,sn]
  have e2:eI ⟨.ld true 3 (.t 1),F,.agg [.int .i64 g.players,nv,iv],0,0⟩ [(1,1,S1.h)] S.h=true:=by
   have e:fV (.ld true 3 (.t 1)) F S.h=some (.agg [.int .i64 g.players,nv,iv]):=by rw[lN,fD,p1];exact hl0
   unfold eI;simp only[show Nat.testBit 0 1=false by decide,show Nat.testBit 1 0=true by decide,aW,aQ,e,jA,sg]
  simp only[Bz,List.reverse_nil,Cc,mL,vP];rw[e1 _ (by simp only[cE,rE,↓reduceIte]),e2];rfl
 ·refine hQ _ _ v ?_ (by simp only[↓sU,sD,rE,↓reduceIte,rA]) (by simp only[↓sU,sD,rE,↓reduceIte,rA]) (by simp only[↓sU,sD,rE,↓reduceIte,rA]);simp only[bE];exact⟨sb,hr.2⟩
def aMP(S S1:St)(gb:Nat)(g:aR)(k:Nat)(A:bH)(X:St):Prop:=A.inr=false∧Same S1 X∧∃i,i+k=g.nodes.length∧jX g.players g.infos.length g.nodes=jX g.players g.infos.length (g.nodes.drop i)∧aB 1 A.F= .ptr gb 0∧aB 3 A.F= .int .i64 (i:Int)
def aMW(S1:St)(gb:Nat)(g:aR)(k:Nat)(A:bH)(X:St):Prop:=A.inr=false∧Same S1 X∧∃i,i+k=g.nodes.length∧(∀x∈g.nodes.take i,¬mis g x)∧aB 1 A.F= .ptr gb 0∧aB 6 A.F= .int .i64 (i:Int)
def aMA(S1:St)(sv:AV)(g:aR)(k:Nat)(A:bH)(X:St):Prop:=A.inr=false∧Same S1 X∧∃i,i+k=g.infos.length∧(∀j,j<i→lD g.nodes 0 j≠ [])∧aB 8 A.F=sv∧aB 9 A.F= .int .i64 (i:Int)
def aMX(S1:St)(sv:AV)(g:aR)(k:Nat)(A:bH)(X:St):Prop:=A.inr=false∧Same S1 X∧∃i,i+k=g.infos.length+1∧1≤i∧aNe (gD g) 0 (min i g.infos.length)∧aB 8 A.F=sv∧aB 10 A.F= .int .i64 (i:Int)
theorem aBg{g:aR}{j:Nat}(hj:j<g.infos.length):(gD g).getD j 0=((lR g.nodes 0 j:Nat):Int):=by
 unfold gD;rw[Ad,Aq,Bl hj];rfl
theorem aAF{g:aR}{j:Nat}(hj:j<g.infos.length):(aGm g)[j]? =some (lD g.nodes 0 j):=by
 unfold aGm;rw[Aq,Bl hj];rfl
theorem aJo(g:aR):(aGm g).length=g.infos.length:=by simp [aGm]
theorem aBe{g:aR}:(0:Int)∈gD g↔∃j,j<g.infos.length∧lD g.nodes 0 j= []:=by
 unfold gD;rw[Du];constructor
 ·rintro⟨j,hj,h0⟩;rw[Dj] at hj;rcases sT j g.nodes 0 with h | ⟨a,L,h1,h2⟩
  ·exact⟨j,hj,h.1⟩
  ·rw[h2] at h0;omega
 ·rintro⟨j,hj,h0⟩;refine⟨j,Dj.2 hj,?_⟩;rcases sT j g.nodes 0 with h | ⟨a,L,h1,h2⟩
  ·rw[h.2];rfl
  ·rw[h0] at h1;cases h1
theorem aCV{S:St}{nv iv:AV}{g:aR}(H:Has fns)(hn:aH 6 bP S nv g.nodes)(hi:aH 2 cA S iv g.infos)(hln:g.nodes.length≤100000):
  gH fns (.fn 53 [] []) [.agg [.int .i64 g.players,nv,iv]] S fun r S'=>r= .int .i64 (cP g)∧Same S S':=by
 refine cI H.f53 (by simp) ?_;simp only[↓sU,sD,rE,↓reduceIte,rA];refine bQ ?_;refine cM (by simp only[↓sU,sD,rE,↓reduceIte,rA];exact bB _) ?_;intro S1 s1 n1 c1;simp only[↓sU,sD,rE,↓reduceIte,rA];have hnl:=hn.len;have hil:=hi.len;have hn1:=aH.same (E:=bP) bF hn s1;have hi1:=aH.same (E:=cA) bO hi s1;have sn:=aH.self hn;have si:=aH.self hi;have sg:=sF (cS .i64 g.players) sn si;have lg1:S.nx<S1.nx:=by omega
 refine aA (aA (aY (Q:=fun o A' X=>o= .normal∧A'.inr=false∧X=S1∧aB 1 A'.F= .ptr S.nx 0∧aB 36 A'.F= .bool (decide (lP g))) (aJ ?_) ?_))
 ·by_cases h1:g.players<1
  ·rw[Ac (show lP g from .inl h1)];simp only[↓sU,sD,rE,↓reduceIte,rA,aC,aD,oY c1,eY c1,gG c1,hnl,hil,Ac h1]
  by_cases h2:(4:Int)<g.players
  ·rw[Ac (show lP g from .inr (.inl h2))];simp only[↓sU,sD,rE,↓reduceIte,rA,aC,aD,oY c1,eY c1,gG c1,hnl,hil,Aa h1,Ac h2]
  by_cases h3:((g.nodes.length:Nat):Int)<1
  ·rw[Ac (show lP g from .inr (.inr (.inl h3)))];simp only[↓sU,sD,rE,↓reduceIte,rA,aC,aD,oY c1,eY c1,gG c1,hnl,hil,Aa h1,Aa h2,Ac h3]
  by_cases h4:(2000:Int)<((g.nodes.length:Nat):Int)
  ·rw[Ac (show lP g from .inr (.inr (.inr (.inl h4))))];simp only[↓sU,sD,rE,↓reduceIte,rA,aC,aD,oY c1,eY c1,gG c1,hnl,hil,Aa h1,Aa h2,Aa h3,Ac h4]
  by_cases h5:(200:Int)<((g.infos.length:Nat):Int)
  ·rw[Ac (show lP g from .inr (.inr (.inr (.inr h5))))];simp only[↓sU,sD,rE,↓reduceIte,rA,aC,aD,oY c1,eY c1,gG c1,hnl,hil,Aa h1,Aa h2,Aa h3,Aa h4,Ac h5]
  ·rw[Aa (show ¬lP g by unfold lP;omega)];simp only[↓sU,sD,rE,↓reduceIte,rA,aC,aD,oY c1,eY c1,gG c1,hnl,hil,Aa h1,Aa h2,Aa h3,Aa h4,Aa h5]
 rintro o ⟨F,inr⟩ X ⟨rfl,q0,hX,p1,pb⟩;simp only at q0 p1 pb;subst q0;rw[hX];clear hX;try simp only[↓sU,sD,rE,↓reduceIte,rA]
 by_cases bad:lP g
 ·have hE:cP g=2:=by unfold cP;rw[if_pos bad]
  rw[hE];refine aO (by simp only[↓sU,sD,rE,↓reduceIte,rA,pb,Ac bad]) ?_;refine bQ ?_;simp only[↓sU,sD,rE,↓reduceIte,rA];refine aS ?_;simp only[↓sU,sD,rE,↓reduceIte,rA];exact s1
 refine aN (by simp only[↓sU,sD,rE,↓reduceIte,rA,pb,Aa bad]) (aI ?_);try simp only[↓sU,sD,rE,↓reduceIte,rA]
 have hps:1≤g.players∧g.players≤4:=by unfold lP at bad;omega
 have hN:g.nodes.length≤2000:=by unfold lP at bad;omega
 have hN0:0<g.nodes.length:=by unfold lP at bad;omega
 have hI:g.infos.length≤200:=by unfold lP at bad;omega
 refine aA (aY (Q:=fun o A' X=>(o= .normal∧aMP S S1 S.nx g 0 A' X)∨(o= .ret∧Same S1 X∧jX g.players g.infos.length g.nodes≠0∧aB 2 A'.F= .int .i64 (jX g.players g.infos.length g.nodes))) (aA (aJ ?_)) ?_)
 ·simp only[↓sU,sD,rE,↓reduceIte,rA];refine aL (bL (aMP S S1 S.nx g) ?_ g.nodes.length _ _ ⟨rfl,Same.refl _,0,by omega,by rw[Dk],by refine⟨?_,?_⟩<;>simp only[↓sU,sD,rE,↓reduceIte,rA,p1]⟩);clear p1 pb;rintro k ⟨F,inr⟩ X ⟨q0,hX,i,hik,hE,p1,p3⟩;simp only at q0 p1 p3;subst q0;have cX:X.h.get S.nx=some (.cells [.int .i64 g.players,nv,iv] false 0):=by rw[hX.2 _ lg1];exact c1
  have lgX:S.nx<X.nx:=Ae lg1 hX.1;refine gC ?_;simp only[↓sU,sD,rE,↓reduceIte,rA,p1,p3,aC,aD,eY cX,hnl];by_cases hlt:i<g.nodes.length
  ·refine aO (by simp only[↓sU,sD,rE,↓reduceIte,rA,Ac (show(i:Int)<((g.nodes.length:Nat):Int) by omega)]) (aI ?_);try simp only[↓sU,sD,rE,↓reduceIte,rA]
   obtain⟨x,hx⟩:∃x,g.nodes[i]? =some x:=⟨_,Ab hlt⟩;have hnX:=aH.same (E:=bP) bF hn1 hX;obtain⟨e,b,q,hia,hb,he,hNE,hag,_⟩:=aH.at hnX (by decide) hx;have hdrop:g.nodes.drop i=x::g.nodes.drop (i+1):=by
    rw[Bt hlt];congr 1;rw[Ab hlt] at hx;exact Bn hx
   have w1:IntKind.i64.wrap ((i:Int)+1)=((i+1:Nat):Int):=by rw[wrap_i64 (by omega) (by omega)];omega
   have se:cC (.agg e) (.agg e)=true:=by
    obtain⟨a,bb,cc,rfl,ha,hbb,hcc⟩:=hNE;exact wQ (cS ..) (cS ..) (cS ..) (bK.self ha) (bK.self hbb) (bK.self hcc)
   refine aA (aL (aA (iE (fun _=>False) ?_)));intro X1 x1;simp only[↓sU,sD,rE,↓reduceIte,rA,p1,p3,aC,aU,aD,fR cX,eY cX,sg,sn,lgX,hb,se,Al,aG,hia,hag];refine dS rfl ?_;simp only[↓sU,sD,rE,↓reduceIte,rA];refine aX (aHA H (bF hNE x1) hps.2 hil) ?_;rintro _ Y ⟨rfl,hY⟩;refine⟨hY,?_⟩;have hSY:=(hX.trans x1).trans hY;rw[hdrop] at hE;simp only[jX] at hE;try simp only[↓sU,sD,rE,↓reduceIte,rA]
   refine bQ ?_;simp only[↓sU,sD,rE,↓reduceIte,rA];by_cases he0:gK g.players g.infos.length x=0
   ·rw[if_neg (fun h=>h he0)] at hE;refine aN (by simp only[↓sU,sD,rE,↓reduceIte,rA,Aa (show ¬gK g.players g.infos.length x≠0 from fun h=>h he0)]) (aI ?_);try simp only[↓sU,sD,rE,↓reduceIte,rA]
    refine aJ ?_;simp only[↓sU,sD,rE,↓reduceIte,rA,p3,w1];exact⟨k - 1,by omega,rfl,hSY,i+1,by omega,hE,by refine⟨?_,?_⟩<;>simp only[↓sU,sD,rE,↓reduceIte,rA,p1]⟩
   ·rw[if_pos he0] at hE;refine aO (by simp only[↓sU,sD,rE,↓reduceIte,rA,Ac (show gK g.players g.infos.length x≠0 from he0)]) ?_;refine bQ ?_;simp only[↓sU,sD,rE,↓reduceIte,rA];refine aS ?_;simp only[↓sU,sD,rE,↓reduceIte,rA];exact .inr ⟨hSY,by rw[hE];exact he0,by rw[hE]⟩
  ·refine aN (by simp only[↓sU,sD,rE,↓reduceIte,rA,Aa (show ¬ (i:Int)<((g.nodes.length:Nat):Int) by omega)]) (bM ?_);simp only[↓sU,sD,rE,↓reduceIte,rA];have hk0:k=0:=by omega
   subst hk0;exact .inl ⟨rfl,hX,i,hik,hE,by refine⟨?_,?_⟩<;>simp only[↓sU,sD,rE,↓reduceIte,rA,p1,p3]⟩
 clear p1 pb;rintro o ⟨F,inr⟩ X (⟨rfl,q0,hX,i,hik,hE,p1,p3⟩ | ⟨rfl,hX,hne,p2⟩);rotate_left
 ·simp only at p2;simp only[↓sU,sD,rE,↓reduceIte,rA,p2];have hE:cP g=jX g.players g.infos.length g.nodes:=by unfold cP;rw[if_neg bad,if_pos hne]
  rw[hE];exact⟨rfl,s1.trans hX⟩
 simp only at q0 p1;subst q0;rw[Ch (by omega)] at hE;have hall:=gN hE;have hok:aFk g:=fun x hx h2=>aBa (hall x hx) h2;have hform:cP g=match gS g with | none=>9 | some T=>if T.length≠g.nodes.length then 9 else if 40<wW 0 T then 5 else zD g:=by
  conv=>lhs;unfold cP
  rw[if_neg bad,if_neg (fun h=>h hE)]
  first | done | (cases gS g<;>rfl)
 have sX:=s1.trans hX;have cX:X.h.get S.nx=some (.cells [.int .i64 g.players,nv,iv] false 0):=by rw[hX.2 _ lg1];exact c1
 have lgX:S.nx<X.nx:=Ae lg1 hX.1;try simp only[↓sU,sD,rE,↓reduceIte,rA]
 refine bQ ?_;refine cH ?_;intro X1 x1 m1 d1;refine dB (b:=X.nx) (by simp only[↓sU,sD,rE,↓reduceIte,rA]) (by simp only[↓sU,sD,rE,↓reduceIte,rA];rfl) d1 rfl rfl ?_;intro X2 x2 m2 d2;simp only[↓sU,sD,rE,↓reduceIte,rA];have hX2:Same X X2:=x2.same x1 (Ah _);have cX2:X2.h.get S.nx=some (.cells [.int .i64 g.players,nv,iv] false 0):=by rw[hX2.2 _ lgX];exact cX
 have lX2:X.nx<X2.nx:=by omega
 refine aA (aA (aKH (S0:=S) (gb:=S.nx) (db:=X.nx) (g:=g) H (by simp only[↓sU,sD,rE,↓reduceIte,rA,p1]) (by simp only[↓sU,sD,rE,↓reduceIte,rA]) hn hi (sX.trans hX2) cX2 (by omega) d2 lX2 (by have:=sX.1;omega) (by omega) hN (fun x hx=>aAN (hall x hx)) ?_));intro F' S3 v hr q1 q5 q59;simp only[↓sU,sD,rE,↓reduceIte,rA,p1] at q1 q5;have sX2:=sX.trans hX2;have hdb:=sX.1;have s3:Same S S3:=⟨Ak sX2.1 hr.1.1,fun c hc=>(hr.1.2 c (Ae hc sX2.1) (by omega)).trans (sX2.2 c hc)⟩;have c3:S3.h.get S.nx=some (.cells [.int .i64 g.players,nv,iv] false 0):=by rw[hr.1.2 _ (by omega) (by omega)];exact cX2
 have l3:S.nx<S3.nx:=by have:=hr.1.1;omega
 cases hw:gS g with
 | none=>
  rw[hw] at hr hform;obtain⟨_,hv,_⟩:=hr;have hv:v= -1:=by cases hv;rfl
  simp only at hform;rw[hform];refine aO (by simp only[↓sU,sD,rE,↓reduceIte,rA,q59,Ac (show v≠((g.nodes.length:Nat):Int) by omega)]) ?_;refine bQ ?_;simp only[↓sU,sD,rE,↓reduceIte,rA];refine aS ?_;simp only[↓sU,sD,rE,↓reduceIte,rA];exact s3
 | some T=>
  rw[hw] at hr hform;obtain⟨_,hv,hdeep⟩:=hr;have hv:v=((0+T.length:Nat):Int):=by cases hv;rfl
  simp only at hform;by_cases hT:T.length=g.nodes.length;rotate_left
  ·rw[hform,if_pos hT];refine aO (by simp only[↓sU,sD,rE,↓reduceIte,rA,q59,Ac (show v≠((g.nodes.length:Nat):Int) by omega)]) ?_;refine bQ ?_;simp only[↓sU,sD,rE,↓reduceIte,rA];refine aS ?_;simp only[↓sU,sD,rE,↓reduceIte,rA];exact s3
  rw[if_neg (fun h=>h hT)] at hform;refine aN (by simp only[↓sU,sD,rE,↓reduceIte,rA,q59,Aa (show ¬v≠((g.nodes.length:Nat):Int) by omega)]) (aI ?_);try simp only[↓sU,sD,rE,↓reduceIte,rA]
  have ldeep:=eE (p:=0) hdeep rfl;refine gC ?_;simp only[↓sU,sD,rE,↓reduceIte,rA,q5,ldeep];by_cases h40:40<wW 0 T
  ·rw[hform,if_pos h40];refine aO (by simp only[↓sU,sD,rE,↓reduceIte,rA,Ac h40]) ?_;refine bQ ?_;simp only[↓sU,sD,rE,↓reduceIte,rA];refine aS ?_;simp only[↓sU,sD,rE,↓reduceIte,rA];exact s3
  rw[if_neg h40] at hform;refine aN (by simp only[↓sU,sD,rE,↓reduceIte,rA,Aa h40]) (aI ?_);try simp only[↓sU,sD,rE,↓reduceIte,rA]
  rw[hform];clear hform hE hall q5 q59 hdeep ldeep;have hn3:=aH.same (E:=bP) bF hn s3;have hi3:=aH.same (E:=cA) bO hi s3;refine aA (aY (Q:=fun o A' Y=>(o= .normal∧aMW S3 S.nx g 0 A' Y)∨(o= .ret∧Same S3 Y∧(∃x∈g.nodes,mis g x)∧aB 2 A'.F= .int .i64 10)) (aA (aJ ?_)) ?_)
  ·simp only[↓aF,aE,rE,↓reduceIte,rA];refine aL (bL (aMW S3 S.nx g) ?_ g.nodes.length _ _ ⟨rfl,Same.refl _,0,by omega,fun x hx=>(by simp at hx),by refine⟨?_,?_⟩<;>simp only[↓aF,aE,rE,↓reduceIte,rA,q1]⟩);clear q1;rintro k ⟨F,inr⟩ X ⟨q0,hX,i,hik,hm,p1,p6⟩;simp only at q0 p1 p6;subst q0;have cX:X.h.get S.nx=some (.cells [.int .i64 g.players,nv,iv] false 0):=by rw[hX.2 _ l3];exact c3
   have lgX:S.nx<X.nx:=Ae l3 hX.1;refine gC ?_;simp only[↓aF,aE,rE,↓reduceIte,rA,p1,p6,aC,aD,eY cX,hnl];by_cases hlt:i<g.nodes.length
   ·refine aO (by simp only[↓aF,aE,rE,↓reduceIte,rA,Ac (show(i:Int)<((g.nodes.length:Nat):Int) by omega)]) (aI ?_);try simp only[↓aF,aE,rE,↓reduceIte,rA]
    obtain⟨x,hx⟩:∃x,g.nodes[i]? =some x:=⟨_,Ab hlt⟩;have hxm:=Bc hx;obtain⟨e,b,q,hia,hb,he,⟨a,bb,cc,rfl,ha,hbb,hcc⟩,hag,_⟩:=aH.at (aH.same (E:=bP) bF hn3 hX) (by decide) hx;have w1:IntKind.i64.wrap ((i:Int)+1)=((i+1:Nat):Int):=by rw[wrap_i64 (by omega) (by omega)];omega
    refine aA (aL (aA (aJ ?_)));simp only[↓aF,aE,rE,↓reduceIte,rA,p1,p6,aC,aD,eY cX,aG,hia,hag];refine cH ?_;intro X1 x1 m1 d1;refine dB (b:=X.nx) (by simp only[↓aF,aE,rE,↓reduceIte,rA]) (by simp only[↓aF,aE,rE,↓reduceIte,rA];exact bB _) d1 rfl rfl ?_;intro X2 x2 m2 d2;simp only[↓aF,aE,rE,↓reduceIte,rA];have hX2:Same X X2:=x2.same x1 (Ah _);have hS2X:=hX.trans hX2;have cX2:X2.h.get S.nx=some (.cells [.int .i64 g.players,nv,iv] false 0):=by rw[hX2.2 _ lgX];exact cX
    have hla:=(ha.same hX2).len;have hsa:=bK.self ha;refine aA (aY (Q:=fun o A' Y=>o= .normal∧A'.inr=false∧Same X2 Y∧aB 1 A'.F= .ptr S.nx 0∧aB 6 A'.F= .int .i64 (i:Int)∧aB 101 A'.F= .bool (decide (mis g x))) (gP ?_) ?_)
    ·by_cases hk2:x.kind=2
     ·obtain⟨i0,i1⟩:=hok x hxm hk2;obtain⟨n,hn'⟩:∃n:Nat,x.info=(n:Int):=⟨x.info.toNat,by omega⟩;have hni:n<g.infos.length:=by omega
      obtain⟨y,hy⟩:∃y,g.infos[n]? =some y:=⟨_,Ab hni⟩;obtain⟨e',b',q',hia',hb',he',rfl,hag',hlf'⟩:=aH.at (aH.same (E:=cA) bO hi3 hS2X) (by decide) hy;have hp0:=hlf' 0 _ rfl;have hp1:=hlf' 1 _ rfl;have hya:infoAt g x.info=y:=by unfold infoAt;rw[hn',Ad,show((n:Int)).toNat=n from rfl,hy];rfl
      have hmis:mis g x↔¬ (y.player=x.player∧y.actions=((x.next.length:Nat):Int)):=by
       unfold mis;rw[hya];exact⟨fun h=>h.2,fun h=>⟨hk2,h⟩⟩
      rw[hn'] at d2;by_cases hpl:y.player=x.player
      ·have hd1:decide (y.player≠x.player)=false:=Aa (fun h=>h hpl);have hd2:decide (mis g x)=decide (y.actions≠((x.next.length:Nat):Int)):=by
        rw[Cg,Ck,Ck,hmis];exact⟨fun h e=>h ⟨hpl,e⟩,fun h e=>h e.2⟩
       rw[hd2];simp only[↓aF,aE,rE,↓reduceIte,rA,p1,p6,aC,aU,aD,eC d2,dE d2,cQ d2,cT d2,gG cX2,aG,hia',hp0,hp1,hla,hsa,si,Ac hk2,hd1];exact Same.nx _ _
      ·have hd1:decide (y.player≠x.player)=true:=Ac hpl;have hd2:decide (mis g x)=true:=Ac (hmis.2 fun h=>hpl h.1);rw[hd2];simp only[↓aF,aE,rE,↓reduceIte,rA,p1,p6,aC,aU,aD,eC d2,dE d2,cQ d2,cT d2,gG cX2,aG,hia',hp0,hp1,hla,hsa,si,Ac hk2,hd1];exact Same.nx _ _
     ·rw[Aa (show ¬mis g x from fun h=>hk2 h.1)];simp only[↓aF,aE,rE,↓reduceIte,rA,p1,p6,aC,aU,aD,eC d2,Aa hk2];exact Same.nx _ _
    clear p1 p6;rintro o ⟨F,inr⟩ Y ⟨rfl,q0,hY,p1,p6,pb⟩;simp only at q0 p1 p6 pb;subst q0;have hS2Y:=hS2X.trans hY;try simp only[↓aF,aE,rE,↓reduceIte,rA]
    by_cases hmx:mis g x
    ·refine aO (by simp only[↓aF,aE,rE,↓reduceIte,rA,pb,Ac hmx]) ?_;refine bQ ?_;simp only[↓aF,aE,rE,↓reduceIte,rA];refine aS ?_;simp only[↓aF,aE,rE,↓reduceIte,rA];exact .inr ⟨hS2Y,x,hxm,hmx⟩
    ·refine aN (by simp only[↓aF,aE,rE,↓reduceIte,rA,pb,Aa hmx]) (aI ?_);try simp only[↓aF,aE,rE,↓reduceIte,rA]
     refine aJ ?_;simp only[↓aF,aE,rE,↓reduceIte,rA,p6,w1];refine⟨k - 1,by omega,rfl,hS2Y,i+1,by omega,fun y hy=>?_,by refine⟨?_,?_⟩<;>simp only[↓aF,aE,rE,↓reduceIte,rA,p1]⟩;rw[Bp,hx] at hy;rcases Bx.1 hy with h | h
     ·exact hm y h
     ·simp at h;rw[h];exact hmx
   ·refine aN (by simp only[↓aF,aE,rE,↓reduceIte,rA,Aa (show ¬ (i:Int)<((g.nodes.length:Nat):Int) by omega)]) (bM ?_);simp only[↓aF,aE,rE,↓reduceIte,rA];have hk0:k=0:=by omega
    subst hk0;exact .inl ⟨rfl,hX,i,hik,hm,by refine⟨?_,?_⟩<;>simp only[↓aF,aE,rE,↓reduceIte,rA,p1,p6]⟩
  clear q1;rintro o ⟨F,inr⟩ Y (⟨rfl,q0,hY,i,hik,hm,p1,p6⟩ | ⟨rfl,hY,hmx,p2⟩);rotate_left
  ·simp only at p2;simp only[↓aF,aE,rE,↓reduceIte,rA,p2];unfold zD;rw[if_pos hmx];exact⟨rfl,s3.trans hY⟩
  simp only at q0 p1;subst q0;rw[Bb (by omega)] at hm;unfold zD;rw[if_neg (fun⟨x,h1,h2⟩=>hm x h1 h2)];clear p6 hik hm i;have sY:=s3.trans hY;have cY:Y.h.get S.nx=some (.cells [.int .i64 g.players,nv,iv] false 0):=by rw[hY.2 _ l3];exact c3
  try simp only[↓aF,aE,rE,↓reduceIte,rA]
  refine bQ ?_;simp only[↓aF,aE,rE,↓reduceIte,rA,p1,fR cY];refine bG ?_;simp only[↓aF,aE,rE,↓reduceIte,rA];refine aX (aFO H (aH.same (E:=bP) bF hn sY) (aH.same (E:=cA) bO hi sY) hln (by omega) hok) ?_;rintro sv Z ⟨hZ,hsv⟩;try simp only[↓aF,aE,rE,↓reduceIte,rA]
  have sZ:=sY.trans hZ;have hsl:=hsv.len;rw[aJo] at hsl;refine aA (aY (Q:=fun o A' X=>(o= .normal∧aMA Z sv g 0 A' X)∨(o= .ret∧Same Z X∧(0:Int)∈gD g∧aB 2 A'.F= .int .i64 18)) (aA (aJ ?_)) ?_)
  ·simp only[↓aF,aE,rE,↓reduceIte,rA];refine aL (bL (aMA Z sv g) ?_ g.infos.length _ _ ⟨rfl,Same.refl _,0,by omega,fun j hj=>by omega,by refine⟨?_,?_⟩<;>simp only[↓aF,aE,rE,↓reduceIte,rA]⟩);rintro k ⟨F,inr⟩ X ⟨q0,hX,i,hik,hm,p8,p9⟩;simp only at q0 p8 p9;subst q0;refine gC ?_;simp only[↓aF,aE,rE,↓reduceIte,rA,p8,p9,hsl];by_cases hlt:i<g.infos.length
   ·refine aO (by simp only[↓aF,aE,rE,↓reduceIte,rA,Ac (show(i:Int)<((g.infos.length:Nat):Int) by omega)]) (aI ?_);try simp only[↓aF,aE,rE,↓reduceIte,rA]
    obtain⟨e,b,q,hia,hb,he,⟨a,rfl,ha⟩,_,hlf⟩:=aH.at (aH.same (E:=iX) firm_sl hsv hX) (by decide) (aAF hlt);have hl0:=hlf 0 a rfl;rw[Br] at hl0;have hal:=ha.len;have w1:IntKind.i64.wrap ((i:Int)+1)=((i+1:Nat):Int):=by rw[wrap_i64 (by omega) (by omega)];omega
    refine aA (aL (aA (aJ ?_)));simp only[↓aF,aE,rE,↓reduceIte,rA,p8,p9,aG,hia,hl0,hal];by_cases h0:lD g.nodes 0 i= []
    ·refine aO (by simp only[↓aF,aE,rE,↓reduceIte,rA,Ac (show(((lD g.nodes 0 i).length:Nat):Int)=0 by rw[h0];rfl)]) ?_;refine bQ ?_;simp only[↓aF,aE,rE,↓reduceIte,rA];refine aS ?_;simp only[↓aF,aE,rE,↓reduceIte,rA];exact .inr ⟨hX,aBe.2 ⟨i,hlt,h0⟩⟩
    ·have hpos:=List.length_pos_iff.2 h0;refine aN (by simp only[↓aF,aE,rE,↓reduceIte,rA,Aa (show ¬ (((lD g.nodes 0 i).length:Nat):Int)=0 by omega)]) (aI ?_);try simp only[↓aF,aE,rE,↓reduceIte,rA]
     refine aJ ?_;simp only[↓aF,aE,rE,↓reduceIte,rA,p9,w1];refine⟨k - 1,by omega,rfl,hX,i+1,by omega,fun j hj=>?_,by refine⟨?_,?_⟩<;>simp only[↓aF,aE,rE,↓reduceIte,rA,p8]⟩;by_cases hji:j=i
     ·rw[hji];exact h0
     ·exact hm j (by omega)
   ·refine aN (by simp only[↓aF,aE,rE,↓reduceIte,rA,Aa (show ¬ (i:Int)<((g.infos.length:Nat):Int) by omega)]) (bM ?_);simp only[↓aF,aE,rE,↓reduceIte,rA];have hk0:k=0:=by omega
    subst hk0;exact .inl ⟨rfl,hX,i,hik,hm,by refine⟨?_,?_⟩<;>simp only[↓aF,aE,rE,↓reduceIte,rA,p8,p9]⟩
  rintro o ⟨F,inr⟩ X (⟨rfl,q0,hX,i,hik,hm,p8,p9⟩ | ⟨rfl,hX,h0,p2⟩);rotate_left
  ·simp only at p2;simp only[↓aF,aE,rE,↓reduceIte,rA,p2];rw[if_pos h0];exact⟨rfl,sZ.trans hX⟩
  simp only at q0 p8;subst q0;have hne:∀j,j<g.infos.length→lD g.nodes 0 j≠ []:=fun j hj=>hm j (by omega);rw[if_neg (fun h=>by obtain⟨j,hj,h0⟩:=aBe.1 h;exact hne j hj h0)];clear p9 hik hm i;try simp only[↓aF,aE,rE,↓reduceIte,rA]
  refine aA (aY (Q:=fun o A' Y=>(o= .normal∧∃k,aMX X sv g k A' Y∧k≤1)∨(o= .ret∧Same X Y∧¬aDz (gD g)∧aB 2 A'.F= .int .i64 9)) (aA (aJ ?_)) ?_)
  ·simp only[↓aF,aE,rE,↓reduceIte,rA];refine aL (bL (aMX X sv g) ?_ g.infos.length _ _ ⟨rfl,Same.refl _,1,by omega,by omega,fun j j0 j1=>by omega,by refine⟨?_,?_⟩<;>simp only[↓aF,aE,rE,↓reduceIte,rA,p8]⟩);clear p8;rintro k ⟨F,inr⟩ Y ⟨q0,hY,i,hik,hi1,hm,p8,p10⟩;simp only at q0 p8 p10;subst q0;refine gC ?_;simp only[↓aF,aE,rE,↓reduceIte,rA,p8,p10,hsl];by_cases hlt:i<g.infos.length
   ·refine aO (by simp only[↓aF,aE,rE,↓reduceIte,rA,Ac (show(i:Int)<((g.infos.length:Nat):Int) by omega)]) (aI ?_);try simp only[↓aF,aE,rE,↓reduceIte,rA]
    have hsY:=aH.same (E:=iX) firm_sl hsv (hX.trans hY);obtain⟨e,b,q,hia,hb,he,⟨a,rfl,ha⟩,_,hlf⟩:=aH.at hsY (by decide) (aAF hlt);obtain⟨e',b',q',hia',hb',he',⟨a',rfl,ha'⟩,_,hlf'⟩:=aH.at hsY (by decide) (aAF (show i - 1<g.infos.length by omega));have hl0:=hlf 0 a rfl;have hl0':=hlf' 0 a' rfl;rw[Br] at hl0 hl0';have hp:=List.length_pos_iff.2 (hne i hlt);have hp':=List.length_pos_iff.2 (hne (i - 1) (by omega));have ia:=ha.iaddr hp;have la:=ha.ld hp;have ia':=ha'.iaddr hp';have la':=ha'.ld hp';have sa:=bK.self ha;have sa':=bK.self ha';have hlt2:(lD g.nodes 0 i).getD 0 0<(lD g.nodes 0 (i - 1)).getD 0 0↔(gD g).getD i 0<(gD g).getD (i - 1) 0:=by
     rw[aBg hlt,aBg (show i - 1<g.infos.length by omega)];rcases sT i g.nodes 0 with h | ⟨x,L,h1,h2⟩
     ·exact absurd h.1 (hne i hlt)
     ·rcases sT (i - 1) g.nodes 0 with h | ⟨x',L',h1',h2'⟩
      ·exact absurd h.1 (hne (i - 1) (by omega))
      ·rw[h1,h1',h2,h2'];show(x:Int)<(x':Int)↔_;omega
    have w1:IntKind.i64.wrap ((i:Int)+1)=((i+1:Nat):Int):=by rw[wrap_i64 (by omega) (by omega)];omega
    have w2:IntKind.i64.wrap ((i:Int) - 1)=((i - 1:Nat):Int):=by rw[wrap_i64 (by omega) (by omega)];omega
    refine aA (aL (aA (gP ?_)));simp only[↓aF,aE,rE,↓reduceIte,rA,p8,p10,aG,aIC,hia,hia',hl0,hl0',ia,la,ia',la',sa,sa',w2];by_cases hbad:(lD g.nodes 0 i).getD 0 0<(lD g.nodes 0 (i - 1)).getD 0 0
    ·refine aO (by simp only[↓aF,aE,rE,↓reduceIte,rA,Ac hbad]) ?_;refine bQ ?_;simp only[↓aF,aE,rE,↓reduceIte,rA];refine aS ?_;simp only[↓aF,aE,rE,↓reduceIte,rA];refine .inr ⟨hY.trans (Same.nx _ _),fun h=>?_⟩;exact h i (by omega) (by simp [gD];omega) (hlt2.1 hbad)
    ·refine aN (by simp only[↓aF,aE,rE,↓reduceIte,rA,Aa hbad]) (aI ?_);try simp only[↓aF,aE,rE,↓reduceIte,rA]
     refine aJ ?_;simp only[↓aF,aE,rE,↓reduceIte,rA,p10,w1];refine⟨k - 1,by omega,rfl,hY.trans (Same.nx _ _),i+1,by omega,by omega,fun j j0 j1=>?_,by refine⟨?_,?_⟩<;>simp only[↓aF,aE,rE,↓reduceIte,rA,p8]⟩;by_cases hji:j=i
     ·rw[hji];exact fun h=>hbad (hlt2.2 h)
     ·exact hm j j0 (by omega)
   ·refine aN (by simp only[↓aF,aE,rE,↓reduceIte,rA,Aa (show ¬ (i:Int)<((g.infos.length:Nat):Int) by omega)]) (bM ?_);simp only[↓aF,aE,rE,↓reduceIte,rA];exact .inl ⟨k,⟨rfl,hY,i,hik,hi1,hm,by refine⟨?_,?_⟩<;>simp only[↓aF,aE,rE,↓reduceIte,rA,p8,p10]⟩,by omega⟩
  clear p8;rintro o ⟨F,inr⟩ Y (⟨rfl,k,⟨q0,hY,i,hik,hi1,hm,p8,p10⟩,hk⟩ | ⟨rfl,hY,hno,p2⟩);rotate_left
  ·simp only at p2;simp only[↓aF,aE,rE,↓reduceIte,rA,p2];rw[if_neg hno];exact⟨rfl,(sZ.trans hX).trans hY⟩
  simp only at q0;subst q0;have hris:aDz (gD g):=by
   unfold aDz;rw[show(gD g).length=g.infos.length by simp [gD]];rw[show min i g.infos.length=g.infos.length by omega] at hm;exact hm
  rw[if_pos hris];try simp only[↓aF,aE,rE,↓reduceIte,rA]
  refine bQ ?_;simp only[↓aF,aE,rE,↓reduceIte,rA];refine aS ?_;simp only[↓aF,aE,rE,↓reduceIte,rA];exact(sZ.trans hX).trans hY
end Go.Ev.Gl
