import Derived.Test.YtdkehphobhnjoaaGl6
open Nat renaming reduceEqDiff -> rE, reduceAdd -> rA
set_option maxHeartbeats 0
set_option linter.unusedSimpArgs false
set_option linter.unusedVariables false
namespace Go.Ev.Gl
variable {fns:T dU}
theorem yX{S:St}{a:Int}(H:Has fns):gH fns (.fn 76 [] []) [.int .i64 a] S fun r S'=>r= .bool false/\S'=S:=by
 refine cF H.f76 (by simp) ?_;refine aj ?_;refine bQ (aj ?_);refine bQ ?_;refine eh (Aa (show ¬a≠a from fun h=>h rfl)) ?_;refine aR ?_;simp only[↓aC,aB,rE,↓reduceIte]
theorem aKu{S:St}{a b:Int}(H:Has fns):gH fns (.fn 100 [] []) [.int .i64 a,.int .i64 b] S fun r S'=>r= .bool (decide (a<b))/\S'=S:=by
 refine cF H.f100 (by simp) ?_;refine aj ?_;refine bQ (aj ?_);refine bQ (aj ?_);refine bE (aj ?_);refine aQ (yX H) ?_;rintro _ X ⟨rfl,hX⟩;rw[hX];refine aj ?_;refine aR ?_;simp only[↓aC,aB,rE,↓reduceIte]
def aIe(m:Int)(l:bu):Int:=l.foldl mx m
def aRL(S:St)(v:AV)(l:bu)(m0:Int)(k:Nat)(A:bS)(X:St):Prop:=A.inr=false/\X=S/\∃i,i+k=l.length/\0<i/\aD 0 A.F=v/\aD 3 A.F= .int .i64 (aIe m0 ((l.take i).drop 1))/\aD 4 A.F= .int .i64 (i:Int)
theorem aNi{S:St}{v:AV}{l:bu}(H:Has fns)(hl:bO .i64 S v l)(hne:0<l.length)(hlen:l.length<=1000000):gH fns (.fn 90 [] []) [v] S fun r S'=>r= .int .i64 (aIe (l.getD 0 0) (l.drop 1))/\S'=S:=by
 refine cF H.f90 (by simp) ?_;refine aj ?_;refine bQ (aj ?_);refine fE (eu hl.len @Ah ?_);refine aK ff (aH ?_);refine aj ?_;have hia:=hl.cn hne;have hld:=hl.ld hne;refine bQ (ew @aAX hia hld ?_);refine fE (aj ?_);refine aL (bK (aRL S v l (l.getD 0 0)) ?_ (l.length - 1) _ _ ⟨rfl,rfl,1,ay,by decide,ak,by refine aj ?_;rw[Ct (by rw[Bp];omega)];rfl,ak⟩);rintro k ⟨F,inr⟩ X ⟨q0,hX,i,hik,hi0,p0,p3,p4⟩;simp only at q0 p0 p3 p4;subst q0;rw[hX];refine fE (ez p0 p4 hl.len @Ah ?_);by_cases hi:i<l.length
 ·refine aM ff (aH ?_);refine aj ?_;have hia:=hl.cn hi;have hld:=hl.ld hi;have htk:(l.take (i+1)).drop 1=(l.take i).drop 1++ [l.getD i 0]:=by
   rw[Bx,Ac hi,List.drop_append,Bp,show 1 - min i l.length=0 by omega,Ad,Ac hi];rfl
  have w1:=dc i
  refine aA (aL (aG ?_));simp only[↓aC,aB,rE,↓reduceIte,p0,p3,p4,aJ,hia,hld,aMO,aCv];refine aG (eu p4 w1 ?_);refine⟨k - 1,ay,rfl,rfl,i+1,ay,ay,am p0,?_,ak⟩;refine aj ?_;rw[htk];unfold aIe;rw[List.foldl_append];rfl
 ·refine aK ff (bG ?_);refine aj ?_;rw[Bb ay] at p3;refine bQ (eh p3 ?_);refine aR ?_;simp only[↓aC,aB,rE,↓reduceIte]
def aSS(S:St)(v:AV)(l:bu)(z:Int)(k:Nat)(A:bS)(X:St):Prop:=A.inr=false/\X=S/\∃i,i+k=l.length/\¬z∈l.take i/\aD 0 A.F=v/\aD 1 A.F= .int .i64 z/\aD 7 A.F= .int .i64 (l.length:Int)/\aD 8 A.F= .int .i64 (i:Int)
theorem aHv{S:St}{v:AV}{l:bu}{z:Int}(H:Has fns)(hl:bO .i64 S v l)(hlen:l.length<=1000000):gH fns (.fn 99 [] []) [v,.int .i64 z] S fun r S'=>(∃j,r= .int .i64 j/\(0<=j↔z∈l))/\S'=S:=by
 refine cF H.f99 (by simp) ?_;refine aj ?_;refine bQ (aj ?_);refine fE (eu hl.len @Ah ?_);refine aL (bK (aSS S v l z) ?_ l.length _ _ ⟨rfl,rfl,0,ay,by simp,by refine⟨?_,?_,?_,?_⟩<;>simp only[↓aC,aB,rE,↓reduceIte]⟩);rintro k ⟨F,inr⟩ X ⟨q0,hX,j,hjk,ha,p0,p1,p7,p8⟩;simp only at q0 p0 p1 p7 p8;subst q0;rw[hX];refine bQ (eu p7 p8 ?_);by_cases hj:j<l.length
 ·refine aA (aM ff (aH ?_));refine aj ?_;have hia:=hl.cn hj;have hld:=hl.ld hj;have hgd:l.getD j 0=l[j]:=by rw[Ad,Ac hj];rfl
  have htk:l.take (j+1)=l.take j++ [l.getD j 0]:=by rw[Bx,Ac hj,hgd];rfl
  have hmem:l.getD j 0∈l:=by rw[hgd];exact Bo hj
  generalize l.getD j 0=w at *;have w1:=dc j
  refine aA (aL (aA (aG ?_)));refine eh p8 ?_;refine bQ (fa p0 p1 @aJ hia hld ?_);by_cases ho:z=w
  ·refine aM (fm (Ab ho)) ?_;refine bQ (aj ?_);refine aR (aj ?_);exact⟨_,rfl,⟨fun _=>by rw[ho];exact hmem,fun _=>ay⟩⟩
  ·refine aK (fm (Aa ho)) (aH ?_);refine aj ?_;refine aG (eu p8 w1 ?_);refine⟨k - 1,ay,rfl,rfl,j+1,ay,?_,by refine⟨?_,?_,?_,?_⟩<;>simp only[↓aC,aB,rE,↓reduceIte,p0,p1,p7]⟩;rw[htk];intro h;rcases Bf.1 h with h | h
   ·exact ha h
   ·simp at h;exact ho h
 ·refine aA (aK ff (bG ?_));refine aj ?_;rw[Bb ay] at ha;refine bQ (aj ?_);refine aR (aj ?_);exact⟨_,rfl,⟨fun h=>absurd h bg,fun h=>absurd h ha⟩⟩
theorem aEf{S:St}{v:AV}{l:bu}{z:Int}(H:Has fns)(hl:bO .i64 S v l)(hlen:l.length<=1000000):gH fns (.fn 96 [] []) [v,.int .i64 z] S fun r S'=>r= .bool (decide (z∈l))/\S'=S:=by
 refine cF H.f96 (by simp) ?_;refine aj ?_;refine bQ (aj ?_);refine bQ (aj ?_);refine bE (aj ?_);refine aQ (aHv H hl hlen) ?_;rintro _ Y ⟨⟨j,rfl,hj⟩,hY⟩;rw[hY];have hd:decide ((0:Int)<=j)=decide (z∈l):=by rw[Cr,Cq,Cq];exact hj
 refine eh hd ?_;refine aR ?_;simp only[↓aC,aB,rE,↓reduceIte]
def aPw(l:bu)(a b:Nat):Prop:=∀i,a<i->i<b->¬l.getD i 0<l.getD (i - 1) 0
def aDM(l:bu):Prop:=aPw l 0 l.length
def aS2(S:St)(v:AV)(l:bu)(k:Nat)(A:bS)(X:St):Prop:=A.inr=false/\Same S X/\∃i:Int,(k:Int)=max i 0/\ -1<=i/\i<max 1 (l.length:Int)/\aPw l i.toNat l.length/\aD 0 A.F=v/\aD 3 A.F= .int .i64 i
theorem aHh{S:St}{v:AV}{l:bu}(H:Has fns)(hl:bO .i64 S v l)(hlen:l.length<=1000000):gH fns (.fn 97 [] []) [v] S fun r S'=>(∃t,r= .bool t/\(t=true↔aDM l))/\Same S S':=by
 refine cF H.f97 (by simp) ?_;refine aj ?_;refine bQ (aj ?_);have w0:IntKind.i64.wrap ((l.length:Int) - 1)=(l.length:Int) - 1:=wrap_i64 ay ay;refine fE (ew hl.len @Ah w0 ?_);refine aL (bK (aS2 S v l) ?_ (l.length - 1) _ _ ⟨rfl,de S,(l.length:Int) - 1,ay,ay,ay,fun i h1 h2=>ay,by refine⟨?_,?_⟩<;>simp only[↓aC,aB,rE,↓reduceIte]⟩);rintro k ⟨F,inr⟩ X ⟨q0,hX,i,hik,hi1,hi2,hup,p0,p3⟩;simp only at q0 p0 p3;subst q0;have hlX:=hl.same hX;refine fE (eh p3 ?_);by_cases hi:0<i
 ·refine aM (fm (Ab hi)) (aH ?_);refine aj ?_;obtain⟨n,rfl⟩:∃n:Nat,i=(n:Int):=⟨i.toNat,ay⟩;have h1:n<l.length:=by omega
  have h0:n - 1<l.length:=by omega
  have w1:IntKind.i64.wrap ((n:Int) - 1)=((n - 1:Nat):Int):=by rw[wrap_i64 ay ay];omega
  have ia1:=hlX.cn h1;have ia0:=hlX.cn h0;have ld1:=hlX.ld h1;have ld0:=hlX.ld h0;have hself:=bO.self hl;obtain⟨b,hb⟩:∃b off cap o,v= .sl b off l.length cap o/\b<X.nx:=by
   rcases hlX with⟨h0,_⟩ | ⟨b,off,cap,o,cs,rfl,_,hb,_⟩
   ·rw[h0] at h1;simp at h1
   ·exact⟨b,off,cap,o,rfl,hb⟩
  obtain⟨off,cap,o,rfl,hbX⟩:=hb;simp only[aAe] at ia1 ia0 ld1 ld0;refine aA (aL (aA (dO (fun _=>False) ?_)));intro S1 s1;simp only[↓sU,sD,rE,↓reduceIte,rA,p0,p3,aJ,ia1,w1,ia0,ld1,ld0,hbX,Ap];refine cL rfl ?_;refine af ?_;refine aQ (aKu H) ?_;rintro _ Y ⟨rfl,hY⟩;rw[hY];refine⟨de _,?_⟩;by_cases ho:l.getD n 0<l.getD (n - 1) 0
  ·refine aM (fg (Ab ho)) ?_;refine bQ (af ?_);refine aR (af ?_);exact⟨⟨_,rfl,⟨fun h=>(by cases h),fun h=>absurd ho (h n ay h1)⟩⟩,hX.trans s1⟩
  ·refine aK (fg (Aa ho)) (aH ?_);refine af ?_;refine aG (df p3 w1 ?_);refine⟨k - 1,ay,rfl,hX.trans s1,((n - 1:Nat):Int),ay,ay,ay,fun j h1 h2=>?_,by refine⟨?_,?_⟩<;>simp only[↓sU,sD,rE,↓reduceIte,rA,p0]⟩;by_cases hj:j=n
   ·rw[hj];exact ho
   ·exact hup j ay h2
 ·refine aK (fm (Aa hi)) (bG ?_);refine aj ?_;refine bQ (aj ?_);refine aR (aj ?_);exact⟨⟨_,rfl,⟨fun _ j h1 h2=>hup j ay h2,fun _=>rfl⟩⟩,hX⟩
def lF:List cP->Nat->Nat->Nat
 | [],_,_=>0
 | x::l,s,i=>if x.kind=2/\x.info=(i:Int) then s+1 else lF l (s+1) i
def fV(g:bD):bu:=(List.range g.bn.length).map fun i=>((lF g.bk 0 i:Nat):Int)
def ce(g:bD)(i:Int):iS:=g.bn.getD i.toNat ⟨0,0⟩
def mis(g:bD)(x:cP):Prop:=x.kind=2/\¬ ((ce g x.info).player=x.player/\(ce g x.info).ca=(x.next.length:Int))
instance misDec(g:bD)(x:cP):Decidable (mis g x):=by unfold mis;exact inferInstance
open Classical in
noncomputable def wZ(g:bD):Int:=if ∃x∈g.bk,mis g x then 10 else if(0:Int)∈fV g then 18 else if aDM (fV g) then 0 else 9
def aFm(g:bD):Prop:=∀x∈g.bk,x.kind=2->0<=x.info/\x.info<g.bn.length
theorem aMQ(a b c d:Int):iL .neq (.struct [(0,.int),(1,.int)]) (.agg [.int .i64 a,.int .i64 b]) (.agg [.int .i64 c,.int .i64 d])=some (.bool (decide (¬ (a=c/\b=d)))):=by
 have k:∀y z:Int,eqp .int (.int .i64 y) (.int .i64 z)=some (decide (y=z)):=fun y z=>by
  show cB (keq .i64 .i64) (some (ieq y z)) none=_;rw[fT,aO,lJ];congr 1
 have e:eqv (.struct [(0,.int),(1,.int)]) (.agg [.int .i64 a,.int .i64 b]) (.agg [.int .i64 c,.int .i64 d])=some (decide (a=c/\b=d)):=by
  show eqs [(0,.int),(1,.int)] [.int .i64 a,.int .i64 b] [.int .i64 c,.int .i64 d]=_;unfold eqs;show(match eqp .int (.int .i64 a) (.int .i64 c) with | some true=>_ | some false=>_ | none=>_)=_;rw[k];by_cases h:a=c
  ·rw[Ab h];unfold eqs;show(match eqp .int (.int .i64 b) (.int .i64 d) with | some true=>_ | some false=>_ | none=>_)=_;rw[k];by_cases h2:b=d
   ·rw[Ab h2,Ab ⟨h,h2⟩];rfl
   ·rw[Aa h2,Aa (fun h3=>h2 h3.2)]
  ·rw[Aa h,Aa (fun h3=>h h3.1)]
 show bH (eqv (.struct [(0,.int),(1,.int)]) _ _) _=_;rw[e,aN];congr 2;by_cases h:a=c/\b=d
 ·rw[Ab h,Aa (fun h2=>h2 h)];rfl
 ·rw[Aa h,Ab h];rfl
def aPQ(S:St)(wb fb:Nat)(g:bD)(k:Nat)(A:bS)(X:St):Prop:=A.inr=false/\Same S X/\∃F:bu,k<=g.bk.length/\F.length=g.bn.length/\(∀j,j<g.bn.length->F.getD j 0=((lF (g.bk.drop k) k j:Nat):Int))/\X.h.get fb=some (.cells (bJ F) false 0)/\fb<X.nx/\
 aD 0 A.F= .ptr wb 0/\aD 3 A.F= .sl fb 0 g.bn.length g.bn.length false/\aD 4 A.F= .int .i64 ((k:Int) - 1)
def aRn(S1:St)(wb:Nat)(fv nv:AV)(g:bD)(k:Nat)(A:bS)(X:St):Prop:=A.inr=false/\Same S1 X/\∃i,i+k=g.bk.length/\(∀x∈g.bk.take i,¬mis g x)/\aD 0 A.F= .ptr wb 0/\aD 3 A.F=fv/\aD 47 A.F=nv/\aD 48 A.F= .int .i64 (g.bk.length:Int)/\aD 49 A.F= .int .i64 (i:Int)
theorem aJ3{S:St}{wb:Nat}{ps:Int}{nv iv pv dv lv:AV}{g:bD}(H:Has fns)(hW:tQ S wb ps nv iv pv dv lv)(hn:aP 6 cI S nv g.bk)(hi:aP 2 cW S iv g.bn)(hN:g.bk.length<=2000)(hI:g.bn.length<=200)(hok:aFm g):
  gH fns (.fn 91 [] []) [.ptr wb 0] S fun r S'=>r= .int .i64 (wZ g)/\Same S S':=by
 refine cF H.f91 (by simp) ?_;refine aq ?_;refine bQ (aq ?_);refine bQ (ec @aY @bB @aF @aE (dE hW.1) hi.len ?_);refine gO (pG (n:=g.bn.length) (fj @aJ) (fj @aJ) bf bf) ?_;intro S1 s1 n1 c1;refine aq ?_;have hz:repeatL [AV.int .i64 0] g.bn.length=bJ (List.replicate g.bn.length 0):=by rw[repeatL_one];simp [bJ]
 rw[hz] at c1;have hW1:=hW.same s1;have w0:IntKind.i64.wrap ((g.bk.length:Int) - 1)=(g.bk.length:Int) - 1:=wrap_i64 ay ay;refine aA (aW (Q:=fun o A' X=>o= .normal/\aPQ S wb S.nx g 0 A' X) (aA (aG ?_)) ?_)
 ·refine ed @aY @bB @aF @aE (dL hW1.1) hn.len w0 ?_;refine aL (bK (aPQ S wb S.nx g) ?_ g.bk.length _ _ ⟨rfl,s1,_,Ag _,Aq ..,fun j hj=>?_,c1,ay,by refine⟨?_,?_,?_⟩<;>simp only[↓aC,aB,rE,↓reduceIte,rA]⟩);rotate_left
  ·rw[Ct (Ag _),Ad,Cl];split<;>rfl
  rintro k ⟨F,inr⟩ X ⟨q0,hX,Fl,hkN,hFl,hF,hfb,hfbX,p0,p3,p4⟩;simp only at q0 p0 p3 p4;subst q0;refine fE (dz p4 ?_);by_cases hk:0<k
  ·refine aM ff (aH ?_);refine aq ?_;have e1:(k:Int) - 1=((k - 1:Nat):Int):=by omega
   rw[e1] at p4;have hlt:k - 1<g.bk.length:=by omega
   obtain⟨x,hx⟩:∃x,g.bk[k - 1]? =some x:=⟨_,Ac hlt⟩;have hxm:=Bu hx;have hWX:=hW.same hX;obtain⟨e,b,q,hia,hb,he,⟨a,bb,cc,rfl,ha,hbb,hcc⟩,hag,_⟩:=aP.at (aP.same (E:=cI) bT hn hX) bg hx;have hdrop:g.bk.drop (k - 1)=x::g.bk.drop k:=by
    rw[Cg hlt,show k - 1+1=k by omega];congr 1;rw[Ac hlt] at hx;exact Bl hx
   have w1:IntKind.i64.wrap (((k - 1:Nat):Int)+1)=(k:Int):=by rw[wrap_i64 ay ay];omega
   have w2:IntKind.i64.wrap (((k - 1:Nat):Int) - 1)=((k - 1:Nat):Int) - 1:=wrap_i64 ay ay;refine aA (aL (aA (aG ?_)));simp only[↓aC,aB,rE,↓reduceIte,rA,p0,p4,aY,bB,aF,aE,dL hWX.1,aJ,hia,hag];refine dC ?_;intro X1 x1 m1 d1;refine eS (b:=X.nx) (ar) (by refine aq ?_;exact bL _) d1 rfl rfl ?_;intro X2 x2 m2 d2;refine aq ?_;have hX2:Same X X2:=x2.same x1 (Ag _);have hfb2:X2.h.get S.nx=some (.cells (bJ Fl) false 0):=by rw[hX2.2 _ hfbX];exact hfb
   refine bQ (d7 @aF @aE (eG d2) ?_);have hfin:∀ (G:Fr) (Y:St) (Fl':bu),aD 0 G= .ptr wb 0->aD 3 G= .sl S.nx 0 g.bn.length g.bn.length false->aD 4 G= .int .i64 ((k - 1:Nat):Int)->Same S Y->Fl'.length=g.bn.length->(∀j,j<g.bn.length->Fl'.getD j 0=((lF (g.bk.drop (k - 1)) (k - 1) j:Nat):Int))->Y.h.get S.nx=some (.cells (bJ Fl') false 0)->S.nx<Y.nx->tS fns [mt 24 4,oq 25 (bi .sub (.t 24) (ci 1)),mt 4 25] G Y fun F' S'=>∃k',k'<k/\aPQ S wb S.nx g k' ⟨F',false⟩ S':=fun G Y Fl' g0 g3 g4 hY h1 h2 h3 h4=>by
    refine d6 g4 w2 ?_;exact⟨k - 1,ay,rfl,hY,Fl',ay,h1,h2,h3,h4,by refine⟨?_,?_,?_⟩<;>simp only[↓aC,aB,rE,↓reduceIte,rA,g0,g3]⟩
   by_cases hk2:x.kind=2
   ·refine aM (fj (Ab hk2)) ?_;have⟨i0,i1⟩:=hok x hxm hk2;obtain⟨n,hn'⟩:∃n:Nat,x.info=(n:Int):=⟨x.info.toNat,ay⟩;have hni:n<g.bn.length:=by omega
    rw[hn'] at d2;have hif:=eX (b:=S.nx) (o:=false) hni;refine aG ?_;simp only[↓aC,aB,rE,↓reduceIte,rA,p0,p3,p4,aF,aE,dE d2,w1,aJ,hif];refine fD (fun call=>by refine d6 @dS @cH ?_;exact sP (S:=X2) hfb2 (by rw[hFl];exact hni)) ?_;refine aq ?_;refine aG ?_;refine aHL (hfin _ _ (Fl.set n (k:Int)) (ax p0) (ax p3) (ax p4) (((hX.trans hX2)).put (Ag _) _) (by rw[Ar];exact hFl) (fun j hj=>?_) fq (by simp only;omega)) fun F' S' hh=>hh;rw[gE (by rw[hFl];exact hni),hdrop,hF j hj];simp only[lF];by_cases hjn:j=n
    ·rw[if_pos hjn,if_pos ⟨hk2,by rw[hn',hjn]⟩];omega
    ·rw[if_neg hjn,if_neg (fun h=>hjn ay),show k - 1+1=k by omega]
   ·refine aK (fj (Aa hk2)) (aH ?_);refine aq ?_;refine aG ?_;refine aHL (hfin _ X2 Fl (ax p0) (ax p3) (ax p4) (hX.trans hX2) hFl (fun j hj=>?_) hfb2 ay) fun F' S' hh=>hh;rw[hdrop,hF j hj];simp only[lF];rw[if_neg (fun h=>hk2 h.1),show k - 1+1=k by omega]
  ·refine aK ff (bG ?_);refine aq ?_;have hk0:k=0:=by omega
   subst hk0;exact⟨rfl,hX,Fl,hkN,hFl,hF,hfb,hfbX,by refine⟨?_,?_,?_⟩<;>simp only[↓aC,aB,rE,↓reduceIte,rA,p0,p3,p4]⟩
 rintro o ⟨F,inr⟩ S2 ⟨rfl,q0,s2,Fl,_,hFl,hF,hfb,hfb2,p0,p3,p4⟩;simp only at q0 p0 p3 p4;subst q0;have hFeq:Fl=fV g:=by
  unfold fV;refine Ff (by simp [hFl]) fun j j1 j2=>?_;have h1:=hF j ay;rw[Ad,Ac j1,Di] at h1;rw[List.getElem_map,List.getElem_range];exact h1
 subst hFeq;have hW2:=hW.same s2;have hn2:=aP.same (E:=cI) bT hn s2;have hi2:=aP.same (E:=cW) cM hi s2;refine aq ?_;refine aA (aW (Q:=fun o A' X=>(o= .normal/\aRn S2 wb (.sl S.nx 0 g.bn.length g.bn.length false) nv g 0 A' X)\/(o= .ret/\Same S2 X/\(∃x∈g.bk,mis g x)/\aD 2 A'.F= .int .i64 10)) (aA (aG ?_)) ?_)
 ·refine ed p0 @aY @bB @aF @aE (dL hW2.1) hn2.len ?_;refine aL (bK (aRn S2 wb (.sl S.nx 0 g.bn.length g.bn.length false) nv g) ?_ g.bk.length _ _ ⟨rfl,de _,0,ay,fun x hx=>(by simp at hx),by refine⟨?_,?_,?_,?_,?_⟩<;>simp only[↓aC,aB,rE,↓reduceIte,rA,p0,p3]⟩);clear p0 p3 p4;rintro k ⟨F,inr⟩ X ⟨q0,hX,i,hik,hm,p0,p3,p47,p48,p49⟩;simp only at q0 p0 p3 p47 p48 p49;subst q0;refine bQ (d6 p48 p49 ?_);by_cases hlt:i<g.bk.length
  ·refine aA (aM ff (aH ?_));refine aq ?_;obtain⟨x,hx⟩:∃x,g.bk[i]? =some x:=⟨_,Ac hlt⟩;have hxm:=Bu hx;obtain⟨e,b,q,hia,hb,he,⟨a,bb,cc,rfl,ha,hbb,hcc⟩,hag,_⟩:=aP.at (aP.same (E:=cI) bT hn2 hX) bg hx;have w1:=dc i
   refine aA (aL (aA (aG ?_)));refine d9 p47 p49 @aJ hia hag ?_;refine dC ?_;intro X1 x1 m1 d1;refine eS (b:=X.nx) (ar) (by refine aq ?_;exact bL _) d1 rfl rfl ?_;intro X2 x2 m2 d2;refine aq ?_;have hX2:Same X X2:=x2.same x1 (Ag _);have hS2X:=hX.trans hX2;have hWX:=hW2.same hS2X;have hla:=(ha.same hX2).len;have hsa:=bO.self ha;have hsi:=aP.self hi;refine aA (aW (Q:=fun o A' Y=>o= .normal/\A'.inr=false/\Same X2 Y/\aD 0 A'.F= .ptr wb 0/\aD 3 A'.F= .sl S.nx 0 g.bn.length g.bn.length false/\aD 47 A'.F=nv/\aD 48 A'.F= .int .i64 (g.bk.length:Int)/\aD 49 A'.F= .int .i64 (i:Int)/\aD 73 A'.F= .bool (decide (mis g x))) (iJ ?_) ?_)
   ·by_cases hk2:x.kind=2
    ·have⟨i0,i1⟩:=hok x hxm hk2;obtain⟨n,hn'⟩:∃n:Nat,x.info=(n:Int):=⟨x.info.toNat,ay⟩;have hni:n<g.bn.length:=by omega
     obtain⟨y,hy⟩:∃y,g.bn[n]? =some y:=⟨_,Ac hni⟩;obtain⟨e',b',q',hia',hb',he',rfl,hag',_⟩:=aP.at (aP.same (E:=cW) cM hi2 hS2X) bg hy;have hya:ce g x.info=y:=by unfold ce;rw[hn',Ad,show((n:Int)).toNat=n from rfl,hy];rfl
     have hmis:decide (mis g x)=decide (¬ (y.player=x.player/\y.ca=(x.next.length:Int))):=by
      rw[Cr,Cq,Cq];unfold mis;rw[hya];exact⟨fun h=>h.2,fun h=>⟨hk2,h⟩⟩
     rw[hmis];rw[hn'] at d2;have hs2:cT (.agg [.int .i64 y.player,.int .i64 y.ca]) (.agg [.int .i64 y.player,.int .i64 y.ca])=true:=aKO (eM ..) (eM ..);simp only[↓aC,aB,rE,↓reduceIte,rA,p0,p3,p47,p48,p49,aY,bN,bB,aF,aU,aE,eG d2,dL d2,dE d2,dI d2,dE hWX.1,aJ,hia',hag',hla,hsa,hsi,hs2,Ah,nS,aPN,cH,aMQ,Ab hk2];exact Same.nx _ _
    ·rw[Aa (show ¬mis g x from fun h=>hk2 h.1)];simp only[↓aC,aB,rE,↓reduceIte,rA,p0,p3,p47,p48,p49,aF,aU,aE,eG d2,Aa hk2];exact Same.nx _ _
   clear p0 p3 p47 p48 p49;rintro o ⟨F,inr⟩ Y ⟨rfl,q0,hY,p0,p3,p47,p48,p49,pb⟩;simp only at q0 p0 p3 p47 p48 p49 pb;subst q0;have hS2Y:=hS2X.trans hY;refine aq ?_;by_cases hmx:mis g x
   ·refine aM (fl pb (Ab hmx)) ?_;refine bQ (aq ?_);refine aR (aq ?_);exact .inr ⟨hS2Y,x,hxm,hmx⟩
   ·refine aK (fl pb (Aa hmx)) (aH ?_);refine aq ?_;refine aG (d6 p49 w1 ?_);refine⟨k - 1,ay,rfl,hS2Y,i+1,ay,fun y hy=>?_,by refine⟨?_,?_,?_,?_,?_⟩<;>simp only[↓aC,aB,rE,↓reduceIte,rA,p0,p3,p47,p48]⟩;rw[Bx,hx] at hy;rcases Bf.1 hy with h | h
    ·exact hm y h
    ·simp at h;rw[h];exact hmx
  ·refine aA (aK ff (bG ?_));refine aq ?_;have hk0:k=0:=by omega
   subst hk0;exact .inl ⟨rfl,hX,i,hik,hm,by refine⟨?_,?_,?_,?_,?_⟩<;>simp only[↓aC,aB,rE,↓reduceIte,rA,p0,p3,p47,p48,p49]⟩
 clear p0 p3 p4;rintro o ⟨F,inr⟩ X (⟨rfl,q0,hX,i,hik,hm,p0,p3,p47,p48,p49⟩ | ⟨rfl,hX,hmx,p2⟩);rotate_left
 ·simp only at p2;simp only[↓aC,aB,rE,↓reduceIte,rA,p2];unfold wZ;rw[if_pos hmx];exact⟨rfl,s2.trans hX⟩
 simp only at q0 p0 p3;subst q0;rw[Bb ay] at hm;unfold wZ;rw[if_neg (fun⟨x,h1,h2⟩=>hm x h1 h2)];have sX:=s2.trans hX;have hfX:X.h.get S.nx=some (.cells (bJ (fV g)) false 0):=by rw[hX.2 _ hfb2];exact hfb
 have hrow:=aCT (N:=g.bn.length) hfX (Ae hfb2 hX.1) hFl;refine aq ?_;refine fE (dz p3 ?_);refine bE (aq ?_);refine aQ (aEf H hrow ay) ?_;rintro _ Y ⟨rfl,hY⟩;rw[hY];by_cases h0:(0:Int)∈fV g
 ·rw[if_pos h0];refine aM (fj (Ab h0)) ?_;refine bQ (aq ?_);refine aR (aq ?_);exact sX
 rw[if_neg h0];refine aK (fj (Aa h0)) (aH ?_);refine aq ?_;refine fE (dz p3 ?_);refine bE (aq ?_);refine aQ (aHh H hrow ay) ?_;rintro _ Y ⟨⟨t,rfl,ht⟩,hY⟩;refine dz @eF ?_;cases t with
 | false=>
  rw[if_neg (fun h=>by have:=ht.2 h;cases this)];refine aM (by simp only[↓aC,aB,rE,↓reduceIte,rA];rfl) ?_;refine bQ (aq ?_);refine aR (aq ?_);exact sX.trans hY
 | true=>
  rw[if_pos (ht.1 rfl)];refine aK (by simp only[↓aC,aB,rE,↓reduceIte,rA];rfl) (aH ?_);refine aq ?_;refine bQ (aq ?_);refine aR (aq ?_);exact sX.trans hY
def mQ(g:bD):Prop:=g.bo<1\/(4:Int)<g.bo\/(g.bk.length:Int)<1\/(2000:Int)<(g.bk.length:Int)\/(200:Int)<(g.bn.length:Int)
instance badGDec(g:bD):Decidable (mQ g):=by unfold mQ;exact inferInstance
def jN(ps:Int)(ni:Nat):List cP->Int
 | []=>0
 | x::l=>if iC ps ni x≠0 then iC ps ni x else jN ps ni l
def fJ(g:bD):Option (List cK):=eJ g.bk.length (dN g) (g.bk.length+1) 0 (-1) 0
noncomputable def dB(g:bD):Int:=
 if mQ g then 2 else if jN g.bo g.bn.length g.bk≠0 then jN g.bo g.bn.length g.bk else
 match fJ g with
 | none=>9
 | some T=>if T.length≠g.bk.length then 9 else if 40<uG 0 T then 5 else wZ g
theorem jP{ps:Int}{ni:Nat}:∀ {l:List cP},jN ps ni l=0->∀x∈l,iC ps ni x=0
 | [],_,x,hx=>by cases hx
 | y::l,h,x,hx=>by
  simp only[jN] at h;split at h
  ·rename_i hne;exact absurd h hne
  ·rename_i he;rcases Bm.1 hx with rfl | hx
   ·exact Ee.1 he
   ·exact jP h x hx
theorem aBY{ps:Int}{ni:Nat}{x:cP}(h:iC ps ni x=0):x.next.length<=1000:=by
 unfold iC at h;split at h
 ·split at h
  ·cases h
  ·rename_i hb;unfold nJ at hb;omega
 ·split at h
  ·split at h
   ·cases h
   ·rename_i hb;unfold vG at hb;omega
  ·split at h
   ·split at h
    ·cases h
    ·rename_i hb;unfold oB at hb;omega
   ·cases h
theorem aBQ{ps:Int}{ni:Nat}{x:cP}(h:iC ps ni x=0)(h2:x.kind=2):0<=x.info/\x.info<ni:=by
 unfold iC at h;rw[if_neg ay,if_pos h2] at h;split at h
 ·cases h
 ·split at h
  ·cases h
  ·omega
theorem stc{S:St}{b p:Nat}{w:AV}{cs:b6}{o:Bool}{sz:Nat}(h:S.h.get b=some (.cells cs o sz))(hp:p<cs.length):mJ (.ptr b p) 1 [w] S=some (.undef,⟨S.h.set b (some (.cells (cs.set p w) o sz)),S.nx⟩):=by
 have hput:put cs p [w]=some (cs.set p w):=by
  rw[put_eq,if_pos (by simp;omega)];congr 1;rw[List.set_eq_take_append_cons_drop,if_pos hp];simp
 simp only[mJ,pJ,h,aN,vX,hput];rfl
theorem aAO{W:Nat->Prop}{h0 h':T AB}{base m i:Nat}{l:List AO}{F:Fr}{S:St}{ps ps':List iH}{last:Option Nat}{Q:Fr->St->List iH->Prop}{x v:cU}{b p sz:Nat}{w:AV}{cs:b6}{o:Bool}(hfl:cO m ps S.h=(ps',h'))(h:mB last m=true)(hx:x.val F= .ptr b p)(hv:(v.val F).cells=some [w])(hb:h'.get b=some (.cells cs o sz))(hp:p<cs.length)(hW:W b)
  (hr:gN fns W h0 base l (i+1) F ⟨h'.set b (some (.cells (cs.set p w) o sz)),S.nx⟩ ps' (some i) Q):gN fns W h0 base (⟨none,.x (.st 1 x v),none,m⟩::l) i F S ps last Q:=by
 refine xG (S1:=⟨h'.set b (some (.cells (cs.set p w) o sz)),S.nx⟩) h ?_ ?_ ?_
 ·rw[hfl,hv,aN,hx];exact stc (S:=⟨h',S.nx⟩) hb hp
 ·rw[hfl];refine⟨Ag _,fun c hc hw=>?_⟩;simp only;rw[dd,if_neg (show ¬c=b from fun e=>hw (by rw[e];exact hW))]
 ·rw[hfl];exact hr
theorem tE{h:T AB}{b:Nat}{x0 x1 x2:AV}{o:Bool}{s:Nat}(hb:h.get b=some (.cells [x0,x1,x2] o s)):eQ (.ptr b (0+0)) false 1 h=some x0:=ldc hb rfl
theorem gI{h:T AB}{b:Nat}{x0 x1 x2:AV}{o:Bool}{s:Nat}(hb:h.get b=some (.cells [x0,x1,x2] o s)):eQ (.ptr b (0+1)) false 1 h=some x1:=ldc hb rfl
theorem lW{h:T AB}{b:Nat}{x0 x1 x2:AV}{o:Bool}{s:Nat}(hb:h.get b=some (.cells [x0,x1,x2] o s)):eQ (.ptr b (0+2)) false 1 h=some x2:=ldc hb rfl
theorem iT{h:T AB}{b:Nat}{x0 x1 x2:AV}{o:Bool}{s:Nat}(hb:h.get b=some (.cells [x0,x1,x2] o s)):eQ (.ptr b 0) true 3 h=some (.agg [x0,x1,x2]):=rB hb rfl
theorem zV{m j id:Nat}{bl:AB}{ps:List iH}{h:T AB}(ht:Nat.testBit m j=false):cO m (⟨j,id,bl⟩::ps) h=(⟨j,id,bl⟩::(cO m ps h).1,(cO m ps h).2):=by
 conv=>lhs;unfold cO
 rw[show Nat.testBit m (iH.mk j id bl).i=false from ht,aT]
theorem iD{m j id:Nat}{bl:AB}{ps:List iH}{h:T AB}(ht:Nat.testBit m j=true):cO m (⟨j,id,bl⟩::ps) h=cO m ps (h.set id (some bl)):=by
 conv=>lhs;unfold cO
 rw[show Nat.testBit m (iH.mk j id bl).i=true from ht,aO]
theorem qI{W:Nat->Prop}{h0:T AB}{base i:Nat}{l:List AO}{F:Fr}{S:St}{ps:List iH}{last:Option Nat}{Q:Fr->St->List iH->Prop}{d:Option Nat}{t s bytes n:Nat}{z:b6}{lo co:cU}(hl:fG (lo.val F)=some n)(hc:fG (co.val F)=some n)(h1:n<=room)(h2:bytes * n<=room)
  (hr:gN fns W h0 base l (i+1) (cR d F (.sl (base+i) 0 n n false)) S (⟨i,base+i,.cells (repeatL z n) false 0⟩::ps) last Q):aHJ fns W h0 base (sH (.cv t s bytes z lo co) F (base+i)) d l i F S ps last Q:=by
 rw[pG hl hc h1 h2,oF];exact hr
theorem iN.full{sel:cK->Int}{P P':bu}{T:List cK}(h:iN sel P P' T 0)(hl:T.length=P.length):P'=T.map sel:=by
 refine Ff (by rw[Ay,h.1,hl]) fun j j1 j2=>?_;have h1:=h.2 j;rw[Ay] at j2;unfold vP at h1;rw[if_pos (Da _),Eu,Ac j2,Ad,Ac j1] at h1;rw[List.getElem_map];exact h1
theorem aIP{g:bD}{T:List cK}(h:fJ g=some T):∃e L,T=(-1,0,e)::L:=by
 unfold fJ at h;simp only[eJ] at h;split at h
 ·obtain⟨L,_,rfl⟩:=Az.1 h;exact⟨_,_,rfl⟩
 ·cases h
theorem aMi(m:Int)(L:List cK):aIe m (L.map (·.2.1))=uG m L:=by
 unfold aIe uG;rw[List.foldl_map]
theorem aNU{P:T AB->Prop}{h:T AB}{w b1 b2 b3:Nat}{c1 c2 c3 z:Option AB}(n1:w≠b1)(n2:w≠b2)(n3:w≠b3)(n4:b1≠b2)(n5:b1≠b3)(n6:b2≠b3)
  (H:∀h':T AB,h'.get w=c3->h'.get b1=z->h'.get b2=z->h'.get b3=z->(∀c,c≠w->c≠b1->c≠b2->c≠b3->h'.get c=h.get c)->P h'):P ((((((h.set b1 z).set w c1).set b2 z).set w c2).set b3 z).set w c3):=by
 refine H _ ?_ ?_ ?_ ?_ fun c h1 h2 h3 h4=>?_
 ·rw[dd,if_pos rfl]
 ·rw[dd,if_neg (Cx n1),dd,if_neg n5,dd,if_neg (Cx n1),dd,if_neg n4,dd,if_neg (Cx n1),dd,if_pos rfl]
 ·rw[dd,if_neg (Cx n2),dd,if_neg n6,dd,if_neg (Cx n2),dd,if_pos rfl]
 ·rw[dd,if_neg (Cx n3),dd,if_pos rfl]
 ·rw[dd,if_neg h1,dd,if_neg h4,dd,if_neg h1,dd,if_neg h3,dd,if_neg h1,dd,if_neg h2]
def aRs(S2:St)(gb wb:Nat)(nv:AV)(g:bD)(k:Nat)(A:bS)(X:St):Prop:=A.inr=false/\Same S2 X/\∃i,i+k=g.bk.length/\jN g.bo g.bn.length g.bk=jN g.bo g.bn.length (g.bk.drop i)/\aD 1 A.F= .ptr gb 0/\aD 4 A.F= .ptr wb 0/\aD 40 A.F=nv/\aD 41 A.F= .int .i64 (g.bk.length:Int)/\aD 42 A.F= .int .i64 (i:Int)
def aPJ(S S':St)(p nv iv:AV)(g:bD):Prop:=∃ (wb pb db lb:Nat) (T:List cK),p= .ptr wb 0/\S.nx<=wb/\fJ g=some T/\T.length=g.bk.length/\WK S' wb pb db lb g.bk.length g.bo nv iv (T.map (·.1)) (T.map (·.2.1)) (T.map (·.2.2))
theorem aG6{S:St}{nv iv:AV}{g:bD}(H:Has fns)(hn:aP 6 cI S nv g.bk)(hi:aP 2 cW S iv g.bn)(hln:g.bk.length<=100000):
  gH fns (.fn 79 [] []) [.agg [.int .i64 g.bo,nv,iv]] S fun r S'=>Same S S'/\∃p,r= .tup [p,.int .i64 (dB g)]/\(dB g=0->aPJ S S' p nv iv g):=by
 refine cF H.f79 (by simp) ?_;refine af ?_;refine bQ ?_;refine dV (by refine af ?_;exact bL _) ?_;intro S1 s1 n1 c1;refine af ?_;have hnl:=hn.len;have hil:=hi.len;refine aA (aA (aW (Q:=fun o A' X=>o= .normal/\A'.inr=false/\X=S1/\aD 1 A'.F= .ptr S.nx 0/\aD 35 A'.F= .bool (decide (mQ g))) (aG ?_) ?_))
 ·by_cases h1:g.bo<1
  ·rw[Ab (show mQ g from .inl h1)];simp only[↓sU,sD,rE,↓reduceIte,rA,aF,aE,tE c1,gI c1,lW c1,hnl,hil,Ab h1]
  by_cases h2:(4:Int)<g.bo
  ·rw[Ab (show mQ g from .inr (.inl h2))];simp only[↓sU,sD,rE,↓reduceIte,rA,aF,aE,tE c1,gI c1,lW c1,hnl,hil,Aa h1,Ab h2]
  by_cases h3:(g.bk.length:Int)<1
  ·rw[Ab (show mQ g from .inr (.inr (.inl h3)))];simp only[↓sU,sD,rE,↓reduceIte,rA,aF,aE,tE c1,gI c1,lW c1,hnl,hil,Aa h1,Aa h2,Ab h3]
  by_cases h4:(2000:Int)<(g.bk.length:Int)
  ·rw[Ab (show mQ g from .inr (.inr (.inr (.inl h4))))];simp only[↓sU,sD,rE,↓reduceIte,rA,aF,aE,tE c1,gI c1,lW c1,hnl,hil,Aa h1,Aa h2,Aa h3,Ab h4]
  by_cases h5:(200:Int)<(g.bn.length:Int)
  ·rw[Ab (show mQ g from .inr (.inr (.inr (.inr h5))))];simp only[↓sU,sD,rE,↓reduceIte,rA,aF,aE,tE c1,gI c1,lW c1,hnl,hil,Aa h1,Aa h2,Aa h3,Aa h4,Ab h5]
  ·rw[Aa (show ¬mQ g by unfold mQ;omega)];simp only[↓sU,sD,rE,↓reduceIte,rA,aF,aE,tE c1,gI c1,lW c1,hnl,hil,Aa h1,Aa h2,Aa h3,Aa h4,Aa h5]
 rintro o ⟨F,inr⟩ X ⟨rfl,q0,hX,p1,pb⟩;simp only at q0 p1 pb;subst q0;rw[hX];clear hX;refine af ?_;by_cases bad:mQ g
 ·have hE:dB g=2:=by unfold dB;rw[if_pos bad]
  rw[hE];refine aM (fh pb (Ab bad)) ?_;refine bQ (af ?_);refine aR (af ?_);exact⟨s1,_,rfl,fun h=>by cases h⟩
 refine aK (fh pb (Aa bad)) (aH ?_);refine af ?_;have hps:1<=g.bo/\g.bo<=4:=by unfold mQ at bad;omega
 have hN:g.bk.length<=2000:=by unfold mQ at bad;omega
 have hN0:0<g.bk.length:=by unfold mQ at bad;omega
 have hI:g.bn.length<=200:=by unfold mQ at bad;omega
 have hbd:∀ (F:Fr) (h:T AB),aD 36 F= .agg [.int .i64 g.bo,nv,iv]->gT (.build [.int .i64 0,.cb,.cb,.cb,.cb,.cb] [(0,3,.t 36)]) F h=some (.agg [.int .i64 g.bo,nv,iv,.cb,.cb,.cb]):=fun F h he=>by
  show(bH (eZ _ (eH F [(0,3,.t 36)])) fun cs=>some (AV.agg cs))=_;simp only[eH,show(cU.t 36).val F= .agg [.int .i64 g.bo,nv,iv] from he];rfl
 refine bQ (d7 p1 (iT c1) hbd ?_);refine dV (by refine aj ?_;exact bL _) ?_;intro S2 s2 n2 c2;refine af ?_;have sS2:Same S S2:=s1.trans s2;have hW:tQ S2 S1.nx g.bo nv iv .cb .cb .cb:=⟨c2,ay⟩;have hn2:=aP.same (E:=cI) bT hn sS2;have gl2:S.nx<S2.nx:=by omega
 have c1':S2.h.get S.nx=some (.cells [.int .i64 g.bo,nv,iv] false 0):=by rw[s2.2 _ ay];exact c1
 refine aA (aW (Q:=fun o A' X=>(o= .normal/\aRs S2 S.nx S1.nx nv g 0 A' X)\/(o= .ret/\Same S2 X/\jN g.bo g.bn.length g.bk≠0/\aD 2 A'.F= .nilp/\aD 3 A'.F= .int .i64 (jN g.bo g.bn.length g.bk))) (aA (aG ?_)) ?_)
 ·refine dt p1 @aF @aE (gI c1') hnl ?_;refine aL (bK (aRs S2 S.nx S1.nx nv g) ?_ g.bk.length _ _ ⟨rfl,de _,0,ay,by rw[Di],by refine⟨?_,?_,?_,?_,?_⟩<;>simp only[↓sU,sD,rE,↓reduceIte,rA,p1]⟩);clear p1 pb;rintro k ⟨F,inr⟩ X ⟨q0,hX,i,hik,hE,p1,p4,p40,p41,p42⟩;simp only at q0 p1 p4 p40 p41 p42;subst q0;refine bQ (df p41 p42 ?_);by_cases hlt:i<g.bk.length
  ·refine aA (aM fe (aH ?_));refine af ?_;obtain⟨x,hx⟩:∃x,g.bk[i]? =some x:=⟨_,Ac hlt⟩;have⟨e,b,q,hia,hb,he,hNE,hag,_⟩:=aP.at (aP.same (E:=cI) bT hn2 hX) bg hx;have hdrop:g.bk.drop i=x::g.bk.drop (i+1):=by
    rw[Cg hlt];congr 1;rw[Ac hlt] at hx;exact Bl hx
   have w1:=dc i
   refine aA (aL (aA (aG ?_)));refine d9 p40 p42 @aJ hia hag ?_;refine dC ?_;intro X1 x1 m1 d1;refine eS (b:=X.nx) (ar) (by refine aq ?_;exact bL _) d1 rfl he ?_;intro X2 x2 m2 d2;refine aq ?_;have hX2:Same X X2:=x2.same x1 (Ag _);refine bQ (df p4 (rB d2 he) ?_);refine bE (af ?_);refine aQ (aKq H (bT hNE hX2) (hW.same (hX.trans hX2)) hps hil ay (aP.self hi)) ?_;rintro _ Y ⟨rfl,hY⟩;have hSY:=(hX.trans hX2).trans hY;rw[hdrop] at hE;simp only[jN] at hE;refine bQ (af ?_);by_cases he0:iC g.bo g.bn.length x=0
   ·rw[if_neg (fun h=>h he0)] at hE;refine aK (fg (Aa (show ¬iC g.bo g.bn.length x≠0 from fun h=>h he0))) (aH ?_);refine af ?_;refine aG (df p42 w1 ?_);exact⟨k - 1,ay,rfl,hSY,i+1,ay,hE,by refine⟨?_,?_,?_,?_,?_⟩<;>simp only[↓sU,sD,rE,↓reduceIte,rA,p1,p4,p40,p41]⟩
   ·rw[if_pos he0] at hE;refine aM (fg (Ab (show iC g.bo g.bn.length x≠0 from he0))) ?_;refine bQ (af ?_);refine aR (af ?_);exact .inr ⟨hSY,by rw[hE];exact he0,by rw[hE]⟩
  ·refine aA (aK fe (bG ?_));refine af ?_;have hk0:k=0:=by omega
   subst hk0;exact .inl ⟨rfl,hX,i,hik,hE,by refine⟨?_,?_,?_,?_,?_⟩<;>simp only[↓sU,sD,rE,↓reduceIte,rA,p1,p4,p40,p41,p42]⟩
 clear p1 pb;rintro o ⟨F,inr⟩ X (⟨rfl,q0,hX,i,hik,hE,p1,p4,p40,p41,p42⟩ | ⟨rfl,hX,hne,p2,p3⟩);rotate_left
 ·simp only at p2 p3;refine df p2 p3 ?_;have hE:dB g=jN g.bo g.bn.length g.bk:=by unfold dB;rw[if_neg bad,if_pos hne]
  rw[hE];exact⟨sS2.trans hX,_,rfl,fun h=>absurd h hne⟩
 simp only at q0 p1 p4;subst q0;rw[Ct ay] at hE;have hform:dB g=match fJ g with | none=>9 | some T=>if T.length≠g.bk.length then 9 else if 40<uG 0 T then 5 else wZ g:=by
  conv=>lhs;unfold dB
  rw[if_neg bad,if_neg (fun h=>h hE)]
  first | done | (cases fJ g<;>rfl)
 have sX:=sS2.trans hX;have cX:X.h.get S.nx=some (.cells [.int .i64 g.bo,nv,iv] false 0):=by rw[hX.2 _ gl2];exact c1'
 have wX:=(hW.same hX).1;have ltw:=(hW.same hX).2;have ltg:S.nx<X.nx:=Ae gl2 hX.1;have nwg:¬S.nx=S1.nx:=by omega
 refine af ?_;refine aA (qO (fun b=>b=S1.nx) ?_);intro X1 x1 hx1 hm1;simp only[↓sU,sD,rE,↓reduceIte,rA,p1,p4,aF,aU,aE,gI cX,ltg,nwg,Ap,hnl,aP.self hn];refine qI (n:=g.bk.length) (fg @aJ) (fg @aJ) bf bf  ?_;simp only[↓sU,sD,rE,↓reduceIte,rA,p1,p4,aF,aU,aE,gI cX,ltg,nwg,Ap,hnl,aP.self hn];refine qI (n:=g.bk.length) (fg @aJ) (fg @aJ) bf bf  ?_;simp only[↓sU,sD,rE,↓reduceIte,rA,p1,p4,aF,aU,aE,gI cX,ltg,nwg,Ap,hnl,aP.self hn];refine qI (n:=g.bk.length) (fg @aJ) (fg @aJ) bf bf  ?_;refine dy p1 p4 @aY @bN @bB @aF @aU @aE ?_;have hz:repeatL [AV.int .i64 0] g.bk.length=bJ (List.replicate g.bk.length 0):=by rw[repeatL_one];simp [bJ]
 rw[hz];have n6:¬S1.nx=X.nx+6:=by omega
 have n10:¬S1.nx=X.nx+10:=by omega
 have n14:¬S1.nx=X.nx+14:=by omega
 refine aAO (b:=S1.nx) (p:=3) (w:=.sl (X.nx+6) 0 g.bk.length g.bk.length false) (cs:=[.int .i64 g.bo,nv,iv,.cb,.cb,.cb]) (o:=false) (sz:=0) ((zV (bg:Nat.testBit 98425 14=false)).trans (by rw[zV (bg:Nat.testBit 98425 10=false),iD (bg:Nat.testBit 98425 6=true),bX])) rfl (ag) (by simp only[↓sU,sD,rE,↓reduceIte,rA];rfl) (by rw[dd,if_neg n6,hx1];exact wX) (by simp) rfl ?_;refine dy p1 p4 @aY @bN @bB @aF @aU @aE ?_;refine aAO (b:=S1.nx) (p:=4) (w:=.sl (X.nx+10) 0 g.bk.length g.bk.length false) (cs:=[.int .i64 g.bo,nv,iv,.sl (X.nx+6) 0 g.bk.length g.bk.length false,.cb,.cb]) (o:=false) (sz:=0) ((zV (bg:Nat.testBit 1017851 14=false)).trans (by rw[iD (bg:Nat.testBit 1017851 10=true),bX])) rfl (ag) (by simp only[↓sU,sD,rE,↓reduceIte,rA];rfl) (by rw[dd,if_neg n10,dd,if_pos rfl];rfl) (by simp) rfl ?_;refine dy p1 p4 @aY @bN @bB @aF @aU @aE ?_;refine aAO (b:=S1.nx) (p:=5) (w:=.sl (X.nx+14) 0 g.bk.length g.bk.length false) (cs:=[.int .i64 g.bo,nv,iv,.sl (X.nx+6) 0 g.bk.length g.bk.length false,.sl (X.nx+10) 0 g.bk.length g.bk.length false,.cb]) (o:=false) (sz:=0) ((iD (bg:Nat.testBit 8388607 14=true)).trans (bX _ _)) rfl (ag) (by simp only[↓sU,sD,rE,↓reduceIte,rA];rfl) (by rw[dd,if_neg n14,dd,if_pos rfl];rfl) (by simp) rfl ?_;refine af ?_;refine aNU (P:=fun h'=>lU fns _ _ ⟨h',X1.nx⟩ _) n6 n10 n14 ay ay ay ?_;intro Zh gw g1 g2 g3 gr;have hm1:X1.nx=X.nx+24:=hm1;have sZ:Same S ⟨Zh,X1.nx⟩:=⟨by show S.nx<=X1.nx;have:=sX.1;omega,fun c hc=>by
  have:=sX.1;show Zh.get c=S.h.get c;rw[gr c ay ay ay ay,hx1];exact sX.2 c hc⟩
 have cZ:Zh.get S.nx=some (.cells [.int .i64 g.bo,nv,iv] false 0):=by
  rw[gr _ ay ay ay ay,hx1];exact cX
 have hK:WK ⟨Zh,X1.nx⟩ S1.nx (X.nx+6) (X.nx+10) (X.nx+14) g.bk.length g.bo nv iv (List.replicate g.bk.length 0) (List.replicate g.bk.length 0) (List.replicate g.bk.length 0):=⟨⟨gw,by show S1.nx<X1.nx;omega⟩,g1,g2,g3,Aq ..,Aq ..,Aq ..,by show _<X1.nx;omega,by show _<X1.nx;omega,by show _<X1.nx;omega⟩;generalize hZ:(⟨Zh,X1.nx⟩:St)=Z at *;have cZ:Z.h.get S.nx=some (.cells [.int .i64 g.bo,nv,iv] false 0):=by rw[<-hZ];exact cZ
 have lz:S1.nx<Z.nx:=hK.w.2;have hall:=jP hE;refine fE (dt p1 p4 @aF @aE (gI cZ) ?_);refine bE (af ?_);rw[show Int.negSucc 0=(-1:Int) from rfl];refine aQ (aKE (rv:=nv) H hn ay (az sX.1) (az sX.1) (az sX.1) ay ay ay n6 n10 n14 hN (fun x hx=>aBY (hall x hx)) (g.bk.length+1) (at_:=0) (p:= -1) (d:=0) ay bg bg ay sZ hK (by rw[Di];exact hn)) ?_;rintro r Y ⟨hY,P',D',L',hKY,hres⟩;have sY:Same S Y:=hY.same sZ (az sX.1) (az sX.1) (az sX.1);have hres':match fJ g with | some T=>(∃v,r= .tup [v,.bool true]/\aP 6 cI S v (g.bk.drop (0+T.length)))/\iN (·.1) (List.replicate g.bk.length 0) P' T 0/\iN (·.2.1) (List.replicate g.bk.length 0) D' T 0/\iN (·.2.2) (List.replicate g.bk.length 0) L' T 0 | none=>r= .tup [.cb,.bool false]:=hres
 clear hres;cases hw:fJ g with
 | none=>
  rw[hw] at hres' hform;subst hres';simp only at hform;rw[hform];refine df @ex0 @ex1 ?_;refine bQ (df @eF @Cb ?_);refine aM (ag) ?_;refine bQ (af ?_);refine aR (af ?_);exact⟨sY,_,rfl,fun h=>by cases h⟩
 | some T=>
  rw[hw] at hres' hform;obtain⟨⟨v,rfl,hv⟩,rP,rD,rL⟩:=hres';simp only at hform;have hTl:=(xK (show eJ g.bk.length (dN g) (g.bk.length+1) 0 (-1) 0=some T from hw)).1;have hvl:=hv.len;rw[De] at hvl;refine df @ex0 @ex1 ?_;refine bQ (dh @eF @Bt hvl ?_);by_cases hT:T.length=g.bk.length;rotate_left
  ·rw[hform,if_pos hT];refine aM fe ?_;refine bQ (af ?_);refine aR (af ?_);exact⟨sY,_,rfl,fun h=>by cases h⟩
  rw[if_neg (fun h=>h hT)] at hform;refine aK fe (aH ?_);refine af ?_;have eP:=rP.full (by rw[Aq];exact hT);have eD:=rD.full (by rw[Aq];exact hT);have eL:=rL.full (by rw[Aq];exact hT);subst eP eD eL;have hrow:=aCT hKY.gd hKY.bd hKY.ld;have⟨e,L,hTe⟩:=aIP hw;have hmax:aIe ((T.map (·.2.1)).getD 0 0) ((T.map (·.2.1)).drop 1)=uG 0 T:=by
   rw[hTe];show aIe 0 (L.map (·.2.1))=uG 0 ((-1,0,e)::L);rw[aMi,aE4];rfl
  refine fE (dx p1 p4 @aY @bB @aF @aE (dP hKY.w.1) ?_);refine bE (af ?_);refine aQ (aNi H hrow (by rw[Ay];omega) (by rw[Ay];omega)) ?_;rintro _ Y2 ⟨rfl,hY2⟩;rw[hY2,hmax];refine af ?_;by_cases h40:40<uG 0 T
  ·rw[hform,if_pos h40];refine aM (fg (Ab h40)) ?_;refine bQ (af ?_);refine aR (af ?_);exact⟨sY,_,rfl,fun h=>by cases h⟩
  rw[if_neg h40] at hform;refine aK (fg (Aa h40)) (aH ?_);refine af ?_;refine bQ (df p1 p4 ?_);refine bE (af ?_);refine aQ (aJ3 H hKY.w (aP.same (E:=cI) bT hn sY) (aP.same (E:=cW) cM hi sY) hN hI (fun x hx h2=>aBQ (hall x hx) h2)) ?_;rintro _ Y3 ⟨rfl,hY3⟩;refine aR (af ?_);rw[hform];refine⟨sY.trans hY3,_,rfl,fun _=>⟨S1.nx,_,_,_,T,rfl,ay,hw,hT,⟨hKY.w.same hY3,by rw[hY3.2 _ hKY.bp];exact hKY.gp,by rw[hY3.2 _ hKY.bd];exact hKY.gd,by rw[hY3.2 _ hKY.bl];exact hKY.gl,hKY.lp,hKY.ld,hKY.ll,Ae hKY.bp hY3.1,Ae hKY.bd hY3.1,Ae hKY.bl hY3.1⟩⟩⟩
theorem aEq{S:St}{wb:Nat}{ps:Int}{n i p d l:AV}(H:Has fns)(hW:tQ S wb ps n i p d l):gH fns (.fn 65 [] []) [.ptr wb 0] S fun r S'=>r=p/\Same S S':=by
 refine cF H.f65 (by simp) ?_;refine af ?_;refine bQ (af ?_);refine bQ (dt @aY @bB @aF @aE (dI hW.1) ?_);refine aR (af ?_);exact de _
def aPk(S S':St)(v:AV)(g:bD):Prop:=(dB g≠0->v= .cb)/\(dB g=0->∃T,fJ g=some T/\T.length=g.bk.length/\bO .i64 S' v (T.map (·.1)))
theorem aFV{S:St}{nv iv:AV}{g:bD}(H:Has fns)(hn:aP 6 cI S nv g.bk)(hi:aP 2 cW S iv g.bn)(hln:g.bk.length<=100000):
  gH fns (.fn 46 [] []) [.agg [.int .i64 g.bo,nv,iv]] S fun r S'=>∃v,r= .tup [v,.int .i64 (dB g)]/\Same S S'/\aPk S S' v g:=by
 refine cF H.f46 (by simp) ?_;refine af ?_;refine bQ ?_;refine dV (by refine af ?_;exact bL _) ?_;intro S1 s1 n1 c1;refine af ?_;refine bQ (cm (iT c1) ?_);refine bE (af ?_);have hn1:=aP.same (E:=cI) bT hn s1;have hi1:=aP.same (E:=cW) cM hi s1;refine aQ (Q:=fun r X=>∃v,r= .tup [v,.int .i64 (dB g)]/\Same S1 X/\aPk S1 X v g) ?_ ?_
 ·refine cF H.f64 (by simp) ?_;refine af ?_;refine bQ ?_;refine dV (by refine af ?_;exact bL _) ?_;intro S2 s2 n2 c2;refine af ?_;refine bQ (cm (iT c2) ?_);refine bE (af ?_);refine aQ (aG6 H (aP.same (E:=cI) bT hn1 s2) (aP.same (E:=cW) cM hi1 s2) hln) ?_;rintro _ X ⟨hX,p,rfl,hok⟩;refine df @ex0 @ex1 ?_;refine fE (af ?_);by_cases h0:dB g=0
  ·refine aK (fg (Aa (show ¬dB g≠0 from fun h=>h h0))) (aH ?_);refine af ?_;obtain⟨wb,pb,db,lb,T,rfl,_,hT,hTl,hK⟩:=hok h0;refine bQ (af ?_);refine bE (af ?_);refine aQ (aEq H hK.w) ?_;rintro _ Y ⟨rfl,hY⟩;refine aR (af ?_);rw[h0];refine⟨_,rfl,(s2.trans hX).trans hY,fun h=>absurd h0 h,fun _=>⟨T,hT,hTl,?_⟩⟩;exact(aCT hK.gp hK.bp hK.lp).same hY
  ·refine aM (fg (Ab (show dB g≠0 from h0))) ?_;refine bQ (af ?_);refine bQ (af ?_);refine aR (af ?_);exact⟨_,rfl,s2.trans hX,fun _=>rfl,fun h=>absurd h h0⟩
 rintro _ X ⟨v,rfl,hX,hP⟩;refine df @ex0 @ex1 ?_;refine aR (af ?_);exact⟨_,rfl,s1.trans hX,hP⟩
theorem aOq{S:St}{t:Nat}{x:AV}{o:Bool}{sz:Nat}(h:S.h.get t=some (.cells [x] o sz)):eE (.sl t 0 1 1 false) S.h 1 1=some [x]:=by
 show bH (cJ S.h t) (fun cs=>cut cs 0 (1 * 1))=_;unfold cJ;rw[h];rfl
theorem fX.push{bytes t:Nat}{S0 S:St}{v:AV}{l:bu}{w:Int}(h:fX 1 S0 S v l.length (bJ l))(hS:Same S0 S)(ht:S.h.get t=some (.cells [.int .i64 w] false 0))(h1:l.length+1<=room)(h2:(l.length+1) * bytes<=room):
  ∃v' S',fN bytes 1 v (.sl t 0 1 1 false) S=some (v',S')/\fX 1 S0 S' v' (l++ [w]).length (bJ (l++ [w]))/\aX v'=some S.nx/\S'.nx=S.nx+1/\∀c,c<S.nx->aX v≠some c->S'.h.get c=S.h.get c:=by
 have hs:=aOq ht;have e0:bJ (l++ [w])=bJ l++ [.int .i64 w]:=by simp [bJ]
 have e1:(l++ [w]).length=l.length+1:=by simp
 rw[e0,e1];generalize hn:l.length=n at *;rcases h with⟨rfl,rfl,h0⟩ | ⟨b,rfl,hb0,hb,hg,hc⟩
 ·refine⟨.sl S.nx 0 1 1 true,⟨S.h.set S.nx (some (.cells [.int .i64 w] true 1)),S.nx+1⟩,?_,.inr ⟨S.nx,by rw[An],hS.1,by simp,?_,?_⟩,rfl,rfl,fun c hc _=>(Same.alloc S _).2 c hc⟩
  ·show(bH (some 1) fun j=>bH (eE (.sl t 0 1 1 false) S.h 1 j) fun new=>yA .cb bytes 1 j new S)=_;rw[aN,hs,aN];show pI bytes 1 1 [.int .i64 w] S=_;unfold pI;rw[show Nat.beq 1 0=false from rfl,aT,Ak ay,aO,Ak (by rw[An] at h2;exact h2),aO];rfl
  ·simp only;rw[dd,if_pos rfl,h0];rfl
  ·rw[h0];rfl
 ·refine⟨.sl S.nx 0 (n+1) (n+1) true,⟨(S.h.set b none).set S.nx (some (.cells (bJ l++ [.int .i64 w]) true 1)),S.nx+1⟩,?_,.inr ⟨S.nx,rfl,hS.1,by simp,?_,by rw[Ai,hc,Av,Ec,Fi]⟩,rfl,rfl,fun c hc hne=>?_⟩
  ·show(bH (some 1) fun j=>bH (eE (.sl t 0 1 1 false) S.h 1 j) fun new=>yA (.sl b 0 n n true) bytes 1 j new S)=_;rw[aN,hs,aN];show jK bytes 1 b 0 n n true 1 [.int .i64 w] S=_;unfold jK;have e2:Nat.ble (n+1) n=false:=by rw[Ch];intro h;have:=Ba h;omega
   rw[e2,aT,Ak h1,aO,Ak h2,aO,hg,aN];have e3:cut (bJ l) 0 (n * 1)=some (bJ l):=by
    unfold cut;rw[fU,fZ,Di,if_pos ay,Bb ay]
   have e4:Nat.beq (0+n * 1) (lO (bJ l))=true:=by rw[fL,hc,Bg];omega
   simp only[vJ,e3,aN,aO,e4,show Nat.beq 1 1=true from rfl,grown,fW]
  ·simp only;rw[dd,if_pos rfl]
  ·simp only;have:c≠b:=fun e=>hne (by rw[e];rfl);rw[dd,if_neg ay,dd,if_neg this]
theorem fX.self{k n:Nat}{S0 S:St}{v:AV}{cs:b6}(h:fX k S0 S v n cs):cT v v=true:=by
 rcases h with⟨rfl,_⟩ | ⟨b,rfl,_⟩
 ·rfl
 ·exact mR ..
theorem fX.cells{k n:Nat}{S0 S:St}{v:AV}{cs:b6}(h:fX k S0 S v n cs):v.cells=some [v]:=by
 rcases h with⟨rfl,_⟩ | ⟨b,rfl,_⟩<;>rfl
noncomputable def aO0:List AO:=[mt 25 3,
oq 26 (.cr 2 (.t 5)),
om 27 2 (ld 26),
mt 28 3,
oq 29 (.cr 2 (.t 5)),
om 30 16 (ld 29),
om 31 56 (.cn (.slice 1) (.t 28) (.t 30)),
om 32 120 (ld 31),
mt 33 4,
⟨(some 34),(.a (.ch 3 1 1 [(.int .i64 0)] [(0,(.t 33))])),none,256⟩,
⟨(some 35),(.x (.app 3 1 8 (.t 32) (.t 34))),none,1016⟩,
om 36 2047 (.cn (.slice 1) (.t 25) (.t 27)),
⟨none,(.x (.st 1 (.t 36) (.t 35))),none,4095⟩]
theorem cV{h:T AB}{b p:Nat}{cs:b6}{x:AV}{o:Bool}{s:Nat}(hb:h.get b=some (.cells cs o s))(hj:cs[p]? =some x):eQ (.ptr b p) false 1 h=some x:=by
 have:=ldc (j:=p) hb hj;rw[An] at this;exact this
theorem aL1{F:Fr}{S0 S:St}{inr:Bool}{ob nb n i NI:Nat}{cs:b6}{a c0 c1 c3 c4 c5:AV}{l:bu}{Q:Out->bS->St->Prop}(p3:aD 3 F= .sl ob 0 NI NI false)(p4:aD 4 F= .int .i64 (i:Int))(p5:aD 5 F= .ptr nb 0)
  (hnb:S.h.get nb=some (.cells [c0,c1,.int .i64 (n:Int),c3,c4,c5] false 0)) (hob:S.h.get ob=some (.cells cs false 0)) (hcs:cs.length=NI) (hn:cs[n]? =some a) (ha:fX 1 S0 S a l.length (bJ l)) (hS:Same S0 S) (lnb:nb<S.nx) (lob:ob<S.nx) (ne1:aX a≠some ob) (ne2:aX a≠some nb) (hl:l.length<=100000)
  (hQ:∀F' S' a',aD 1 F'=aD 1 F->aD 3 F'=aD 3 F->aD 4 F'=aD 4 F->S.nx<=S'.nx->S'.h.get ob=some (.cells (cs.set n a') false 0)->fX 1 S0 S' a' (l++ [(i:Int)]).length (bJ (l++ [(i:Int)]))->(∃b',aX a'=some b'/\S.nx<=b'/\b'<S'.nx)->(∀c,c<S.nx->c≠ob->aX a≠some c->S'.h.get c=S.h.get c)->Q .normal ⟨F',inr⟩ S'):lU fns (.drw aO0) ⟨F,inr⟩ S Q:=by
 have hlt:n<cs.length:=(Aj.1 hn).1;have hia:=eX (b:=ob) (N:=NI) (o:=false) (ay:n<NI);have hldo:=cV hob hn;have he:∀F id,aD 33 F= .int .i64 (i:Int)->sH (.ch 3 1 1 [AV.int .i64 0] [(0,.t 33)]) F id=some (.sl id 0 1 1 false,.cells [.int .i64 (i:Int)] false 0):=fun F id h=>nT h;have sB:Same S ⟨S.h.set (S.nx+9) (some (.cells [.int .i64 (i:Int)] false 0)),S.nx+13⟩:=⟨by simp,fun c hc=>by simp only;rw[dd,if_neg ay]⟩;have⟨a',S1,eA,gA,bA,nA,rA⟩:=fX.push (bytes:=8) (t:=S.nx+9) (w:=(i:Int)) (ha.step sB) (hS.trans sB) fq bf bf;simp only at bA nA rA;have hob1:S1.h.get ob=some (.cells cs false 0):=by rw[rA _ ay ne1];exact(sB.2 _ lob).trans hob
 have hnb1:S1.h.get nb=some (.cells [c0,c1,.int .i64 (n:Int),c3,c4,c5] false 0):=by rw[rA _ ay ne2];exact(sB.2 _ lnb).trans hnb
 refine oO ?_;unfold aO0;simp only[iE,dK,aFI,aF,aE,qB,mE,fR,bP,rE,↓reduceIte,p3,p4,p5,aJ,aN,hia,hldo,dE hnb,xE,lR,pT,aU,aO,aT,aEe,he,rA];refine kE (v:=a') (S1:=S1) rfl (fun call=>?_) ?_
 ·rw[cS (bg:Nat.testBit 1016 9=true),fY];simp only[fR,bP,rE,↓reduceIte];exact eA
 rw[cS (bg:Nat.testBit 1016 9=true)];simp only[iE,dK,qB,fR,bP,rE,↓reduceIte,aJ,aN,hia,lR,aT];refine kE (v:=.undef) (S1:=⟨S1.h.set ob (some (.cells (cs.set n a') false 0)),S1.nx⟩) (bg:Nat.testBit 4095 10=true) (fun call=>?_) ?_
 ·rw[dS];simp only[fR,bP,rE,↓reduceIte,gA.cells,aN];exact stc (S:=S1) hob1 hlt
 rw[jB];have hsa:=ha.self;refine⟨?_,?_⟩
 ·have e1:∀ (v:AV) (G:Fr) (sl p msk ii:Nat) (X1 X2:T AB) (b:Nat),aD sl G= .ptr b p->eQ (.ptr b p) false 1 S.h=some v->cT v v=true->Nat.testBit msk 10=false->Nat.testBit 1016 ii=true->dY ⟨.ld false 1 (.t sl),G,v,ii,msk⟩ [(10,1016,X1),(12,4095,X2)] S.h=true:=fun v G sl p msk ii X1 X2 b h1 h2 h3 h4 h5=>by
   unfold dY;have e:gT (.ld false 1 (.t sl)) G S.h=some v:=by rw[mE,fR,h1];exact h2
   simp only[h4,h5,aT,aO,e,iU,h3]
  have e2:∀ (v:AV) (G:Fr) (sl p msk ii:Nat) (X1 X2:T AB) (b:Nat),aD sl G= .ptr b p->eQ (.ptr b p) false 1 S.h=some v->eQ (.ptr b p) false 1 X1=some v->cT v v=true->Nat.testBit msk 10=false->Nat.testBit msk 12=false->Nat.testBit 1016 ii=false->Nat.testBit 4095 ii=true->dY ⟨.ld false 1 (.t sl),G,v,ii,msk⟩ [(10,1016,X1),(12,4095,X2)] S.h=true:=fun v G sl p msk ii X1 X2 b h1 h2 h2' h3 h4 h4' h5 h6=>by
   have e:gT (.ld false 1 (.t sl)) G S.h=some v:=by rw[mE,fR,h1];exact h2
   have e':gT (.ld false 1 (.t sl)) G X1=some v:=by rw[mE,fR,h1];exact h2'
   unfold dY;simp only[h4,h5,aT,aO,e,iU,h3];unfold dY;simp only[h4',h6,aT,aO,e',iU,h3]
  simp only[Cw,Fg,Bq,Ck,nQ,vK];rw[e1 a _ 31 n 120 7 _ _ ob (by simp only[bP,rE,↓reduceIte]) hldo hsa bg bg,e1 _ _ 29 (0+2) 16 5 _ _ nb (by simp only[bP,rE,↓reduceIte]) (dE hnb) (eM ..) bg bg,e2 _ _ 26 (0+2) 2 2 _ _ nb (by simp only[bP,rE,↓reduceIte]) (dE hnb) (dE hnb1) (eM ..) bg bg bg bg];rfl
 ·have hobA:aX a'≠some ob:=by rw[bA];intro h;have:=Bl h;omega
  have hS1:S.nx<=S1.nx:=by omega
  refine hQ _ _ a' (ag) (ag) (ag) hS1 (by simp only[bX];rw[dd,if_pos rfl]) ?_ ⟨_,bA,ay,by show _<S1.nx;omega⟩ fun c hc h1 h2=>?_
  ·rcases gA with h | ⟨b,h1,h2,h3,h4,h5⟩
   ·rw[h.1] at bA;cases bA
   ·refine .inr ⟨b,h1,h2,h3,?_,h5⟩;simp only[bX];rw[dd,if_neg (fun e=>hobA (by rw[h1,<-e];rfl))];exact h4
  ·simp only[bX];rw[dd,if_neg h1,rA _ ay h2];exact sB.2 _ hc
def setN:List cP->Nat->Nat->bu
 | [],_,_=>[]
 | x::l,s,i=>if x.kind=2/\x.info=(i:Int) then(s:Int)::setN l (s+1) i else setN l (s+1) i
theorem aBj(x:cP)(i:Nat):∀ (l:List cP) (s:Nat),setN (l++ [x]) s i=if x.kind=2/\x.info=(i:Int) then setN l s i++ [((s+l.length:Nat):Int)] else setN l s i
 | [],s=>by
  simp only[Bq,setN,Ci,Bh]
 | y::l,s=>by
  simp only[Ck,setN];rw[aBj x i l (s+1),Aw,show s+1+l.length=s+(l.length+1) by omega];split<;>split<;>rfl
theorem aH9(i:Nat):∀ (l:List cP) (s:Nat),(setN l s i).length<=l.length
 | [],_=>Ag _
 | y::l,s=>by
  simp only[setN];have:=aH9 i l (s+1);split
  ·rw[Aw,Aw];omega
  ·rw[Aw];omega
def aH4(g:bD):bt:=(List.range g.bn.length).map (setN g.bk 0)
def pF(S:St)(cs:b6)(l:bu):Prop:=∃a,cs= [a]/\bO .i64 S a l
theorem gL:aEA pF:=fun⟨a,h,h1⟩ hs=>⟨a,h,h1.same hs⟩
theorem fX.is{S0 S:St}{v:AV}{l:bu}(h:fX 1 S0 S v l.length (bJ l)):bO .i64 S v l:=by
 rcases h with⟨rfl,h0,_⟩ | ⟨b,rfl,h1,h2,h3,h4⟩
 ·exact .inl ⟨Bv.1 h0,.inl rfl⟩
 ·refine .inr ⟨b,0,l.length,true,bJ l,rfl,Ag _,h2,by unfold cJ;rw[h3];rfl,fun i x hi=>?_⟩;rw[An];unfold bJ;rw[Bc,hi];rfl
theorem fX.blk{k n c:Nat}{S0 S:St}{v:AV}{cs:b6}(h:fX k S0 S v n cs)(hc:aX v=some c):S0.nx<=c/\c<S.nx/\S.h.get c=some (.cells cs true k):=by
 rcases h with⟨rfl,_⟩ | ⟨b,rfl,h1,h2,h3,h4⟩
 ·cases hc
 ·cases hc;exact⟨h1,h2,h3⟩
theorem fX.off{k n c s:Nat}{S0 S:St}{v:AV}{cs cs':b6}(h:fX k S0 S v n cs)(hc:S.h.get c=some (.cells cs' false s)):aX v≠some c:=fun e=>by
 have:=(h.blk e).2.2;rw[hc] at this;cases this
structure Fam(S0 X:St)(ob NI:Nat)(cs:b6)(L:Nat->bu):Prop where
 ho:X.h.get ob=some (.cells cs false 0)
 lt:ob<X.nx
 hl:cs.length=NI
 gr:∀ (j:Nat) (a:AV),cs[j]? =some a->fX 1 S0 X a (L j).length (bJ (L j))
 dj:∀ (j k:Nat) (a b:AV),j≠k->cs[j]? =some a->cs[k]? =some b->∀c,aX a=some c->aX b≠some c
theorem Fam.same{S0 X X':St}{ob NI:Nat}{cs:b6}{L:Nat->bu}(h:Fam S0 X ob NI cs L)(hs:Same X X'):Fam S0 X' ob NI cs L:=⟨(hs.2 _ h.lt).trans h.ho,Ae h.lt hs.1,h.hl,fun j a hj=>(h.gr j a hj).step hs,h.dj⟩
theorem Fam.push{S0 X X':St}{ob NI n:Nat}{cs:b6}{L:Nat->bu}{a a':AV}{w:Int}(h:Fam S0 X ob NI cs L)(hn:cs[n]? =some a)(hx:X.nx<=X'.nx)(ho:X'.h.get ob=some (.cells (cs.set n a') false 0))(hg:fX 1 S0 X' a' (L n++ [w]).length (bJ (L n++ [w])))(hb:∃b',aX a'=some b'/\X.nx<=b'/\b'<X'.nx)(hr:∀c,c<X.nx->c≠ob->aX a≠some c->X'.h.get c=X.h.get c):
  Fam S0 X' ob NI (cs.set n a') (fun j=>if j=n then L n++ [w] else L j):=by
 have hlt:=(Aj.1 hn).1;have⟨b',hb1,hb2,hb3⟩:=hb;have get:∀ (j:Nat) (c:AV),(cs.set n a')[j]? =some c->(j=n/\c=a')\/(j≠n/\cs[j]? =some c):=fun j c hj=>by
  rw[Du] at hj;split at hj
  ·rename_i e;exact .inl ⟨e.symm,(Bl hj).symm⟩
  ·rename_i e;exact .inr ⟨fun e'=>e e'.symm,hj⟩
 refine⟨ho,Ae h.lt hx,by rw[Ar];exact h.hl,fun j c hj=>?_,fun j k x y hjk hx' hy c hc hc'=>?_⟩
 ·rcases get j c hj with⟨rfl,rfl⟩ | ⟨hne,hj⟩
  ·simp only[↓reduceIte];exact hg
  ·simp only[if_neg hne];have hj':=h.gr j c hj;rcases hj' with h0 | ⟨b,h1,h2,h3,h4,h5⟩
   ·exact .inl h0
   ·have hbc:aX c=some b:=by rw[h1];rfl
    refine .inr ⟨b,h1,h2,Ae h3 hx,?_,h5⟩;rw[hr b h3 (fun e=>(h.gr j c hj).off h.ho (by rw[hbc,e])) (h.dj j n c a hne hj hn b hbc)];exact h4
 ·rcases get j x hx' with⟨rfl,rfl⟩ | ⟨hne,hj⟩
  ·rcases get k y hy with⟨rfl,rfl⟩ | ⟨hne2,hk⟩
   ·exact hjk rfl
   ·rw[hb1] at hc;have:=((h.gr k y hk).blk hc').2.1;have:=Bl hc;omega
  ·rcases get k y hy with⟨rfl,rfl⟩ | ⟨hne2,hk⟩
   ·rw[hb1] at hc';have:=((h.gr j x hj).blk hc).2.1;have:=Bl hc';omega
   ·exact h.dj j k x y hjk hj hk c hc hc'
theorem Fam.is{S0 X:St}{ob NI:Nat}{cs:b6}{L:Nat->bu}(h:Fam S0 X ob NI cs L):aP 1 pF X (.sl ob 0 NI NI false) ((List.range NI).map L):=by
 refine .inr ⟨ob,0,NI,false,cs,by simp,by simp,h.lt,by unfold cJ;rw[h.ho];rfl,fun i l hi=>?_⟩;rw[Bc,Az] at hi;obtain⟨i',hi',rfl⟩:=hi;have hlt:i<NI:=by have:=(Aj.1 hi').1;rwa [Dr] at this
 rw[Dc hlt] at hi'
 ·cases hi';have hc:cs[i]? =some (cs[i]'(by rw[h.hl];exact hlt)):=Ac _;refine⟨[cs[i]'(by rw[h.hl];exact hlt)],rfl,fun j x hj=>?_,_,rfl,(h.gr i _ hc).is⟩;cases j with
  | zero=>
   cases hj;rw[An,Dm,Bh];exact hc
  | succ j=>simp at hj
def aQL(S:St)(gb ob:Nat)(nv iv:AV)(g:bD)(k:Nat)(A:bS)(X:St):Prop:=A.inr=false/\Same S X/\X.h.get gb=some (.cells [.int .i64 g.bo,nv,iv] false 0)/\gb<X.nx/\gb≠ob/\∃i cs,i+k=g.bk.length/\Fam S X ob g.bn.length cs (setN (g.bk.take i) 0)/\
 aD 1 A.F= .ptr gb 0/\aD 3 A.F= .sl ob 0 g.bn.length g.bn.length false/\aD 4 A.F= .int .i64 (i:Int)
theorem aGZ{S:St}{nv iv:AV}{g:bD}(H:Has fns)(hn:aP 6 cI S nv g.bk)(hi:aP 2 cW S iv g.bn)(hN:g.bk.length<=100000)(hI:g.bn.length<=100000)(hok:aFm g):
  gH fns (.fn 55 [] []) [.agg [.int .i64 g.bo,nv,iv]] S fun r S'=>Same S S'/\aP 1 pF S' r (aH4 g):=by
 refine cF H.f55 (by simp) ?_;refine af ?_;refine bQ ?_;refine dV (by refine af ?_;exact bL _) ?_;intro S1 s1 n1 c1;refine af ?_;refine bQ (d8 @aF @aE (lW c1) hi.len ?_);refine gO (pG (n:=g.bn.length) (fj @aJ) (fj @aJ) bf bf) ?_;intro S2 s2 n2 c2;refine aq ?_;rw[repeatL_one] at c2;have sS2:=s1.trans s2;have c1':S2.h.get S.nx=some (.cells [.int .i64 g.bo,nv,iv] false 0):=by rw[s2.2 _ ay];exact c1
 have hF0:Fam S S2 S1.nx g.bn.length (List.replicate g.bn.length .cb) (setN (g.bk.take 0) 0):=by
  refine⟨c2,ay,Aq ..,fun j a hj=>?_,fun j k a b _ hj hk c hc=>?_⟩
  ·rw[Cl] at hj;split at hj
   ·cases hj;exact .inl ⟨rfl,rfl,rfl⟩
   ·cases hj
  ·rw[Cl] at hj;split at hj
   ·cases hj;cases hc
   ·cases hj
 refine aA (aW (Q:=fun o A' X=>o= .normal/\aQL S S.nx S1.nx nv iv g 0 A' X) (aA (aG ?_)) ?_)
 ·refine aq ?_;refine aL (bK (aQL S S.nx S1.nx nv iv g) ?_ g.bk.length _ _ ⟨rfl,sS2,c1',ay,ay,0,_,ay,hF0,by refine⟨?_,?_,?_⟩<;>simp only[↓aC,aB,rE,↓reduceIte,rA]⟩);rintro k ⟨F,inr⟩ X ⟨q0,hX,cX,gX,ngo,i,cs,hik,hF,p1,p3,p4⟩;simp only at q0 p1 p3 p4;subst q0;have hnX:=aP.same (E:=cI) bT hn hX;refine fE (ec p1 p4 @aF @aE (gI cX) hn.len ?_);by_cases hlt:i<g.bk.length
  ·refine aM ff (aH ?_);refine aq ?_;obtain⟨x,hx⟩:∃x,g.bk[i]? =some x:=⟨_,Ac hlt⟩;have hxm:=Bu hx;obtain⟨e,b,q,hia,hb,he,⟨a,bb,cc,rfl,ha,hbb,hcc⟩,hag,_⟩:=aP.at hnX bg hx;have w1:=dc i
   have htk:g.bk.take (i+1)=g.bk.take i++ [x]:=by rw[Bx,hx];rfl
   have hti:(g.bk.take i).length=i:=by rw[Bp];omega
   refine aA (aL (aA (aG ?_)));refine eg p1 p4 @aF @aE (gI cX) @aJ hia hag ?_;refine dC ?_;intro X1 x1 m1 d1;refine eS (b:=X.nx) (ar) (by refine aq ?_;exact bL _) d1 rfl rfl ?_;intro X2 x2 m2 d2;refine aq ?_;have hX2:Same X X2:=x2.same x1 (Ag _);have cX2:X2.h.get S.nx=some (.cells [.int .i64 g.bo,nv,iv] false 0):=by rw[hX2.2 _ gX];exact cX
   have hF2:=hF.same hX2;have ltX2:X.nx<X2.nx:=by omega
   have gX2:S.nx<X2.nx:=Ae gX hX2.1;have hSX2:=hX.trans hX2;refine bQ (d7 @aF @aE (eG d2) ?_);by_cases hk2:x.kind=2
   ·refine aM (fj (Ab hk2)) ?_;have⟨i0,i1⟩:=hok x hxm hk2;obtain⟨n,hn'⟩:∃n:Nat,x.info=(n:Int):=⟨x.info.toNat,ay⟩;have hni:n<cs.length:=by rw[hF.hl];omega
    rw[hn'] at d2;have hcn:cs[n]? =some cs[n]:=Ac hni;have hgn:=hF2.gr n _ hcn;refine aL1 (S0:=S) (ob:=S1.nx) (nb:=X.nx) (n:=n) (i:=i) (NI:=g.bn.length) (cs:=cs) (a:=cs[n]) (l:=setN (g.bk.take i) 0 n) (ax p3) (ax p4) (ar) d2 hF2.ho hF.hl hcn hgn hSX2 ltX2 hF2.lt (hgn.off hF2.ho) (hgn.off d2) (by have:=aH9 n (g.bk.take i) 0;omega) ?_;intro F' X3 a' q1 q3 q4 hx3 ho3 hg3 hb3 hr3;have hF3:=hF2.push hcn hx3 ho3 hg3 hb3 hr3;refine aG (d7 q4 p4 w1 ?_);refine⟨k - 1,ay,rfl,⟨Au hSX2.1 hx3,fun c hc=>?_⟩,?_,Ae gX2 hx3,ngo,i+1,cs.set n a',ay,?_,by refine⟨?_,?_,?_⟩<;>simp only[↓aC,aB,rE,↓reduceIte,rA,q1,p1,q3,p3]⟩
    ·have h1:=hSX2.1;rw[hr3 c ay ay  (fun e=>by have:=(hgn.blk e).1;omega)];exact hSX2.2 c hc
    ·rw[hr3 _ gX2 ngo (hgn.off cX2)];exact cX2
    ·have e:(fun j=>if j=n then setN (g.bk.take i) 0 n++ [(i:Int)] else setN (g.bk.take i) 0 j)=setN (g.bk.take (i+1)) 0:=by
      funext j;rw[htk,aBj,hti,An];by_cases hj:j=n
      ·rw[if_pos hj,if_pos ⟨hk2,by rw[hn',hj]⟩,hj]
      ·rw[if_neg hj,if_neg (fun h=>hj (az h.2))]
     rw[<-e];exact hF3
   ·refine aK (fj (Aa hk2)) (aH ?_);refine aq ?_;refine aG (d6 p4 w1 ?_);refine⟨k - 1,ay,rfl,hSX2,cX2,gX2,ngo,i+1,cs,ay,?_,by refine⟨?_,?_,?_⟩<;>simp only[↓aC,aB,rE,↓reduceIte,rA,p1,p3]⟩;have e:setN (g.bk.take i) 0=setN (g.bk.take (i+1)) 0:=by
     funext j;rw[htk,aBj,if_neg (fun h=>hk2 h.1)]
    rw[<-e];exact hF2
  ·refine aK ff (bG ?_);refine aq ?_;have hk0:k=0:=by omega
   subst hk0;exact⟨rfl,hX,cX,gX,ngo,i,cs,hik,hF,by refine⟨?_,?_,?_⟩<;>simp only[↓aC,aB,rE,↓reduceIte,rA,p1,p3,p4]⟩
 rintro o ⟨F,inr⟩ X ⟨rfl,q0,hX,cX,gX,ngo,i,cs,hik,hF,p1,p3,p4⟩;simp only at q0 p3;subst q0;rw[Bb ay] at hF;refine aq ?_;refine bQ (dz p3 ?_);refine aR (aq ?_);exact⟨hX,hF.is⟩
theorem aBp{x y z:AV}(h1:cT x x=true)(h2:cT y y=true)(h3:cT z z=true):cT (.agg [x,y,z]) (.agg [x,y,z])=true:=by
 simp [cT,nR,h1,h2,h3]
theorem tG(i:Nat):∀ (l:List cP) (s:Nat),(setN l s i= []/\lF l s i=0)\/∃a L,setN l s i=((a:Nat):Int)::L/\lF l s i=a+1
 | [],_=>.inl ⟨rfl,rfl⟩
 | x::l,s=>by
  simp only[setN,lF];split
  ·exact .inr ⟨s,_,rfl,rfl⟩
  ·exact tG i l (s+1)
noncomputable def aPj:List AO:=[oq 54 (.ld true 3 (.t 1)),
oc 55 54 [(.t 54),(.c (.int .i64 0)),(.c (.int .i64 0)),(.t 5)] 1,
oq 56 (.cr 1 (.t 1)),
om 57 4 (ld 56),
om 58 12 (.cq (.t 57)),
om 59 31 (bi .neq (.t 55) (.t 58))]
theorem aMU{F:Fr}{S0 S:St}{inr:Bool}{gb db:Nat}{nv iv:AV}{g:bD}{Q:Out->bS->St->Prop}(H:Has fns)(p1:aD 1 F= .ptr gb 0)(p5:aD 5 F= .ptr db 0)(hn:aP 6 cI S0 nv g.bk)(hi:aP 2 cW S0 iv g.bn)(hS:Same S0 S)(hg:S.h.get gb=some (.cells [.int .i64 g.bo,nv,iv] false 0))(lg:gb<S.nx)(hd:S.h.get db=some (.cells [.int .i64 0] false 0))(ldd:db<S.nx)(ld0:S0.nx<=db)(ne:gb≠db)(hN:g.bk.length<=2000)(hlen:∀x∈g.bk,x.next.length<=1000)
  (hQ:∀F' S' v,aIY S db 0 0 (fJ g) (.int .i64 v) S'->aD 1 F'=aD 1 F->aD 5 F'=aD 5 F->aD 59 F'= .bool (decide (v≠(g.bk.length:Int)))->Q .normal ⟨F',inr⟩ S'):lU fns (.drw aPj) ⟨F,inr⟩ S Q:=by
 refine oO ?_;unfold aPj;have hl0:=iT hg;have hl1:=gI hg;simp only[iE,dK,mE,fR,bP,rE,↓reduceIte,p1,p5,hl0,pT,aO];refine aAj rfl ?_;refine df p5 @bX ?_;refine aQ (aIA H ⟨nv,iv,rfl,hn,hi⟩ ld0 hN (g.bk.length+1) (at_:=0) (p:= -1) (d:=0) (deep:=0) ay bg bg ay hlen (hS.trans (Same.nx S 6)) (by show db<S.nx+6;omega) hd) ?_;rintro r S1 hr;have hr:aIY ⟨S.h,S.nx+6⟩ db 0 0 (fJ g) r S1:=hr;obtain⟨v,rfl⟩:∃v,r= .int .i64 v:=by
  cases hw:fJ g with
  | none=>rw[hw] at hr;exact⟨_,hr.2.1⟩
  | some T=>rw[hw] at hr;exact⟨_,hr.2.1⟩
 have sb:cC db S S1:=⟨by have:S.nx+6<=S1.nx:=hr.1.1;omega,fun c hc hne=>hr.1.2 c (by show c<S.nx+6;omega) hne⟩;have hg1:S1.h.get gb=some (.cells [.int .i64 g.bo,nv,iv] false 0):=by rw[sb.2 _ lg ne];exact hg
 have hl1':=gI hg1;have hld:∀ (F:Fr),gT (.ld true 3 (.t 1)) F S.h=eQ (aD 1 F) true 3 S.h:=fun F=>by rw[mE,fR]
 simp only[↓sU,sD,rE,↓reduceIte,rA,iE,dK,p1,aF,aU,aE,mE,pT,hl1',xC,hn.len,gQ,aCJ,uA,aO,aT];rw[jB];refine⟨?_,?_⟩
 ·have sn:=aP.self hn;have si:=aP.self hi;have sg:=aBp (eM .i64 g.bo) sn si;have e1:∀G:Fr,aD 56 G= .ptr gb 1->dY ⟨.ld false 1 (.t 56),G,nv,3,4⟩ [(1,1,S1.h)] S.h=true:=fun G h=>by
   have e:gT (ld 56) G S.h=some nv:=by rw[mE,fR,h];exact hl1
   have e':gT (ld 56) G S1.h=some nv:=by rw[mE,fR,h];exact hl1'
   unfold dY;simp only[show Nat.testBit 4 1=false by decide,show Nat.testBit 1 3=false by decide,aT,aO,e,iU,sn];unfold dY;simp only[e',iU,sn]
  have e2:dY ⟨.ld true 3 (.t 1),F,.agg [.int .i64 g.bo,nv,iv],0,0⟩ [(1,1,S1.h)] S.h=true:=by
   have e:gT (.ld true 3 (.t 1)) F S.h=some (.agg [.int .i64 g.bo,nv,iv]):=by rw[mE,fR,p1];exact hl0
   unfold dY;simp only[show Nat.testBit 0 1=false by decide,show Nat.testBit 1 0=true by decide,aT,aO,e,iU,sg]
  simp only[Cw,Fg,Bq,nQ,vK];rw[e1 _ (by simp only[bP,rE,↓reduceIte]),e2];rfl
 ·refine hQ _ _ v ?_ (ag) (ag) (ag);simp only[bX];exact⟨sb,hr.2⟩
def aO9(S S1:St)(gb:Nat)(g:bD)(k:Nat)(A:bS)(X:St):Prop:=A.inr=false/\Same S1 X/\∃i,i+k=g.bk.length/\jN g.bo g.bn.length g.bk=jN g.bo g.bn.length (g.bk.drop i)/\aD 1 A.F= .ptr gb 0/\aD 3 A.F= .int .i64 (i:Int)
def aPi(S1:St)(gb:Nat)(g:bD)(k:Nat)(A:bS)(X:St):Prop:=A.inr=false/\Same S1 X/\∃i,i+k=g.bk.length/\(∀x∈g.bk.take i,¬mis g x)/\aD 1 A.F= .ptr gb 0/\aD 6 A.F= .int .i64 (i:Int)
def aPc(S1:St)(sv:AV)(g:bD)(k:Nat)(A:bS)(X:St):Prop:=A.inr=false/\Same S1 X/\∃i,i+k=g.bn.length/\(∀j,j<i->setN g.bk 0 j≠ [])/\aD 8 A.F=sv/\aD 9 A.F= .int .i64 (i:Int)
def aO8(S1:St)(sv:AV)(g:bD)(k:Nat)(A:bS)(X:St):Prop:=A.inr=false/\Same S1 X/\∃i,i+k=g.bn.length+1/\1<=i/\aPw (fV g) 0 (min i g.bn.length)/\aD 8 A.F=sv/\aD 10 A.F= .int .i64 (i:Int)
theorem wT{g:bD}{j:Nat}(hj:j<g.bn.length):(fV g).getD j 0=((lF g.bk 0 j:Nat):Int):=by
 unfold fV;rw[Ad,Bc,Dc hj];rfl
theorem aBr{g:bD}{j:Nat}(hj:j<g.bn.length):(aH4 g)[j]? =some (setN g.bk 0 j):=by
 unfold aH4;rw[Bc,Dc hj];rfl
theorem aJ7(g:bD):(aH4 g).length=g.bn.length:=by simp [aH4]
theorem aB3{g:bD}:(0:Int)∈fV g↔∃j,j<g.bn.length/\setN g.bk 0 j= []:=by
 unfold fV;rw[Dl];constructor
 ·rintro⟨j,hj,h0⟩;rw[Fb] at hj;rcases tG j g.bk 0 with h | ⟨a,L,h1,h2⟩
  ·exact⟨j,hj,h.1⟩
  ·rw[h2] at h0;omega
 ·rintro⟨j,hj,h0⟩;refine⟨j,Fb.2 hj,?_⟩;rcases tG j g.bk 0 with h | ⟨a,L,h1,h2⟩
  ·rw[h.2];rfl
  ·rw[h0] at h1;cases h1
theorem aIO{S:St}{nv iv:AV}{g:bD}(H:Has fns)(hn:aP 6 cI S nv g.bk)(hi:aP 2 cW S iv g.bn)(hln:g.bk.length<=100000):
  gH fns (.fn 26 [] []) [.agg [.int .i64 g.bo,nv,iv]] S fun r S'=>r= .int .i64 (dB g)/\Same S S':=by
 refine cF H.f26 (by simp) ?_;refine af ?_;refine bQ ?_;refine dV (by refine af ?_;exact bL _) ?_;intro S1 s1 n1 c1;refine af ?_;have hnl:=hn.len;have hil:=hi.len;have hn1:=aP.same (E:=cI) bT hn s1;have hi1:=aP.same (E:=cW) cM hi s1;have sn:=aP.self hn;have si:=aP.self hi;have sg:=aBp (eM .i64 g.bo) sn si;have lg1:S.nx<S1.nx:=by omega
 refine aA (aA (aW (Q:=fun o A' X=>o= .normal/\A'.inr=false/\X=S1/\aD 1 A'.F= .ptr S.nx 0/\aD 36 A'.F= .bool (decide (mQ g))) (aG ?_) ?_))
 ·by_cases h1:g.bo<1
  ·rw[Ab (show mQ g from .inl h1)];simp only[↓sU,sD,rE,↓reduceIte,rA,aF,aE,tE c1,gI c1,lW c1,hnl,hil,Ab h1]
  by_cases h2:(4:Int)<g.bo
  ·rw[Ab (show mQ g from .inr (.inl h2))];simp only[↓sU,sD,rE,↓reduceIte,rA,aF,aE,tE c1,gI c1,lW c1,hnl,hil,Aa h1,Ab h2]
  by_cases h3:(g.bk.length:Int)<1
  ·rw[Ab (show mQ g from .inr (.inr (.inl h3)))];simp only[↓sU,sD,rE,↓reduceIte,rA,aF,aE,tE c1,gI c1,lW c1,hnl,hil,Aa h1,Aa h2,Ab h3]
  by_cases h4:(2000:Int)<(g.bk.length:Int)
  ·rw[Ab (show mQ g from .inr (.inr (.inr (.inl h4))))];simp only[↓sU,sD,rE,↓reduceIte,rA,aF,aE,tE c1,gI c1,lW c1,hnl,hil,Aa h1,Aa h2,Aa h3,Ab h4]
  by_cases h5:(200:Int)<(g.bn.length:Int)
  ·rw[Ab (show mQ g from .inr (.inr (.inr (.inr h5))))];simp only[↓sU,sD,rE,↓reduceIte,rA,aF,aE,tE c1,gI c1,lW c1,hnl,hil,Aa h1,Aa h2,Aa h3,Aa h4,Ab h5]
  ·rw[Aa (show ¬mQ g by unfold mQ;omega)];simp only[↓sU,sD,rE,↓reduceIte,rA,aF,aE,tE c1,gI c1,lW c1,hnl,hil,Aa h1,Aa h2,Aa h3,Aa h4,Aa h5]
 rintro o ⟨F,inr⟩ X ⟨rfl,q0,hX,p1,pb⟩;simp only at q0 p1 pb;subst q0;rw[hX];clear hX;refine af ?_;by_cases bad:mQ g
 ·have hE:dB g=2:=by unfold dB;rw[if_pos bad]
  rw[hE];refine aM (fh pb (Ab bad)) ?_;refine bQ (af ?_);refine aR (af ?_);exact s1
 refine aK (fh pb (Aa bad)) (aH ?_);refine af ?_;have hps:1<=g.bo/\g.bo<=4:=by unfold mQ at bad;omega
 have hN:g.bk.length<=2000:=by unfold mQ at bad;omega
 have hN0:0<g.bk.length:=by unfold mQ at bad;omega
 have hI:g.bn.length<=200:=by unfold mQ at bad;omega
 refine aA (aW (Q:=fun o A' X=>(o= .normal/\aO9 S S1 S.nx g 0 A' X)\/(o= .ret/\Same S1 X/\jN g.bo g.bn.length g.bk≠0/\aD 2 A'.F= .int .i64 (jN g.bo g.bn.length g.bk))) (aA (aG ?_)) ?_)
 ·refine af ?_;refine aL (bK (aO9 S S1 S.nx g) ?_ g.bk.length _ _ ⟨rfl,de _,0,ay,by rw[Di],by refine⟨?_,?_⟩<;>simp only[↓sU,sD,rE,↓reduceIte,rA,p1]⟩);clear p1 pb;rintro k ⟨F,inr⟩ X ⟨q0,hX,i,hik,hE,p1,p3⟩;simp only at q0 p1 p3;subst q0;have cX:X.h.get S.nx=some (.cells [.int .i64 g.bo,nv,iv] false 0):=by rw[hX.2 _ lg1];exact c1
  have lgX:S.nx<X.nx:=Ae lg1 hX.1;refine fE (du p1 p3 @aF @aE (gI cX) hnl ?_);by_cases hlt:i<g.bk.length
  ·refine aM fe (aH ?_);refine af ?_;obtain⟨x,hx⟩:∃x,g.bk[i]? =some x:=⟨_,Ac hlt⟩;have hnX:=aP.same (E:=cI) bT hn1 hX;have⟨e,b,q,hia,hb,he,hNE,hag,_⟩:=aP.at hnX bg hx;have hdrop:g.bk.drop i=x::g.bk.drop (i+1):=by
    rw[Cg hlt];congr 1;rw[Ac hlt] at hx;exact Bl hx
   have w1:=dc i
   have se:cT (.agg e) (.agg e)=true:=by
    obtain⟨a,bb,cc,rfl,ha,hbb,hcc⟩:=hNE;exact aBy (eM ..) (eM ..) (eM ..) (bO.self ha) (bO.self hbb) (bO.self hcc)
   refine aA (aL (aA (dO (fun _=>False) ?_)));intro X1 x1;simp only[↓sU,sD,rE,↓reduceIte,rA,p1,p3,aF,aU,aE,iT cX,gI cX,sg,sn,lgX,hb,se,Ap,aJ,hia,hag];refine cL rfl ?_;refine af ?_;refine aQ (aJf H (bT hNE x1) hps.2 hil) ?_;rintro _ Y ⟨rfl,hY⟩;refine⟨hY,?_⟩;have hSY:=(hX.trans x1).trans hY;rw[hdrop] at hE;simp only[jN] at hE;refine bQ (af ?_);by_cases he0:iC g.bo g.bn.length x=0
   ·rw[if_neg (fun h=>h he0)] at hE;refine aK (fg (Aa (show ¬iC g.bo g.bn.length x≠0 from fun h=>h he0))) (aH ?_);refine af ?_;refine aG (df p3 w1 ?_);exact⟨k - 1,ay,rfl,hSY,i+1,ay,hE,by refine⟨?_,?_⟩<;>simp only[↓sU,sD,rE,↓reduceIte,rA,p1]⟩
   ·rw[if_pos he0] at hE;refine aM (fg (Ab (show iC g.bo g.bn.length x≠0 from he0))) ?_;refine bQ (af ?_);refine aR (af ?_);exact .inr ⟨hSY,by rw[hE];exact he0,by rw[hE]⟩
  ·refine aK fe (bG ?_);refine af ?_;have hk0:k=0:=by omega
   subst hk0;exact .inl ⟨rfl,hX,i,hik,hE,by refine⟨?_,?_⟩<;>simp only[↓sU,sD,rE,↓reduceIte,rA,p1,p3]⟩
 clear p1 pb;rintro o ⟨F,inr⟩ X (⟨rfl,q0,hX,i,hik,hE,p1,p3⟩ | ⟨rfl,hX,hne,p2⟩);rotate_left
 ·simp only at p2;refine cm p2 ?_;have hE:dB g=jN g.bo g.bn.length g.bk:=by unfold dB;rw[if_neg bad,if_pos hne]
  rw[hE];exact⟨rfl,s1.trans hX⟩
 simp only at q0 p1;subst q0;rw[Ct ay] at hE;have hall:=jP hE;have hok:aFm g:=fun x hx h2=>aBQ (hall x hx) h2;have hform:dB g=match fJ g with | none=>9 | some T=>if T.length≠g.bk.length then 9 else if 40<uG 0 T then 5 else wZ g:=by
  conv=>lhs;unfold dB
  rw[if_neg bad,if_neg (fun h=>h hE)]
  first | done | (cases fJ g<;>rfl)
 have sX:=s1.trans hX;have cX:X.h.get S.nx=some (.cells [.int .i64 g.bo,nv,iv] false 0):=by rw[hX.2 _ lg1];exact c1
 have lgX:S.nx<X.nx:=Ae lg1 hX.1;refine af ?_;refine bQ ?_;refine dC ?_;intro X1 x1 m1 d1;refine eS (b:=X.nx) (ag) (by simp only[↓sU,sD,rE,↓reduceIte,rA];rfl) d1 rfl rfl ?_;intro X2 x2 m2 d2;refine af ?_;have hX2:Same X X2:=x2.same x1 (Ag _);have cX2:X2.h.get S.nx=some (.cells [.int .i64 g.bo,nv,iv] false 0):=by rw[hX2.2 _ lgX];exact cX
 have lX2:X.nx<X2.nx:=by omega
 refine aA (aA (aMU (S0:=S) (gb:=S.nx) (db:=X.nx) (g:=g) H (ai p1) (ag) hn hi (sX.trans hX2) cX2 ay d2 lX2 (az sX.1) ay hN (fun x hx=>aBY (hall x hx)) ?_));intro F' S3 v hr q1 q5 q59;simp only[↓sU,sD,rE,↓reduceIte,rA,p1] at q1 q5;have sX2:=sX.trans hX2;have hdb:=sX.1;have s3:Same S S3:=⟨Au sX2.1 hr.1.1,fun c hc=>(hr.1.2 c (Ae hc sX2.1) ay).trans (sX2.2 c hc)⟩;have c3:S3.h.get S.nx=some (.cells [.int .i64 g.bo,nv,iv] false 0):=by rw[hr.1.2 _ ay ay];exact cX2
 have l3:S.nx<S3.nx:=by have:=hr.1.1;omega
 cases hw:fJ g with
 | none=>
  rw[hw] at hr hform;have⟨_,hv,_⟩:=hr;have hv:v= -1:=by cases hv;rfl
  simp only at hform;rw[hform];refine aM (fh q59 (Ab (ay:v≠(g.bk.length:Int)))) ?_;refine bQ (af ?_);refine aR (af ?_);exact s3
 | some T=>
  rw[hw] at hr hform;have⟨_,hv,hdeep⟩:=hr;have hv:v=((0+T.length:Nat):Int):=by cases hv;rfl
  simp only at hform;by_cases hT:T.length=g.bk.length;rotate_left
  ·rw[hform,if_pos hT];refine aM (fh q59 (Ab (ay:v≠(g.bk.length:Int)))) ?_;refine bQ (af ?_);refine aR (af ?_);exact s3
  rw[if_neg (fun h=>h hT)] at hform;refine aK (fh q59 (Aa (ay:¬v≠(g.bk.length:Int)))) (aH ?_);refine af ?_;have ldeep:=cV (p:=0) hdeep rfl;refine fE (df q5 ldeep ?_);by_cases h40:40<uG 0 T
  ·rw[hform,if_pos h40];refine aM (fg (Ab h40)) ?_;refine bQ (af ?_);refine aR (af ?_);exact s3
  rw[if_neg h40] at hform;refine aK (fg (Aa h40)) (aH ?_);refine af ?_;rw[hform];clear hform hE hall q5 q59 hdeep ldeep;have hn3:=aP.same (E:=cI) bT hn s3;have hi3:=aP.same (E:=cW) cM hi s3;refine aA (aW (Q:=fun o A' Y=>(o= .normal/\aPi S3 S.nx g 0 A' Y)\/(o= .ret/\Same S3 Y/\(∃x∈g.bk,mis g x)/\aD 2 A'.F= .int .i64 10)) (aA (aG ?_)) ?_)
  ·refine aq ?_;refine aL (bK (aPi S3 S.nx g) ?_ g.bk.length _ _ ⟨rfl,de _,0,ay,fun x hx=>(by simp at hx),by refine⟨?_,?_⟩<;>simp only[↓aC,aB,rE,↓reduceIte,rA,q1]⟩);clear q1;rintro k ⟨F,inr⟩ X ⟨q0,hX,i,hik,hm,p1,p6⟩;simp only at q0 p1 p6;subst q0;have cX:X.h.get S.nx=some (.cells [.int .i64 g.bo,nv,iv] false 0):=by rw[hX.2 _ l3];exact c3
   have lgX:S.nx<X.nx:=Ae l3 hX.1;refine fE (ec p1 p6 @aF @aE (gI cX) hnl ?_);by_cases hlt:i<g.bk.length
   ·refine aM ff (aH ?_);refine aq ?_;obtain⟨x,hx⟩:∃x,g.bk[i]? =some x:=⟨_,Ac hlt⟩;have hxm:=Bu hx;obtain⟨e,b,q,hia,hb,he,⟨a,bb,cc,rfl,ha,hbb,hcc⟩,hag,_⟩:=aP.at (aP.same (E:=cI) bT hn3 hX) bg hx;have w1:=dc i
    refine aA (aL (aA (aG ?_)));refine eg p1 p6 @aF @aE (gI cX) @aJ hia hag ?_;refine dC ?_;intro X1 x1 m1 d1;refine eS (b:=X.nx) (ar) (by refine aq ?_;exact bL _) d1 rfl rfl ?_;intro X2 x2 m2 d2;refine aq ?_;have hX2:Same X X2:=x2.same x1 (Ag _);have hS2X:=hX.trans hX2;have cX2:X2.h.get S.nx=some (.cells [.int .i64 g.bo,nv,iv] false 0):=by rw[hX2.2 _ lgX];exact cX
    have hla:=(ha.same hX2).len;have hsa:=bO.self ha;refine aA (aW (Q:=fun o A' Y=>o= .normal/\A'.inr=false/\Same X2 Y/\aD 1 A'.F= .ptr S.nx 0/\aD 6 A'.F= .int .i64 (i:Int)/\aD 101 A'.F= .bool (decide (mis g x))) (iJ ?_) ?_)
    ·by_cases hk2:x.kind=2
     ·have⟨i0,i1⟩:=hok x hxm hk2;obtain⟨n,hn'⟩:∃n:Nat,x.info=(n:Int):=⟨x.info.toNat,ay⟩;have hni:n<g.bn.length:=by omega
      obtain⟨y,hy⟩:∃y,g.bn[n]? =some y:=⟨_,Ac hni⟩;obtain⟨e',b',q',hia',hb',he',rfl,hag',hlf'⟩:=aP.at (aP.same (E:=cW) cM hi3 hS2X) bg hy;have hp0:=hlf' 0 _ rfl;have hp1:=hlf' 1 _ rfl;have hya:ce g x.info=y:=by unfold ce;rw[hn',Ad,show((n:Int)).toNat=n from rfl,hy];rfl
      have hmis:mis g x↔¬ (y.player=x.player/\y.ca=(x.next.length:Int)):=by
       unfold mis;rw[hya];exact⟨fun h=>h.2,fun h=>⟨hk2,h⟩⟩
      rw[hn'] at d2;by_cases hpl:y.player=x.player
      ·have hd1:decide (y.player≠x.player)=false:=Aa (fun h=>h hpl);have hd2:decide (mis g x)=decide (y.ca≠(x.next.length:Int)):=by
        rw[Cr,Cq,Cq,hmis];exact⟨fun h e=>h ⟨hpl,e⟩,fun h e=>h e.2⟩
       rw[hd2];simp only[↓aC,aB,rE,↓reduceIte,rA,p1,p6,aF,aU,aE,eG d2,dL d2,dE d2,dI d2,lW cX2,aJ,hia',hp0,hp1,hla,hsa,si,Ab hk2,hd1];exact Same.nx _ _
      ·have hd1:decide (y.player≠x.player)=true:=Ab hpl;have hd2:decide (mis g x)=true:=Ab (hmis.2 fun h=>hpl h.1);rw[hd2];simp only[↓aC,aB,rE,↓reduceIte,rA,p1,p6,aF,aU,aE,eG d2,dL d2,dE d2,dI d2,lW cX2,aJ,hia',hp0,hp1,hla,hsa,si,Ab hk2,hd1];exact Same.nx _ _
     ·rw[Aa (show ¬mis g x from fun h=>hk2 h.1)];refine ed p1 p6 @aF @aU @aE (eG d2) (Aa hk2) ?_;exact Same.nx _ _
    clear p1 p6;rintro o ⟨F,inr⟩ Y ⟨rfl,q0,hY,p1,p6,pb⟩;simp only at q0 p1 p6 pb;subst q0;have hS2Y:=hS2X.trans hY;refine aq ?_;by_cases hmx:mis g x
    ·refine aM (fl pb (Ab hmx)) ?_;refine bQ (aq ?_);refine aR (aq ?_);exact .inr ⟨hS2Y,x,hxm,hmx⟩
    ·refine aK (fl pb (Aa hmx)) (aH ?_);refine aq ?_;refine aG (d6 p6 w1 ?_);refine⟨k - 1,ay,rfl,hS2Y,i+1,ay,fun y hy=>?_,by refine⟨?_,?_⟩<;>simp only[↓aC,aB,rE,↓reduceIte,rA,p1]⟩;rw[Bx,hx] at hy;rcases Bf.1 hy with h | h
     ·exact hm y h
     ·simp at h;rw[h];exact hmx
   ·refine aK ff (bG ?_);refine aq ?_;have hk0:k=0:=by omega
    subst hk0;exact .inl ⟨rfl,hX,i,hik,hm,by refine⟨?_,?_⟩<;>simp only[↓aC,aB,rE,↓reduceIte,rA,p1,p6]⟩
  clear q1;rintro o ⟨F,inr⟩ Y (⟨rfl,q0,hY,i,hik,hm,p1,p6⟩ | ⟨rfl,hY,hmx,p2⟩);rotate_left
  ·simp only at p2;simp only[↓aC,aB,rE,↓reduceIte,rA,p2];unfold wZ;rw[if_pos hmx];exact⟨rfl,s3.trans hY⟩
  simp only at q0 p1;subst q0;rw[Bb ay] at hm;unfold wZ;rw[if_neg (fun⟨x,h1,h2⟩=>hm x h1 h2)];clear p6 hik hm i;have sY:=s3.trans hY;have cY:Y.h.get S.nx=some (.cells [.int .i64 g.bo,nv,iv] false 0):=by rw[hY.2 _ l3];exact c3
  refine aq ?_;refine bQ (d6 p1 (iT cY) ?_);refine bE (aq ?_);refine aQ (aGZ H (aP.same (E:=cI) bT hn sY) (aP.same (E:=cW) cM hi sY) hln ay hok) ?_;rintro sv Z ⟨hZ,hsv⟩;have sZ:=sY.trans hZ;have hsl:=hsv.len;rw[aJ7] at hsl;refine aA (aW (Q:=fun o A' X=>(o= .normal/\aPc Z sv g 0 A' X)\/(o= .ret/\Same Z X/\(0:Int)∈fV g/\aD 2 A'.F= .int .i64 18)) (aA (aG ?_)) ?_)
  ·refine aq ?_;refine aL (bK (aPc Z sv g) ?_ g.bn.length _ _ ⟨rfl,de _,0,ay,fun j hj=>ay,by refine⟨?_,?_⟩<;>simp only[↓aC,aB,rE,↓reduceIte,rA]⟩);rintro k ⟨F,inr⟩ X ⟨q0,hX,i,hik,hm,p8,p9⟩;simp only at q0 p8 p9;subst q0;refine fE (d7 p8 p9 hsl ?_);by_cases hlt:i<g.bn.length
   ·refine aM ff (aH ?_);refine aq ?_;obtain⟨e,b,q,hia,hb,he,⟨a,rfl,ha⟩,_,hlf⟩:=aP.at (aP.same (E:=pF) gL hsv hX) bg (aBr hlt);have hl0:=hlf 0 a rfl;rw[Bh] at hl0;have hal:=ha.len;have w1:=dc i
    refine aA (aL (aA (aG ?_)));refine ec p8 p9 @aJ hia hl0 hal ?_;by_cases h0:setN g.bk 0 i= []
    ·refine aM (fj (Ab (show(((setN g.bk 0 i).length:Nat):Int)=0 by rw[h0];rfl))) ?_;refine bQ (aq ?_);refine aR (aq ?_);exact .inr ⟨hX,aB3.2 ⟨i,hlt,h0⟩⟩
    ·have hpos:=List.length_pos_iff.2 h0;refine aK ff (aH ?_);refine aq ?_;refine aG (d6 p9 w1 ?_);refine⟨k - 1,ay,rfl,hX,i+1,ay,fun j hj=>?_,by refine⟨?_,?_⟩<;>simp only[↓aC,aB,rE,↓reduceIte,rA,p8]⟩;by_cases hji:j=i
     ·rw[hji];exact h0
     ·exact hm j ay
   ·refine aK ff (bG ?_);refine aq ?_;have hk0:k=0:=by omega
    subst hk0;exact .inl ⟨rfl,hX,i,hik,hm,by refine⟨?_,?_⟩<;>simp only[↓aC,aB,rE,↓reduceIte,rA,p8,p9]⟩
  rintro o ⟨F,inr⟩ X (⟨rfl,q0,hX,i,hik,hm,p8,p9⟩ | ⟨rfl,hX,h0,p2⟩);rotate_left
  ·simp only at p2;refine dz p2 ?_;rw[if_pos h0];exact⟨rfl,sZ.trans hX⟩
  simp only at q0 p8;subst q0;have hne:∀j,j<g.bn.length->setN g.bk 0 j≠ []:=fun j hj=>hm j ay;rw[if_neg (fun h=>by have⟨j,hj,h0⟩:=aB3.1 h;exact hne j hj h0)];clear p9 hik hm i;refine aq ?_;refine aA (aW (Q:=fun o A' Y=>(o= .normal/\∃k,aO8 X sv g k A' Y/\k<=1)\/(o= .ret/\Same X Y/\¬aDM (fV g)/\aD 2 A'.F= .int .i64 9)) (aA (aG ?_)) ?_)
  ·refine aq ?_;refine aL (bK (aO8 X sv g) ?_ g.bn.length _ _ ⟨rfl,de _,1,ay,ay,fun j j0 j1=>ay,by refine⟨?_,?_⟩<;>simp only[↓aC,aB,rE,↓reduceIte,rA,p8]⟩);clear p8;rintro k ⟨F,inr⟩ Y ⟨q0,hY,i,hik,hi1,hm,p8,p10⟩;simp only at q0 p8 p10;subst q0;refine fE (d7 p8 p10 hsl ?_);by_cases hlt:i<g.bn.length
   ·refine aM ff (aH ?_);refine aq ?_;have hsY:=aP.same (E:=pF) gL hsv (hX.trans hY);obtain⟨e,b,q,hia,hb,he,⟨a,rfl,ha⟩,_,hlf⟩:=aP.at hsY bg (aBr hlt);obtain⟨e',b',q',hia',hb',he',⟨a',rfl,ha'⟩,_,hlf'⟩:=aP.at hsY bg (aBr (ay:i - 1<g.bn.length));have hl0:=hlf 0 a rfl;have hl0':=hlf' 0 a' rfl;rw[Bh] at hl0 hl0';have hp:=List.length_pos_iff.2 (hne i hlt);have hp':=List.length_pos_iff.2 (hne (i - 1) ay);have ia:=ha.cn hp;have la:=ha.ld hp;have ia':=ha'.cn hp';have la':=ha'.ld hp';have sa:=bO.self ha;have sa':=bO.self ha';have hlt2:(setN g.bk 0 i).getD 0 0<(setN g.bk 0 (i - 1)).getD 0 0↔(fV g).getD i 0<(fV g).getD (i - 1) 0:=by
     rw[wT hlt,wT (ay:i - 1<g.bn.length)];rcases tG i g.bk 0 with h | ⟨x,L,h1,h2⟩
     ·exact absurd h.1 (hne i hlt)
     ·rcases tG (i - 1) g.bk 0 with h | ⟨x',L',h1',h2'⟩
      ·exact absurd h.1 (hne (i - 1) ay)
      ·rw[h1,h1',h2,h2'];show(x:Int)<(x':Int)↔_;omega
    have w1:=dc i
    have w2:IntKind.i64.wrap ((i:Int) - 1)=((i - 1:Nat):Int):=by rw[wrap_i64 ay ay];omega
    refine aA (aL (aA (iJ ?_)));simp only[↓aC,aB,rE,↓reduceIte,rA,p8,p10,aJ,aAX,hia,hia',hl0,hl0',ia,la,ia',la',sa,sa',w2];by_cases hbad:(setN g.bk 0 i).getD 0 0<(setN g.bk 0 (i - 1)).getD 0 0
    ·refine aM (fj (Ab hbad)) ?_;refine bQ (aq ?_);refine aR (aq ?_);refine .inr ⟨hY.trans (Same.nx _ _),fun h=>?_⟩;exact h i ay (by simp [fV];omega) (hlt2.1 hbad)
    ·refine aK (fj (Aa hbad)) (aH ?_);refine aq ?_;refine aG (d6 p10 w1 ?_);refine⟨k - 1,ay,rfl,hY.trans (Same.nx _ _),i+1,ay,ay,fun j j0 j1=>?_,by refine⟨?_,?_⟩<;>simp only[↓aC,aB,rE,↓reduceIte,rA,p8]⟩;by_cases hji:j=i
     ·rw[hji];exact fun h=>hbad (hlt2.2 h)
     ·exact hm j j0 ay
   ·refine aK ff (bG ?_);refine aq ?_;exact .inl ⟨k,⟨rfl,hY,i,hik,hi1,hm,by refine⟨?_,?_⟩<;>simp only[↓aC,aB,rE,↓reduceIte,rA,p8,p10]⟩,ay⟩
  clear p8;rintro o ⟨F,inr⟩ Y (⟨rfl,k,⟨q0,hY,i,hik,hi1,hm,p8,p10⟩,hk⟩ | ⟨rfl,hY,hno,p2⟩);rotate_left
  ·simp only at p2;refine dz p2 ?_;rw[if_neg hno];exact⟨rfl,(sZ.trans hX).trans hY⟩
  simp only at q0;subst q0;have hris:aDM (fV g):=by
   unfold aDM;rw[show(fV g).length=g.bn.length by simp [fV]];rw[show min i g.bn.length=g.bn.length by omega] at hm;exact hm
  rw[if_pos hris];refine aq ?_;refine bQ (aq ?_);refine aR (aq ?_);exact(sZ.trans hX).trans hY
end Go.Ev.Gl
