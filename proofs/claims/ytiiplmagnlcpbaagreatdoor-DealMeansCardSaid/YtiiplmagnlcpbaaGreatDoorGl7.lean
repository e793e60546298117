import Derived.Test.YtiiplmagnlcpbaaGreatDoorGl6
set_option linter.unusedSimpArgs false
set_option linter.unusedVariables false
open Nat renaming reduceEqDiff -> rE, reduceAdd -> rA
set_option maxHeartbeats 0
namespace Go.Ev.Gl
variable {fns:T dD}
theorem aJi{S:St}{a:Int}(H:Has fns):eT fns (.fn 150 [] []) [.int .i64 a] S fun r S'=>r= .bool false/\S'=S:=by
 refine bL H.f150 (by simp) ?_;refine aj ?_;refine bK (aj ?_);refine bK ?_;refine ek (Aa (show ¬a≠a from fun h=>h rfl)) ?_;refine aK ?_;simp only[↓stU,aG,rE,↓reduceIte]
theorem aLK{S:St}{a b:Int}(H:Has fns):eT fns (.fn 132 [] []) [.int .i64 a,.int .i64 b] S fun r S'=>r= .bool (decide (a<b))/\S'=S:=by
 refine bL H.f132 (by simp) ?_;refine aj ?_;refine bK (aj ?_);refine bK (aj ?_);refine aL (aj ?_);refine aF (aJi H) ?_;rintro _ X ⟨rfl,hX⟩;rw[hX];refine aj ?_;refine aK ?_;simp only[↓stU,aG,rE,↓reduceIte]
def aI1(m:Int)(l:bm):Int:=l.foldl mx m
def aS1(S:St)(v:AV)(l:bm)(m0:Int)(k:Nat)(A:bN)(X:St):Prop:=A.inr=false/\X=S/\∃i,i+k=l.length/\0<i/\aB 0 A.F=v/\aB 3 A.F= .int .i64 (aI1 m0 ((l.take i).drop 1))/\aB 4 A.F= .int .i64 (i:Int)
theorem aOR{S:St}{v:AV}{l:bm}(H:Has fns)(hl:cH .i64 S v l)(hne:0<l.length)(hlen:l.length<=1000000):eT fns (.fn 93 [] []) [v] S fun r S'=>r= .int .i64 (aI1 (l.getD 0 0) (l.drop 1))/\S'=S:=by
 refine bL H.f93 (by simp) ?_;refine aj ?_;refine bK (aj ?_);refine fA (eo hl.len @Ak ?_);refine aO (by simp only[↓stU,aG,rE,↓reduceIte,Aa (show ¬ (l.length:Int)<1 by omega)]) (aJ ?_);try refine aj ?_
 have hia:=hl.cq hne;have hld:=hl.ld hne;refine bK (er @aMA hia hld ?_);refine fA (aj ?_);refine aQ (bX (aS1 S v l (l.getD 0 0)) ?_ (l.length - 1) _ _ ⟨rfl,rfl,1,au,by decide,ak,by refine aj ?_;rw[Dp (by rw[Bq];omega)];rfl,ak⟩);rintro k ⟨F,inr⟩ X ⟨q0,hX,i,hik,hi0,p0,p3,p4⟩;simp only at q0 p0 p3 p4;subst q0;rw[hX];refine fA (eu p0 p4 hl.len @Ak ?_);by_cases hi:i<l.length
 ·refine aP (by simp only[↓stU,aG,rE,↓reduceIte,Ac (show(i:Int)<(l.length:Int) by omega)]) (aJ ?_);try refine aj ?_
  have hia:=hl.cq hi;have hld:=hl.ld hi;have htk:(l.take (i+1)).drop 1=(l.take i).drop 1++ [l.getD i 0]:=by
   rw[Dh,Ad hi,List.drop_append,Bq,show 1 - min i l.length=0 by omega,Ae,Ad hi];rfl
  have w1:=dk i
  refine aE (aQ (aM ?_));simp only[↓stU,aG,rE,↓reduceIte,p0,p3,p4,aW,hia,hld,aGz,aPF];refine aM (eo p4 w1 ?_);refine⟨k - 1,au,rfl,rfl,i+1,au,au,am p0,?_,ak⟩;refine aj ?_;rw[htk];unfold aI1;rw[List.foldl_append];rfl
 ·refine aO (by simp only[↓stU,aG,rE,↓reduceIte,Aa (show ¬ (i:Int)<(l.length:Int) by omega)]) (bS ?_);refine aj ?_;rw[Ay au] at p3;refine bK (ek p3 ?_);refine aK ?_;simp only[↓stU,aG,rE,↓reduceIte]
def aTY(S:St)(v:AV)(l:bm)(z:Int)(k:Nat)(A:bN)(X:St):Prop:=A.inr=false/\X=S/\∃i,i+k=l.length/\¬z∈l.take i/\aB 0 A.F=v/\aB 1 A.F= .int .i64 z/\aB 7 A.F= .int .i64 (l.length:Int)/\aB 8 A.F= .int .i64 (i:Int)
theorem aIf{S:St}{v:AV}{l:bm}{z:Int}(H:Has fns)(hl:cH .i64 S v l)(hlen:l.length<=1000000):eT fns (.fn 131 [] []) [v,.int .i64 z] S fun r S'=>(∃j,r= .int .i64 j/\(0<=j↔z∈l))/\S'=S:=by
 refine bL H.f131 (by simp) ?_;refine aj ?_;refine bK (aj ?_);refine fA (eo hl.len @Ak ?_);refine aQ (bX (aTY S v l z) ?_ l.length _ _ ⟨rfl,rfl,0,au,by simp,by refine⟨?_,?_,?_,?_⟩<;>simp only[↓stU,aG,rE,↓reduceIte]⟩);rintro k ⟨F,inr⟩ X ⟨q0,hX,j,hjk,ha,p0,p1,p7,p8⟩;simp only at q0 p0 p1 p7 p8;subst q0;rw[hX];refine bK (eo p7 p8 ?_);by_cases hj:j<l.length
 ·refine aE (aP (by simp only[↓stU,aG,rE,↓reduceIte,Ac (show(j:Int)<(l.length:Int) by omega)]) (aJ ?_));refine aj ?_;have hia:=hl.cq hj;have hld:=hl.ld hj;have hgd:l.getD j 0=l[j]:=by rw[Ae,Ad hj];rfl
  have htk:l.take (j+1)=l.take j++ [l.getD j 0]:=by rw[Dh,Ad hj,hgd];rfl
  have hmem:l.getD j 0∈l:=by rw[hgd];exact Cv hj
  generalize l.getD j 0=w at *;have w1:=dk j
  refine aE (aQ (aE (aM ?_)));refine ek p8 ?_;refine bK (fa p0 p1 @aW hia hld ?_);by_cases ho:z=w
  ·refine aP (by simp only[↓stU,aG,rE,↓reduceIte,Ac ho]) ?_;refine bK (aj ?_);refine aK (aj ?_);exact⟨_,rfl,⟨fun _=>by rw[ho];exact hmem,fun _=>au⟩⟩
  ·refine aO (by simp only[↓stU,aG,rE,↓reduceIte,Aa ho]) (aJ ?_);try refine aj ?_
   refine aM (eo p8 w1 ?_);refine⟨k - 1,au,rfl,rfl,j+1,au,?_,by refine⟨?_,?_,?_,?_⟩<;>simp only[↓stU,aG,rE,↓reduceIte,p0,p1,p7]⟩;rw[htk];intro h;rcases Bs.1 h with h | h
   ·exact ha h
   ·simp at h;exact ho h
 ·refine aE (aO (by simp only[↓stU,aG,rE,↓reduceIte,Aa (show ¬ (j:Int)<(l.length:Int) by omega)]) (bS ?_));refine aj ?_;rw[Ay au] at ha;refine bK (aj ?_);refine aK (aj ?_);exact⟨_,rfl,⟨fun h=>absurd h ay,fun h=>absurd h ha⟩⟩
theorem aEE{S:St}{v:AV}{l:bm}{z:Int}(H:Has fns)(hl:cH .i64 S v l)(hlen:l.length<=1000000):eT fns (.fn 113 [] []) [v,.int .i64 z] S fun r S'=>r= .bool (decide (z∈l))/\S'=S:=by
 refine bL H.f113 (by simp) ?_;refine aj ?_;refine bK (aj ?_);refine bK (aj ?_);refine aL (aj ?_);refine aF (aIf H hl hlen) ?_;rintro _ Y ⟨⟨j,rfl,hj⟩,hY⟩;rw[hY];have hd:decide ((0:Int)<=j)=decide (z∈l):=by rw[Dd,Gp,Gp];exact hj
 refine ek hd ?_;refine aK ?_;simp only[↓stU,aG,rE,↓reduceIte]
def aSf(l:bm)(a b:Nat):Prop:=∀i,a<i->i<b->¬l.getD i 0<l.getD (i - 1) 0
def aOH(l:bm):Prop:=aSf l 0 l.length
def aT9(S:St)(v:AV)(l:bm)(k:Nat)(A:bN)(X:St):Prop:=A.inr=false/\Same S X/\∃i:Int,(k:Int)=max i 0/\ -1<=i/\i<max 1 (l.length:Int)/\aSf l i.toNat l.length/\aB 0 A.F=v/\aB 3 A.F= .int .i64 i
theorem aH2{S:St}{v:AV}{l:bm}(H:Has fns)(hl:cH .i64 S v l)(hlen:l.length<=1000000):eT fns (.fn 114 [] []) [v] S fun r S'=>(∃t,r= .bool t/\(t=true↔aOH l))/\Same S S':=by
 refine bL H.f114 (by simp) ?_;refine aj ?_;refine bK (aj ?_);have w0:IntKind.i64.wrap ((l.length:Int) - 1)=(l.length:Int) - 1:=wrap_i64 au au;refine fA (er hl.len @Ak w0 ?_);refine aQ (bX (aT9 S v l) ?_ (l.length - 1) _ _ ⟨rfl,Same.refl S,(l.length:Int) - 1,au,au,au,fun i h1 h2=>au,by refine⟨?_,?_⟩<;>simp only[↓stU,aG,rE,↓reduceIte]⟩);rintro k ⟨F,inr⟩ X ⟨q0,hX,i,hik,hi1,hi2,hup,p0,p3⟩;simp only at q0 p0 p3;subst q0;have hlX:=hl.same hX;refine fA (ek p3 ?_);by_cases hi:0<i
 ·refine aP (by simp only[↓stU,aG,rE,↓reduceIte,Ac hi]) (aJ ?_);try refine aj ?_
  obtain⟨n,rfl⟩:∃n:Nat,i=(n:Int):=⟨i.toNat,au⟩;have h1:n<l.length:=by omega
  have h0:n - 1<l.length:=by omega
  have w1:IntKind.i64.wrap ((n:Int) - 1)=((n - 1:Nat):Int):=by rw[wrap_i64 au au];omega
  have ia1:=hlX.cq h1;have ia0:=hlX.cq h0;have ld1:=hlX.ld h1;have ld0:=hlX.ld h0;have hself:=cH.self hl;obtain⟨b,hb⟩:∃b off cap o,v= .sl b off l.length cap o/\b<X.nx:=by
   rcases hlX with⟨h0,_⟩ | ⟨b,off,cap,o,cs,rfl,_,hb,_⟩
   ·rw[h0] at h1;simp at h1
   ·exact⟨b,off,cap,o,rfl,hb⟩
  obtain⟨off,cap,o,rfl,hbX⟩:=hb;simp only[nQ] at ia1 ia0 ld1 ld0;refine aE (aQ (aE (fJ (fun _=>False) ?_)));intro S1 s1;simp only[↓sU,sD,rE,↓reduceIte,rA,p0,p3,aW,ia1,w1,ia0,ld1,ld0,hbX,Am];refine cF rfl ?_;refine ae ?_;refine aF (aLK H) ?_;rintro _ Y ⟨rfl,hY⟩;rw[hY];refine⟨Same.refl _,?_⟩;try refine ae ?_
  by_cases ho:l.getD n 0<l.getD (n - 1) 0
  ·refine aP (by simp only[↓sU,sD,rE,↓reduceIte,rA,Ac ho]) ?_;refine bK (ae ?_);refine aK (ae ?_);exact⟨⟨_,rfl,⟨fun h=>(by cases h),fun h=>absurd ho (h n au h1)⟩⟩,hX.trans s1⟩
  ·refine aO (by simp only[↓sU,sD,rE,↓reduceIte,rA,Aa ho]) (aJ ?_);try refine ae ?_
   refine aM (c9 p3 w1 ?_);refine⟨k - 1,au,rfl,hX.trans s1,((n - 1:Nat):Int),au,au,au,fun j h1 h2=>?_,by refine⟨?_,?_⟩<;>simp only[↓sU,sD,rE,↓reduceIte,rA,p0]⟩;by_cases hj:j=n
   ·rw[hj];exact ho
   ·exact hup j au h2
 ·refine aO (by simp only[↓stU,aG,rE,↓reduceIte,Aa hi]) (bS ?_);refine aj ?_;refine bK (aj ?_);refine aK (aj ?_);exact⟨⟨_,rfl,⟨fun _ j h1 h2=>hup j au h2,fun _=>rfl⟩⟩,hX⟩
def mP:List dI->Nat->Nat->Nat
 | [],_,_=>0
 | x::l,s,i=>if x.kind=2/\x.info=(i:Int) then s+1 else mP l (s+1) i
def lD(g:bD):bm:=(List.range g.bz.length).map fun i=>((mP g.bw 0 i:Nat):Int)
def ck(g:bD)(i:Int):pN:=g.bz.getD i.toNat ⟨0,0⟩
def mis(g:bD)(x:dI):Prop:=x.kind=2/\¬ ((ck g x.info).player=x.player/\(ck g x.info).cd=(x.next.length:Int))
instance misDec(g:bD)(x:dI):Decidable (mis g x):=by unfold mis;exact inferInstance
open Classical in
noncomputable def aBA(g:bD):Int:=if ∃x∈g.bw,mis g x then 10 else if(0:Int)∈lD g then 18 else if aOH (lD g) then 0 else 9
def aPx(g:bD):Prop:=∀x∈g.bw,x.kind=2->0<=x.info/\x.info<g.bz.length
theorem aOg(a b c d:Int):kA .neq (.struct [(0,.int),(1,.int)]) (.agg [.int .i64 a,.int .i64 b]) (.agg [.int .i64 c,.int .i64 d])=some (.bool (decide (¬ (a=c/\b=d)))):=by
 have k:∀y z:Int,eqp .int (.int .i64 y) (.int .i64 z)=some (decide (y=z)):=fun y z=>by
  show bO (keq .i64 .i64) (some (ieq y z)) none=_;rw[fR,aN,nJ];congr 1
 have e:eqv (.struct [(0,.int),(1,.int)]) (.agg [.int .i64 a,.int .i64 b]) (.agg [.int .i64 c,.int .i64 d])=some (decide (a=c/\b=d)):=by
  show eqs [(0,.int),(1,.int)] [.int .i64 a,.int .i64 b] [.int .i64 c,.int .i64 d]=_;unfold eqs;show(match eqp .int (.int .i64 a) (.int .i64 c) with | some true=>_ | some false=>_ | none=>_)=_;rw[k];by_cases h:a=c
  ·rw[Ac h];unfold eqs;show(match eqp .int (.int .i64 b) (.int .i64 d) with | some true=>_ | some false=>_ | none=>_)=_;rw[k];by_cases h2:b=d
   ·rw[Ac h2,Ac ⟨h,h2⟩];rfl
   ·rw[Aa h2,Aa (fun h3=>h2 h3.2)]
  ·rw[Aa h,Aa (fun h3=>h h3.1)]
 show aU (eqv (.struct [(0,.int),(1,.int)]) _ _) _=_;rw[e,aH];congr 2;by_cases h:a=c/\b=d
 ·rw[Ac h,Aa (fun h2=>h2 h)];rfl
 ·rw[Aa h,Ac h];rfl
def aRn(S:St)(wb fb:Nat)(g:bD)(k:Nat)(A:bN)(X:St):Prop:=A.inr=false/\Same S X/\∃F:bm,k<=g.bw.length/\F.length=g.bz.length/\(∀j,j<g.bz.length->F.getD j 0=((mP (g.bw.drop k) k j:Nat):Int))/\X.h.get fb=some (.cells (bE F) false 0)/\fb<X.nx/\
 aB 0 A.F= .ptr wb 0/\aB 3 A.F= .sl fb 0 g.bz.length g.bz.length false/\aB 4 A.F= .int .i64 ((k:Int) - 1)
def aSJ(S1:St)(wb:Nat)(fv nv:AV)(g:bD)(k:Nat)(A:bN)(X:St):Prop:=A.inr=false/\Same S1 X/\∃i,i+k=g.bw.length/\(∀x∈g.bw.take i,¬mis g x)/\aB 0 A.F= .ptr wb 0/\aB 3 A.F=fv/\aB 47 A.F=nv/\aB 48 A.F= .int .i64 (g.bw.length:Int)/\aB 49 A.F= .int .i64 (i:Int)
theorem aLb{S:St}{wb:Nat}{ps:Int}{nv iv pv dv lv:AV}{g:bD}(H:Has fns)(hW:aBC S wb ps nv iv pv dv lv)(hn:bH 6 dC S nv g.bw)(hi:bH 2 fO S iv g.bz)(hN:g.bw.length<=2000)(hI:g.bz.length<=200)(hok:aPx g):
  eT fns (.fn 94 [] []) [.ptr wb 0] S fun r S'=>r= .int .i64 (aBA g)/\Same S S':=by
 refine bL H.f94 (by simp) ?_;refine ap ?_;refine bK (ap ?_);refine bK ?_;simp only[↓stU,aG,rE,↓reduceIte,rA,aY,bB,aD,aC,kC hW.1,hi.len];refine oR (oJ (n:=g.bz.length) (by simp only[↓stU,aG,rE,↓reduceIte,rA,aW]) (by simp only[↓stU,aG,rE,↓reduceIte,rA,aW]) ax ax) ?_;intro S1 s1 n1 c1;refine ap ?_;have hz:repeatL [AV.int .i64 0] g.bz.length=bE (List.replicate g.bz.length 0):=by rw[repeatL_one];simp [bE]
 rw[hz] at c1;have hW1:=hW.same s1;have w0:IntKind.i64.wrap ((g.bw.length:Int) - 1)=(g.bw.length:Int) - 1:=wrap_i64 au au;refine aE (bG (Q:=fun o A' X=>o= .normal/\aRn S wb S.nx g 0 A' X) (aE (aM ?_)) ?_)
 ·simp only[↓stU,aG,rE,↓reduceIte,rA,aY,bB,aD,aC,kD hW1.1,hn.len,w0];refine aQ (bX (aRn S wb S.nx g) ?_ g.bw.length _ _ ⟨rfl,s1,_,Af _,Bp ..,fun j hj=>?_,c1,au,by refine⟨?_,?_,?_⟩<;>simp only[↓stU,aG,rE,↓reduceIte,rA]⟩);rotate_left
  ·rw[Dp (Af _),Ae,Fz];split<;>rfl
  rintro k ⟨F,inr⟩ X ⟨q0,hX,Fl,hkN,hFl,hF,hfb,hfbX,p0,p3,p4⟩;simp only at q0 p0 p3 p4;subst q0;refine fA (dz p4 ?_);by_cases hk:0<k
  ·refine aP (by simp only[↓stU,aG,rE,↓reduceIte,rA,Ac (show(0:Int)<=(k:Int) - 1 by omega)]) (aJ ?_);try refine ap ?_
   have e1:(k:Int) - 1=((k - 1:Nat):Int):=by omega
   rw[e1] at p4;have hlt:k - 1<g.bw.length:=by omega
   obtain⟨x,hx⟩:∃x,g.bw[k - 1]? =some x:=⟨_,Ad hlt⟩;have hxm:=Cm hx;have hWX:=hW.same hX;obtain⟨e,b,q,hia,hb,he,⟨a,bb,cc,rfl,ha,hbb,hcc⟩,hag,_⟩:=bH.at (bH.same (E:=dC) cR hn hX) ay hx;have hdrop:g.bw.drop (k - 1)=x::g.bw.drop k:=by
    rw[Bw hlt,show k - 1+1=k by omega];congr 1;rw[Ad hlt] at hx;exact Cd hx
   have w1:IntKind.i64.wrap (((k - 1:Nat):Int)+1)=(k:Int):=by rw[wrap_i64 au au];omega
   have w2:IntKind.i64.wrap (((k - 1:Nat):Int) - 1)=((k - 1:Nat):Int) - 1:=wrap_i64 au au;refine aE (aQ (aE (aM ?_)));simp only[↓stU,aG,rE,↓reduceIte,rA,p0,p4,aY,bB,aD,aC,kD hWX.1,aW,hia,hag];refine cM ?_;intro X1 x1 m1 d1;refine dH (b:=X.nx) (aq) (by refine ap ?_;exact aS _) d1 rfl rfl ?_;intro X2 x2 m2 d2;refine ap ?_;have hX2:Same X X2:=x2.same x1 (Af _);have hfb2:X2.h.get S.nx=some (.cells (bE Fl) false 0):=by rw[hX2.2 _ hfbX];exact hfb
   refine bK (d9 @aD @aC (mN d2) ?_);have hfin:∀ (G:Fr) (Y:St) (Fl':bm),aB 0 G= .ptr wb 0->aB 3 G= .sl S.nx 0 g.bz.length g.bz.length false->aB 4 G= .int .i64 ((k - 1:Nat):Int)->Same S Y->Fl'.length=g.bz.length->(∀j,j<g.bz.length->Fl'.getD j 0=((mP (g.bw.drop (k - 1)) (k - 1) j:Nat):Int))->Y.h.get S.nx=some (.cells (bE Fl') false 0)->S.nx<Y.nx->pU fns [mt 24 4,oq 25 (bi .sub (.t 24) (ci 1)),mt 4 25] G Y fun F' S'=>∃k',k'<k/\aRn S wb S.nx g k' ⟨F',false⟩ S':=fun G Y Fl' g0 g3 g4 hY h1 h2 h3 h4=>by
    refine d7 g4 w2 ?_;exact⟨k - 1,au,rfl,hY,Fl',au,h1,h2,h3,h4,by refine⟨?_,?_,?_⟩<;>simp only[↓stU,aG,rE,↓reduceIte,rA,g0,g3]⟩
   by_cases hk2:x.kind=2
   ·refine aP (by simp only[↓stU,aG,rE,↓reduceIte,rA,Ac hk2]) ?_;have⟨i0,i1⟩:=hok x hxm hk2;obtain⟨n,hn'⟩:∃n:Nat,x.info=(n:Int):=⟨x.info.toNat,au⟩;have hni:n<g.bz.length:=by omega
    rw[hn'] at d2;have hif:=mR (b:=S.nx) (o:=false) hni;refine aM ?_;simp only[↓stU,aG,rE,↓reduceIte,rA,p0,p3,p4,aD,aC,kC d2,w1,aW,hif];refine fK (fun call=>by refine d7 @dW @cN ?_;exact aGl (S:=X2) hfb2 (by rw[hFl];exact hni)) ?_;refine ap ?_;refine aM ?_;refine aEf (hfin _ _ (Fl.set n (k:Int)) (ar p0) (ar p3) (ar p4) (((hX.trans hX2)).put (Af _) _) (by rw[Cl];exact hFl) (fun j hj=>?_) fh (by simp only;omega)) fun F' S' hh=>hh;rw[jA (by rw[hFl];exact hni),hdrop,hF j hj];simp only[mP];by_cases hjn:j=n
    ·rw[if_pos hjn,if_pos ⟨hk2,by rw[hn',hjn]⟩];omega
    ·rw[if_neg hjn,if_neg (fun h=>hjn au),show k - 1+1=k by omega]
   ·refine aO (by simp only[↓stU,aG,rE,↓reduceIte,rA,Aa hk2]) (aJ ?_);try refine ap ?_
    refine aM ?_;refine aEf (hfin _ X2 Fl (ar p0) (ar p3) (ar p4) (hX.trans hX2) hFl (fun j hj=>?_) hfb2 au) fun F' S' hh=>hh;rw[hdrop,hF j hj];simp only[mP];rw[if_neg (fun h=>hk2 h.1),show k - 1+1=k by omega]
  ·refine aO (by simp only[↓stU,aG,rE,↓reduceIte,rA,Aa (show ¬ (0:Int)<=(k:Int) - 1 by omega)]) (bS ?_);refine ap ?_;have hk0:k=0:=by omega
   subst hk0;exact⟨rfl,hX,Fl,hkN,hFl,hF,hfb,hfbX,by refine⟨?_,?_,?_⟩<;>simp only[↓stU,aG,rE,↓reduceIte,rA,p0,p3,p4]⟩
 rintro o ⟨F,inr⟩ S2 ⟨rfl,q0,s2,Fl,_,hFl,hF,hfb,hfb2,p0,p3,p4⟩;simp only at q0 p0 p3 p4;subst q0;have hFeq:Fl=lD g:=by
  unfold lD;refine List.ext_getElem (by simp [hFl]) fun j j1 j2=>?_;have h1:=hF j au;rw[Ae,Ad j1,Dn] at h1;rw[List.getElem_map,List.getElem_range];exact h1
 subst hFeq;have hW2:=hW.same s2;have hn2:=bH.same (E:=dC) cR hn s2;have hi2:=bH.same (E:=fO) fC hi s2;try refine ap ?_
 refine aE (bG (Q:=fun o A' X=>(o= .normal/\aSJ S2 wb (.sl S.nx 0 g.bz.length g.bz.length false) nv g 0 A' X)\/(o= .ret/\Same S2 X/\(∃x∈g.bw,mis g x)/\aB 2 A'.F= .int .i64 10)) (aE (aM ?_)) ?_)
 ·simp only[↓stU,aG,rE,↓reduceIte,rA,p0,aY,bB,aD,aC,kD hW2.1,hn2.len];refine aQ (bX (aSJ S2 wb (.sl S.nx 0 g.bz.length g.bz.length false) nv g) ?_ g.bw.length _ _ ⟨rfl,Same.refl _,0,au,fun x hx=>(by simp at hx),by refine⟨?_,?_,?_,?_,?_⟩<;>simp only[↓stU,aG,rE,↓reduceIte,rA,p0,p3]⟩);clear p0 p3 p4;rintro k ⟨F,inr⟩ X ⟨q0,hX,i,hik,hm,p0,p3,p47,p48,p49⟩;simp only at q0 p0 p3 p47 p48 p49;subst q0;refine bK (d7 p48 p49 ?_);by_cases hlt:i<g.bw.length
  ·refine aE (aP (by simp only[↓stU,aG,rE,↓reduceIte,rA,Ac (show(i:Int)<(g.bw.length:Int) by omega)]) (aJ ?_));refine ap ?_;obtain⟨x,hx⟩:∃x,g.bw[i]? =some x:=⟨_,Ad hlt⟩;have hxm:=Cm hx;obtain⟨e,b,q,hia,hb,he,⟨a,bb,cc,rfl,ha,hbb,hcc⟩,hag,_⟩:=bH.at (bH.same (E:=dC) cR hn2 hX) ay hx;have w1:=dk i
   refine aE (aQ (aE (aM ?_)));refine ef p47 p49 @aW hia hag ?_;refine cM ?_;intro X1 x1 m1 d1;refine dH (b:=X.nx) (aq) (by refine ap ?_;exact aS _) d1 rfl rfl ?_;intro X2 x2 m2 d2;refine ap ?_;have hX2:Same X X2:=x2.same x1 (Af _);have hS2X:=hX.trans hX2;have hWX:=hW2.same hS2X;have hla:=(ha.same hX2).len;have hsa:=cH.self ha;have hsi:=bH.self hi;refine aE (bG (Q:=fun o A' Y=>o= .normal/\A'.inr=false/\Same X2 Y/\aB 0 A'.F= .ptr wb 0/\aB 3 A'.F= .sl S.nx 0 g.bz.length g.bz.length false/\aB 47 A'.F=nv/\aB 48 A'.F= .int .i64 (g.bw.length:Int)/\aB 49 A'.F= .int .i64 (i:Int)/\aB 73 A'.F= .bool (decide (mis g x))) (jK ?_) ?_)
   ·by_cases hk2:x.kind=2
    ·have⟨i0,i1⟩:=hok x hxm hk2;obtain⟨n,hn'⟩:∃n:Nat,x.info=(n:Int):=⟨x.info.toNat,au⟩;have hni:n<g.bz.length:=by omega
     obtain⟨y,hy⟩:∃y,g.bz[n]? =some y:=⟨_,Ad hni⟩;obtain⟨e',b',q',hia',hb',he',rfl,hag',_⟩:=bH.at (bH.same (E:=fO) fC hi2 hS2X) ay hy;have hya:ck g x.info=y:=by unfold ck;rw[hn',Ae,show((n:Int)).toNat=n from rfl,hy];rfl
     have hmis:decide (mis g x)=decide (¬ (y.player=x.player/\y.cd=(x.next.length:Int))):=by
      rw[Dd,Gp,Gp];unfold mis;rw[hya];exact⟨fun h=>h.2,fun h=>⟨hk2,h⟩⟩
     rw[hmis];rw[hn'] at d2;have hs2:cQ (.agg [.int .i64 y.player,.int .i64 y.cd]) (.agg [.int .i64 y.player,.int .i64 y.cd])=true:=aL6 (kO ..) (kO ..);simp only[↓stU,aG,rE,↓reduceIte,rA,p0,p3,p47,p48,p49,aY,bT,bB,aD,aX,aC,mN d2,kD d2,kC d2,jU d2,kC hWX.1,aW,hia',hag',hla,hsa,hsi,hs2,Ak,gL,aRj,cN,aOg,Ac hk2];exact Same.nx _ _
    ·rw[Aa (show ¬mis g x from fun h=>hk2 h.1)];simp only[↓stU,aG,rE,↓reduceIte,rA,p0,p3,p47,p48,p49,aD,aX,aC,mN d2,Aa hk2];exact Same.nx _ _
   clear p0 p3 p47 p48 p49;rintro o ⟨F,inr⟩ Y ⟨rfl,q0,hY,p0,p3,p47,p48,p49,pb⟩;simp only at q0 p0 p3 p47 p48 p49 pb;subst q0;have hS2Y:=hS2X.trans hY;try refine ap ?_
   by_cases hmx:mis g x
   ·refine aP (by simp only[↓stU,aG,rE,↓reduceIte,rA,pb,Ac hmx]) ?_;refine bK (ap ?_);refine aK (ap ?_);exact .inr ⟨hS2Y,x,hxm,hmx⟩
   ·refine aO (by simp only[↓stU,aG,rE,↓reduceIte,rA,pb,Aa hmx]) (aJ ?_);try refine ap ?_
    refine aM (d7 p49 w1 ?_);refine⟨k - 1,au,rfl,hS2Y,i+1,au,fun y hy=>?_,by refine⟨?_,?_,?_,?_,?_⟩<;>simp only[↓stU,aG,rE,↓reduceIte,rA,p0,p3,p47,p48]⟩;rw[Dh,hx] at hy;rcases Bs.1 hy with h | h
    ·exact hm y h
    ·simp at h;rw[h];exact hmx
  ·refine aE (aO (by simp only[↓stU,aG,rE,↓reduceIte,rA,Aa (show ¬ (i:Int)<(g.bw.length:Int) by omega)]) (bS ?_));refine ap ?_;have hk0:k=0:=by omega
   subst hk0;exact .inl ⟨rfl,hX,i,hik,hm,by refine⟨?_,?_,?_,?_,?_⟩<;>simp only[↓stU,aG,rE,↓reduceIte,rA,p0,p3,p47,p48,p49]⟩
 clear p0 p3 p4;rintro o ⟨F,inr⟩ X (⟨rfl,q0,hX,i,hik,hm,p0,p3,p47,p48,p49⟩ | ⟨rfl,hX,hmx,p2⟩);rotate_left
 ·simp only at p2;simp only[↓stU,aG,rE,↓reduceIte,rA,p2];unfold aBA;rw[if_pos hmx];exact⟨rfl,s2.trans hX⟩
 simp only at q0 p0 p3;subst q0;rw[Ay au] at hm;unfold aBA;rw[if_neg (fun⟨x,h1,h2⟩=>hm x h1 h2)];have sX:=s2.trans hX;have hfX:X.h.get S.nx=some (.cells (bE (lD g)) false 0):=by rw[hX.2 _ hfb2];exact hfb
 have hrow:=aI2 (N:=g.bz.length) hfX (Ag hfb2 hX.1) hFl;try refine ap ?_
 refine fA (dz p3 ?_);refine aL (ap ?_);refine aF (aEE H hrow au) ?_;rintro _ Y ⟨rfl,hY⟩;rw[hY];try refine ap ?_
 by_cases h0:(0:Int)∈lD g
 ·rw[if_pos h0];refine aP (by simp only[↓stU,aG,rE,↓reduceIte,rA,Ac h0]) ?_;refine bK (ap ?_);refine aK (ap ?_);exact sX
 rw[if_neg h0];refine aO (by simp only[↓stU,aG,rE,↓reduceIte,rA,Aa h0]) (aJ ?_);try refine ap ?_
 refine fA (dz p3 ?_);refine aL (ap ?_);refine aF (aH2 H hrow au) ?_;rintro _ Y ⟨⟨t,rfl,ht⟩,hY⟩;refine dz @uX ?_;cases t with
 | false=>
  rw[if_neg (fun h=>by have:=ht.2 h;cases this)];refine aP (by simp only[↓stU,aG,rE,↓reduceIte,rA];rfl) ?_;refine bK (ap ?_);refine aK (ap ?_);exact sX.trans hY
 | true=>
  rw[if_pos (ht.1 rfl)];refine aO (by simp only[↓stU,aG,rE,↓reduceIte,rA];rfl) (aJ ?_);try refine ap ?_
  refine bK (ap ?_);refine aK (ap ?_);exact sX.trans hY
def uI(g:bD):Prop:=g.b9<1\/(4:Int)<g.b9\/(g.bw.length:Int)<1\/(2000:Int)<(g.bw.length:Int)\/(200:Int)<(g.bz.length:Int)
instance badGDec(g:bD):Decidable (uI g):=by unfold uI;exact inferInstance
def oU(ps:Int)(ni:Nat):List dI->Int
 | []=>0
 | x::l=>if jW ps ni x≠0 then jW ps ni x else oU ps ni l
def pQ(g:bD):Option (List dP):=iL g.bw.length (iB g) (g.bw.length+1) 0 (-1) 0
noncomputable def eO(g:bD):Int:=
 if uI g then 2 else if oU g.b9 g.bz.length g.bw≠0 then oU g.b9 g.bz.length g.bw else
 match pQ g with
 | none=>9
 | some T=>if T.length≠g.bw.length then 9 else if 40<aCH 0 T then 5 else aBA g
theorem lP{ps:Int}{ni:Nat}:∀ {l:List dI},oU ps ni l=0->∀x∈l,jW ps ni x=0
 | [],_,x,hx=>by cases hx
 | y::l,h,x,hx=>by
  simp only[oU] at h;split at h
  ·rename_i hne;exact absurd h hne
  ·rename_i he;rcases Br.1 hx with rfl | hx
   ·exact Hk.1 he
   ·exact lP h x hx
theorem aFU{ps:Int}{ni:Nat}{x:dI}(h:jW ps ni x=0):x.next.length<=1000:=by
 unfold jW at h;split at h
 ·split at h
  ·cases h
  ·rename_i hb;unfold uU at hb;omega
 ·split at h
  ·split at h
   ·cases h
   ·rename_i hb;unfold aAm at hb;omega
  ·split at h
   ·split at h
    ·cases h
    ·rename_i hb;unfold wR at hb;omega
   ·cases h
theorem aFM{ps:Int}{ni:Nat}{x:dI}(h:jW ps ni x=0)(h2:x.kind=2):0<=x.info/\x.info<ni:=by
 unfold jW at h;rw[if_neg au,if_pos h2] at h;split at h
 ·cases h
 ·split at h
  ·cases h
  ·omega
theorem stc{S:St}{b p:Nat}{w:AV}{cs:bo}{o:Bool}{sz:Nat}(h:S.h.get b=some (.cells cs o sz))(hp:p<cs.length):oT (.ptr b p) 1 [w] S=some (.undef,⟨S.h.set b (some (.cells (cs.set p w) o sz)),S.nx⟩):=by
 have hput:put cs p [w]=some (cs.set p w):=by
  rw[put_eq,if_pos (by simp;omega)];congr 1;rw[Ez,if_pos hp];simp
 simp only[oT,mU,h,aH,rJ,hput];rfl
theorem aD2{W:Nat->Prop}{h0 h':T AB}{base m i:Nat}{l:List AO}{F:Fr}{S:St}{ps ps':List kB}{last:Option Nat}{Q:Fr->St->List kB->Prop}{x v:cP}{b p sz:Nat}{w:AV}{cs:bo}{o:Bool}(hfl:cG m ps S.h=(ps',h'))(h:oB last m=true)(hx:x.val F= .ptr b p)(hv:(v.val F).cells=some [w])(hb:h'.get b=some (.cells cs o sz))(hp:p<cs.length)(hW:W b)
  (hr:hJ fns W h0 base l (i+1) F ⟨h'.set b (some (.cells (cs.set p w) o sz)),S.nx⟩ ps' (some i) Q):hJ fns W h0 base (⟨none,.x (.st 1 x v),none,m⟩::l) i F S ps last Q:=by
 refine aGb (S1:=⟨h'.set b (some (.cells (cs.set p w) o sz)),S.nx⟩) h ?_ ?_ ?_
 ·rw[hfl,hv,aH,hx];exact stc (S:=⟨h',S.nx⟩) hb hp
 ·rw[hfl];refine⟨Af _,fun c hc hw=>?_⟩;simp only;rw[dq,if_neg (show ¬c=b from fun e=>hw (by rw[e];exact hW))]
 ·rw[hfl];exact hr
theorem wQ{h:T AB}{b:Nat}{x0 x1 x2:AV}{o:Bool}{s:Nat}(hb:h.get b=some (.cells [x0,x1,x2] o s)):dJ (.ptr b (0+0)) false 1 h=some x0:=ldc hb rfl
theorem mO{h:T AB}{b:Nat}{x0 x1 x2:AV}{o:Bool}{s:Nat}(hb:h.get b=some (.cells [x0,x1,x2] o s)):dJ (.ptr b (0+1)) false 1 h=some x1:=ldc hb rfl
theorem zP{h:T AB}{b:Nat}{x0 x1 x2:AV}{o:Bool}{s:Nat}(hb:h.get b=some (.cells [x0,x1,x2] o s)):dJ (.ptr b (0+2)) false 1 h=some x2:=ldc hb rfl
theorem jT{h:T AB}{b:Nat}{x0 x1 x2:AV}{o:Bool}{s:Nat}(hb:h.get b=some (.cells [x0,x1,x2] o s)):dJ (.ptr b 0) true 3 h=some (.agg [x0,x1,x2]):=tR hb rfl
theorem aAB{m j id:Nat}{bl:AB}{ps:List kB}{h:T AB}(ht:Nat.testBit m j=false):cG m (⟨j,id,bl⟩::ps) h=(⟨j,id,bl⟩::(cG m ps h).1,(cG m ps h).2):=by
 conv=>lhs;unfold cG
 rw[show Nat.testBit m (kB.mk j id bl).i=false from ht,aR]
theorem aD6{m j id:Nat}{bl:AB}{ps:List kB}{h:T AB}(ht:Nat.testBit m j=true):cG m (⟨j,id,bl⟩::ps) h=cG m ps (h.set id (some bl)):=by
 conv=>lhs;unfold cG
 rw[show Nat.testBit m (kB.mk j id bl).i=true from ht,aN]
theorem aDf{W:Nat->Prop}{h0:T AB}{base i:Nat}{l:List AO}{F:Fr}{S:St}{ps:List kB}{last:Option Nat}{Q:Fr->St->List kB->Prop}{d:Option Nat}{t s bytes n:Nat}{z:bo}{lo co:cP}(hl:dS (lo.val F)=some n)(hc:dS (co.val F)=some n)(h1:n<=room)(h2:bytes * n<=room)
  (hr:hJ fns W h0 base l (i+1) (cJ d F (.sl (base+i) 0 n n false)) S (⟨i,base+i,.cells (repeatL z n) false 0⟩::ps) last Q):aKY fns W h0 base (tA (.df t s bytes z lo co) F (base+i)) d l i F S ps last Q:=by
 rw[oJ hl hc h1 h2,qU];exact hr
theorem iS.full{sel:dP->Int}{P P':bm}{T:List dP}(h:iS sel P P' T 0)(hl:T.length=P.length):P'=T.map sel:=by
 refine List.ext_getElem (by rw[Ce,h.1,hl]) fun j j1 j2=>?_;have h1:=h.2 j;rw[Ce] at j2;unfold xA at h1;rw[if_pos (Dt _),Gu,Ad j2,Ae,Ad j1] at h1;rw[List.getElem_map];exact h1
theorem aJF{g:bD}{T:List dP}(h:pQ g=some T):∃e L,T=(-1,0,e)::L:=by
 unfold pQ at h;simp only[iL] at h;split at h
 ·obtain⟨L,_,rfl⟩:=Ax.1 h;exact⟨_,_,rfl⟩
 ·cases h
theorem aNL(m:Int)(L:List dP):aI1 m (L.map (·.2.1))=aCH m L:=by
 unfold aI1 aCH;rw[List.foldl_map]
theorem aPt{P:T AB->Prop}{h:T AB}{w b1 b2 b3:Nat}{c1 c2 c3 z:Option AB}(n1:w≠b1)(n2:w≠b2)(n3:w≠b3)(n4:b1≠b2)(n5:b1≠b3)(n6:b2≠b3)
  (H:∀h':T AB,h'.get w=c3->h'.get b1=z->h'.get b2=z->h'.get b3=z->(∀c,c≠w->c≠b1->c≠b2->c≠b3->h'.get c=h.get c)->P h'):P ((((((h.set b1 z).set w c1).set b2 z).set w c2).set b3 z).set w c3):=by
 refine H _ ?_ ?_ ?_ ?_ fun c h1 h2 h3 h4=>?_
 ·rw[dq,if_pos rfl]
 ·rw[dq,if_neg (Dy n1),dq,if_neg n5,dq,if_neg (Dy n1),dq,if_neg n4,dq,if_neg (Dy n1),dq,if_pos rfl]
 ·rw[dq,if_neg (Dy n2),dq,if_neg n6,dq,if_neg (Dy n2),dq,if_pos rfl]
 ·rw[dq,if_neg (Dy n3),dq,if_pos rfl]
 ·rw[dq,if_neg h1,dq,if_neg h4,dq,if_neg h1,dq,if_neg h3,dq,if_neg h1,dq,if_neg h2]
def aSM(S2:St)(gb wb:Nat)(nv:AV)(g:bD)(k:Nat)(A:bN)(X:St):Prop:=A.inr=false/\Same S2 X/\∃i,i+k=g.bw.length/\oU g.b9 g.bz.length g.bw=oU g.b9 g.bz.length (g.bw.drop i)/\aB 1 A.F= .ptr gb 0/\aB 4 A.F= .ptr wb 0/\aB 40 A.F=nv/\aB 41 A.F= .int .i64 (g.bw.length:Int)/\aB 42 A.F= .int .i64 (i:Int)
def aRf(S S':St)(p nv iv:AV)(g:bD):Prop:=∃ (wb pb db lb:Nat) (T:List dP),p= .ptr wb 0/\S.nx<=wb/\pQ g=some T/\T.length=g.bw.length/\WK S' wb pb db lb g.bw.length g.b9 nv iv (T.map (·.1)) (T.map (·.2.1)) (T.map (·.2.2))
theorem aHU{S:St}{nv iv:AV}{g:bD}(H:Has fns)(hn:bH 6 dC S nv g.bw)(hi:bH 2 fO S iv g.bz)(hln:g.bw.length<=100000):
  eT fns (.fn 71 [] []) [.agg [.int .i64 g.b9,nv,iv]] S fun r S'=>Same S S'/\∃p,r= .tup [p,.int .i64 (eO g)]/\(eO g=0->aRf S S' p nv iv g):=by
 refine bL H.f71 (by simp) ?_;refine ae ?_;refine bK ?_;refine cD (by refine ae ?_;exact aS _) ?_;intro S1 s1 n1 c1;refine ae ?_;have hnl:=hn.len;have hil:=hi.len;refine aE (aE (bG (Q:=fun o A' X=>o= .normal/\A'.inr=false/\X=S1/\aB 1 A'.F= .ptr S.nx 0/\aB 35 A'.F= .bool (decide (uI g))) (aM ?_) ?_))
 ·by_cases h1:g.b9<1
  ·rw[Ac (show uI g from .inl h1)];simp only[↓sU,sD,rE,↓reduceIte,rA,aD,aC,wQ c1,mO c1,zP c1,hnl,hil,Ac h1]
  by_cases h2:(4:Int)<g.b9
  ·rw[Ac (show uI g from .inr (.inl h2))];simp only[↓sU,sD,rE,↓reduceIte,rA,aD,aC,wQ c1,mO c1,zP c1,hnl,hil,Aa h1,Ac h2]
  by_cases h3:(g.bw.length:Int)<1
  ·rw[Ac (show uI g from .inr (.inr (.inl h3)))];simp only[↓sU,sD,rE,↓reduceIte,rA,aD,aC,wQ c1,mO c1,zP c1,hnl,hil,Aa h1,Aa h2,Ac h3]
  by_cases h4:(2000:Int)<(g.bw.length:Int)
  ·rw[Ac (show uI g from .inr (.inr (.inr (.inl h4))))];simp only[↓sU,sD,rE,↓reduceIte,rA,aD,aC,wQ c1,mO c1,zP c1,hnl,hil,Aa h1,Aa h2,Aa h3,Ac h4]
  by_cases h5:(200:Int)<(g.bz.length:Int)
  ·rw[Ac (show uI g from .inr (.inr (.inr (.inr h5))))];simp only[↓sU,sD,rE,↓reduceIte,rA,aD,aC,wQ c1,mO c1,zP c1,hnl,hil,Aa h1,Aa h2,Aa h3,Aa h4,Ac h5]
  ·rw[Aa (show ¬uI g by unfold uI;omega)];simp only[↓sU,sD,rE,↓reduceIte,rA,aD,aC,wQ c1,mO c1,zP c1,hnl,hil,Aa h1,Aa h2,Aa h3,Aa h4,Aa h5]
 rintro o ⟨F,inr⟩ X ⟨rfl,q0,hX,p1,pb⟩;simp only at q0 p1 pb;subst q0;rw[hX];clear hX;try refine ae ?_
 by_cases bad:uI g
 ·have hE:eO g=2:=by unfold eO;rw[if_pos bad]
  rw[hE];refine aP (by simp only[↓sU,sD,rE,↓reduceIte,rA,pb,Ac bad]) ?_;refine bK (ae ?_);refine aK (ae ?_);exact⟨s1,_,rfl,fun h=>by cases h⟩
 refine aO (by simp only[↓sU,sD,rE,↓reduceIte,rA,pb,Aa bad]) (aJ ?_);try refine ae ?_
 have hps:1<=g.b9/\g.b9<=4:=by unfold uI at bad;omega
 have hN:g.bw.length<=2000:=by unfold uI at bad;omega
 have hN0:0<g.bw.length:=by unfold uI at bad;omega
 have hI:g.bz.length<=200:=by unfold uI at bad;omega
 have hbd:∀ (F:Fr) (h:T AB),aB 36 F= .agg [.int .i64 g.b9,nv,iv]->iT (.build [.int .i64 0,.ce,.ce,.ce,.ce,.ce] [(0,3,.t 36)]) F h=some (.agg [.int .i64 g.b9,nv,iv,.ce,.ce,.ce]):=fun F h he=>by
  show(aU (eQ _ (fG F [(0,3,.t 36)])) fun cs=>some (AV.agg cs))=_;simp only[fG,show(cP.t 36).val F= .agg [.int .i64 g.b9,nv,iv] from he];rfl
 refine bK (d9 p1 (jT c1) hbd ?_);refine cD (by refine aj ?_;exact aS _) ?_;intro S2 s2 n2 c2;refine ae ?_;have sS2:Same S S2:=s1.trans s2;have hW:aBC S2 S1.nx g.b9 nv iv .ce .ce .ce:=⟨c2,au⟩;have hn2:=bH.same (E:=dC) cR hn sS2;have gl2:S.nx<S2.nx:=by omega
 have c1':S2.h.get S.nx=some (.cells [.int .i64 g.b9,nv,iv] false 0):=by rw[s2.2 _ au];exact c1
 refine aE (bG (Q:=fun o A' X=>(o= .normal/\aSM S2 S.nx S1.nx nv g 0 A' X)\/(o= .ret/\Same S2 X/\oU g.b9 g.bz.length g.bw≠0/\aB 2 A'.F= .nilp/\aB 3 A'.F= .int .i64 (oU g.b9 g.bz.length g.bw))) (aE (aM ?_)) ?_)
 ·refine du p1 @aD @aC (mO c1') hnl ?_;refine aQ (bX (aSM S2 S.nx S1.nx nv g) ?_ g.bw.length _ _ ⟨rfl,Same.refl _,0,au,by rw[Dn],by refine⟨?_,?_,?_,?_,?_⟩<;>simp only[↓sU,sD,rE,↓reduceIte,rA,p1]⟩);clear p1 pb;rintro k ⟨F,inr⟩ X ⟨q0,hX,i,hik,hE,p1,p4,p40,p41,p42⟩;simp only at q0 p1 p4 p40 p41 p42;subst q0;refine bK (c9 p41 p42 ?_);by_cases hlt:i<g.bw.length
  ·refine aE (aP (by simp only[↓sU,sD,rE,↓reduceIte,rA,Ac (show(i:Int)<(g.bw.length:Int) by omega)]) (aJ ?_));refine ae ?_;obtain⟨x,hx⟩:∃x,g.bw[i]? =some x:=⟨_,Ad hlt⟩;have⟨e,b,q,hia,hb,he,hNE,hag,_⟩:=bH.at (bH.same (E:=dC) cR hn2 hX) ay hx;have hdrop:g.bw.drop i=x::g.bw.drop (i+1):=by
    rw[Bw hlt];congr 1;rw[Ad hlt] at hx;exact Cd hx
   have w1:=dk i
   refine aE (aQ (aE (aM ?_)));refine ef p40 p42 @aW hia hag ?_;refine cM ?_;intro X1 x1 m1 d1;refine dH (b:=X.nx) (aq) (by refine ap ?_;exact aS _) d1 rfl he ?_;intro X2 x2 m2 d2;refine ap ?_;have hX2:Same X X2:=x2.same x1 (Af _);refine bK (c9 p4 (tR d2 he) ?_);refine aL (ae ?_);refine aF (aLD H (cR hNE hX2) (hW.same (hX.trans hX2)) hps hil au (bH.self hi)) ?_;rintro _ Y ⟨rfl,hY⟩;have hSY:=(hX.trans hX2).trans hY;rw[hdrop] at hE;simp only[oU] at hE;try refine ae ?_
   refine bK (ae ?_);by_cases he0:jW g.b9 g.bz.length x=0
   ·rw[if_neg (fun h=>h he0)] at hE;refine aO (by simp only[↓sU,sD,rE,↓reduceIte,rA,Aa (show ¬jW g.b9 g.bz.length x≠0 from fun h=>h he0)]) (aJ ?_);try refine ae ?_
    refine aM (c9 p42 w1 ?_);exact⟨k - 1,au,rfl,hSY,i+1,au,hE,by refine⟨?_,?_,?_,?_,?_⟩<;>simp only[↓sU,sD,rE,↓reduceIte,rA,p1,p4,p40,p41]⟩
   ·rw[if_pos he0] at hE;refine aP (by simp only[↓sU,sD,rE,↓reduceIte,rA,Ac (show jW g.b9 g.bz.length x≠0 from he0)]) ?_;refine bK (ae ?_);refine aK (ae ?_);exact .inr ⟨hSY,by rw[hE];exact he0,by rw[hE]⟩
  ·refine aE (aO (by simp only[↓sU,sD,rE,↓reduceIte,rA,Aa (show ¬ (i:Int)<(g.bw.length:Int) by omega)]) (bS ?_));refine ae ?_;have hk0:k=0:=by omega
   subst hk0;exact .inl ⟨rfl,hX,i,hik,hE,by refine⟨?_,?_,?_,?_,?_⟩<;>simp only[↓sU,sD,rE,↓reduceIte,rA,p1,p4,p40,p41,p42]⟩
 clear p1 pb;rintro o ⟨F,inr⟩ X (⟨rfl,q0,hX,i,hik,hE,p1,p4,p40,p41,p42⟩ | ⟨rfl,hX,hne,p2,p3⟩);rotate_left
 ·simp only at p2 p3;refine c9 p2 p3 ?_;have hE:eO g=oU g.b9 g.bz.length g.bw:=by unfold eO;rw[if_neg bad,if_pos hne]
  rw[hE];exact⟨sS2.trans hX,_,rfl,fun h=>absurd h hne⟩
 simp only at q0 p1 p4;subst q0;rw[Dp au] at hE;have hform:eO g=match pQ g with | none=>9 | some T=>if T.length≠g.bw.length then 9 else if 40<aCH 0 T then 5 else aBA g:=by
  conv=>lhs;unfold eO
  rw[if_neg bad,if_neg (fun h=>h hE)]
  first | done | (cases pQ g<;>rfl)
 have sX:=sS2.trans hX;have cX:X.h.get S.nx=some (.cells [.int .i64 g.b9,nv,iv] false 0):=by rw[hX.2 _ gl2];exact c1'
 have wX:=(hW.same hX).1;have ltw:=(hW.same hX).2;have ltg:S.nx<X.nx:=Ag gl2 hX.1;have nwg:¬S.nx=S1.nx:=by omega
 try refine ae ?_
 refine aE (uD (fun b=>b=S1.nx) ?_);intro X1 x1 hx1 hm1;simp only[↓sU,sD,rE,↓reduceIte,rA,p1,p4,aD,aX,aC,mO cX,ltg,nwg,Am,hnl,bH.self hn];refine aDf (n:=g.bw.length) (by simp only[↓sU,sD,rE,↓reduceIte,rA,aW]) (by simp only[↓sU,sD,rE,↓reduceIte,rA,aW]) ax ax  ?_;simp only[↓sU,sD,rE,↓reduceIte,rA,p1,p4,aD,aX,aC,mO cX,ltg,nwg,Am,hnl,bH.self hn];refine aDf (n:=g.bw.length) (by simp only[↓sU,sD,rE,↓reduceIte,rA,aW]) (by simp only[↓sU,sD,rE,↓reduceIte,rA,aW]) ax ax  ?_;simp only[↓sU,sD,rE,↓reduceIte,rA,p1,p4,aD,aX,aC,mO cX,ltg,nwg,Am,hnl,bH.self hn];refine aDf (n:=g.bw.length) (by simp only[↓sU,sD,rE,↓reduceIte,rA,aW]) (by simp only[↓sU,sD,rE,↓reduceIte,rA,aW]) ax ax  ?_;refine dy p1 p4 @aY @bT @bB @aD @aX @aC ?_;have hz:repeatL [AV.int .i64 0] g.bw.length=bE (List.replicate g.bw.length 0):=by rw[repeatL_one];simp [bE]
 rw[hz];have n6:¬S1.nx=X.nx+6:=by omega
 have n10:¬S1.nx=X.nx+10:=by omega
 have n14:¬S1.nx=X.nx+14:=by omega
 refine aD2 (b:=S1.nx) (p:=3) (w:=.sl (X.nx+6) 0 g.bw.length g.bw.length false) (cs:=[.int .i64 g.b9,nv,iv,.ce,.ce,.ce]) (o:=false) (sz:=0) ((aAB (show Nat.testBit 98425 14=false by decide)).trans (by rw[aAB (show Nat.testBit 98425 10=false by decide),aD6 (show Nat.testBit 98425 6=true by decide),dF])) rfl (af) (by simp only[↓sU,sD,rE,↓reduceIte,rA];rfl) (by rw[dq,if_neg n6,hx1];exact wX) (by simp) rfl ?_;refine dy p1 p4 @aY @bT @bB @aD @aX @aC ?_;refine aD2 (b:=S1.nx) (p:=4) (w:=.sl (X.nx+10) 0 g.bw.length g.bw.length false) (cs:=[.int .i64 g.b9,nv,iv,.sl (X.nx+6) 0 g.bw.length g.bw.length false,.ce,.ce]) (o:=false) (sz:=0) ((aAB (show Nat.testBit 1017851 14=false by decide)).trans (by rw[aD6 (show Nat.testBit 1017851 10=true by decide),dF])) rfl (af) (by simp only[↓sU,sD,rE,↓reduceIte,rA];rfl) (by rw[dq,if_neg n10,dq,if_pos rfl];rfl) (by simp) rfl ?_;refine dy p1 p4 @aY @bT @bB @aD @aX @aC ?_;refine aD2 (b:=S1.nx) (p:=5) (w:=.sl (X.nx+14) 0 g.bw.length g.bw.length false) (cs:=[.int .i64 g.b9,nv,iv,.sl (X.nx+6) 0 g.bw.length g.bw.length false,.sl (X.nx+10) 0 g.bw.length g.bw.length false,.ce]) (o:=false) (sz:=0) ((aD6 (show Nat.testBit 8388607 14=true by decide)).trans (dF _ _)) rfl (af) (by simp only[↓sU,sD,rE,↓reduceIte,rA];rfl) (by rw[dq,if_neg n14,dq,if_pos rfl];rfl) (by simp) rfl ?_;refine ae ?_;refine aPt (P:=fun h'=>nD fns _ _ ⟨h',X1.nx⟩ _) n6 n10 n14 au au au ?_;intro Zh gw g1 g2 g3 gr;have hm1:X1.nx=X.nx+24:=hm1;have sZ:Same S ⟨Zh,X1.nx⟩:=⟨by show S.nx<=X1.nx;have:=sX.1;omega,fun c hc=>by
  have:=sX.1;show Zh.get c=S.h.get c;rw[gr c au au au au,hx1];exact sX.2 c hc⟩
 have cZ:Zh.get S.nx=some (.cells [.int .i64 g.b9,nv,iv] false 0):=by
  rw[gr _ au au au au,hx1];exact cX
 have hK:WK ⟨Zh,X1.nx⟩ S1.nx (X.nx+6) (X.nx+10) (X.nx+14) g.bw.length g.b9 nv iv (List.replicate g.bw.length 0) (List.replicate g.bw.length 0) (List.replicate g.bw.length 0):=⟨⟨gw,by show S1.nx<X1.nx;omega⟩,g1,g2,g3,Bp ..,Bp ..,Bp ..,by show _<X1.nx;omega,by show _<X1.nx;omega,by show _<X1.nx;omega⟩;generalize hZ:(⟨Zh,X1.nx⟩:St)=Z at *;have cZ:Z.h.get S.nx=some (.cells [.int .i64 g.b9,nv,iv] false 0):=by rw[<-hZ];exact cZ
 have lz:S1.nx<Z.nx:=hK.w.2;have hall:=lP hE;refine fA (du p1 p4 @aD @aC (mO cZ) ?_);refine aL (ae ?_);rw[show Int.negSucc 0=(-1:Int) from rfl];refine aF (aL0 (rv:=nv) H hn au (aw sX.1) (aw sX.1) (aw sX.1) au au au n6 n10 n14 hN (fun x hx=>aFU (hall x hx)) (g.bw.length+1) (at_:=0) (p:= -1) (d:=0) au ay ay au sZ hK (by rw[Dn];exact hn)) ?_;rintro r Y ⟨hY,P',D',L',hKY,hres⟩;have sY:Same S Y:=hY.same sZ (aw sX.1) (aw sX.1) (aw sX.1);have hres':match pQ g with | some T=>(∃v,r= .tup [v,.bool true]/\bH 6 dC S v (g.bw.drop (0+T.length)))/\iS (·.1) (List.replicate g.bw.length 0) P' T 0/\iS (·.2.1) (List.replicate g.bw.length 0) D' T 0/\iS (·.2.2) (List.replicate g.bw.length 0) L' T 0 | none=>r= .tup [.ce,.bool false]:=hres
 clear hres;cases hw:pQ g with
 | none=>
  rw[hw] at hres' hform;subst hres';simp only at hform;rw[hform];refine c9 @tU @tP ?_;refine bK ?_;simp only[↓sU,sD,rE,↓reduceIte,rA,uX,Bool.not_false];refine aP (af) ?_;refine bK (ae ?_);refine aK (ae ?_);exact⟨sY,_,rfl,fun h=>by cases h⟩
 | some T=>
  rw[hw] at hres' hform;obtain⟨⟨v,rfl,hv⟩,rP,rD,rL⟩:=hres';simp only at hform;have hTl:=(aBT (show iL g.bw.length (iB g) (g.bw.length+1) 0 (-1) 0=some T from hw)).1;have hvl:=hv.len;rw[Fp] at hvl;refine c9 @tU @tP ?_;refine bK ?_;simp only[↓sU,sD,rE,↓reduceIte,rA,uX,Bool.not_true,hvl];by_cases hT:T.length=g.bw.length;rotate_left
  ·rw[hform,if_pos hT];refine aP (by simp only[↓sU,sD,rE,↓reduceIte,rA,Ac (show(0:Int)<((g.bw.length - (0+T.length):Nat):Int) by omega)]) ?_;refine bK (ae ?_);refine aK (ae ?_);exact⟨sY,_,rfl,fun h=>by cases h⟩
  rw[if_neg (fun h=>h hT)] at hform;refine aO (by simp only[↓sU,sD,rE,↓reduceIte,rA,Aa (show ¬ (0:Int)<((g.bw.length - (0+T.length):Nat):Int) by omega)]) (aJ ?_);try refine ae ?_
  have eP:=rP.full (by rw[Bp];exact hT);have eD:=rD.full (by rw[Bp];exact hT);have eL:=rL.full (by rw[Bp];exact hT);subst eP eD eL;have hrow:=aI2 hKY.gd hKY.bd hKY.ld;have⟨e,L,hTe⟩:=aJF hw;have hmax:aI1 ((T.map (·.2.1)).getD 0 0) ((T.map (·.2.1)).drop 1)=aCH 0 T:=by
   rw[hTe];show aI1 0 (L.map (·.2.1))=aCH 0 ((-1,0,e)::L);rw[aNL,aFw];rfl
  refine fA (dx p1 p4 @aY @bB @aD @aC (kE hKY.w.1) ?_);refine aL (ae ?_);refine aF (aOR H hrow (by rw[Ce];omega) (by rw[Ce];omega)) ?_;rintro _ Y2 ⟨rfl,hY2⟩;rw[hY2,hmax];refine ae ?_;by_cases h40:40<aCH 0 T
  ·rw[hform,if_pos h40];refine aP (by simp only[↓sU,sD,rE,↓reduceIte,rA,Ac h40]) ?_;refine bK (ae ?_);refine aK (ae ?_);exact⟨sY,_,rfl,fun h=>by cases h⟩
  rw[if_neg h40] at hform;refine aO (by simp only[↓sU,sD,rE,↓reduceIte,rA,Aa h40]) (aJ ?_);try refine ae ?_
  refine bK (c9 p1 p4 ?_);refine aL (ae ?_);refine aF (aLb H hKY.w (bH.same (E:=dC) cR hn sY) (bH.same (E:=fO) fC hi sY) hN hI (fun x hx h2=>aFM (hall x hx) h2)) ?_;rintro _ Y3 ⟨rfl,hY3⟩;try simp only[↓sU,sD,rE,↓reduceIte,rA,p4]
  refine aK (ae ?_);rw[hform];refine⟨sY.trans hY3,_,rfl,fun _=>⟨S1.nx,_,_,_,T,rfl,au,hw,hT,⟨hKY.w.same hY3,by rw[hY3.2 _ hKY.bp];exact hKY.gp,by rw[hY3.2 _ hKY.bd];exact hKY.gd,by rw[hY3.2 _ hKY.bl];exact hKY.gl,hKY.lp,hKY.ld,hKY.ll,Ag hKY.bp hY3.1,Ag hKY.bd hY3.1,Ag hKY.bl hY3.1⟩⟩⟩
theorem aFq{S:St}{nv iv:AV}{g:bD}(H:Has fns)(hn:bH 6 dC S nv g.bw)(hi:bH 2 fO S iv g.bz)(hln:g.bw.length<=100000):
  eT fns (.fn 47 [] []) [.agg [.int .i64 g.b9,nv,iv]] S fun r S'=>r= .int .i64 (eO g)/\Same S S':=by
 refine bL H.f47 (by simp) ?_;refine ae ?_;refine bK ?_;refine cD (by refine ae ?_;exact aS _) ?_;intro S1 s1 n1 c1;refine ae ?_;refine bK (cp (jT c1) ?_);refine aL (ae ?_);refine aF (aHU H (bH.same (E:=dC) cR hn s1) (bH.same (E:=fO) fC hi s1) hln) ?_;rintro _ X ⟨hX,p,rfl,_⟩;refine c9 @tU @tP ?_;refine bK (ae ?_);refine aK (ae ?_);exact s1.trans hX
theorem aSu{S:St}{t:Nat}{x:AV}{o:Bool}{sz:Nat}(h:S.h.get t=some (.cells [x] o sz)):eU (.sl t 0 1 1 false) S.h 1 1=some [x]:=by
 show aU (cA S.h t) (fun cs=>cut cs 0 (1 * 1))=_;unfold cA;rw[h];rfl
theorem lN.push{bytes t:Nat}{S0 S:St}{v:AV}{l:bm}{w:Int}(h:lN 1 S0 S v l.length (bE l))(hS:Same S0 S)(ht:S.h.get t=some (.cells [.int .i64 w] false 0))(h1:l.length+1<=room)(h2:(l.length+1) * bytes<=room):
  ∃v' S',iW bytes 1 v (.sl t 0 1 1 false) S=some (v',S')/\lN 1 S0 S' v' (l++ [w]).length (bE (l++ [w]))/\bP v'=some S.nx/\S'.nx=S.nx+1/\∀c,c<S.nx->bP v≠some c->S'.h.get c=S.h.get c:=by
 have hs:=aSu ht;have e0:bE (l++ [w])=bE l++ [.int .i64 w]:=by simp [bE]
 have e1:(l++ [w]).length=l.length+1:=by simp
 rw[e0,e1];generalize hn:l.length=n at *;rcases h with⟨rfl,rfl,h0⟩ | ⟨b,rfl,hb0,hb,hg,hc⟩
 ·refine⟨.sl S.nx 0 1 1 true,⟨S.h.set S.nx (some (.cells [.int .i64 w] true 1)),S.nx+1⟩,?_,.inr ⟨S.nx,by rw[Ao],hS.1,by simp,?_,?_⟩,rfl,rfl,fun c hc _=>(Same.alloc S _).2 c hc⟩
  ·show(aU (some 1) fun j=>aU (eU (.sl t 0 1 1 false) S.h 1 j) fun new=>xG .ce bytes 1 j new S)=_;rw[aH,hs,aH];show pF bytes 1 1 [.int .i64 w] S=_;unfold pF;rw[show Nat.beq 1 0=false from rfl,aR,Ah au,aN,Ah (by rw[Ao] at h2;exact h2),aN];rfl
  ·simp only;rw[dq,if_pos rfl,h0];rfl
  ·rw[h0];rfl
 ·refine⟨.sl S.nx 0 (n+1) (n+1) true,⟨(S.h.set b none).set S.nx (some (.cells (bE l++ [.int .i64 w]) true 1)),S.nx+1⟩,?_,.inr ⟨S.nx,rfl,hS.1,by simp,?_,by rw[Aj,hc,Bc,Ch,Nat.one_mul]⟩,rfl,rfl,fun c hc hne=>?_⟩
  ·show(aU (some 1) fun j=>aU (eU (.sl t 0 1 1 false) S.h 1 j) fun new=>xG (.sl b 0 n n true) bytes 1 j new S)=_;rw[aH,hs,aH];show pT bytes 1 b 0 n n true 1 [.int .i64 w] S=_;unfold pT;have e2:Nat.ble (n+1) n=false:=by rw[Ca];intro h;have:=Au h;omega
   rw[e2,aR,Ah h1,aN,Ah h2,aN,hg,aH];have e3:cut (bE l) 0 (n * 1)=some (bE l):=by
    unfold cut;rw[jC,jM,Dn,if_pos au,Ay au]
   have e4:Nat.beq (0+n * 1) (kL (bE l))=true:=by rw[eR,hc,Az];omega
   simp only[aAR,e3,aH,aN,e4,show Nat.beq 1 1=true from rfl,grown,fE]
  ·simp only;rw[dq,if_pos rfl]
  ·simp only;have:c≠b:=fun e=>hne (by rw[e];rfl);rw[dq,if_neg au,dq,if_neg this]
theorem lN.self{k n:Nat}{S0 S:St}{v:AV}{cs:bo}(h:lN k S0 S v n cs):cQ v v=true:=by
 rcases h with⟨rfl,_⟩ | ⟨b,rfl,_⟩
 ·rfl
 ·exact rX ..
theorem lN.cells{k n:Nat}{S0 S:St}{v:AV}{cs:bo}(h:lN k S0 S v n cs):v.cells=some [v]:=by
 rcases h with⟨rfl,_⟩ | ⟨b,rfl,_⟩<;>rfl
theorem eE{h:T AB}{b p:Nat}{cs:bo}{x:AV}{o:Bool}{s:Nat}(hb:h.get b=some (.cells cs o s))(hj:cs[p]? =some x):dJ (.ptr b p) false 1 h=some x:=by
 have:=ldc (j:=p) hb hj;rw[Ao] at this;exact this
theorem lN.is{S0 S:St}{v:AV}{l:bm}(h:lN 1 S0 S v l.length (bE l)):cH .i64 S v l:=by
 rcases h with⟨rfl,h0,_⟩ | ⟨b,rfl,h1,h2,h3,h4⟩
 ·exact .inl ⟨Cf.1 h0,.inl rfl⟩
 ·refine .inr ⟨b,0,l.length,true,bE l,rfl,Af _,h2,by unfold cA;rw[h3];rfl,fun i x hi=>?_⟩;rw[Ao];unfold bE;rw[Bz,hi];rfl
theorem lN.blk{k n c:Nat}{S0 S:St}{v:AV}{cs:bo}(h:lN k S0 S v n cs)(hc:bP v=some c):S0.nx<=c/\c<S.nx/\S.h.get c=some (.cells cs true k):=by
 rcases h with⟨rfl,_⟩ | ⟨b,rfl,h1,h2,h3,h4⟩
 ·cases hc
 ·cases hc;exact⟨h1,h2,h3⟩
theorem aIC{g:bD}{j:Nat}(hj:j<g.bz.length):(lD g).getD j 0=((mP g.bw 0 j:Nat):Int):=by
 unfold lD;rw[Ae,Bz,Ge hj];rfl
end Go.Ev.Gl
