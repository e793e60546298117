import Derived.Test.YtiiplmagnlcpbaaGreatDoorGl6
set_option linter.unusedSimpArgs false
set_option linter.unusedVariables false
open Nat renaming reduceEqDiff -> rE, reduceAdd -> rA
set_option maxHeartbeats 0
namespace Go.Ev.Gl
variable {fns:T cM}
theorem aIh{S:St}{a:Int}(H:Has fns):eR fns (.fn 150 [] []) [.int .i64 a] S fun r S'=>r= .bool false/\S'=S:=by
 refine bE H.f150 (by simp) ?_;refine aj ?_;refine aY (aj ?_);refine aY ?_;refine eo (Aa (show ¬a≠a from fun h=>h rfl)) ?_;refine aI ?_;simp only[↓stU,aB,rE,↓reduceIte]
theorem aKk{S:St}{a b:Int}(H:Has fns):eR fns (.fn 132 [] []) [.int .i64 a,.int .i64 b] S fun r S'=>r= .bool (decide (a<b))/\S'=S:=by
 refine bE H.f132 (by simp) ?_;refine aj ?_;refine aY (aj ?_);refine aY (aj ?_);refine aK (aj ?_);refine aG (aIh H) ?_;rintro _ X ⟨rfl,hX⟩;rw[hX];refine aj ?_;refine aI ?_;simp only[↓stU,aB,rE,↓reduceIte]
def aH5(m:Int)(l:bm):Int:=l.foldl mx m
def aQT(S:St)(v:AV)(l:bm)(m0:Int)(k:Nat)(A:bK)(X:St):Prop:=A.inr=false/\X=S/\∃i,i+k=l.length/\0<i/\aD 0 A.F=v/\aD 3 A.F= .int .i64 (aH5 m0 ((l.take i).drop 1))/\aD 4 A.F= .int .i64 (i:Int)
theorem aMI{S:St}{v:AV}{l:bm}(H:Has fns)(hl:dE .i64 S v l)(hne:0<l.length)(hlen:l.length<=1000000):eR fns (.fn 93 [] []) [v] S fun r S'=>r= .int .i64 (aH5 (l.getD 0 0) (l.drop 1))/\S'=S:=by
 refine bE H.f93 (by simp) ?_;refine aj ?_;refine aY (aj ?_);refine dS (er hl.len @Ah ?_);refine aM (by simp only[↓stU,aB,rE,↓reduceIte,Aa (show ¬ (l.length:Int)<1 by omega)]) (aH ?_);try refine aj ?_
 have hia:=hl.cw hne;have hld:=hl.ld hne;refine aY (eu @aF7 hia hld ?_);refine dS (aj ?_);refine aO (bJ (aQT S v l (l.getD 0 0)) ?_ (l.length - 1) _ _ ⟨rfl,rfl,1,au,by decide,ak,by refine aj ?_;rw[Bw (by rw[Bh];omega)];rfl,ak⟩);rintro k ⟨F,inr⟩ X ⟨q0,hX,i,hik,hi0,p0,p3,p4⟩;simp only at q0 p0 p3 p4;subst q0;rw[hX];refine dS (ew p0 p4 hl.len @Ah ?_);by_cases hi:i<l.length
 ·refine aN (by simp only[↓stU,aB,rE,↓reduceIte,Ab (show(i:Int)<(l.length:Int) by omega)]) (aH ?_);try refine aj ?_
  have hia:=hl.cw hi;have hld:=hl.ld hi;have htk:(l.take (i+1)).drop 1=(l.take i).drop 1++ [l.getD i 0]:=by
   rw[Cz,Ad hi,List.drop_append,Bh,show 1 - min i l.length=0 by omega,Ae,Ad hi];rfl
  have w1:=dq i
  refine aC (aO (aJ ?_));simp only[↓stU,aB,rE,↓reduceIte,p0,p3,p4,aQ,hia,hld,aFM,aJe];refine aJ (er p4 w1 ?_);refine⟨k - 1,au,rfl,rfl,i+1,au,au,am p0,?_,ak⟩;refine aj ?_;rw[htk];unfold aH5;rw[List.foldl_append];rfl
 ·refine aM (by simp only[↓stU,aB,rE,↓reduceIte,Aa (show ¬ (i:Int)<(l.length:Int) by omega)]) (bD ?_);refine aj ?_;rw[Am au] at p3;refine aY (eo p3 ?_);refine aI ?_;simp only[↓stU,aB,rE,↓reduceIte]
def aRF(S:St)(v:AV)(l:bm)(z:Int)(k:Nat)(A:bK)(X:St):Prop:=A.inr=false/\X=S/\∃i,i+k=l.length/\¬z∈l.take i/\aD 0 A.F=v/\aD 1 A.F= .int .i64 z/\aD 7 A.F= .int .i64 (l.length:Int)/\aD 8 A.F= .int .i64 (i:Int)
theorem aHk{S:St}{v:AV}{l:bm}{z:Int}(H:Has fns)(hl:dE .i64 S v l)(hlen:l.length<=1000000):eR fns (.fn 131 [] []) [v,.int .i64 z] S fun r S'=>(∃j,r= .int .i64 j/\(0<=j↔z∈l))/\S'=S:=by
 refine bE H.f131 (by simp) ?_;refine aj ?_;refine aY (aj ?_);refine dS (er hl.len @Ah ?_);refine aO (bJ (aRF S v l z) ?_ l.length _ _ ⟨rfl,rfl,0,au,by simp,by refine⟨?_,?_,?_,?_⟩<;>simp only[↓stU,aB,rE,↓reduceIte]⟩);rintro k ⟨F,inr⟩ X ⟨q0,hX,j,hjk,ha,p0,p1,p7,p8⟩;simp only at q0 p0 p1 p7 p8;subst q0;rw[hX];refine aY (er p7 p8 ?_);by_cases hj:j<l.length
 ·refine aC (aN (by simp only[↓stU,aB,rE,↓reduceIte,Ab (show(j:Int)<(l.length:Int) by omega)]) (aH ?_));refine aj ?_;have hia:=hl.cw hj;have hld:=hl.ld hj;have hgd:l.getD j 0=l[j]:=by rw[Ae,Ad hj];rfl
  have htk:l.take (j+1)=l.take j++ [l.getD j 0]:=by rw[Cz,Ad hj,hgd];rfl
  have hmem:l.getD j 0∈l:=by rw[hgd];exact Ec hj
  generalize l.getD j 0=w at *;have w1:=dq j
  refine aC (aO (aC (aJ ?_)));refine eo p8 ?_;refine aY (e7 p0 p1 @aQ hia hld ?_);by_cases ho:z=w
  ·refine aN (by simp only[↓stU,aB,rE,↓reduceIte,Ab ho]) ?_;refine aY (aj ?_);refine aI (aj ?_);exact⟨_,rfl,⟨fun _=>by rw[ho];exact hmem,fun _=>au⟩⟩
  ·refine aM (by simp only[↓stU,aB,rE,↓reduceIte,Aa ho]) (aH ?_);try refine aj ?_
   refine aJ (er p8 w1 ?_);refine⟨k - 1,au,rfl,rfl,j+1,au,?_,by refine⟨?_,?_,?_,?_⟩<;>simp only[↓stU,aB,rE,↓reduceIte,p0,p1,p7]⟩;rw[htk];intro h;rcases Ct.1 h with h | h
   ·exact ha h
   ·simp at h;exact ho h
 ·refine aC (aM (by simp only[↓stU,aB,rE,↓reduceIte,Aa (show ¬ (j:Int)<(l.length:Int) by omega)]) (bD ?_));refine aj ?_;rw[Am au] at ha;refine aY (aj ?_);refine aI (aj ?_);exact⟨_,rfl,⟨fun h=>absurd h ay,fun h=>absurd h ha⟩⟩
theorem aD9{S:St}{v:AV}{l:bm}{z:Int}(H:Has fns)(hl:dE .i64 S v l)(hlen:l.length<=1000000):eR fns (.fn 113 [] []) [v,.int .i64 z] S fun r S'=>r= .bool (decide (z∈l))/\S'=S:=by
 refine bE H.f113 (by simp) ?_;refine aj ?_;refine aY (aj ?_);refine aY (aj ?_);refine aK (aj ?_);refine aG (aHk H hl hlen) ?_;rintro _ Y ⟨⟨j,rfl,hj⟩,hY⟩;rw[hY];have hd:decide ((0:Int)<=j)=decide (z∈l):=by rw[Cu,Er,Er];exact hj
 refine eo hd ?_;refine aI ?_;simp only[↓stU,aB,rE,↓reduceIte]
def aO6(l:bm)(a b:Nat):Prop:=∀i,a<i->i<b->¬l.getD i 0<l.getD (i - 1) 0
def aDD(l:bm):Prop:=aO6 l 0 l.length
def aRP(S:St)(v:AV)(l:bm)(k:Nat)(A:bK)(X:St):Prop:=A.inr=false/\Same S X/\∃i:Int,(k:Int)=max i 0/\ -1<=i/\i<max 1 (l.length:Int)/\aO6 l i.toNat l.length/\aD 0 A.F=v/\aD 3 A.F= .int .i64 i
theorem aG9{S:St}{v:AV}{l:bm}(H:Has fns)(hl:dE .i64 S v l)(hlen:l.length<=1000000):eR fns (.fn 114 [] []) [v] S fun r S'=>(∃t,r= .bool t/\(t=true↔aDD l))/\Same S S':=by
 refine bE H.f114 (by simp) ?_;refine aj ?_;refine aY (aj ?_);have w0:IntKind.i64.wrap ((l.length:Int) - 1)=(l.length:Int) - 1:=wrap_i64 au au;refine dS (eu hl.len @Ah w0 ?_);refine aO (bJ (aRP S v l) ?_ (l.length - 1) _ _ ⟨rfl,Same.refl S,(l.length:Int) - 1,au,au,au,fun i h1 h2=>au,by refine⟨?_,?_⟩<;>simp only[↓stU,aB,rE,↓reduceIte]⟩);rintro k ⟨F,inr⟩ X ⟨q0,hX,i,hik,hi1,hi2,hup,p0,p3⟩;simp only at q0 p0 p3;subst q0;have hlX:=hl.same hX;refine dS (eo p3 ?_);by_cases hi:0<i
 ·refine aN (by simp only[↓stU,aB,rE,↓reduceIte,Ab hi]) (aH ?_);try refine aj ?_
  obtain⟨n,rfl⟩:∃n:Nat,i=(n:Int):=⟨i.toNat,au⟩;have h1:n<l.length:=by omega
  have h0:n - 1<l.length:=by omega
  have w1:IntKind.i64.wrap ((n:Int) - 1)=((n - 1:Nat):Int):=by rw[wrap_i64 au au];omega
  have ia1:=hlX.cw h1;have ia0:=hlX.cw h0;have ld1:=hlX.ld h1;have ld0:=hlX.ld h0;have hself:=dE.self hl;obtain⟨b,hb⟩:∃b off cap o,v= .sl b off l.length cap o/\b<X.nx:=by
   rcases hlX with⟨h0,_⟩ | ⟨b,off,cap,o,cs,rfl,_,hb,_⟩
   ·rw[h0] at h1;simp at h1
   ·exact⟨b,off,cap,o,rfl,hb⟩
  obtain⟨off,cap,o,rfl,hbX⟩:=hb;simp only[nC] at ia1 ia0 ld1 ld0;refine aC (aO (aC (eM (fun _=>False) ?_)));intro S1 s1;simp only[↓sU,sD,rE,↓reduceIte,rA,p0,p3,aQ,ia1,w1,ia0,ld1,ld0,hbX,Ak];refine bH rfl ?_;refine ae ?_;refine aG (aKk H) ?_;rintro _ Y ⟨rfl,hY⟩;rw[hY];refine⟨Same.refl _,?_⟩;try refine ae ?_
  by_cases ho:l.getD n 0<l.getD (n - 1) 0
  ·refine aN (by simp only[↓sU,sD,rE,↓reduceIte,rA,Ab ho]) ?_;refine aY (ae ?_);refine aI (ae ?_);exact⟨⟨_,rfl,⟨fun h=>(by cases h),fun h=>absurd ho (h n au h1)⟩⟩,hX.trans s1⟩
  ·refine aM (by simp only[↓sU,sD,rE,↓reduceIte,rA,Aa ho]) (aH ?_);try refine ae ?_
   refine aJ (dk p3 w1 ?_);refine⟨k - 1,au,rfl,hX.trans s1,((n - 1:Nat):Int),au,au,au,fun j h1 h2=>?_,by refine⟨?_,?_⟩<;>simp only[↓sU,sD,rE,↓reduceIte,rA,p0]⟩;by_cases hj:j=n
   ·rw[hj];exact ho
   ·exact hup j au h2
 ·refine aM (by simp only[↓stU,aB,rE,↓reduceIte,Aa hi]) (bD ?_);refine aj ?_;refine aY (aj ?_);refine aI (aj ?_);exact⟨⟨_,rfl,⟨fun _ j h1 h2=>hup j au h2,fun _=>rfl⟩⟩,hX⟩
def mA:List fO->Nat->Nat->Nat
 | [],_,_=>0
 | x::l,s,i=>if x.kind=2/\x.info=(i:Int) then s+1 else mA l (s+1) i
def gN(g:aZ):bm:=(List.range g.b7.length).map fun i=>((mA g.bw 0 i:Nat):Int)
def cm(g:aZ)(i:Int):aG5:=g.b7.getD i.toNat ⟨0,0⟩
def mis(g:aZ)(x:fO):Prop:=x.kind=2/\¬ ((cm g x.info).player=x.player/\(cm g x.info).b9=(x.next.length:Int))
instance misDec(g:aZ)(x:fO):Decidable (mis g x):=by unfold mis;exact inferInstance
open Classical in
noncomputable def aA0(g:aZ):Int:=if ∃x∈g.bw,mis g x then 10 else if(0:Int)∈gN g then 18 else if aDD (gN g) then 0 else 9
def aFh(g:aZ):Prop:=∀x∈g.bw,x.kind=2->0<=x.info/\x.info<g.b7.length
theorem aMc(a b c d:Int):kH .neq (.struct [(0,.int),(1,.int)]) (.agg [.int .i64 a,.int .i64 b]) (.agg [.int .i64 c,.int .i64 d])=some (.bool (decide (¬ (a=c/\b=d)))):=by
 have k:∀y z:Int,eqp .int (.int .i64 y) (.int .i64 z)=some (decide (y=z)):=fun y z=>by
  show bM (keq .i64 .i64) (some (ieq y z)) none=_;rw[fQ,aP,mD];congr 1
 have e:eqv (.struct [(0,.int),(1,.int)]) (.agg [.int .i64 a,.int .i64 b]) (.agg [.int .i64 c,.int .i64 d])=some (decide (a=c/\b=d)):=by
  show eqs [(0,.int),(1,.int)] [.int .i64 a,.int .i64 b] [.int .i64 c,.int .i64 d]=_;unfold eqs;show(match eqp .int (.int .i64 a) (.int .i64 c) with | some true=>_ | some false=>_ | none=>_)=_;rw[k];by_cases h:a=c
  ·rw[Ab h];unfold eqs;show(match eqp .int (.int .i64 b) (.int .i64 d) with | some true=>_ | some false=>_ | none=>_)=_;rw[k];by_cases h2:b=d
   ·rw[Ab h2,Ab ⟨h,h2⟩];rfl
   ·rw[Aa h2,Aa (fun h3=>h2 h3.2)]
  ·rw[Aa h,Aa (fun h3=>h h3.1)]
 show aU (eqv (.struct [(0,.int),(1,.int)]) _ _) _=_;rw[e,aL];congr 2;by_cases h:a=c/\b=d
 ·rw[Ab h,Aa (fun h2=>h2 h)];rfl
 ·rw[Aa h,Ab h];rfl
def aPr(S:St)(wb fb:Nat)(g:aZ)(k:Nat)(A:bK)(X:St):Prop:=A.inr=false/\Same S X/\∃F:bm,k<=g.bw.length/\F.length=g.b7.length/\(∀j,j<g.b7.length->F.getD j 0=((mA (g.bw.drop k) k j:Nat):Int))/\X.h.get fb=some (.cells (bC F) false 0)/\fb<X.nx/\
 aD 0 A.F= .ptr wb 0/\aD 3 A.F= .sl fb 0 g.b7.length g.b7.length false/\aD 4 A.F= .int .i64 ((k:Int) - 1)
def aQE(S1:St)(wb:Nat)(fv nv:AV)(g:aZ)(k:Nat)(A:bK)(X:St):Prop:=A.inr=false/\Same S1 X/\∃i,i+k=g.bw.length/\(∀x∈g.bw.take i,¬mis g x)/\aD 0 A.F= .ptr wb 0/\aD 3 A.F=fv/\aD 47 A.F=nv/\aD 48 A.F= .int .i64 (g.bw.length:Int)/\aD 49 A.F= .int .i64 (i:Int)
theorem aJN{S:St}{wb:Nat}{ps:Int}{nv iv pv dv lv:AV}{g:aZ}(H:Has fns)(hW:aA1 S wb ps nv iv pv dv lv)(hn:aW 6 cI S nv g.bw)(hi:aW 2 eT S iv g.b7)(hN:g.bw.length<=2000)(hI:g.b7.length<=200)(hok:aFh g):
  eR fns (.fn 94 [] []) [.ptr wb 0] S fun r S'=>r= .int .i64 (aA0 g)/\Same S S':=by
 refine bE H.f94 (by simp) ?_;refine ap ?_;refine aY (ap ?_);refine aY ?_;simp only[↓stU,aB,rE,↓reduceIte,rA,cE,cF,aF,aE,dT hW.1,hi.len];refine nJ (kZ (n:=g.b7.length) (by simp only[↓stU,aB,rE,↓reduceIte,rA,aQ]) (by simp only[↓stU,aB,rE,↓reduceIte,rA,aQ]) ax ax) ?_;intro S1 s1 n1 c1;refine ap ?_;have hz:repeatL [AV.int .i64 0] g.b7.length=bC (List.replicate g.b7.length 0):=by rw[repeatL_one];simp [bC]
 rw[hz] at c1;have hW1:=hW.same s1;have w0:IntKind.i64.wrap ((g.bw.length:Int) - 1)=(g.bw.length:Int) - 1:=wrap_i64 au au;refine aC (aX (Q:=fun o A' X=>o= .normal/\aPr S wb S.nx g 0 A' X) (aC (aJ ?_)) ?_)
 ·simp only[↓stU,aB,rE,↓reduceIte,rA,cE,cF,aF,aE,eI hW1.1,hn.len,w0];refine aO (bJ (aPr S wb S.nx g) ?_ g.bw.length _ _ ⟨rfl,s1,_,Af _,Bu ..,fun j hj=>?_,c1,au,by refine⟨?_,?_,?_⟩<;>simp only[↓stU,aB,rE,↓reduceIte,rA]⟩);rotate_left
  ·rw[Bw (Af _),Ae,Fu];split<;>rfl
  rintro k ⟨F,inr⟩ X ⟨q0,hX,Fl,hkN,hFl,hF,hfb,hfbX,p0,p3,p4⟩;simp only at q0 p0 p3 p4;subst q0;refine dS (d9 p4 ?_);by_cases hk:0<k
  ·refine aN (by simp only[↓stU,aB,rE,↓reduceIte,rA,Ab (show(0:Int)<=(k:Int) - 1 by omega)]) (aH ?_);try refine ap ?_
   have e1:(k:Int) - 1=((k - 1:Nat):Int):=by omega
   rw[e1] at p4;have hlt:k - 1<g.bw.length:=by omega
   obtain⟨x,hx⟩:∃x,g.bw[k - 1]? =some x:=⟨_,Ad hlt⟩;have hxm:=Cg hx;have hWX:=hW.same hX;obtain⟨e,b,q,hia,hb,he,⟨a,bb,cc,rfl,ha,hbb,hcc⟩,hag,_⟩:=aW.at (aW.same (E:=cI) bT hn hX) ay hx;have hdrop:g.bw.drop (k - 1)=x::g.bw.drop k:=by
    rw[Bo hlt,show k - 1+1=k by omega];congr 1;rw[Ad hlt] at hx;exact Bz hx
   have w1:IntKind.i64.wrap (((k - 1:Nat):Int)+1)=(k:Int):=by rw[wrap_i64 au au];omega
   have w2:IntKind.i64.wrap (((k - 1:Nat):Int) - 1)=((k - 1:Nat):Int) - 1:=wrap_i64 au au;refine aC (aO (aC (aJ ?_)));simp only[↓stU,aB,rE,↓reduceIte,rA,p0,p4,cE,cF,aF,aE,eI hWX.1,aQ,hia,hag];refine bY ?_;intro X1 x1 m1 d1;refine cR (b:=X.nx) (aq) (by refine ap ?_;exact aR _) d1 rfl rfl ?_;intro X2 x2 m2 d2;refine ap ?_;have hX2:Same X X2:=x2.same x1 (Af _);have hfb2:X2.h.get S.nx=some (.cells (bC Fl) false 0):=by rw[hX2.2 _ hfbX];exact hfb
   refine aY (ed @aF @aE (iY d2) ?_);have hfin:∀ (G:Fr) (Y:St) (Fl':bm),aD 0 G= .ptr wb 0->aD 3 G= .sl S.nx 0 g.b7.length g.b7.length false->aD 4 G= .int .i64 ((k - 1:Nat):Int)->Same S Y->Fl'.length=g.b7.length->(∀j,j<g.b7.length->Fl'.getD j 0=((mA (g.bw.drop (k - 1)) (k - 1) j:Nat):Int))->Y.h.get S.nx=some (.cells (bC Fl') false 0)->S.nx<Y.nx->pA fns [mt 24 4,oq 25 (bi .sub (.t 24) (ci 1)),mt 4 25] G Y fun F' S'=>∃k',k'<k/\aPr S wb S.nx g k' ⟨F',false⟩ S':=fun G Y Fl' g0 g3 g4 hY h1 h2 h3 h4=>by
    refine ec g4 w2 ?_;exact⟨k - 1,au,rfl,hY,Fl',au,h1,h2,h3,h4,by refine⟨?_,?_,?_⟩<;>simp only[↓stU,aB,rE,↓reduceIte,rA,g0,g3]⟩
   by_cases hk2:x.kind=2
   ·refine aN (by simp only[↓stU,aB,rE,↓reduceIte,rA,Ab hk2]) ?_;have⟨i0,i1⟩:=hok x hxm hk2;obtain⟨n,hn'⟩:∃n:Nat,x.info=(n:Int):=⟨x.info.toNat,au⟩;have hni:n<g.b7.length:=by omega
    rw[hn'] at d2;have hif:=iB (b:=S.nx) (o:=false) hni;refine aJ ?_;simp only[↓stU,aB,rE,↓reduceIte,rA,p0,p3,p4,aF,aE,dT d2,w1,aQ,hif];refine gB (fun call=>by refine ec @eC @cH ?_;exact aCc (S:=X2) hfb2 (by rw[hFl];exact hni)) ?_;refine ap ?_;refine aJ ?_;refine aDN (hfin _ _ (Fl.set n (k:Int)) (ar p0) (ar p3) (ar p4) (((hX.trans hX2)).put (Af _) _) (by rw[Dm];exact hFl) (fun j hj=>?_) fc (by simp only;omega)) fun F' S' hh=>hh;rw[kV (by rw[hFl];exact hni),hdrop,hF j hj];simp only[mA];by_cases hjn:j=n
    ·rw[if_pos hjn,if_pos ⟨hk2,by rw[hn',hjn]⟩];omega
    ·rw[if_neg hjn,if_neg (fun h=>hjn au),show k - 1+1=k by omega]
   ·refine aM (by simp only[↓stU,aB,rE,↓reduceIte,rA,Aa hk2]) (aH ?_);try refine ap ?_
    refine aJ ?_;refine aDN (hfin _ X2 Fl (ar p0) (ar p3) (ar p4) (hX.trans hX2) hFl (fun j hj=>?_) hfb2 au) fun F' S' hh=>hh;rw[hdrop,hF j hj];simp only[mA];rw[if_neg (fun h=>hk2 h.1),show k - 1+1=k by omega]
  ·refine aM (by simp only[↓stU,aB,rE,↓reduceIte,rA,Aa (show ¬ (0:Int)<=(k:Int) - 1 by omega)]) (bD ?_);refine ap ?_;have hk0:k=0:=by omega
   subst hk0;exact⟨rfl,hX,Fl,hkN,hFl,hF,hfb,hfbX,by refine⟨?_,?_,?_⟩<;>simp only[↓stU,aB,rE,↓reduceIte,rA,p0,p3,p4]⟩
 rintro o ⟨F,inr⟩ S2 ⟨rfl,q0,s2,Fl,_,hFl,hF,hfb,hfb2,p0,p3,p4⟩;simp only at q0 p0 p3 p4;subst q0;have hFeq:Fl=gN g:=by
  unfold gN;refine List.ext_getElem (by simp [hFl]) fun j j1 j2=>?_;have h1:=hF j au;rw[Ae,Ad j1,Dd] at h1;rw[List.getElem_map,List.getElem_range];exact h1
 subst hFeq;have hW2:=hW.same s2;have hn2:=aW.same (E:=cI) bT hn s2;have hi2:=aW.same (E:=eT) dH hi s2;try refine ap ?_
 refine aC (aX (Q:=fun o A' X=>(o= .normal/\aQE S2 wb (.sl S.nx 0 g.b7.length g.b7.length false) nv g 0 A' X)\/(o= .ret/\Same S2 X/\(∃x∈g.bw,mis g x)/\aD 2 A'.F= .int .i64 10)) (aC (aJ ?_)) ?_)
 ·simp only[↓stU,aB,rE,↓reduceIte,rA,p0,cE,cF,aF,aE,eI hW2.1,hn2.len];refine aO (bJ (aQE S2 wb (.sl S.nx 0 g.b7.length g.b7.length false) nv g) ?_ g.bw.length _ _ ⟨rfl,Same.refl _,0,au,fun x hx=>(by simp at hx),by refine⟨?_,?_,?_,?_,?_⟩<;>simp only[↓stU,aB,rE,↓reduceIte,rA,p0,p3]⟩);clear p0 p3 p4;rintro k ⟨F,inr⟩ X ⟨q0,hX,i,hik,hm,p0,p3,p47,p48,p49⟩;simp only at q0 p0 p3 p47 p48 p49;subst q0;refine aY (ec p48 p49 ?_);by_cases hlt:i<g.bw.length
  ·refine aC (aN (by simp only[↓stU,aB,rE,↓reduceIte,rA,Ab (show(i:Int)<(g.bw.length:Int) by omega)]) (aH ?_));refine ap ?_;obtain⟨x,hx⟩:∃x,g.bw[i]? =some x:=⟨_,Ad hlt⟩;have hxm:=Cg hx;obtain⟨e,b,q,hia,hb,he,⟨a,bb,cc,rfl,ha,hbb,hcc⟩,hag,_⟩:=aW.at (aW.same (E:=cI) bT hn2 hX) ay hx;have w1:=dq i
   refine aC (aO (aC (aJ ?_)));refine eh p47 p49 @aQ hia hag ?_;refine bY ?_;intro X1 x1 m1 d1;refine cR (b:=X.nx) (aq) (by refine ap ?_;exact aR _) d1 rfl rfl ?_;intro X2 x2 m2 d2;refine ap ?_;have hX2:Same X X2:=x2.same x1 (Af _);have hS2X:=hX.trans hX2;have hWX:=hW2.same hS2X;have hla:=(ha.same hX2).len;have hsa:=dE.self ha;have hsi:=aW.self hi;refine aC (aX (Q:=fun o A' Y=>o= .normal/\A'.inr=false/\Same X2 Y/\aD 0 A'.F= .ptr wb 0/\aD 3 A'.F= .sl S.nx 0 g.b7.length g.b7.length false/\aD 47 A'.F=nv/\aD 48 A'.F= .int .i64 (g.bw.length:Int)/\aD 49 A'.F= .int .i64 (i:Int)/\aD 73 A'.F= .bool (decide (mis g x))) (jA ?_) ?_)
   ·by_cases hk2:x.kind=2
    ·have⟨i0,i1⟩:=hok x hxm hk2;obtain⟨n,hn'⟩:∃n:Nat,x.info=(n:Int):=⟨x.info.toNat,au⟩;have hni:n<g.b7.length:=by omega
     obtain⟨y,hy⟩:∃y,g.b7[n]? =some y:=⟨_,Ad hni⟩;obtain⟨e',b',q',hia',hb',he',rfl,hag',_⟩:=aW.at (aW.same (E:=eT) dH hi2 hS2X) ay hy;have hya:cm g x.info=y:=by unfold cm;rw[hn',Ae,show((n:Int)).toNat=n from rfl,hy];rfl
     have hmis:decide (mis g x)=decide (¬ (y.player=x.player/\y.b9=(x.next.length:Int))):=by
      rw[Cu,Er,Er];unfold mis;rw[hya];exact⟨fun h=>h.2,fun h=>⟨hk2,h⟩⟩
     rw[hmis];rw[hn'] at d2;have hs2:cC (.agg [.int .i64 y.player,.int .i64 y.b9]) (.agg [.int .i64 y.player,.int .i64 y.b9])=true:=aKz (fS ..) (fS ..);simp only[↓stU,aB,rE,↓reduceIte,rA,p0,p3,p47,p48,p49,cE,dL,cF,aF,aV,aE,iY d2,eI d2,dT d2,dV d2,dT hWX.1,aQ,hia',hag',hla,hsa,hsi,hs2,Ah,iC,aPm,cH,aMc,Ab hk2];exact Same.nx _ _
    ·rw[Aa (show ¬mis g x from fun h=>hk2 h.1)];simp only[↓stU,aB,rE,↓reduceIte,rA,p0,p3,p47,p48,p49,aF,aV,aE,iY d2,Aa hk2];exact Same.nx _ _
   clear p0 p3 p47 p48 p49;rintro o ⟨F,inr⟩ Y ⟨rfl,q0,hY,p0,p3,p47,p48,p49,pb⟩;simp only at q0 p0 p3 p47 p48 p49 pb;subst q0;have hS2Y:=hS2X.trans hY;try refine ap ?_
   by_cases hmx:mis g x
   ·refine aN (by simp only[↓stU,aB,rE,↓reduceIte,rA,pb,Ab hmx]) ?_;refine aY (ap ?_);refine aI (ap ?_);exact .inr ⟨hS2Y,x,hxm,hmx⟩
   ·refine aM (by simp only[↓stU,aB,rE,↓reduceIte,rA,pb,Aa hmx]) (aH ?_);try refine ap ?_
    refine aJ (ec p49 w1 ?_);refine⟨k - 1,au,rfl,hS2Y,i+1,au,fun y hy=>?_,by refine⟨?_,?_,?_,?_,?_⟩<;>simp only[↓stU,aB,rE,↓reduceIte,rA,p0,p3,p47,p48]⟩;rw[Cz,hx] at hy;rcases Ct.1 hy with h | h
    ·exact hm y h
    ·simp at h;rw[h];exact hmx
  ·refine aC (aM (by simp only[↓stU,aB,rE,↓reduceIte,rA,Aa (show ¬ (i:Int)<(g.bw.length:Int) by omega)]) (bD ?_));refine ap ?_;have hk0:k=0:=by omega
   subst hk0;exact .inl ⟨rfl,hX,i,hik,hm,by refine⟨?_,?_,?_,?_,?_⟩<;>simp only[↓stU,aB,rE,↓reduceIte,rA,p0,p3,p47,p48,p49]⟩
 clear p0 p3 p4;rintro o ⟨F,inr⟩ X (⟨rfl,q0,hX,i,hik,hm,p0,p3,p47,p48,p49⟩ | ⟨rfl,hX,hmx,p2⟩);rotate_left
 ·simp only at p2;simp only[↓stU,aB,rE,↓reduceIte,rA,p2];unfold aA0;rw[if_pos hmx];exact⟨rfl,s2.trans hX⟩
 simp only at q0 p0 p3;subst q0;rw[Am au] at hm;unfold aA0;rw[if_neg (fun⟨x,h1,h2⟩=>hm x h1 h2)];have sX:=s2.trans hX;have hfX:X.h.get S.nx=some (.cells (bC (gN g)) false 0):=by rw[hX.2 _ hfb2];exact hfb
 have hrow:=aH6 (N:=g.b7.length) hfX (Ag hfb2 hX.1) hFl;try refine ap ?_
 refine dS (d9 p3 ?_);refine aK (ap ?_);refine aG (aD9 H hrow au) ?_;rintro _ Y ⟨rfl,hY⟩;rw[hY];try refine ap ?_
 by_cases h0:(0:Int)∈gN g
 ·rw[if_pos h0];refine aN (by simp only[↓stU,aB,rE,↓reduceIte,rA,Ab h0]) ?_;refine aY (ap ?_);refine aI (ap ?_);exact sX
 rw[if_neg h0];refine aM (by simp only[↓stU,aB,rE,↓reduceIte,rA,Aa h0]) (aH ?_);try refine ap ?_
 refine dS (d9 p3 ?_);refine aK (ap ?_);refine aG (aG9 H hrow au) ?_;rintro _ Y ⟨⟨t,rfl,ht⟩,hY⟩;refine d9 @pV ?_;cases t with
 | false=>
  rw[if_neg (fun h=>by have:=ht.2 h;cases this)];refine aN (by simp only[↓stU,aB,rE,↓reduceIte,rA];rfl) ?_;refine aY (ap ?_);refine aI (ap ?_);exact sX.trans hY
 | true=>
  rw[if_pos (ht.1 rfl)];refine aM (by simp only[↓stU,aB,rE,↓reduceIte,rA];rfl) (aH ?_);try refine ap ?_
  refine aY (ap ?_);refine aI (ap ?_);exact sX.trans hY
def mG(g:aZ):Prop:=g.b8<1\/(4:Int)<g.b8\/(g.bw.length:Int)<1\/(2000:Int)<(g.bw.length:Int)\/(200:Int)<(g.b7.length:Int)
instance badGDec(g:aZ):Decidable (mG g):=by unfold mG;exact inferInstance
def kU(ps:Int)(ni:Nat):List fO->Int
 | []=>0
 | x::l=>if iZ ps ni x≠0 then iZ ps ni x else kU ps ni l
def lL(g:aZ):Option (List dG):=gD g.bw.length (fJ g) (g.bw.length+1) 0 (-1) 0
noncomputable def dJ(g:aZ):Int:=
 if mG g then 2 else if kU g.b8 g.b7.length g.bw≠0 then kU g.b8 g.b7.length g.bw else
 match lL g with
 | none=>9
 | some T=>if T.length≠g.bw.length then 9 else if 40<xZ 0 T then 5 else aA0 g
theorem jR{ps:Int}{ni:Nat}:∀ {l:List fO},kU ps ni l=0->∀x∈l,iZ ps ni x=0
 | [],_,x,hx=>by cases hx
 | y::l,h,x,hx=>by
  simp only[kU] at h;split at h
  ·rename_i hne;exact absurd h hne
  ·rename_i he;rcases Br.1 hx with rfl | hx
   ·exact Ha.1 he
   ·exact jR h x hx
theorem aBG{ps:Int}{ni:Nat}{x:fO}(h:iZ ps ni x=0):x.next.length<=1000:=by
 unfold iZ at h;split at h
 ·split at h
  ·cases h
  ·rename_i hb;unfold mZ at hb;omega
 ·split at h
  ·split at h
   ·cases h
   ·rename_i hb;unfold xY at hb;omega
  ·split at h
   ·split at h
    ·cases h
    ·rename_i hb;unfold oI at hb;omega
   ·cases h
theorem aBy{ps:Int}{ni:Nat}{x:fO}(h:iZ ps ni x=0)(h2:x.kind=2):0<=x.info/\x.info<ni:=by
 unfold iZ at h;rw[if_neg au,if_pos h2] at h;split at h
 ·cases h
 ·split at h
  ·cases h
  ·omega
theorem stc{S:St}{b p:Nat}{w:AV}{cs:bo}{o:Bool}{sz:Nat}(h:S.h.get b=some (.cells cs o sz))(hp:p<cs.length):oT (.ptr b p) 1 [w] S=some (.undef,⟨S.h.set b (some (.cells (cs.set p w) o sz)),S.nx⟩):=by
 have hput:put cs p [w]=some (cs.set p w):=by
  rw[put_eq,if_pos (by simp;omega)];congr 1;rw[Eu,if_pos hp];simp
 simp only[oT,lN,h,aL,qA,hput];rfl
theorem aDx{W:Nat->Prop}{h0 h':T AB}{base m i:Nat}{l:List AO}{F:Fr}{S:St}{ps ps':List kQ}{last:Option Nat}{Q:Fr->St->List kQ->Prop}{x v:cL}{b p sz:Nat}{w:AV}{cs:bo}{o:Bool}(hfl:cA m ps S.h=(ps',h'))(h:nL last m=true)(hx:x.val F= .ptr b p)(hv:(v.val F).cells=some [w])(hb:h'.get b=some (.cells cs o sz))(hp:p<cs.length)(hW:W b)
  (hr:iD fns W h0 base l (i+1) F ⟨h'.set b (some (.cells (cs.set p w) o sz)),S.nx⟩ ps' (some i) Q):iD fns W h0 base (⟨none,.x (.st 1 x v),none,m⟩::l) i F S ps last Q:=by
 refine aFt (S1:=⟨h'.set b (some (.cells (cs.set p w) o sz)),S.nx⟩) h ?_ ?_ ?_
 ·rw[hfl,hv,aL,hx];exact stc (S:=⟨h',S.nx⟩) hb hp
 ·rw[hfl];refine⟨Af _,fun c hc hw=>?_⟩;simp only;rw[dr,if_neg (show ¬c=b from fun e=>hw (by rw[e];exact hW))]
 ·rw[hfl];exact hr
theorem rJ{h:T AB}{b:Nat}{x0 x1 x2:AV}{o:Bool}{s:Nat}(hb:h.get b=some (.cells [x0,x1,x2] o s)):cT (.ptr b (0+0)) false 1 h=some x0:=ldc hb rfl
theorem fG{h:T AB}{b:Nat}{x0 x1 x2:AV}{o:Bool}{s:Nat}(hb:h.get b=some (.cells [x0,x1,x2] o s)):cT (.ptr b (0+1)) false 1 h=some x1:=ldc hb rfl
theorem mU{h:T AB}{b:Nat}{x0 x1 x2:AV}{o:Bool}{s:Nat}(hb:h.get b=some (.cells [x0,x1,x2] o s)):cT (.ptr b (0+2)) false 1 h=some x2:=ldc hb rfl
theorem gR{h:T AB}{b:Nat}{x0 x1 x2:AV}{o:Bool}{s:Nat}(hb:h.get b=some (.cells [x0,x1,x2] o s)):cT (.ptr b 0) true 3 h=some (.agg [x0,x1,x2]):=pX hb rfl
theorem zT{m j id:Nat}{bl:AB}{ps:List kQ}{h:T AB}(ht:Nat.testBit m j=false):cA m (⟨j,id,bl⟩::ps) h=(⟨j,id,bl⟩::(cA m ps h).1,(cA m ps h).2):=by
 conv=>lhs;unfold cA
 rw[show Nat.testBit m (kQ.mk j id bl).i=false from ht,aS]
theorem aDC{m j id:Nat}{bl:AB}{ps:List kQ}{h:T AB}(ht:Nat.testBit m j=true):cA m (⟨j,id,bl⟩::ps) h=cA m ps (h.set id (some bl)):=by
 conv=>lhs;unfold cA
 rw[show Nat.testBit m (kQ.mk j id bl).i=true from ht,aP]
theorem aCN{W:Nat->Prop}{h0:T AB}{base i:Nat}{l:List AO}{F:Fr}{S:St}{ps:List kQ}{last:Option Nat}{Q:Fr->St->List kQ->Prop}{d:Option Nat}{t s bytes n:Nat}{z:bo}{lo co:cL}(hl:dY (lo.val F)=some n)(hc:dY (co.val F)=some n)(h1:n<=room)(h2:bytes * n<=room)
  (hr:iD fns W h0 base l (i+1) (cB d F (.sl (base+i) 0 n n false)) S (⟨i,base+i,.cells (repeatL z n) false 0⟩::ps) last Q):aJz fns W h0 base (vC (.di t s bytes z lo co) F (base+i)) d l i F S ps last Q:=by
 rw[kZ hl hc h1 h2,nI];exact hr
theorem iL.full{sel:dG->Int}{P P':bm}{T:List dG}(h:iL sel P P' T 0)(hl:T.length=P.length):P'=T.map sel:=by
 refine List.ext_getElem (by rw[Bc,h.1,hl]) fun j j1 j2=>?_;have h1:=h.2 j;rw[Bc] at j2;unfold vP at h1;rw[if_pos (Ey _),Gm,Ad j2,Ae,Ad j1] at h1;rw[List.getElem_map];exact h1
theorem aIF{g:aZ}{T:List dG}(h:lL g=some T):∃e L,T=(-1,0,e)::L:=by
 unfold lL at h;simp only[gD] at h;split at h
 ·obtain⟨L,_,rfl⟩:=An.1 h;exact⟨_,_,rfl⟩
 ·cases h
theorem aLU(m:Int)(L:List dG):aH5 m (L.map (·.2.1))=xZ m L:=by
 unfold aH5 xZ;rw[List.foldl_map]
theorem aNk{P:T AB->Prop}{h:T AB}{w b1 b2 b3:Nat}{c1 c2 c3 z:Option AB}(n1:w≠b1)(n2:w≠b2)(n3:w≠b3)(n4:b1≠b2)(n5:b1≠b3)(n6:b2≠b3)
  (H:∀h':T AB,h'.get w=c3->h'.get b1=z->h'.get b2=z->h'.get b3=z->(∀c,c≠w->c≠b1->c≠b2->c≠b3->h'.get c=h.get c)->P h'):P ((((((h.set b1 z).set w c1).set b2 z).set w c2).set b3 z).set w c3):=by
 refine H _ ?_ ?_ ?_ ?_ fun c h1 h2 h3 h4=>?_
 ·rw[dr,if_pos rfl]
 ·rw[dr,if_neg (Eg n1),dr,if_neg n5,dr,if_neg (Eg n1),dr,if_neg n4,dr,if_neg (Eg n1),dr,if_pos rfl]
 ·rw[dr,if_neg (Eg n2),dr,if_neg n6,dr,if_neg (Eg n2),dr,if_pos rfl]
 ·rw[dr,if_neg (Eg n3),dr,if_pos rfl]
 ·rw[dr,if_neg h1,dr,if_neg h4,dr,if_neg h1,dr,if_neg h3,dr,if_neg h1,dr,if_neg h2]
def aQH(S2:St)(gb wb:Nat)(nv:AV)(g:aZ)(k:Nat)(A:bK)(X:St):Prop:=A.inr=false/\Same S2 X/\∃i,i+k=g.bw.length/\kU g.b8 g.b7.length g.bw=kU g.b8 g.b7.length (g.bw.drop i)/\aD 1 A.F= .ptr gb 0/\aD 4 A.F= .ptr wb 0/\aD 40 A.F=nv/\aD 41 A.F= .int .i64 (g.bw.length:Int)/\aD 42 A.F= .int .i64 (i:Int)
def aPj(S S':St)(p nv iv:AV)(g:aZ):Prop:=∃ (wb pb db lb:Nat) (T:List dG),p= .ptr wb 0/\S.nx<=wb/\lL g=some T/\T.length=g.bw.length/\WK S' wb pb db lb g.bw.length g.b8 nv iv (T.map (·.1)) (T.map (·.2.1)) (T.map (·.2.2))
theorem aGY{S:St}{nv iv:AV}{g:aZ}(H:Has fns)(hn:aW 6 cI S nv g.bw)(hi:aW 2 eT S iv g.b7)(hln:g.bw.length<=100000):
  eR fns (.fn 71 [] []) [.agg [.int .i64 g.b8,nv,iv]] S fun r S'=>Same S S'/\∃p,r= .tup [p,.int .i64 (dJ g)]/\(dJ g=0->aPj S S' p nv iv g):=by
 refine bE H.f71 (by simp) ?_;refine ae ?_;refine aY ?_;refine bW (by refine ae ?_;exact aR _) ?_;intro S1 s1 n1 c1;refine ae ?_;have hnl:=hn.len;have hil:=hi.len;refine aC (aC (aX (Q:=fun o A' X=>o= .normal/\A'.inr=false/\X=S1/\aD 1 A'.F= .ptr S.nx 0/\aD 35 A'.F= .bool (decide (mG g))) (aJ ?_) ?_))
 ·by_cases h1:g.b8<1
  ·rw[Ab (show mG g from .inl h1)];simp only[↓sU,sD,rE,↓reduceIte,rA,aF,aE,rJ c1,fG c1,mU c1,hnl,hil,Ab h1]
  by_cases h2:(4:Int)<g.b8
  ·rw[Ab (show mG g from .inr (.inl h2))];simp only[↓sU,sD,rE,↓reduceIte,rA,aF,aE,rJ c1,fG c1,mU c1,hnl,hil,Aa h1,Ab h2]
  by_cases h3:(g.bw.length:Int)<1
  ·rw[Ab (show mG g from .inr (.inr (.inl h3)))];simp only[↓sU,sD,rE,↓reduceIte,rA,aF,aE,rJ c1,fG c1,mU c1,hnl,hil,Aa h1,Aa h2,Ab h3]
  by_cases h4:(2000:Int)<(g.bw.length:Int)
  ·rw[Ab (show mG g from .inr (.inr (.inr (.inl h4))))];simp only[↓sU,sD,rE,↓reduceIte,rA,aF,aE,rJ c1,fG c1,mU c1,hnl,hil,Aa h1,Aa h2,Aa h3,Ab h4]
  by_cases h5:(200:Int)<(g.b7.length:Int)
  ·rw[Ab (show mG g from .inr (.inr (.inr (.inr h5))))];simp only[↓sU,sD,rE,↓reduceIte,rA,aF,aE,rJ c1,fG c1,mU c1,hnl,hil,Aa h1,Aa h2,Aa h3,Aa h4,Ab h5]
  ·rw[Aa (show ¬mG g by unfold mG;omega)];simp only[↓sU,sD,rE,↓reduceIte,rA,aF,aE,rJ c1,fG c1,mU c1,hnl,hil,Aa h1,Aa h2,Aa h3,Aa h4,Aa h5]
 rintro o ⟨F,inr⟩ X ⟨rfl,q0,hX,p1,pb⟩;simp only at q0 p1 pb;subst q0;rw[hX];clear hX;try refine ae ?_
 by_cases bad:mG g
 ·have hE:dJ g=2:=by unfold dJ;rw[if_pos bad]
  rw[hE];refine aN (by simp only[↓sU,sD,rE,↓reduceIte,rA,pb,Ab bad]) ?_;refine aY (ae ?_);refine aI (ae ?_);exact⟨s1,_,rfl,fun h=>by cases h⟩
 refine aM (by simp only[↓sU,sD,rE,↓reduceIte,rA,pb,Aa bad]) (aH ?_);try refine ae ?_
 have hps:1<=g.b8/\g.b8<=4:=by unfold mG at bad;omega
 have hN:g.bw.length<=2000:=by unfold mG at bad;omega
 have hN0:0<g.bw.length:=by unfold mG at bad;omega
 have hI:g.b7.length<=200:=by unfold mG at bad;omega
 have hbd:∀ (F:Fr) (h:T AB),aD 36 F= .agg [.int .i64 g.b8,nv,iv]->jK (.build [.int .i64 0,.cd,.cd,.cd,.cd,.cd] [(0,3,.t 36)]) F h=some (.agg [.int .i64 g.b8,nv,iv,.cd,.cd,.cd]):=fun F h he=>by
  show(aU (iJ _ (iI F [(0,3,.t 36)])) fun cs=>some (AV.agg cs))=_;simp only[iI,show(cL.t 36).val F= .agg [.int .i64 g.b8,nv,iv] from he];rfl
 refine aY (ed p1 (gR c1) hbd ?_);refine bW (by refine aj ?_;exact aR _) ?_;intro S2 s2 n2 c2;refine ae ?_;have sS2:Same S S2:=s1.trans s2;have hW:aA1 S2 S1.nx g.b8 nv iv .cd .cd .cd:=⟨c2,au⟩;have hn2:=aW.same (E:=cI) bT hn sS2;have gl2:S.nx<S2.nx:=by omega
 have c1':S2.h.get S.nx=some (.cells [.int .i64 g.b8,nv,iv] false 0):=by rw[s2.2 _ au];exact c1
 refine aC (aX (Q:=fun o A' X=>(o= .normal/\aQH S2 S.nx S1.nx nv g 0 A' X)\/(o= .ret/\Same S2 X/\kU g.b8 g.b7.length g.bw≠0/\aD 2 A'.F= .nilp/\aD 3 A'.F= .int .i64 (kU g.b8 g.b7.length g.bw))) (aC (aJ ?_)) ?_)
 ·refine dx p1 @aF @aE (fG c1') hnl ?_;refine aO (bJ (aQH S2 S.nx S1.nx nv g) ?_ g.bw.length _ _ ⟨rfl,Same.refl _,0,au,by rw[Dd],by refine⟨?_,?_,?_,?_,?_⟩<;>simp only[↓sU,sD,rE,↓reduceIte,rA,p1]⟩);clear p1 pb;rintro k ⟨F,inr⟩ X ⟨q0,hX,i,hik,hE,p1,p4,p40,p41,p42⟩;simp only at q0 p1 p4 p40 p41 p42;subst q0;refine aY (dk p41 p42 ?_);by_cases hlt:i<g.bw.length
  ·refine aC (aN (by simp only[↓sU,sD,rE,↓reduceIte,rA,Ab (show(i:Int)<(g.bw.length:Int) by omega)]) (aH ?_));refine ae ?_;obtain⟨x,hx⟩:∃x,g.bw[i]? =some x:=⟨_,Ad hlt⟩;have⟨e,b,q,hia,hb,he,hNE,hag,_⟩:=aW.at (aW.same (E:=cI) bT hn2 hX) ay hx;have hdrop:g.bw.drop i=x::g.bw.drop (i+1):=by
    rw[Bo hlt];congr 1;rw[Ad hlt] at hx;exact Bz hx
   have w1:=dq i
   refine aC (aO (aC (aJ ?_)));refine eh p40 p42 @aQ hia hag ?_;refine bY ?_;intro X1 x1 m1 d1;refine cR (b:=X.nx) (aq) (by refine ap ?_;exact aR _) d1 rfl he ?_;intro X2 x2 m2 d2;refine ap ?_;have hX2:Same X X2:=x2.same x1 (Af _);refine aY (dk p4 (pX d2 he) ?_);refine aK (ae ?_);refine aG (aKf H (bT hNE hX2) (hW.same (hX.trans hX2)) hps hil au (aW.self hi)) ?_;rintro _ Y ⟨rfl,hY⟩;have hSY:=(hX.trans hX2).trans hY;rw[hdrop] at hE;simp only[kU] at hE;try refine ae ?_
   refine aY (ae ?_);by_cases he0:iZ g.b8 g.b7.length x=0
   ·rw[if_neg (fun h=>h he0)] at hE;refine aM (by simp only[↓sU,sD,rE,↓reduceIte,rA,Aa (show ¬iZ g.b8 g.b7.length x≠0 from fun h=>h he0)]) (aH ?_);try refine ae ?_
    refine aJ (dk p42 w1 ?_);exact⟨k - 1,au,rfl,hSY,i+1,au,hE,by refine⟨?_,?_,?_,?_,?_⟩<;>simp only[↓sU,sD,rE,↓reduceIte,rA,p1,p4,p40,p41]⟩
   ·rw[if_pos he0] at hE;refine aN (by simp only[↓sU,sD,rE,↓reduceIte,rA,Ab (show iZ g.b8 g.b7.length x≠0 from he0)]) ?_;refine aY (ae ?_);refine aI (ae ?_);exact .inr ⟨hSY,by rw[hE];exact he0,by rw[hE]⟩
  ·refine aC (aM (by simp only[↓sU,sD,rE,↓reduceIte,rA,Aa (show ¬ (i:Int)<(g.bw.length:Int) by omega)]) (bD ?_));refine ae ?_;have hk0:k=0:=by omega
   subst hk0;exact .inl ⟨rfl,hX,i,hik,hE,by refine⟨?_,?_,?_,?_,?_⟩<;>simp only[↓sU,sD,rE,↓reduceIte,rA,p1,p4,p40,p41,p42]⟩
 clear p1 pb;rintro o ⟨F,inr⟩ X (⟨rfl,q0,hX,i,hik,hE,p1,p4,p40,p41,p42⟩ | ⟨rfl,hX,hne,p2,p3⟩);rotate_left
 ·simp only at p2 p3;refine dk p2 p3 ?_;have hE:dJ g=kU g.b8 g.b7.length g.bw:=by unfold dJ;rw[if_neg bad,if_pos hne]
  rw[hE];exact⟨sS2.trans hX,_,rfl,fun h=>absurd h hne⟩
 simp only at q0 p1 p4;subst q0;rw[Bw au] at hE;have hform:dJ g=match lL g with | none=>9 | some T=>if T.length≠g.bw.length then 9 else if 40<xZ 0 T then 5 else aA0 g:=by
  conv=>lhs;unfold dJ
  rw[if_neg bad,if_neg (fun h=>h hE)]
  first | done | (cases lL g<;>rfl)
 have sX:=sS2.trans hX;have cX:X.h.get S.nx=some (.cells [.int .i64 g.b8,nv,iv] false 0):=by rw[hX.2 _ gl2];exact c1'
 have wX:=(hW.same hX).1;have ltw:=(hW.same hX).2;have ltg:S.nx<X.nx:=Ag gl2 hX.1;have nwg:¬S.nx=S1.nx:=by omega
 try refine ae ?_
 refine aC (wO (fun b=>b=S1.nx) ?_);intro X1 x1 hx1 hm1;simp only[↓sU,sD,rE,↓reduceIte,rA,p1,p4,aF,aV,aE,fG cX,ltg,nwg,Ak,hnl,aW.self hn];refine aCN (n:=g.bw.length) (by simp only[↓sU,sD,rE,↓reduceIte,rA,aQ]) (by simp only[↓sU,sD,rE,↓reduceIte,rA,aQ]) ax ax  ?_;simp only[↓sU,sD,rE,↓reduceIte,rA,p1,p4,aF,aV,aE,fG cX,ltg,nwg,Ak,hnl,aW.self hn];refine aCN (n:=g.bw.length) (by simp only[↓sU,sD,rE,↓reduceIte,rA,aQ]) (by simp only[↓sU,sD,rE,↓reduceIte,rA,aQ]) ax ax  ?_;simp only[↓sU,sD,rE,↓reduceIte,rA,p1,p4,aF,aV,aE,fG cX,ltg,nwg,Ak,hnl,aW.self hn];refine aCN (n:=g.bw.length) (by simp only[↓sU,sD,rE,↓reduceIte,rA,aQ]) (by simp only[↓sU,sD,rE,↓reduceIte,rA,aQ]) ax ax  ?_;refine d7 p1 p4 @cE @dL @cF @aF @aV @aE ?_;have hz:repeatL [AV.int .i64 0] g.bw.length=bC (List.replicate g.bw.length 0):=by rw[repeatL_one];simp [bC]
 rw[hz];have n6:¬S1.nx=X.nx+6:=by omega
 have n10:¬S1.nx=X.nx+10:=by omega
 have n14:¬S1.nx=X.nx+14:=by omega
 refine aDx (b:=S1.nx) (p:=3) (w:=.sl (X.nx+6) 0 g.bw.length g.bw.length false) (cs:=[.int .i64 g.b8,nv,iv,.cd,.cd,.cd]) (o:=false) (sz:=0) ((zT (show Nat.testBit 98425 14=false by decide)).trans (by rw[zT (show Nat.testBit 98425 10=false by decide),aDC (show Nat.testBit 98425 6=true by decide),cS])) rfl (af) (by simp only[↓sU,sD,rE,↓reduceIte,rA];rfl) (by rw[dr,if_neg n6,hx1];exact wX) (by simp) rfl ?_;refine d7 p1 p4 @cE @dL @cF @aF @aV @aE ?_;refine aDx (b:=S1.nx) (p:=4) (w:=.sl (X.nx+10) 0 g.bw.length g.bw.length false) (cs:=[.int .i64 g.b8,nv,iv,.sl (X.nx+6) 0 g.bw.length g.bw.length false,.cd,.cd]) (o:=false) (sz:=0) ((zT (show Nat.testBit 1017851 14=false by decide)).trans (by rw[aDC (show Nat.testBit 1017851 10=true by decide),cS])) rfl (af) (by simp only[↓sU,sD,rE,↓reduceIte,rA];rfl) (by rw[dr,if_neg n10,dr,if_pos rfl];rfl) (by simp) rfl ?_;refine d7 p1 p4 @cE @dL @cF @aF @aV @aE ?_;refine aDx (b:=S1.nx) (p:=5) (w:=.sl (X.nx+14) 0 g.bw.length g.bw.length false) (cs:=[.int .i64 g.b8,nv,iv,.sl (X.nx+6) 0 g.bw.length g.bw.length false,.sl (X.nx+10) 0 g.bw.length g.bw.length false,.cd]) (o:=false) (sz:=0) ((aDC (show Nat.testBit 8388607 14=true by decide)).trans (cS _ _)) rfl (af) (by simp only[↓sU,sD,rE,↓reduceIte,rA];rfl) (by rw[dr,if_neg n14,dr,if_pos rfl];rfl) (by simp) rfl ?_;refine ae ?_;refine aNk (P:=fun h'=>oD fns _ _ ⟨h',X1.nx⟩ _) n6 n10 n14 au au au ?_;intro Zh gw g1 g2 g3 gr;have hm1:X1.nx=X.nx+24:=hm1;have sZ:Same S ⟨Zh,X1.nx⟩:=⟨by show S.nx<=X1.nx;have:=sX.1;omega,fun c hc=>by
  have:=sX.1;show Zh.get c=S.h.get c;rw[gr c au au au au,hx1];exact sX.2 c hc⟩
 have cZ:Zh.get S.nx=some (.cells [.int .i64 g.b8,nv,iv] false 0):=by
  rw[gr _ au au au au,hx1];exact cX
 have hK:WK ⟨Zh,X1.nx⟩ S1.nx (X.nx+6) (X.nx+10) (X.nx+14) g.bw.length g.b8 nv iv (List.replicate g.bw.length 0) (List.replicate g.bw.length 0) (List.replicate g.bw.length 0):=⟨⟨gw,by show S1.nx<X1.nx;omega⟩,g1,g2,g3,Bu ..,Bu ..,Bu ..,by show _<X1.nx;omega,by show _<X1.nx;omega,by show _<X1.nx;omega⟩;generalize hZ:(⟨Zh,X1.nx⟩:St)=Z at *;have cZ:Z.h.get S.nx=some (.cells [.int .i64 g.b8,nv,iv] false 0):=by rw[<-hZ];exact cZ
 have lz:S1.nx<Z.nx:=hK.w.2;have hall:=jR hE;refine dS (dx p1 p4 @aF @aE (fG cZ) ?_);refine aK (ae ?_);rw[show Int.negSucc 0=(-1:Int) from rfl];refine aG (aKu (rv:=nv) H hn au (aw sX.1) (aw sX.1) (aw sX.1) au au au n6 n10 n14 hN (fun x hx=>aBG (hall x hx)) (g.bw.length+1) (at_:=0) (p:= -1) (d:=0) au ay ay au sZ hK (by rw[Dd];exact hn)) ?_;rintro r Y ⟨hY,P',D',L',hKY,hres⟩;have sY:Same S Y:=hY.same sZ (aw sX.1) (aw sX.1) (aw sX.1);have hres':match lL g with | some T=>(∃v,r= .tup [v,.bool true]/\aW 6 cI S v (g.bw.drop (0+T.length)))/\iL (·.1) (List.replicate g.bw.length 0) P' T 0/\iL (·.2.1) (List.replicate g.bw.length 0) D' T 0/\iL (·.2.2) (List.replicate g.bw.length 0) L' T 0 | none=>r= .tup [.cd,.bool false]:=hres
 clear hres;cases hw:lL g with
 | none=>
  rw[hw] at hres' hform;subst hres';simp only at hform;rw[hform];refine dk @nP @nN ?_;refine aY ?_;simp only[↓sU,sD,rE,↓reduceIte,rA,pV,Bool.not_false];refine aN (af) ?_;refine aY (ae ?_);refine aI (ae ?_);exact⟨sY,_,rfl,fun h=>by cases h⟩
 | some T=>
  rw[hw] at hres' hform;obtain⟨⟨v,rfl,hv⟩,rP,rD,rL⟩:=hres';simp only at hform;have hTl:=(xN (show gD g.bw.length (fJ g) (g.bw.length+1) 0 (-1) 0=some T from hw)).1;have hvl:=hv.len;rw[Dk] at hvl;refine dk @nP @nN ?_;refine aY (dm @pV @Gz hvl ?_);by_cases hT:T.length=g.bw.length;rotate_left
  ·rw[hform,if_pos hT];refine aN (by simp only[↓sU,sD,rE,↓reduceIte,rA,Ab (show(0:Int)<((g.bw.length - (0+T.length):Nat):Int) by omega)]) ?_;refine aY (ae ?_);refine aI (ae ?_);exact⟨sY,_,rfl,fun h=>by cases h⟩
  rw[if_neg (fun h=>h hT)] at hform;refine aM (by simp only[↓sU,sD,rE,↓reduceIte,rA,Aa (show ¬ (0:Int)<((g.bw.length - (0+T.length):Nat):Int) by omega)]) (aH ?_);try refine ae ?_
  have eP:=rP.full (by rw[Bu];exact hT);have eD:=rD.full (by rw[Bu];exact hT);have eL:=rL.full (by rw[Bu];exact hT);subst eP eD eL;have hrow:=aH6 hKY.gd hKY.bd hKY.ld;have⟨e,L,hTe⟩:=aIF hw;have hmax:aH5 ((T.map (·.2.1)).getD 0 0) ((T.map (·.2.1)).drop 1)=xZ 0 T:=by
   rw[hTe];show aH5 0 (L.map (·.2.1))=xZ 0 ((-1,0,e)::L);rw[aLU,aKJ];rfl
  refine dS (dz p1 p4 @cE @cF @aF @aE (dR hKY.w.1) ?_);refine aK (ae ?_);refine aG (aMI H hrow (by rw[Bc];omega) (by rw[Bc];omega)) ?_;rintro _ Y2 ⟨rfl,hY2⟩;rw[hY2,hmax];refine ae ?_;by_cases h40:40<xZ 0 T
  ·rw[hform,if_pos h40];refine aN (by simp only[↓sU,sD,rE,↓reduceIte,rA,Ab h40]) ?_;refine aY (ae ?_);refine aI (ae ?_);exact⟨sY,_,rfl,fun h=>by cases h⟩
  rw[if_neg h40] at hform;refine aM (by simp only[↓sU,sD,rE,↓reduceIte,rA,Aa h40]) (aH ?_);try refine ae ?_
  refine aY (dk p1 p4 ?_);refine aK (ae ?_);refine aG (aJN H hKY.w (aW.same (E:=cI) bT hn sY) (aW.same (E:=eT) dH hi sY) hN hI (fun x hx h2=>aBy (hall x hx) h2)) ?_;rintro _ Y3 ⟨rfl,hY3⟩;try simp only[↓sU,sD,rE,↓reduceIte,rA,p4]
  refine aI (ae ?_);rw[hform];refine⟨sY.trans hY3,_,rfl,fun _=>⟨S1.nx,_,_,_,T,rfl,au,hw,hT,⟨hKY.w.same hY3,by rw[hY3.2 _ hKY.bp];exact hKY.gp,by rw[hY3.2 _ hKY.bd];exact hKY.gd,by rw[hY3.2 _ hKY.bl];exact hKY.gl,hKY.lp,hKY.ld,hKY.ll,Ag hKY.bp hY3.1,Ag hKY.bd hY3.1,Ag hKY.bl hY3.1⟩⟩⟩
theorem aEO{S:St}{nv iv:AV}{g:aZ}(H:Has fns)(hn:aW 6 cI S nv g.bw)(hi:aW 2 eT S iv g.b7)(hln:g.bw.length<=100000):
  eR fns (.fn 47 [] []) [.agg [.int .i64 g.b8,nv,iv]] S fun r S'=>r= .int .i64 (dJ g)/\Same S S':=by
 refine bE H.f47 (by simp) ?_;refine ae ?_;refine aY ?_;refine bW (by refine ae ?_;exact aR _) ?_;intro S1 s1 n1 c1;refine ae ?_;refine aY (dh (gR c1) ?_);refine aK (ae ?_);refine aG (aGY H (aW.same (E:=cI) bT hn s1) (aW.same (E:=eT) dH hi s1) hln) ?_;rintro _ X ⟨hX,p,rfl,_⟩;refine dk @nP @nN ?_;refine aY (ae ?_);refine aI (ae ?_);exact s1.trans hX
theorem aRo{S:St}{t:Nat}{x:AV}{o:Bool}{sz:Nat}(h:S.h.get t=some (.cells [x] o sz)):fE (.sl t 0 1 1 false) S.h 1 1=some [x]:=by
 show aU (bU S.h t) (fun cs=>cut cs 0 (1 * 1))=_;unfold bU;rw[h];rfl
theorem GrW.push{bytes t:Nat}{S0 S:St}{v:AV}{l:bm}{w:Int}(h:GrW 1 S0 S v l.length (bC l))(hS:Same S0 S)(ht:S.h.get t=some (.cells [.int .i64 w] false 0))(h1:l.length+1<=room)(h2:(l.length+1) * bytes<=room):
  ∃v' S',iK bytes 1 v (.sl t 0 1 1 false) S=some (v',S')/\GrW 1 S0 S' v' (l++ [w]).length (bC (l++ [w]))/\kM v'=some S.nx/\S'.nx=S.nx+1/\∀c,c<S.nx->kM v≠some c->S'.h.get c=S.h.get c:=by
 have hs:=aRo ht;have e0:bC (l++ [w])=bC l++ [.int .i64 w]:=by simp [bC]
 have e1:(l++ [w]).length=l.length+1:=by simp
 rw[e0,e1];generalize hn:l.length=n at *;rcases h with⟨rfl,rfl,h0⟩ | ⟨b,rfl,hb0,hb,hg,hc⟩
 ·refine⟨.sl S.nx 0 1 1 true,⟨S.h.set S.nx (some (.cells [.int .i64 w] true 1)),S.nx+1⟩,?_,.inr ⟨S.nx,by rw[Au],hS.1,by simp,?_,?_⟩,rfl,rfl,fun c hc _=>(Same.alloc S _).2 c hc⟩
  ·show(aU (some 1) fun j=>aU (fE (.sl t 0 1 1 false) S.h 1 j) fun new=>aAo .cd bytes 1 j new S)=_;rw[aL,hs,aL];show nV bytes 1 1 [.int .i64 w] S=_;unfold nV;rw[show Nat.beq 1 0=false from rfl,aS,Ai au,aP,Ai (by rw[Au] at h2;exact h2),aP];rfl
  ·simp only;rw[dr,if_pos rfl,h0];rfl
  ·rw[h0];rfl
 ·refine⟨.sl S.nx 0 (n+1) (n+1) true,⟨(S.h.set b none).set S.nx (some (.cells (bC l++ [.int .i64 w]) true 1)),S.nx+1⟩,?_,.inr ⟨S.nx,rfl,hS.1,by simp,?_,by rw[Ba,hc,List.length_singleton,Cb,Nat.one_mul]⟩,rfl,rfl,fun c hc hne=>?_⟩
  ·show(aU (some 1) fun j=>aU (fE (.sl t 0 1 1 false) S.h 1 j) fun new=>aAo (.sl b 0 n n true) bytes 1 j new S)=_;rw[aL,hs,aL];show tP bytes 1 b 0 n n true 1 [.int .i64 w] S=_;unfold tP;have e2:Nat.ble (n+1) n=false:=by rw[Bx];intro h;have:=Ar h;omega
   rw[e2,aS,Ai h1,aP,Ai h2,aP,hg,aL];have e3:cut (bC l) 0 (n * 1)=some (bC l):=by
    unfold cut;rw[jY,kR,Dd,if_pos au,Am au]
   have e4:Nat.beq (0+n * 1) (kG (bC l))=true:=by rw[eQ,hc,Av];omega
   simp only[aEz,e3,aL,aP,e4,show Nat.beq 1 1=true from rfl,grown,fB]
  ·simp only;rw[dr,if_pos rfl]
  ·simp only;have:c≠b:=fun e=>hne (by rw[e];rfl);rw[dr,if_neg au,dr,if_neg this]
theorem GrW.self{k n:Nat}{S0 S:St}{v:AV}{cs:bo}(h:GrW k S0 S v n cs):cC v v=true:=by
 rcases h with⟨rfl,_⟩ | ⟨b,rfl,_⟩
 ·rfl
 ·exact tS ..
theorem GrW.cells{k n:Nat}{S0 S:St}{v:AV}{cs:bo}(h:GrW k S0 S v n cs):v.cells=some [v]:=by
 rcases h with⟨rfl,_⟩ | ⟨b,rfl,_⟩<;>rfl
noncomputable def aOA:List AO:=[mt 25 3,
oq 26 (.df 2 (.t 5)),
om 27 2 (ld 26),
mt 28 3,
oq 29 (.df 2 (.t 5)),
om 30 16 (ld 29),
om 31 56 (.cw (.slice 1) (.t 28) (.t 30)),
om 32 120 (ld 31),
mt 33 4,
⟨(some 34),(.a (.cq 3 1 1 [(.int .i64 0)] [(0,(.t 33))])),none,256⟩,
⟨(some 35),(.x (.app 3 1 8 (.t 32) (.t 34))),none,1016⟩,
om 36 2047 (.cw (.slice 1) (.t 25) (.t 27)),
⟨none,(.x (.st 1 (.t 36) (.t 35))),none,4095⟩]
theorem aB4{h:T AB}{b p:Nat}{cs:bo}{x:AV}{o:Bool}{s:Nat}(hb:h.get b=some (.cells cs o s))(hj:cs[p]? =some x):cT (.ptr b p) false 1 h=some x:=by
 have:=ldc (j:=p) hb hj;rw[Au] at this;exact this
theorem aLJ{F:Fr}{S0 S:St}{inr:Bool}{ob nb n i NI:Nat}{cs:bo}{a c0 c1 c3 c4 c5:AV}{l:bm}{Q:Out->bK->St->Prop}(p3:aD 3 F= .sl ob 0 NI NI false)(p4:aD 4 F= .int .i64 (i:Int))(p5:aD 5 F= .ptr nb 0)
  (hnb:S.h.get nb=some (.cells [c0,c1,.int .i64 (n:Int),c3,c4,c5] false 0)) (hob:S.h.get ob=some (.cells cs false 0)) (hcs:cs.length=NI) (hn:cs[n]? =some a) (ha:GrW 1 S0 S a l.length (bC l)) (hS:Same S0 S) (lnb:nb<S.nx) (lob:ob<S.nx) (ne1:kM a≠some ob) (ne2:kM a≠some nb) (hl:l.length<=100000)
  (hQ:∀F' S' a',aD 1 F'=aD 1 F->aD 3 F'=aD 3 F->aD 4 F'=aD 4 F->S.nx<=S'.nx->S'.h.get ob=some (.cells (cs.set n a') false 0)->GrW 1 S0 S' a' (l++ [(i:Int)]).length (bC (l++ [(i:Int)]))->(∃b',kM a'=some b'/\S.nx<=b'/\b'<S'.nx)->(∀c,c<S.nx->c≠ob->kM a≠some c->S'.h.get c=S.h.get c)->Q .normal ⟨F',inr⟩ S'):oD fns (.drw aOA) ⟨F,inr⟩ S Q:=by
 have hlt:n<cs.length:=(Aj.1 hn).1;have hia:=iB (b:=ob) (N:=NI) (o:=false) (show n<NI by omega);have hldo:=aB4 hob hn;have he:∀F id,aD 33 F= .int .i64 (i:Int)->vC (.cq 3 1 1 [AV.int .i64 0] [(0,.t 33)]) F id=some (.sl id 0 1 1 false,.cells [.int .i64 (i:Int)] false 0):=fun F id h=>jW h;have sB:Same S ⟨S.h.set (S.nx+9) (some (.cells [.int .i64 (i:Int)] false 0)),S.nx+13⟩:=⟨by simp,fun c hc=>by simp only;rw[dr,if_neg au]⟩;have⟨a',S1,eA,gA,bA,nA,rA⟩:=GrW.push (bytes:=8) (t:=S.nx+9) (w:=(i:Int)) (ha.step sB) (hS.trans sB) fc ax ax;simp only at bA nA rA;have hob1:S1.h.get ob=some (.cells cs false 0):=by rw[rA _ au ne1];exact(sB.2 _ lob).trans hob
 have hnb1:S1.h.get nb=some (.cells [c0,c1,.int .i64 (n:Int),c3,c4,c5] false 0):=by rw[rA _ au ne2];exact(sB.2 _ lnb).trans hnb
 refine rB ?_;unfold aOA;simp only[pP,bX,iU,aF,aE,fA,gI,eO,bG,rE,↓reduceIte,p3,p4,p5,aQ,aL,hia,hldo,dT hnb,xH,jS,pK,aV,aP,aS,aI3,he,rA];refine sT (v:=a') (S1:=S1) rfl (fun call=>?_) ?_
 ·rw[nG (show Nat.testBit 1016 9=true by decide),tR];simp only[eO,bG,rE,↓reduceIte];exact eA
 rw[nG (show Nat.testBit 1016 9=true by decide)];simp only[pP,bX,fA,eO,bG,rE,↓reduceIte,aQ,aL,hia,jS,aS];refine sT (v:=.undef) (S1:=⟨S1.h.set ob (some (.cells (cs.set n a') false 0)),S1.nx⟩) (show Nat.testBit 4095 10=true by decide) (fun call=>?_) ?_
 ·rw[eC];simp only[eO,bG,rE,↓reduceIte,gA.cells,aL];exact stc (S:=S1) hob1 hlt
 rw[mT];have hsa:=ha.self;refine⟨?_,?_⟩
 ·have e1:∀ (v:AV) (G:Fr) (sl p msk ii:Nat) (X1 X2:T AB) (b:Nat),aD sl G= .ptr b p->cT (.ptr b p) false 1 S.h=some v->cC v v=true->Nat.testBit msk 10=false->Nat.testBit 1016 ii=true->fN ⟨.ld false 1 (.t sl),G,v,ii,msk⟩ [(10,1016,X1),(12,4095,X2)] S.h=true:=fun v G sl p msk ii X1 X2 b h1 h2 h3 h4 h5=>by
   unfold fN;have e:jK (.ld false 1 (.t sl)) G S.h=some v:=by rw[gI,eO,h1];exact h2
   simp only[h4,h5,aS,aP,e,jN,h3]
  have e2:∀ (v:AV) (G:Fr) (sl p msk ii:Nat) (X1 X2:T AB) (b:Nat),aD sl G= .ptr b p->cT (.ptr b p) false 1 S.h=some v->cT (.ptr b p) false 1 X1=some v->cC v v=true->Nat.testBit msk 10=false->Nat.testBit msk 12=false->Nat.testBit 1016 ii=false->Nat.testBit 4095 ii=true->fN ⟨.ld false 1 (.t sl),G,v,ii,msk⟩ [(10,1016,X1),(12,4095,X2)] S.h=true:=fun v G sl p msk ii X1 X2 b h1 h2 h2' h3 h4 h4' h5 h6=>by
   have e:jK (.ld false 1 (.t sl)) G S.h=some v:=by rw[gI,eO,h1];exact h2
   have e':jK (.ld false 1 (.t sl)) G X1=some v:=by rw[gI,eO,h1];exact h2'
   unfold fN;simp only[h4,h5,aS,aP,e,jN,h3];unfold fN;simp only[h4',h6,aS,aP,e',jN,h3]
  simp only[Eh,List.reverse_nil,Cn,Cx,mV,vL];rw[e1 a _ 31 n 120 7 _ _ ob (by simp only[bG,rE,↓reduceIte]) hldo hsa ay ay,e1 _ _ 29 (0+2) 16 5 _ _ nb (by simp only[bG,rE,↓reduceIte]) (dT hnb) (fS ..) ay ay,e2 _ _ 26 (0+2) 2 2 _ _ nb (by simp only[bG,rE,↓reduceIte]) (dT hnb) (dT hnb1) (fS ..) ay ay ay ay];rfl
 ·have hobA:kM a'≠some ob:=by rw[bA];intro h;have:=Bz h;omega
  have hS1:S.nx<=S1.nx:=by omega
  refine hQ _ _ a' (af) (af) (af) hS1 (by simp only[cS];rw[dr,if_pos rfl]) ?_ ⟨_,bA,au,by show _<S1.nx;omega⟩ fun c hc h1 h2=>?_
  ·rcases gA with h | ⟨b,h1,h2,h3,h4,h5⟩
   ·rw[h.1] at bA;cases bA
   ·refine .inr ⟨b,h1,h2,h3,?_,h5⟩;simp only[cS];rw[dr,if_neg (fun e=>hobA (by rw[h1,<-e];rfl))];exact h4
  ·simp only[cS];rw[dr,if_neg h1,rA _ au h2];exact sB.2 _ hc
def lP:List fO->Nat->Nat->bm
 | [],_,_=>[]
 | x::l,s,i=>if x.kind=2/\x.info=(i:Int) then(s:Int)::lP l (s+1) i else lP l (s+1) i
theorem aBa(x:fO)(i:Nat):∀ (l:List fO) (s:Nat),lP (l++ [x]) s i=if x.kind=2/\x.info=(i:Int) then lP l s i++ [((s+l.length:Nat):Int)] else lP l s i
 | [],s=>by
  simp only[Cn,lP,Cd,Bi]
 | y::l,s=>by
  simp only[Cx,lP];rw[aBa x i l (s+1),Ax,show s+1+l.length=s+(l.length+1) by omega];split<;>split<;>rfl
theorem aHR(i:Nat):∀ (l:List fO) (s:Nat),(lP l s i).length<=l.length
 | [],_=>Af _
 | y::l,s=>by
  simp only[lP];have:=aHR i l (s+1);split
  ·rw[Ax,Ax];omega
  ·rw[Ax];omega
def aHN(g:aZ):List (bm):=(List.range g.b7.length).map (lP g.bw 0)
def SlE(S:St)(cs:bo)(l:bm):Prop:=∃a,cs= [a]/\dE .i64 S a l
theorem ct:pJ SlE:=fun⟨a,h,h1⟩ hs=>⟨a,h,h1.same hs⟩
theorem GrW.is{S0 S:St}{v:AV}{l:bm}(h:GrW 1 S0 S v l.length (bC l)):dE .i64 S v l:=by
 rcases h with⟨rfl,h0,_⟩ | ⟨b,rfl,h1,h2,h3,h4⟩
 ·exact .inl ⟨Ce.1 h0,.inl rfl⟩
 ·refine .inr ⟨b,0,l.length,true,bC l,rfl,Af _,h2,by unfold bU;rw[h3];rfl,fun i x hi=>?_⟩;rw[Au];unfold bC;rw[Bk,hi];rfl
theorem GrW.blk{k n c:Nat}{S0 S:St}{v:AV}{cs:bo}(h:GrW k S0 S v n cs)(hc:kM v=some c):S0.nx<=c/\c<S.nx/\S.h.get c=some (.cells cs true k):=by
 rcases h with⟨rfl,_⟩ | ⟨b,rfl,h1,h2,h3,h4⟩
 ·cases hc
 ·cases hc;exact⟨h1,h2,h3⟩
theorem GrW.off{k n c s:Nat}{S0 S:St}{v:AV}{cs cs':bo}(h:GrW k S0 S v n cs)(hc:S.h.get c=some (.cells cs' false s)):kM v≠some c:=fun e=>by
 have:=(h.blk e).2.2;rw[hc] at this;cases this
structure Fam(S0 X:St)(ob NI:Nat)(cs:bo)(L:Nat->bm):Prop where
 ho:X.h.get ob=some (.cells cs false 0)
 lt:ob<X.nx
 hl:cs.length=NI
 gr:∀ (j:Nat) (a:AV),cs[j]? =some a->GrW 1 S0 X a (L j).length (bC (L j))
 dj:∀ (j k:Nat) (a b:AV),j≠k->cs[j]? =some a->cs[k]? =some b->∀c,kM a=some c->kM b≠some c
theorem Fam.same{S0 X X':St}{ob NI:Nat}{cs:bo}{L:Nat->bm}(h:Fam S0 X ob NI cs L)(hs:Same X X'):Fam S0 X' ob NI cs L:=⟨(hs.2 _ h.lt).trans h.ho,Ag h.lt hs.1,h.hl,fun j a hj=>(h.gr j a hj).step hs,h.dj⟩
theorem Fam.push{S0 X X':St}{ob NI n:Nat}{cs:bo}{L:Nat->bm}{a a':AV}{w:Int}(h:Fam S0 X ob NI cs L)(hn:cs[n]? =some a)(hx:X.nx<=X'.nx)(ho:X'.h.get ob=some (.cells (cs.set n a') false 0))(hg:GrW 1 S0 X' a' (L n++ [w]).length (bC (L n++ [w])))(hb:∃b',kM a'=some b'/\X.nx<=b'/\b'<X'.nx)(hr:∀c,c<X.nx->c≠ob->kM a≠some c->X'.h.get c=X.h.get c):
  Fam S0 X' ob NI (cs.set n a') (fun j=>if j=n then L n++ [w] else L j):=by
 have hlt:=(Aj.1 hn).1;have⟨b',hb1,hb2,hb3⟩:=hb;have get:∀ (j:Nat) (c:AV),(cs.set n a')[j]? =some c->(j=n/\c=a')\/(j≠n/\cs[j]? =some c):=fun j c hj=>by
  rw[List.getElem?_set] at hj;split at hj
  ·rename_i e;exact .inl ⟨e.symm,(Bz hj).symm⟩
  ·rename_i e;exact .inr ⟨fun e'=>e e'.symm,hj⟩
 refine⟨ho,Ag h.lt hx,by rw[Dm];exact h.hl,fun j c hj=>?_,fun j k x y hjk hx' hy c hc hc'=>?_⟩
 ·rcases get j c hj with⟨rfl,rfl⟩ | ⟨hne,hj⟩
  ·simp only[↓reduceIte];exact hg
  ·simp only[if_neg hne];have hj':=h.gr j c hj;rcases hj' with h0 | ⟨b,h1,h2,h3,h4,h5⟩
   ·exact .inl h0
   ·have hbc:kM c=some b:=by rw[h1];rfl
    refine .inr ⟨b,h1,h2,Ag h3 hx,?_,h5⟩;rw[hr b h3 (fun e=>(h.gr j c hj).off h.ho (by rw[hbc,e])) (h.dj j n c a hne hj hn b hbc)];exact h4
 ·rcases get j x hx' with⟨rfl,rfl⟩ | ⟨hne,hj⟩
  ·rcases get k y hy with⟨rfl,rfl⟩ | ⟨hne2,hk⟩
   ·exact hjk rfl
   ·rw[hb1] at hc;have:=((h.gr k y hk).blk hc').2.1;have:=Bz hc;omega
  ·rcases get k y hy with⟨rfl,rfl⟩ | ⟨hne2,hk⟩
   ·rw[hb1] at hc';have:=((h.gr j x hj).blk hc).2.1;have:=Bz hc';omega
   ·exact h.dj j k x y hjk hj hk c hc hc'
theorem Fam.is{S0 X:St}{ob NI:Nat}{cs:bo}{L:Nat->bm}(h:Fam S0 X ob NI cs L):aW 1 SlE X (.sl ob 0 NI NI false) ((List.range NI).map L):=by
 refine .inr ⟨ob,0,NI,false,cs,by simp,by simp,h.lt,by unfold bU;rw[h.ho];rfl,fun i l hi=>?_⟩;rw[Bk,An] at hi;obtain⟨i',hi',rfl⟩:=hi;have hlt:i<NI:=by have:=(Aj.1 hi').1;rwa [Cq] at this
 rw[Dz hlt] at hi'
 ·cases hi';have hc:cs[i]? =some (cs[i]'(by rw[h.hl];exact hlt)):=Ad _;refine⟨[cs[i]'(by rw[h.hl];exact hlt)],rfl,fun j x hj=>?_,_,rfl,(h.gr i _ hc).is⟩;cases j with
  | zero=>
   cases hj;rw[Au,Bp,Bi];exact hc
  | succ j=>simp at hj
def aP4(S:St)(gb ob:Nat)(nv iv:AV)(g:aZ)(k:Nat)(A:bK)(X:St):Prop:=A.inr=false/\Same S X/\X.h.get gb=some (.cells [.int .i64 g.b8,nv,iv] false 0)/\gb<X.nx/\gb≠ob/\∃i cs,i+k=g.bw.length/\Fam S X ob g.b7.length cs (lP (g.bw.take i) 0)/\
 aD 1 A.F= .ptr gb 0/\aD 3 A.F= .sl ob 0 g.b7.length g.b7.length false/\aD 4 A.F= .int .i64 (i:Int)
theorem aGQ{S:St}{nv iv:AV}{g:aZ}(H:Has fns)(hn:aW 6 cI S nv g.bw)(hi:aW 2 eT S iv g.b7)(hN:g.bw.length<=100000)(hI:g.b7.length<=100000)(hok:aFh g):
  eR fns (.fn 79 [] []) [.agg [.int .i64 g.b8,nv,iv]] S fun r S'=>Same S S'/\aW 1 SlE S' r (aHN g):=by
 refine bE H.f79 (by simp) ?_;refine ae ?_;refine aY ?_;refine bW (by refine ae ?_;exact aR _) ?_;intro S1 s1 n1 c1;refine ae ?_;refine aY (ef @aF @aE (mU c1) hi.len ?_);refine nJ (kZ (n:=g.b7.length) (by simp only[↓stU,aB,rE,↓reduceIte,rA,aQ]) (by simp only[↓stU,aB,rE,↓reduceIte,rA,aQ]) ax ax) ?_;intro S2 s2 n2 c2;refine ap ?_;rw[repeatL_one] at c2;have sS2:=s1.trans s2;have c1':S2.h.get S.nx=some (.cells [.int .i64 g.b8,nv,iv] false 0):=by rw[s2.2 _ au];exact c1
 have hF0:Fam S S2 S1.nx g.b7.length (List.replicate g.b7.length .cd) (lP (g.bw.take 0) 0):=by
  refine⟨c2,au,Bu ..,fun j a hj=>?_,fun j k a b _ hj hk c hc=>?_⟩
  ·rw[Fu] at hj;split at hj
   ·cases hj;exact .inl ⟨rfl,rfl,rfl⟩
   ·cases hj
  ·rw[Fu] at hj;split at hj
   ·cases hj;cases hc
   ·cases hj
 refine aC (aX (Q:=fun o A' X=>o= .normal/\aP4 S S.nx S1.nx nv iv g 0 A' X) (aC (aJ ?_)) ?_)
 ·refine ap ?_;refine aO (bJ (aP4 S S.nx S1.nx nv iv g) ?_ g.bw.length _ _ ⟨rfl,sS2,c1',au,au,0,_,au,hF0,by refine⟨?_,?_,?_⟩<;>simp only[↓stU,aB,rE,↓reduceIte,rA]⟩);rintro k ⟨F,inr⟩ X ⟨q0,hX,cX,gX,ngo,i,cs,hik,hF,p1,p3,p4⟩;simp only at q0 p1 p3 p4;subst q0;have hnX:=aW.same (E:=cI) bT hn hX;refine dS ?_;simp only[↓stU,aB,rE,↓reduceIte,rA,p1,p4,aF,aE,fG cX,hn.len];by_cases hlt:i<g.bw.length
  ·refine aN (by simp only[↓stU,aB,rE,↓reduceIte,rA,Ab (show(i:Int)<(g.bw.length:Int) by omega)]) (aH ?_);try refine ap ?_
   obtain⟨x,hx⟩:∃x,g.bw[i]? =some x:=⟨_,Ad hlt⟩;have hxm:=Cg hx;obtain⟨e,b,q,hia,hb,he,⟨a,bb,cc,rfl,ha,hbb,hcc⟩,hag,_⟩:=aW.at hnX ay hx;have w1:=dq i
   have htk:g.bw.take (i+1)=g.bw.take i++ [x]:=by rw[Cz,hx];rfl
   have hti:(g.bw.take i).length=i:=by rw[Bh];omega
   refine aC (aO (aC (aJ ?_)));refine ek p1 p4 @aF @aE (fG cX) @aQ hia hag ?_;refine bY ?_;intro X1 x1 m1 d1;refine cR (b:=X.nx) (aq) (by refine ap ?_;exact aR _) d1 rfl rfl ?_;intro X2 x2 m2 d2;refine ap ?_;have hX2:Same X X2:=x2.same x1 (Af _);have cX2:X2.h.get S.nx=some (.cells [.int .i64 g.b8,nv,iv] false 0):=by rw[hX2.2 _ gX];exact cX
   have hF2:=hF.same hX2;have ltX2:X.nx<X2.nx:=by omega
   have gX2:S.nx<X2.nx:=Ag gX hX2.1;have hSX2:=hX.trans hX2;refine aY (ed @aF @aE (iY d2) ?_);by_cases hk2:x.kind=2
   ·refine aN (by simp only[↓stU,aB,rE,↓reduceIte,rA,Ab hk2]) ?_;have⟨i0,i1⟩:=hok x hxm hk2;obtain⟨n,hn'⟩:∃n:Nat,x.info=(n:Int):=⟨x.info.toNat,au⟩;have hni:n<cs.length:=by rw[hF.hl];omega
    rw[hn'] at d2;have hcn:cs[n]? =some cs[n]:=Ad hni;have hgn:=hF2.gr n _ hcn;refine aLJ (S0:=S) (ob:=S1.nx) (nb:=X.nx) (n:=n) (i:=i) (NI:=g.b7.length) (cs:=cs) (a:=cs[n]) (l:=lP (g.bw.take i) 0 n) (ar p3) (ar p4) (aq) d2 hF2.ho hF.hl hcn hgn hSX2 ltX2 hF2.lt (hgn.off hF2.ho) (hgn.off d2) (by have:=aHR n (g.bw.take i) 0;omega) ?_;intro F' X3 a' q1 q3 q4 hx3 ho3 hg3 hb3 hr3;have hF3:=hF2.push hcn hx3 ho3 hg3 hb3 hr3;refine aJ (ed q4 p4 w1 ?_);refine⟨k - 1,au,rfl,⟨Bd hSX2.1 hx3,fun c hc=>?_⟩,?_,Ag gX2 hx3,ngo,i+1,cs.set n a',au,?_,by refine⟨?_,?_,?_⟩<;>simp only[↓stU,aB,rE,↓reduceIte,rA,q1,p1,q3,p3]⟩
    ·have h1:=hSX2.1;rw[hr3 c au au  (fun e=>by have:=(hgn.blk e).1;omega)];exact hSX2.2 c hc
    ·rw[hr3 _ gX2 ngo (hgn.off cX2)];exact cX2
    ·have e:(fun j=>if j=n then lP (g.bw.take i) 0 n++ [(i:Int)] else lP (g.bw.take i) 0 j)=lP (g.bw.take (i+1)) 0:=by
      funext j;rw[htk,aBa,hti,Au];by_cases hj:j=n
      ·rw[if_pos hj,if_pos ⟨hk2,by rw[hn',hj]⟩,hj]
      ·rw[if_neg hj,if_neg (fun h=>hj (aw h.2))]
     rw[<-e];exact hF3
   ·refine aM (by simp only[↓stU,aB,rE,↓reduceIte,rA,Aa hk2]) (aH ?_);try refine ap ?_
    refine aJ (ec p4 w1 ?_);refine⟨k - 1,au,rfl,hSX2,cX2,gX2,ngo,i+1,cs,au,?_,by refine⟨?_,?_,?_⟩<;>simp only[↓stU,aB,rE,↓reduceIte,rA,p1,p3]⟩;have e:lP (g.bw.take i) 0=lP (g.bw.take (i+1)) 0:=by
     funext j;rw[htk,aBa,if_neg (fun h=>hk2 h.1)]
    rw[<-e];exact hF2
  ·refine aM (by simp only[↓stU,aB,rE,↓reduceIte,rA,Aa (show ¬ (i:Int)<(g.bw.length:Int) by omega)]) (bD ?_);refine ap ?_;have hk0:k=0:=by omega
   subst hk0;exact⟨rfl,hX,cX,gX,ngo,i,cs,hik,hF,by refine⟨?_,?_,?_⟩<;>simp only[↓stU,aB,rE,↓reduceIte,rA,p1,p3,p4]⟩
 rintro o ⟨F,inr⟩ X ⟨rfl,q0,hX,cX,gX,ngo,i,cs,hik,hF,p1,p3,p4⟩;simp only at q0 p3;subst q0;rw[Am au] at hF;try refine ap ?_
 refine aY (d9 p3 ?_);refine aI (ap ?_);exact⟨hX,hF.is⟩
theorem aEC{x y z:AV}(h1:cC x x=true)(h2:cC y y=true)(h3:cC z z=true):cC (.agg [x,y,z]) (.agg [x,y,z])=true:=by
 simp [cC,mX,h1,h2,h3]
theorem tF(i:Nat):∀ (l:List fO) (s:Nat),(lP l s i= []/\mA l s i=0)\/∃a L,lP l s i=((a:Nat):Int)::L/\mA l s i=a+1
 | [],_=>.inl ⟨rfl,rfl⟩
 | x::l,s=>by
  simp only[lP,mA];split
  ·exact .inr ⟨s,_,rfl,rfl⟩
  ·exact tF i l (s+1)
noncomputable def aOQ:List AO:=[oq 54 (.ld true 3 (.t 1)),
oc 55 78 [(.t 54),(.c (.int .i64 0)),(.c (.int .i64 0)),(.t 5)] 1,
oq 56 (.df 1 (.t 1)),
om 57 4 (ld 56),
om 58 12 (.c9 (.t 57)),
om 59 31 (bi .neq (.t 55) (.t 58))]
theorem aMk{F:Fr}{S0 S:St}{inr:Bool}{gb db:Nat}{nv iv:AV}{g:aZ}{Q:Out->bK->St->Prop}(H:Has fns)(p1:aD 1 F= .ptr gb 0)(p5:aD 5 F= .ptr db 0)(hn:aW 6 cI S0 nv g.bw)(hi:aW 2 eT S0 iv g.b7)(hS:Same S0 S)(hg:S.h.get gb=some (.cells [.int .i64 g.b8,nv,iv] false 0))(lg:gb<S.nx)(hd:S.h.get db=some (.cells [.int .i64 0] false 0))(ldd:db<S.nx)(ld0:S0.nx<=db)(ne:gb≠db)(hN:g.bw.length<=2000)(hlen:∀x∈g.bw,x.next.length<=1000)
  (hQ:∀F' S' v,aIL S db 0 0 (lL g) (.int .i64 v) S'->aD 1 F'=aD 1 F->aD 5 F'=aD 5 F->aD 59 F'= .bool (decide (v≠(g.bw.length:Int)))->Q .normal ⟨F',inr⟩ S'):oD fns (.drw aOQ) ⟨F,inr⟩ S Q:=by
 refine rB ?_;unfold aOQ;have hl0:=gR hg;have hl1:=fG hg;simp only[pP,bX,gI,eO,bG,rE,↓reduceIte,p1,p5,hl0,pK,aP];refine aCK rfl ?_;refine dk p5 @cS ?_;refine aG (aIx H ⟨nv,iv,rfl,hn,hi⟩ ld0 hN (g.bw.length+1) (at_:=0) (p:= -1) (d:=0) (deep:=0) au ay ay au hlen (hS.trans (Same.nx S 6)) (by show db<S.nx+6;omega) hd) ?_;rintro r S1 hr;have hr:aIL ⟨S.h,S.nx+6⟩ db 0 0 (lL g) r S1:=hr;obtain⟨v,rfl⟩:∃v,r= .int .i64 v:=by
  cases hw:lL g with
  | none=>rw[hw] at hr;exact⟨_,hr.2.1⟩
  | some T=>rw[hw] at hr;exact⟨_,hr.2.1⟩
 have sb:bN db S S1:=⟨by have:S.nx+6<=S1.nx:=hr.1.1;omega,fun c hc hne=>hr.1.2 c (by show c<S.nx+6;omega) hne⟩;have hg1:S1.h.get gb=some (.cells [.int .i64 g.b8,nv,iv] false 0):=by rw[sb.2 _ lg ne];exact hg
 have hl1':=fG hg1;have hld:∀ (F:Fr),jK (.ld true 3 (.t 1)) F S.h=cT (aD 1 F) true 3 S.h:=fun F=>by rw[gI,eO]
 simp only[↓sU,sD,rE,↓reduceIte,rA,pP,bX,p1,aF,aV,aE,gI,pK,hl1',nK,hn.len,gG,gO,tZ,aP,aS];rw[mT];refine⟨?_,?_⟩
 ·have sn:=aW.self hn;have si:=aW.self hi;have sg:=aEC (fS .i64 g.b8) sn si;have e1:∀G:Fr,aD 56 G= .ptr gb 1->fN ⟨.ld false 1 (.t 56),G,nv,3,4⟩ [(1,1,S1.h)] S.h=true:=fun G h=>by
   have e:jK (ld 56) G S.h=some nv:=by rw[gI,eO,h];exact hl1
   have e':jK (ld 56) G S1.h=some nv:=by rw[gI,eO,h];exact hl1'
   unfold fN;simp only[show Nat.testBit 4 1=false by decide,show Nat.testBit 1 3=false by decide,aS,aP,e,jN,sn];unfold fN;simp only[e',jN,sn]
  have e2:fN ⟨.ld true 3 (.t 1),F,.agg [.int .i64 g.b8,nv,iv],0,0⟩ [(1,1,S1.h)] S.h=true:=by
   have e:jK (.ld true 3 (.t 1)) F S.h=some (.agg [.int .i64 g.b8,nv,iv]):=by rw[gI,eO,p1];exact hl0
   unfold fN;simp only[show Nat.testBit 0 1=false by decide,show Nat.testBit 1 0=true by decide,aS,aP,e,jN,sg]
  simp only[Eh,List.reverse_nil,Cn,mV,vL];rw[e1 _ (by simp only[bG,rE,↓reduceIte]),e2];rfl
 ·refine hQ _ _ v ?_ (af) (af) (af);simp only[cS];exact⟨sb,hr.2⟩
def aOJ(S S1:St)(gb:Nat)(g:aZ)(k:Nat)(A:bK)(X:St):Prop:=A.inr=false/\Same S1 X/\∃i,i+k=g.bw.length/\kU g.b8 g.b7.length g.bw=kU g.b8 g.b7.length (g.bw.drop i)/\aD 1 A.F= .ptr gb 0/\aD 3 A.F= .int .i64 (i:Int)
def aOP(S1:St)(gb:Nat)(g:aZ)(k:Nat)(A:bK)(X:St):Prop:=A.inr=false/\Same S1 X/\∃i,i+k=g.bw.length/\(∀x∈g.bw.take i,¬mis g x)/\aD 1 A.F= .ptr gb 0/\aD 6 A.F= .int .i64 (i:Int)
def aOK(S1:St)(sv:AV)(g:aZ)(k:Nat)(A:bK)(X:St):Prop:=A.inr=false/\Same S1 X/\∃i,i+k=g.b7.length/\(∀j,j<i->lP g.bw 0 j≠ [])/\aD 8 A.F=sv/\aD 9 A.F= .int .i64 (i:Int)
def aOG(S1:St)(sv:AV)(g:aZ)(k:Nat)(A:bK)(X:St):Prop:=A.inr=false/\Same S1 X/\∃i,i+k=g.b7.length+1/\1<=i/\aO6 (gN g) 0 (min i g.b7.length)/\aD 8 A.F=sv/\aD 10 A.F= .int .i64 (i:Int)
theorem aB7{g:aZ}{j:Nat}(hj:j<g.b7.length):(gN g).getD j 0=((mA g.bw 0 j:Nat):Int):=by
 unfold gN;rw[Ae,Bk,Dz hj];rfl
theorem aBc{g:aZ}{j:Nat}(hj:j<g.b7.length):(aHN g)[j]? =some (lP g.bw 0 j):=by
 unfold aHN;rw[Bk,Dz hj];rfl
theorem aJS(g:aZ):(aHN g).length=g.b7.length:=by simp [aHN]
theorem aBL{g:aZ}:(0:Int)∈gN g↔∃j,j<g.b7.length/\lP g.bw 0 j= []:=by
 unfold gN;rw[Ga];constructor
 ·rintro⟨j,hj,h0⟩;rw[List.mem_range] at hj;rcases tF j g.bw 0 with h | ⟨a,L,h1,h2⟩
  ·exact⟨j,hj,h.1⟩
  ·rw[h2] at h0;omega
 ·rintro⟨j,hj,h0⟩;refine⟨j,List.mem_range.2 hj,?_⟩;rcases tF j g.bw 0 with h | ⟨a,L,h1,h2⟩
  ·rw[h.2];rfl
  ·rw[h0] at h1;cases h1
theorem aDk{S:St}{nv iv:AV}{g:aZ}(H:Has fns)(hn:aW 6 cI S nv g.bw)(hi:aW 2 eT S iv g.b7)(hln:g.bw.length<=100000):
  eR fns (.fn 53 [] []) [.agg [.int .i64 g.b8,nv,iv]] S fun r S'=>r= .int .i64 (dJ g)/\Same S S':=by
 refine bE H.f53 (by simp) ?_;refine ae ?_;refine aY ?_;refine bW (by refine ae ?_;exact aR _) ?_;intro S1 s1 n1 c1;refine ae ?_;have hnl:=hn.len;have hil:=hi.len;have hn1:=aW.same (E:=cI) bT hn s1;have hi1:=aW.same (E:=eT) dH hi s1;have sn:=aW.self hn;have si:=aW.self hi;have sg:=aEC (fS .i64 g.b8) sn si;have lg1:S.nx<S1.nx:=by omega
 refine aC (aC (aX (Q:=fun o A' X=>o= .normal/\A'.inr=false/\X=S1/\aD 1 A'.F= .ptr S.nx 0/\aD 36 A'.F= .bool (decide (mG g))) (aJ ?_) ?_))
 ·by_cases h1:g.b8<1
  ·rw[Ab (show mG g from .inl h1)];simp only[↓sU,sD,rE,↓reduceIte,rA,aF,aE,rJ c1,fG c1,mU c1,hnl,hil,Ab h1]
  by_cases h2:(4:Int)<g.b8
  ·rw[Ab (show mG g from .inr (.inl h2))];simp only[↓sU,sD,rE,↓reduceIte,rA,aF,aE,rJ c1,fG c1,mU c1,hnl,hil,Aa h1,Ab h2]
  by_cases h3:(g.bw.length:Int)<1
  ·rw[Ab (show mG g from .inr (.inr (.inl h3)))];simp only[↓sU,sD,rE,↓reduceIte,rA,aF,aE,rJ c1,fG c1,mU c1,hnl,hil,Aa h1,Aa h2,Ab h3]
  by_cases h4:(2000:Int)<(g.bw.length:Int)
  ·rw[Ab (show mG g from .inr (.inr (.inr (.inl h4))))];simp only[↓sU,sD,rE,↓reduceIte,rA,aF,aE,rJ c1,fG c1,mU c1,hnl,hil,Aa h1,Aa h2,Aa h3,Ab h4]
  by_cases h5:(200:Int)<(g.b7.length:Int)
  ·rw[Ab (show mG g from .inr (.inr (.inr (.inr h5))))];simp only[↓sU,sD,rE,↓reduceIte,rA,aF,aE,rJ c1,fG c1,mU c1,hnl,hil,Aa h1,Aa h2,Aa h3,Aa h4,Ab h5]
  ·rw[Aa (show ¬mG g by unfold mG;omega)];simp only[↓sU,sD,rE,↓reduceIte,rA,aF,aE,rJ c1,fG c1,mU c1,hnl,hil,Aa h1,Aa h2,Aa h3,Aa h4,Aa h5]
 rintro o ⟨F,inr⟩ X ⟨rfl,q0,hX,p1,pb⟩;simp only at q0 p1 pb;subst q0;rw[hX];clear hX;try refine ae ?_
 by_cases bad:mG g
 ·have hE:dJ g=2:=by unfold dJ;rw[if_pos bad]
  rw[hE];refine aN (by simp only[↓sU,sD,rE,↓reduceIte,rA,pb,Ab bad]) ?_;refine aY (ae ?_);refine aI (ae ?_);exact s1
 refine aM (by simp only[↓sU,sD,rE,↓reduceIte,rA,pb,Aa bad]) (aH ?_);try refine ae ?_
 have hps:1<=g.b8/\g.b8<=4:=by unfold mG at bad;omega
 have hN:g.bw.length<=2000:=by unfold mG at bad;omega
 have hN0:0<g.bw.length:=by unfold mG at bad;omega
 have hI:g.b7.length<=200:=by unfold mG at bad;omega
 refine aC (aX (Q:=fun o A' X=>(o= .normal/\aOJ S S1 S.nx g 0 A' X)\/(o= .ret/\Same S1 X/\kU g.b8 g.b7.length g.bw≠0/\aD 2 A'.F= .int .i64 (kU g.b8 g.b7.length g.bw))) (aC (aJ ?_)) ?_)
 ·refine ae ?_;refine aO (bJ (aOJ S S1 S.nx g) ?_ g.bw.length _ _ ⟨rfl,Same.refl _,0,au,by rw[Dd],by refine⟨?_,?_⟩<;>simp only[↓sU,sD,rE,↓reduceIte,rA,p1]⟩);clear p1 pb;rintro k ⟨F,inr⟩ X ⟨q0,hX,i,hik,hE,p1,p3⟩;simp only at q0 p1 p3;subst q0;have cX:X.h.get S.nx=some (.cells [.int .i64 g.b8,nv,iv] false 0):=by rw[hX.2 _ lg1];exact c1
  have lgX:S.nx<X.nx:=Ag lg1 hX.1;refine dS (dy p1 p3 @aF @aE (fG cX) hnl ?_);by_cases hlt:i<g.bw.length
  ·refine aN (by simp only[↓sU,sD,rE,↓reduceIte,rA,Ab (show(i:Int)<(g.bw.length:Int) by omega)]) (aH ?_);try refine ae ?_
   obtain⟨x,hx⟩:∃x,g.bw[i]? =some x:=⟨_,Ad hlt⟩;have hnX:=aW.same (E:=cI) bT hn1 hX;have⟨e,b,q,hia,hb,he,hNE,hag,_⟩:=aW.at hnX ay hx;have hdrop:g.bw.drop i=x::g.bw.drop (i+1):=by
    rw[Bo hlt];congr 1;rw[Ad hlt] at hx;exact Bz hx
   have w1:=dq i
   have se:cC (.agg e) (.agg e)=true:=by
    obtain⟨a,bb,cc,rfl,ha,hbb,hcc⟩:=hNE;exact aBg (fS ..) (fS ..) (fS ..) (dE.self ha) (dE.self hbb) (dE.self hcc)
   refine aC (aO (aC (eM (fun _=>False) ?_)));intro X1 x1;simp only[↓sU,sD,rE,↓reduceIte,rA,p1,p3,aF,aV,aE,gR cX,fG cX,sg,sn,lgX,hb,se,Ak,aQ,hia,hag];refine bH rfl ?_;refine ae ?_;refine aG (aIZ H (bT hNE x1) hps.2 hil) ?_;rintro _ Y ⟨rfl,hY⟩;refine⟨hY,?_⟩;have hSY:=(hX.trans x1).trans hY;rw[hdrop] at hE;simp only[kU] at hE;try refine ae ?_
   refine aY (ae ?_);by_cases he0:iZ g.b8 g.b7.length x=0
   ·rw[if_neg (fun h=>h he0)] at hE;refine aM (by simp only[↓sU,sD,rE,↓reduceIte,rA,Aa (show ¬iZ g.b8 g.b7.length x≠0 from fun h=>h he0)]) (aH ?_);try refine ae ?_
    refine aJ (dk p3 w1 ?_);exact⟨k - 1,au,rfl,hSY,i+1,au,hE,by refine⟨?_,?_⟩<;>simp only[↓sU,sD,rE,↓reduceIte,rA,p1]⟩
   ·rw[if_pos he0] at hE;refine aN (by simp only[↓sU,sD,rE,↓reduceIte,rA,Ab (show iZ g.b8 g.b7.length x≠0 from he0)]) ?_;refine aY (ae ?_);refine aI (ae ?_);exact .inr ⟨hSY,by rw[hE];exact he0,by rw[hE]⟩
  ·refine aM (by simp only[↓sU,sD,rE,↓reduceIte,rA,Aa (show ¬ (i:Int)<(g.bw.length:Int) by omega)]) (bD ?_);refine ae ?_;have hk0:k=0:=by omega
   subst hk0;exact .inl ⟨rfl,hX,i,hik,hE,by refine⟨?_,?_⟩<;>simp only[↓sU,sD,rE,↓reduceIte,rA,p1,p3]⟩
 clear p1 pb;rintro o ⟨F,inr⟩ X (⟨rfl,q0,hX,i,hik,hE,p1,p3⟩ | ⟨rfl,hX,hne,p2⟩);rotate_left
 ·simp only at p2;refine dh p2 ?_;have hE:dJ g=kU g.b8 g.b7.length g.bw:=by unfold dJ;rw[if_neg bad,if_pos hne]
  rw[hE];exact⟨rfl,s1.trans hX⟩
 simp only at q0 p1;subst q0;rw[Bw au] at hE;have hall:=jR hE;have hok:aFh g:=fun x hx h2=>aBy (hall x hx) h2;have hform:dJ g=match lL g with | none=>9 | some T=>if T.length≠g.bw.length then 9 else if 40<xZ 0 T then 5 else aA0 g:=by
  conv=>lhs;unfold dJ
  rw[if_neg bad,if_neg (fun h=>h hE)]
  first | done | (cases lL g<;>rfl)
 have sX:=s1.trans hX;have cX:X.h.get S.nx=some (.cells [.int .i64 g.b8,nv,iv] false 0):=by rw[hX.2 _ lg1];exact c1
 have lgX:S.nx<X.nx:=Ag lg1 hX.1;try refine ae ?_
 refine aY ?_;refine bY ?_;intro X1 x1 m1 d1;refine cR (b:=X.nx) (af) (by simp only[↓sU,sD,rE,↓reduceIte,rA];rfl) d1 rfl rfl ?_;intro X2 x2 m2 d2;refine ae ?_;have hX2:Same X X2:=x2.same x1 (Af _);have cX2:X2.h.get S.nx=some (.cells [.int .i64 g.b8,nv,iv] false 0):=by rw[hX2.2 _ lgX];exact cX
 have lX2:X.nx<X2.nx:=by omega
 refine aC (aC (aMk (S0:=S) (gb:=S.nx) (db:=X.nx) (g:=g) H (ah p1) (af) hn hi (sX.trans hX2) cX2 au d2 lX2 (aw sX.1) au hN (fun x hx=>aBG (hall x hx)) ?_));intro F' S3 v hr q1 q5 q59;simp only[↓sU,sD,rE,↓reduceIte,rA,p1] at q1 q5;have sX2:=sX.trans hX2;have hdb:=sX.1;have s3:Same S S3:=⟨Bd sX2.1 hr.1.1,fun c hc=>(hr.1.2 c (Ag hc sX2.1) au).trans (sX2.2 c hc)⟩;have c3:S3.h.get S.nx=some (.cells [.int .i64 g.b8,nv,iv] false 0):=by rw[hr.1.2 _ au au];exact cX2
 have l3:S.nx<S3.nx:=by have:=hr.1.1;omega
 cases hw:lL g with
 | none=>
  rw[hw] at hr hform;have⟨_,hv,_⟩:=hr;have hv:v= -1:=by cases hv;rfl
  simp only at hform;rw[hform];refine aN (by simp only[↓sU,sD,rE,↓reduceIte,rA,q59,Ab (show v≠(g.bw.length:Int) by omega)]) ?_;refine aY (ae ?_);refine aI (ae ?_);exact s3
 | some T=>
  rw[hw] at hr hform;have⟨_,hv,hdeep⟩:=hr;have hv:v=((0+T.length:Nat):Int):=by cases hv;rfl
  simp only at hform;by_cases hT:T.length=g.bw.length;rotate_left
  ·rw[hform,if_pos hT];refine aN (by simp only[↓sU,sD,rE,↓reduceIte,rA,q59,Ab (show v≠(g.bw.length:Int) by omega)]) ?_;refine aY (ae ?_);refine aI (ae ?_);exact s3
  rw[if_neg (fun h=>h hT)] at hform;refine aM (by simp only[↓sU,sD,rE,↓reduceIte,rA,q59,Aa (show ¬v≠(g.bw.length:Int) by omega)]) (aH ?_);try refine ae ?_
  have ldeep:=aB4 (p:=0) hdeep rfl;refine dS (dk q5 ldeep ?_);by_cases h40:40<xZ 0 T
  ·rw[hform,if_pos h40];refine aN (by simp only[↓sU,sD,rE,↓reduceIte,rA,Ab h40]) ?_;refine aY (ae ?_);refine aI (ae ?_);exact s3
  rw[if_neg h40] at hform;refine aM (by simp only[↓sU,sD,rE,↓reduceIte,rA,Aa h40]) (aH ?_);try refine ae ?_
  rw[hform];clear hform hE hall q5 q59 hdeep ldeep;have hn3:=aW.same (E:=cI) bT hn s3;have hi3:=aW.same (E:=eT) dH hi s3;refine aC (aX (Q:=fun o A' Y=>(o= .normal/\aOP S3 S.nx g 0 A' Y)\/(o= .ret/\Same S3 Y/\(∃x∈g.bw,mis g x)/\aD 2 A'.F= .int .i64 10)) (aC (aJ ?_)) ?_)
  ·refine ap ?_;refine aO (bJ (aOP S3 S.nx g) ?_ g.bw.length _ _ ⟨rfl,Same.refl _,0,au,fun x hx=>(by simp at hx),by refine⟨?_,?_⟩<;>simp only[↓stU,aB,rE,↓reduceIte,rA,q1]⟩);clear q1;rintro k ⟨F,inr⟩ X ⟨q0,hX,i,hik,hm,p1,p6⟩;simp only at q0 p1 p6;subst q0;have cX:X.h.get S.nx=some (.cells [.int .i64 g.b8,nv,iv] false 0):=by rw[hX.2 _ l3];exact c3
   have lgX:S.nx<X.nx:=Ag l3 hX.1;refine dS ?_;simp only[↓stU,aB,rE,↓reduceIte,rA,p1,p6,aF,aE,fG cX,hnl];by_cases hlt:i<g.bw.length
   ·refine aN (by simp only[↓stU,aB,rE,↓reduceIte,rA,Ab (show(i:Int)<(g.bw.length:Int) by omega)]) (aH ?_);try refine ap ?_
    obtain⟨x,hx⟩:∃x,g.bw[i]? =some x:=⟨_,Ad hlt⟩;have hxm:=Cg hx;obtain⟨e,b,q,hia,hb,he,⟨a,bb,cc,rfl,ha,hbb,hcc⟩,hag,_⟩:=aW.at (aW.same (E:=cI) bT hn3 hX) ay hx;have w1:=dq i
    refine aC (aO (aC (aJ ?_)));refine ek p1 p6 @aF @aE (fG cX) @aQ hia hag ?_;refine bY ?_;intro X1 x1 m1 d1;refine cR (b:=X.nx) (aq) (by refine ap ?_;exact aR _) d1 rfl rfl ?_;intro X2 x2 m2 d2;refine ap ?_;have hX2:Same X X2:=x2.same x1 (Af _);have hS2X:=hX.trans hX2;have cX2:X2.h.get S.nx=some (.cells [.int .i64 g.b8,nv,iv] false 0):=by rw[hX2.2 _ lgX];exact cX
    have hla:=(ha.same hX2).len;have hsa:=dE.self ha;refine aC (aX (Q:=fun o A' Y=>o= .normal/\A'.inr=false/\Same X2 Y/\aD 1 A'.F= .ptr S.nx 0/\aD 6 A'.F= .int .i64 (i:Int)/\aD 101 A'.F= .bool (decide (mis g x))) (jA ?_) ?_)
    ·by_cases hk2:x.kind=2
     ·have⟨i0,i1⟩:=hok x hxm hk2;obtain⟨n,hn'⟩:∃n:Nat,x.info=(n:Int):=⟨x.info.toNat,au⟩;have hni:n<g.b7.length:=by omega
      obtain⟨y,hy⟩:∃y,g.b7[n]? =some y:=⟨_,Ad hni⟩;obtain⟨e',b',q',hia',hb',he',rfl,hag',hlf'⟩:=aW.at (aW.same (E:=eT) dH hi3 hS2X) ay hy;have hp0:=hlf' 0 _ rfl;have hp1:=hlf' 1 _ rfl;have hya:cm g x.info=y:=by unfold cm;rw[hn',Ae,show((n:Int)).toNat=n from rfl,hy];rfl
      have hmis:mis g x↔¬ (y.player=x.player/\y.b9=(x.next.length:Int)):=by
       unfold mis;rw[hya];exact⟨fun h=>h.2,fun h=>⟨hk2,h⟩⟩
      rw[hn'] at d2;by_cases hpl:y.player=x.player
      ·have hd1:decide (y.player≠x.player)=false:=Aa (fun h=>h hpl);have hd2:decide (mis g x)=decide (y.b9≠(x.next.length:Int)):=by
        rw[Cu,Er,Er,hmis];exact⟨fun h e=>h ⟨hpl,e⟩,fun h e=>h e.2⟩
       rw[hd2];simp only[↓stU,aB,rE,↓reduceIte,rA,p1,p6,aF,aV,aE,iY d2,eI d2,dT d2,dV d2,mU cX2,aQ,hia',hp0,hp1,hla,hsa,si,Ab hk2,hd1];exact Same.nx _ _
      ·have hd1:decide (y.player≠x.player)=true:=Ab hpl;have hd2:decide (mis g x)=true:=Ab (hmis.2 fun h=>hpl h.1);rw[hd2];simp only[↓stU,aB,rE,↓reduceIte,rA,p1,p6,aF,aV,aE,iY d2,eI d2,dT d2,dV d2,mU cX2,aQ,hia',hp0,hp1,hla,hsa,si,Ab hk2,hd1];exact Same.nx _ _
     ·rw[Aa (show ¬mis g x from fun h=>hk2 h.1)];simp only[↓stU,aB,rE,↓reduceIte,rA,p1,p6,aF,aV,aE,iY d2,Aa hk2];exact Same.nx _ _
    clear p1 p6;rintro o ⟨F,inr⟩ Y ⟨rfl,q0,hY,p1,p6,pb⟩;simp only at q0 p1 p6 pb;subst q0;have hS2Y:=hS2X.trans hY;try refine ap ?_
    by_cases hmx:mis g x
    ·refine aN (by simp only[↓stU,aB,rE,↓reduceIte,rA,pb,Ab hmx]) ?_;refine aY (ap ?_);refine aI (ap ?_);exact .inr ⟨hS2Y,x,hxm,hmx⟩
    ·refine aM (by simp only[↓stU,aB,rE,↓reduceIte,rA,pb,Aa hmx]) (aH ?_);try refine ap ?_
     refine aJ (ec p6 w1 ?_);refine⟨k - 1,au,rfl,hS2Y,i+1,au,fun y hy=>?_,by refine⟨?_,?_⟩<;>simp only[↓stU,aB,rE,↓reduceIte,rA,p1]⟩;rw[Cz,hx] at hy;rcases Ct.1 hy with h | h
     ·exact hm y h
     ·simp at h;rw[h];exact hmx
   ·refine aM (by simp only[↓stU,aB,rE,↓reduceIte,rA,Aa (show ¬ (i:Int)<(g.bw.length:Int) by omega)]) (bD ?_);refine ap ?_;have hk0:k=0:=by omega
    subst hk0;exact .inl ⟨rfl,hX,i,hik,hm,by refine⟨?_,?_⟩<;>simp only[↓stU,aB,rE,↓reduceIte,rA,p1,p6]⟩
  clear q1;rintro o ⟨F,inr⟩ Y (⟨rfl,q0,hY,i,hik,hm,p1,p6⟩ | ⟨rfl,hY,hmx,p2⟩);rotate_left
  ·simp only at p2;simp only[↓stU,aB,rE,↓reduceIte,rA,p2];unfold aA0;rw[if_pos hmx];exact⟨rfl,s3.trans hY⟩
  simp only at q0 p1;subst q0;rw[Am au] at hm;unfold aA0;rw[if_neg (fun⟨x,h1,h2⟩=>hm x h1 h2)];clear p6 hik hm i;have sY:=s3.trans hY;have cY:Y.h.get S.nx=some (.cells [.int .i64 g.b8,nv,iv] false 0):=by rw[hY.2 _ l3];exact c3
  try refine ap ?_
  refine aY (ec p1 (gR cY) ?_);refine aK (ap ?_);refine aG (aGQ H (aW.same (E:=cI) bT hn sY) (aW.same (E:=eT) dH hi sY) hln au hok) ?_;rintro sv Z ⟨hZ,hsv⟩;try refine ap ?_
  have sZ:=sY.trans hZ;have hsl:=hsv.len;rw[aJS] at hsl;refine aC (aX (Q:=fun o A' X=>(o= .normal/\aOK Z sv g 0 A' X)\/(o= .ret/\Same Z X/\(0:Int)∈gN g/\aD 2 A'.F= .int .i64 18)) (aC (aJ ?_)) ?_)
  ·refine ap ?_;refine aO (bJ (aOK Z sv g) ?_ g.b7.length _ _ ⟨rfl,Same.refl _,0,au,fun j hj=>au,by refine⟨?_,?_⟩<;>simp only[↓stU,aB,rE,↓reduceIte,rA]⟩);rintro k ⟨F,inr⟩ X ⟨q0,hX,i,hik,hm,p8,p9⟩;simp only at q0 p8 p9;subst q0;refine dS (ed p8 p9 hsl ?_);by_cases hlt:i<g.b7.length
   ·refine aN (by simp only[↓stU,aB,rE,↓reduceIte,rA,Ab (show(i:Int)<(g.b7.length:Int) by omega)]) (aH ?_);try refine ap ?_
    obtain⟨e,b,q,hia,hb,he,⟨a,rfl,ha⟩,_,hlf⟩:=aW.at (aW.same (E:=SlE) ct hsv hX) ay (aBc hlt);have hl0:=hlf 0 a rfl;rw[Bi] at hl0;have hal:=ha.len;have w1:=dq i
    refine aC (aO (aC (aJ ?_)));simp only[↓stU,aB,rE,↓reduceIte,rA,p8,p9,aQ,hia,hl0,hal];by_cases h0:lP g.bw 0 i= []
    ·refine aN (by simp only[↓stU,aB,rE,↓reduceIte,rA,Ab (show(((lP g.bw 0 i).length:Nat):Int)=0 by rw[h0];rfl)]) ?_;refine aY (ap ?_);refine aI (ap ?_);exact .inr ⟨hX,aBL.2 ⟨i,hlt,h0⟩⟩
    ·have hpos:=Du.2 h0;refine aM (by simp only[↓stU,aB,rE,↓reduceIte,rA,Aa (show ¬ (((lP g.bw 0 i).length:Nat):Int)=0 by omega)]) (aH ?_);try refine ap ?_
     refine aJ (ec p9 w1 ?_);refine⟨k - 1,au,rfl,hX,i+1,au,fun j hj=>?_,by refine⟨?_,?_⟩<;>simp only[↓stU,aB,rE,↓reduceIte,rA,p8]⟩;by_cases hji:j=i
     ·rw[hji];exact h0
     ·exact hm j au
   ·refine aM (by simp only[↓stU,aB,rE,↓reduceIte,rA,Aa (show ¬ (i:Int)<(g.b7.length:Int) by omega)]) (bD ?_);refine ap ?_;have hk0:k=0:=by omega
    subst hk0;exact .inl ⟨rfl,hX,i,hik,hm,by refine⟨?_,?_⟩<;>simp only[↓stU,aB,rE,↓reduceIte,rA,p8,p9]⟩
  rintro o ⟨F,inr⟩ X (⟨rfl,q0,hX,i,hik,hm,p8,p9⟩ | ⟨rfl,hX,h0,p2⟩);rotate_left
  ·simp only at p2;refine d9 p2 ?_;rw[if_pos h0];exact⟨rfl,sZ.trans hX⟩
  simp only at q0 p8;subst q0;have hne:∀j,j<g.b7.length->lP g.bw 0 j≠ []:=fun j hj=>hm j au;rw[if_neg (fun h=>by have⟨j,hj,h0⟩:=aBL.1 h;exact hne j hj h0)];clear p9 hik hm i;try refine ap ?_
  refine aC (aX (Q:=fun o A' Y=>(o= .normal/\∃k,aOG X sv g k A' Y/\k<=1)\/(o= .ret/\Same X Y/\¬aDD (gN g)/\aD 2 A'.F= .int .i64 9)) (aC (aJ ?_)) ?_)
  ·refine ap ?_;refine aO (bJ (aOG X sv g) ?_ g.b7.length _ _ ⟨rfl,Same.refl _,1,au,au,fun j j0 j1=>au,by refine⟨?_,?_⟩<;>simp only[↓stU,aB,rE,↓reduceIte,rA,p8]⟩);clear p8;rintro k ⟨F,inr⟩ Y ⟨q0,hY,i,hik,hi1,hm,p8,p10⟩;simp only at q0 p8 p10;subst q0;refine dS (ed p8 p10 hsl ?_);by_cases hlt:i<g.b7.length
   ·refine aN (by simp only[↓stU,aB,rE,↓reduceIte,rA,Ab (show(i:Int)<(g.b7.length:Int) by omega)]) (aH ?_);try refine ap ?_
    have hsY:=aW.same (E:=SlE) ct hsv (hX.trans hY);obtain⟨e,b,q,hia,hb,he,⟨a,rfl,ha⟩,_,hlf⟩:=aW.at hsY ay (aBc hlt);obtain⟨e',b',q',hia',hb',he',⟨a',rfl,ha'⟩,_,hlf'⟩:=aW.at hsY ay (aBc (show i - 1<g.b7.length by omega));have hl0:=hlf 0 a rfl;have hl0':=hlf' 0 a' rfl;rw[Bi] at hl0 hl0';have hp:=Du.2 (hne i hlt);have hp':=Du.2 (hne (i - 1) au);have ia:=ha.cw hp;have la:=ha.ld hp;have ia':=ha'.cw hp';have la':=ha'.ld hp';have sa:=dE.self ha;have sa':=dE.self ha';have hlt2:(lP g.bw 0 i).getD 0 0<(lP g.bw 0 (i - 1)).getD 0 0↔(gN g).getD i 0<(gN g).getD (i - 1) 0:=by
     rw[aB7 hlt,aB7 (show i - 1<g.b7.length by omega)];rcases tF i g.bw 0 with h | ⟨x,L,h1,h2⟩
     ·exact absurd h.1 (hne i hlt)
     ·rcases tF (i - 1) g.bw 0 with h | ⟨x',L',h1',h2'⟩
      ·exact absurd h.1 (hne (i - 1) au)
      ·rw[h1,h1',h2,h2'];show(x:Int)<(x':Int)↔_;omega
    have w1:=dq i
    have w2:IntKind.i64.wrap ((i:Int) - 1)=((i - 1:Nat):Int):=by rw[wrap_i64 au au];omega
    refine aC (aO (aC (jA ?_)));simp only[↓stU,aB,rE,↓reduceIte,rA,p8,p10,aQ,aF7,hia,hia',hl0,hl0',ia,la,ia',la',sa,sa',w2];by_cases hbad:(lP g.bw 0 i).getD 0 0<(lP g.bw 0 (i - 1)).getD 0 0
    ·refine aN (by simp only[↓stU,aB,rE,↓reduceIte,rA,Ab hbad]) ?_;refine aY (ap ?_);refine aI (ap ?_);refine .inr ⟨hY.trans (Same.nx _ _),fun h=>?_⟩;exact h i au (by simp [gN];omega) (hlt2.1 hbad)
    ·refine aM (by simp only[↓stU,aB,rE,↓reduceIte,rA,Aa hbad]) (aH ?_);try refine ap ?_
     refine aJ (ec p10 w1 ?_);refine⟨k - 1,au,rfl,hY.trans (Same.nx _ _),i+1,au,au,fun j j0 j1=>?_,by refine⟨?_,?_⟩<;>simp only[↓stU,aB,rE,↓reduceIte,rA,p8]⟩;by_cases hji:j=i
     ·rw[hji];exact fun h=>hbad (hlt2.2 h)
     ·exact hm j j0 au
   ·refine aM (by simp only[↓stU,aB,rE,↓reduceIte,rA,Aa (show ¬ (i:Int)<(g.b7.length:Int) by omega)]) (bD ?_);refine ap ?_;exact .inl ⟨k,⟨rfl,hY,i,hik,hi1,hm,by refine⟨?_,?_⟩<;>simp only[↓stU,aB,rE,↓reduceIte,rA,p8,p10]⟩,au⟩
  clear p8;rintro o ⟨F,inr⟩ Y (⟨rfl,k,⟨q0,hY,i,hik,hi1,hm,p8,p10⟩,hk⟩ | ⟨rfl,hY,hno,p2⟩);rotate_left
  ·simp only at p2;refine d9 p2 ?_;rw[if_neg hno];exact⟨rfl,(sZ.trans hX).trans hY⟩
  simp only at q0;subst q0;have hris:aDD (gN g):=by
   unfold aDD;rw[show(gN g).length=g.b7.length by simp [gN]];rw[show min i g.b7.length=g.b7.length by omega] at hm;exact hm
  rw[if_pos hris];try refine ap ?_
  refine aY (ap ?_);refine aI (ap ?_);exact(sZ.trans hX).trans hY
end Go.Ev.Gl
