import Derived.Test.YtiiplmagnlcpbaaGreatDoorGl2
set_option linter.unusedSimpArgs false
set_option linter.unusedVariables false
open Nat renaming reduceEqDiff -> rE, reduceAdd -> rA
set_option maxHeartbeats 0
namespace Go.Ev.Gl
variable {fns:T dD}
def aBs(n:Nat):Prop:=n<B ^ 20000
def lJ(q:Rat):Prop:=aBs q.num.natAbs/\aBs q.den
theorem aBs.fits{n:Nat}(h:aBs n):Fits n:=Fits.of h ay
theorem aBs.mono{n m:Nat}(h:aBs m)(hn:n<=m):aBs n:=Cg hn h
theorem aBs.div{n m:Nat}(h:aBs n):aBs (n / m):=h.mono (Di ..)
theorem aBY(k:Nat):0<B ^ k:=Fx jB
theorem lO{a b i j:Nat}(ha:a<B ^ i)(hb:b<B ^ j):a * b<B ^ (i+j):=by
 rw[Hl];rcases An b with h | h
 ·subst h;rw[Nat.mul_zero];exact Ew (aBY i) (aBY j)
 ·exact Ag (Ey ha h) (Bh _ (Nat.le_of_lt hb))
theorem aCY{a b i:Nat}(ha:a<B ^ i)(hb:b<B ^ i):a+b<B ^ (i+1):=by
 rw[Cy];have hB:B=1000000000:=rfl;have:B ^ i * 2<=B ^ i * B:=Bh _ au;omega
theorem aBs.mul{a b:Nat}(ha:aBs a)(hb:aBs b):Fits (a * b):=Fits.of (lO ha hb) ay
theorem lJ.fits{q:Rat}(h:lJ q):aFC q:=⟨h.1.fits,h.2.fits⟩
theorem aKl(s:Bool)(n k:Nat):sg s (n * k)=sg s n * (k:Int):=by cases s<;>simp [sg]<;>grind
theorem aLY{S:St}{a b:AV}{p q:Rat}(H:Has fns)(hL:Laid S)(ha:cE S a p)(hb:cE S b q)(hp:lJ p)(hq:lJ q):eT fns (.fn 129 [] []) [a,b] S fun r S'=>cE S' r (p+q)/\Same S S':=by
 obtain⟨nv,dv,rfl,ha1,ha2⟩:=id ha;obtain⟨mv,ev,rfl,hb1,hb2⟩:=id hb;have⟨k,hk,hk0⟩:=aBH ha1;have⟨j,hj,hj0⟩:=aBH hb1;obtain⟨s,hs⟩:∃s,decide (p.num<0)=s:=⟨_,rfl⟩;obtain⟨t,ht⟩:∃t,decide (q.num<0)=t:=⟨_,rfl⟩;have ep:=aB7 p;have eq:=aB7 q;rw[hs] at ep;rw[ht] at eq;rw[hs] at ha;rw[ht] at hb;rw[hs,ht];refine bL H.f129 (by simp) ?_;refine aj ?_;refine bK ?_;refine cD (by simp only[↓stU,aG,rE,↓reduceIte,aS];rfl) ?_;intro S1 hS1 hn1 hc1;refine cD (by simp only[↓stU,aG,rE,↓reduceIte,aS];rfl) ?_;intro S2 hS2 hn2 hc2;refine cM ?_;intro S3 hS3 hn3 hc3;refine aj ?_;have g1:S3.h.get S.nx=some (.cells [.bool s,nv,dv] false 0):=by rw[hS3.2 _ au,hS2.2 _ au];exact hc1
 have g2:S3.h.get S1.nx=some (.cells [.bool t,mv,ev] false 0):=by rw[hS3.2 _ au];exact hc2
 have hS:=hS1.trans (hS2.trans hS3);have go:∀ (S4:St),Same S3 S4->∀ (v:AV) (Q:Rat),cE S4 v Q->∃c0 c1 c2,v= .agg [c0,c1,c2]/\S4.h.get S2.nx=some (.cells [.bool false,.ce,.ce] false 0)/\∀S5,cB S2.nx S4 S5->S5.h.get S2.nx=some (.cells [c0,c1,c2] false 0)->cE S5 (.agg [c0,c1,c2]) Q/\Same S S5:=by
  intro S4 hS4 v Q hv;obtain⟨c0,c1,c2,rfl⟩:=hv.cells;have hb4:S4.h.get S2.nx=some (.cells [.bool false,.ce,.ce] false 0):=by rw[hS4.2 _ au];exact hc3
  exact⟨c0,c1,c2,rfl,hb4,fun S5 hS5 hb5=>⟨hv.st hb4 rfl hS5 hb5,hS5.same (hS.trans hS4) au⟩⟩
 refine fA (di @aD @aC (gE g1) hk ?_);by_cases hk1:k=0
 ·refine aP (by simp only[↓sU,sD,rE,↓reduceIte,rA,Ac (show(k:Int)=0 by omega)]) ?_;refine bK (cp (mZ g2) ?_);refine aL ?_;try refine ae ?_
  refine aF (aDF H (hb.same hS) hq.fits) ?_;rintro v S4 ⟨hv,hS4⟩;obtain⟨c0,c1,c2,rfl,hb4,fin⟩:=go S4 hS4 v _ hv;refine dH (b:=S2.nx) (af) (by simp only[↓sU,sD,rE,↓reduceIte,rA,aS];rfl) hb4 rfl rfl ?_;intro S5 hS5 hn5 hb5;try refine ae ?_
  refine aK (c9 @bR (mZ hb5) ?_);have hp0:=aAT (hk0.1 hk1);rw[hp0,Rat.zero_add];exact fin S5 hS5 hb5
 refine aO (by simp only[↓sU,sD,rE,↓reduceIte,rA,Aa (show ¬ (k:Int)=0 by omega)]) (aJ ?_);try refine ae ?_
 refine fA (di @aD @aC (gE g2) hj ?_);by_cases hj1:j=0
 ·refine aP (by simp only[↓sU,sD,rE,↓reduceIte,rA,Ac (show(j:Int)=0 by omega)]) ?_;refine bK (cp (mZ g1) ?_);refine aL ?_;try refine ae ?_
  refine aF (aDF H (ha.same hS) hp.fits) ?_;rintro v S4 ⟨hv,hS4⟩;obtain⟨c0,c1,c2,rfl,hb4,fin⟩:=go S4 hS4 v _ hv;refine dH (b:=S2.nx) (af) (by simp only[↓sU,sD,rE,↓reduceIte,rA,aS];rfl) hb4 rfl rfl ?_;intro S5 hS5 hn5 hb5;try refine ae ?_
  refine aK (c9 @bR (mZ hb5) ?_);have hq0:=aAT (hj0.1 hj1);rw[hq0,Rat.add_zero];exact fin S5 hS5 hb5
 refine aO (by simp only[↓sU,sD,rE,↓reduceIte,rA,Aa (show ¬ (j:Int)=0 by omega)]) (aJ ?_);try refine ae ?_
 have hpn:0<p.num.natAbs:=by
   rcases An p.num.natAbs with h | h
   ·exact absurd (hk0.2 h) hk1
   ·exact h
 have hqn:0<q.num.natAbs:=by
   rcases An q.num.natAbs with h | h
   ·exact absurd (hj0.2 h) hj1
   ·exact h
 have hpd:=Nat.pos_of_ne_zero p.den_nz;have hqd:=Nat.pos_of_ne_zero q.den_nz;have⟨l1,i1,j1,v1⟩:=id ha1;have⟨l2,i2,j2,v2⟩:=id ha2;have⟨l3,i3,j3,v3⟩:=id hb1;have⟨l4,i4,j4,v4⟩:=id hb2;refine fA (c9 (mZ g1) (mZ g2) ?_);refine aL ?_;try refine ae ?_
 refine aF (aBy H (i1.same hS) (i2.same hS) (i3.same hS) (i4.same hS)) ?_;rintro _ S4 ⟨rfl,hS4⟩;try refine ae ?_
 have f1:S4.h.get S.nx=some (.cells [.bool s,nv,dv] false 0):=by rw[hS4.2 _ au];exact g1
 have f2:S4.h.get S1.nx=some (.cells [.bool t,mv,ev] false 0):=by rw[hS4.2 _ au];exact g2
 have hSS:=hS.trans hS4;by_cases hone:l1.length=1/\l2.length=1/\l3.length=1/\l4.length=1
 ·refine aP (by simp only[↓sU,sD,rE,↓reduceIte,rA,Ac hone]) ?_;have⟨o1,o2,o3,o4⟩:=hone;obtain⟨x1,rfl⟩:=De.1 o1;obtain⟨y1,rfl⟩:=De.1 o2;obtain⟨x2,rfl⟩:=De.1 o3;obtain⟨y2,rfl⟩:=De.1 o4;have u1:x1=p.num.natAbs:=by rw[<-v1];simp [eZ,dV]
  have u2:y1=p.den:=by rw[<-v2];simp [eZ,dV]
  have u3:x2=q.num.natAbs:=by rw[<-v3];simp [eZ,dV]
  have u4:y2=q.den:=by rw[<-v4];simp [eZ,dV]
  refine bK (c9 (mZ f1) (mZ f2) ?_);refine aL ?_;try refine ae ?_
  refine aF (aC2 H (hL.same hSS) (i1.same hSS) (i2.same hSS) (i3.same hSS) (i4.same hSS) (j1.1 _ (by simp)) (j2.1 _ (by simp)) (j3.1 _ (by simp)) (j4.1 _ (by simp)) au au au au) ?_;rintro v S5 ⟨hv,hS5⟩;obtain⟨c0,c1,c2,rfl,hb5,fin⟩:=go S5 (hS4.trans hS5) v _ hv;refine dH (b:=S2.nx) (af) (by simp only[↓sU,sD,rE,↓reduceIte,rA,aS];rfl) hb5 rfl rfl ?_;intro S6 hS6 hn6 hb6;try refine ae ?_
  refine aK (c9 @bR (mZ hb6) ?_);have e:p+q=mkRat (sg s x1) y1+mkRat (sg t x2) y2:=by
   rw[u1,u2,u3,u4,ep,eq,Fd,Fd]
  rw[e];exact fin S6 hS6 hb6
 refine aO (by simp only[↓sU,sD,rE,↓reduceIte,rA,Aa hone]) (aJ ?_);try refine ae ?_
 refine bK (di @aD @aC (iJ f1) (iJ f2) ?_);refine aL ?_;try refine ae ?_
 refine aF (uJ H (hL.same hSS) (ha2.same hSS) (hb2.same hSS) hp.2.fits hq.2.fits) ?_;rintro gv S5 ⟨hgv,hS5⟩;try refine ae ?_
 obtain⟨g,hg⟩:∃g,g=Nat.gcd p.den q.den:=⟨_,rfl⟩;have hgp:0<g:=by rw[hg];exact Dx _ hpd
 rw[<-hg] at hgv;have hS5':=hSS.trans hS5;have e1:S5.h.get S.nx=some (.cells [.bool s,nv,dv] false 0):=by have:=hS4.1;rw[hS5.2 _ au];exact f1
 have e2:S5.h.get S1.nx=some (.cells [.bool t,mv,ev] false 0):=by have:=hS4.1;rw[hS5.2 _ au];exact f2
 have lt1:S.nx<S5.nx:=by have:=hS4.1;have:=hS5.1;omega
 have lt2:S1.nx<S5.nx:=by have:=hS4.1;have:=hS5.1;omega
 refine aE (fJ (fun _=>False) ?_);intro S6 hS6;refine dy @aD @aC @aX (iJ e1) lt1 lt2 @Am (fL ha2) ?_;refine cF rfl ?_;try refine ae ?_
 refine aF (kS H (ha2.same (hS5'.trans hS6)) (hgv.same hS6) hp.2.fits hgp) ?_;rintro dA S7 ⟨hdA,hS7⟩;refine⟨hS7,?_⟩;refine dy @aD @aC @aX (iJ e2) lt1 lt2 @Am (fL hb2) ?_;refine cF rfl ?_;try refine ae ?_
 have h67:=hS6.trans hS7;refine aF (kS H (hb2.same (hS5'.trans h67)) (hgv.same h67) hq.2.fits hgp) ?_;rintro dB S8 ⟨hdB,hS8⟩;refine⟨hS8,?_⟩;try refine ae ?_
 have h68:=h67.trans hS8;have r1:S8.h.get S.nx=some (.cells [.bool s,nv,dv] false 0):=by rw[h68.2 _ lt1];exact e1
 have r2:S8.h.get S1.nx=some (.cells [.bool t,mv,ev] false 0):=by rw[h68.2 _ lt2];exact e2
 have lt1':S.nx<S8.nx:=Ag lt1 h68.1;have lt2':S1.nx<S8.nx:=Ag lt2 h68.1;have hS8':=hS5'.trans h68;refine aE (fJ (fun _=>False) ?_);intro S9 hS9;simp only[↓sU,sD,rE,↓reduceIte,rA,aD,aC,aX,oE r1,gE r1,lt1',lt2',Am,fL ha1];refine cF rfl ?_;try refine ae ?_
 refine aF (uA H.f139 H.f143 (ha1.same (hS8'.trans hS9)) (hdB.same hS9) hp.1.fits hq.2.div.fits) ?_;rintro xv S10 ⟨hxv,hS10⟩;refine⟨hS10,?_⟩;simp only[↓sU,sD,rE,↓reduceIte,rA,aD,aC,aX,oE r2,gE r2,lt1',lt2',Am,fL hb1];refine cF rfl ?_;try refine ae ?_
 have h910:=hS9.trans hS10;refine aF (uA H.f139 H.f143 (hb1.same (hS8'.trans h910)) (hdA.same (hS8.trans h910)) hq.1.fits hp.2.div.fits) ?_;rintro yv S11 ⟨hyv,hS11⟩;refine⟨hS11,?_⟩;try refine ae ?_
 refine cF rfl ?_;try refine ae ?_
 have hX:=lO hp.1 hq.2.div (b:=q.den / g);have hY:=lO hq.1 hp.2.div (b:=p.den / g);refine aF (aLL H (hxv.same hS11) hyv (hp.1.mul hq.2.div) (hq.1.mul hp.2.div)) ?_;rintro _ S12 ⟨u,zv,m,rfl,hzv,hm,hS12⟩;refine⟨hS12,?_⟩;refine c9 @tU @tP ?_;rw[aKl,aKl,ep,eq] at hm;have hmabs:m=(p.num * (q.den / g:Nat)+q.num * (p.den / g:Nat)).natAbs:=by rw[<-hm,pD]
 have a1:=Int.natAbs_add_le (p.num * (q.den / g:Nat)) (q.num * (p.den / g:Nat));rw[<-hmabs,Gz,Gz,Gn,Gn] at a1;have hmF:=Cg a1 (aCY hX hY);have hmFit:Fits m:=Fits.of hmF ay;have low:=aOs (n1:=p.num) (n2:=q.num) (d1:=p.den) (d2:=q.den) (g:=g) (c:=Nat.gcd m g) p.reduced q.reduced p.den_nz q.den_nz hg (by rw[<-hmabs]) u hm;rw[Fd,Fd] at low;have⟨lo1,lo2,lo3⟩:=low;have h912:=h910.trans (hS11.trans hS12);have hS12':=hS8'.trans h912;have z1:S12.h.get S.nx=some (.cells [.bool s,nv,dv] false 0):=by rw[h912.2 _ lt1'];exact r1
 have z2:S12.h.get S1.nx=some (.cells [.bool t,mv,ev] false 0):=by rw[h912.2 _ lt2'];exact r2
 have lt1'':S.nx<S12.nx:=Ag lt1' h912.1;have lt2'':S1.nx<S12.nx:=Ag lt2' h912.1;have h312:Same S3 S12:=hS4.trans (hS5.trans (h68.trans h912));have⟨kz,hkz,hkz0⟩:=aBH hzv;refine fA (cp hkz ?_);by_cases hm0:m=0
 ·have:=hkz0.2 hm0;refine aP (by simp only[↓sU,sD,rE,↓reduceIte,rA,Ac (show(kz:Int)=0 by omega)]) ?_;refine bK ?_;refine aL ?_;try refine ae ?_
  refine aF (uB H) ?_;rintro v S13 ⟨hv,hS13⟩;obtain⟨c0,c1,c2,rfl,hb13,fin⟩:=go S13 (h312.trans hS13) v _ hv;refine dH (b:=S2.nx) (af) (by simp only[↓sU,sD,rE,↓reduceIte,rA,aS];rfl) hb13 rfl rfl ?_;intro S14 hS14 hn14 hb14;try refine ae ?_
  refine aK (c9 @bR (mZ hb14) ?_);have e:p+q=0:=by
   rw[<-lo1,hm0,Nat.zero_div];cases u<;>simp [sg]
  rw[e];exact fin S14 hS14 hb14
 have hkzn:¬kz=0:=fun h=>hm0 (hkz0.1 h);refine aO (by simp only[↓sU,sD,rE,↓reduceIte,rA,Aa (show ¬ (kz:Int)=0 by omega)]) (aJ ?_);try refine ae ?_
 have hgv12:=hgv.same (h68.trans h912);have⟨gl,gl1,gl2,gl3⟩:=id hgv12;refine fA ?_;try refine ae ?_
 refine aL ?_;try refine ae ?_
 refine aF (aD3 H.f117 gl1) ?_;rintro _ T ⟨rfl,hT⟩;rw[hT];try refine ae ?_
 by_cases hg1:gl= [1]
 ·refine aP (by simp only[↓sU,sD,rE,↓reduceIte,rA,Ac hg1]) ?_;have hge:g=1:=by rw[<-gl3,hg1,qL]
  refine bK (di @aD @aC (iJ z1) (iJ z2) ?_);refine aL ?_;try refine ae ?_
  refine aF (uA H.f139 H.f143 (ha2.same hS12') (hb2.same hS12') hp.2.fits hq.2.fits) ?_;rintro dd S13 ⟨hdd,hS13⟩;refine di @yF @kJ (eS hzv) (eS hdd) ?_;rw[hge,Nat.gcd_one_right,Hb,Hb,Hb] at lo1 lo2;have hv:cE S13 (.agg [.bool u,zv,dd]) (p+q):=by
   rw[<-lo1];exact nR (hzv.same hS13) hdd (Hg p.den_nz q.den_nz) lo2 (fun h=>absurd h hm0)
  have⟨c0,c1,c2,he,hb13,fin⟩:=go S13 (h312.trans hS13) _ _ hv;cases he;refine dH (b:=S2.nx) (af) (by simp only[↓sU,sD,rE,↓reduceIte,rA,aS];rfl) hb13 rfl rfl ?_;intro S14 hS14 hn14 hb14;try refine ae ?_
  refine aK (c9 @bR (mZ hb14) ?_);exact fin S14 hS14 hb14
 refine aO (by simp only[↓sU,sD,rE,↓reduceIte,rA,Aa hg1]) (aJ ?_);try refine ae ?_
 refine bK ?_;try refine ae ?_
 refine aL ?_;try refine ae ?_
 have hgF:Fits g:=hp.2.fits.mono (by rw[hg];exact Gt _ hpd);refine aF (uJ H (hL.same hS12') hzv hgv12 hmFit hgF) ?_;rintro cv S13 ⟨hcv,hS13⟩;try refine ae ?_
 obtain⟨c,hc⟩:∃c,c=Nat.gcd m g:=⟨_,rfl⟩;rw[<-hc] at hcv lo1 lo2 lo3;have hcp:0<c:=by rw[hc];exact Dq _ hgp
 have lt2''':S1.nx<S13.nx:=Ag lt2'' hS13.1;have y2:S13.h.get S1.nx=some (.cells [.bool t,mv,ev] false 0):=by rw[hS13.2 _ lt2''];exact z2
 have ne2:¬S1.nx=S2.nx:=by omega
 refine aE (fJ (fun x=>x=S2.nx) ?_);intro S14 hS14;try refine ae ?_
 refine cF rfl ?_;try refine ae ?_
 refine aF (kS H (hzv.same (hS13.trans hS14)) (hcv.same hS14) hmFit hcp) ?_;rintro w1 S15 ⟨hw1,hS15⟩;refine⟨hS15,?_⟩;refine dy @aD @aC @aX (iJ y2) lt2''' ne2 @Am (fL hb2) ?_;refine cF rfl ?_;try refine ae ?_
 have h1415:=hS14.trans hS15;refine aF (kS H (hb2.same (hS12'.trans (hS13.trans h1415))) (hcv.same h1415) hq.2.fits hcp) ?_;rintro w2 S16 ⟨hw2,hS16⟩;refine⟨hS16,?_⟩;try refine ae ?_
 refine cF rfl ?_;try refine ae ?_
 have h1416:=h1415.trans hS16;refine aF (uA H.f139 H.f143 (hdA.same (hS8.trans (h912.trans (hS13.trans h1416)))) hw2 hp.2.div.fits hq.2.div.fits) ?_;rintro w3 S17 ⟨hw3,hS17⟩;refine⟨hS17,?_⟩;refine du @gL @yF @kJ (eS hw1) (eS hw3) ?_;have hv:cE S17 (.agg [.bool u,w1,w3]) (p+q):=by
  rw[<-lo1];refine nR (hw1.same (hS16.trans hS17)) hw3 lo3 lo2 (fun h=>?_);have:c ∣ m:=by rw[hc];exact Cw ..
  have:=Hd (Hj au this) hcp;omega
 have⟨c0,c1,c2,he,hb17,fin⟩:=go S17 (h312.trans (hS13.trans (h1416.trans hS17))) _ _ hv;cases he;refine pR (b:=S2.nx) rfl (af) (by simp only[↓sU,sD,rE,↓reduceIte,rA,aS];rfl) hb17 rfl rfl rfl ?_;intro S18 hS18 hn18 hb18;try refine ae ?_
 refine aK (c9 @bR (mZ hb18) ?_);exact fin S18 hS18 hb18
theorem aHJ{S:St}{a b:AV}{p q:Rat}(H:Has fns)(hL:Laid S)(ha:cE S a p)(hb:cE S b q)(hp:lJ p)(hq:lJ q):eT fns (.fn 125 [] []) [a,b] S fun r S'=>cE S' r (p * q)/\Same S S':=by
 have hB:B=1000000000:=rfl;obtain⟨nv,dv,rfl,ha1,ha2⟩:=id ha;obtain⟨mv,ev,rfl,hb1,hb2⟩:=id hb;have⟨k,hk,hk0⟩:=aBH ha1;have⟨j,hj,hj0⟩:=aBH hb1;obtain⟨s,hs⟩:∃s,decide (p.num<0)=s:=⟨_,rfl⟩;obtain⟨t,ht⟩:∃t,decide (q.num<0)=t:=⟨_,rfl⟩;have ep:=aB7 p;have eq:=aB7 q;rw[hs] at ep;rw[ht] at eq;rw[hs] at ha;rw[ht] at hb;rw[hs,ht];refine bL H.f125 (by simp) ?_;refine aj ?_;refine bK ?_;refine cD (by simp only[↓stU,aG,rE,↓reduceIte,aS];rfl) ?_;intro S1 hS1 hn1 hc1;refine cD (by simp only[↓stU,aG,rE,↓reduceIte,aS];rfl) ?_;intro S2 hS2 hn2 hc2;refine cM ?_;intro S3 hS3 hn3 hc3;refine aj ?_;have g1:S3.h.get S.nx=some (.cells [.bool s,nv,dv] false 0):=by rw[hS3.2 _ au,hS2.2 _ au];exact hc1
 have g2:S3.h.get S1.nx=some (.cells [.bool t,mv,ev] false 0):=by rw[hS3.2 _ au];exact hc2
 have hS:=hS1.trans (hS2.trans hS3);have go:∀ (S4:St),Same S3 S4->∀ (v:AV) (Q:Rat),cE S4 v Q->∃c0 c1 c2,v= .agg [c0,c1,c2]/\S4.h.get S2.nx=some (.cells [.bool false,.ce,.ce] false 0)/\∀S5,cB S2.nx S4 S5->S5.h.get S2.nx=some (.cells [c0,c1,c2] false 0)->cE S5 (.agg [c0,c1,c2]) Q/\Same S S5:=by
  intro S4 hS4 v Q hv;obtain⟨c0,c1,c2,rfl⟩:=hv.cells;have hb4:S4.h.get S2.nx=some (.cells [.bool false,.ce,.ce] false 0):=by rw[hS4.2 _ au];exact hc3
  exact⟨c0,c1,c2,rfl,hb4,fun S5 hS5 hb5=>⟨hv.st hb4 rfl hS5 hb5,hS5.same (hS.trans hS4) au⟩⟩
 by_cases hz:k=0\/j=0
 ·have e:p * q=0:=by
   rcases hz with h | h
   ·rw[aAT (hk0.1 h),Rat.zero_mul]
   ·rw[aAT (hj0.1 h),Rat.mul_zero]
  refine aE (aE (bG (Q:=fun o A' S'=>o= .normal/\S'=S3/\aB 4 A'.F= .ptr S2.nx 0/\aB 18 A'.F= .bool true) ?_ ?_))
  ·refine aM ?_;by_cases hk1:k=0
   ·simp only[↓sU,sD,rE,↓reduceIte,rA,aD,aC,gE g1,hk,Ac (show(k:Int)=0 by omega)]
   ·have hj1:j=0:=by omega
    simp only[↓sU,sD,rE,↓reduceIte,rA,aD,aC,gE g1,gE g2,hk,hj,Aa (show ¬ (k:Int)=0 by omega),Ac (show(j:Int)=0 by omega)]
  rintro o ⟨F,inr⟩ S' ⟨rfl,hS',p4,p18⟩;simp only at p4 p18;rw[hS'];try refine ae ?_
  refine aP (ah p18) ?_;refine bK ?_;refine aL ?_;try refine ae ?_
  refine aF (uB H) ?_;rintro v S4 ⟨hv,hS4⟩;obtain⟨c0,c1,c2,rfl,hb4,fin⟩:=go S4 hS4 v _ hv;refine dH (b:=S2.nx) (ah p4) (by simp only[↓sU,sD,rE,↓reduceIte,rA,aS];rfl) hb4 rfl rfl ?_;intro S5 hS5 hn5 hb5;try refine ae ?_
  refine aK (dh @bR p4 (mZ hb5) ?_);rw[e];exact fin S5 hS5 hb5
 refine fA ?_;refine dy @aD @aC (gE g1) (gE g2) hk hj (Aa (show ¬ (k:Int)=0 by omega)) (Aa (show ¬ (j:Int)=0 by omega)) ?_;refine aO (af) (aJ ?_);try refine ae ?_
 have hpn:0<p.num.natAbs:=by
   rcases An p.num.natAbs with h | h
   ·exact absurd (.inl (hk0.2 h)) hz
   ·exact h
 have hqn:0<q.num.natAbs:=by
   rcases An q.num.natAbs with h | h
   ·exact absurd (.inr (hj0.2 h)) hz
   ·exact h
 have hpd:=Nat.pos_of_ne_zero p.den_nz;have hqd:=Nat.pos_of_ne_zero q.den_nz;refine bK (du @aD @aC (oE g1) (oE g2) @aKM ?_);have⟨l1,i1,j1,v1⟩:=id ha1;have⟨l2,i2,j2,v2⟩:=id ha2;have⟨l3,i3,j3,v3⟩:=id hb1;have⟨l4,i4,j4,v4⟩:=id hb2;refine fA (c9 (mZ g1) (mZ g2) ?_);refine aL ?_;try refine ae ?_
 refine aF (aBy H (i1.same hS) (i2.same hS) (i3.same hS) (i4.same hS)) ?_;rintro _ S4 ⟨rfl,hS4⟩;try refine ae ?_
 have f1:S4.h.get S.nx=some (.cells [.bool s,nv,dv] false 0):=by rw[hS4.2 _ au];exact g1
 have f2:S4.h.get S1.nx=some (.cells [.bool t,mv,ev] false 0):=by rw[hS4.2 _ au];exact g2
 have hSS:=hS.trans hS4;have lt1:S.nx<S4.nx:=by have:=hS4.1;omega
 have lt2:S1.nx<S4.nx:=by have:=hS4.1;omega
 have ne1:¬S.nx=S2.nx:=by omega
 have ne2:¬S1.nx=S2.nx:=by omega
 by_cases hone:l1.length=1/\l2.length=1/\l3.length=1/\l4.length=1
 ·refine aP (by simp only[↓sU,sD,rE,↓reduceIte,rA,Ac hone]) ?_;have⟨o1,o2,o3,o4⟩:=hone;obtain⟨x1,rfl⟩:=De.1 o1;obtain⟨y1,rfl⟩:=De.1 o2;obtain⟨x2,rfl⟩:=De.1 o3;obtain⟨y2,rfl⟩:=De.1 o4;have u1:x1=p.num.natAbs:=by rw[<-v1];simp [eZ,dV]
  have u2:y1=p.den:=by rw[<-v2];simp [eZ,dV]
  have u3:x2=q.num.natAbs:=by rw[<-v3];simp [eZ,dV]
  have u4:y2=q.den:=by rw[<-v4];simp [eZ,dV]
  have b1:x1<B:=j1.1 _ (by simp);have b2:y1<B:=j2.1 _ (by simp);have b3:x2<B:=j3.1 _ (by simp);have b4:y2<B:=j4.1 _ (by simp);have m1:x1 * x2<=999999999 * 999999999:=Dw au au;have m2:y1 * y2<=999999999 * 999999999:=Dw au au;have w1:IntKind.u64.wrap (x1:Int)=(x1:Int):=wrap_u64 au au;have w2:IntKind.u64.wrap (y1:Int)=(y1:Int):=wrap_u64 au au;have w3:IntKind.u64.wrap (x2:Int)=(x2:Int):=wrap_u64 au au;have w4:IntKind.u64.wrap (y2:Int)=(y2:Int):=wrap_u64 au au;have w5:IntKind.u64.wrap ((x1:Int) * (x2:Int))=((x1 * x2:Nat):Int):=by rw[<-Bk];exact wrap_u64 au au
  have w6:IntKind.u64.wrap ((y1:Int) * (y2:Int))=((y1 * y2:Nat):Int):=by rw[<-Bk];exact wrap_u64 au au
  have k1:=i1.same hSS;have k2:=i2.same hSS;have k3:=i3.same hSS;have k4:=i4.same hSS;have oo:∀ {v:AV} {x:Nat},cO S v [x]->aM1 (fun c=>c=S2.nx) S4.nx (nQ v 0):=fun h=>aPN h (fun b hb=>au) au;refine aE (fJ (fun c=>c=S2.nx) ?_);intro S5 hS5;simp only[↓sU,sD,rE,↓reduceIte,rA,aD,aC,aX,gE f1,iJ f1,gE f2,iJ f2,lt1,lt2,ne1,ne2,Am,jO k1,jO k2,jO k3,jO k4,aMA,tF k1,tF k2,tF k3,tF k4,tD k1,tD k2,tD k3,tD k4,oo i1,oo i2,oo i3,oo i4,w1,w2,w3,w4,w5,w6];refine cF rfl ?_;try refine ae ?_
  refine aF (rT H (hL.same (hSS.trans hS5)) (Ew au au) (Ew au au) au au) ?_;rintro v S6 ⟨hv,hS6⟩;refine⟨hS6,?_⟩;obtain⟨c0,c1,c2,rfl,hb6,fin⟩:=go S6 (hS4.trans (hS5.trans hS6)) v _ hv;refine pR (b:=S2.nx) rfl (af) (by simp only[↓sU,sD,rE,↓reduceIte,rA,aS];rfl) hb6 rfl rfl rfl ?_;intro S7 hS7 hn7 hb7;try refine ae ?_
  refine aK (c9 @bR (mZ hb7) ?_);have e:p * q=mkRat (sg (s !=t) (x1 * x2)) (y1 * y2):=by
   rw[aNs,<-Rat.mkRat_mul_mkRat,u1,u2,u3,u4,ep,eq,Fd,Fd]
  rw[e];exact fin S7 hS7 hb7
 refine aO (by simp only[↓sU,sD,rE,↓reduceIte,rA,Aa hone]) (aJ ?_);try refine ae ?_
 obtain⟨g,hg⟩:∃g,g=Nat.gcd p.num.natAbs q.den:=⟨_,rfl⟩;obtain⟨h,hh⟩:∃h,h=Nat.gcd q.num.natAbs p.den:=⟨_,rfl⟩;have hgp:0<g:=by rw[hg];exact Dx _ hpn
 have hhp:0<h:=by rw[hh];exact Dx _ hqn
 have⟨lo1,lo2,lo3⟩:=aLW (n1:=p.num.natAbs) (n2:=q.num.natAbs) (d1:=p.den) (d2:=q.den) p.reduced q.reduced p.den_nz q.den_nz hg hh s t;rw[ep,eq,Fd,Fd] at lo1;refine aE (fJ (fun _=>False) ?_);intro S5 hS5;simp only[↓sU,sD,rE,↓reduceIte,rA,aD,aC,aX,gE f1,iJ f2,lt1,lt2,Am,fL ha1,fL hb2];refine cF rfl ?_;try refine ae ?_
 have hSS5:=hSS.trans hS5;refine aF (uJ H (hL.same hSS5) (ha1.same hSS5) (hb2.same hSS5) hp.1.fits hq.2.fits) ?_;rintro gv S6 ⟨hgv,hS6⟩;rw[<-hg] at hgv;refine⟨hS6,?_⟩;simp only[↓sU,sD,rE,↓reduceIte,rA,aD,aC,aX,iJ f1,gE f2,lt1,lt2,Am,fL ha2,fL hb1];refine cF rfl ?_;try refine ae ?_
 have hSS6:=hSS5.trans hS6;refine aF (uJ H (hL.same hSS6) (hb1.same hSS6) (ha2.same hSS6) hq.1.fits hp.2.fits) ?_;rintro hv S7 ⟨hhv,hS7⟩;rw[<-hh] at hhv;refine⟨hS7,?_⟩;try refine ae ?_
 have hSS7:=hSS6.trans hS7;have h47:=hS5.trans (hS6.trans hS7);have r1:S7.h.get S.nx=some (.cells [.bool s,nv,dv] false 0):=by rw[h47.2 _ lt1];exact f1
 have r2:S7.h.get S1.nx=some (.cells [.bool t,mv,ev] false 0):=by rw[h47.2 _ lt2];exact f2
 have lt1':S.nx<S7.nx:=Ag lt1 h47.1;have lt2':S1.nx<S7.nx:=Ag lt2 h47.1;refine aE (fJ (fun _=>False) ?_);intro S8 hS8;refine dy @aD @aC @aX (gE r1) lt1' lt2' @Am (fL ha1) ?_;refine cF rfl ?_;try refine ae ?_
 have hSS8:=hSS7.trans hS8;refine aF (kS H (ha1.same hSS8) (hgv.same (hS7.trans hS8)) hp.1.fits hgp) ?_;rintro u1 S9 ⟨hu1,hS9⟩;refine⟨hS9,?_⟩;refine dy @aD @aC @aX (gE r2) lt1' lt2' @Am (fL hb1) ?_;refine cF rfl ?_;try refine ae ?_
 have hSS9:=hSS8.trans hS9;refine aF (kS H (hb1.same hSS9) (hhv.same (hS8.trans hS9)) hq.1.fits hhp) ?_;rintro u2 S10 ⟨hu2,hS10⟩;refine⟨hS10,?_⟩;try refine ae ?_
 refine cF rfl ?_;try refine ae ?_
 refine aF (uA H.f139 H.f143 (hu1.same hS10) hu2 hp.1.div.fits hq.1.div.fits) ?_;rintro u3 S11 ⟨hu3,hS11⟩;refine⟨hS11,?_⟩;try refine ae ?_
 have h711:=hS8.trans (hS9.trans (hS10.trans hS11));have hSS11:=hSS7.trans h711;have z1:S11.h.get S.nx=some (.cells [.bool s,nv,dv] false 0):=by rw[h711.2 _ lt1'];exact r1
 have z2:S11.h.get S1.nx=some (.cells [.bool t,mv,ev] false 0):=by rw[h711.2 _ lt2'];exact r2
 have lt1'':S.nx<S11.nx:=Ag lt1' h711.1;have lt2'':S1.nx<S11.nx:=Ag lt2' h711.1;refine aE (fJ (fun x=>x=S2.nx) ?_);intro S12 hS12;simp only[↓sU,sD,rE,↓reduceIte,rA,aD,aC,aX,iJ z1,lt1'',lt2'',ne1,ne2,Am,fL ha2];refine cF rfl ?_;try refine ae ?_
 have hSS12:=hSS11.trans hS12;refine aF (kS H (ha2.same hSS12) (hhv.same (h711.trans hS12)) hp.2.fits hhp) ?_;rintro e1 S13 ⟨he1,hS13⟩;refine⟨hS13,?_⟩;simp only[↓sU,sD,rE,↓reduceIte,rA,aD,aC,aX,iJ z2,lt1'',lt2'',ne1,ne2,Am,fL hb2];refine cF rfl ?_;try refine ae ?_
 have hSS13:=hSS12.trans hS13;refine aF (kS H (hb2.same hSS13) (hgv.same (hS7.trans (h711.trans (hS12.trans hS13)))) hq.2.fits hgp) ?_;rintro e2 S14 ⟨he2,hS14⟩;refine⟨hS14,?_⟩;try refine ae ?_
 refine cF rfl ?_;try refine ae ?_
 refine aF (uA H.f139 H.f143 (he1.same hS14) he2 hp.2.div.fits hq.2.div.fits) ?_;rintro e3 S15 ⟨he3,hS15⟩;refine⟨hS15,?_⟩;refine du @gL @yF @kJ (eS hu3) (eS he3) ?_;have h1115:=hS12.trans (hS13.trans (hS14.trans hS15));have hv:cE S15 (.agg [.bool (s !=t),u3,e3]) (p * q):=by
  rw[<-lo1];refine nR (hu3.same h1115) he3 lo3 lo2 (fun h0=>?_);have d1:g ∣ p.num.natAbs:=by rw[hg];exact Cw ..
  have d2:h ∣ q.num.natAbs:=by rw[hh];exact Cw ..
  have a1:=Hd (Hj hpn d1) hgp;have a2:=Hd (Hj hqn d2) hhp;have:=Ew a1 a2;omega
 have⟨c0,c1,c2,he,hb15,fin⟩:=go S15 (hS4.trans (h47.trans (h711.trans h1115))) _ _ hv;cases he;refine pR (b:=S2.nx) rfl (af) (by simp only[↓sU,sD,rE,↓reduceIte,rA,aS];rfl) hb15 rfl rfl rfl ?_;intro S18 hS18 hn18 hb18;try refine ae ?_
 refine aK (c9 @bR (mZ hb18) ?_);exact fin S18 hS18 hb18
def eK(q:Rat):Prop:=q.num.natAbs<B ^ 1024/\q.den<B ^ 1024
theorem qG{l:bt}(h:oK l)(K:Nat):l.length<=K↔val l<B ^ K:=by
 constructor
 ·intro hl;exact Ag (iA h.1) (Ci jB hl)
 ·exact aC0 h
theorem aLf{S:St}{v:AV}{q:Rat}(H:Has fns)(h:cE S v q):eT fns (.fn 144 [] []) [v] S fun r S'=>∃b,r= .bool b/\(b=true↔eK q)/\Same S S':=by
 obtain⟨nv,dv,rfl,⟨l1,i1,j1,v1⟩,⟨l2,i2,j2,v2⟩⟩:=h;have e1:=qG j1 1024;have e2:=qG j2 1024;rw[v1] at e1;rw[v2] at e2;refine bL H.f144 (by simp) ?_;refine aj ?_;refine bK ?_;refine cD (by simp only[↓stU,aG,rE,↓reduceIte,aS];rfl) ?_;intro S1 hS1 hn1 hb1;refine aj ?_;refine bK ?_;by_cases h1:l1.length<=1024
 ·have d1:decide ((l1.length:Int)<=1024)=true:=Ac au;by_cases h2:l2.length<=1024
  ·have d2:decide ((l2.length:Int)<=1024)=true:=Ac au;refine dy @aD @aC (gE hb1) (iJ hb1) i1.len i2.len d1 d2 ?_;refine aK (ae ?_);exact⟨true,rfl,⟨fun _=>⟨e1.1 h1,e2.1 h2⟩,fun _=>rfl⟩,hS1⟩
  ·have d2:decide ((l2.length:Int)<=1024)=false:=Aa au;refine dy @aD @aC (gE hb1) (iJ hb1) i1.len i2.len d1 d2 ?_;refine aK (ae ?_);exact⟨false,rfl,⟨fun h=>(by cases h),fun h=>absurd (e2.2 h.2) h2⟩,hS1⟩
 ·have d1:decide ((l1.length:Int)<=1024)=false:=Aa au;refine du @aD @aC (gE hb1) i1.len d1 ?_;refine aK (ae ?_);exact⟨false,rfl,⟨fun h=>(by cases h),fun h=>absurd (e1.2 h.1) h1⟩,hS1⟩
open Classical in
noncomputable def chk(l:bt):Int:=if 1024<l.length then 4 else if oK l then 0 else 3
noncomputable def nH(l m:bt):Int:=if chk l≠0 then chk l else if chk m≠0 then chk m else if m= [] then 6 else 0
noncomputable def yB(s:Bool)(l m:bt):Int:=if nH l m≠0 then nH l m else if(l= []/\s=true)\/Nat.gcd (val l) (val m)≠1 then 3 else 0
theorem aA5{l:bt}:chk l=0↔l.length<=1024/\oK l:=by
 unfold chk;by_cases h1:1024<l.length
 ·rw[if_pos h1];constructor
  ·intro h;cases h
  ·intro h;omega
 ·rw[if_neg h1];by_cases h2:oK l
  ·rw[if_pos h2];exact⟨fun _=>⟨au,h2⟩,fun _=>rfl⟩
  ·rw[if_neg h2];exact⟨fun h=>(by cases h),fun h=>absurd h.2 h2⟩
theorem aCn{l m:bt}:nH l m=0↔(l.length<=1024/\oK l)/\(m.length<=1024/\oK m)/\m≠ []:=by
 unfold nH;by_cases h1:chk l=0
 ·rw[if_neg (by simp [h1])];by_cases h2:chk m=0
  ·rw[if_neg (by simp [h2])];rw[aA5] at h1 h2;by_cases h3:m= []
   ·rw[if_pos h3];exact⟨fun h=>(by cases h),fun h=>absurd h3 h.2.2⟩
   ·rw[if_neg h3];exact⟨fun _=>⟨h1,h2,h3⟩,fun _=>rfl⟩
  ·rw[if_pos h2];exact⟨fun h=>absurd h h2,fun h=>absurd (aA5.2 h.2.1) h2⟩
 ·rw[if_pos h1];exact⟨fun h=>absurd h h1,fun h=>absurd (aA5.2 h.1) h1⟩
theorem aMB{s:Bool}{l m:bt}:yB s l m=0↔nH l m=0/\¬ (l= []/\s=true)/\Nat.gcd (val l) (val m)=1:=by
 unfold yB;by_cases h1:nH l m=0
 ·rw[if_neg (by simp [h1])];by_cases h2:(l= []/\s=true)\/Nat.gcd (val l) (val m)≠1
  ·rw[if_pos h2];refine⟨fun h=>(by cases h),fun h=>?_⟩;rcases h2 with h2 | h2
   ·exact absurd h2 h.2.1
   ·exact absurd h.2.2 h2
  ·rw[if_neg h2];refine⟨fun _=>⟨h1,fun h=>h2 (.inl h),?_⟩,fun _=>rfl⟩;apply Classical.byContradiction;intro h;exact h2 (.inr h)
 ·rw[if_pos h1];exact⟨fun h=>absurd h h1,fun h=>absurd h.1 h1⟩
def aT7(S:St)(v:AV)(l:bt)(k:Nat)(A:bN)(S':St):Prop:=
 A.inr=false/\S'=S/\∃i:Nat,i+k=l.length/\aB 0 A.F=v/\aB 8 A.F=v/\aB 9 A.F= .int .i64 (l.length:Int)/\aB 10 A.F= .int .i64 (i:Int)/\cK (l.take i)
theorem zR{S:St}{v:AV}{l:bt}(H:Has fns)(h:cO S v l):eT fns (.fn 151 [] []) [v] S fun r S'=>r= .int .i64 (chk l)/\S'=S:=by
 have hB:B=1000000000:=rfl;refine bL H.f151 (by simp) ?_;refine aj ?_;refine bK (aj ?_);refine fA (ek h.len ?_);by_cases h1:1024<l.length
 ·refine aP (by simp only[↓stU,aG,rE,↓reduceIte,Ac (show(1024:Int)<(l.length:Int) by omega)]) ?_;refine bK (aj ?_);refine aK ?_;simp only[↓stU,aG,rE,↓reduceIte,chk,if_pos h1]
 refine aO (by simp only[↓stU,aG,rE,↓reduceIte,Aa (show ¬ (1024:Int)<(l.length:Int) by omega)]) (aJ ?_);refine aj ?_;have bad:¬oK l->chk l=3:=fun hn=>by unfold chk;rw[if_neg h1,if_neg hn]
 refine fA (ek h.len ?_);refine bG (Q:=fun o A' S'=>S'=S/\((o= .normal/\A'.inr=false/\aB 0 A'.F=v/\cK l)\/(o= .ret/\aB 2 A'.F= .int .i64 3/\¬oK l))) ?_ ?_
 ·refine aQ (bX (aT7 S v l) ?_ l.length _ _ ⟨rfl,rfl,0,au,ak,ak,ak,ak,by simp [cK]⟩);rintro k ⟨F,inr⟩ S' ⟨q0,hS',i,hik,p0,p8,p9,p10,hsm⟩;simp only at q0 p0 p8 p9 p10;subst q0;rw[hS'];refine bK ?_;by_cases hi:i<l.length
  ·refine er p9 p10 (Ac (show(i:Int)<(l.length:Int) by omega)) ?_;refine aE (aP (ak) (aJ ?_));refine aj ?_;have hld:=h.ld hi;rw[Ae] at hld;have htk:l.take (i+1)=l.take i++ [l[i]?.getD 0]:=by rw[Dh,Ad hi];rfl
   have hmem:l[i]?.getD 0∈l:=by rw[Ad hi];exact Cv hi
   generalize l[i]?.getD 0=x at *;refine aE (aQ (aE (aM ?_)));refine eu p8 p10 (h.cq hi) hld ?_;refine bK (aj ?_);by_cases hx:1000000000<=x
   ·refine aP (by simp only[↓stU,aG,rE,↓reduceIte,Ac (show(1000000000:Int)<=(x:Int) by omega)]) ?_;refine bK (aj ?_);refine aK (aj ?_);exact .inr fun hn=>by have:=hn.1 x hmem;omega
   ·refine aO (by simp only[↓stU,aG,rE,↓reduceIte,Aa (show ¬ (1000000000:Int)<=(x:Int) by omega)]) (aJ ?_);refine aj ?_;refine aM ?_;have w1:=dk i
    refine eo p10 w1 ?_;refine⟨k - 1,au,rfl,rfl,i+1,au,am p0,am p8,am p9,ak,?_⟩;rw[htk];exact cK.append.2 ⟨hsm,yR au⟩
  ·refine er p9 p10 (Aa (show ¬ (i:Int)<(l.length:Int) by omega)) ?_;refine aE (aO (ak) (bS ?_));refine ek p0 ?_;rw[Ay au] at hsm;exact .inl hsm
 rintro o ⟨F,inr⟩ S' ⟨hS',⟨rfl,q0,p0,hsm⟩ | ⟨rfl,p2,hbad⟩⟩
 ·simp only at q0 p0;subst q0;rw[hS'];try refine aj ?_
  have hnorm:oK l↔l.getLast? ≠some 0:=⟨fun hn=>hn.2,fun hn=>⟨hsm,hn⟩⟩;refine aE (aE (bG (Q:=fun o A' S'=>o= .normal/\S'=S/\∃b,aB 28 A'.F= .bool b/\(b=true↔¬oK l)) ?_ ?_))
  ·refine aM ?_;by_cases h0:l= []
   ·subst h0;refine eo p0 h.len ?_;exact⟨false,by simp [uE]⟩
   ·have hp:=Ep.2 h0;obtain⟨j,hj⟩:∃j,l.length=j+1:=⟨l.length - 1,au⟩;have hld:=h.ld (i:=j) au;rw[Ae] at hld;have hlast:l.getLast? =some (l[j]?.getD 0):=by
     rw[List.getLast?_eq_getElem?,hj,Er,Ad au];rfl
    have w1:IntKind.i64.wrap ((l.length:Int) - 1)=(j:Int):=by rw[wrap_i64 au au];omega
    refine ff p0 h.len (Ac (show(0:Int)<(l.length:Int) by omega)) w1 (h.cq (show j<l.length by omega)) hld ?_;refine⟨decide (((l[j]?.getD 0:Nat):Int)=0),rfl,?_⟩;rw[hnorm,hlast];simp
  rintro o ⟨F,inr⟩ S' ⟨rfl,hS',b,p28,hb⟩;simp only at p28;rw[hS'];try refine aj ?_
  cases b with
  | true=>
   refine aP (am p28) ?_;refine bK (aj ?_);refine aK ?_;simp only[↓stU,aG,rE,↓reduceIte,bad (hb.1 rfl)]
  | false=>
   refine aO (am p28) (aJ ?_);try refine aj ?_
   refine bK (aj ?_);refine aK ?_;have hn:oK l:=Classical.byContradiction fun h=>by have:=hb.2 h;cases this
   simp only[↓stU,aG,rE,↓reduceIte,aA5.2 ⟨au,hn⟩]
 ·simp only at p2;rw[hS'];simp only[↓stU,aG,rE,↓reduceIte,p2,bad hbad]
theorem aJn{S:St}{a b:AV}{l m:bt}(H:Has fns)(ha:cO S a l)(hb:cO S b m):eT fns (.fn 140 [] []) [a,b] S fun r S'=>r= .int .i64 (nH l m)/\S'=S:=by
 refine bL H.f140 (by simp) ?_;refine aj ?_;refine bK (aj ?_);refine fA (aj ?_);refine aL (aj ?_);refine aF (zR H ha) ?_;rintro _ T ⟨rfl,hT⟩;rw[hT];try refine aj ?_
 refine bK (aj ?_);by_cases h1:chk l=0
 ·refine aO (by simp only[↓stU,aG,rE,↓reduceIte,h1];rfl) (aJ ?_);refine aj ?_;refine fA (aj ?_);refine aL (aj ?_);refine aF (zR H hb) ?_;rintro _ T ⟨rfl,hT⟩;rw[hT];try refine aj ?_
  refine bK (aj ?_);by_cases h2:chk m=0
  ·refine aO (by simp only[↓stU,aG,rE,↓reduceIte,h2];rfl) (aJ ?_);refine aj ?_;refine fA (ek hb.len ?_);by_cases h3:m= []
   ·refine aP (by simp only[↓stU,aG,rE,↓reduceIte,h3];rfl) ?_;refine bK (aj ?_);refine aK ?_;have e:nH l m=6:=by unfold nH;rw[if_neg (by simp [h1]),if_neg (by simp [h2]),if_pos h3]
    simp only[↓stU,aG,rE,↓reduceIte,e]
   ·have:=Ep.2 h3;refine aO (by simp only[↓stU,aG,rE,↓reduceIte,Aa (show ¬ (m.length:Int)=0 by omega)]) (aJ ?_);refine aj ?_;refine bK (aj ?_);refine aK ?_;simp only[↓stU,aG,rE,↓reduceIte,nH,h1,h2,h3];simp
  ·refine aP (by simp only[↓stU,aG,rE,↓reduceIte,Ac (show chk m≠0 from h2)]) ?_;refine bK (aj ?_);refine aK ?_;simp only[↓stU,aG,rE,↓reduceIte,nH,h1];simp [h2]
 ·refine aP (by simp only[↓stU,aG,rE,↓reduceIte,Ac (show chk l≠0 from h1)]) ?_;refine bK (aj ?_);refine aK ?_;simp only[↓stU,aG,rE,↓reduceIte,nH];simp [h1]
def aEj(S:St)(v:AV)(s:Bool)(l m:bt):Prop:=∃nv dv,v= .agg [.bool s,nv,dv]/\cO S nv l/\cO S dv m
theorem aEj.same{S S':St}{v:AV}{s:Bool}{l m:bt}(h:aEj S v s l m)(hs:Same S S'):aEj S' v s l m:=by
 have⟨nv,dv,h1,h2,h3⟩:=h;exact⟨nv,dv,h1,h2.same hs,h3.same hs⟩
theorem aDh{S:St}{v:AV}{s:Bool}{l m:bt}(H:Has fns)(hL:Laid S)(h:aEj S v s l m):eT fns (.fn 123 [] []) [v] S fun r S'=>r= .int .i64 (yB s l m)/\Same S S':=by
 obtain⟨nv,dv,rfl,h1,h2⟩:=h;refine bL H.f123 (by simp) ?_;refine aj ?_;refine bK ?_;refine cD (by simp only[↓stU,aG,rE,↓reduceIte,aS];rfl) ?_;intro S1 hS1 hn1 hb1;refine aj ?_;refine fA (eu @aD @aC (gE hb1) (iJ hb1) ?_);refine aL (aj ?_);refine aF (aJn H (h1.same hS1) (h2.same hS1)) ?_;rintro _ T ⟨rfl,hT⟩;rw[hT];try refine aj ?_
 refine bK (aj ?_);by_cases hp:nH l m=0
 ·refine aO (by simp only[↓stU,aG,rE,↓reduceIte,hp];rfl) (aJ ?_);refine aj ?_;have⟨⟨q1,q2⟩,⟨q3,q4⟩,q5⟩:=aCn.1 hp;have n1:dG S nv (val l):=⟨l,h1,q2,rfl⟩;have n2:dG S dv (val m):=⟨m,h2,q4,rfl⟩;have f1:Fits (val l):=Fits.of (iA q2.1) au;have f2:Fits (val m):=Fits.of (iA q4.1) au;have hr:yB s l m=if(l= []/\s=true)\/Nat.gcd (val l) (val m)≠1 then 3 else 0:=by unfold yB;rw[if_neg (by simp [hp])]
  refine aE (aE (bG (Q:=fun o A' S'=>o= .normal/\Same S S'/\∃b,aB 27 A'.F= .bool b/\(b=true↔(l= []/\s=true)\/Nat.gcd (val l) (val m)≠1)) ?_ ?_))
  ·refine aM ?_;have cop:∀ (F:Fr),aB 20 F= .bool false->aB 22 F=nv->aB 24 F=dv->¬ (l= []/\s=true)->pU fns [oc 25 141 [(.t 22),(.t 24)] 0,og 26 20 false 0 (.un .not (.t 25)),oq 27 (.pick (.t 20) (.c (.bool true)) (.t 26))] F S1 (fun F' S'=>Same S S'/\∃b,aB 27 F'= .bool b/\(b=true↔(l= []/\s=true)\/Nat.gcd (val l) (val m)≠1)):=by
    intro F p20 p22 p24 hns;refine aL (eo p22 p24 ?_);refine aF (aGE H (hL.same hS1) (n1.same hS1) (n2.same hS1) f1 f2) ?_;rintro _ S2 ⟨rfl,hS2⟩;refine eo p20 @uX ?_;refine⟨hS1.trans hS2,_,rfl,?_⟩;simp [hns]
   by_cases h0:l= []
   ·subst h0;cases s with
    | true=>
     simp only[↓stU,aG,rE,↓reduceIte,aD,aC,oE hb1,gE hb1,h1.len,Co,Int.natCast_zero,decide_true];exact⟨hS1,true,rfl,by simp⟩
    | false=>
     simp only[↓stU,aG,rE,↓reduceIte,aD,aC,oE hb1,gE hb1,iJ hb1,h1.len,Co,Int.natCast_zero,decide_true];refine aEf (cop _ (ak) (ak) (ak) (by simp)) ?_;rintro F S' ⟨k1,b,k2,k3⟩;exact⟨k1,b,k2,by simpa using k3⟩
   ·have:=Ep.2 h0;refine fg @aD @aC (oE hb1) (gE hb1) (iJ hb1) h1.len (Aa (show ¬ (l.length:Int)=0 by omega)) ?_;exact cop _ (ak) (ak) (ak) (by simp [h0])
  rintro o ⟨F,inr⟩ S' ⟨rfl,hS',b,p27,hb⟩;simp only at p27;try refine aj ?_
  cases b with
  | true=>
   refine aP (am p27) ?_;refine bK (aj ?_);refine aK ?_;simp only[↓stU,aG,rE,↓reduceIte,hr,if_pos (hb.1 rfl)];exact hS'
  | false=>
   refine aO (am p27) (aJ ?_);try refine aj ?_
   refine bK (aj ?_);refine aK ?_;simp only[↓stU,aG,rE,↓reduceIte,hr,if_neg (fun h=>by have:=hb.2 h;cases this)];exact hS'
 ·refine aP (by simp only[↓stU,aG,rE,↓reduceIte,Ac (show nH l m≠0 from hp)]) ?_;refine bK (aj ?_);refine aK ?_;have e:yB s l m=nH l m:=by unfold yB;rw[if_pos hp]
  refine ek e ?_;exact hS1
def uO(k:Nat)(q:Rat):Prop:=q.num.natAbs<B ^ k/\q.den<B ^ k
theorem uO.mono{k j:Nat}{q:Rat}(h:uO k q)(hk:k<=j):uO j q:=⟨Ag h.1 (Ci jB hk),Ag h.2 (Ci jB hk)⟩
theorem uO.half{k:Nat}{q:Rat}(h:uO k q)(hk:k<=20000):lJ q:=by unfold lJ aBs;exact uO.mono (j:=20000) h hk
theorem aDs{n:Int}{d:Nat}(hd:d≠0):(mkRat n d).num.natAbs<=n.natAbs/\(mkRat n d).den<=d:=by
 have hg:0<Nat.gcd n.natAbs d:=Dq _ au;rw[<-Rat.normalize_eq_mkRat hd,Rat.normalize_eq];refine⟨?_,Di ..⟩;simp only;rw[Int.natAbs_ediv_of_dvd (Int.ofNat_dvd_left.2 (Cw ..)),Gn];exact Di ..
theorem uO.mul{i j:Nat}{p q:Rat}(hp:uO i p)(hq:uO j q):uO (i+j) (p * q):=by
 rw[Rat.mul_def'];have⟨h1,h2⟩:=aDs (n:=p.num * q.num) (Hg p.den_nz q.den_nz);rw[Gz] at h1;exact⟨Cg h1 (lO hp.1 hq.1),Cg h2 (lO hp.2 hq.2)⟩
theorem uO.add{i j:Nat}{p q:Rat}(hp:uO i p)(hq:uO j q):uO (i+j+1) (p+q):=by
 rw[Rat.add_def'];have⟨h1,h2⟩:=aDs (n:=p.num * q.den+q.num * p.den) (Hg p.den_nz q.den_nz);have h3:=Int.natAbs_add_le (p.num * q.den) (q.num * p.den);rw[Gz,Gz,Gn,Gn] at h3;refine⟨Cg (Bb h1 h3) (aCY (lO hp.1 hq.2) (by rw[Fv];exact lO hq.1 hp.2)),Cg h2 (Ag (lO hp.2 hq.2) (Ci jB au))⟩
theorem uO.inv{i:Nat}{p:Rat}(hp:uO i p)(h0:p.num≠0):uO i p⁻¹ :=by
 rw[<-aKj h0];have⟨h1,h2⟩:=aNQ (n:=sg (decide (p.num<0)) p.den) (d:=p.num.natAbs) au (by rw[pD];exact Nat.Coprime.symm p.reduced);unfold uO;rw[h1,h2,pD];exact⟨hp.2,hp.1⟩
theorem aO3(k:Nat)(hk:0<k):uO k 0:=⟨aBY k,Nat.one_lt_pow au ay⟩
theorem cO.lay{S S':St}{v:AV}{l:bt}{b:Nat}(h:cO S v l)(hn:S.h.get b=none)(hs:cB b S S'):cO S' v l:=by
 rcases h with h | ⟨c,off,cap,o1,ds,rfl,hc,hlt,hcs,hel⟩
 ·exact .inl h
 ·have hcb:c≠b:=by
   rintro rfl;simp [cA,hn,aU] at hcs
  refine .inr ⟨c,off,cap,o1,ds,rfl,hc,Ag hlt hs.1,?_,hel⟩;unfold cA;rw[hs.2 c hlt hcb];exact hcs
theorem dG.lay{S S':St}{v:AV}{n:Nat}{b:Nat}(h:dG S v n)(hn:S.h.get b=none)(hs:cB b S S'):dG S' v n:=by
 have⟨l,h1,h2⟩:=h;exact⟨l,h1.lay hn hs,h2⟩
theorem cE.lay{S S':St}{v:AV}{q:Rat}{b:Nat}(h:cE S v q)(hn:S.h.get b=none)(hs:cB b S S'):cE S' v q:=by
 have⟨nv,dv,h1,h2,h3⟩:=h;exact⟨nv,dv,h1,h2.lay hn hs,h3.lay hn hs⟩
section
variable {W:Nat->Prop}{h0:T AB}{base:Nat}{d:Option Nat}{m i:Nat}{l:List AO}{F:Fr}{S:St}{last:Option Nat}{Q:Fr->St->List kB->Prop}
theorem gQ{j id:Nat}{bl:AB}{h:T AB}(ht:Nat.testBit m j=true):cG m [⟨j,id,bl⟩] h=([],h.set id (some bl)):=by
 unfold cG;rw[show Nat.testBit m (kB.mk j id bl).i=true from ht,aN];rfl
theorem aAb{f:cP}{args:List cP}{j id:Nat}{bl:AB}(ht:Nat.testBit m j=true)(h:oB last m=true)(hw:∀S2,cB id S S2->S2.nx=S.nx->S2.h.get id=some bl->eT fns (f.val F) (dE args F) S2 fun v S1=>Same S2 S1/\hJ fns W h0 base l (i+1) (cJ d F v) S1 [] (some i) Q):hJ fns W h0 base (⟨d,.x (.call f args),none,m⟩::l) i F S [⟨j,id,bl⟩] last Q:=by
 refine tT h ?_;rw[gQ ht];exact hw ⟨S.h.set id (some bl),S.nx⟩ ((cB.refl id S).put _) rfl fh
end
def aO5:bo:=[.bool false,.ce,.ce,.bool false,.ce,.ce]
noncomputable def aQF(x y:AV):Option AV:=aU (eQ aO5 [(0,3,x),(3,3,y)]) fun cs=>some (.agg cs)
theorem aJ6(x y:cP)(F:Fr)(h:T AB):iT (.build [.bool false,.ce,.ce,.bool false,.ce,.ce] [(0,3,x),(3,3,y)]) F h=aQF (x.val F) (y.val F):=rfl
theorem aDW(a b c d e f:AV):aQF (.agg [a,b,c]) (.agg [d,e,f])=some (.agg [a,b,c,d,e,f]):=rfl
noncomputable def bs1(x:AV)(id:Nat):Option (AV×AB):=aU (eQ (repeatL aO5 1) [(0 * 6,6,x)]) fun cs=>some (.sl id 0 1 1 false,.cells cs false 0)
noncomputable def bs2(x y:AV)(id:Nat):Option (AV×AB):=aU (eQ (repeatL aO5 2) [(0 * 6,6,x),(1 * 6,6,y)]) fun cs=>some (.sl id 0 2 2 false,.cells cs false 0)
theorem aKr(t:Nat)(x:cP)(F:Fr)(id:Nat):tA (.cm t 6 1 [.bool false,.ce,.ce,.bool false,.ce,.ce] [(0,x)]) F id=bs1 (x.val F) id:=rfl
theorem aQy(t:Nat)(x y:cP)(F:Fr)(id:Nat):tA (.cm t 6 2 [.bool false,.ce,.ce,.bool false,.ce,.ce] [(0,x),(1,y)]) F id=bs2 (x.val F) (y.val F) id:=rfl
theorem aNT(a b c d e f:AV)(id:Nat):bs1 (.agg [a,b,c,d,e,f]) id=some (.sl id 0 1 1 false,.cells [a,b,c,d,e,f] false 0):=rfl
theorem aQX(a b c d e f a' b' c' d' e' f':AV)(id:Nat):bs2 (.agg [a,b,c,d,e,f]) (.agg [a',b',c',d',e',f']) id=some (.sl id 0 2 2 false,.cells [a,b,c,d,e,f,a',b',c',d',e',f'] false 0):=rfl
theorem aMF{S:St}{x y z:AV}{q:Rat}(h:cE S (.agg [x,y,z]) q):wH [x,y,z]=true:=by
 have⟨nv,dv,he,h1,h2⟩:=h;cases he;have⟨l,k1,_⟩:=h1;have⟨m,k2,_⟩:=h2;have e1:∀ {S:St} {v:AV} {l:bt},cO S v l->∀r,wH (v::r)=wH r:=fun h r=>by
  rcases h with⟨_,h | h⟩ | ⟨_,_,_,_,_,h,_⟩<;>subst h<;>rfl
 show wH (y:: [z])=true;rw[e1 k1,e1 k2];rfl
theorem aE3{S:St}{a b c d e f:AV}{p q:Rat}(H:Has fns)(hL:Laid S)(hp:cE S (.agg [a,b,c]) p)(hq:cE S (.agg [d,e,f]) q)(fp:lJ p)(fq:lJ q):eT fns (.fn 124 [] []) [.agg [a,b,c,d,e,f]] S fun r S'=>cE S' r (p * q)/\Same S S':=by
 have⟨nv,dv,he,n1,n2⟩:=id hq;cases he;have⟨l1,i1,j1,v1⟩:=id n1;have⟨l2,i2,j2,v2⟩:=id n2;refine bL H.f124 (by simp) ?_;refine aj ?_;refine bK ?_;refine cD (by simp only[↓stU,aG,rE,↓reduceIte,aS];rfl) ?_;intro S1 hS1 hn1 hb1;refine cM ?_;intro S2 hS2 hn2 hb2;refine aj ?_;have hS:=hS1.trans hS2;have hb1':S2.h.get S.nx=some (.cells [a,b,c,.bool (decide (q.num<0)),e,f] false 0):=by rw[hS2.2 _ au];exact hb1
 have ld0:dJ (.ptr S.nx (0+0)) true 3 S2.h=some (.agg [a,b,c]):=by
  simp only[dJ,iQ,aN,oM,cA,hb1',aH,dN];rfl
 have ld3':dJ (.ptr S.nx (0+3)) true 3 S2.h=some (.agg [.bool (decide (q.num<0)),e,f]):=by
  simp only[dJ,iQ,aN,oM,cA,hb1',aH,dN];rfl
 have l0:dJ (.ptr S.nx (0+3+0)) false 1 S2.h=some (.bool (decide (q.num<0))):=by
  simp only[dJ,iQ,aR,jQ,cA,hb1',aH,dN,jY];rfl
 have l1':dJ (.ptr S.nx (0+3+1)) false 1 S2.h=some e:=by
  simp only[dJ,iQ,aR,jQ,cA,hb1',aH,dN,jY];rfl
 have l2':dJ (.ptr S.nx (0+3+2)) false 1 S2.h=some f:=by
  simp only[dJ,iQ,aR,jQ,cA,hb1',aH,dN,jY];rfl
 refine aE (aE (bG (Q:=fun o A' S'=>o= .normal/\S'=S2/\A'.inr=false/\aB 1 A'.F= .ptr S.nx 0/\aB 2 A'.F= .ptr S1.nx 0/\∃bb,aB 18 A'.F= .bool bb/\(bb=true->q=1)) ?_ ?_))
 ·refine aM (er @aD @aC l1' ?_);refine aL (aj ?_);refine aF (aD3 H.f117 (i1.same hS)) ?_;rintro _ T ⟨rfl,hT⟩;rw[hT];by_cases e1:l1= [1]
  ·refine eu (Ac e1) @aD @aC l2' ?_;refine aL (aj ?_);refine aF (aD3 H.f117 (i2.same hS)) ?_;rintro _ T ⟨rfl,hT⟩;rw[hT];by_cases e2:l2= [1]
   ·refine fa (Ac e2) @aD @aC l0 @uX ?_;refine⟨_,rfl,fun hb=>?_⟩;have a1:q.num.natAbs=1:=by rw[<-v1,e1,qL]
    have a2:q.den=1:=by rw[<-v2,e2,qL]
    have a3:¬q.num<0:=by simpa using hb
    have a4:q.num=1:=by omega
    rw[<-Fd q,a4,a2];rfl
   ·refine ek (Aa e2) ?_;exact⟨false,rfl,fun h=>by cases h⟩
  ·refine ek (Aa e1) ?_;exact⟨false,rfl,fun h=>by cases h⟩
 rintro o ⟨F,inr⟩ S' ⟨rfl,hS',q0,p1,p2,bb,p18,hbb⟩;simp only at q0 p1 p2 p18;subst q0;rw[hS'];try refine aj ?_
 cases bb with
 | true=>
  refine aP (am p18) ?_;refine bK (eu @aD p1 @aC ld0 ?_);refine dH (b:=S1.nx) (am p2) (by simp only[↓stU,aG,rE,↓reduceIte,aS];rfl) hb2 rfl rfl ?_;intro S3 hS3 hn3 hb3;refine aj ?_;refine aK (er @bR p2 (mZ hb3) ?_);rw[hbb rfl,Rat.mul_one];exact⟨(hp.same hS).st hb2 rfl hS3 hb3,hS3.same hS au⟩
 | false=>
  refine aO (am p18) (aJ ?_);refine aj ?_;refine bK (fa @aD p1 @aC ld0 ld3' ?_);refine aL (aj ?_);refine aF (aHJ H (hL.same hS) (hp.same hS) (hq.same hS) fp fq) ?_;rintro v S3 ⟨hv,hS3⟩;obtain⟨c0,c1,c2,rfl⟩:=hv.cells;have hb3:S3.h.get S1.nx=some (.cells [.bool false,.ce,.ce] false 0):=by rw[hS3.2 _ au];exact hb2
  refine dH (b:=S1.nx) (am p2) (by simp only[↓stU,aG,rE,↓reduceIte,aS];rfl) hb3 rfl rfl ?_;intro S4 hS4 hn4 hb4;refine aj ?_;refine aK (er @bR p2 (mZ hb4) ?_);exact⟨hv.st hb3 rfl hS4 hb4,hS4.same (hS.trans hS3) au⟩
theorem aLn{S:St}{x y z a b c d e f:AV}{cf:Nat}{u p q:Rat}(H:Has fns)(hL:Laid S)(hcf:S.h.get cf=some (.cells [.fn 124 [] []] false 0))(hcl:cf<S.nx)(hu:cE S (.agg [x,y,z]) u)(hp:cE S (.agg [a,b,c]) p)(hq:cE S (.agg [d,e,f]) q)(fu:lJ u)(fp:lJ p)(fq:lJ q)(fpq:lJ (p * q)):
  eT fns (.fn 128 [] [.ptr cf 0]) [.agg [x,y,z],.agg [a,b,c,d,e,f]] S fun r S'=>cE S' r (u+p * q)/\Same S S':=by
 have self3:∀ {S:St} {x y z:AV} {q:Rat},cE S (.agg [x,y,z]) q->cQ x x=true/\cQ y y=true/\cQ z z=true:=fun h=>by
  have⟨nv,dv,he,h1,h2⟩:=h;cases he;exact⟨uH _,fL h1,fL h2⟩
 have⟨s1,s2,s3⟩:=self3 hu;have⟨s4,s5,s6⟩:=self3 hp;have⟨s7,s8,s9⟩:=self3 hq;refine bL H.f128 (by simp) ?_;refine aj ?_;refine bK ?_;refine cD (by simp only[↓stU,aG,rE,↓reduceIte,aS];rfl) ?_;intro S1 hS1 hn1 hb1;refine cD (by simp only[↓stU,aG,rE,↓reduceIte,aS];rfl) ?_;intro S2 hS2 hn2 hb2;refine cM ?_;intro S3 hS3 hn3 hb3;refine aj ?_;have hS:=hS1.trans (hS2.trans hS3);have g1:S3.h.get S.nx=some (.cells [x,y,z] false 0):=by rw[hS3.2 _ au,hS2.2 _ au];exact hb1
 have g2:S3.h.get S1.nx=some (.cells [a,b,c,d,e,f] false 0):=by rw[hS3.2 _ au];exact hb2
 have g0:S3.h.get cf=some (.cells [.fn 124 [] []] false 0):=by rw[hS.2 _ hcl];exact hcf
 have ld6:dJ (.ptr S1.nx 0) true 6 S3.h=some (.agg [a,b,c,d,e,f]):=by
  simp only[dJ,iQ,aN,oM,cA,g2,aH,dN];rfl
 have sf:cQ (.fn 124 [] []) (.fn 124 [] [])=true:=rfl;have sa:cQ (.agg [x,y,z]) (.agg [x,y,z])=true:=aHj s1 s2 s3;have sb:cQ (.agg [a,b,c,d,e,f]) (.agg [a,b,c,d,e,f])=true:=by simp only[cQ,oZ,s4,s5,s6,s7,s8,s9,aN]
 have lt0:cf<S3.nx:=Ag hcl hS.1;have lt1:S.nx<S3.nx:=by omega
 have lt2:S1.nx<S3.nx:=by omega
 have ne0:¬cf=S2.nx:=by omega
 have ne1:¬S.nx=S2.nx:=by omega
 have ne2:¬S1.nx=S2.nx:=by omega
 refine aE (fJ (fun c=>c=S2.nx) ?_);intro S4 hS4;have hS4':=hS.trans hS4;simp only[↓sU,sD,rE,↓reduceIte,rA,mZ g1,oH g0,ld6,sf,sa,sb,lt0,lt1,lt2,ne0,ne1,ne2,Am];refine cF rfl ?_;try refine ae ?_
 refine aF (aE3 H (hL.same hS4') (hp.same hS4') (hq.same hS4') fp fq) ?_;rintro w S5 ⟨hw,hS5⟩;refine⟨hS5,?_⟩;try refine ae ?_
 refine cF rfl ?_;try refine ae ?_
 refine aF (aLY H (hL.same (hS4'.trans hS5)) (hu.same (hS4'.trans hS5)) hw fu fpq) ?_;rintro v S6 ⟨hv,hS6⟩;refine⟨hS6,?_⟩;obtain⟨c0,c1,c2,rfl⟩:=hv.cells;have h36:=hS4.trans (hS5.trans hS6);have hb6:S6.h.get S2.nx=some (.cells [.bool false,.ce,.ce] false 0):=by rw[h36.2 _ au];exact hb3
 refine pR (b:=S2.nx) rfl (af) (by simp only[↓sU,sD,rE,↓reduceIte,rA,aS];rfl) hb6 rfl rfl rfl ?_;intro S7 hS7 hn7 hb7;try refine ae ?_
 refine aK (c9 @bR (mZ hb7) ?_);exact⟨hv.st hb6 rfl hS7 hb7,hS7.same (hS.trans h36) au⟩
theorem aGM{S:St}{x y z:AV}{q:Rat}(H:Has fns)(h:cE S (.agg [x,y,z]) q)(hq:eK q):eT fns (.fn 126 [] []) [.agg [x,y,z]] S fun r S'=>r= .tup [.agg [x,y,z],.int .i64 0]/\cE S' (.agg [x,y,z]) q/\Same S S':=by
 refine bL H.f126 (by simp) ?_;refine aj ?_;refine bK ?_;refine cD (by simp only[↓stU,aG,rE,↓reduceIte,aS];rfl) ?_;intro S1 hS1 hn1 hb1;refine cM ?_;intro S2 hS2 hn2 hb2;refine aj ?_;have hS:=hS1.trans hS2;have g1:S2.h.get S.nx=some (.cells [x,y,z] false 0):=by rw[hS2.2 _ au];exact hb1
 refine fA (ek (mZ g1) ?_);refine aL (aj ?_);refine aF (aLf H (h.same hS)) ?_;rintro _ S3 ⟨bb,rfl,hbb,hS3⟩;have:bb=true:=hbb.2 hq;subst this;simp only[↓stU,aG,rE,↓reduceIte,uX,Bool.not_true];refine aO (ak) (aJ ?_);refine aj ?_;have g1':S3.h.get S.nx=some (.cells [x,y,z] false 0):=by rw[hS3.2 _ au];exact g1
 have g2':S3.h.get S1.nx=some (.cells [.bool false,.ce,.ce] false 0):=by rw[hS3.2 _ au];exact hb2
 refine bK (ek (mZ g1') ?_);refine dH (b:=S1.nx) (ak) (by simp only[↓stU,aG,rE,↓reduceIte,aS];rfl) g2' rfl rfl ?_;intro S4 hS4 hn4 hb4;refine aj ?_;refine aK (eo @bR (mZ hb4) ?_);exact⟨(h.same (hS.trans hS3)).st g2' rfl hS4 hb4,hS4.same (hS.trans hS3) au⟩
def vU(S:St)(bp i:Nat)(p q:Rat):Prop:=∃a b c d e f,(∀S':St,S'.h.get bp=S.h.get bp->dJ (.ptr bp (0+i * 6)) true 6 S'.h=some (.agg [a,b,c,d,e,f]))/\cE S (.agg [a,b,c]) p/\cE S (.agg [d,e,f]) q
def aQO(S:St)(bp n:Nat)(fv:AV)(part:Nat->Rat)(b3 b6:Nat)(k:Nat)(A:bN)(S':St):Prop:=
 A.inr=false/\∃i x y z,i+k=n/\aB 1 A.F=fv/\aB 3 A.F= .ptr b3 0/\aB 6 A.F= .ptr b6 0/\aB 9 A.F= .sl bp 0 n n false/\aB 10 A.F= .int .i64 (n:Int)/\aB 11 A.F= .int .i64 (i:Int)/\Same S S'/\b3<S'.nx/\b6<S'.nx/\S'.h.get b3=some (.cells [x,y,z] false 0)/\S'.h.get b6=some (.cells [.bool false,.ce,.ce] false 0)/\cE S' (.agg [x,y,z]) (part i)
theorem aLA{S:St}{x y z:AV}{cf bp n:Nat}{P:Nat->Rat×Rat}{part:Nat->Rat}(H:Has fns)(hL:Laid S)(hcf:S.h.get cf=some (.cells [.fn 124 [] []] false 0))(hcl:cf<S.nx)(hbl:bp<S.nx)(hn:n<=1000)
  (h0:cE S (.agg [x,y,z]) (part 0)) (hp:∀i,i<n->vU S bp i (P i).1 (P i).2) (hf:∀i,i<n->lJ (part i)/\lJ (P i).1/\lJ (P i).2/\lJ ((P i).1 * (P i).2)/\part (i+1)=part i+(P i).1 * (P i).2):
  eT fns (.fn 127 [] []) [.agg [x,y,z],.fn 128 [] [.ptr cf 0],.sl bp 0 n n false] S fun r S'=>cE S' r (part n)/\Same S S':=by
 have hlen:lB (.sl bp 0 n n false)=some (.int .i64 (n:Int)):=rfl;refine bL H.f127 (by simp) ?_;refine aj ?_;refine bK ?_;refine cD (by simp only[↓stU,aG,rE,↓reduceIte,aS];rfl) ?_;intro S1 hS1 hn1 hb1;refine cM ?_;intro S2 hS2 hn2 hb2;refine aj ?_;have hS:=hS1.trans hS2;have g1:S2.h.get S.nx=some (.cells [x,y,z] false 0):=by rw[hS2.2 _ au];exact hb1
 refine fA (ek hlen ?_);refine bG (Q:=fun o A' S'=>o= .normal/\aQO S bp n (.fn 128 [] [.ptr cf 0]) part S.nx S1.nx 0 A' S') ?_ ?_
 ·refine aQ (bX (aQO S bp n (.fn 128 [] [.ptr cf 0]) part S.nx S1.nx) ?_ n _ _ ⟨rfl,0,x,y,z,au,ak,ak,ak,ak,ak,ak,hS,au,au,g1,hb2,h0.same hS⟩);rintro k ⟨F,inr⟩ S' ⟨q0,i,x,y,z,hik,p1,p3,p6,p9,p10,p11,hSS,hn3,hn6,c3,c6,hr⟩;simp only at q0 p1 p3 p6 p9 p10 p11;subst q0;refine bK ?_;by_cases hi:i<n
  ·refine er p10 p11 (Ac (show(i:Int)<(n:Int) by omega)) ?_;refine aE (aP (ak) (aJ ?_));refine aj ?_;have⟨a,b,c,d,e,f,hld,hpp,hqq⟩:=hp i hi;have⟨f1,f2,f3,f4,hnext⟩:=hf i hi;have hia:dT (.slice 6) (.sl bp 0 n n false) i=some (.ptr bp (0+i * 6)):=by
    show bO (Nat.blt i n) (some (AV.ptr bp (0+i * 6))) none=_;rw[show Nat.blt i n=true from Ah hi];rfl
   refine aE (aQ (aE (aM ?_)));refine eu p9 p11 hia (hld S' (hSS.2 _ hbl)) ?_;refine cM ?_;intro S3 hS3 hn3' hb3;refine dH (b:=S'.nx) (ak) (by simp only[↓stU,aG,rE,↓reduceIte,aS];rfl) hb3 rfl rfl ?_;intro S4 hS4 hn4 hb4;refine aj ?_;have h34:Same S' S4:=hS4.same hS3 (Af _);have hS4':=hSS.trans h34;have k3:S4.h.get S.nx=some (.cells [x,y,z] false 0):=by rw[h34.2 _ hn3];exact c3
   have k6:S4.h.get S1.nx=some (.cells [.bool false,.ce,.ce] false 0):=by rw[h34.2 _ hn6];exact c6
   have ld6:dJ (.ptr S'.nx 0) true 6 S4.h=some (.agg [a,b,c,d,e,f]):=by
    simp only[dJ,iQ,aN,oM,cA,hb4,aH,dN];rfl
   refine aM (eu p1 p3 (mZ k3) ld6 ?_);refine aL (aj ?_);refine aF (aLn H (hL.same hS4') (by rw[hS4'.2 _ hcl];exact hcf) (Ag hcl hS4'.1) (hr.same h34) (hpp.same hS4') (hqq.same hS4') f1 f2 f3 f4) ?_;rintro v S5 ⟨hv,hS5⟩;obtain⟨c0,c1,c2,rfl⟩:=hv.cells;have m3:S5.h.get S.nx=some (.cells [x,y,z] false 0):=by rw[hS5.2 _ au];exact k3
   have m6:S5.h.get S1.nx=some (.cells [.bool false,.ce,.ce] false 0):=by rw[hS5.2 _ au];exact k6
   refine dH (b:=S.nx) (am p3) (by simp only[↓stU,aG,rE,↓reduceIte,aS];rfl) m3 rfl rfl ?_;intro S6 hS6 hn6' hb6;refine aj ?_;refine aM ?_;have w1:=dk i
   refine eo p11 w1 ?_;have hl5:=hS5.1;have hl6:=hS6.1;refine⟨k - 1,au,rfl,i+1,c0,c1,c2,au,am p1,am p3,am p6,am p9,am p10,ak,hS6.same (hS4'.trans hS5) (Af _),au,au,hb6,?_,?_⟩
   ·rw[hS6.2 _ au au];exact m6
   ·rw[hnext];exact hv.st m3 (aMF (hr.same (h34.trans hS5))) hS6 hb6
  ·refine er p10 p11 (Aa (show ¬ (i:Int)<(n:Int) by omega)) ?_;refine aE (aO (ak) (bS ?_));refine aj ?_;exact⟨rfl,i,x,y,z,au,am p1,am p3,am p6,am p9,am p10,am p11,hSS,hn3,hn6,c3,c6,hr⟩
 ·rintro o ⟨F,inr⟩ S' ⟨rfl,q0,i,x,y,z,hik,p1,p3,p6,p9,p10,p11,hSS,hn3,hn6,c3,c6,hr⟩;simp only at q0 p3 p6;subst q0;have:i=n:=by omega
  subst this;refine aj ?_;refine bK (eo p3 (mZ c3) ?_);refine dH (b:=S1.nx) (am p6) (by simp only[↓stU,aG,rE,↓reduceIte,aS];rfl) c6 rfl rfl ?_;intro S6 hS6 hn6' hb6;refine aj ?_;refine aK (er @bR p6 (mZ hb6) ?_);exact⟨hr.st c6 rfl hS6 hb6,hS6.same hSS au⟩
theorem aEA{S:St}{bp n:Nat}{P:Nat->Rat×Rat}{part:Nat->Rat}(H:Has fns)(hL:Laid S)(hbl:bp<S.nx)(hn:n<=1000)(h0:part 0=0)(hp:∀i,i<n->vU S bp i (P i).1 (P i).2)
  (hf:∀i,i<n->lJ (part i)/\lJ (P i).1/\lJ (P i).2/\lJ ((P i).1 * (P i).2)/\part (i+1)=part i+(P i).1 * (P i).2) (hin:eK (part n)):
  eT fns (.fn 105 [] []) [.sl bp 0 n n false] S fun r S'=>∃v,r= .tup [v,.int .i64 0]/\cE S' v (part n)/\Same S S':=by
 refine bL H.f105 (by simp) ?_;refine aj ?_;refine bK ?_;refine cM ?_;intro S1 hS1 hn1 hb1;refine aj ?_;refine bK ?_;refine cM ?_;intro S2 hS2 hn2 hb2;refine dH (b:=S1.nx) (ak) (by simp only[↓stU,aG,rE,↓reduceIte];rfl) hb2 rfl rfl ?_;intro S3 hS3 hn3 hb3;refine aj ?_;have hS13:Same S1 S3:=hS3.same hS2 (Af _);have hS:=hS1.trans hS13;have g1:S3.h.get S.nx=some (.cells [.bool false,.ce,.ce] false 0):=by rw[hS13.2 _ au];exact hb1
 refine bK ?_;refine aL (aj ?_);refine aF (uB H) ?_;rintro zv S4 ⟨hz,hS4⟩;obtain⟨z0,z1,z2,rfl⟩:=hz.cells;refine ek @uF ?_;refine aL (aj ?_);have hS':=hS.trans hS4;refine aF (aLA (cf:=S1.nx) (bp:=bp) (n:=n) (P:=P) (part:=part) H (hL.same hS') (by rw[hS4.2 _ au];exact hb3) (aw hS4.1) (Ag hbl hS'.1) hn (by rw[h0];exact hz) (fun i hi=>?_) hf) ?_
 ·have⟨a,b,c,d,e,f,h1,h2,h3⟩:=hp i hi;exact⟨a,b,c,d,e,f,fun T hT=>h1 T (by rw[hT,hS'.2 _ hbl]),h2.same hS',h3.same hS'⟩
 rintro v S5 ⟨hv,hS5⟩;obtain⟨c0,c1,c2,rfl⟩:=hv.cells;try refine aj ?_
 refine aL (aj ?_);refine aF (aGM H hv hin) ?_;rintro _ S6 ⟨rfl,hv6,hS6⟩;refine eo @tU @tP ?_;have h46:=hS4.trans (hS5.trans hS6);have g6:S6.h.get S.nx=some (.cells [.bool false,.ce,.ce] false 0):=by rw[h46.2 _ au];exact g1
 refine dH (b:=S.nx) (ak) (by simp only[↓stU,aG,rE,↓reduceIte,aS];rfl) g6 rfl rfl ?_;intro S7 hS7 hn7 hb7;refine aj ?_;refine aK (eo @bR (mZ hb7) ?_);exact⟨_,rfl,hv6.st g6 rfl hS7 hb7,hS7.same (hS.trans h46) (Af _)⟩
theorem aMM{S:St}{a b:AV}{s t:Bool}{l1 m1 l2 m2:bt}(H:Has fns)(hL:Laid S)(ha:aEj S a s l1 m1)(hb:aEj S b t l2 m2):eT fns (.fn 103 [] []) [a,b] S fun r S'=>r= .int .i64 (if yB s l1 m1≠0 then yB s l1 m1 else yB t l2 m2)/\Same S S':=by
 obtain⟨nv,dv,rfl,_,_⟩:=id ha;obtain⟨mv,ev,rfl,_,_⟩:=id hb;refine bL H.f103 (by simp) ?_;refine aj ?_;refine bK ?_;refine cD (by simp only[↓stU,aG,rE,↓reduceIte,aS];rfl) ?_;intro S1 hS1 hn1 hb1;refine cD (by simp only[↓stU,aG,rE,↓reduceIte,aS];rfl) ?_;intro S2 hS2 hn2 hb2;refine aj ?_;have hS:=hS1.trans hS2;have g1:S2.h.get S.nx=some (.cells [.bool s,nv,dv] false 0):=by rw[hS2.2 _ au];exact hb1
 refine fA (ek (mZ g1) ?_);refine aL (aj ?_);refine aF (aDh H (hL.same hS) (ha.same hS)) ?_;rintro _ S3 ⟨rfl,hS3⟩;try refine aj ?_
 refine bK (aj ?_);by_cases h0:yB s l1 m1=0
 ·refine aO (by simp only[↓stU,aG,rE,↓reduceIte,h0];rfl) (aJ ?_);refine aj ?_;have g2:S3.h.get S1.nx=some (.cells [.bool t,mv,ev] false 0):=by rw[hS3.2 _ au];exact hb2
  refine bK (ek (mZ g2) ?_);refine aL (aj ?_);refine aF (aDh H (hL.same (hS.trans hS3)) (hb.same (hS.trans hS3))) ?_;rintro _ S4 ⟨rfl,hS4⟩;try refine aj ?_
  refine aK ?_;have e:(if yB s l1 m1≠0 then yB s l1 m1 else yB t l2 m2)=yB t l2 m2:=by rw[if_neg (by simp [h0])]
  rw[e];refine aj ?_;exact hS.trans (hS3.trans hS4)
 ·refine aP (by simp only[↓stU,aG,rE,↓reduceIte,Ac (show yB s l1 m1≠0 from h0)]) ?_;refine bK (aj ?_);refine aK ?_;rw[if_pos h0];refine aj ?_;exact hS.trans hS3
theorem cE.raw{S:St}{v:AV}{q:Rat}(h:cE S v q)(hq:eK q):∃s l m,aEj S v s l m/\yB s l m=0:=by
 obtain⟨nv,dv,rfl,⟨l1,i1,j1,v1⟩,⟨l2,i2,j2,v2⟩⟩:=h;refine⟨_,l1,l2,⟨nv,dv,rfl,i1,i2⟩,aMB.2 ⟨aCn.2 ⟨⟨(qG j1 _).2 (by rw[v1];exact hq.1),j1⟩,⟨(qG j2 _).2 (by rw[v2];exact hq.2),j2⟩,?_⟩,?_,?_⟩⟩
 ·rintro rfl;rw[dV] at v2;exact q.den_nz v2.symm
 ·rintro⟨h1,h2⟩;subst h1;rw[dV] at v1;have:=Fb h2;omega
 ·rw[v1,v2];exact q.reduced
theorem aGK{S:St}{a b:AV}{p q:Rat}(H:Has fns)(hL:Laid S)(ha:cE S a p)(hb:cE S b q)(hp:eK p)(hq:eK q):eT fns (.fn 103 [] []) [a,b] S fun r S'=>r= .int .i64 0/\Same S S':=by
 have⟨s,l,m,h1,h2⟩:=ha.raw hp;have⟨t,l',m',h3,h4⟩:=hb.raw hq;refine aF (aMM H hL h1 h3) ?_;rintro r S' ⟨rfl,hS⟩;rw[h2,h4];exact⟨rfl,hS⟩
theorem oR{d m:Nat}{a:wS}{l:List AO}{F:Fr}{S:St}{Q:Fr->St->Prop}{v:AV}{bl:AB}(he:tA a F S.nx=some (v,bl))(h:∀S1,Same S S1->S1.nx=S.nx+1->S1.h.get S.nx=some bl->pU fns l (cJ (some d) F v) S1 Q):pU fns (⟨some d,.a a,none,m⟩::l) F S Q:=by
 rw[tG];refine⟨(v,bl),he,h _ (Same.alloc S _) rfl ?_⟩;simp only;rw[dq,if_pos rfl]
theorem eK.half{q:Rat}(h:eK q):lJ q:=uO.half (k:=1024) h ay
theorem aPi(k:Nat)(hk:k≠0):1<B ^ k:=Nat.one_lt_pow hk ay
theorem sI:eK 1:=by
 have h:=aPi 1024 ay;unfold eK;rw[show(1:Rat).num.natAbs=1 from rfl,show(1:Rat).den=1 from rfl];exact⟨h,h⟩
theorem aBq:eK 0:=aO3 1024 ay
theorem aEu{p q:Rat}(hp:eK p)(hq:eK q):lJ (p * q):=(uO.mul (i:=1024) (j:=1024) hp hq).half ay
theorem aRt:((sg false 1:Int):Rat)=1:=rfl
theorem yL{S:St}{v:AV}{q:Rat}(h:cE S v q):cQ v v=true:=by
 obtain⟨nv,dv,rfl,h1,h2⟩:=h;exact aHj (uH _) (fL h1) (fL h2)
def aT1(p q:Rat):Nat->Rat×Rat:=fun i=>if i=0 then(p,1) else(q,1)
def aT6(p q:Rat):Nat->Rat:=fun i=>if i=0 then 0 else if i=1 then p else p+q
theorem aRl{S:St}{bp:Nat}{a b c d e f a' b' c' d' e' f':AV}{p q p' q':Rat}(hb:S.h.get bp=some (.cells [a,b,c,d,e,f,a',b',c',d',e',f'] false 0))(h1:cE S (.agg [a,b,c]) p)(h2:cE S (.agg [d,e,f]) q)(h3:cE S (.agg [a',b',c']) p')(h4:cE S (.agg [d',e',f']) q'):vU S bp 0 p q/\vU S bp 1 p' q':=by
 refine⟨⟨a,b,c,d,e,f,fun T hT=>?_,h1,h2⟩,⟨a',b',c',d',e',f',fun T hT=>?_,h3,h4⟩⟩
 ·rw[hb] at hT;simp only[dJ,iQ,aN,oM,cA,hT,aH,dN];rfl
 ·rw[hb] at hT;simp only[dJ,iQ,aN,oM,cA,hT,aH,dN];rfl
theorem aQ1{S:St}{bp:Nat}{p q:Rat}(H:Has fns)(hL:Laid S)(hbl:bp<S.nx)(h0:vU S bp 0 p 1)(h1:vU S bp 1 q 1)(hp:eK p)(hq:eK q)(hin:eK (p+q)):eT fns (.fn 105 [] []) [.sl bp 0 2 2 false] S fun r S'=>∃v,r= .tup [v,.int .i64 0]/\cE S' v (p+q)/\Same S S':=by
 have:=aEA (fns:=fns) (S:=S) (bp:=bp) (n:=2) (P:=aT1 p q) (part:=aT6 p q) H hL hbl ay rfl (fun i hi=>?_) (fun i hi=>?_) hin
 ·exact this
 ·rcases(by omega:i=0\/i=1) with rfl | rfl
  ·exact h0
  ·exact h1
 ·rcases(by omega:i=0\/i=1) with rfl | rfl
  ·refine⟨aBq.half,hp.half,sI.half,aEu hp sI,?_⟩;show p=0+p * 1;rw[Rat.mul_one,Rat.zero_add]
  ·refine⟨hp.half,hq.half,sI.half,aEu hq sI,?_⟩;show p+q=p+q * 1;rw[Rat.mul_one]
theorem aOw{S:St}{bp:Nat}{p q:Rat}(H:Has fns)(hL:Laid S)(hbl:bp<S.nx)(h0:vU S bp 0 p q)(hp:eK p)(hq:eK q)(hin:eK (p * q)):eT fns (.fn 105 [] []) [.sl bp 0 1 1 false] S fun r S'=>∃v,r= .tup [v,.int .i64 0]/\cE S' v (p * q)/\Same S S':=by
 have:=aEA (fns:=fns) (S:=S) (bp:=bp) (n:=1) (P:=fun _=>(p,q)) (part:=fun i=>if i=0 then 0 else p * q) H hL hbl ay rfl (fun i hi=>?_) (fun i hi=>?_) hin
 ·exact this
 ·have:i=0:=by omega
  subst this;exact h0
 ·have:i=0:=by omega
  subst this;refine⟨aBq.half,hp.half,hq.half,aEu hp hq,?_⟩;show p * q=0+p * q;rw[Rat.zero_add]
theorem aLj{S:St}{a b:AV}{p q:Rat}(H:Has fns)(hL:Laid S)(ha:cE S a p)(hb:cE S b q)(hp:eK p)(hq:eK q)(hin:eK (p+q)):eT fns (.fn 86 [] []) [a,b] S fun r S'=>∃v,r= .tup [v,.int .i64 0]/\cE S' v (p+q)/\Same S S':=by
 obtain⟨a0,a1,a2,rfl⟩:=ha.cells;obtain⟨b0,b1,b2,rfl⟩:=hb.cells;refine bL H.f86 (by simp) ?_;refine aj ?_;refine bK ?_;refine cD (by simp only[↓stU,aG,rE,↓reduceIte,aS];rfl) ?_;intro S1 hS1 hn1 hc1;refine cD (by simp only[↓stU,aG,rE,↓reduceIte,aS];rfl) ?_;intro S2 hS2 hn2 hc2;refine cM ?_;intro S3 hS3 hn3 hc3;refine aj ?_;have g1:S3.h.get S.nx=some (.cells [a0,a1,a2] false 0):=by rw[hS3.2 _ au,hS2.2 _ au];exact hc1
 have g2:S3.h.get S1.nx=some (.cells [b0,b1,b2] false 0):=by rw[hS3.2 _ au];exact hc2
 have hS:=hS1.trans (hS2.trans hS3);refine fA (eo (mZ g1) (mZ g2) ?_);refine aL (aj ?_);refine aF (aGK H (hL.same hS) (ha.same hS) (hb.same hS) hp hq) ?_;rintro _ S4 ⟨rfl,hS4⟩;try refine aj ?_
 refine bK (aj ?_);refine aO (by simp only[↓stU,aG,rE,↓reduceIte];rfl) (aJ ?_);refine aj ?_;refine bK ?_;refine aL (aj ?_);refine aF (xP H.f108) ?_;rintro ov S5 ⟨ho,hS5⟩;try refine aj ?_
 refine aL (aj ?_);refine aF (aJW H ho (Fits.of (i:=1) ay ay)) ?_;rintro wv S6 ⟨hw,hS6⟩;rw[aRt] at hw;obtain⟨w0,w1,w2,rfl⟩:=hw.cells;refine cM ?_;intro S7 hS7 hn7 hc7;refine dH (b:=S6.nx) (ak) (by simp only[↓stU,aG,rE,↓reduceIte,aS];rfl) hc7 rfl rfl ?_;intro S8 hS8 hn8 hc8;refine aj ?_;have h68:Same S6 S8:=hS8.same hS7 (Af _);have h38:=hS4.trans (hS5.trans (hS6.trans h68));have hS8':=hS.trans h38;have k1:S8.h.get S.nx=some (.cells [a0,a1,a2] false 0):=by rw[h38.2 _ au];exact g1
 have k2:S8.h.get S1.nx=some (.cells [b0,b1,b2] false 0):=by rw[h38.2 _ au];exact g2
 have k3:S8.h.get S2.nx=some (.cells [.bool false,.ce,.ce] false 0):=by rw[h38.2 _ au];exact hc3
 have hl8:=h38.1;refine bK (fa (mZ k1) (mZ k2) (mZ hc8) @aJ6 @aDW ?_);refine oR (by simp only[↓stU,aG,rE,↓reduceIte,aQy,aQX];rfl) ?_;intro S9 hS9 hn9 hc9;try refine aj ?_
 refine aL (aj ?_);have hS9':=hS8'.trans hS9;have hw9:=hw.same (h68.trans hS9);have⟨pr0,pr1⟩:=aRl hc9 (ha.same hS9') hw9 (hb.same hS9') hw9;refine aF (aQ1 H (hL.same hS9') au pr0 pr1 hp hq hin) ?_;rintro _ S10 ⟨v,rfl,hv,hS10⟩;obtain⟨c0,c1,c2,rfl⟩:=hv.cells;refine eo @tU @tP ?_;have k10:S10.h.get S2.nx=some (.cells [.bool false,.ce,.ce] false 0):=by rw[hS10.2 _ au,hS9.2 _ au];exact k3
 refine dH (b:=S2.nx) (ak) (by simp only[↓stU,aG,rE,↓reduceIte,aS];rfl) k10 rfl rfl ?_;intro S11 hS11 hn11 hb11;refine aj ?_;refine aK (eo @bR (mZ hb11) ?_);exact⟨_,rfl,hv.st k10 rfl hS11 hb11,hS11.same (hS9'.trans hS10) au⟩
theorem aLl{S:St}{a b:AV}{p q:Rat}(H:Has fns)(hL:Laid S)(ha:cE S a p)(hb:cE S b q)(hp:eK p)(hq:eK q)(hin:eK (p * q)):eT fns (.fn 85 [] []) [a,b] S fun r S'=>∃v,r= .tup [v,.int .i64 0]/\cE S' v (p * q)/\Same S S':=by
 obtain⟨a0,a1,a2,rfl⟩:=ha.cells;obtain⟨b0,b1,b2,rfl⟩:=hb.cells;refine bL H.f85 (by simp) ?_;refine aj ?_;refine bK ?_;refine cD (by simp only[↓stU,aG,rE,↓reduceIte,aS];rfl) ?_;intro S1 hS1 hn1 hc1;refine cD (by simp only[↓stU,aG,rE,↓reduceIte,aS];rfl) ?_;intro S2 hS2 hn2 hc2;refine cM ?_;intro S3 hS3 hn3 hc3;refine aj ?_;have g1:S3.h.get S.nx=some (.cells [a0,a1,a2] false 0):=by rw[hS3.2 _ au,hS2.2 _ au];exact hc1
 have g2:S3.h.get S1.nx=some (.cells [b0,b1,b2] false 0):=by rw[hS3.2 _ au];exact hc2
 have hS:=hS1.trans (hS2.trans hS3);refine fA (eo (mZ g1) (mZ g2) ?_);refine aL (aj ?_);refine aF (aGK H (hL.same hS) (ha.same hS) (hb.same hS) hp hq) ?_;rintro _ S4 ⟨rfl,hS4⟩;try refine aj ?_
 refine bK (aj ?_);refine aO (by simp only[↓stU,aG,rE,↓reduceIte];rfl) (aJ ?_);refine aj ?_;have k1:S4.h.get S.nx=some (.cells [a0,a1,a2] false 0):=by rw[hS4.2 _ au];exact g1
 have k2:S4.h.get S1.nx=some (.cells [b0,b1,b2] false 0):=by rw[hS4.2 _ au];exact g2
 have k3:S4.h.get S2.nx=some (.cells [.bool false,.ce,.ce] false 0):=by rw[hS4.2 _ au];exact hc3
 have hl4:=hS4.1;refine bK (eu (mZ k1) (mZ k2) @aJ6 @aDW ?_);refine oR (by simp only[↓stU,aG,rE,↓reduceIte,aKr,aNT];rfl) ?_;intro S9 hS9 hn9 hc9;try refine aj ?_
 refine aL (aj ?_);have hS9':=hS.trans (hS4.trans hS9);have pr0:vU S9 S4.nx 0 p q:=⟨a0,a1,a2,b0,b1,b2,fun T hT=>by rw[hc9] at hT;simp only[dJ,iQ,aN,oM,cA,hT,aH,dN];rfl,ha.same hS9',hb.same hS9'⟩;refine aF (aOw H (hL.same hS9') au pr0 hp hq hin) ?_;rintro _ S10 ⟨v,rfl,hv,hS10⟩;obtain⟨c0,c1,c2,rfl⟩:=hv.cells;refine eo @tU @tP ?_;have k10:S10.h.get S2.nx=some (.cells [.bool false,.ce,.ce] false 0):=by rw[hS10.2 _ au,hS9.2 _ au];exact k3
 refine dH (b:=S2.nx) (ak) (by simp only[↓stU,aG,rE,↓reduceIte,aS];rfl) k10 rfl rfl ?_;intro S11 hS11 hn11 hb11;refine aj ?_;refine aK (eo @bR (mZ hb11) ?_);exact⟨_,rfl,hv.st k10 rfl hS11 hb11,hS11.same (hS9'.trans hS10) au⟩
theorem qW{d t m:Nat}{x:cP}{l:List AO}{F:Fr}{S:St}{Q:Fr->St->Prop}{cs:bo}(hc:(x.val F).cells=some cs)(h:∀S1,Same S S1->S1.nx=S.nx+1->S1.h.get S.nx=some (.cells cs false 0)->nP S S1->pU fns l (cJ (some d) F (.ptr S.nx 0)) S1 Q):pU fns (⟨some d,.a (.box t x),none,m⟩::l) F S Q:=by
 rw[tG];refine⟨(.ptr S.nx 0,.cells cs false 0),by rw[aGR,hc];rfl,h _ (Same.alloc S _) rfl ?_ (pH S _)⟩;simp only;rw[dq,if_pos rfl]
theorem lR{d t m:Nat}{l:List AO}{F:Fr}{S:St}{Q:Fr->St->Prop}{cs:bo}(h:∀S1,Same S S1->S1.nx=S.nx+1->S1.h.get S.nx=some (.cells cs false 0)->nP S S1->pU fns l (cJ (some d) F (.ptr S.nx 0)) S1 Q):pU fns (⟨some d,.a (.alloc t cs),none,m⟩::l) F S Q:=by
 rw[tG];refine⟨(.ptr S.nx 0,.cells cs false 0),rfl,h _ (Same.alloc S _) rfl ?_ (pH S _)⟩;simp only;rw[dq,if_pos rfl]
theorem aBr{n m b s:Nat}{x v:cP}{l:List AO}{F:Fr}{S:St}{Q:Fr->St->Prop}{cs cs':bo}{o:Bool}(hx:x.val F= .ptr b 0)(hv:(v.val F).cells=some cs')(hb:S.h.get b=some (.cells cs o s))(h1:cs.length=n)(h2:cs'.length=n)
  (h:∀S1,cB b S S1->S1.nx=S.nx->S1.h.get b=some (.cells cs' o s)->nP S S1->pU fns l F S1 Q):pU fns (⟨none,.x (.st n x v),none,m⟩::l) F S Q:=by
 refine fK (v:=.undef) (fun call=>?_) (h ⟨S.h.set b (some (.cells cs' o s)),S.nx⟩ ((cB.refl b S).put _) rfl ?_ (qJ hb _))
 ·rw[dW,hv,aH,hx];exact vG hb h1 h2
 ·simp only;rw[dq,if_pos rfl]
theorem uD(W:Nat->Prop){ops:List AO}{A:bN}{S:St}{Q:Out->bN->St->Prop}(h:∀S1,Same S S1->S1.h=S.h->S1.nx=S.nx+ops.length->hJ fns W S.h S.nx ops 0 A.F S1 [] none fun F S' ps=>Q .normal ⟨F,A.inr⟩ ⟨(cG (2 ^ ops.length - 1) ps S'.h).2,S'.nx⟩):nD fns (.drw ops) A S Q:=aGh W (h _ (Same.nx S _) rfl rfl)
def sgn(q:Rat):Int:=if q.num=0 then 1 else if q.num<0 then 0 else 2
theorem aIm{S:St}{v:AV}{q:Rat}(H:Has fns)(h:cE S v q):eT fns (.fn 104 [] []) [v] S fun r S'=>r= .int .i64 (sgn q)/\Same S S':=by
 obtain⟨nv,dv,rfl,h1,h2⟩:=h;have⟨k,hk,hk0⟩:=aBH h1;refine bL H.f104 (by simp) ?_;refine aj ?_;refine bK ?_;refine cD (by simp only[↓stU,aG,rE,↓reduceIte,aS];rfl) ?_;intro S1 hS1 hn1 hb1;refine aj ?_;refine aE (aQ (aE (aM ?_)));refine eu @aD @aC (gE hb1) hk ?_;by_cases h0:q.num=0
 ·have:k=0:=hk0.2 au;refine aP (by simp only[↓stU,aG,rE,↓reduceIte,Ac (show(k:Int)=0 by omega)]) ?_;refine bK (aj ?_);refine aK ?_;simp only[↓stU,aG,rE,↓reduceIte,sgn,if_pos h0];exact hS1
 have:¬k=0:=fun h=>h0 (by have:=hk0.1 h;omega);refine aO (by simp only[↓stU,aG,rE,↓reduceIte,Aa (show ¬ (k:Int)=0 by omega)]) ?_;refine bK (er @aD @aC (oE hb1) ?_);by_cases h1:q.num<0
 ·refine aP (by simp only[↓stU,aG,rE,↓reduceIte,Ac h1]) ?_;refine bK (aj ?_);refine aK ?_;simp only[↓stU,aG,rE,↓reduceIte,sgn,if_neg h0,if_pos h1];exact hS1
 refine aO (by simp only[↓stU,aG,rE,↓reduceIte,Aa h1]) (aJ ?_);refine aj ?_;refine bK (aj ?_);refine aK ?_;simp only[↓stU,aG,rE,↓reduceIte,sgn,if_neg h0,if_neg h1];exact hS1
theorem aMK{S:St}{a b:AV}{p q:Rat}(H:Has fns)(hL:Laid S)(hF:lS S)(ha:cE S a p)(hb:cE S b q)(hp:eK p)(hq:eK q)(h0:q.num≠0)(hin:eK (p * q⁻¹)):eT fns (.fn 84 [] []) [a,b] S fun r S'=>∃v,r= .tup [v,.int .i64 0]/\cE S' v (p * q⁻¹)/\Same S S':=by
 obtain⟨a0,a1,a2,rfl⟩:=ha.cells;obtain⟨b0,b1,b2,rfl⟩:=hb.cells;refine bL H.f84 (by simp) ?_;refine aj ?_;refine bK ?_;refine qW (by simp only[↓stU,aG,rE,↓reduceIte,aS];rfl) ?_;intro S1 hS1 hn1 hc1 fr1;refine qW (by simp only[↓stU,aG,rE,↓reduceIte,aS];rfl) ?_;intro S2 hS2 hn2 hc2 fr2;refine lR ?_;intro S3 hS3 hn3 hc3 fr3;refine aj ?_;have g1:S3.h.get S.nx=some (.cells [a0,a1,a2] false 0):=by rw[hS3.2 _ au,hS2.2 _ au];exact hc1
 have g2:S3.h.get S1.nx=some (.cells [b0,b1,b2] false 0):=by rw[hS3.2 _ au];exact hc2
 have hS:=hS1.trans (hS2.trans hS3);refine fA (eo (mZ g1) (mZ g2) ?_);refine aL (aj ?_);refine aF (jN (aGK H (hL.same hS) (ha.same hS) (hb.same hS) hp hq)) ?_;rintro _ S4 ⟨⟨rfl,hS4⟩,fr4⟩;try refine aj ?_
 refine bK (aj ?_);refine aO (by simp only[↓stU,aG,rE,↓reduceIte];rfl) (aJ ?_);refine aj ?_;have g2':S4.h.get S1.nx=some (.cells [b0,b1,b2] false 0):=by rw[hS4.2 _ au];exact g2
 refine fA (ek (mZ g2') ?_);refine aL (aj ?_);refine aF (jN (aIm H (hb.same (hS.trans hS4)))) ?_;rintro _ S8 ⟨⟨rfl,hS8⟩,fr8⟩;refine aj ?_;have hsg:decide (sgn q=1)=false:=by unfold sgn;rw[if_neg h0];split<;>rfl
 refine aO (am hsg) (aJ ?_);refine aj ?_;have hF8:lS S8:=fr8.1 (fr4.1 (fr3.1 (fr2.1 (fr1.1 hF))));have h38:=hS4.trans hS8;have hS8':=hS.trans h38;have k1:S8.h.get S.nx=some (.cells [a0,a1,a2] false 0):=by rw[h38.2 _ au];exact g1
 have k2:S8.h.get S1.nx=some (.cells [b0,b1,b2] false 0):=by rw[h38.2 _ au];exact g2
 have k3:S8.h.get S2.nx=some (.cells [.bool false,.ce,.ce] false 0):=by rw[h38.2 _ au];exact hc3
 have hl8:=h38.1;have lt1:S.nx<S8.nx:=by omega
 have lt2:S1.nx<S8.nx:=by omega
 have ne1:¬S.nx=S2.nx:=by omega
 have ne2:¬S1.nx=S2.nx:=by omega
 refine aE (uD (fun c=>c=S2.nx) ?_);intro S9 hS9 he9 hn9;simp only[Av,Co,rA] at hn9;simp only[↓sU,sD,rE,↓reduceIte,rA,mZ k1,mZ k2,lt1,lt2,ne1,ne2,Am,yL ha,yL hb];refine cF rfl ?_;try refine ae ?_
 have hS9':=hS8'.trans hS9;refine aF (aGv H (hb.same hS9') hq.half.fits h0) ?_;rintro nvv S10 ⟨hnv,hS10⟩;refine⟨hS10,?_⟩;obtain⟨n0,n1,n2,rfl⟩:=hnv.cells;refine du @aJ6 @aDW @gL @aKr @aNT ?_;have hnone:S10.h.get (S8.nx+4)=none:=by rw[hS10.2 _ au,he9];exact hF8 _ au
 refine aAb (by rfl) rfl ?_;intro S11 hS11 hn11 hc11;try refine ae ?_
 have h810:=hS9.trans hS10;have h811:Same S8 S11:=hS11.same h810 au;have hS11':=hS8'.trans h811;have pr0:vU S11 (S8.nx+4) 0 p q⁻¹ :=⟨a0,a1,a2,n0,n1,n2,fun T hT=>by rw[hc11] at hT;simp only[dJ,iQ,aN,oM,cA,hT,aH,dN];rfl,ha.same hS11',hnv.lay hnone hS11⟩;have hnq:eK q⁻¹ :=uO.inv (i:=1024) hq h0;have hl10:=hS10.1;refine aF (aOw H (hL.same hS11') au pr0 hp hnq hin) ?_;rintro _ S12 ⟨v,rfl,hv,hS12⟩;refine⟨hS12,?_⟩;obtain⟨c0,c1,c2,rfl⟩:=hv.cells;refine c9 @tU @tP ?_;have k12:S12.h.get S2.nx=some (.cells [.bool false,.ce,.ce] false 0):=by rw[hS12.2 _ au,h811.2 _ au];exact k3
 refine pR (b:=S2.nx) rfl (af) (by simp only[↓sU,sD,rE,↓reduceIte,rA,aS];rfl) k12 rfl rfl rfl ?_;intro S13 hS13 hn13 hb13;try refine ae ?_
 refine aK (c9 @bR (mZ hb13) ?_);exact⟨_,rfl,hv.st k12 rfl hS13 hb13,hS13.same (hS11'.trans hS12) au⟩
theorem sN(e:qM)(k:IntKind){t d:Nat}(hd:0<d):kA .rem e (.int k ((t:Nat):Int)) (.int k ((d:Nat):Int))=some (.int k ((t % d:Nat):Int)):=by
 show cU .rem k (Int.ofNat t) k (Int.ofNat d)=_;unfold cU;rw[show eX .rem=false from rfl,aR,fR,aN];show bO (Nat.beq d 0) none (some (AV.int k (.ofNat (t % d))))=_;have h0:Nat.beq d 0=false:=by rw[Ca];intro h;rw[Az] at h;omega
 rw[h0,aR];rfl
def aRX(S:St)(a b:AV)(l m:bt)(k:Nat)(A:bN)(S':St):Prop:=
 A.inr=false/\S'.h=S.h/\S.nx<=S'.nx/\∃i:Nat,i+k=l.length/\aB 0 A.F=a/\aB 1 A.F=b/\aB 5 A.F= .int .i64 (i:Int)/\l.take i=m.take i
theorem aE8{S S':St}(h1:S'.h=S.h)(h2:S.nx<=S'.nx):Same S S':=⟨h2,fun _ _=>by rw[h1]⟩
theorem aKb{S:St}{a b:AV}{l m:bt}(H:Has fns)(ha:cO S a l)(hb:cO S b m)(hl:l.length<=1000000):eT fns (.fn 49 [] []) [a,b] S fun r S'=>r= .bool (decide (l=m))/\Same S S':=by
 refine bL H.f49 (by simp) ?_;refine aj ?_;refine bK (aj ?_);refine fA (eo ha.len hb.len ?_);by_cases hlen:l.length=m.length
 ·refine aO (by simp only[↓stU,aG,rE,↓reduceIte,Aa (show ¬ (l.length:Int)≠(m.length:Int) by omega)]) (aJ ?_);refine aj ?_;refine fA (aj ?_);refine bG (Q:=fun o A' S'=>Same S S'/\((o= .normal/\l=m)\/(o= .ret/\aB 4 A'.F= .bool false/\l≠m))) ?_ ?_
  ·refine aQ (bX (aRX S a b l m) ?_ l.length _ _ ⟨rfl,rfl,Af _,0,au,ak,ak,ak,by simp⟩);rintro k ⟨F,inr⟩ S' ⟨q0,hh,hnx,i,hik,p0,p1,p5,htk⟩;simp only at q0 p0 p1 p5;subst q0;have hS:=aE8 hh hnx;have ha':=ha.same hS;have hb':=hb.same hS;refine fA (er p0 p5 ha.len ?_);by_cases hi:i<l.length
   ·refine aP (by simp only[↓stU,aG,rE,↓reduceIte,Ac (show(i:Int)<(l.length:Int) by omega)]) (aJ ?_);refine aj ?_;have l1:=ha'.ld hi;have l2:=hb'.ld (i:=i) au;rw[Ae] at l1 l2;have t1:l.take (i+1)=l.take i++ [l[i]?.getD 0]:=by rw[Dh,Ad hi];rfl
    have t2:m.take (i+1)=m.take i++ [m[i]?.getD 0]:=by rw[Dh,Ad (by omega:i<m.length)];rfl
    refine aE (aQ (aE (jK ?_)));refine dx p0 p1 p5 (ha.cq hi) (hb.cq (show i<m.length by omega)) l1 l2 ?_;by_cases hxy:l[i]?.getD 0=m[i]?.getD 0
    ·refine aO (by simp only[↓stU,aG,rE,↓reduceIte,hxy];simp) (aJ ?_);refine aj ?_;refine aM ?_;have w1:=dk i
     refine eo p5 w1 ?_;exact⟨k - 1,au,rfl,hh,by simp;omega,i+1,au,am p0,am p1,ak,by rw[t1,t2,htk,hxy]⟩
    ·refine aP (by simp only[↓stU,aG,rE,↓reduceIte];simp;omega) ?_;refine bK (aj ?_);refine aK (aj ?_);exact⟨hS.trans (Same.nx S' _),.inr (by rintro rfl;exact hxy rfl)⟩
   ·refine aO (by simp only[↓stU,aG,rE,↓reduceIte,Aa (show ¬ (i:Int)<(l.length:Int) by omega)]) (bS ?_);refine aj ?_;rw[Ay au,Ay au] at htk;exact⟨hS,.inl htk⟩
  rintro o ⟨F,inr⟩ S' ⟨hS,⟨rfl,he⟩ | ⟨rfl,p4,hne⟩⟩
  ·refine aj ?_;refine bK (aj ?_);refine aK (ek (Ac he) ?_);exact hS
  ·simp only at p4;refine eo p4 (Aa hne) ?_;exact hS
 ·refine aP (by simp only[↓stU,aG,rE,↓reduceIte,Ac (show(l.length:Int)≠(m.length:Int) by omega)]) ?_;refine bK (aj ?_);refine aK ?_;have:¬l=m:=by rintro rfl;exact hlen rfl
  refine ek (Aa this) ?_;exact Same.refl _
theorem aFm{S:St}{a b:AV}{x y:Nat}(H:Has fns)(ha:dG S a x)(hb:dG S b y)(hx:Fits x):eT fns (.fn 49 [] []) [a,b] S fun r S'=>r= .bool (decide (x=y))/\Same S S':=by
 have⟨l,h1,h2,h3⟩:=ha;have⟨m,k1,k2,k3⟩:=hb;have:=Fits.len h2 (by rw[h3];exact hx);refine aF (aKb H h1 k1 au) ?_;rintro r S' ⟨rfl,hS⟩;refine⟨?_,hS⟩;congr 1;apply Fq.2;rw[<-h3,<-k3];exact⟨fun h=>by rw[h],fun h=>aDw h2 k2 h⟩
theorem aJq(p q:Rat):p=q↔(decide (p.num<0)=decide (q.num<0))/\p.num.natAbs=q.num.natAbs/\p.den=q.den:=by
 constructor
 ·rintro rfl;exact⟨rfl,rfl,rfl⟩
 ·rintro⟨h1,h2,h3⟩;have:p.num=q.num:=by rw[<-aB7 p,<-aB7 q,h1,h2]
  exact Rat.ext this h3
theorem aG2{S:St}{a b:AV}{p q:Rat}(H:Has fns)(ha:cE S a p)(hb:cE S b q)(hp:aFC p):eT fns (.fn 26 [] []) [a,b] S fun r S'=>r= .bool (decide (p=q))/\Same S S':=by
 obtain⟨nv,dv,rfl,h1,h2⟩:=ha;obtain⟨mv,ev,rfl,h3,h4⟩:=hb;refine bL H.f26 (by simp) ?_;refine aj ?_;refine bK ?_;refine cD (by simp only[↓stU,aG,rE,↓reduceIte,aS];rfl) ?_;intro S1 hS1 hn1 hb1;refine cD (by simp only[↓stU,aG,rE,↓reduceIte,aS];rfl) ?_;intro S2 hS2 hn2 hb2;refine aj ?_;have hS:=hS1.trans hS2;have g1:S2.h.get S.nx=some (.cells [.bool (decide (p.num<0)),nv,dv] false 0):=by rw[hS2.2 _ au];exact hb1
 have hpq:=aJq p q;refine aE (bG (Q:=fun o A' S'=>o= .normal/\Same S S'/\aB 4 A'.F= .bool (decide (p=q))) ?_ ?_)
 ·refine aM ?_;by_cases e1:decide (p.num<0)=decide (q.num<0)
  ·simp only[↓stU,aG,rE,↓reduceIte,aD,aC,oE g1,oE hb2,gE g1,gE hb2,aG0,e1,beq_self_eq_true];refine aL (aj ?_);refine aF (aFm H (h1.same hS) (h3.same hS) hp.1) ?_;rintro _ S3 ⟨rfl,hS3⟩;have g1':S3.h.get S.nx=some (.cells [.bool (decide (p.num<0)),nv,dv] false 0):=by rw[hS3.2 _ au];exact g1
   have g2':S3.h.get S1.nx=some (.cells [.bool (decide (q.num<0)),mv,ev] false 0):=by rw[hS3.2 _ au];exact hb2
   by_cases e2:p.num.natAbs=q.num.natAbs
   ·refine fa (Ac e2) @aD @aC (iJ g1') (iJ g2') ?_;refine aL (aj ?_);refine aF (aFm H (h2.same (hS.trans hS3)) (h4.same (hS.trans hS3)) hp.2) ?_;rintro _ S4 ⟨rfl,hS4⟩;try refine aj ?_
    refine⟨hS.trans (hS3.trans hS4),?_⟩;congr 1;exact Fq.2 ⟨fun h=>hpq.2 ⟨e1,e2,h⟩,fun h=>by rw[h]⟩
   ·refine ek (Aa e2) ?_;refine⟨hS.trans hS3,?_⟩;rw[Aa (fun h=>e2 (hpq.1 h).2.1)]
  ·have:(decide (p.num<0)==decide (q.num<0))=false:=by simpa using e1
   refine ff @aD @aC (oE g1) (oE hb2) @aG0 this ?_;refine⟨hS,?_⟩;rw[Aa (fun h=>e1 (hpq.1 h).1)]
 ·rintro o ⟨F,inr⟩ S' ⟨rfl,hS,p4⟩;simp only at p4;refine aj ?_;refine aK (ek p4 ?_);exact hS
def aRA(S:St)(n:Nat)(k:Nat)(A:bN)(S':St):Prop:=
 A.inr=false/\∃ (d:bt) (v:AV),aB 0 A.F= .int .i64 (k:Int)/\k<=n/\aB 3 A.F=v/\aJQ S S' v d/\Same S S'/\cK d/\val d+B ^ d.length * k=n/\(d= []\/B ^ (d.length - 1)<=n)
theorem vZ{S:St}{n:Nat}(H:Has fns)(hn:n<=9223372036854775807):eT fns (.fn 44 [] []) [.int .i64 (n:Int)] S fun r S'=>dG S' r n/\Same S S':=by
 refine bL H.f44 (by simp) ?_;refine aj ?_;refine bK (aj ?_);refine bK (aj ?_);refine aE (aQ (bX (aRA S n) ?_ n _ _ ⟨rfl,[],.ce,ak,Af _,ak,.inl ⟨rfl,rfl⟩,Same.refl S,cK.nil,by simp [dV],.inl rfl⟩));rintro k ⟨F,inr⟩ S' ⟨q0,d,v,p0,hk,p3,hv,hS,hsd,hinv,hlow⟩;simp only at q0 p0 p3;subst q0;refine fA (cp p0 ?_);by_cases hk0:0<k
 ·refine aP (by simp only[↓sU,sD,rE,↓reduceIte,rA,Ac (show(0:Int)<(k:Int) by omega)]) (aJ ?_);try refine ae ?_
  have hquo:=mB (.p .int) (a:=(k:Int)) (b:=1000000000) au au ay;rw[show(k:Int) / 1000000000=((k / B:Nat):Int) from rfl] at hquo;have hrem:=sN (.p .int) .i64 (t:=k) (d:=B) jB;rw[show((B:Nat):Int)=1000000000 from rfl] at hrem;have hdm:k / B * B+k % B=k:=by rw[Bi];exact El k B
  have hmod:k % B<1000000000:=Dj k jB;have hdiv:k / B<k:=Nat.div_lt_self hk0 ay;have hpow:B ^ d.length<=n:=by
   have:B ^ d.length * 1<=B ^ d.length * k:=Bh _ hk0;omega
  have hdl:d.length<=100:=by
   rcases Bj 100 d.length with h | h
   ·have h1:B ^ 3<=B ^ d.length:=Ci jB au;have h2:(18446744073709551615:Nat)<B ^ 3:=by decide
    omega
   ·exact h
  have hstep:val d+B ^ d.length * (k % B)+B ^ (d.length+1) * (k / B)=n:=by
   rw[<-hinv,Cy,Bl,Cx,<-Cn];congr 2;rw[Bi B,Fv];exact hdm
  generalize k / B=q at hdm hquo hdiv hstep;generalize k % B=r at hdm hmod hrem hstep;have w1:IntKind.u32.wrap (r:Int)=(r:Int):=wrap_u32 au au;have⟨v',S2,happ,hg,hS2⟩:=hv.app (w:=r) (bytes:=4) hS ax ax;refine aQ (aE (aM ?_));refine di p0 p3 hrem w1 ?_;rw[lI (k:=.u32) (n:=(r:Int)) (af)];try refine ae ?_
  refine fK (fun call=>by refine c9 @jJ p3 ?_;exact happ) ?_;try refine ae ?_
  refine aM (c9 p0 hquo ?_);exact⟨q,hdiv,rfl,d++ [r],v',af,au,af,hg,hS2,cK.append.2 ⟨hsd,yR hmod⟩,by rw[iO,Aj];exact hstep,by right;rw[Aj];exact hpow⟩
 ·have hk0:k=0:=by omega
  subst hk0;refine aO (by simp only[↓sU,sD,rE,↓reduceIte,rA];rfl) (bS ?_);try refine ae ?_
  refine bK (cp p3 ?_);refine aK ?_;try refine ae ?_
  refine⟨⟨d,hv.limbs,xR hsd ?_,by simpa using hinv⟩,hS⟩;rcases hlow with h | h
  ·exact .inl h
  ·right;simp at hinv;omega
def KgI(S:St)(g:Nat)(k:Nat)(A:bN)(S':St):Prop:=
 A.inr=false/\S'.h=S.h/\S.nx<=S'.nx/\∃a b:Nat,aB 0 A.F= .int .i64 (a:Int)/\aB 1 A.F= .int .i64 (b:Int)/\a<=9223372036854775807/\b<=9223372036854775807/\Nat.gcd a b=g/\k=b
theorem aMg{S:St}{x y:Nat}(H:Has fns)(hx:x<=9223372036854775807)(hy:y<=9223372036854775807):eT fns (.fn 43 [] []) [.int .i64 (x:Int),.int .i64 (y:Int)] S fun r S'=>r= .int .i64 ((Nat.gcd x y:Nat):Int)/\Same S S':=by
 refine bL H.f43 (by simp) ?_;try refine ae ?_
 refine bK ?_;try refine ae ?_
 refine aE (bG (Q:=fun o A' S'=>o= .normal/\Same S S'/\aB 0 A'.F= .int .i64 ((Nat.gcd x y:Nat):Int)/\Nat.gcd x y<=9223372036854775807) ?_ ?_)
 ·refine aQ (bX (KgI S (Nat.gcd x y)) ?_ y _ _ ⟨rfl,rfl,Af _,x,y,af,af,hx,hy,rfl,rfl⟩);rintro k ⟨F,inr⟩ S' ⟨q0,hh,hnx,a,b,p0,p1,ha,hb,hg,rfl⟩;simp only at q0 p0 p1;subst q0;refine fA (cp p1 ?_);rcases An k with h0 | hkp
  ·subst h0;refine aO (by simp only[↓sU,sD,rE,↓reduceIte,rA];rfl) (bS ?_);rw[Hf] at hg;rw[<-hg];refine cp p0 ?_;exact⟨aE8 hh hnx,ha⟩
  ·refine aP (by simp only[↓sU,sD,rE,↓reduceIte,rA,Ac (show(k:Int)≠0 by omega)]) (aJ ?_);try refine ae ?_
   have hrem:=sN (.p .int) .i64 (t:=a) (d:=k) hkp;refine aQ (jK ?_);refine dh p0 p1 hrem ?_;refine⟨a % k,Dj _ hkp,rfl,hh,by simp;omega,k,a % k,af,af,hb,by have:=Dj a hkp;omega,?_,rfl⟩;rw[<-hg,Eb a k,Nat.gcd_rec k a,Eb]
 ·rintro o ⟨F,inr⟩ S' ⟨rfl,hS,p0,hg⟩;simp only at p0;try refine ae ?_
  refine bK ?_;have w1:IntKind.i64.wrap (-((Nat.gcd x y:Nat):Int))= -((Nat.gcd x y:Nat):Int):=wrap_i64 au au;refine dx p0 @xS w1 @aGz @aCK @aGG @aGm ?_;refine aK ?_;have:mx ((Nat.gcd x y:Nat):Int) (-((Nat.gcd x y:Nat):Int))=((Nat.gcd x y:Nat):Int):=by unfold mx;rw[if_pos au]
  refine cp this ?_;exact hS
theorem aJX{S:St}{a:Int}{b:Nat}(H:Has fns)(ha: -9223372036854775807<=a/\a<=9223372036854775807)(hb0:0<b)(hb:b<=9223372036854775807):eT fns (.fn 21 [] []) [.int .i64 a,.int .i64 (b:Int)] S fun r S'=>cE S' r (mkRat a b)/\Same S S':=by
 have hg:0<Nat.gcd a.natAbs b:=Dq _ hb0;have w1:IntKind.i64.wrap (-a)= -a:=wrap_i64 au au;have hmx:mx a (-a)=(a.natAbs:Int):=by unfold mx;split<;>omega
 refine bL H.f21 (by simp) ?_;refine aj ?_;refine bK ?_;refine cM ?_;intro S1 hS1 hn1 hb1;refine aj ?_;refine bK (dx @xS w1 @aGz @aCK @aGG @aGm hmx ?_);refine aL ?_;try refine ae ?_
 refine aF (aMg H au hb) ?_;rintro _ S2 ⟨rfl,hS2⟩;try refine ae ?_
 obtain⟨g,hge⟩:∃g,g=Nat.gcd a.natAbs b:=⟨_,rfl⟩;rw[<-hge] at hg ⊢;have hga:g ∣ a.natAbs:=by rw[hge];exact Cw ..
 have hgb:g<=9223372036854775807:=by have:=Nat.gcd_le_right a.natAbs hb0;rw[<-hge] at this;omega
 have hq2:kA .quo (.p .int) (.int .i64 (b:Int)) (.int .i64 (g:Int))=some (.int .i64 ((b / g:Nat):Int)):=by
  rw[mB (.p .int) au au au];rfl
 obtain⟨n,hn⟩:∃n,n=a.natAbs / g:=⟨_,rfl⟩;have hnle:n<=9223372036854775807:=by have:=Di a.natAbs g;omega
 obtain⟨s,hs⟩:∃s,s=decide (a<0):=⟨_,rfl⟩;have hq1:kA .quo (.p .int) (.int .i64 a) (.int .i64 (g:Int))=some (.int .i64 (sg s n)):=by
  rw[aCc (.p .int) au];congr 2;by_cases hneg:a<0
  ·have e1:a= -(a.natAbs:Int):=by omega
   have e2:a.tdiv (g:Int)= -((n:Nat):Int):=by
    rw[e1,Int.neg_tdiv,Int.tdiv_eq_ediv_of_nonneg au,hn];rfl
   rw[e2,hs,Ac hneg];exact wrap_i64 au au
  ·have e1:a=(a.natAbs:Int):=by omega
   have e2:a.tdiv (g:Int)=((n:Nat):Int):=by
    rw[Int.tdiv_eq_ediv_of_nonneg au,e1,hn];rfl
   rw[e2,hs,Aa hneg];exact wrap_i64 au au
 have⟨e1,e2,e3⟩:=lowest (neg:=s) (n:=a.natAbs) (d:=b) (g:=g) hge au;have esg:sg s a.natAbs=a:=by rw[hs];unfold sg;by_cases h:a<0<;>simp [h]<;>omega
 rw[esg] at e1;rw[<-hn] at e1 e2;rw[<-e1];have hsn:n=0->s=false:=fun h=>by
  rw[hs];have:a.natAbs=0:=by
   have:=Dk hga;rw[<-hn,h] at this;omega
  exact Aa au
 have hbg:b / g<=9223372036854775807:=by have:=Di b g;omega
 refine aE (jK ?_);refine c9 hq1 hq2 ?_;obtain⟨T,hT⟩:∃T:St,T=⟨S2.h,S2.nx+8⟩:=⟨_,rfl⟩;rw[<-hT];have hST:Same S2 T:=by rw[hT];exact Same.nx S2 8
 have hS0:=hS1.trans (hS2.trans hST);have gT:T.h.get S.nx=some (.cells [.bool false,.ce,.ce] false 0):=by rw[hST.2 _ (aw hS2.1),hS2.2 _ au];exact hb1
 have ltT:S.nx<T.nx:=by have:=hS2.1;have:=hST.1;omega
 refine fA ?_;try refine ae ?_
 cases hsb:s with
 | true=>
  rw[hsb] at e1 hsn;have hn0:0<n:=by
    rcases An n with h | h
    ·have:=hsn h;cases this
    ·exact h
  have hlt:sg true n<0:=by show -(n:Int)<0;omega
  have w2:IntKind.i64.wrap (-(sg true n))=(n:Int):=by show IntKind.i64.wrap (- -(n:Int))=_;rw[Int.neg_neg];exact wrap_i64 au au
  refine aP (by simp only[↓sU,sD,rE,↓reduceIte,rA,Ac hlt]) ?_;refine bK (c9 @xS w2 ?_);refine aL ?_;try refine ae ?_
  refine aF (vZ H hnle) ?_;rintro nv S3 ⟨hnv,hS3⟩;try refine ae ?_
  refine aL ?_;try refine ae ?_
  refine aF (vZ H hbg) ?_;rintro dv S4 ⟨hdv,hS4⟩;have hbd:∀F:Fr,aB 22 F=nv->aB 24 F=dv->iT (.build [(.bool false),.ce,.ce] [(0,1,(.c (.bool true))),(1,1,(.t 22)),(2,1,(.t 24))]) F S4.h=some (.agg [.bool true,nv,dv]):=fun F h h'=>by
   show aU (eQ [.bool false,.ce,.ce] [(0,1,.bool true),(1,1,aB 22 F),(2,1,aB 24 F)]) (fun cs=>some (AV.agg cs))=_;rw[h,h'];simp only[eQ,kJ,eS hnv,eS hdv,aH];rfl
  try refine ae ?_
  rw[hbd _ (af) (af)];try refine ae ?_
  have g4:S4.h.get S.nx=some (.cells [.bool false,.ce,.ce] false 0):=by rw[hS4.2 _ (aw hS3.1),hS3.2 _ ltT];exact gT
  refine dH (b:=S.nx) (af) (by simp only[↓sU,sD,rE,↓reduceIte,rA,aS];rfl) g4 rfl rfl ?_;intro S5 hS5 hn5 hb5;try refine ae ?_
  refine aK (c9 @bR (mZ hb5) ?_);exact⟨nR ((hnv.same hS4).st g4 rfl hS5 hb5) (hdv.st g4 rfl hS5 hb5) e3 e2 hsn,hS5.same (hS0.trans (hS3.trans hS4)) (Af _)⟩
 | false=>
  rw[hsb] at e1;have hlt:¬sg false n<0:=by show ¬ (n:Int)<0;omega
  refine aO (by simp only[↓sU,sD,rE,↓reduceIte,rA,Aa hlt]) (aJ ?_);try refine ae ?_
  refine bK ?_;refine cp (show sg false n=(n:Int) from rfl) ?_;refine aL ?_;try refine ae ?_
  refine aF (vZ H hnle) ?_;rintro nv S3 ⟨hnv,hS3⟩;try refine ae ?_
  refine aL ?_;try refine ae ?_
  refine aF (vZ H hbg) ?_;rintro dv S4 ⟨hdv,hS4⟩;have hbd:∀F:Fr,aB 27 F=nv->aB 29 F=dv->iT (.build [(.bool false),.ce,.ce] [(1,1,(.t 27)),(2,1,(.t 29))]) F S4.h=some (.agg [.bool false,nv,dv]):=fun F h h'=>by
   show aU (eQ [.bool false,.ce,.ce] [(1,1,aB 27 F),(2,1,aB 29 F)]) (fun cs=>some (AV.agg cs))=_;rw[h,h'];simp only[eQ,eS hnv,eS hdv,aH];rfl
  try refine ae ?_
  rw[hbd _ (af) (af)];try refine ae ?_
  have g4:S4.h.get S.nx=some (.cells [.bool false,.ce,.ce] false 0):=by rw[hS4.2 _ (aw hS3.1),hS3.2 _ ltT];exact gT
  refine dH (b:=S.nx) (af) (by simp only[↓sU,sD,rE,↓reduceIte,rA,aS];rfl) g4 rfl rfl ?_;intro S5 hS5 hn5 hb5;try refine ae ?_
  refine aK (c9 @bR (mZ hb5) ?_);exact⟨nR ((hnv.same hS4).st g4 rfl hS5 hb5) (hdv.st g4 rfl hS5 hb5) e3 e2 (fun _=>rfl),hS5.same (hS0.trans (hS3.trans hS4)) (Af _)⟩
theorem uO.inBound{k:Nat}{q:Rat}(h:uO k q)(hk:k<=1024):eK q:=by unfold eK;exact uO.mono (j:=1024) h hk
end Go.Ev.Gl
