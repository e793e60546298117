import Derived.Test.YtiiplmagnlcpbaaGreatDoorGl2
set_option linter.unusedSimpArgs false
set_option linter.unusedVariables false
open Nat renaming reduceEqDiff -> rE, reduceAdd -> rA
set_option maxHeartbeats 0
namespace Go.Ev.Gl
variable {fns:T cM}
def tJ(n:Nat):Prop:=n<B ^ 20000
def kP(q:Rat):Prop:=tJ q.num.natAbs/\tJ q.den
theorem tJ.fits{n:Nat}(h:tJ n):Fits n:=Fits.of h ay
theorem tJ.mono{n m:Nat}(h:tJ m)(hn:n<=m):tJ n:=Bs hn h
theorem tJ.div{n m:Nat}(h:tJ n):tJ (n / m):=h.mono (Ea ..)
theorem xP(k:Nat):0<B ^ k:=Gb gS
theorem fD{a b i j:Nat}(ha:a<B ^ i)(hb:b<B ^ j):a * b<B ^ (i+j):=by
 rw[Hd];rcases Ap b with h | h
 ·subst h;rw[Hg];exact Em (xP i) (xP j)
 ·exact Ag (Ei ha h) (Bb _ (Nat.le_of_lt hb))
theorem yM{a b i:Nat}(ha:a<B ^ i)(hb:b<B ^ i):a+b<B ^ (i+1):=by
 rw[Ci];have hB:B=1000000000:=rfl;have:B ^ i * 2<=B ^ i * B:=Bb _ au;omega
theorem tJ.mul{a b:Nat}(ha:tJ a)(hb:tJ b):Fits (a * b):=Fits.of (fD ha hb) ay
theorem kP.fits{q:Rat}(h:kP q):aDK q:=⟨h.1.fits,h.2.fits⟩
theorem aCk(s:Bool)(n k:Nat):sg s (n * k)=sg s n * (k:Int):=by cases s<;>simp [sg]<;>grind
theorem aKs{S:St}{a b:AV}{p q:Rat}(H:Has fns)(hL:Laid S)(ha:bP S a p)(hb:bP S b q)(hp:kP p)(hq:kP q):eR fns (.fn 129 [] []) [a,b] S fun r S'=>bP S' r (p+q)/\Same S S':=by
 obtain⟨nv,dv,rfl,ha1,ha2⟩:=id ha;obtain⟨mv,ev,rfl,hb1,hb2⟩:=id hb;have⟨k,hk,hk0⟩:=tW ha1;have⟨j,hj,hj0⟩:=tW hb1;obtain⟨s,hs⟩:∃s,decide (p.num<0)=s:=⟨_,rfl⟩;obtain⟨t,ht⟩:∃t,decide (q.num<0)=t:=⟨_,rfl⟩;have ep:=qD p;have eq:=qD q;rw[hs] at ep;rw[ht] at eq;rw[hs] at ha;rw[ht] at hb;rw[hs,ht];refine bE H.f129 (by simp) ?_;refine aj ?_;refine aY ?_;refine bW (by simp only[↓stU,aB,rE,↓reduceIte,aR];rfl) ?_;intro S1 hS1 hn1 hc1;refine bW (by simp only[↓stU,aB,rE,↓reduceIte,aR];rfl) ?_;intro S2 hS2 hn2 hc2;refine bY ?_;intro S3 hS3 hn3 hc3;refine aj ?_;have g1:S3.h.get S.nx=some (.cells [.bool s,nv,dv] false 0):=by rw[hS3.2 _ au,hS2.2 _ au];exact hc1
 have g2:S3.h.get S1.nx=some (.cells [.bool t,mv,ev] false 0):=by rw[hS3.2 _ au];exact hc2
 have hS:=hS1.trans (hS2.trans hS3);have go:∀ (S4:St),Same S3 S4->∀ (v:AV) (Q:Rat),bP S4 v Q->∃c0 c1 c2,v= .agg [c0,c1,c2]/\S4.h.get S2.nx=some (.cells [.bool false,.cd,.cd] false 0)/\∀S5,bN S2.nx S4 S5->S5.h.get S2.nx=some (.cells [c0,c1,c2] false 0)->bP S5 (.agg [c0,c1,c2]) Q/\Same S S5:=by
  intro S4 hS4 v Q hv;obtain⟨c0,c1,c2,rfl⟩:=hv.cells;have hb4:S4.h.get S2.nx=some (.cells [.bool false,.cd,.cd] false 0):=by rw[hS4.2 _ au];exact hc3
  exact⟨c0,c1,c2,rfl,hb4,fun S5 hS5 hb5=>⟨hv.st hb4 rfl hS5 hb5,hS5.same (hS.trans hS4) au⟩⟩
 refine dS (du @aF @aE (eY g1) hk ?_);by_cases hk1:k=0
 ·refine aN (by simp only[↓sU,sD,rE,↓reduceIte,rA,Ab (show(k:Int)=0 by omega)]) ?_;refine aY (dh (kJ g2) ?_);refine aK ?_;try refine ae ?_
  refine aG (aDb H (hb.same hS) hq.fits) ?_;rintro v S4 ⟨hv,hS4⟩;obtain⟨c0,c1,c2,rfl,hb4,fin⟩:=go S4 hS4 v _ hv;refine cR (b:=S2.nx) (af) (by simp only[↓sU,sD,rE,↓reduceIte,rA,aR];rfl) hb4 rfl rfl ?_;intro S5 hS5 hn5 hb5;try refine ae ?_
  refine aI (dk @bF (kJ hb5) ?_);have hp0:=aAk (hk0.1 hk1);rw[hp0,Rat.zero_add];exact fin S5 hS5 hb5
 refine aM (by simp only[↓sU,sD,rE,↓reduceIte,rA,Aa (show ¬ (k:Int)=0 by omega)]) (aH ?_);try refine ae ?_
 refine dS (du @aF @aE (eY g2) hj ?_);by_cases hj1:j=0
 ·refine aN (by simp only[↓sU,sD,rE,↓reduceIte,rA,Ab (show(j:Int)=0 by omega)]) ?_;refine aY (dh (kJ g1) ?_);refine aK ?_;try refine ae ?_
  refine aG (aDb H (ha.same hS) hp.fits) ?_;rintro v S4 ⟨hv,hS4⟩;obtain⟨c0,c1,c2,rfl,hb4,fin⟩:=go S4 hS4 v _ hv;refine cR (b:=S2.nx) (af) (by simp only[↓sU,sD,rE,↓reduceIte,rA,aR];rfl) hb4 rfl rfl ?_;intro S5 hS5 hn5 hb5;try refine ae ?_
  refine aI (dk @bF (kJ hb5) ?_);have hq0:=aAk (hj0.1 hj1);rw[hq0,Rat.add_zero];exact fin S5 hS5 hb5
 refine aM (by simp only[↓sU,sD,rE,↓reduceIte,rA,Aa (show ¬ (j:Int)=0 by omega)]) (aH ?_);try refine ae ?_
 have hpn:0<p.num.natAbs:=by
   rcases Ap p.num.natAbs with h | h
   ·exact absurd (hk0.2 h) hk1
   ·exact h
 have hqn:0<q.num.natAbs:=by
   rcases Ap q.num.natAbs with h | h
   ·exact absurd (hj0.2 h) hj1
   ·exact h
 have hpd:=Nat.pos_of_ne_zero p.den_nz;have hqd:=Nat.pos_of_ne_zero q.den_nz;have⟨l1,i1,j1,v1⟩:=id ha1;have⟨l2,i2,j2,v2⟩:=id ha2;have⟨l3,i3,j3,v3⟩:=id hb1;have⟨l4,i4,j4,v4⟩:=id hb2;refine dS (dk (kJ g1) (kJ g2) ?_);refine aK ?_;try refine ae ?_
 refine aG (aAZ H (i1.same hS) (i2.same hS) (i3.same hS) (i4.same hS)) ?_;rintro _ S4 ⟨rfl,hS4⟩;try refine ae ?_
 have f1:S4.h.get S.nx=some (.cells [.bool s,nv,dv] false 0):=by rw[hS4.2 _ au];exact g1
 have f2:S4.h.get S1.nx=some (.cells [.bool t,mv,ev] false 0):=by rw[hS4.2 _ au];exact g2
 have hSS:=hS.trans hS4;by_cases hone:l1.length=1/\l2.length=1/\l3.length=1/\l4.length=1
 ·refine aN (by simp only[↓sU,sD,rE,↓reduceIte,rA,Ab hone]) ?_;have⟨o1,o2,o3,o4⟩:=hone;obtain⟨x1,rfl⟩:=Dg.1 o1;obtain⟨y1,rfl⟩:=Dg.1 o2;obtain⟨x2,rfl⟩:=Dg.1 o3;obtain⟨y2,rfl⟩:=Dg.1 o4;have u1:x1=p.num.natAbs:=by rw[<-v1];simp [dM,cN]
  have u2:y1=p.den:=by rw[<-v2];simp [dM,cN]
  have u3:x2=q.num.natAbs:=by rw[<-v3];simp [dM,cN]
  have u4:y2=q.den:=by rw[<-v4];simp [dM,cN]
  refine aY (dk (kJ f1) (kJ f2) ?_);refine aK ?_;try refine ae ?_
  refine aG (aCB H (hL.same hSS) (i1.same hSS) (i2.same hSS) (i3.same hSS) (i4.same hSS) (j1.1 _ (by simp)) (j2.1 _ (by simp)) (j3.1 _ (by simp)) (j4.1 _ (by simp)) au au au au) ?_;rintro v S5 ⟨hv,hS5⟩;obtain⟨c0,c1,c2,rfl,hb5,fin⟩:=go S5 (hS4.trans hS5) v _ hv;refine cR (b:=S2.nx) (af) (by simp only[↓sU,sD,rE,↓reduceIte,rA,aR];rfl) hb5 rfl rfl ?_;intro S6 hS6 hn6 hb6;try refine ae ?_
  refine aI (dk @bF (kJ hb6) ?_);have e:p+q=mkRat (sg s x1) y1+mkRat (sg t x2) y2:=by
   rw[u1,u2,u3,u4,ep,eq,Ep,Ep]
  rw[e];exact fin S6 hS6 hb6
 refine aM (by simp only[↓sU,sD,rE,↓reduceIte,rA,Aa hone]) (aH ?_);try refine ae ?_
 refine aY (du @aF @aE (dC f1) (dC f2) ?_);refine aK ?_;try refine ae ?_
 refine aG (tL H (hL.same hSS) (ha2.same hSS) (hb2.same hSS) hp.2.fits hq.2.fits) ?_;rintro gv S5 ⟨hgv,hS5⟩;try refine ae ?_
 obtain⟨g,hg⟩:∃g,g=Nat.gcd p.den q.den:=⟨_,rfl⟩;have hgp:0<g:=by rw[hg];exact Dr _ hpd
 rw[<-hg] at hgv;have hS5':=hSS.trans hS5;have e1:S5.h.get S.nx=some (.cells [.bool s,nv,dv] false 0):=by have:=hS4.1;rw[hS5.2 _ au];exact f1
 have e2:S5.h.get S1.nx=some (.cells [.bool t,mv,ev] false 0):=by have:=hS4.1;rw[hS5.2 _ au];exact f2
 have lt1:S.nx<S5.nx:=by have:=hS4.1;have:=hS5.1;omega
 have lt2:S1.nx<S5.nx:=by have:=hS4.1;have:=hS5.1;omega
 refine aC (eM (fun _=>False) ?_);intro S6 hS6;refine d7 @aF @aE @aV (dC e1) lt1 lt2 @Ak (cP ha2) ?_;refine bH rfl ?_;try refine ae ?_
 refine aG (kE H (ha2.same (hS5'.trans hS6)) (hgv.same hS6) hp.2.fits hgp) ?_;rintro dA S7 ⟨hdA,hS7⟩;refine⟨hS7,?_⟩;refine d7 @aF @aE @aV (dC e2) lt1 lt2 @Ak (cP hb2) ?_;refine bH rfl ?_;try refine ae ?_
 have h67:=hS6.trans hS7;refine aG (kE H (hb2.same (hS5'.trans h67)) (hgv.same h67) hq.2.fits hgp) ?_;rintro dB S8 ⟨hdB,hS8⟩;refine⟨hS8,?_⟩;try refine ae ?_
 have h68:=h67.trans hS8;have r1:S8.h.get S.nx=some (.cells [.bool s,nv,dv] false 0):=by rw[h68.2 _ lt1];exact e1
 have r2:S8.h.get S1.nx=some (.cells [.bool t,mv,ev] false 0):=by rw[h68.2 _ lt2];exact e2
 have lt1':S.nx<S8.nx:=Ag lt1 h68.1;have lt2':S1.nx<S8.nx:=Ag lt2 h68.1;have hS8':=hS5'.trans h68;refine aC (eM (fun _=>False) ?_);intro S9 hS9;simp only[↓sU,sD,rE,↓reduceIte,rA,aF,aE,aV,eJ r1,eY r1,lt1',lt2',Ak,cP ha1];refine bH rfl ?_;try refine ae ?_
 refine aG (tG H.f139 H.f143 (ha1.same (hS8'.trans hS9)) (hdB.same hS9) hp.1.fits hq.2.div.fits) ?_;rintro xv S10 ⟨hxv,hS10⟩;refine⟨hS10,?_⟩;simp only[↓sU,sD,rE,↓reduceIte,rA,aF,aE,aV,eJ r2,eY r2,lt1',lt2',Ak,cP hb1];refine bH rfl ?_;try refine ae ?_
 have h910:=hS9.trans hS10;refine aG (tG H.f139 H.f143 (hb1.same (hS8'.trans h910)) (hdA.same (hS8.trans h910)) hq.1.fits hp.2.div.fits) ?_;rintro yv S11 ⟨hyv,hS11⟩;refine⟨hS11,?_⟩;try refine ae ?_
 refine bH rfl ?_;try refine ae ?_
 have hX:=fD hp.1 hq.2.div (b:=q.den / g);have hY:=fD hq.1 hp.2.div (b:=p.den / g);refine aG (aKl H (hxv.same hS11) hyv (hp.1.mul hq.2.div) (hq.1.mul hp.2.div)) ?_;rintro _ S12 ⟨u,zv,m,rfl,hzv,hm,hS12⟩;refine⟨hS12,?_⟩;refine dk @nP @nN ?_;rw[aCk,aCk,ep,eq] at hm;have hmabs:m=(p.num * (q.den / g:Nat)+q.num * (p.den / g:Nat)).natAbs:=by rw[<-hm,nT]
 have a1:=Int.natAbs_add_le (p.num * (q.den / g:Nat)) (q.num * (p.den / g:Nat));rw[<-hmabs,Gu,Gu,Gg,Gg] at a1;have hmF:=Bs a1 (yM hX hY);have hmFit:Fits m:=Fits.of hmF ay;have low:=aMn (n1:=p.num) (n2:=q.num) (d1:=p.den) (d2:=q.den) (g:=g) (c:=Nat.gcd m g) p.reduced q.reduced p.den_nz q.den_nz hg (by rw[<-hmabs]) u hm;rw[Ep,Ep] at low;have⟨lo1,lo2,lo3⟩:=low;have h912:=h910.trans (hS11.trans hS12);have hS12':=hS8'.trans h912;have z1:S12.h.get S.nx=some (.cells [.bool s,nv,dv] false 0):=by rw[h912.2 _ lt1'];exact r1
 have z2:S12.h.get S1.nx=some (.cells [.bool t,mv,ev] false 0):=by rw[h912.2 _ lt2'];exact r2
 have lt1'':S.nx<S12.nx:=Ag lt1' h912.1;have lt2'':S1.nx<S12.nx:=Ag lt2' h912.1;have h312:Same S3 S12:=hS4.trans (hS5.trans (h68.trans h912));have⟨kz,hkz,hkz0⟩:=tW hzv;refine dS (dh hkz ?_);by_cases hm0:m=0
 ·have:=hkz0.2 hm0;refine aN (by simp only[↓sU,sD,rE,↓reduceIte,rA,Ab (show(kz:Int)=0 by omega)]) ?_;refine aY ?_;refine aK ?_;try refine ae ?_
  refine aG (tH H) ?_;rintro v S13 ⟨hv,hS13⟩;obtain⟨c0,c1,c2,rfl,hb13,fin⟩:=go S13 (h312.trans hS13) v _ hv;refine cR (b:=S2.nx) (af) (by simp only[↓sU,sD,rE,↓reduceIte,rA,aR];rfl) hb13 rfl rfl ?_;intro S14 hS14 hn14 hb14;try refine ae ?_
  refine aI (dk @bF (kJ hb14) ?_);have e:p+q=0:=by
   rw[<-lo1,hm0,Nat.zero_div];cases u<;>simp [sg]
  rw[e];exact fin S14 hS14 hb14
 have hkzn:¬kz=0:=fun h=>hm0 (hkz0.1 h);refine aM (by simp only[↓sU,sD,rE,↓reduceIte,rA,Aa (show ¬ (kz:Int)=0 by omega)]) (aH ?_);try refine ae ?_
 have hgv12:=hgv.same (h68.trans h912);have⟨gl,gl1,gl2,gl3⟩:=id hgv12;refine dS ?_;try refine ae ?_
 refine aK ?_;try refine ae ?_
 refine aG (aDz H.f117 gl1) ?_;rintro _ T ⟨rfl,hT⟩;rw[hT];try refine ae ?_
 by_cases hg1:gl= [1]
 ·refine aN (by simp only[↓sU,sD,rE,↓reduceIte,rA,Ab hg1]) ?_;have hge:g=1:=by rw[<-gl3,hg1,lT]
  refine aY (du @aF @aE (dC z1) (dC z2) ?_);refine aK ?_;try refine ae ?_
  refine aG (tG H.f139 H.f143 (ha2.same hS12') (hb2.same hS12') hp.2.fits hq.2.fits) ?_;rintro dd S13 ⟨hdd,hS13⟩;refine du @sC @iV (eK hzv) (eK hdd) ?_;rw[hge,Nat.gcd_one_right,Nat.div_one,Nat.div_one,Nat.div_one] at lo1 lo2;have hv:bP S13 (.agg [.bool u,zv,dd]) (p+q):=by
   rw[<-lo1];exact mI (hzv.same hS13) hdd (Gx p.den_nz q.den_nz) lo2 (fun h=>absurd h hm0)
  have⟨c0,c1,c2,he,hb13,fin⟩:=go S13 (h312.trans hS13) _ _ hv;cases he;refine cR (b:=S2.nx) (af) (by simp only[↓sU,sD,rE,↓reduceIte,rA,aR];rfl) hb13 rfl rfl ?_;intro S14 hS14 hn14 hb14;try refine ae ?_
  refine aI (dk @bF (kJ hb14) ?_);exact fin S14 hS14 hb14
 refine aM (by simp only[↓sU,sD,rE,↓reduceIte,rA,Aa hg1]) (aH ?_);try refine ae ?_
 refine aY ?_;try refine ae ?_
 refine aK ?_;try refine ae ?_
 have hgF:Fits g:=hp.2.fits.mono (by rw[hg];exact Gk _ hpd);refine aG (tL H (hL.same hS12') hzv hgv12 hmFit hgF) ?_;rintro cv S13 ⟨hcv,hS13⟩;try refine ae ?_
 obtain⟨c,hc⟩:∃c,c=Nat.gcd m g:=⟨_,rfl⟩;rw[<-hc] at hcv lo1 lo2 lo3;have hcp:0<c:=by rw[hc];exact Dj _ hgp
 have lt2''':S1.nx<S13.nx:=Ag lt2'' hS13.1;have y2:S13.h.get S1.nx=some (.cells [.bool t,mv,ev] false 0):=by rw[hS13.2 _ lt2''];exact z2
 have ne2:¬S1.nx=S2.nx:=by omega
 refine aC (eM (fun x=>x=S2.nx) ?_);intro S14 hS14;try refine ae ?_
 refine bH rfl ?_;try refine ae ?_
 refine aG (kE H (hzv.same (hS13.trans hS14)) (hcv.same hS14) hmFit hcp) ?_;rintro w1 S15 ⟨hw1,hS15⟩;refine⟨hS15,?_⟩;refine d7 @aF @aE @aV (dC y2) lt2''' ne2 @Ak (cP hb2) ?_;refine bH rfl ?_;try refine ae ?_
 have h1415:=hS14.trans hS15;refine aG (kE H (hb2.same (hS12'.trans (hS13.trans h1415))) (hcv.same h1415) hq.2.fits hcp) ?_;rintro w2 S16 ⟨hw2,hS16⟩;refine⟨hS16,?_⟩;try refine ae ?_
 refine bH rfl ?_;try refine ae ?_
 have h1416:=h1415.trans hS16;refine aG (tG H.f139 H.f143 (hdA.same (hS8.trans (h912.trans (hS13.trans h1416)))) hw2 hp.2.div.fits hq.2.div.fits) ?_;rintro w3 S17 ⟨hw3,hS17⟩;refine⟨hS17,?_⟩;refine dx @iC @sC @iV (eK hw1) (eK hw3) ?_;have hv:bP S17 (.agg [.bool u,w1,w3]) (p+q):=by
  rw[<-lo1];refine mI (hw1.same (hS16.trans hS17)) hw3 lo3 lo2 (fun h=>?_);have:c ∣ m:=by rw[hc];exact Cy ..
  have:=Gc (Nat.le_of_dvd au this) hcp;omega
 have⟨c0,c1,c2,he,hb17,fin⟩:=go S17 (h312.trans (hS13.trans (h1416.trans hS17))) _ _ hv;cases he;refine jJ (b:=S2.nx) rfl (af) (by simp only[↓sU,sD,rE,↓reduceIte,rA,aR];rfl) hb17 rfl rfl rfl ?_;intro S18 hS18 hn18 hb18;try refine ae ?_
 refine aI (dk @bF (kJ hb18) ?_);exact fin S18 hS18 hb18
theorem aGO{S:St}{a b:AV}{p q:Rat}(H:Has fns)(hL:Laid S)(ha:bP S a p)(hb:bP S b q)(hp:kP p)(hq:kP q):eR fns (.fn 125 [] []) [a,b] S fun r S'=>bP S' r (p * q)/\Same S S':=by
 have hB:B=1000000000:=rfl;obtain⟨nv,dv,rfl,ha1,ha2⟩:=id ha;obtain⟨mv,ev,rfl,hb1,hb2⟩:=id hb;have⟨k,hk,hk0⟩:=tW ha1;have⟨j,hj,hj0⟩:=tW hb1;obtain⟨s,hs⟩:∃s,decide (p.num<0)=s:=⟨_,rfl⟩;obtain⟨t,ht⟩:∃t,decide (q.num<0)=t:=⟨_,rfl⟩;have ep:=qD p;have eq:=qD q;rw[hs] at ep;rw[ht] at eq;rw[hs] at ha;rw[ht] at hb;rw[hs,ht];refine bE H.f125 (by simp) ?_;refine aj ?_;refine aY ?_;refine bW (by simp only[↓stU,aB,rE,↓reduceIte,aR];rfl) ?_;intro S1 hS1 hn1 hc1;refine bW (by simp only[↓stU,aB,rE,↓reduceIte,aR];rfl) ?_;intro S2 hS2 hn2 hc2;refine bY ?_;intro S3 hS3 hn3 hc3;refine aj ?_;have g1:S3.h.get S.nx=some (.cells [.bool s,nv,dv] false 0):=by rw[hS3.2 _ au,hS2.2 _ au];exact hc1
 have g2:S3.h.get S1.nx=some (.cells [.bool t,mv,ev] false 0):=by rw[hS3.2 _ au];exact hc2
 have hS:=hS1.trans (hS2.trans hS3);have go:∀ (S4:St),Same S3 S4->∀ (v:AV) (Q:Rat),bP S4 v Q->∃c0 c1 c2,v= .agg [c0,c1,c2]/\S4.h.get S2.nx=some (.cells [.bool false,.cd,.cd] false 0)/\∀S5,bN S2.nx S4 S5->S5.h.get S2.nx=some (.cells [c0,c1,c2] false 0)->bP S5 (.agg [c0,c1,c2]) Q/\Same S S5:=by
  intro S4 hS4 v Q hv;obtain⟨c0,c1,c2,rfl⟩:=hv.cells;have hb4:S4.h.get S2.nx=some (.cells [.bool false,.cd,.cd] false 0):=by rw[hS4.2 _ au];exact hc3
  exact⟨c0,c1,c2,rfl,hb4,fun S5 hS5 hb5=>⟨hv.st hb4 rfl hS5 hb5,hS5.same (hS.trans hS4) au⟩⟩
 by_cases hz:k=0\/j=0
 ·have e:p * q=0:=by
   rcases hz with h | h
   ·rw[aAk (hk0.1 h),Rat.zero_mul]
   ·rw[aAk (hj0.1 h),Rat.mul_zero]
  refine aC (aC (aX (Q:=fun o A' S'=>o= .normal/\S'=S3/\aD 4 A'.F= .ptr S2.nx 0/\aD 18 A'.F= .bool true) ?_ ?_))
  ·refine aJ ?_;by_cases hk1:k=0
   ·simp only[↓sU,sD,rE,↓reduceIte,rA,aF,aE,eY g1,hk,Ab (show(k:Int)=0 by omega)]
   ·have hj1:j=0:=by omega
    simp only[↓sU,sD,rE,↓reduceIte,rA,aF,aE,eY g1,eY g2,hk,hj,Aa (show ¬ (k:Int)=0 by omega),Ab (show(j:Int)=0 by omega)]
  rintro o ⟨F,inr⟩ S' ⟨rfl,hS',p4,p18⟩;simp only at p4 p18;rw[hS'];try refine ae ?_
  refine aN (ah p18) ?_;refine aY ?_;refine aK ?_;try refine ae ?_
  refine aG (tH H) ?_;rintro v S4 ⟨hv,hS4⟩;obtain⟨c0,c1,c2,rfl,hb4,fin⟩:=go S4 hS4 v _ hv;refine cR (b:=S2.nx) (ah p4) (by simp only[↓sU,sD,rE,↓reduceIte,rA,aR];rfl) hb4 rfl rfl ?_;intro S5 hS5 hn5 hb5;try refine ae ?_
  refine aI (dm @bF p4 (kJ hb5) ?_);rw[e];exact fin S5 hS5 hb5
 refine dS ?_;refine d7 @aF @aE (eY g1) (eY g2) hk hj (Aa (show ¬ (k:Int)=0 by omega)) (Aa (show ¬ (j:Int)=0 by omega)) ?_;refine aM (af) (aH ?_);try refine ae ?_
 have hpn:0<p.num.natAbs:=by
   rcases Ap p.num.natAbs with h | h
   ·exact absurd (.inl (hk0.2 h)) hz
   ·exact h
 have hqn:0<q.num.natAbs:=by
   rcases Ap q.num.natAbs with h | h
   ·exact absurd (.inr (hj0.2 h)) hz
   ·exact h
 have hpd:=Nat.pos_of_ne_zero p.den_nz;have hqd:=Nat.pos_of_ne_zero q.den_nz;refine aY (dx @aF @aE (eJ g1) (eJ g2) @aCq ?_);have⟨l1,i1,j1,v1⟩:=id ha1;have⟨l2,i2,j2,v2⟩:=id ha2;have⟨l3,i3,j3,v3⟩:=id hb1;have⟨l4,i4,j4,v4⟩:=id hb2;refine dS (dk (kJ g1) (kJ g2) ?_);refine aK ?_;try refine ae ?_
 refine aG (aAZ H (i1.same hS) (i2.same hS) (i3.same hS) (i4.same hS)) ?_;rintro _ S4 ⟨rfl,hS4⟩;try refine ae ?_
 have f1:S4.h.get S.nx=some (.cells [.bool s,nv,dv] false 0):=by rw[hS4.2 _ au];exact g1
 have f2:S4.h.get S1.nx=some (.cells [.bool t,mv,ev] false 0):=by rw[hS4.2 _ au];exact g2
 have hSS:=hS.trans hS4;have lt1:S.nx<S4.nx:=by have:=hS4.1;omega
 have lt2:S1.nx<S4.nx:=by have:=hS4.1;omega
 have ne1:¬S.nx=S2.nx:=by omega
 have ne2:¬S1.nx=S2.nx:=by omega
 by_cases hone:l1.length=1/\l2.length=1/\l3.length=1/\l4.length=1
 ·refine aN (by simp only[↓sU,sD,rE,↓reduceIte,rA,Ab hone]) ?_;have⟨o1,o2,o3,o4⟩:=hone;obtain⟨x1,rfl⟩:=Dg.1 o1;obtain⟨y1,rfl⟩:=Dg.1 o2;obtain⟨x2,rfl⟩:=Dg.1 o3;obtain⟨y2,rfl⟩:=Dg.1 o4;have u1:x1=p.num.natAbs:=by rw[<-v1];simp [dM,cN]
  have u2:y1=p.den:=by rw[<-v2];simp [dM,cN]
  have u3:x2=q.num.natAbs:=by rw[<-v3];simp [dM,cN]
  have u4:y2=q.den:=by rw[<-v4];simp [dM,cN]
  have b1:x1<B:=j1.1 _ (by simp);have b2:y1<B:=j2.1 _ (by simp);have b3:x2<B:=j3.1 _ (by simp);have b4:y2<B:=j4.1 _ (by simp);have m1:x1 * x2<=999999999 * 999999999:=Ef au au;have m2:y1 * y2<=999999999 * 999999999:=Ef au au;have w1:IntKind.u64.wrap (x1:Int)=(x1:Int):=wrap_u64 au au;have w2:IntKind.u64.wrap (y1:Int)=(y1:Int):=wrap_u64 au au;have w3:IntKind.u64.wrap (x2:Int)=(x2:Int):=wrap_u64 au au;have w4:IntKind.u64.wrap (y2:Int)=(y2:Int):=wrap_u64 au au;have w5:IntKind.u64.wrap ((x1:Int) * (x2:Int))=((x1 * x2:Nat):Int):=by rw[<-Bj];exact wrap_u64 au au
  have w6:IntKind.u64.wrap ((y1:Int) * (y2:Int))=((y1 * y2:Nat):Int):=by rw[<-Bj];exact wrap_u64 au au
  have k1:=i1.same hSS;have k2:=i2.same hSS;have k3:=i3.same hSS;have k4:=i4.same hSS;have oo:∀ {v:AV} {x:Nat},bQ S v [x]->aLs (fun c=>c=S2.nx) S4.nx (nC v 0):=fun h=>aNy h (fun b hb=>au) au;refine aC (eM (fun c=>c=S2.nx) ?_);intro S5 hS5;simp only[↓sU,sD,rE,↓reduceIte,rA,aF,aE,aV,eY f1,dC f1,eY f2,dC f2,lt1,lt2,ne1,ne2,Ak,jD k1,jD k2,jD k3,jD k4,aF7,rY k1,rY k2,rY k3,rY k4,rW k1,rW k2,rW k3,rW k4,oo i1,oo i2,oo i3,oo i4,w1,w2,w3,w4,w5,w6];refine bH rfl ?_;try refine ae ?_
  refine aG (qL H (hL.same (hSS.trans hS5)) (Em au au) (Em au au) au au) ?_;rintro v S6 ⟨hv,hS6⟩;refine⟨hS6,?_⟩;obtain⟨c0,c1,c2,rfl,hb6,fin⟩:=go S6 (hS4.trans (hS5.trans hS6)) v _ hv;refine jJ (b:=S2.nx) rfl (af) (by simp only[↓sU,sD,rE,↓reduceIte,rA,aR];rfl) hb6 rfl rfl rfl ?_;intro S7 hS7 hn7 hb7;try refine ae ?_
  refine aI (dk @bF (kJ hb7) ?_);have e:p * q=mkRat (sg (s !=t) (x1 * x2)) (y1 * y2):=by
   rw[aFw,<-Rat.mkRat_mul_mkRat,u1,u2,u3,u4,ep,eq,Ep,Ep]
  rw[e];exact fin S7 hS7 hb7
 refine aM (by simp only[↓sU,sD,rE,↓reduceIte,rA,Aa hone]) (aH ?_);try refine ae ?_
 obtain⟨g,hg⟩:∃g,g=Nat.gcd p.num.natAbs q.den:=⟨_,rfl⟩;obtain⟨h,hh⟩:∃h,h=Nat.gcd q.num.natAbs p.den:=⟨_,rfl⟩;have hgp:0<g:=by rw[hg];exact Dr _ hpn
 have hhp:0<h:=by rw[hh];exact Dr _ hqn
 have⟨lo1,lo2,lo3⟩:=aKr (n1:=p.num.natAbs) (n2:=q.num.natAbs) (d1:=p.den) (d2:=q.den) p.reduced q.reduced p.den_nz q.den_nz hg hh s t;rw[ep,eq,Ep,Ep] at lo1;refine aC (eM (fun _=>False) ?_);intro S5 hS5;simp only[↓sU,sD,rE,↓reduceIte,rA,aF,aE,aV,eY f1,dC f2,lt1,lt2,Ak,cP ha1,cP hb2];refine bH rfl ?_;try refine ae ?_
 have hSS5:=hSS.trans hS5;refine aG (tL H (hL.same hSS5) (ha1.same hSS5) (hb2.same hSS5) hp.1.fits hq.2.fits) ?_;rintro gv S6 ⟨hgv,hS6⟩;rw[<-hg] at hgv;refine⟨hS6,?_⟩;simp only[↓sU,sD,rE,↓reduceIte,rA,aF,aE,aV,dC f1,eY f2,lt1,lt2,Ak,cP ha2,cP hb1];refine bH rfl ?_;try refine ae ?_
 have hSS6:=hSS5.trans hS6;refine aG (tL H (hL.same hSS6) (hb1.same hSS6) (ha2.same hSS6) hq.1.fits hp.2.fits) ?_;rintro hv S7 ⟨hhv,hS7⟩;rw[<-hh] at hhv;refine⟨hS7,?_⟩;try refine ae ?_
 have hSS7:=hSS6.trans hS7;have h47:=hS5.trans (hS6.trans hS7);have r1:S7.h.get S.nx=some (.cells [.bool s,nv,dv] false 0):=by rw[h47.2 _ lt1];exact f1
 have r2:S7.h.get S1.nx=some (.cells [.bool t,mv,ev] false 0):=by rw[h47.2 _ lt2];exact f2
 have lt1':S.nx<S7.nx:=Ag lt1 h47.1;have lt2':S1.nx<S7.nx:=Ag lt2 h47.1;refine aC (eM (fun _=>False) ?_);intro S8 hS8;refine d7 @aF @aE @aV (eY r1) lt1' lt2' @Ak (cP ha1) ?_;refine bH rfl ?_;try refine ae ?_
 have hSS8:=hSS7.trans hS8;refine aG (kE H (ha1.same hSS8) (hgv.same (hS7.trans hS8)) hp.1.fits hgp) ?_;rintro u1 S9 ⟨hu1,hS9⟩;refine⟨hS9,?_⟩;refine d7 @aF @aE @aV (eY r2) lt1' lt2' @Ak (cP hb1) ?_;refine bH rfl ?_;try refine ae ?_
 have hSS9:=hSS8.trans hS9;refine aG (kE H (hb1.same hSS9) (hhv.same (hS8.trans hS9)) hq.1.fits hhp) ?_;rintro u2 S10 ⟨hu2,hS10⟩;refine⟨hS10,?_⟩;try refine ae ?_
 refine bH rfl ?_;try refine ae ?_
 refine aG (tG H.f139 H.f143 (hu1.same hS10) hu2 hp.1.div.fits hq.1.div.fits) ?_;rintro u3 S11 ⟨hu3,hS11⟩;refine⟨hS11,?_⟩;try refine ae ?_
 have h711:=hS8.trans (hS9.trans (hS10.trans hS11));have hSS11:=hSS7.trans h711;have z1:S11.h.get S.nx=some (.cells [.bool s,nv,dv] false 0):=by rw[h711.2 _ lt1'];exact r1
 have z2:S11.h.get S1.nx=some (.cells [.bool t,mv,ev] false 0):=by rw[h711.2 _ lt2'];exact r2
 have lt1'':S.nx<S11.nx:=Ag lt1' h711.1;have lt2'':S1.nx<S11.nx:=Ag lt2' h711.1;refine aC (eM (fun x=>x=S2.nx) ?_);intro S12 hS12;simp only[↓sU,sD,rE,↓reduceIte,rA,aF,aE,aV,dC z1,lt1'',lt2'',ne1,ne2,Ak,cP ha2];refine bH rfl ?_;try refine ae ?_
 have hSS12:=hSS11.trans hS12;refine aG (kE H (ha2.same hSS12) (hhv.same (h711.trans hS12)) hp.2.fits hhp) ?_;rintro e1 S13 ⟨he1,hS13⟩;refine⟨hS13,?_⟩;simp only[↓sU,sD,rE,↓reduceIte,rA,aF,aE,aV,dC z2,lt1'',lt2'',ne1,ne2,Ak,cP hb2];refine bH rfl ?_;try refine ae ?_
 have hSS13:=hSS12.trans hS13;refine aG (kE H (hb2.same hSS13) (hgv.same (hS7.trans (h711.trans (hS12.trans hS13)))) hq.2.fits hgp) ?_;rintro e2 S14 ⟨he2,hS14⟩;refine⟨hS14,?_⟩;try refine ae ?_
 refine bH rfl ?_;try refine ae ?_
 refine aG (tG H.f139 H.f143 (he1.same hS14) he2 hp.2.div.fits hq.2.div.fits) ?_;rintro e3 S15 ⟨he3,hS15⟩;refine⟨hS15,?_⟩;refine dx @iC @sC @iV (eK hu3) (eK he3) ?_;have h1115:=hS12.trans (hS13.trans (hS14.trans hS15));have hv:bP S15 (.agg [.bool (s !=t),u3,e3]) (p * q):=by
  rw[<-lo1];refine mI (hu3.same h1115) he3 lo3 lo2 (fun h0=>?_);have d1:g ∣ p.num.natAbs:=by rw[hg];exact Cy ..
  have d2:h ∣ q.num.natAbs:=by rw[hh];exact Cy ..
  have a1:=Gc (Nat.le_of_dvd hpn d1) hgp;have a2:=Gc (Nat.le_of_dvd hqn d2) hhp;have:=Em a1 a2;omega
 have⟨c0,c1,c2,he,hb15,fin⟩:=go S15 (hS4.trans (h47.trans (h711.trans h1115))) _ _ hv;cases he;refine jJ (b:=S2.nx) rfl (af) (by simp only[↓sU,sD,rE,↓reduceIte,rA,aR];rfl) hb15 rfl rfl rfl ?_;intro S18 hS18 hn18 hb18;try refine ae ?_
 refine aI (dk @bF (kJ hb18) ?_);exact fin S18 hS18 hb18
def eH(q:Rat):Prop:=q.num.natAbs<B ^ 1024/\q.den<B ^ 1024
theorem pD{l:bt}(h:jM l)(K:Nat):l.length<=K↔val l<B ^ K:=by
 constructor
 ·intro hl;exact Ag (eX h.1) (Ch gS hl)
 ·exact pQ h
theorem aJQ{S:St}{v:AV}{q:Rat}(H:Has fns)(h:bP S v q):eR fns (.fn 144 [] []) [v] S fun r S'=>∃b,r= .bool b/\(b=true↔eH q)/\Same S S':=by
 obtain⟨nv,dv,rfl,⟨l1,i1,j1,v1⟩,⟨l2,i2,j2,v2⟩⟩:=h;have e1:=pD j1 1024;have e2:=pD j2 1024;rw[v1] at e1;rw[v2] at e2;refine bE H.f144 (by simp) ?_;refine aj ?_;refine aY ?_;refine bW (by simp only[↓stU,aB,rE,↓reduceIte,aR];rfl) ?_;intro S1 hS1 hn1 hb1;refine aj ?_;refine aY ?_;by_cases h1:l1.length<=1024
 ·have d1:decide ((l1.length:Int)<=1024)=true:=Ab au;by_cases h2:l2.length<=1024
  ·have d2:decide ((l2.length:Int)<=1024)=true:=Ab au;refine d7 @aF @aE (eY hb1) (dC hb1) i1.len i2.len d1 d2 ?_;refine aI (ae ?_);exact⟨true,rfl,⟨fun _=>⟨e1.1 h1,e2.1 h2⟩,fun _=>rfl⟩,hS1⟩
  ·have d2:decide ((l2.length:Int)<=1024)=false:=Aa au;refine d7 @aF @aE (eY hb1) (dC hb1) i1.len i2.len d1 d2 ?_;refine aI (ae ?_);exact⟨false,rfl,⟨fun h=>(by cases h),fun h=>absurd (e2.2 h.2) h2⟩,hS1⟩
 ·have d1:decide ((l1.length:Int)<=1024)=false:=Aa au;refine dx @aF @aE (eY hb1) i1.len d1 ?_;refine aI (ae ?_);exact⟨false,rfl,⟨fun h=>(by cases h),fun h=>absurd (e1.2 h.1) h1⟩,hS1⟩
open Classical in
noncomputable def chk(l:bt):Int:=if 1024<l.length then 4 else if jM l then 0 else 3
noncomputable def mB(l m:bt):Int:=if chk l≠0 then chk l else if chk m≠0 then chk m else if m= [] then 6 else 0
noncomputable def wM(s:Bool)(l m:bt):Int:=if mB l m≠0 then mB l m else if(l= []/\s=true)\/Nat.gcd (val l) (val m)≠1 then 3 else 0
theorem aAA{l:bt}:chk l=0↔l.length<=1024/\jM l:=by
 unfold chk;by_cases h1:1024<l.length
 ·rw[if_pos h1];constructor
  ·intro h;cases h
  ·intro h;omega
 ·rw[if_neg h1];by_cases h2:jM l
  ·rw[if_pos h2];exact⟨fun _=>⟨au,h2⟩,fun _=>rfl⟩
  ·rw[if_neg h2];exact⟨fun h=>(by cases h),fun h=>absurd h.2 h2⟩
theorem aBO{l m:bt}:mB l m=0↔(l.length<=1024/\jM l)/\(m.length<=1024/\jM m)/\m≠ []:=by
 unfold mB;by_cases h1:chk l=0
 ·rw[if_neg (by simp [h1])];by_cases h2:chk m=0
  ·rw[if_neg (by simp [h2])];rw[aAA] at h1 h2;by_cases h3:m= []
   ·rw[if_pos h3];exact⟨fun h=>(by cases h),fun h=>absurd h3 h.2.2⟩
   ·rw[if_neg h3];exact⟨fun _=>⟨h1,h2,h3⟩,fun _=>rfl⟩
  ·rw[if_pos h2];exact⟨fun h=>absurd h h2,fun h=>absurd (aAA.2 h.2.1) h2⟩
 ·rw[if_pos h1];exact⟨fun h=>absurd h h1,fun h=>absurd (aAA.2 h.1) h1⟩
theorem aK5{s:Bool}{l m:bt}:wM s l m=0↔mB l m=0/\¬ (l= []/\s=true)/\Nat.gcd (val l) (val m)=1:=by
 unfold wM;by_cases h1:mB l m=0
 ·rw[if_neg (by simp [h1])];by_cases h2:(l= []/\s=true)\/Nat.gcd (val l) (val m)≠1
  ·rw[if_pos h2];refine⟨fun h=>(by cases h),fun h=>?_⟩;rcases h2 with h2 | h2
   ·exact absurd h2 h.2.1
   ·exact absurd h.2.2 h2
  ·rw[if_neg h2];refine⟨fun _=>⟨h1,fun h=>h2 (.inl h),?_⟩,fun _=>rfl⟩;apply Classical.byContradiction;intro h;exact h2 (.inr h)
 ·rw[if_pos h1];exact⟨fun h=>absurd h h1,fun h=>absurd h.1 h1⟩
def aRN(S:St)(v:AV)(l:bt)(k:Nat)(A:bK)(S':St):Prop:=
 A.inr=false/\S'=S/\∃i:Nat,i+k=l.length/\aD 0 A.F=v/\aD 8 A.F=v/\aD 9 A.F= .int .i64 (l.length:Int)/\aD 10 A.F= .int .i64 (i:Int)/\bR (l.take i)
theorem yK{S:St}{v:AV}{l:bt}(H:Has fns)(h:bQ S v l):eR fns (.fn 151 [] []) [v] S fun r S'=>r= .int .i64 (chk l)/\S'=S:=by
 have hB:B=1000000000:=rfl;refine bE H.f151 (by simp) ?_;refine aj ?_;refine aY (aj ?_);refine dS (eo h.len ?_);by_cases h1:1024<l.length
 ·refine aN (by simp only[↓stU,aB,rE,↓reduceIte,Ab (show(1024:Int)<(l.length:Int) by omega)]) ?_;refine aY (aj ?_);refine aI ?_;simp only[↓stU,aB,rE,↓reduceIte,chk,if_pos h1]
 refine aM (by simp only[↓stU,aB,rE,↓reduceIte,Aa (show ¬ (1024:Int)<(l.length:Int) by omega)]) (aH ?_);refine aj ?_;have bad:¬jM l->chk l=3:=fun hn=>by unfold chk;rw[if_neg h1,if_neg hn]
 refine dS (eo h.len ?_);refine aX (Q:=fun o A' S'=>S'=S/\((o= .normal/\A'.inr=false/\aD 0 A'.F=v/\bR l)\/(o= .ret/\aD 2 A'.F= .int .i64 3/\¬jM l))) ?_ ?_
 ·refine aO (bJ (aRN S v l) ?_ l.length _ _ ⟨rfl,rfl,0,au,ak,ak,ak,ak,by simp [bR]⟩);rintro k ⟨F,inr⟩ S' ⟨q0,hS',i,hik,p0,p8,p9,p10,hsm⟩;simp only at q0 p0 p8 p9 p10;subst q0;rw[hS'];refine aY ?_;by_cases hi:i<l.length
  ·refine eu p9 p10 (Ab (show(i:Int)<(l.length:Int) by omega)) ?_;refine aC (aN (ak) (aH ?_));refine aj ?_;have hld:=h.ld hi;rw[Ae] at hld;have htk:l.take (i+1)=l.take i++ [l[i]?.getD 0]:=by rw[Cz,Ad hi];rfl
   have hmem:l[i]?.getD 0∈l:=by rw[Ad hi];exact Ec hi
   generalize l[i]?.getD 0=x at *;refine aC (aO (aC (aJ ?_)));refine ew p8 p10 (h.cw hi) hld ?_;refine aY (aj ?_);by_cases hx:1000000000<=x
   ·refine aN (by simp only[↓stU,aB,rE,↓reduceIte,Ab (show(1000000000:Int)<=(x:Int) by omega)]) ?_;refine aY (aj ?_);refine aI (aj ?_);exact .inr fun hn=>by have:=hn.1 x hmem;omega
   ·refine aM (by simp only[↓stU,aB,rE,↓reduceIte,Aa (show ¬ (1000000000:Int)<=(x:Int) by omega)]) (aH ?_);refine aj ?_;refine aJ ?_;have w1:=dq i
    refine er p10 w1 ?_;refine⟨k - 1,au,rfl,rfl,i+1,au,am p0,am p8,am p9,ak,?_⟩;rw[htk];exact bR.append.2 ⟨hsm,lB au⟩
  ·refine eu p9 p10 (Aa (show ¬ (i:Int)<(l.length:Int) by omega)) ?_;refine aC (aM (ak) (bD ?_));refine eo p0 ?_;rw[Am au] at hsm;exact .inl hsm
 rintro o ⟨F,inr⟩ S' ⟨hS',⟨rfl,q0,p0,hsm⟩ | ⟨rfl,p2,hbad⟩⟩
 ·simp only at q0 p0;subst q0;rw[hS'];try refine aj ?_
  have hnorm:jM l↔l.getLast? ≠some 0:=⟨fun hn=>hn.2,fun hn=>⟨hsm,hn⟩⟩;refine aC (aC (aX (Q:=fun o A' S'=>o= .normal/\S'=S/\∃b,aD 28 A'.F= .bool b/\(b=true↔¬jM l)) ?_ ?_))
  ·refine aJ ?_;by_cases h0:l= []
   ·subst h0;refine er p0 h.len ?_;exact⟨false,by simp [qF]⟩
   ·have hp:=Du.2 h0;obtain⟨j,hj⟩:∃j,l.length=j+1:=⟨l.length - 1,au⟩;have hld:=h.ld (i:=j) au;rw[Ae] at hld;have hlast:l.getLast? =some (l[j]?.getD 0):=by
     rw[List.getLast?_eq_getElem?,hj,Gd,Ad au];rfl
    have w1:IntKind.i64.wrap ((l.length:Int) - 1)=(j:Int):=by rw[wrap_i64 au au];omega
    refine e9 p0 h.len (Ab (show(0:Int)<(l.length:Int) by omega)) w1 (h.cw (show j<l.length by omega)) hld ?_;refine⟨decide (((l[j]?.getD 0:Nat):Int)=0),rfl,?_⟩;rw[hnorm,hlast];simp
  rintro o ⟨F,inr⟩ S' ⟨rfl,hS',b,p28,hb⟩;simp only at p28;rw[hS'];try refine aj ?_
  cases b with
  | true=>
   refine aN (am p28) ?_;refine aY (aj ?_);refine aI ?_;simp only[↓stU,aB,rE,↓reduceIte,bad (hb.1 rfl)]
  | false=>
   refine aM (am p28) (aH ?_);try refine aj ?_
   refine aY (aj ?_);refine aI ?_;have hn:jM l:=Classical.byContradiction fun h=>by have:=hb.2 h;cases this
   simp only[↓stU,aB,rE,↓reduceIte,aAA.2 ⟨au,hn⟩]
 ·simp only at p2;rw[hS'];simp only[↓stU,aB,rE,↓reduceIte,p2,bad hbad]
theorem aIo{S:St}{a b:AV}{l m:bt}(H:Has fns)(ha:bQ S a l)(hb:bQ S b m):eR fns (.fn 140 [] []) [a,b] S fun r S'=>r= .int .i64 (mB l m)/\S'=S:=by
 refine bE H.f140 (by simp) ?_;refine aj ?_;refine aY (aj ?_);refine dS (aj ?_);refine aK (aj ?_);refine aG (yK H ha) ?_;rintro _ T ⟨rfl,hT⟩;rw[hT];try refine aj ?_
 refine aY (aj ?_);by_cases h1:chk l=0
 ·refine aM (by simp only[↓stU,aB,rE,↓reduceIte,h1];rfl) (aH ?_);refine aj ?_;refine dS (aj ?_);refine aK (aj ?_);refine aG (yK H hb) ?_;rintro _ T ⟨rfl,hT⟩;rw[hT];try refine aj ?_
  refine aY (aj ?_);by_cases h2:chk m=0
  ·refine aM (by simp only[↓stU,aB,rE,↓reduceIte,h2];rfl) (aH ?_);refine aj ?_;refine dS (eo hb.len ?_);by_cases h3:m= []
   ·refine aN (by simp only[↓stU,aB,rE,↓reduceIte,h3];rfl) ?_;refine aY (aj ?_);refine aI ?_;have e:mB l m=6:=by unfold mB;rw[if_neg (by simp [h1]),if_neg (by simp [h2]),if_pos h3]
    simp only[↓stU,aB,rE,↓reduceIte,e]
   ·have:=Du.2 h3;refine aM (by simp only[↓stU,aB,rE,↓reduceIte,Aa (show ¬ (m.length:Int)=0 by omega)]) (aH ?_);refine aj ?_;refine aY (aj ?_);refine aI ?_;simp only[↓stU,aB,rE,↓reduceIte,mB,h1,h2,h3];simp
  ·refine aN (by simp only[↓stU,aB,rE,↓reduceIte,Ab (show chk m≠0 from h2)]) ?_;refine aY (aj ?_);refine aI ?_;simp only[↓stU,aB,rE,↓reduceIte,mB,h1];simp [h2]
 ·refine aN (by simp only[↓stU,aB,rE,↓reduceIte,Ab (show chk l≠0 from h1)]) ?_;refine aY (aj ?_);refine aI ?_;simp only[↓stU,aB,rE,↓reduceIte,mB];simp [h1]
def aDR(S:St)(v:AV)(s:Bool)(l m:bt):Prop:=∃nv dv,v= .agg [.bool s,nv,dv]/\bQ S nv l/\bQ S dv m
theorem aDR.same{S S':St}{v:AV}{s:Bool}{l m:bt}(h:aDR S v s l m)(hs:Same S S'):aDR S' v s l m:=by
 have⟨nv,dv,h1,h2,h3⟩:=h;exact⟨nv,dv,h1,h2.same hs,h3.same hs⟩
theorem aPg(i:Decidable True): @decide True i=true:=@Ab True i trivial
theorem aCP{S:St}{v:AV}{s:Bool}{l m:bt}(H:Has fns)(hL:Laid S)(h:aDR S v s l m):eR fns (.fn 123 [] []) [v] S fun r S'=>r= .int .i64 (wM s l m)/\Same S S':=by
 obtain⟨nv,dv,rfl,h1,h2⟩:=h;refine bE H.f123 (by simp) ?_;refine aj ?_;refine aY ?_;refine bW (by simp only[↓stU,aB,rE,↓reduceIte,aR];rfl) ?_;intro S1 hS1 hn1 hb1;refine aj ?_;refine dS (ew @aF @aE (eY hb1) (dC hb1) ?_);refine aK (aj ?_);refine aG (aIo H (h1.same hS1) (h2.same hS1)) ?_;rintro _ T ⟨rfl,hT⟩;rw[hT];try refine aj ?_
 refine aY (aj ?_);by_cases hp:mB l m=0
 ·refine aM (by simp only[↓stU,aB,rE,↓reduceIte,hp];rfl) (aH ?_);refine aj ?_;have⟨⟨q1,q2⟩,⟨q3,q4⟩,q5⟩:=aBO.1 hp;have n1:bV S nv (val l):=⟨l,h1,q2,rfl⟩;have n2:bV S dv (val m):=⟨m,h2,q4,rfl⟩;have f1:Fits (val l):=Fits.of (eX q2.1) au;have f2:Fits (val m):=Fits.of (eX q4.1) au;have hr:wM s l m=if(l= []/\s=true)\/Nat.gcd (val l) (val m)≠1 then 3 else 0:=by unfold wM;rw[if_neg (by simp [hp])]
  refine aC (aC (aX (Q:=fun o A' S'=>o= .normal/\Same S S'/\∃b,aD 27 A'.F= .bool b/\(b=true↔(l= []/\s=true)\/Nat.gcd (val l) (val m)≠1)) ?_ ?_))
  ·refine aJ ?_;have cop:∀ (F:Fr),aD 20 F= .bool false->aD 22 F=nv->aD 24 F=dv->¬ (l= []/\s=true)->pA fns [oc 25 141 [(.t 22),(.t 24)] 0,og 26 20 false 0 (.un .not (.t 25)),oq 27 (.pick (.t 20) (.c (.bool true)) (.t 26))] F S1 (fun F' S'=>Same S S'/\∃b,aD 27 F'= .bool b/\(b=true↔(l= []/\s=true)\/Nat.gcd (val l) (val m)≠1)):=by
    intro F p20 p22 p24 hns;refine aK (er p22 p24 ?_);refine aG (aFR H (hL.same hS1) (n1.same hS1) (n2.same hS1) f1 f2) ?_;rintro _ S2 ⟨rfl,hS2⟩;refine er p20 @pV ?_;refine⟨hS1.trans hS2,_,rfl,?_⟩;simp [hns]
   by_cases h0:l= []
   ·subst h0;cases s with
    | true=>
     simp only[↓stU,aB,rE,↓reduceIte,aF,aE,eJ hb1,eY hb1,h1.len,Cd,Int.natCast_zero,aPg];exact⟨hS1,true,rfl,by simp⟩
    | false=>
     simp only[↓stU,aB,rE,↓reduceIte,aF,aE,eJ hb1,eY hb1,dC hb1,h1.len,Cd,Int.natCast_zero,aPg];refine aDN (cop _ (ak) (ak) (ak) (by simp)) ?_;rintro F S' ⟨k1,b,k2,k3⟩;exact⟨k1,b,k2,by simpa using k3⟩
   ·have:=Du.2 h0;refine fa @aF @aE (eJ hb1) (eY hb1) (dC hb1) h1.len (Aa (show ¬ (l.length:Int)=0 by omega)) ?_;exact cop _ (ak) (ak) (ak) (by simp [h0])
  rintro o ⟨F,inr⟩ S' ⟨rfl,hS',b,p27,hb⟩;simp only at p27;try refine aj ?_
  cases b with
  | true=>
   refine aN (am p27) ?_;refine aY (aj ?_);refine aI ?_;simp only[↓stU,aB,rE,↓reduceIte,hr,if_pos (hb.1 rfl)];exact hS'
  | false=>
   refine aM (am p27) (aH ?_);try refine aj ?_
   refine aY (aj ?_);refine aI ?_;simp only[↓stU,aB,rE,↓reduceIte,hr,if_neg (fun h=>by have:=hb.2 h;cases this)];exact hS'
 ·refine aN (by simp only[↓stU,aB,rE,↓reduceIte,Ab (show mB l m≠0 from hp)]) ?_;refine aY (aj ?_);refine aI ?_;have e:wM s l m=mB l m:=by unfold wM;rw[if_pos hp]
  refine eo e ?_;exact hS1
def pG(k:Nat)(q:Rat):Prop:=q.num.natAbs<B ^ k/\q.den<B ^ k
theorem pG.mono{k j:Nat}{q:Rat}(h:pG k q)(hk:k<=j):pG j q:=⟨Ag h.1 (Ch gS hk),Ag h.2 (Ch gS hk)⟩
theorem pG.half{k:Nat}{q:Rat}(h:pG k q)(hk:k<=20000):kP q:=by unfold kP tJ;exact pG.mono (j:=20000) h hk
theorem aCZ{n:Int}{d:Nat}(hd:d≠0):(mkRat n d).num.natAbs<=n.natAbs/\(mkRat n d).den<=d:=by
 have hg:0<Nat.gcd n.natAbs d:=Dj _ au;rw[<-Rat.normalize_eq_mkRat hd,Rat.normalize_eq];refine⟨?_,Ea ..⟩;simp only;rw[Int.natAbs_ediv_of_dvd (Int.ofNat_dvd_left.2 (Cy ..)),Gg];exact Ea ..
theorem pG.mul{i j:Nat}{p q:Rat}(hp:pG i p)(hq:pG j q):pG (i+j) (p * q):=by
 rw[Rat.mul_def'];have⟨h1,h2⟩:=aCZ (n:=p.num * q.num) (Gx p.den_nz q.den_nz);rw[Gu] at h1;exact⟨Bs h1 (fD hp.1 hq.1),Bs h2 (fD hp.2 hq.2)⟩
theorem pG.add{i j:Nat}{p q:Rat}(hp:pG i p)(hq:pG j q):pG (i+j+1) (p+q):=by
 rw[Rat.add_def'];have⟨h1,h2⟩:=aCZ (n:=p.num * q.den+q.num * p.den) (Gx p.den_nz q.den_nz);have h3:=Int.natAbs_add_le (p.num * q.den) (q.num * p.den);rw[Gu,Gu,Gg,Gg] at h3;refine⟨Bs (Bd h1 h3) (yM (fD hp.1 hq.2) (by rw[Fm];exact fD hq.1 hp.2)),Bs h2 (Ag (fD hp.2 hq.2) (Ch gS au))⟩
theorem pG.inv{i:Nat}{p:Rat}(hp:pG i p)(h0:p.num≠0):pG i p⁻¹ :=by
 rw[<-aFe h0];have⟨h1,h2⟩:=aLX (n:=sg (decide (p.num<0)) p.den) (d:=p.num.natAbs) au (by rw[nT];exact Nat.Coprime.symm p.reduced);unfold pG;rw[h1,h2,nT];exact⟨hp.2,hp.1⟩
theorem aMU(k:Nat)(hk:0<k):pG k 0:=⟨xP k,Nat.one_lt_pow au ay⟩
theorem bQ.lay{S S':St}{v:AV}{l:bt}{b:Nat}(h:bQ S v l)(hn:S.h.get b=none)(hs:bN b S S'):bQ S' v l:=by
 rcases h with h | ⟨c,off,cap,o1,ds,rfl,hc,hlt,hcs,hel⟩
 ·exact .inl h
 ·have hcb:c≠b:=by
   rintro rfl;simp [bU,hn,aU] at hcs
  refine .inr ⟨c,off,cap,o1,ds,rfl,hc,Ag hlt hs.1,?_,hel⟩;unfold bU;rw[hs.2 c hlt hcb];exact hcs
theorem bV.lay{S S':St}{v:AV}{n:Nat}{b:Nat}(h:bV S v n)(hn:S.h.get b=none)(hs:bN b S S'):bV S' v n:=by
 have⟨l,h1,h2⟩:=h;exact⟨l,h1.lay hn hs,h2⟩
theorem bP.lay{S S':St}{v:AV}{q:Rat}{b:Nat}(h:bP S v q)(hn:S.h.get b=none)(hs:bN b S S'):bP S' v q:=by
 have⟨nv,dv,h1,h2,h3⟩:=h;exact⟨nv,dv,h1,h2.lay hn hs,h3.lay hn hs⟩
section
variable {W:Nat->Prop}{h0:T AB}{base:Nat}{d:Option Nat}{m i:Nat}{l:List AO}{F:Fr}{S:St}{last:Option Nat}{Q:Fr->St->List kQ->Prop}
theorem nG{j id:Nat}{bl:AB}{h:T AB}(ht:Nat.testBit m j=true):cA m [⟨j,id,bl⟩] h=([],h.set id (some bl)):=by
 unfold cA;rw[show Nat.testBit m (kQ.mk j id bl).i=true from ht,aP];rfl
theorem yU{f:cL}{args:List cL}{j id:Nat}{bl:AB}(ht:Nat.testBit m j=true)(h:nL last m=true)(hw:∀S2,bN id S S2->S2.nx=S.nx->S2.h.get id=some bl->eR fns (f.val F) (cO args F) S2 fun v S1=>Same S2 S1/\iD fns W h0 base l (i+1) (cB d F v) S1 [] (some i) Q):iD fns W h0 base (⟨d,.x (.call f args),none,m⟩::l) i F S [⟨j,id,bl⟩] last Q:=by
 refine sQ h ?_;rw[nG ht];exact hw ⟨S.h.set id (some bl),S.nx⟩ ((bN.refl id S).put _) rfl fc
end
def aMY:bo:=[.bool false,.cd,.cd,.bool false,.cd,.cd]
noncomputable def aOy(x y:AV):Option AV:=aU (iJ aMY [(0,3,x),(3,3,y)]) fun cs=>some (.agg cs)
theorem aI2(x y:cL)(F:Fr)(h:T AB):jK (.build [.bool false,.cd,.cd,.bool false,.cd,.cd] [(0,3,x),(3,3,y)]) F h=aOy (x.val F) (y.val F):=rfl
theorem aDr(a b c d e f:AV):aOy (.agg [a,b,c]) (.agg [d,e,f])=some (.agg [a,b,c,d,e,f]):=rfl
noncomputable def bs1(x:AV)(id:Nat):Option (AV×AB):=aU (iJ (repeatL aMY 1) [(0 * 6,6,x)]) fun cs=>some (.sl id 0 1 1 false,.cells cs false 0)
noncomputable def bs2(x y:AV)(id:Nat):Option (AV×AB):=aU (iJ (repeatL aMY 2) [(0 * 6,6,x),(1 * 6,6,y)]) fun cs=>some (.sl id 0 2 2 false,.cells cs false 0)
theorem aJg(t:Nat)(x:cL)(F:Fr)(id:Nat):vC (.cq t 6 1 [.bool false,.cd,.cd,.bool false,.cd,.cd] [(0,x)]) F id=bs1 (x.val F) id:=rfl
theorem aOp(t:Nat)(x y:cL)(F:Fr)(id:Nat):vC (.cq t 6 2 [.bool false,.cd,.cd,.bool false,.cd,.cd] [(0,x),(1,y)]) F id=bs2 (x.val F) (y.val F) id:=rfl
theorem aLZ(a b c d e f:AV)(id:Nat):bs1 (.agg [a,b,c,d,e,f]) id=some (.sl id 0 1 1 false,.cells [a,b,c,d,e,f] false 0):=rfl
theorem aOT(a b c d e f a' b' c' d' e' f':AV)(id:Nat):bs2 (.agg [a,b,c,d,e,f]) (.agg [a',b',c',d',e',f']) id=some (.sl id 0 2 2 false,.cells [a,b,c,d,e,f,a',b',c',d',e',f'] false 0):=rfl
theorem aK9{S:St}{x y z:AV}{q:Rat}(h:bP S (.agg [x,y,z]) q):vB [x,y,z]=true:=by
 have⟨nv,dv,he,h1,h2⟩:=h;cases he;have⟨l,k1,_⟩:=h1;have⟨m,k2,_⟩:=h2;have e1:∀ {S:St} {v:AV} {l:bt},bQ S v l->∀r,vB (v::r)=vB r:=fun h r=>by
  rcases h with⟨_,h | h⟩ | ⟨_,_,_,_,_,h,_⟩<;>subst h<;>rfl
 show vB (y:: [z])=true;rw[e1 k1,e1 k2];rfl
theorem aEs{S:St}{a b c d e f:AV}{p q:Rat}(H:Has fns)(hL:Laid S)(hp:bP S (.agg [a,b,c]) p)(hq:bP S (.agg [d,e,f]) q)(fp:kP p)(fq:kP q):eR fns (.fn 124 [] []) [.agg [a,b,c,d,e,f]] S fun r S'=>bP S' r (p * q)/\Same S S':=by
 have⟨nv,dv,he,n1,n2⟩:=id hq;cases he;have⟨l1,i1,j1,v1⟩:=id n1;have⟨l2,i2,j2,v2⟩:=id n2;refine bE H.f124 (by simp) ?_;refine aj ?_;refine aY ?_;refine bW (by simp only[↓stU,aB,rE,↓reduceIte,aR];rfl) ?_;intro S1 hS1 hn1 hb1;refine bY ?_;intro S2 hS2 hn2 hb2;refine aj ?_;have hS:=hS1.trans hS2;have hb1':S2.h.get S.nx=some (.cells [a,b,c,.bool (decide (q.num<0)),e,f] false 0):=by rw[hS2.2 _ au];exact hb1
 have ld0:cT (.ptr S.nx (0+0)) true 3 S2.h=some (.agg [a,b,c]):=by
  simp only[cT,iO,aP,oH,bU,hb1',aL,dI];rfl
 have ld3':cT (.ptr S.nx (0+3)) true 3 S2.h=some (.agg [.bool (decide (q.num<0)),e,f]):=by
  simp only[cT,iO,aP,oH,bU,hb1',aL,dI];rfl
 have l0:cT (.ptr S.nx (0+3+0)) false 1 S2.h=some (.bool (decide (q.num<0))):=by
  simp only[cT,iO,aS,jE,bU,hb1',aL,dI,jI];rfl
 have l1':cT (.ptr S.nx (0+3+1)) false 1 S2.h=some e:=by
  simp only[cT,iO,aS,jE,bU,hb1',aL,dI,jI];rfl
 have l2':cT (.ptr S.nx (0+3+2)) false 1 S2.h=some f:=by
  simp only[cT,iO,aS,jE,bU,hb1',aL,dI,jI];rfl
 refine aC (aC (aX (Q:=fun o A' S'=>o= .normal/\S'=S2/\A'.inr=false/\aD 1 A'.F= .ptr S.nx 0/\aD 2 A'.F= .ptr S1.nx 0/\∃bb,aD 18 A'.F= .bool bb/\(bb=true->q=1)) ?_ ?_))
 ·refine aJ (eu @aF @aE l1' ?_);refine aK (aj ?_);refine aG (aDz H.f117 (i1.same hS)) ?_;rintro _ T ⟨rfl,hT⟩;rw[hT];by_cases e1:l1= [1]
  ·refine ew (Ab e1) @aF @aE l2' ?_;refine aK (aj ?_);refine aG (aDz H.f117 (i2.same hS)) ?_;rintro _ T ⟨rfl,hT⟩;rw[hT];by_cases e2:l2= [1]
   ·refine e7 (Ab e2) @aF @aE l0 @pV ?_;refine⟨_,rfl,fun hb=>?_⟩;have a1:q.num.natAbs=1:=by rw[<-v1,e1,lT]
    have a2:q.den=1:=by rw[<-v2,e2,lT]
    have a3:¬q.num<0:=by simpa using hb
    have a4:q.num=1:=by omega
    rw[<-Ep q,a4,a2];rfl
   ·refine eo (Aa e2) ?_;exact⟨false,rfl,fun h=>by cases h⟩
  ·refine eo (Aa e1) ?_;exact⟨false,rfl,fun h=>by cases h⟩
 rintro o ⟨F,inr⟩ S' ⟨rfl,hS',q0,p1,p2,bb,p18,hbb⟩;simp only at q0 p1 p2 p18;subst q0;rw[hS'];try refine aj ?_
 cases bb with
 | true=>
  refine aN (am p18) ?_;refine aY (ew @aF p1 @aE ld0 ?_);refine cR (b:=S1.nx) (am p2) (by simp only[↓stU,aB,rE,↓reduceIte,aR];rfl) hb2 rfl rfl ?_;intro S3 hS3 hn3 hb3;refine aj ?_;refine aI (eu @bF p2 (kJ hb3) ?_);rw[hbb rfl,Rat.mul_one];exact⟨(hp.same hS).st hb2 rfl hS3 hb3,hS3.same hS au⟩
 | false=>
  refine aM (am p18) (aH ?_);refine aj ?_;refine aY (e7 @aF p1 @aE ld0 ld3' ?_);refine aK (aj ?_);refine aG (aGO H (hL.same hS) (hp.same hS) (hq.same hS) fp fq) ?_;rintro v S3 ⟨hv,hS3⟩;obtain⟨c0,c1,c2,rfl⟩:=hv.cells;have hb3:S3.h.get S1.nx=some (.cells [.bool false,.cd,.cd] false 0):=by rw[hS3.2 _ au];exact hb2
  refine cR (b:=S1.nx) (am p2) (by simp only[↓stU,aB,rE,↓reduceIte,aR];rfl) hb3 rfl rfl ?_;intro S4 hS4 hn4 hb4;refine aj ?_;refine aI (eu @bF p2 (kJ hb4) ?_);exact⟨hv.st hb3 rfl hS4 hb4,hS4.same (hS.trans hS3) au⟩
theorem aJZ{S:St}{x y z a b c d e f:AV}{cf:Nat}{u p q:Rat}(H:Has fns)(hL:Laid S)(hcf:S.h.get cf=some (.cells [.fn 124 [] []] false 0))(hcl:cf<S.nx)(hu:bP S (.agg [x,y,z]) u)(hp:bP S (.agg [a,b,c]) p)(hq:bP S (.agg [d,e,f]) q)(fu:kP u)(fp:kP p)(fq:kP q)(fpq:kP (p * q)):
  eR fns (.fn 128 [] [.ptr cf 0]) [.agg [x,y,z],.agg [a,b,c,d,e,f]] S fun r S'=>bP S' r (u+p * q)/\Same S S':=by
 have self3:∀ {S:St} {x y z:AV} {q:Rat},bP S (.agg [x,y,z]) q->cC x x=true/\cC y y=true/\cC z z=true:=fun h=>by
  have⟨nv,dv,he,h1,h2⟩:=h;cases he;exact⟨tK _,cP h1,cP h2⟩
 have⟨s1,s2,s3⟩:=self3 hu;have⟨s4,s5,s6⟩:=self3 hp;have⟨s7,s8,s9⟩:=self3 hq;refine bE H.f128 (by simp) ?_;refine aj ?_;refine aY ?_;refine bW (by simp only[↓stU,aB,rE,↓reduceIte,aR];rfl) ?_;intro S1 hS1 hn1 hb1;refine bW (by simp only[↓stU,aB,rE,↓reduceIte,aR];rfl) ?_;intro S2 hS2 hn2 hb2;refine bY ?_;intro S3 hS3 hn3 hb3;refine aj ?_;have hS:=hS1.trans (hS2.trans hS3);have g1:S3.h.get S.nx=some (.cells [x,y,z] false 0):=by rw[hS3.2 _ au,hS2.2 _ au];exact hb1
 have g2:S3.h.get S1.nx=some (.cells [a,b,c,d,e,f] false 0):=by rw[hS3.2 _ au];exact hb2
 have g0:S3.h.get cf=some (.cells [.fn 124 [] []] false 0):=by rw[hS.2 _ hcl];exact hcf
 have ld6:cT (.ptr S1.nx 0) true 6 S3.h=some (.agg [a,b,c,d,e,f]):=by
  simp only[cT,iO,aP,oH,bU,g2,aL,dI];rfl
 have sf:cC (.fn 124 [] []) (.fn 124 [] [])=true:=rfl;have sa:cC (.agg [x,y,z]) (.agg [x,y,z])=true:=aGq s1 s2 s3;have sb:cC (.agg [a,b,c,d,e,f]) (.agg [a,b,c,d,e,f])=true:=by simp only[cC,mX,s4,s5,s6,s7,s8,s9,aP]
 have lt0:cf<S3.nx:=Ag hcl hS.1;have lt1:S.nx<S3.nx:=by omega
 have lt2:S1.nx<S3.nx:=by omega
 have ne0:¬cf=S2.nx:=by omega
 have ne1:¬S.nx=S2.nx:=by omega
 have ne2:¬S1.nx=S2.nx:=by omega
 refine aC (eM (fun c=>c=S2.nx) ?_);intro S4 hS4;have hS4':=hS.trans hS4;simp only[↓sU,sD,rE,↓reduceIte,rA,kJ g1,mS g0,ld6,sf,sa,sb,lt0,lt1,lt2,ne0,ne1,ne2,Ak];refine bH rfl ?_;try refine ae ?_
 refine aG (aEs H (hL.same hS4') (hp.same hS4') (hq.same hS4') fp fq) ?_;rintro w S5 ⟨hw,hS5⟩;refine⟨hS5,?_⟩;try refine ae ?_
 refine bH rfl ?_;try refine ae ?_
 refine aG (aKs H (hL.same (hS4'.trans hS5)) (hu.same (hS4'.trans hS5)) hw fu fpq) ?_;rintro v S6 ⟨hv,hS6⟩;refine⟨hS6,?_⟩;obtain⟨c0,c1,c2,rfl⟩:=hv.cells;have h36:=hS4.trans (hS5.trans hS6);have hb6:S6.h.get S2.nx=some (.cells [.bool false,.cd,.cd] false 0):=by rw[h36.2 _ au];exact hb3
 refine jJ (b:=S2.nx) rfl (af) (by simp only[↓sU,sD,rE,↓reduceIte,rA,aR];rfl) hb6 rfl rfl rfl ?_;intro S7 hS7 hn7 hb7;try refine ae ?_
 refine aI (dk @bF (kJ hb7) ?_);exact⟨hv.st hb6 rfl hS7 hb7,hS7.same (hS.trans h36) au⟩
theorem aF1{S:St}{x y z:AV}{q:Rat}(H:Has fns)(h:bP S (.agg [x,y,z]) q)(hq:eH q):eR fns (.fn 126 [] []) [.agg [x,y,z]] S fun r S'=>r= .tup [.agg [x,y,z],.int .i64 0]/\bP S' (.agg [x,y,z]) q/\Same S S':=by
 refine bE H.f126 (by simp) ?_;refine aj ?_;refine aY ?_;refine bW (by simp only[↓stU,aB,rE,↓reduceIte,aR];rfl) ?_;intro S1 hS1 hn1 hb1;refine bY ?_;intro S2 hS2 hn2 hb2;refine aj ?_;have hS:=hS1.trans hS2;have g1:S2.h.get S.nx=some (.cells [x,y,z] false 0):=by rw[hS2.2 _ au];exact hb1
 refine dS (eo (kJ g1) ?_);refine aK (aj ?_);refine aG (aJQ H (h.same hS)) ?_;rintro _ S3 ⟨bb,rfl,hbb,hS3⟩;have:bb=true:=hbb.2 hq;subst this;refine er @pV @Gz ?_;refine aM (ak) (aH ?_);refine aj ?_;have g1':S3.h.get S.nx=some (.cells [x,y,z] false 0):=by rw[hS3.2 _ au];exact g1
 have g2':S3.h.get S1.nx=some (.cells [.bool false,.cd,.cd] false 0):=by rw[hS3.2 _ au];exact hb2
 refine aY (eo (kJ g1') ?_);refine cR (b:=S1.nx) (ak) (by simp only[↓stU,aB,rE,↓reduceIte,aR];rfl) g2' rfl rfl ?_;intro S4 hS4 hn4 hb4;refine aj ?_;refine aI (er @bF (kJ hb4) ?_);exact⟨(h.same (hS.trans hS3)).st g2' rfl hS4 hb4,hS4.same (hS.trans hS3) au⟩
def uT(S:St)(bp i:Nat)(p q:Rat):Prop:=∃a b c d e f,(∀S':St,S'.h.get bp=S.h.get bp->cT (.ptr bp (0+i * 6)) true 6 S'.h=some (.agg [a,b,c,d,e,f]))/\bP S (.agg [a,b,c]) p/\bP S (.agg [d,e,f]) q
def aOI(S:St)(bp n:Nat)(fv:AV)(part:Nat->Rat)(b3 b6:Nat)(k:Nat)(A:bK)(S':St):Prop:=
 A.inr=false/\∃i x y z,i+k=n/\aD 1 A.F=fv/\aD 3 A.F= .ptr b3 0/\aD 6 A.F= .ptr b6 0/\aD 9 A.F= .sl bp 0 n n false/\aD 10 A.F= .int .i64 (n:Int)/\aD 11 A.F= .int .i64 (i:Int)/\Same S S'/\b3<S'.nx/\b6<S'.nx/\S'.h.get b3=some (.cells [x,y,z] false 0)/\S'.h.get b6=some (.cells [.bool false,.cd,.cd] false 0)/\bP S' (.agg [x,y,z]) (part i)
theorem aKc{S:St}{x y z:AV}{cf bp n:Nat}{P:Nat->Rat×Rat}{part:Nat->Rat}(H:Has fns)(hL:Laid S)(hcf:S.h.get cf=some (.cells [.fn 124 [] []] false 0))(hcl:cf<S.nx)(hbl:bp<S.nx)(hn:n<=1000)
  (h0:bP S (.agg [x,y,z]) (part 0)) (hp:∀i,i<n->uT S bp i (P i).1 (P i).2) (hf:∀i,i<n->kP (part i)/\kP (P i).1/\kP (P i).2/\kP ((P i).1 * (P i).2)/\part (i+1)=part i+(P i).1 * (P i).2):
  eR fns (.fn 127 [] []) [.agg [x,y,z],.fn 128 [] [.ptr cf 0],.sl bp 0 n n false] S fun r S'=>bP S' r (part n)/\Same S S':=by
 have hlen:kT (.sl bp 0 n n false)=some (.int .i64 (n:Int)):=rfl;refine bE H.f127 (by simp) ?_;refine aj ?_;refine aY ?_;refine bW (by simp only[↓stU,aB,rE,↓reduceIte,aR];rfl) ?_;intro S1 hS1 hn1 hb1;refine bY ?_;intro S2 hS2 hn2 hb2;refine aj ?_;have hS:=hS1.trans hS2;have g1:S2.h.get S.nx=some (.cells [x,y,z] false 0):=by rw[hS2.2 _ au];exact hb1
 refine dS (eo hlen ?_);refine aX (Q:=fun o A' S'=>o= .normal/\aOI S bp n (.fn 128 [] [.ptr cf 0]) part S.nx S1.nx 0 A' S') ?_ ?_
 ·refine aO (bJ (aOI S bp n (.fn 128 [] [.ptr cf 0]) part S.nx S1.nx) ?_ n _ _ ⟨rfl,0,x,y,z,au,ak,ak,ak,ak,ak,ak,hS,au,au,g1,hb2,h0.same hS⟩);rintro k ⟨F,inr⟩ S' ⟨q0,i,x,y,z,hik,p1,p3,p6,p9,p10,p11,hSS,hn3,hn6,c3,c6,hr⟩;simp only at q0 p1 p3 p6 p9 p10 p11;subst q0;refine aY ?_;by_cases hi:i<n
  ·refine eu p10 p11 (Ab (show(i:Int)<(n:Int) by omega)) ?_;refine aC (aN (ak) (aH ?_));refine aj ?_;have⟨a,b,c,d,e,f,hld,hpp,hqq⟩:=hp i hi;have⟨f1,f2,f3,f4,hnext⟩:=hf i hi;have hia:dN (.slice 6) (.sl bp 0 n n false) i=some (.ptr bp (0+i * 6)):=by
    show bM (Nat.blt i n) (some (AV.ptr bp (0+i * 6))) none=_;rw[show Nat.blt i n=true from Ai hi];rfl
   refine aC (aO (aC (aJ ?_)));refine ew p9 p11 hia (hld S' (hSS.2 _ hbl)) ?_;refine bY ?_;intro S3 hS3 hn3' hb3;refine cR (b:=S'.nx) (ak) (by simp only[↓stU,aB,rE,↓reduceIte,aR];rfl) hb3 rfl rfl ?_;intro S4 hS4 hn4 hb4;refine aj ?_;have h34:Same S' S4:=hS4.same hS3 (Af _);have hS4':=hSS.trans h34;have k3:S4.h.get S.nx=some (.cells [x,y,z] false 0):=by rw[h34.2 _ hn3];exact c3
   have k6:S4.h.get S1.nx=some (.cells [.bool false,.cd,.cd] false 0):=by rw[h34.2 _ hn6];exact c6
   have ld6:cT (.ptr S'.nx 0) true 6 S4.h=some (.agg [a,b,c,d,e,f]):=by
    simp only[cT,iO,aP,oH,bU,hb4,aL,dI];rfl
   refine aJ (ew p1 p3 (kJ k3) ld6 ?_);refine aK (aj ?_);refine aG (aJZ H (hL.same hS4') (by rw[hS4'.2 _ hcl];exact hcf) (Ag hcl hS4'.1) (hr.same h34) (hpp.same hS4') (hqq.same hS4') f1 f2 f3 f4) ?_;rintro v S5 ⟨hv,hS5⟩;obtain⟨c0,c1,c2,rfl⟩:=hv.cells;have m3:S5.h.get S.nx=some (.cells [x,y,z] false 0):=by rw[hS5.2 _ au];exact k3
   have m6:S5.h.get S1.nx=some (.cells [.bool false,.cd,.cd] false 0):=by rw[hS5.2 _ au];exact k6
   refine cR (b:=S.nx) (am p3) (by simp only[↓stU,aB,rE,↓reduceIte,aR];rfl) m3 rfl rfl ?_;intro S6 hS6 hn6' hb6;refine aj ?_;refine aJ ?_;have w1:=dq i
   refine er p11 w1 ?_;have hl5:=hS5.1;have hl6:=hS6.1;refine⟨k - 1,au,rfl,i+1,c0,c1,c2,au,am p1,am p3,am p6,am p9,am p10,ak,hS6.same (hS4'.trans hS5) (Af _),au,au,hb6,?_,?_⟩
   ·rw[hS6.2 _ au au];exact m6
   ·rw[hnext];exact hv.st m3 (aK9 (hr.same (h34.trans hS5))) hS6 hb6
  ·refine eu p10 p11 (Aa (show ¬ (i:Int)<(n:Int) by omega)) ?_;refine aC (aM (ak) (bD ?_));refine aj ?_;exact⟨rfl,i,x,y,z,au,am p1,am p3,am p6,am p9,am p10,am p11,hSS,hn3,hn6,c3,c6,hr⟩
 ·rintro o ⟨F,inr⟩ S' ⟨rfl,q0,i,x,y,z,hik,p1,p3,p6,p9,p10,p11,hSS,hn3,hn6,c3,c6,hr⟩;simp only at q0 p3 p6;subst q0;have:i=n:=by omega
  subst this;refine aj ?_;refine aY (er p3 (kJ c3) ?_);refine cR (b:=S1.nx) (am p6) (by simp only[↓stU,aB,rE,↓reduceIte,aR];rfl) c6 rfl rfl ?_;intro S6 hS6 hn6' hb6;refine aj ?_;refine aI (eu @bF p6 (kJ hb6) ?_);exact⟨hr.st c6 rfl hS6 hb6,hS6.same hSS au⟩
theorem aD4{S:St}{bp n:Nat}{P:Nat->Rat×Rat}{part:Nat->Rat}(H:Has fns)(hL:Laid S)(hbl:bp<S.nx)(hn:n<=1000)(h0:part 0=0)(hp:∀i,i<n->uT S bp i (P i).1 (P i).2)
  (hf:∀i,i<n->kP (part i)/\kP (P i).1/\kP (P i).2/\kP ((P i).1 * (P i).2)/\part (i+1)=part i+(P i).1 * (P i).2) (hin:eH (part n)):
  eR fns (.fn 105 [] []) [.sl bp 0 n n false] S fun r S'=>∃v,r= .tup [v,.int .i64 0]/\bP S' v (part n)/\Same S S':=by
 refine bE H.f105 (by simp) ?_;refine aj ?_;refine aY ?_;refine bY ?_;intro S1 hS1 hn1 hb1;refine aj ?_;refine aY ?_;refine bY ?_;intro S2 hS2 hn2 hb2;refine cR (b:=S1.nx) (ak) (by simp only[↓stU,aB,rE,↓reduceIte];rfl) hb2 rfl rfl ?_;intro S3 hS3 hn3 hb3;refine aj ?_;have hS13:Same S1 S3:=hS3.same hS2 (Af _);have hS:=hS1.trans hS13;have g1:S3.h.get S.nx=some (.cells [.bool false,.cd,.cd] false 0):=by rw[hS13.2 _ au];exact hb1
 refine aY ?_;refine aK (aj ?_);refine aG (tH H) ?_;rintro zv S4 ⟨hz,hS4⟩;obtain⟨z0,z1,z2,rfl⟩:=hz.cells;refine eo @wT ?_;refine aK (aj ?_);have hS':=hS.trans hS4;refine aG (aKc (cf:=S1.nx) (bp:=bp) (n:=n) (P:=P) (part:=part) H (hL.same hS') (by rw[hS4.2 _ au];exact hb3) (aw hS4.1) (Ag hbl hS'.1) hn (by rw[h0];exact hz) (fun i hi=>?_) hf) ?_
 ·have⟨a,b,c,d,e,f,h1,h2,h3⟩:=hp i hi;exact⟨a,b,c,d,e,f,fun T hT=>h1 T (by rw[hT,hS'.2 _ hbl]),h2.same hS',h3.same hS'⟩
 rintro v S5 ⟨hv,hS5⟩;obtain⟨c0,c1,c2,rfl⟩:=hv.cells;try refine aj ?_
 refine aK (aj ?_);refine aG (aF1 H hv hin) ?_;rintro _ S6 ⟨rfl,hv6,hS6⟩;refine er @nP @nN ?_;have h46:=hS4.trans (hS5.trans hS6);have g6:S6.h.get S.nx=some (.cells [.bool false,.cd,.cd] false 0):=by rw[h46.2 _ au];exact g1
 refine cR (b:=S.nx) (ak) (by simp only[↓stU,aB,rE,↓reduceIte,aR];rfl) g6 rfl rfl ?_;intro S7 hS7 hn7 hb7;refine aj ?_;refine aI (er @bF (kJ hb7) ?_);exact⟨_,rfl,hv6.st g6 rfl hS7 hb7,hS7.same (hS.trans h46) (Af _)⟩
theorem aLh{S:St}{a b:AV}{s t:Bool}{l1 m1 l2 m2:bt}(H:Has fns)(hL:Laid S)(ha:aDR S a s l1 m1)(hb:aDR S b t l2 m2):eR fns (.fn 103 [] []) [a,b] S fun r S'=>r= .int .i64 (if wM s l1 m1≠0 then wM s l1 m1 else wM t l2 m2)/\Same S S':=by
 obtain⟨nv,dv,rfl,_,_⟩:=id ha;obtain⟨mv,ev,rfl,_,_⟩:=id hb;refine bE H.f103 (by simp) ?_;refine aj ?_;refine aY ?_;refine bW (by simp only[↓stU,aB,rE,↓reduceIte,aR];rfl) ?_;intro S1 hS1 hn1 hb1;refine bW (by simp only[↓stU,aB,rE,↓reduceIte,aR];rfl) ?_;intro S2 hS2 hn2 hb2;refine aj ?_;have hS:=hS1.trans hS2;have g1:S2.h.get S.nx=some (.cells [.bool s,nv,dv] false 0):=by rw[hS2.2 _ au];exact hb1
 refine dS (eo (kJ g1) ?_);refine aK (aj ?_);refine aG (aCP H (hL.same hS) (ha.same hS)) ?_;rintro _ S3 ⟨rfl,hS3⟩;try refine aj ?_
 refine aY (aj ?_);by_cases h0:wM s l1 m1=0
 ·refine aM (by simp only[↓stU,aB,rE,↓reduceIte,h0];rfl) (aH ?_);refine aj ?_;have g2:S3.h.get S1.nx=some (.cells [.bool t,mv,ev] false 0):=by rw[hS3.2 _ au];exact hb2
  refine aY (eo (kJ g2) ?_);refine aK (aj ?_);refine aG (aCP H (hL.same (hS.trans hS3)) (hb.same (hS.trans hS3))) ?_;rintro _ S4 ⟨rfl,hS4⟩;try refine aj ?_
  refine aI ?_;have e:(if wM s l1 m1≠0 then wM s l1 m1 else wM t l2 m2)=wM t l2 m2:=by rw[if_neg (by simp [h0])]
  rw[e];refine aj ?_;exact hS.trans (hS3.trans hS4)
 ·refine aN (by simp only[↓stU,aB,rE,↓reduceIte,Ab (show wM s l1 m1≠0 from h0)]) ?_;refine aY (aj ?_);refine aI ?_;rw[if_pos h0];refine aj ?_;exact hS.trans hS3
theorem bP.raw{S:St}{v:AV}{q:Rat}(h:bP S v q)(hq:eH q):∃s l m,aDR S v s l m/\wM s l m=0:=by
 obtain⟨nv,dv,rfl,⟨l1,i1,j1,v1⟩,⟨l2,i2,j2,v2⟩⟩:=h;refine⟨_,l1,l2,⟨nv,dv,rfl,i1,i2⟩,aK5.2 ⟨aBO.2 ⟨⟨(pD j1 _).2 (by rw[v1];exact hq.1),j1⟩,⟨(pD j2 _).2 (by rw[v2];exact hq.2),j2⟩,?_⟩,?_,?_⟩⟩
 ·rintro rfl;rw[cN] at v2;exact q.den_nz v2.symm
 ·rintro⟨h1,h2⟩;subst h1;rw[cN] at v1;have:=Ed h2;omega
 ·rw[v1,v2];exact q.reduced
theorem aFY{S:St}{a b:AV}{p q:Rat}(H:Has fns)(hL:Laid S)(ha:bP S a p)(hb:bP S b q)(hp:eH p)(hq:eH q):eR fns (.fn 103 [] []) [a,b] S fun r S'=>r= .int .i64 0/\Same S S':=by
 have⟨s,l,m,h1,h2⟩:=ha.raw hp;have⟨t,l',m',h3,h4⟩:=hb.raw hq;refine aG (aLh H hL h1 h3) ?_;rintro r S' ⟨rfl,hS⟩;rw[h2,h4];exact⟨rfl,hS⟩
theorem nJ{d m:Nat}{a:vH}{l:List AO}{F:Fr}{S:St}{Q:Fr->St->Prop}{v:AV}{bl:AB}(he:vC a F S.nx=some (v,bl))(h:∀S1,Same S S1->S1.nx=S.nx+1->S1.h.get S.nx=some bl->pA fns l (cB (some d) F v) S1 Q):pA fns (⟨some d,.a a,none,m⟩::l) F S Q:=by
 rw[sA];refine⟨(v,bl),he,h _ (Same.alloc S _) rfl ?_⟩;simp only;rw[dr,if_pos rfl]
theorem eH.half{q:Rat}(h:eH q):kP q:=pG.half (k:=1024) h ay
theorem aNa(k:Nat)(hk:k≠0):1<B ^ k:=Nat.one_lt_pow hk ay
theorem qZ:eH 1:=by
 have h:=aNa 1024 ay;unfold eH;rw[show(1:Rat).num.natAbs=1 from rfl,show(1:Rat).den=1 from rfl];exact⟨h,h⟩
theorem aAQ:eH 0:=aMU 1024 ay
theorem aDY{p q:Rat}(hp:eH p)(hq:eH q):kP (p * q):=(pG.mul (i:=1024) (j:=1024) hp hq).half ay
theorem aPv:((sg false 1:Int):Rat)=1:=rfl
theorem oO{S:St}{v:AV}{q:Rat}(h:bP S v q):cC v v=true:=by
 obtain⟨nv,dv,rfl,h1,h2⟩:=h;exact aGq (tK _) (cP h1) (cP h2)
def aRI(p q:Rat):Nat->Rat×Rat:=fun i=>if i=0 then(p,1) else(q,1)
def aRM(p q:Rat):Nat->Rat:=fun i=>if i=0 then 0 else if i=1 then p else p+q
theorem aPo{S:St}{bp:Nat}{a b c d e f a' b' c' d' e' f':AV}{p q p' q':Rat}(hb:S.h.get bp=some (.cells [a,b,c,d,e,f,a',b',c',d',e',f'] false 0))(h1:bP S (.agg [a,b,c]) p)(h2:bP S (.agg [d,e,f]) q)(h3:bP S (.agg [a',b',c']) p')(h4:bP S (.agg [d',e',f']) q'):uT S bp 0 p q/\uT S bp 1 p' q':=by
 refine⟨⟨a,b,c,d,e,f,fun T hT=>?_,h1,h2⟩,⟨a',b',c',d',e',f',fun T hT=>?_,h3,h4⟩⟩
 ·rw[hb] at hT;simp only[cT,iO,aP,oH,bU,hT,aL,dI];rfl
 ·rw[hb] at hT;simp only[cT,iO,aP,oH,bU,hT,aL,dI];rfl
theorem aO0{S:St}{bp:Nat}{p q:Rat}(H:Has fns)(hL:Laid S)(hbl:bp<S.nx)(h0:uT S bp 0 p 1)(h1:uT S bp 1 q 1)(hp:eH p)(hq:eH q)(hin:eH (p+q)):eR fns (.fn 105 [] []) [.sl bp 0 2 2 false] S fun r S'=>∃v,r= .tup [v,.int .i64 0]/\bP S' v (p+q)/\Same S S':=by
 have:=aD4 (fns:=fns) (S:=S) (bp:=bp) (n:=2) (P:=aRI p q) (part:=aRM p q) H hL hbl ay rfl (fun i hi=>?_) (fun i hi=>?_) hin
 ·exact this
 ·rcases(by omega:i=0\/i=1) with rfl | rfl
  ·exact h0
  ·exact h1
 ·rcases(by omega:i=0\/i=1) with rfl | rfl
  ·refine⟨aAQ.half,hp.half,qZ.half,aDY hp qZ,?_⟩;show p=0+p * 1;rw[Rat.mul_one,Rat.zero_add]
  ·refine⟨hp.half,hq.half,qZ.half,aDY hq qZ,?_⟩;show p+q=p+q * 1;rw[Rat.mul_one]
theorem aMs{S:St}{bp:Nat}{p q:Rat}(H:Has fns)(hL:Laid S)(hbl:bp<S.nx)(h0:uT S bp 0 p q)(hp:eH p)(hq:eH q)(hin:eH (p * q)):eR fns (.fn 105 [] []) [.sl bp 0 1 1 false] S fun r S'=>∃v,r= .tup [v,.int .i64 0]/\bP S' v (p * q)/\Same S S':=by
 have:=aD4 (fns:=fns) (S:=S) (bp:=bp) (n:=1) (P:=fun _=>(p,q)) (part:=fun i=>if i=0 then 0 else p * q) H hL hbl ay rfl (fun i hi=>?_) (fun i hi=>?_) hin
 ·exact this
 ·have:i=0:=by omega
  subst this;exact h0
 ·have:i=0:=by omega
  subst this;refine⟨aAQ.half,hp.half,hq.half,aDY hp hq,?_⟩;show p * q=0+p * q;rw[Rat.zero_add]
theorem aJU{S:St}{a b:AV}{p q:Rat}(H:Has fns)(hL:Laid S)(ha:bP S a p)(hb:bP S b q)(hp:eH p)(hq:eH q)(hin:eH (p+q)):eR fns (.fn 86 [] []) [a,b] S fun r S'=>∃v,r= .tup [v,.int .i64 0]/\bP S' v (p+q)/\Same S S':=by
 obtain⟨a0,a1,a2,rfl⟩:=ha.cells;obtain⟨b0,b1,b2,rfl⟩:=hb.cells;refine bE H.f86 (by simp) ?_;refine aj ?_;refine aY ?_;refine bW (by simp only[↓stU,aB,rE,↓reduceIte,aR];rfl) ?_;intro S1 hS1 hn1 hc1;refine bW (by simp only[↓stU,aB,rE,↓reduceIte,aR];rfl) ?_;intro S2 hS2 hn2 hc2;refine bY ?_;intro S3 hS3 hn3 hc3;refine aj ?_;have g1:S3.h.get S.nx=some (.cells [a0,a1,a2] false 0):=by rw[hS3.2 _ au,hS2.2 _ au];exact hc1
 have g2:S3.h.get S1.nx=some (.cells [b0,b1,b2] false 0):=by rw[hS3.2 _ au];exact hc2
 have hS:=hS1.trans (hS2.trans hS3);refine dS (er (kJ g1) (kJ g2) ?_);refine aK (aj ?_);refine aG (aFY H (hL.same hS) (ha.same hS) (hb.same hS) hp hq) ?_;rintro _ S4 ⟨rfl,hS4⟩;try refine aj ?_
 refine aY (aj ?_);refine aM (by simp only[↓stU,aB,rE,↓reduceIte];rfl) (aH ?_);refine aj ?_;refine aY ?_;refine aK (aj ?_);refine aG (wD H.f108) ?_;rintro ov S5 ⟨ho,hS5⟩;try refine aj ?_
 refine aK (aj ?_);refine aG (aIU H ho (Fits.of (i:=1) ay ay)) ?_;rintro wv S6 ⟨hw,hS6⟩;rw[aPv] at hw;obtain⟨w0,w1,w2,rfl⟩:=hw.cells;refine bY ?_;intro S7 hS7 hn7 hc7;refine cR (b:=S6.nx) (ak) (by simp only[↓stU,aB,rE,↓reduceIte,aR];rfl) hc7 rfl rfl ?_;intro S8 hS8 hn8 hc8;refine aj ?_;have h68:Same S6 S8:=hS8.same hS7 (Af _);have h38:=hS4.trans (hS5.trans (hS6.trans h68));have hS8':=hS.trans h38;have k1:S8.h.get S.nx=some (.cells [a0,a1,a2] false 0):=by rw[h38.2 _ au];exact g1
 have k2:S8.h.get S1.nx=some (.cells [b0,b1,b2] false 0):=by rw[h38.2 _ au];exact g2
 have k3:S8.h.get S2.nx=some (.cells [.bool false,.cd,.cd] false 0):=by rw[h38.2 _ au];exact hc3
 have hl8:=h38.1;refine aY (e7 (kJ k1) (kJ k2) (kJ hc8) @aI2 @aDr ?_);refine nJ (by simp only[↓stU,aB,rE,↓reduceIte,aOp,aOT];rfl) ?_;intro S9 hS9 hn9 hc9;try refine aj ?_
 refine aK (aj ?_);have hS9':=hS8'.trans hS9;have hw9:=hw.same (h68.trans hS9);have⟨pr0,pr1⟩:=aPo hc9 (ha.same hS9') hw9 (hb.same hS9') hw9;refine aG (aO0 H (hL.same hS9') au pr0 pr1 hp hq hin) ?_;rintro _ S10 ⟨v,rfl,hv,hS10⟩;obtain⟨c0,c1,c2,rfl⟩:=hv.cells;refine er @nP @nN ?_;have k10:S10.h.get S2.nx=some (.cells [.bool false,.cd,.cd] false 0):=by rw[hS10.2 _ au,hS9.2 _ au];exact k3
 refine cR (b:=S2.nx) (ak) (by simp only[↓stU,aB,rE,↓reduceIte,aR];rfl) k10 rfl rfl ?_;intro S11 hS11 hn11 hb11;refine aj ?_;refine aI (er @bF (kJ hb11) ?_);exact⟨_,rfl,hv.st k10 rfl hS11 hb11,hS11.same (hS9'.trans hS10) au⟩
theorem aJX{S:St}{a b:AV}{p q:Rat}(H:Has fns)(hL:Laid S)(ha:bP S a p)(hb:bP S b q)(hp:eH p)(hq:eH q)(hin:eH (p * q)):eR fns (.fn 85 [] []) [a,b] S fun r S'=>∃v,r= .tup [v,.int .i64 0]/\bP S' v (p * q)/\Same S S':=by
 obtain⟨a0,a1,a2,rfl⟩:=ha.cells;obtain⟨b0,b1,b2,rfl⟩:=hb.cells;refine bE H.f85 (by simp) ?_;refine aj ?_;refine aY ?_;refine bW (by simp only[↓stU,aB,rE,↓reduceIte,aR];rfl) ?_;intro S1 hS1 hn1 hc1;refine bW (by simp only[↓stU,aB,rE,↓reduceIte,aR];rfl) ?_;intro S2 hS2 hn2 hc2;refine bY ?_;intro S3 hS3 hn3 hc3;refine aj ?_;have g1:S3.h.get S.nx=some (.cells [a0,a1,a2] false 0):=by rw[hS3.2 _ au,hS2.2 _ au];exact hc1
 have g2:S3.h.get S1.nx=some (.cells [b0,b1,b2] false 0):=by rw[hS3.2 _ au];exact hc2
 have hS:=hS1.trans (hS2.trans hS3);refine dS (er (kJ g1) (kJ g2) ?_);refine aK (aj ?_);refine aG (aFY H (hL.same hS) (ha.same hS) (hb.same hS) hp hq) ?_;rintro _ S4 ⟨rfl,hS4⟩;try refine aj ?_
 refine aY (aj ?_);refine aM (by simp only[↓stU,aB,rE,↓reduceIte];rfl) (aH ?_);refine aj ?_;have k1:S4.h.get S.nx=some (.cells [a0,a1,a2] false 0):=by rw[hS4.2 _ au];exact g1
 have k2:S4.h.get S1.nx=some (.cells [b0,b1,b2] false 0):=by rw[hS4.2 _ au];exact g2
 have k3:S4.h.get S2.nx=some (.cells [.bool false,.cd,.cd] false 0):=by rw[hS4.2 _ au];exact hc3
 have hl4:=hS4.1;refine aY (ew (kJ k1) (kJ k2) @aI2 @aDr ?_);refine nJ (by simp only[↓stU,aB,rE,↓reduceIte,aJg,aLZ];rfl) ?_;intro S9 hS9 hn9 hc9;try refine aj ?_
 refine aK (aj ?_);have hS9':=hS.trans (hS4.trans hS9);have pr0:uT S9 S4.nx 0 p q:=⟨a0,a1,a2,b0,b1,b2,fun T hT=>by rw[hc9] at hT;simp only[cT,iO,aP,oH,bU,hT,aL,dI];rfl,ha.same hS9',hb.same hS9'⟩;refine aG (aMs H (hL.same hS9') au pr0 hp hq hin) ?_;rintro _ S10 ⟨v,rfl,hv,hS10⟩;obtain⟨c0,c1,c2,rfl⟩:=hv.cells;refine er @nP @nN ?_;have k10:S10.h.get S2.nx=some (.cells [.bool false,.cd,.cd] false 0):=by rw[hS10.2 _ au,hS9.2 _ au];exact k3
 refine cR (b:=S2.nx) (ak) (by simp only[↓stU,aB,rE,↓reduceIte,aR];rfl) k10 rfl rfl ?_;intro S11 hS11 hn11 hb11;refine aj ?_;refine aI (er @bF (kJ hb11) ?_);exact⟨_,rfl,hv.st k10 rfl hS11 hb11,hS11.same (hS9'.trans hS10) au⟩
theorem oF{d t m:Nat}{x:cL}{l:List AO}{F:Fr}{S:St}{Q:Fr->St->Prop}{cs:bo}(hc:(x.val F).cells=some cs)(h:∀S1,Same S S1->S1.nx=S.nx+1->S1.h.get S.nx=some (.cells cs false 0)->lO S S1->pA fns l (cB (some d) F (.ptr S.nx 0)) S1 Q):pA fns (⟨some d,.a (.box t x),none,m⟩::l) F S Q:=by
 rw[sA];refine⟨(.ptr S.nx 0,.cells cs false 0),by rw[aF4,hc];rfl,h _ (Same.alloc S _) rfl ?_ (oC S _)⟩;simp only;rw[dr,if_pos rfl]
theorem kX{d t m:Nat}{l:List AO}{F:Fr}{S:St}{Q:Fr->St->Prop}{cs:bo}(h:∀S1,Same S S1->S1.nx=S.nx+1->S1.h.get S.nx=some (.cells cs false 0)->lO S S1->pA fns l (cB (some d) F (.ptr S.nx 0)) S1 Q):pA fns (⟨some d,.a (.alloc t cs),none,m⟩::l) F S Q:=by
 rw[sA];refine⟨(.ptr S.nx 0,.cells cs false 0),rfl,h _ (Same.alloc S _) rfl ?_ (oC S _)⟩;simp only;rw[dr,if_pos rfl]
theorem aAR{n m b s:Nat}{x v:cL}{l:List AO}{F:Fr}{S:St}{Q:Fr->St->Prop}{cs cs':bo}{o:Bool}(hx:x.val F= .ptr b 0)(hv:(v.val F).cells=some cs')(hb:S.h.get b=some (.cells cs o s))(h1:cs.length=n)(h2:cs'.length=n)
  (h:∀S1,bN b S S1->S1.nx=S.nx->S1.h.get b=some (.cells cs' o s)->lO S S1->pA fns l F S1 Q):pA fns (⟨none,.x (.st n x v),none,m⟩::l) F S Q:=by
 refine gB (v:=.undef) (fun call=>?_) (h ⟨S.h.set b (some (.cells cs' o s)),S.nx⟩ ((bN.refl b S).put _) rfl ?_ (pH hb _))
 ·rw[eC,hv,aL,hx];exact rG hb h1 h2
 ·simp only;rw[dr,if_pos rfl]
theorem wO(W:Nat->Prop){ops:List AO}{A:bK}{S:St}{Q:Out->bK->St->Prop}(h:∀S1,Same S S1->S1.h=S.h->S1.nx=S.nx+ops.length->iD fns W S.h S.nx ops 0 A.F S1 [] none fun F S' ps=>Q .normal ⟨F,A.inr⟩ ⟨(cA (2 ^ ops.length - 1) ps S'.h).2,S'.nx⟩):oD fns (.drw ops) A S Q:=aCn W (h _ (Same.nx S _) rfl rfl)
def sgn(q:Rat):Int:=if q.num=0 then 1 else if q.num<0 then 0 else 2
theorem aHr{S:St}{v:AV}{q:Rat}(H:Has fns)(h:bP S v q):eR fns (.fn 104 [] []) [v] S fun r S'=>r= .int .i64 (sgn q)/\Same S S':=by
 obtain⟨nv,dv,rfl,h1,h2⟩:=h;have⟨k,hk,hk0⟩:=tW h1;refine bE H.f104 (by simp) ?_;refine aj ?_;refine aY ?_;refine bW (by simp only[↓stU,aB,rE,↓reduceIte,aR];rfl) ?_;intro S1 hS1 hn1 hb1;refine aj ?_;refine aC (aO (aC (aJ ?_)));refine ew @aF @aE (eY hb1) hk ?_;by_cases h0:q.num=0
 ·have:k=0:=hk0.2 au;refine aN (by simp only[↓stU,aB,rE,↓reduceIte,Ab (show(k:Int)=0 by omega)]) ?_;refine aY (aj ?_);refine aI ?_;simp only[↓stU,aB,rE,↓reduceIte,sgn,if_pos h0];exact hS1
 have:¬k=0:=fun h=>h0 (by have:=hk0.1 h;omega);refine aM (by simp only[↓stU,aB,rE,↓reduceIte,Aa (show ¬ (k:Int)=0 by omega)]) ?_;refine aY (eu @aF @aE (eJ hb1) ?_);by_cases h1:q.num<0
 ·refine aN (by simp only[↓stU,aB,rE,↓reduceIte,Ab h1]) ?_;refine aY (aj ?_);refine aI ?_;simp only[↓stU,aB,rE,↓reduceIte,sgn,if_neg h0,if_pos h1];exact hS1
 refine aM (by simp only[↓stU,aB,rE,↓reduceIte,Aa h1]) (aH ?_);refine aj ?_;refine aY (aj ?_);refine aI ?_;simp only[↓stU,aB,rE,↓reduceIte,sgn,if_neg h0,if_neg h1];exact hS1
theorem aLf{S:St}{a b:AV}{p q:Rat}(H:Has fns)(hL:Laid S)(hF:kO S)(ha:bP S a p)(hb:bP S b q)(hp:eH p)(hq:eH q)(h0:q.num≠0)(hin:eH (p * q⁻¹)):eR fns (.fn 84 [] []) [a,b] S fun r S'=>∃v,r= .tup [v,.int .i64 0]/\bP S' v (p * q⁻¹)/\Same S S':=by
 obtain⟨a0,a1,a2,rfl⟩:=ha.cells;obtain⟨b0,b1,b2,rfl⟩:=hb.cells;refine bE H.f84 (by simp) ?_;refine aj ?_;refine aY ?_;refine oF (by simp only[↓stU,aB,rE,↓reduceIte,aR];rfl) ?_;intro S1 hS1 hn1 hc1 fr1;refine oF (by simp only[↓stU,aB,rE,↓reduceIte,aR];rfl) ?_;intro S2 hS2 hn2 hc2 fr2;refine kX ?_;intro S3 hS3 hn3 hc3 fr3;refine aj ?_;have g1:S3.h.get S.nx=some (.cells [a0,a1,a2] false 0):=by rw[hS3.2 _ au,hS2.2 _ au];exact hc1
 have g2:S3.h.get S1.nx=some (.cells [b0,b1,b2] false 0):=by rw[hS3.2 _ au];exact hc2
 have hS:=hS1.trans (hS2.trans hS3);refine dS (er (kJ g1) (kJ g2) ?_);refine aK (aj ?_);refine aG (fT (aFY H (hL.same hS) (ha.same hS) (hb.same hS) hp hq)) ?_;rintro _ S4 ⟨⟨rfl,hS4⟩,fr4⟩;try refine aj ?_
 refine aY (aj ?_);refine aM (by simp only[↓stU,aB,rE,↓reduceIte];rfl) (aH ?_);refine aj ?_;have g2':S4.h.get S1.nx=some (.cells [b0,b1,b2] false 0):=by rw[hS4.2 _ au];exact g2
 refine dS (eo (kJ g2') ?_);refine aK (aj ?_);refine aG (fT (aHr H (hb.same (hS.trans hS4)))) ?_;rintro _ S8 ⟨⟨rfl,hS8⟩,fr8⟩;refine aj ?_;have hsg:decide (sgn q=1)=false:=by unfold sgn;rw[if_neg h0];split<;>rfl
 refine aM (am hsg) (aH ?_);refine aj ?_;have hF8:kO S8:=fr8.1 (fr4.1 (fr3.1 (fr2.1 (fr1.1 hF))));have h38:=hS4.trans hS8;have hS8':=hS.trans h38;have k1:S8.h.get S.nx=some (.cells [a0,a1,a2] false 0):=by rw[h38.2 _ au];exact g1
 have k2:S8.h.get S1.nx=some (.cells [b0,b1,b2] false 0):=by rw[h38.2 _ au];exact g2
 have k3:S8.h.get S2.nx=some (.cells [.bool false,.cd,.cd] false 0):=by rw[h38.2 _ au];exact hc3
 have hl8:=h38.1;have lt1:S.nx<S8.nx:=by omega
 have lt2:S1.nx<S8.nx:=by omega
 have ne1:¬S.nx=S2.nx:=by omega
 have ne2:¬S1.nx=S2.nx:=by omega
 refine aC (wO (fun c=>c=S2.nx) ?_);intro S9 hS9 he9 hn9;simp only[Ax,Cd,rA] at hn9;simp only[↓sU,sD,rE,↓reduceIte,rA,kJ k1,kJ k2,lt1,lt2,ne1,ne2,Ak,oO ha,oO hb];refine bH rfl ?_;try refine ae ?_
 have hS9':=hS8'.trans hS9;refine aG (aFK H (hb.same hS9') hq.half.fits h0) ?_;rintro nvv S10 ⟨hnv,hS10⟩;refine⟨hS10,?_⟩;obtain⟨n0,n1,n2,rfl⟩:=hnv.cells;refine dx @aI2 @aDr @iC @aJg @aLZ ?_;have hnone:S10.h.get (S8.nx+4)=none:=by rw[hS10.2 _ au,he9];exact hF8 _ au
 refine yU (by rfl) rfl ?_;intro S11 hS11 hn11 hc11;try refine ae ?_
 have h810:=hS9.trans hS10;have h811:Same S8 S11:=hS11.same h810 au;have hS11':=hS8'.trans h811;have pr0:uT S11 (S8.nx+4) 0 p q⁻¹ :=⟨a0,a1,a2,n0,n1,n2,fun T hT=>by rw[hc11] at hT;simp only[cT,iO,aP,oH,bU,hT,aL,dI];rfl,ha.same hS11',hnv.lay hnone hS11⟩;have hnq:eH q⁻¹ :=pG.inv (i:=1024) hq h0;have hl10:=hS10.1;refine aG (aMs H (hL.same hS11') au pr0 hp hnq hin) ?_;rintro _ S12 ⟨v,rfl,hv,hS12⟩;refine⟨hS12,?_⟩;obtain⟨c0,c1,c2,rfl⟩:=hv.cells;refine dk @nP @nN ?_;have k12:S12.h.get S2.nx=some (.cells [.bool false,.cd,.cd] false 0):=by rw[hS12.2 _ au,h811.2 _ au];exact k3
 refine jJ (b:=S2.nx) rfl (af) (by simp only[↓sU,sD,rE,↓reduceIte,rA,aR];rfl) k12 rfl rfl rfl ?_;intro S13 hS13 hn13 hb13;try refine ae ?_
 refine aI (dk @bF (kJ hb13) ?_);exact⟨_,rfl,hv.st k12 rfl hS13 hb13,hS13.same (hS11'.trans hS12) au⟩
theorem wS(e:oZ)(k:IntKind){t d:Nat}(hd:0<d):kH .rem e (.int k ((t:Nat):Int)) (.int k ((d:Nat):Int))=some (.int k ((t % d:Nat):Int)):=by
 show cQ .rem k (Int.ofNat t) k (Int.ofNat d)=_;unfold cQ;rw[show eZ .rem=false from rfl,aS,fQ,aP];show bM (Nat.beq d 0) none (some (AV.int k (.ofNat (t % d))))=_;have h0:Nat.beq d 0=false:=by rw[Bx];intro h;rw[Av] at h;omega
 rw[h0,aS];rfl
def aPW(S:St)(a b:AV)(l m:bt)(k:Nat)(A:bK)(S':St):Prop:=
 A.inr=false/\S'.h=S.h/\S.nx<=S'.nx/\∃i:Nat,i+k=l.length/\aD 0 A.F=a/\aD 1 A.F=b/\aD 5 A.F= .int .i64 (i:Int)/\l.take i=m.take i
theorem aEw{S S':St}(h1:S'.h=S.h)(h2:S.nx<=S'.nx):Same S S':=⟨h2,fun _ _=>by rw[h1]⟩
theorem aI8{S:St}{a b:AV}{l m:bt}(H:Has fns)(ha:bQ S a l)(hb:bQ S b m)(hl:l.length<=1000000):eR fns (.fn 49 [] []) [a,b] S fun r S'=>r= .bool (decide (l=m))/\Same S S':=by
 refine bE H.f49 (by simp) ?_;refine aj ?_;refine aY (aj ?_);refine dS (er ha.len hb.len ?_);by_cases hlen:l.length=m.length
 ·refine aM (by simp only[↓stU,aB,rE,↓reduceIte,Aa (show ¬ (l.length:Int)≠(m.length:Int) by omega)]) (aH ?_);refine aj ?_;refine dS (aj ?_);refine aX (Q:=fun o A' S'=>Same S S'/\((o= .normal/\l=m)\/(o= .ret/\aD 4 A'.F= .bool false/\l≠m))) ?_ ?_
  ·refine aO (bJ (aPW S a b l m) ?_ l.length _ _ ⟨rfl,rfl,Af _,0,au,ak,ak,ak,by simp⟩);rintro k ⟨F,inr⟩ S' ⟨q0,hh,hnx,i,hik,p0,p1,p5,htk⟩;simp only at q0 p0 p1 p5;subst q0;have hS:=aEw hh hnx;have ha':=ha.same hS;have hb':=hb.same hS;refine dS (eu p0 p5 ha.len ?_);by_cases hi:i<l.length
   ·refine aN (by simp only[↓stU,aB,rE,↓reduceIte,Ab (show(i:Int)<(l.length:Int) by omega)]) (aH ?_);refine aj ?_;have l1:=ha'.ld hi;have l2:=hb'.ld (i:=i) au;rw[Ae] at l1 l2;have t1:l.take (i+1)=l.take i++ [l[i]?.getD 0]:=by rw[Cz,Ad hi];rfl
    have t2:m.take (i+1)=m.take i++ [m[i]?.getD 0]:=by rw[Cz,Ad (by omega:i<m.length)];rfl
    refine aC (aO (aC (jA ?_)));refine dz p0 p1 p5 (ha.cw hi) (hb.cw (show i<m.length by omega)) l1 l2 ?_;by_cases hxy:l[i]?.getD 0=m[i]?.getD 0
    ·refine aM (by simp only[↓stU,aB,rE,↓reduceIte,hxy];simp) (aH ?_);refine aj ?_;refine aJ ?_;have w1:=dq i
     refine er p5 w1 ?_;exact⟨k - 1,au,rfl,hh,by simp;omega,i+1,au,am p0,am p1,ak,by rw[t1,t2,htk,hxy]⟩
    ·refine aN (by simp only[↓stU,aB,rE,↓reduceIte];simp;omega) ?_;refine aY (aj ?_);refine aI (aj ?_);exact⟨hS.trans (Same.nx S' _),.inr (by rintro rfl;exact hxy rfl)⟩
   ·refine aM (by simp only[↓stU,aB,rE,↓reduceIte,Aa (show ¬ (i:Int)<(l.length:Int) by omega)]) (bD ?_);refine aj ?_;rw[Am au,Am au] at htk;exact⟨hS,.inl htk⟩
  rintro o ⟨F,inr⟩ S' ⟨hS,⟨rfl,he⟩ | ⟨rfl,p4,hne⟩⟩
  ·refine aj ?_;refine aY (aj ?_);refine aI (eo (Ab he) ?_);exact hS
  ·simp only at p4;refine er p4 (Aa hne) ?_;exact hS
 ·refine aN (by simp only[↓stU,aB,rE,↓reduceIte,Ab (show(l.length:Int)≠(m.length:Int) by omega)]) ?_;refine aY (aj ?_);refine aI ?_;have:¬l=m:=by rintro rfl;exact hlen rfl
  refine eo (Aa this) ?_;exact Same.refl _
theorem aEK{S:St}{a b:AV}{x y:Nat}(H:Has fns)(ha:bV S a x)(hb:bV S b y)(hx:Fits x):eR fns (.fn 49 [] []) [a,b] S fun r S'=>r= .bool (decide (x=y))/\Same S S':=by
 have⟨l,h1,h2,h3⟩:=ha;have⟨m,k1,k2,k3⟩:=hb;have:=Fits.len h2 (by rw[h3];exact hx);refine aG (aI8 H h1 k1 au) ?_;rintro r S' ⟨rfl,hS⟩;refine⟨?_,hS⟩;congr 1;apply Fi.2;rw[<-h3,<-k3];exact⟨fun h=>by rw[h],fun h=>aAt h2 k2 h⟩
theorem aIr(p q:Rat):p=q↔(decide (p.num<0)=decide (q.num<0))/\p.num.natAbs=q.num.natAbs/\p.den=q.den:=by
 constructor
 ·rintro rfl;exact⟨rfl,rfl,rfl⟩
 ·rintro⟨h1,h2,h3⟩;have:p.num=q.num:=by rw[<-qD p,<-qD q,h1,h2]
  exact Rat.ext this h3
theorem aGg{S:St}{a b:AV}{p q:Rat}(H:Has fns)(ha:bP S a p)(hb:bP S b q)(hp:aDK p):eR fns (.fn 26 [] []) [a,b] S fun r S'=>r= .bool (decide (p=q))/\Same S S':=by
 obtain⟨nv,dv,rfl,h1,h2⟩:=ha;obtain⟨mv,ev,rfl,h3,h4⟩:=hb;refine bE H.f26 (by simp) ?_;refine aj ?_;refine aY ?_;refine bW (by simp only[↓stU,aB,rE,↓reduceIte,aR];rfl) ?_;intro S1 hS1 hn1 hb1;refine bW (by simp only[↓stU,aB,rE,↓reduceIte,aR];rfl) ?_;intro S2 hS2 hn2 hb2;refine aj ?_;have hS:=hS1.trans hS2;have g1:S2.h.get S.nx=some (.cells [.bool (decide (p.num<0)),nv,dv] false 0):=by rw[hS2.2 _ au];exact hb1
 have hpq:=aIr p q;refine aC (aX (Q:=fun o A' S'=>o= .normal/\Same S S'/\aD 4 A'.F= .bool (decide (p=q))) ?_ ?_)
 ·refine aJ ?_;by_cases e1:decide (p.num<0)=decide (q.num<0)
  ·simp only[↓stU,aB,rE,↓reduceIte,aF,aE,eJ g1,eJ hb2,eY g1,eY hb2,aCw,e1,beq_self_eq_true];refine aK (aj ?_);refine aG (aEK H (h1.same hS) (h3.same hS) hp.1) ?_;rintro _ S3 ⟨rfl,hS3⟩;have g1':S3.h.get S.nx=some (.cells [.bool (decide (p.num<0)),nv,dv] false 0):=by rw[hS3.2 _ au];exact g1
   have g2':S3.h.get S1.nx=some (.cells [.bool (decide (q.num<0)),mv,ev] false 0):=by rw[hS3.2 _ au];exact hb2
   by_cases e2:p.num.natAbs=q.num.natAbs
   ·refine e7 (Ab e2) @aF @aE (dC g1') (dC g2') ?_;refine aK (aj ?_);refine aG (aEK H (h2.same (hS.trans hS3)) (h4.same (hS.trans hS3)) hp.2) ?_;rintro _ S4 ⟨rfl,hS4⟩;try refine aj ?_
    refine⟨hS.trans (hS3.trans hS4),?_⟩;congr 1;exact Fi.2 ⟨fun h=>hpq.2 ⟨e1,e2,h⟩,fun h=>by rw[h]⟩
   ·refine eo (Aa e2) ?_;refine⟨hS.trans hS3,?_⟩;rw[Aa (fun h=>e2 (hpq.1 h).2.1)]
  ·have:(decide (p.num<0)==decide (q.num<0))=false:=by simpa using e1
   refine e9 @aF @aE (eJ g1) (eJ hb2) @aCw this ?_;refine⟨hS,?_⟩;rw[Aa (fun h=>e1 (hpq.1 h).1)]
 ·rintro o ⟨F,inr⟩ S' ⟨rfl,hS,p4⟩;simp only at p4;refine aj ?_;refine aI (eo p4 ?_);exact hS
theorem aPx(e:oZ)(t:Nat):kH .rem e (.int .u32 ((t:Nat):Int)) (.int .u32 1000000000)=some (.int .u32 ((t % B:Nat):Int)):=wS e .u32 gS
def KgI(S:St)(g:Nat)(k:Nat)(A:bK)(S':St):Prop:=
 A.inr=false/\S'.h=S.h/\S.nx<=S'.nx/\∃a b:Nat,aD 0 A.F= .int .i64 (a:Int)/\aD 1 A.F= .int .i64 (b:Int)/\a<=9223372036854775807/\b<=9223372036854775807/\Nat.gcd a b=g/\k=b
theorem pG.inBound{k:Nat}{q:Rat}(h:pG k q)(hk:k<=1024):eH q:=by unfold eH;exact pG.mono (j:=1024) h hk
end Go.Ev.Gl
