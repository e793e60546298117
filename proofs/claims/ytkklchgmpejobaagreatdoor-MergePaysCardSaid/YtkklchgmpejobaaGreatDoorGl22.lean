import Derived.Test.YtkklchgmpejobaaGreatDoorGl21
open Nat renaming reduceEqDiff → rE, reduceAdd → rA
set_option maxHeartbeats 16000000
set_option linter.unusedSimpArgs false
set_option linter.unusedVariables false
namespace Go.Ev.Gl
open Go.Sort
variable {fns:T cV}
theorem aM8{F:Fr}{h:Ev.T AB}{x y:Nat}{ps:Int}{r:AV}(h7:aD x F= .int .i64 ps)(h11:aD y F=r)(hr:r.cells=some [r]):iI (.build [.int .i64 0,.nilsl,.nilsl] [(0,1,.t x),(2,1,.t y)]) F h=some (.agg [.int .i64 ps,.nilsl,r]):=by
 show(aX (fG _ (eT F [(0,1,.t x),(2,1,.t y)])) fun cs=>some (AV.agg cs))=_;simp only[eT,show(cK.t x).val F= .int .i64 ps from h7,show(cK.t y).val F=r from h11,fG,cQ,hr,aK];rfl
def aNJ(S X:St)(v:AV)(m:bH):Prop:=∀X2:St,X.nx≤X2.nx→(∀c,S.nx≤c→c<X.nx→X2.h.get c=X.h.get c)→nS X2 v m
def MgI(g:bH)(F:List Nat)(C:List Int)(Z:St)(gb rb ob:Nat)(jv cv fv:AV)(k:Nat)(A:bQ)(X:St):Prop:=A.inr=false∧Z.nx≤X.nx∧(∀c,c<Z.nx→c≠ob→X.h.get c=Z.h.get c)∧aD 1 A.F= .ptr gb 0∧aD 2 A.F= .ptr rb 0∧aD 3 A.F=cv∧aD 5 A.F= .ptr ob 0∧aD 22 A.F=fv∧aD 23 A.F= .int .i64 ((F.length:Nat):Int)∧∃ (i:Nat) (pv:AV) (cs:List AV),i+k=F.length∧aD 24 A.F= .int .i64 (i:Int)∧X.h.get ob=some (.cells [.int .i64 g.players,pv,jv] false 0)∧gQ 6 Z X pv i cs∧nI X (fun c=>Z.nx≤c∧aT pv≠some c∧Wr X c) cs ((F.take i).map (lK g C))
def MgK(g:bH)(C:List Int)(Y:St)(F0:Fr)(q nb:Nat)(na xw xp:AV)(k:Nat)(A:bQ)(X:St):Prop:=A.inr=false∧bJ nb Y X∧nb<Y.nx∧(∀j,j<10→aD j A.F=aD j F0)∧(∀j,22≤j→j<25→aD j A.F=aD j F0)∧aD 47 A.F=na∧aD 48 A.F= .int .i64 (((nodeAt g q).next.length:Nat):Int)∧∃ (i:Nat) (a:AV),i+k=(nodeAt g q).next.length∧aD 49 A.F= .int .i64 (i:Int)∧X.h.get nb=some (.cells [.int .i64 (nodeAt g q).kind,.int .i64 (nodeAt g q).player,.int .i64 (nodeAt g q).info,a,xw,xp] false 0)∧gQ 1 Y X a (((nodeAt g q).next.take i).map fun c=>C.getD c.toNat 0).length (bG (((nodeAt g q).next.take i).map fun c=>C.getD c.toNat 0))
theorem aBX{S:St}{v:AV}{g:bH}(H:Has fns)(G:qP g)(hL:kA S)(hf:∀i,i<g.nodes.length→aON (nodeAt g i))(hw:∀i,i<g.nodes.length→(nodeAt g i).weights.length≤1000)(hv:nS S v g):fR fns (.fn 32 [] []) [v] S fun r X=>Same S X∧∃F C,jN g (htL g) F C∧aNJ S X r (hJ g F C):=by
 have hK:=iW G;have hN:=G.n2;have hv0:=hv;obtain⟨nv,iv,rfl,hn,hi⟩:=hv;refine cE H.f32 (by simp) ?_;refine ah ?_;refine cC ?_;refine eH (by simp only[↓aA,aB,rE,↓reduceIte];exact bM _) ?_;intro S1 s1 n1 c1;refine cR ?_;intro S2 s2 n2 c2;simp only[↓aA,aB,rE,↓reduceIte,rA];have s12:=s1.trans s2;have g2:=(s2.2 _ (show S.nx<S1.nx by omega)).trans c1;have lagg:dB (.ptr S.nx 0) true 3 S2.h=some (.agg [.int .i64 g.players,nv,iv]):=lQ g2;refine cC ?_;simp only[↓aA,aB,rE,↓reduceIte,rA,lagg];refine aY ?_;try simp only[↓aA,aB,rE,↓reduceIte,rA]
 refine aP (aFk H G (hL.same s12) hf hw (hv0.same s12)) ?_;rintro _ Y0 ⟨cv,fv,L,C,rfl,y0,hC,iC,iF⟩;try simp only[↓aA,aB,rE,↓reduceIte,rA,ex0,ex1]
 have gY:=(y0.2 _ (show S.nx<S2.nx by omega)).trans g2;have rY:=(y0.2 _ (show S1.nx<S2.nx by omega)).trans c2;have sSY:=s12.trans y0;have nY0:=y0.1;have lt1:S.nx<Y0.nx:=by omega
 have siv:=bB.self hi;have hni:=G.ni;clear lagg g2 c1 c2;refine aC (qE (fun _=>False) ?_);intro Y1 y1 hY1 nY1;simp only[Am,Bo,rA] at nY1;simp only[↓sU,sD,rE,↓reduceIte,rA,aE,aW,aF,yE gY,yD gY,lt1,Ay,siv];refine cP rfl ?_;refine am ?_;refine aP (aBI H (bB.same (E:=fP) fO hi (sSY.trans y1)) (by omega)) ?_;rintro jv Y2 ⟨ij,y2,kj⟩;refine⟨y2,?_⟩;have n2':=y2.1;simp only[↓sU,sD,rE,↓reduceIte,rA,uX];rw[aM8 (ps:=g.players) (r:=jv) (aq) (aq) (aEu ij)];simp only[↓sU,sD,rE,↓reduceIte,rA,aEj,mE,rA];refine aG5 (by rfl) rfl (aq) (by simp only[↓sU,sD,rE,↓reduceIte,rA,bM];rfl) rfl rfl (by omega) ?_;intro Z z nZ gZ;have sZ:Same Y0 Z:=z.same (y1.trans y2) (by omega);have hjb:∀c,aT jv=some c→c≠Y0.nx+6:=fun c hc=>by have:=kj c hc;omega
 have hjw:∀c,aT jv=some c→Y0.nx≤c:=fun c hc=>by have:=kj c hc;omega
 have iZ:bB 2 fP Z jv g.infos:=bB.moveB ij z.1 (fun c hc=>z.2 c (by
  rcases ij with⟨_,rfl | rfl⟩ | ⟨b,off,cap,o,cs,rfl,_,hb,_⟩
  ·cases hc
  ·cases hc
  ·cases hc;exact hb) (hjb c hc)) fun _ _ h=>h
 have hjl:∀c,aT jv=some c→c<Z.nx:=fun c hc=>by
  rcases iZ with⟨_,rfl | rfl⟩ | ⟨b,off,cap,o,cs,rfl,_,hb,_⟩
  ·cases hc
  ·cases hc
  ·cases hc;exact hb
 simp only[↓sU,sD,rE,↓reduceIte,rA];have obZ:Y0.nx+6<Z.nx:=by omega
 have gbZ:=(sZ.2 _ lt1).trans gY;have rbZ:=(sZ.2 _ (show S1.nx<Y0.nx by omega)).trans rY;have sSZ:=sSY.trans sZ;have iCZ:=iC.same sZ;have iFZ:=iF.same sZ;have lnF:=iFZ.len;rw[nJ] at lnF;have clow:∀c,aT cv=some c→c<Y0.nx:=fun c hc=>dG iC hc;have flow:∀c,aT fv=some c→c<Y0.nx:=fun c hc=>dG iF hc;obtain⟨ob,hob⟩:∃ob,ob=Y0.nx+6:=⟨_,rfl⟩;rw[←hob] at gZ obZ hjb z ⊢;clear kj ij n2' hY1 nY1 y1 y2 nZ;have hFl:L.length≤g.nodes.length:=by
  rw[hC.perm.length_eq];exact qA g _
 refine aC (bD (Q:=fun o A' X=>o= .normal∧MgI g L C Z S.nx S1.nx ob jv cv fv 0 A' X) (aC (aG ?_)) ?_)
 ·simp only[↓sU,sD,rE,↓reduceIte,rA,cD.self iF,lnF];refine aN (bT (MgI g L C Z S.nx S1.nx ob jv cv fv) ?_ L.length _ _ ⟨rfl,Ag _,fun _ _ _=>rfl,aq,aq,aq,aq,aq,aq,0,.nilsl,[],by omega,aq,gZ,.inl ⟨rfl,rfl,rfl⟩,⟨rfl,fun j a hj=>by simp at hj⟩⟩);rintro k ⟨F,inr⟩ X ⟨q0,nX,hR,p1,p2,p3,p5,p22,p23,i,pv,cs,hik,p24,oX,hg,hB⟩;simp only at q0 p1 p2 p3 p5 p22 p23 p24;subst q0;refine cC ?_;simp only[↓aA,aB,rE,↓reduceIte,rA,p23,p24,zV];by_cases hlt:i<L.length;rotate_left
  ·refine aC (aO (by simp only[↓aA,aB,rE,↓reduceIte,rA,Aa hlt]) (bK ?_));obtain rfl:k=0:=by omega
   exact⟨rfl,rfl,nX,hR,aj p1,aj p2,aj p3,aj p5,aj p22,aj p23,i,pv,cs,hik,aj p24,oX,hg,hB⟩
  refine aC (aR (by simp only[↓aA,aB,rE,↓reduceIte,rA,Ad hlt]) (aM ?_));try simp only[↓aA,aB,rE,↓reduceIte,rA]
  obtain⟨q,hq⟩:∃q,L[i]? =some q:=⟨_,Ab hlt⟩;obtain⟨hql,_⟩:=hC.mem (Aq hq);have kX:∀c,c<Y0.nx→X.h.get c=Z.h.get c:=fun c hc=>hR c (by omega) (by omega);have iFX:cD .i64 X fv (oT L):=eY iFZ nX fun c hc=>kX c (flow c hc);have iCX:cD .i64 X cv C:=eY iCZ nX fun c hc=>kX c (clow c hc);have gbX:=(kX _ lt1).trans gbZ;have sSX:Same S X:=⟨Ap sSZ.1 nX,fun c hc=>(kX c (by have:=sSY.1;omega)).trans (sSZ.2 c hc)⟩;have ia:=iFX.iaddr (show i<(oT L).length by rw[nJ];exact hlt);have la:=iFX.ld (show i<(oT L).length by rw[nJ];exact hlt);rw[aHv hq] at la;have hnS:=bB.same (E:=dJ) cT hn sSX;obtain⟨_,bq,pq,iq,lq,_,⟨na,nb',nc,rfl,x1,x2,x3⟩,dq,df⟩:=bB.at hnS (by decide) (dI hql);have hqn:=G.nxt q hql;have hqw:=hw q hql;have hqp:=G.pay q hql;refine aC (aN (aC (aG ?_)));simp only[↓aA,aB,rE,↓reduceIte,rA,p22,p24,aH,ia,la];refine cC ?_;simp only[↓aA,aB,rE,↓reduceIte,rA,p1,aE,aF,fL gbX,aH,iq,dq,bB.self hn];refine cR ?_;intro W1 w1 k1 h1;refine fC (b:=X.nx) (ai) (by simp only[↓aA,aB,rE,↓reduceIte,rA];exact bM _) h1 rfl rfl ?_;intro W w2 k2 h2;simp only[↓aA,aB,rE,↓reduceIte,rA];have sXW:Same X W:=w2.same w1 (Ag _);have lxW:X.nx<W.nx:=by omega
  refine aC (aNE H (k:=.int .i64 (nodeAt g q).kind) (p:=.int .i64 (nodeAt g q).player) (f:=.int .i64 (nodeAt g q).info) (ai) h2 lxW (x2.same sXW) (x3.same sXW) (by omega) (by omega) ?_);intro F1 Y r2 r3 hk sY hnb i2 i3 hbk hwr;have q1:aD 1 F1= .ptr S.nx 0:=(hk 1 (by omega)).trans (aj p1);have q2:aD 2 F1= .ptr S1.nx 0:=(hk 2 (by omega)).trans (aj p2);have q3:aD 3 F1=cv:=(hk 3 (by omega)).trans (aj p3);have q5:aD 5 F1= .ptr ob 0:=(hk 5 (by omega)).trans (aj p5);have q7:aD 7 F1= .int .i64 (q:Int):=(hk 7 (by omega)).trans (ai);have q8:aD 8 F1= .ptr X.nx 0:=(hk 8 (by omega)).trans (ai);have q22:aD 22 F1=fv:=(hk 22 (by omega)).trans (aj p22);have q23:aD 23 F1= .int .i64 ((L.length:Nat):Int):=(hk 23 (by omega)).trans (aj p23);have q24:aD 24 F1= .int .i64 (i:Int):=(hk 24 (by omega)).trans (aj p24);clear hk p1 p2 p3 p5 p22 p23 p24;have sXY:Same X Y:=sY.same sXW (Ag _);have nY:=sY.1;have gbY:=(sXY.2 _ (show S.nx<X.nx by omega)).trans gbX;have d3:dB (.ptr bq (pq+3)) false 1 Y.h=some na:=(sI sXY lq).trans (df 3 na rfl);have sx:=cD.self x1;refine aC (bD (Q:=fun o A' V=>o= .normal∧MgK g C Y F1 q X.nx na r2 r3 0 A' V) (aC (aG ?_)) ?_)
  ·simp only[↓aA,aB,rE,↓reduceIte,rA,q1,q7,aE,aF,fL gbY,bB.self hn,aH,iq,d3,sx,x1.len];refine aN (bT (MgK g C Y F1 q X.nx na r2 r3) ?_ (nodeAt g q).next.length _ _ ⟨rfl,bJ.refl _ _,by omega,fun j hj=>?_,fun j h1 h2=>?_,ai,ai,0,.nilsl,by omega,ai,hnb,.inl ⟨rfl,rfl,rfl⟩⟩)
   ·rintro k ⟨F,inr⟩ V ⟨q0,sV,lnb,hj1,hj2,p47,p48,j,a,hjk,p49,nbV,ha⟩;simp only at q0 hj1 hj2 p47 p48 p49;subst q0;refine cC ?_;simp only[↓aA,aB,rE,↓reduceIte,rA,p48,p49,zV];by_cases hj:j<(nodeAt g q).next.length;rotate_left
    ·refine aC (aO (by simp only[↓aA,aB,rE,↓reduceIte,rA,Aa hj]) (bK ?_));obtain rfl:k=0:=by omega
     refine⟨rfl,rfl,sV,lnb,fun w hw=>?_,fun w h1 h2=>?_,aj p47,aj p48,j,a,hjk,aj p49,nbV,ha⟩
     ·rw[bS,if_neg (by omega)];exact hj1 w hw
     ·rw[bS,if_neg (by omega)];exact hj2 w h1 h2
    refine aC (aR (by simp only[↓aA,aB,rE,↓reduceIte,rA,Ad hj]) (aM ?_));try simp only[↓aA,aB,rE,↓reduceIte,rA]
    have kV:∀c,c<X.nx→V.h.get c=X.h.get c:=fun c hc=>(sV.2 c (by omega) (by omega)).trans (sXY.2 c hc);have sXV:Same X V:=⟨Ap sXY.1 sV.1,kV⟩;obtain⟨u1,u2,u3⟩:=hK q hql j hj;have xV:=x1.same sXV;have ij:=xV.iaddr hj;have lj:=xV.ld hj;rw[u3] at lj;have iCV:=iCX.same sXV;have nV:=sV.1;refine aC (aN (aC (aG ?_)));simp only[↓aA,aB,rE,↓reduceIte,rA,p47,p49,aH,ij,lj];have f3:=hj1 3 (by omega);have f8:=hj1 8 (by omega);refine aOG (S0:=⟨V.h,Y.nx⟩) (a:=a) (C:=C) (c:=((jA g q j:Nat):Int)) (by simp only[↓aA,aB,rE,↓reduceIte,rA,f8,q8]) (by simp only[↓aA,aB,rE,↓reduceIte,rA,f3,q3]) (ai) nbV (by omega) iCV (by omega) (by rw[hC.len];omega) (show gQ 1 ⟨V.h,Y.nx⟩ V a _ _ from ha) ⟨nV,fun _ _=>rfl⟩ (fun e=>by have:=(ha.blk e).1;omega) (fun b h1 h2=>by have:=clow b h1;have:=(ha.blk h2).1;omega) (by rw[Az,Cc];omega) ?_;intro F2 V2 a' hk2 nV2 nbV2 ga' hb' hR2;have f47:=(hk2 47 (by omega)).trans (show _=na by simp only[↓aA,aB,rE,↓reduceIte,rA,p47]);have f48:=(hk2 48 (by omega)).trans (show _=AV.int .i64 (((nodeAt g q).next.length:Nat):Int) by simp only[↓aA,aB,rE,↓reduceIte,rA,p48]);have f49:=(hk2 49 (by omega)).trans (show _=AV.int .i64 (j:Int) by simp only[↓aA,aB,rE,↓reduceIte,rA,p49]);refine aG ?_;simp only[↓aA,aB,rE,↓reduceIte,rA,f49,fA (a:=j) (by omega)];have et:((nodeAt g q).next.take (j+1)).map (fun c=>C.getD c.toNat 0)=((nodeAt g q).next.take j).map (fun c=>C.getD c.toNat 0)++ [C.getD ((jA g q j:Nat):Int).toNat 0]:=by
     rw[Bw,Dc,Ab hj];have:(nodeAt g q).next[j]=((jA g q j:Nat):Int):=by rw[←u3,Ae,Ab hj];rfl
     rw[this];rfl
    refine⟨k - 1,by omega,rfl,⟨by omega,fun c hc hne=>(hR2 c (by omega) hne (fun e=>by have:=(ha.blk e).1;omega)).trans (sV.2 c hc hne)⟩,lnb,fun w hw=>?_,fun w h1 h2=>?_,aj f47,aj f48,j+1,a',by omega,ai,nbV2,by rw[et];exact ga'⟩
    ·simp only[bS,show ¬w=62 by omega,show ¬w=49 by omega,Cr];rw[hk2 w (by omega)];simp only[bS,show ¬w=50 by omega,show ¬w=51 by omega,show ¬w=52 by omega,show ¬w=10 by omega,Cr];exact hj1 w hw
    ·simp only[bS,show ¬w=62 by omega,show ¬w=49 by omega,Cr];rw[hk2 w (by omega)];simp only[bS,show ¬w=50 by omega,show ¬w=51 by omega,show ¬w=52 by omega,show ¬w=10 by omega,Cr];exact hj2 w h1 h2
   ·simp only[bS,show ¬j=42 by omega,show ¬j=43 by omega,show ¬j=44 by omega,show ¬j=45 by omega,show ¬j=46 by omega,show ¬j=47 by omega,show ¬j=48 by omega,show ¬j=49 by omega,Cr]
   ·simp only[bS,show ¬j=42 by omega,show ¬j=43 by omega,show ¬j=44 by omega,show ¬j=45 by omega,show ¬j=46 by omega,show ¬j=47 by omega,show ¬j=48 by omega,show ¬j=49 by omega,Cr]
  rintro o ⟨F2,inr⟩ V ⟨rfl,q0,sV,lnb,hj1,hj2,p47,p48,j,a,hjk,p49,nbV,ha⟩;simp only at q0 hj1 hj2;subst q0;obtain rfl:j=(nodeAt g q).next.length:=by omega
  rw[Ch] at ha;clear p47 p48 p49 hjk;have t1:=(hj1 1 (by omega)).trans q1;have t2:=(hj1 2 (by omega)).trans q2;have t3:=(hj1 3 (by omega)).trans q3;have t5:=(hj1 5 (by omega)).trans q5;have t8:=(hj1 8 (by omega)).trans q8;have t22:=(hj2 22 (by omega) (by omega)).trans q22;have t23:=(hj2 23 (by omega) (by omega)).trans q23;have t24:=(hj2 24 (by omega) (by omega)).trans q24;clear q1 q2 q3 q5 q7 q8 q22 q23 q24 hj1 hj2;have nV:=sV.1;have old:∀c,c<X.nx→V.h.get c=X.h.get c:=fun c hc=>(sV.2 c (by omega) (by omega)).trans (sXY.2 c hc);have obV:=(old ob (by omega)).trans oX;have hgV:gQ 6 Z V pv i cs:=hg.move (by omega) fun c hc=>old c (hg.blk hc).2.1;have hBV:nI V (fun c=>Z.nx≤c∧aT pv≠some c∧Wr V c) cs ((L.take i).map (lK g C)):=hB.move (by omega) fun c hc hP=>⟨old c hc,hP.1,hP.2.1,hP.2.2.eq (old c hc)⟩;have low2:∀c,(aT r2=some c∨aT r3=some c)→c<Y.nx:=fun c hc=>by
   rcases hc with hc | hc
   ·exact dG i2 hc
   ·exact dG i3 hc
  have mv2:∀c,(aT r2=some c∨aT r3=some c)→V.h.get c=Y.h.get c:=fun c hc=>sV.2 c (low2 c hc) (by have:=hbk c hc;omega);have heV:aCc V (fun c=>W.nx≤c∧Wr V c) [.int .i64 (nodeAt g q).kind,.int .i64 (nodeAt g q).player,.int .i64 (nodeAt g q).info,a,r2,r3] (lK g C q):=⟨a,r2,r3,rfl,ha.is,eY i2 nV fun c hc=>mv2 c (.inl hc),eY i3 nV fun c hc=>mv2 c (.inr hc),fun c hc=>by
   rcases hc with hc | hc
   ·obtain⟨b1,b2,b3⟩:=ha.blk hc;exact⟨by omega,_,_,_,b3⟩
   ·exact⟨hbk c hc,(hwr c hc).eq (mv2 c hc)⟩⟩
  refine aG ?_;simp only[↓aA,aB,rE,↓reduceIte,rA,t5,t8,aE,aF,fL obV,ldN nbV];refine fX (aH0 (k:=.int .i64 (nodeAt g q).kind) (p:=.int .i64 (nodeAt g q).player) (f:=.int .i64 (nodeAt g q).info) (xa:=a) (xw:=r2) (xp:=r3) (ai)) ?_;intro U2 u1 m1 g1;obtain⟨pv',U',eA,gA,sA,nA,rA,bA⟩:=gQ.appB (k:=6) (m:=1) (bytes:=96) (S0:=⟨U2.h,Z.nx⟩) (show gQ 6 ⟨U2.h,Z.nx⟩ U2 pv i cs from hgV.step u1) ⟨by show Z.nx≤U2.nx;omega,fun _ _=>rfl⟩ rfl (aSa g1) rfl (by omega) (by unfold room;omega) (by unfold room;omega);try simp only[↓aA,aB,rE,↓reduceIte,rA]
  refine eR (fun call=>by simp only[↓aA,aB,rE,↓reduceIte,rA,fJ];exact eA) ?_;have hoff:=hgV.off obV;have obU:=(rA _ (by omega) hoff).trans ((u1.2 _ (by omega)).trans obV);have hcl:=gA.cells;simp only[↓aA,aB,rE,↓reduceIte,rA,t5,aE,aF];refine eR (fun call=>by simp only[↓aA,aB,rE,↓reduceIte,rA,dD,hcl,aK];exact xW (cs:=[.int .i64 g.players,pv,jv]) (p:=1) (S:=U') obU (by simp)) ?_;refine ah ?_;refine aG ?_;simp only[↓aA,aB,rE,↓reduceIte,rA,t24,fA (a:=i) (by omega)];have fin:∀c,c≠ob→c<V.nx→aT pv≠some c→(U'.h.set ob (some (.cells ([.int .i64 g.players,pv,jv].set 1 pv') false 0))).get c=V.h.get c:=fun c h1 h2 h3=>by
   rw[T.get_set,if_neg h1,rA c (by omega) h3,u1.2 c h2]
  refine⟨k - 1,by omega,rfl,by show Z.nx≤U'.nx;omega,fun c hc hne=>(fin c hne (by omega) fun e=>by have:=(hgV.blk e).1;omega).trans ((old c (by omega)).trans (hR c hc hne)),aj t1,aj t2,aj t3,aj t5,aj t22,aj t23,i+1,pv',_,by omega,ai,by simp only;rw[T.get_set,if_pos rfl];rfl,gQ.move (S:=U') (by exact gA) (Ag _) fun c hc=>?_,?_⟩
  ·simp only;rw[T.get_set,if_neg (by rw[bA] at hc;cases hc;omega)]
  ·rw[Bw,hq,Dc];refine nI.push (hBV.move (by show V.nx≤U'.nx;omega) fun c hc hP=>have e:=fin c (by have:=hP.1;omega) hc hP.2.1;⟨e,hP.1,fun e=>by rw[bA] at e;cases e;omega,hP.2.2.eq e⟩) (heV.move (by show V.nx≤U'.nx;omega) fun c hc hP=>have e:=fin c (by have:=hP.1;omega) hc (fun e=>by have:=hP.1;have:=(hg.blk e).2.1;omega);⟨e,by have:=hP.1;omega,fun e=>by rw[bA] at e;cases e;omega,hP.2.eq e⟩)
 rintro o ⟨F,inr⟩ X ⟨rfl,q0,nX,hR,p1,p2,p3,p5,p22,p23,i,pv,cs,hik,p24,oX,hg,hB⟩;simp only at q0 p1 p2 p5;subst q0;obtain rfl:i=L.length:=by omega
 rw[Ch] at hB;have rbX:=(hR S1.nx (by omega) (by omega)).trans rbZ;have sSX:Same S X:=⟨Ap sSZ.1 nX,fun c hc=>(hR c (by have:=sSZ.1;omega) (by have:=sSY.1;omega)).trans (sSZ.2 c hc)⟩;have iX:bB 2 fP X jv g.infos:=bB.moveB iZ nX (fun c hc=>hR c (hjl c hc) (hjb c hc)) fun _ _ h=>h;try simp only[↓aA,aB,rE,↓reduceIte,rA]
 refine cC ?_;simp only[↓aA,aB,rE,↓reduceIte,rA,p2,p5,ld3 oX];refine fC (b:=S1.nx) (cs':=[.int .i64 g.players,pv,jv]) (aj p2) (by simp only[↓aA,aB,rE,↓reduceIte,rA];exact bM _) rbX rfl rfl ?_;intro X' x' n' g';refine ah ?_;refine aU ?_;have sX':Same S X':=x'.same sSX (by omega);have nX':=x'.1;have gX':gQ 6 Z X' pv L.length cs:=hg.move nX' fun c hc=>x'.2 c (hg.blk hc).2.1 (by have:=(hg.blk hc).1;omega);have bX':nI X' (fun c=>Z.nx≤c∧aT pv≠some c∧Wr X' c) cs (L.map (lK g C)):=hB.move nX' fun c hc hP=>have e:=x'.2 c hc (by have:=hP.1;omega);⟨e,hP.1,hP.2.1,hP.2.2.eq e⟩;have jX':bB 2 fP X' jv g.infos:=bB.moveB iX nX' (fun c hc=>x'.2 c (Ah (hjl c hc) nX) (by have:=hjw c hc;omega)) fun _ _ h=>h;simp only[↓aA,aB,rE,↓reduceIte,rA,p2,fZ,ld3 g'];refine⟨sX',L,C,hC,fun X2 m2 k2=>⟨pv,jv,rfl,?_,?_⟩⟩
 ·have gg2:gQ 6 Z X2 pv L.length cs:=gX'.move m2 fun c hc=>k2 c (by have:=(gX'.blk hc).1;have:=sSZ.1;omega) (gX'.blk hc).2.1;exact nI.is (X0:=Z) (nI.move (P':=fun c=>Z.nx≤c) bX' m2 fun c hc hP=>⟨k2 c (by have:=hP.1;have:=sSZ.1;omega) hc,hP.1⟩) (show gQ 6 Z X2 pv (L.map (lK g C)).length cs by rw[Az];exact gg2)
 ·exact bB.moveB jX' m2 (fun c hc=>k2 c (by have:=hjw c hc;have:=sSY.1;omega) (by have:=hjl c hc;omega)) fun _ _ h=>h
end Go.Ev.Gl
namespace Go.Ev.Gl
open Go.Sort
variable {fns:T cV}
end Go.Ev.Gl
namespace Go.Ev.Gl
open Go.Sort
variable {fns:T cV}
end Go.Ev.Gl
namespace Go.Ev.Gl
open Go.Sort
variable {fns:T cV}
end Go.Ev.Gl
