import Derived.Test.YtoojnpjgnnpllaaGl26
open Nat renaming reduceEqDiff -> rE, reduceAdd -> rA
set_option maxHeartbeats 0
set_option linter.unusedSimpArgs false
set_option linter.unusedVariables false
namespace Go.Ev.Gl
variable {fns:T dY}
def HdK(C:LC)(P:Nat->Prop)(g:aS)(S0 Xe:St)(m:LyS)(pl first:ba)(act:a9)(old xb:Nat)(xa xw xp v12:AV)(o:Out)(A:bG)(Z:St):Prop:=o= .normal/\A.inr=false/\∃m',rH C (fun c=>c≠xb/\P c) g S0 Z m' pl/\m'.l=m.l/\m'.da=(fB first m.da (b8 g old)).1/\gL C.W m Xe m' Z/\Z.h.get xb=some (.cells [.int .i64 (b8 g old).kind,.int .i64 (b8 g old).player,.int .i64 (fB first m.da (b8 g old)).2,xa,xw,xp] false 0)/\pI C.W m' xb/\xb<Z.nx/\bI .i64 Z v12 (eO act (b8 g old))/\(∀c,aZ v12=some c->pI C.W m' c/\c≠xb)/\LyT C A.F/\aD 10 A.F= .int .i64 (m.l.length:Int)/\aD 11 A.F= .ptr xb 0/\aD 12 A.F=v12
def vT(first:ba)(da:bg)(x:dP)(ks:ba):dP:={x with info:=(fB first da x).2,next:=ks}
def aOK(C:LC)(P:Nat->Prop)(g:aS)(S0 Xe:St)(m:LyS)(pl first:ba)(act:a9)(f old:Nat)(v12:AV)(k:Nat)(A:bG)(Z:St):Prop:=A.inr=false/\∃j,j+k=(eO act (b8 g old)).length/\∃m' v l2,rH C P g S0 Z m' (qD pl m.l.length (old::(eR (fQ g first act f) ((eO act (b8 g old)).take j) (m.l.length+1) (fB first m.da (b8 g old)).1).2.olds))/\m'.l=m.l++((vT first m.da (b8 g old) (eR (fQ g first act f) ((eO act (b8 g old)).take j) (m.l.length+1) (fB first m.da (b8 g old)).1).1,v)::l2)/\l2.map (·.1)=(eR (fQ g first act f) ((eO act (b8 g old)).take j) (m.l.length+1) (fB first m.da (b8 g old)).1).2.bh/\m'.da=(eR (fQ g first act f) ((eO act (b8 g old)).take j) (m.l.length+1) (fB first m.da (b8 g old)).1).2.da/\m'.da.length<=m'.l.length/\gL C.W m Xe m' Z/\bI .i64 Z v12 (eO act (b8 g old))/\(∀c,aZ v12=some c->pI C.W m' c)/\LyT C A.F/\aD 10 A.F= .int .i64 (m.l.length:Int)/\aD 101 A.F=v12/\aD 102 A.F= .int .i64 (((eO act (b8 g old)).length:Nat):Int)/\aD 103 A.F= .int .i64 (j:Int)
theorem aH1{da:bg}{r:Nat}:(kR da r).1.length<=da.length+1:=by
 unfold kR;split
 ·exact Nat.le_succ _
 ·rw[Ao];exact Ag _
theorem aBr{first:ba}{da:bg}{x:dP}:(fB first da x).1.length<=da.length+1:=by
 unfold fB;split
 ·exact aH1
 ·exact Nat.le_succ _
theorem aFu{l:bg}{j:Nat}(h:j<l.length):(l.take j).sum+l.getD j 0<=l.sum:=by
 have e:=List.sum_append_nat (l₁:=l.take j) (l₂:=l.drop j);rw[List.take_append_drop] at e;rw[e,Bw h,Ef,Ad,Ab h];simp only[Dq];omega
theorem aM3{C:LC}{P:Nat->Prop}{g:aS}{S0:St}{first:ba}{act:a9}{Tr:List dM}(H:Has fns)(hP:∀c,S0.nx<=c->P c)(G:aJp g)(hR:qA g act)(hFl:first.length=g.bj.length)(hFr:∀s,s<g.bj.length->∃r:Nat,first.getD s 0=(r:Int)/\r<g.bj.length)(hn:aE 6 bX S0 C.nv g.bh)(hi:aE 2 bP S0 C.iv g.bj)(hf:bI .i64 S0 C.fv first)(ha:aE 1 iD S0 C.av act)(hT:iN g=some Tr)(hTl:Tr.length=g.bh.length)(hwl:∀i,i<g.bh.length->(b8 g i).weights.length<=100000):
  ∀ (f:Nat) {X:St} {m:LyS} {pl:ba} {old:Nat},g.bh.length<=f+old->old<g.bh.length->m.l.length+oC Tr old<=g.bh.length->m.da.length<=m.l.length->rH C P g S0 X m pl->
  fZ fns C.fn [.int .i64 (old:Int)] X fun r Z=>r= .int .i64 (m.l.length:Int)/\∃m' l',rH C P g S0 Z m' (qD pl m.l.length (fQ g first act f old m.l.length m.da).olds)/\m'.l=m.l++l'/\l'.map (·.1)=(fQ g first act f old m.l.length m.da).bh/\m'.da=(fQ g first act f old m.l.length m.da).da/\m'.da.length<=m'.l.length/\gL C.W m X m' Z:=by
 have Gg:=G.good;have hN:=Gg.n2;intro f
 induction f with
 | zero=>intro X m pl old h1 h2;omega
 | succ f ih=>
  intro X m pl old hfu hold hsz hrl hS;have hks:=aEk hT hTl hold;show fZ fns (.fn 139 [] [.ptr C.nc 0,.ptr C.pc 0,.ptr C.gb 0,.ptr C.lb 0,.ptr C.mc 0,.ptr C.ic 0,.ptr C.fc 0]) _ _ _;refine cF H.f139 (by simp) ?_;refine ae ?_;refine bO (ae ?_);have ln:=dI (p:=0) hS.gn rfl;have lp:=dI (p:=0) hS.gp rfl;have hnl:=hS.b.nod.len;refine bO (dn ln hnl ?_);have hpl:=hS.pll;have hia:=dR (b:=C.qb) (o:=false) hold;refine bO (dp lp @aH hia ?_);refine fI (fun call=>by refine dn @dS @cR ?_;exact sM (S:=X) hS.gq ar) ?_;refine ae ?_;have⟨d1,d2,d3,d4,d5,d6⟩:=hS.n1;obtain⟨X1,hX1⟩:∃X1:St,X1=⟨X.h.set C.qb (some (.cells (aU (pl.set old (m.l.length:Int))) false 0)),X.nx⟩:=⟨_,rfl⟩;have n1:X1.nx=X.nx:=by rw[hX1]
  have k1:∀c,c≠C.qb->X1.h.get c=X.h.get c:=fun c hc=>by rw[hX1];simp only;rw[di,if_neg hc]
  rw[<-hX1];have K1:gL C.W m X m X1:=.off (Eq n1.symm) fun c _ hp=>k1 c fun e=>hp.1 (by rw[e];exact LC.wq);have hS1:rH C P g S0 X1 m (pl.set old (m.l.length:Int)):=hS.next (hS.b.local (Eq n1.symm) fun c _ hw _=>k1 c fun e=>hw (by rw[e];exact LC.wq)) K1 (by rw[Aq]) ((k1 _ d2).trans hS.gn) ((k1 _ d4).trans hS.gi) (by rw[hX1];simp only;rw[di,if_pos rfl]) (hS.gm.move (k1 _ (Bt d6)));have s01:=hS1.s;obtain⟨_,bx,qx,hiax,hbx,_,⟨xa,xw,xp,rfl,hxa,hxw,hxp⟩,hldx,_⟩:=aE.at hn ay (gI hold);rw[<-iA s01 hbx] at hldx;have lg1:=dI (p:=1) hS1.gg rfl;refine bO (eu @aC @aB @An lg1 @aH hiax hldx ?_);refine cA ?_;intro X2 x2 n2 g2;try refine am ?_
  refine cQ (b:=X1.nx) (cs':=[.int .i64 (b8 g old).kind,.int .i64 (b8 g old).player,.int .i64 (b8 g old).info,xa,xw,xp]) (ap) (by refine am ?_;exact aY _) g2 rfl rfl ?_;intro X3 x3 n3 g3;refine am ?_;have s13:Same X1 X3:=x3.same x2 (Ag _);obtain⟨xb,hxb⟩:∃xb,xb=X1.nx:=⟨_,rfl⟩;rw[<-hxb] at g3;simp only[<-hxb];have hS3:rH C (fun c=>c≠xb/\P c) g S0 X3 m (pl.set old (m.l.length:Int)):=(hS1.mono (P':=fun c=>c≠xb/\P c) fun c hc hp=>⟨ar,hp⟩).same s13;have pxb:pI C.W m xb:=hS1.b.fresh (Eq hxb.symm);have nxc:xb≠C.pc/\xb≠C.mc/\xb≠C.fc:=by
   have a:=hS1.kp.2;have b:=hS1.kc.2;have c:=hS1.kf.2;omega
  have s0b:S0.nx<=xb:=by rw[hxb];exact s01.1
  have lxb:xb<X3.nx:=by omega
  have hlk:=hxa.same hS3.s;have lx3:=dC g3;refine bO (dz @aC @aB lx3 ?_);refine bD (am ?_);have hnx:=Gg.nxt old hold;refine aW (pE H hlk ar) ?_;rintro v12 X4 ⟨s4,i4,b4,g4⟩;try refine am ?_
  have hS4:=hS3.same s4;have g34:=(s4.2 _ lxb).trans g3;have K13:gL C.W m X m X3:=K1.trans (.same s13);refine aA (aX (Q:=HdK C P g S0 X m (pl.set old (m.l.length:Int)) first act old xb xa xw xp v12) (aA (aJ ?_)) ?_)
  ·refine dp @aC @aB (eK g34) ?_;by_cases hk:(b8 g old).kind=2
   ·refine aN (by simp only[↓sU,sD,rE,↓reduceIte,rA,Ac hk]) ?_;have⟨a1,a2,a3⟩:=aDV Gg hold hk;have⟨r1,r2,r3⟩:=hR.2 _ a1;have hne:(b8 g old).next≠ []:=fun e=>by
     have:=(G.mov old hold hk).1;rw[e] at this;exact absurd this ay
    rcases g4 hne with⟨_,e,_⟩ | ⟨cb,rfl,c1,c2,c3,_⟩
    ·exact absurd (Bu.1 e) hne
    ·refine aX (aQi (P:=fun c=>c≠xb/\P c) (Xe:=X) (s:=(b8 g old).info.toNat) (act:=act) (first:=first) (x10:=.int .i64 (m.l.length:Int)) (xb:=xb) (cb:=cb) (k:=.int .i64 (b8 g old).kind) (p:=.int .i64 (b8 g old).player) (xa:=xa) (xw:=xw) (xp:=xp) hS3 (fun h=>h.1 rfl) K13 ar s4 c1 c2 s0b lxb pxb nxc ha hf hi hxa ar (by rw[hR.1];exact a1) (by rw[hFl];exact a1) (by rw[r1];exact a2) (by rw[<-a2];exact r2) (hFr _ a1) ar (by rw[a3];exact g3) c3 (by refine⟨?_,?_,?_,?_,?_,?_,?_⟩<;>simp only[↓sU,sD,rE,↓reduceIte,rA]) (af) (af) (af)) ?_;rintro o A' Z ⟨h1,h2,m',h3,h4,h5,h6,h7,h8,hlt,h9,h10,h11,h12,h13,h14⟩;have eh:fB first m.da (b8 g old)=((kR m.da (first.getD (b8 g old).info.toNat 0).toNat).1,((kR m.da (first.getD (b8 g old).info.toNat 0).toNat).2:Int)):=by unfold fB;rw[if_pos hk]
     have eo:eO act (b8 g old)=pL (act.getD (b8 g old).info.toNat []) (b8 g old).next (b8 g old).next.length:=by unfold eO;rw[if_pos hk]
     exact⟨h1,h2,m',h3,h4,by rw[eh];exact h5,h6,by rw[eh];exact h7,h8,hlt,by rw[eo];exact h9,h10,h11,h12,h13,h14⟩
   ·refine aM (by simp only[↓sU,sD,rE,↓reduceIte,rA,Aa hk]) (aI ?_);have eh:fB first m.da (b8 g old)=(m.da,(b8 g old).info):=by unfold fB;rw[if_neg hk]
    have eo:eO act (b8 g old)=(b8 g old).next:=by unfold eO;rw[if_neg hk]
    exact⟨rfl,rfl,m,hS4,rfl,by rw[eh],K13.trans (.same s4),by rw[eh];exact g34,pxb,Ae lxb s4.1,by rw[eo];exact i4,fun c hc=>⟨hS3.b.fresh (b4 c hc),by have:=b4 c hc;omega⟩,(by refine⟨?_,?_,?_,?_,?_,?_,?_⟩<;>simp only[↓sU,sD,rE,↓reduceIte,rA]),by refine⟨?_,?_,?_⟩<;>simp only[↓sU,sD,rE,↓reduceIte,rA]⟩
  clear ln lp lg1 hldx g2 g3 g34 lx3 i4 b4 g4 hS3 hS4;rintro o ⟨F1,inr⟩ Z ⟨rfl,q0,m1,hZ,el,er,KZ,gxZ,pxZ,lxZ,iv12,bv12,hT1,p10,p11,p12⟩;simp only at q0 hT1 p10 p11 p12;subst q0;try refine ae ?_
  refine aA (aOh H rfl p11 gxZ lxZ (hxw.same hZ.s) (hxp.same hZ.s) (hwl old hold) (by have:=Gg.pay old hold;omega) ?_);intro F2 Z2 rw' rp hk2 sb2 gx2 iw ip hb2;have hZ2:=hZ.but pxZ (fun h=>h.1 rfl) ⟨nxc.1,nxc.2.1,nxc.2.2,s0b⟩ sb2;have K2:gL C.W m X m1 Z2:=⟨Al KZ.1 sb2.1,fun c hc hp=>⟨(sb2.2 c (Ae hc KZ.1) ar).trans (KZ.2 c hc hp).1,(KZ.2 c hc hp).2⟩⟩;have⟨t1,t2,t3,t4,t5,t6,t7⟩:=hT1;have q1:=(hk2 1 ar).trans t1;have q2:=(hk2 2 ar).trans t2;have q3:=(hk2 3 ar).trans t3;have q4:=(hk2 4 ar).trans t4;have q5:=(hk2 5 ar).trans t5;have q6:=(hk2 6 ar).trans t6;have q7:=(hk2 7 ar).trans t7;have q10:=(hk2 10 ar).trans p10;have q11:=(hk2 11 ar).trans p11;have q12:=(hk2 12 ar).trans p12;try refine ae ?_
  have lna:=dI (p:=0) hZ2.gn rfl;have lxx:=jM (n:=6) gx2 rfl;refine bO (ed q1 q11 lna lxx ?_);refine fN (aMp (by simp only[↓aF,aG,rE,↓reduceIte,rA];try rfl)) ?_;intro U u1 u2 u3;have hZU:=hZ2.same u1;have⟨v',V,eA,aV,nV,kV,bV⟩:=hZU.b.nod.push (bytes:=96) (x:=.sl Z2.nx 0 1 1 false) (a:=(vT first m.da (b8 g old) [],AV.bw)) ay hZU.s.1 rfl (aNk u3 rfl) rfl ⟨rw',rp,rfl,.inl ⟨rfl,rfl,rfl⟩,iw.same u1,ip.same u1,fun c hc=>by
   have:=hb2 c hc;exact⟨hZ.b.fresh this,ar,hP c (au hZ.s.1)⟩⟩ (by have:=hsz;rw[el];unfold room;omega) (by have:=hsz;rw[el];unfold room;omega)
  have⟨kP,kM⟩:=hZU.b.pushN nV kV bV aV;refine fI (fun call=>by refine dx @gO ?_;exact eA) ?_;try refine am ?_
  have wg:=hZU.b.wg;have gnV:=(kV _ (wg _ LC.wn).2 fun e=>(hZU.b.d1 _ e).1 LC.wn).trans hZU.gn;have hcl:v'.cells=some [v']:=aV.cells;refine fI (v:=.undef) (S1:=⟨V.h.set C.nc (some (.cells [v'] false 0)),V.nx⟩) (fun call=>by refine ed @dS q1 hcl @aL ?_;exact stc (cs:=[m1.na]) (p:=0) (S:=V) gnV (by simp)) ?_;refine am ?_;obtain⟨Y,hY⟩:∃Y:St,Y=⟨V.h.set C.nc (some (.cells [v'] false 0)),V.nx⟩:=⟨_,rfl⟩;rw[<-hY];have nY:Y.nx=V.nx:=by rw[hY]
  have kY:∀c,c≠C.nc->Y.h.get c=V.h.get c:=fun c hc=>by rw[hY];simp only;rw[di,if_neg hc]
  have KY:gL C.W {m1 with na:=v',l:=m1.l++ [(vT first m.da (b8 g old) [],AV.bw)]} V {m1 with na:=v',l:=m1.l++ [(vT first m.da (b8 g old) [],AV.bw)]} Y:=.off (Eq nY.symm) fun c _ hp=>kY c fun e=>hp.1 (by rw[e];exact LC.wn);have KUY:=kM.trans KY;have kw:∀c,C.W c->c≠C.nc->Y.h.get c=U.h.get c:=fun c hw hne=>(kY c hne).trans (kV c (wg c hw).2 fun e=>(hZU.b.d1 _ e).1 hw);have hbY:qC C.W P g S0 Y {m1 with na:=v',l:=m1.l++ [(vT first m.da (b8 g old) [],AV.bw)]}:=(kP.local (Eq nY.symm) fun c _ hw _=>kY c fun e=>hw (by rw[e];exact LC.wn)).mono fun _ _ h=>h.2;have hSY:rH C P g S0 Y {m1 with na:=v',l:=m1.l++ [(vT first m.da (b8 g old) [],AV.bw)]} (pl.set old (m.l.length:Int)):=(hZU.mono (P':=P) fun _ _ h=>h.2).next hbY KUY rfl (by rw[hY];simp only;rw[di,if_pos rfl]) ((kw _ LC.wi (Bt d1)).trans hZU.gi) ((kw _ LC.wq (Bt d2)).trans hZU.gq) (hZU.gm.move (kw _ LC.wm (Bt d3)));have lU:∀c,aZ v12=some c->c<Z.nx:=fun c hc=>eU iv12 hc;have KXY:gL C.W m X {m1 with na:=v',l:=m1.l++ [(vT first m.da (b8 g old) [],AV.bw)]} Y:=K2.trans ((gL.same u1).trans KUY);have v12Y:bI .i64 Y v12 (eO act (b8 g old))/\∀c,aZ v12=some c->pI C.W {m1 with na:=v',l:=m1.l++ [(vT first m.da (b8 g old) [],AV.bw)]} c:=by
   have h1:∀c,aZ v12=some c->c<U.nx/\pI C.W m1 c/\U.h.get c=Z.h.get c:=fun c hc=>by
    have a:=lU c hc;have b:=sb2.1;have e:=u1.1;exact⟨ar,(bv12 c hc).1,(u1.2 c ar).trans (sb2.2 c a (bv12 c hc).2)⟩
   refine⟨eT iv12 (by have:=sb2.1;have:=u1.1;have:=KUY.1;omega) fun c hc=>?_,fun c hc=>?_⟩
   ·have⟨a,b,e⟩:=h1 c hc;exact(KUY.2 c a b).1.trans e
   ·have⟨a,b,e⟩:=h1 c hc;exact(KUY.2 c a b).2
  have hrl1:=aBr (first:=first) (da:=m.da) (x:=b8 g old);have hol:(eO act (b8 g old)).length=(b8 g old).next.length:=(jD Gg hR hold).length_eq;have v12l:=v12Y.1.len;refine aA (aX (Q:=fun o A' W=>o= .normal/\aOK C P g S0 X m pl first act f old v12 0 A' W) (aA (aJ ?_)) ?_)
  ·refine dp q12 v12l @Ah ?_;refine aK (bH (aOK C P g S0 X m pl first act f old v12) ?_ (eO act (b8 g old)).length _ _ ⟨rfl,0,ar,_,AV.bw,[],hSY,by rw[Fb,<-el];rfl,by rw[Fb];rfl,by rw[Fb];exact er,by show m1.da.length<=(m1.l++ [_]).length;rw[er,el,Ao,Bl];omega,KXY,v12Y.1,v12Y.2,(by refine⟨?_,?_,?_,?_,?_,?_,?_⟩<;>simp only[↓sU,sD,rE,↓reduceIte,rA,q1,q2,q3,q4,q5,q6,q7]),ah q10,af,af,ag⟩);clear hS hS1 K1 K13 hZ KZ hZ2 K2 kP kM hbY hSY KXY v12Y KUY hZU gnV KY eA aV nV kV bV;rintro k ⟨F,inr⟩ W ⟨q0,j,hjk,m',v,l2,hW,e1,e2,e3,e4,e5,e6,e7,⟨t1,t2,t3,t4,t5,t6,t7⟩,r10,r101,r102,r103⟩;simp only at q0 t1 t2 t3 t4 t5 t6 t7 r10 r101 r102 r103;subst q0;refine bO (dn r102 r103 ?_);by_cases hlt:j<(eO act (b8 g old)).length;rotate_left
   ·refine aA (aM (by simp only[↓sU,sD,rE,↓reduceIte,rA,Aa (show ¬ (j:Int)<(((eO act (b8 g old)).length:Nat):Int) by omega)]) (bJ ?_));refine ae ?_;obtain rfl:k=0:=by omega
    exact⟨rfl,j,hjk,m',v,l2,hW,e1,e2,e3,e4,e5,e6,e7,(by refine⟨?_,?_,?_,?_,?_,?_,?_⟩<;>simp only[↓sU,sD,rE,↓reduceIte,rA,t1,t2,t3,t4,t5,t6,t7]),by refine⟨?_,?_,?_,?_⟩<;>simp only[↓sU,sD,rE,↓reduceIte,rA,r10,r101,r102,r103]⟩
   refine aA (aN (by simp only[↓sU,sD,rE,↓reduceIte,rA,Ac (show(j:Int)<(((eO act (b8 g old)).length:Nat):Int) by omega)]) (aI ?_));try refine ae ?_
   have w1:=dh j
   have⟨kb,kq,i1,_,i3⟩:=jB e6 hlt;have hmem:(eO act (b8 g old)).getD j 0∈(b8 g old).next:=(jD Gg hR hold).mem_iff.1 (by rw[Ad,Ab hlt];exact Bo hlt);have⟨q,hq,hqe⟩:=Cm hmem;have hkid:=Gg.kids old hold q hq;rw[show(b8 g old).next.getD q 0=(b8 g old).next[q] by rw[Ad,Ab hq];rfl,hqe] at hkid;obtain⟨cn,hcn⟩:∃cn:Nat,(eO act (b8 g old)).getD j 0=(cn:Int):=⟨((eO act (b8 g old)).getD j 0).toNat,ar⟩;rw[hcn] at i3 hkid;have htk:(eO act (b8 g old)).take (j+1)=(eO act (b8 g old)).take j++ [(cn:Int)]:=by
    rw[Bn,Ab hlt,<-hcn,Ad,Ab hlt];rfl
   generalize hKB:eR (fQ g first act f) ((eO act (b8 g old)).take j) (m.l.length+1) (fB first m.da (b8 g old)).1=KB at *;have hl2:l2.length=KB.2.bh.length:=by rw[<-e2,Aj]
   have hml:m'.l.length=m.l.length+1+KB.2.bh.length:=by rw[e1,Ao,Ax,hl2];omega
   have hszc:m'.l.length+oC Tr cn<=g.bh.length:=by
    have h1:=tG (T:=Tr) (lay:=fQ g first act f) (l:=(eO act (b8 g old)).take j) (fun k hk i da=>rQ Gg hR hT hTl (by
     obtain⟨q,hq,rfl⟩:=Cm ((jD Gg hR hold).mem_iff.1 (Ea hk));have:=Gg.kids old hold q hq;rw[Ad,Ab hq] at this;simp only[Dq] at this;omega)) (i:=m.l.length+1) (da:=(fB first m.da (b8 g old)).1)
    rw[hKB] at h1;have h2:=aEC (((jD Gg hR hold).map Int.toNat).map (oC Tr));have h3:=aFu (l:=((eO act (b8 g old)).map Int.toNat).map (oC Tr)) (j:=j) (by rw[Aj,Aj];exact hlt);rw[<-List.map_take,<-List.map_take] at h3;have h4:(((eO act (b8 g old)).map Int.toNat).map (oC Tr)).getD j 0=oC Tr cn:=by
     rw[Ad,Am,Am,Ab hlt];have:(eO act (b8 g old))[j]=(cn:Int):=by rw[<-hcn,Ad,Ab hlt];rfl
     rw[this];rfl
    omega
   have lf:=dI (p:=0) hW.gf rfl;refine aA (aK (aA (aJ ?_)));refine dr r101 r103 @aH i1 i3 ?_;refine bO (dn t7 lf ?_);refine bD (ae ?_);refine aW (ih ar ar  hszc e4 hW) ?_;rintro _ W2 ⟨rfl,m2,l3,hW2,a1,a2,a3,a4,a5⟩;try refine ae ?_
   rw[hml] at hW2 a2 a3;have hi2:m2.l[m.l.length]? =some (vT first m.da (b8 g old) KB.1,v):=by
    rw[a1,e1,Cj,Be (Ag _),Eh];rfl
   have hkl:=aBs (lay:=fQ g first act f) (l:=(eO act (b8 g old)).take j) (i:=m.l.length+1) (da:=(fB first m.da (b8 g old)).1);rw[hKB,Ca] at hkl;refine aMR (W:=C.W) (g:=g) (S0:=S0) (nc:=C.nc) (i:=m.l.length) (m:=m2) (v:=v) (a:=vT first m.da (b8 g old) KB.1) (w:=(m'.l.length:Int)) rfl hW2.b hW2.s.1 hi2 (by show KB.1.length<=100000;omega) (ah t1) (ah r10) (af) hW2.gn LC.wn ?_;intro F' V v2 hk' hbV KV kV;have wg2:=hW2.b.wg;have r103':=(hk' 103 ar);simp only[↓sU,sD,rE,↓reduceIte,rA,r103] at r103';try refine ae ?_
   refine aJ (dn r103' w1 ?_);have g1:=hk' 1 ar;have g2:=hk' 2 ar;have g3:=hk' 3 ar;have g4:=hk' 4 ar;have g5:=hk' 5 ar;have g6:=hk' 6 ar;have g7:=hk' 7 ar;have g10:=hk' 10 ar;have g101:=hk' 101 ar;have g102:=hk' 102 ar;simp only[↓sU,sD,rE,↓reduceIte,rA,t1,t2,t3,t4,t5,t6,t7,r10,r101,r102] at g1 g2 g3 g4 g5 g6 g7 g10 g101 g102;have kk:=zM (lay:=fQ g first act f) (l:=(eO act (b8 g old)).take j) (k:=(cn:Int)) (i:=m.l.length+1) (da:=(fB first m.da (b8 g old)).1);rw[hKB,<-htk,Az,<-e3] at kk;have e3':=a3;have hv2:bI .i64 V v12 (eO act (b8 g old))/\∀c,aZ v12=some c->pI C.W {m2 with l:=m2.l.set m.l.length ({vT first m.da (b8 g old) KB.1 with next:=KB.1++ [(m'.l.length:Int)]},v2)} c:=by
    have KK:=a5.trans KV;exact⟨eT e6 KK.1 fun c hc=>(KK.2 c (eU e6 hc) (e7 c hc)).1,fun c hc=>(KK.2 c (eU e6 hc) (e7 c hc)).2⟩
   refine⟨k - 1,ar,rfl,j+1,ar,{m2 with l:=m2.l.set m.l.length ({vT first m.da (b8 g old) KB.1 with next:=KB.1++ [(m'.l.length:Int)]},v2)},v2,l2++l3,?_,?_,?_,?_,?_,e5.trans (a5.trans KV),hv2.1,hv2.2,(by refine⟨?_,?_,?_,?_,?_,?_,?_⟩<;>simp only[↓sU,sD,rE,↓reduceIte,rA,g1,g2,g3,g4,g5,g6,g7]),by refine⟨?_,?_,?_,?_⟩<;>simp only[↓sU,sD,rE,↓reduceIte,rA,g10,g101,g102]⟩
   ·rw[kk];simp only;have hol2:KB.2.olds.length=KB.2.bh.length:=by rw[<-hKB];exact vY fun o i da=>aBT
    have hpe:qD pl m.l.length (old::(KB.2.olds++(fQ g first act f cn (m.l.length+1+KB.2.bh.length) m'.da).olds))=qD (qD pl m.l.length (old::KB.2.olds)) (m.l.length+1+KB.2.bh.length) (fQ g first act f cn (m.l.length+1+KB.2.bh.length) m'.da).olds:=by
     rw[<-Ck,aEu,Ax,hol2,show m.l.length+(KB.2.bh.length+1)=m.l.length+1+KB.2.bh.length by omega]
    rw[hpe];exact hW2.next hbV KV rfl ((kV _ (wg2 _ LC.wn).2 LC.wn).trans hW2.gn) ((kV _ (wg2 _ LC.wi).2 LC.wi).trans hW2.gi) ((kV _ (wg2 _ LC.wq).2 LC.wq).trans hW2.gq) (hW2.gm.move (kV _ (wg2 _ LC.wm).2 LC.wm))
   ·rw[kk];simp only;rw[hml,a1,e1,Cj,List.set_append_right _ _ (Ag _),Eh];rfl
   ·rw[kk];simp only;rw[Dz,e2,a2]
   ·rw[kk];exact a3
   ·simp only;rw[Aq];exact a4
  rintro o ⟨F3,inr⟩ W ⟨rfl,q0,j,hjk,m',v,l2,hW,e1,e2,e3,e4,e5,e6,e7,hT3,r10, -, -, -⟩;simp only at q0 hT3 r10;subst q0;obtain rfl:j=(eO act (b8 g old)).length:=by omega
  rw[List.take_length] at hW e1 e2 e3;refine bO (dm r10 ?_);refine aP (ae ?_);refine⟨m',_,hW,e1,?_,e3,e4,e5⟩;rw[Dc,e2];rfl
structure Clo(g:aS)(first:ba)(da:bg)(B:aDe):Prop where
 kid:∀o∈B.olds,∀k∈(b8 g o).next,k.toNat∈B.olds
 rep:∀o∈B.olds,(b8 g o).kind=2->(first.getD (b8 g o).info.toNat 0).toNat∈B.da
 mono:∀r∈da,r∈B.da
theorem aEw{da:bg}{r:Nat}:r∈(kR da r).1/\∀q∈da,q∈(kR da r).1:=by
 unfold kR;split
 ·rename_i h;exact⟨h,fun _ h=>h⟩
 ·exact⟨by simp,fun q h=>by simp [h]⟩
theorem aFf{g:aS}{first:ba}{lay:Nat->Nat->bg->aDe}:∀ {l:ba} (_:∀k∈l,∀i da,Clo g first da (lay k.toNat i da)/\k.toNat∈(lay k.toNat i da).olds) {i:Nat} {da:bg},Clo g first da (eR lay l i da).2/\∀k∈l,k.toNat∈(eR lay l i da).2.olds
 | [],_,i,da=>⟨⟨fun o h=>(by cases h),fun o h=>(by cases h),fun r h=>h⟩,fun k h=>by cases h⟩
 | x::l,h,i,da=>by
  have⟨c1,m1⟩:=h x (Bv ..) i da;have⟨c2,m2⟩:=aFf (l:=l) (fun k hk=>h k (Bk _ hk)) (i:=i+(lay x.toNat i da).bh.length) (da:=(lay x.toNat i da).da);unfold eR;refine⟨⟨fun o ho k hk=>?_,fun o ho hk=>?_,fun r hr=>c2.mono r (c1.mono r hr)⟩,fun k hk=>?_⟩
  ·rcases Cb.1 ho with h1 | h1
   ·exact De _ (c1.kid o h1 k hk)
   ·exact Cv _ (c2.kid o h1 k hk)
  ·rcases Cb.1 ho with h1 | h1
   ·exact c2.mono _ (c1.rep o h1 hk)
   ·exact c2.rep o h1 hk
  ·rcases Bs.1 hk with rfl | h1
   ·exact De _ m1
   ·exact Cv _ (m2 k h1)
theorem aEA{g:aS}{first:ba}{act:a9}(G:dE g)(hR:qA g act):∀ {f o i:Nat} {da:bg},g.bh.length<=f+o->o<g.bh.length->Clo g first da (fQ g first act f o i da)/\o∈(fQ g first act f o i da).olds
 | 0,o,i,da,h1,h2=>absurd h2 ar
 | f+1,o,i,da,h1,ho=>by
  unfold fQ;have hp:=jD G hR ho;have⟨c,m⟩:=aFf (g:=g) (first:=first) (lay:=fQ g first act f) (l:=eO act (b8 g o)) (fun k hk i da=>by
   obtain⟨q,hq,rfl⟩:=Cm (hp.mem_iff.1 hk);have:=G.kids o ho q hq;rw[Ad,Ab hq] at this;simp only[Dq] at this;exact aEA G hR ar ar) (i:=i+1) (da:=(fB first da (b8 g o)).1)
  have hm:∀r∈da,r∈(fB first da (b8 g o)).1:=fun r hr=>by
   unfold fB;split
   ·exact aEw.2 r hr
   ·exact hr
  refine⟨⟨fun o' ho' k hk=>?_,fun o' ho' hk=>?_,fun r hr=>c.mono r (hm r hr)⟩,Bv ..⟩
  ·rcases Bs.1 ho' with rfl | h
   ·exact Bk _ (m k (hp.mem_iff.2 hk))
   ·exact Bk _ (c.kid o' h k hk)
  ·rcases Bs.1 ho' with rfl | h
   ·refine c.mono _ ?_;unfold fB;rw[if_pos hk];exact aEw.1
   ·exact c.rep o' h hk
theorem aLz{g:aS}{first:ba}{act:a9}(G:dE g)(hR:qA g act){j:Nat}(hj:j<g.bh.length):j∈(fQ g first act g.bh.length 0 0 []).olds:=by
 have⟨c,m⟩:=aEA (first:=first) G hR (f:=g.bh.length) (o:=0) (i:=0) (da:=[]) ar G.n1
 induction j using Nat.strongRecOn with
 | ind j ih=>
  by_cases h0:j=0
  ·rw[h0];exact m
  ·have⟨q,k,h1,h2,h3⟩:=aKX G (Nat.pos_of_ne_zero h0) hj;have:=c.kid q (ih q h1 ar) ((b8 g q).next.getD k 0) (by rw[Ad,Ab h2];exact Bo h2);rw[h3] at this;exact this
theorem rC{g:aS}{first:ba}{act:a9}(G:dE g)(hR:qA g act){s:Nat}(hs:s<g.bj.length):(first.getD s 0).toNat∈(fQ g first act g.bh.length 0 0 []).da:=by
 have⟨c,_⟩:=aEA (first:=first) G hR (f:=g.bh.length) (o:=0) (i:=0) (da:=[]) ar G.n1;have⟨f1,f2,f3⟩:=G.fst s hs;have:=c.rep _ (aLz G hR f1) f2;rw[f3] at this;exact this
def aRl(W:St)(F:Fr)(qv:AV)(l:ba)(F':Fr)(Z:St)(ps:List iQ):Prop:=ps= [⟨8,W.nx+8,.cells [aD 51 F'] false 0⟩]/\Same W Z/\W.nx+12<=Z.nx/\(∀j,j<44->aD j F'=aD j F)/\aD 45 F'=qv/\aD 52 F'= .sl (W.nx+8) 0 1 1 false/\bI .i64 Z (aD 51 F') l/\∀c,aZ (aD 51 F')=some c->W.nx<=c/\c≠W.nx+8
theorem aLA{W Y:St}{F:Fr}{ob lb br qr i:Nat}{c0 c1 c2 c3 qv c5 fv av a:AV}{l:ba}(H:Has fns)(p10:aD 10 F= .ptr ob 0)(p2:aD 2 F= .ptr lb 0)(p11:aD 11 F= .int .i64 (i:Int))(hob:W.h.get ob=some (.cells [c0,c1,c2,c3,qv,c5] false 0))(hlb:W.h.get lb=some (.cells [fv,av] false 0))(lob:ob<W.nx)(llb:lb<W.nx)(hia:dO (.slice 1) av i=some (.ptr br qr))(hld:dT (.ptr br qr) false 1 W.h=some a)(lbr:br<W.nx)(ha:bI .i64 W a l)(hl:l.length<=100000)(sv:cE av av=true)(spv:cE qv qv=true)
  (hY:Same W Y) (nY:Y.nx=W.nx+12):fF fns (fun _=>False) W.h W.nx aJA 0 F Y [] none (aRl W F qv l):=by
 have sa:=bI.self ha;unfold aJA;simp only[↓sU,sD,rE,↓reduceIte,rA,p2,p10,p11,aC,aQ,aB,dF hob,aFm hlb,lob,llb,lbr,Ak,sv,spv,sa,aH,hia,hld];refine cU rfl ?_;refine ae ?_;refine aW (pE H (ha.same hY) hl) ?_;rintro r1 Y1 ⟨s1,i1,k1,_⟩;refine⟨s1,?_⟩;have he:=fun(F:Fr) (id:Nat) (h:aD 51 F=r1)=>aCY (t:=22) (z:=.bw) (x:=.t 51) (F:=F) (id:=id) i1 h;refine dm he ?_;refine⟨af,hY.trans s1,au s1.1,fun j hj=>?_,af,af,by refine ae ?_;exact i1,fun c hc=>?_⟩
 ·simp only[bS];rw[if_neg ar,if_neg ar,if_neg ar,if_neg ar,if_neg ar,if_neg ar,if_neg ar,if_neg ar,if_neg ar]
 ·simp only[↓sU,sD,rE,↓reduceIte,rA] at hc;have:=k1 c hc;omega
theorem aNm{ops:List AO}{S0 W:St}{F:Fr}{inr:Bool}{ob lb br qr i n:Nat}{c0 c1 c2 c3 qv c5 fv av a:AV}{cs:bf}{l:ba}{Q:Out->bG->St->Prop}(H:Has fns)(he:ops=aJA++aME)(p10:aD 10 F= .ptr ob 0)(p2:aD 2 F= .ptr lb 0)(p11:aD 11 F= .int .i64 (i:Int))(hob:W.h.get ob=some (.cells [c0,c1,c2,c3,qv,c5] false 0))(hlb:W.h.get lb=some (.cells [fv,av] false 0))(lob:ob<S0.nx)(llb:lb<W.nx)(hia:dO (.slice 1) av i=some (.ptr br qr))(hld:dT (.ptr br qr) false 1 W.h=some a)(lbr:br<W.nx)(ha:bI .i64 W a l)(hl:l.length<=100000)(sv:cE av av=true)
  (hg:fY 1 S0 W qv n cs) (hS:S0.nx<=W.nx) (hn:n<=100000)
  (hQ:∀F' Z r qv',(∀j,j<44->aD j F'=aD j F)->W.nx<=Z.nx->Z.h.get ob=some (.cells [c0,c1,c2,c3,qv',c5] false 0)->(∀c,c<W.nx->c≠ob->aZ qv≠some c->Z.h.get c=W.h.get c)->bI .i64 Z r l->fY 1 S0 Z qv' (n+1) (cs++ [r])->(∀c,aZ r=some c->W.nx<=c/\aZ qv'≠some c)->(∀c,aZ qv'=some c->W.nx<=c)->Q .normal ⟨F',inr⟩ Z):iM fns (.drw ops) ⟨F,inr⟩ W Q:=by
 have hlen:ops.length=12:=by rw[he];rfl
 refine nI (K:=9) (R:=aRl W F qv l) he rfl rfl (fun S1 s h n=>aLA H p10 p2 p11 hob hlb ar llb hia hld lbr ha hl sv hg.self s (by rw[n,hlen])) ?_;rintro F' S' ps hs ls ⟨rfl,sZ,nZ,hk,p45,p52,i1,hbk⟩ hlast hld;have p10':aD 10 F'= .ptr ob 0:=(hk 10 ar).trans p10;generalize hr1:aD 51 F'=r at i1 hbk;have m1:∀i,i<9->Nat.testBit 511 i=true:=by decide
 obtain⟨U,hU⟩:∃U:St,U=⟨S'.h.set (W.nx+8) (some (.cells [r] false 0)),S'.nx⟩:=⟨_,rfl⟩;have sUx:Same W U:=by rw[hU];exact⟨sZ.1,fun c hc=>by simp only;rw[di,if_neg ar];exact sZ.2 c hc⟩
 have gU:U.h.get (W.nx+8)=some (.cells [r] false 0):=by rw[hU];simp only;rw[di,if_pos rfl]
 have nU:U.nx=S'.nx:=by rw[hU]
 have iU:bI .i64 U r l:=eT i1 ar fun c hc=>by
  rw[hU];simp only;rw[di,if_neg (hbk c hc).2]
 have hbpv:∀ {c},aZ qv=some c->S0.nx<=c/\c<W.nx:=fun hc=>⟨(hg.blk hc).1,(hg.blk hc).2.1⟩;have hgU:fY 1 ⟨U.h,S0.nx⟩ U qv n cs:=hg.move sUx.1 fun c hc=>sUx.2 c (hbpv hc).2;have⟨qv',X,eA,gA,bA,nA,rA⟩:=fY.push1 (bytes:=24) (x:=r) hgU ⟨by show S0.nx<=U.nx;have:=sUx.1;omega,fun _ _=>rfl⟩ gU ax ax;have nbX:X.h.get ob=some (.cells [c0,c1,c2,c3,qv,c5] false 0):=by
  rw[rA ob (au sUx.1) (fun e=>by have:=(hbpv e).1;omega)];exact(sUx.2 ob ar).trans hob
 unfold aME;refine jZ (v:=qv') (S1:=X) (hlast _ m1) (fun call=>?_) ?_
 ·rw[cP (show Nat.testBit 511 8=true by decide),gO];simp only[fE,p45,p52,hr1];rw[<-hU];exact eA
 rw[cP (show Nat.testBit 511 8=true by decide)];simp only[lM,eC,aC,aB,aQ,bB,fE,bF,bS,p10',rE,↓reduceIte,rA];have gAc:qv'.cells=some [qv']:=fY.cells gA;refine jZ (v:=.undef) (S1:=⟨X.h.set ob (some (.cells [c0,c1,c2,c3,qv',c5] false 0)),X.nx⟩) (show Nat.testBit 2047 9=true by decide) (fun call=>?_) ?_
 ·rw[dS];simp only[fE,bS,rE,↓reduceIte,bF,gAc,aL];exact stc (cs:=[c0,c1,c2,c3,qv,c5]) (p:=4) (S:=X) nbX (by simp)
 rw[gG];have hbA:∀ {c},aZ qv'=some c->c=U.nx:=fun hc=>by rw[bA] at hc;exact(Bp hc).symm
 have sUn:=sUx.1;refine⟨?_,?_⟩
 ·simp only[Bz,Cj,Dw,Ck,Cg];exact hld _ _ _ m1
 ·simp only[bF,eF];have lowr:∀ {c},aZ r=some c->c<U.nx:=fun hc=>eU iU hc;refine hQ _ _ r qv' (fun j hj=>?_) (by show W.nx<=X.nx;omega) fk (fun c hc h1 h2=>?_) ?_ ?_ (fun c hc=>⟨(hbk c hc).1,fun h=>?_⟩) (fun c hc=>?_)
  ·rw[bS,if_neg ar,bS,if_neg ar];exact hk j hj
  ·simp only;rw[di,if_neg h1,rA c ar h2];exact sUx.2 c hc
  ·refine eT iU (by show U.nx<=X.nx;omega) fun c hc=>?_;have h1:=(hbk c hc).1;simp only;rw[di,if_neg ar,rA c (lowr hc) (fun e=>by have:=(hbpv e).2;omega)]
  ·refine fY.move (S:=X) (by exact gA) (Ag _) fun c hc=>?_;have:=hbA hc;simp only;rw[di,if_neg ar]
  ·have:=hbA h;have:=lowr hc;omega
  ·have:=hbA hc;omega
def mD(first:ba)(da:bg):ba:=first.map fun r=>((da.idxOf r.toNat:Nat):Int)
def aOT(g:aS)(first:ba)(act:a9)(Z:St)(r:AV):Prop:=∃nv iv jv qv pv,r= .agg [.int .i64 g.bo,nv,iv,jv,qv,pv]/\aE 6 bX Z nv (fQ g first act g.bh.length 0 0 []).bh/\aE 2 bP Z iv ((fQ g first act g.bh.length 0 0 []).da.map fun r:Nat=>cd g (r:Int))/\bI .i64 Z jv (mD first (fQ g first act g.bh.length 0 0 []).da)/\aE 1 iD Z qv act/\bI .i64 Z pv (qD (List.replicate g.bh.length 0) 0 (fQ g first act g.bh.length 0 0 []).olds)
def aOD(g:aS)(first:ba)(act:a9)(S Z:St)(r:AV):Prop:=∀Z',Z.nx<=Z'.nx->(∀c,S.nx<=c->c<Z.nx->Z'.h.get c=Z.h.get c)->aOT g first act Z' r
def aQ0(Y0:St)(ob lb mc mb:Nat)(c0 na ia pl fv:AV)(da:bg)(first:ba)(act:a9)(r4:Nat)(k:Nat)(A:bG)(X:St):Prop:=A.inr=false/\Y0.nx<=X.nx/\(∀c,c<Y0.nx->c≠ob->X.h.get c=Y0.h.get c)/\∃i jv qv cs,i+k=first.length/\X.h.get ob=some (.cells [c0,na,ia,jv,qv,pl] false 0)/\fY 1 Y0 X jv ((mD first da).take i).length (aU ((mD first da).take i))/\fY 1 Y0 X qv i cs/\pO Y0 X qv cs (act.take i)/\(∀c,aZ jv=some c->aZ qv≠some c/\∀r∈cs,aZ r≠some c)/\aD 2 A.F= .ptr lb 0/\aD 4 A.F= .ptr r4 0/\aD 5 A.F= .ptr mc 0/\aD 10 A.F= .ptr ob 0/\aD 29 A.F=fv/\aD 30 A.F= .int .i64 (first.length:Int)/\aD 31 A.F= .int .i64 (i:Int)
theorem qC.nodesM{W:Nat->Prop}{g:aS}{S0 X X':St}{m:LyS}(h:qC W (fun c=>S0.nx<=c) g S0 X m)(hn:X.nx<=X'.nx)(hk:∀c,S0.nx<=c->c<X.nx->X'.h.get c=X.h.get c):qC W (fun c=>S0.nx<=c) g S0 X' m:=
 h.local hn fun c hc _ hp=>hk c (by
  by_cases e:c<S0.nx
  ·exact hp (h.low e)
  ·omega) hc
theorem pO.moveR{S0 X X':St}{pv:AV}{cs:bf}{A:a9}(h:pO S0 X pv cs A)(hn:X.nx<=X'.nx)(hk:∀r∈cs,∀c,aZ r=some c->S0.nx<=c->X'.h.get c=X.h.get c):pO S0 X' pv cs A:=
 ⟨h.1,fun j hj=>by
  have⟨r,h1,h2,h3⟩:=h.2 j hj;exact⟨r,h1,eT h2 hn fun c hc=>hk r (Ar h1) c hc (h3 c hc).1,h3⟩⟩
theorem pO.low{S0 X:St}{pv r:AV}{cs:bf}{A:a9}(h:pO S0 X pv cs A)(hr:r∈cs){c:Nat}(hc:aZ r=some c):c<X.nx:=by
 obtain⟨j,hj,rfl⟩:=Cm hr;have⟨r',h1,h2,_⟩:=h.2 j (by rw[<-h.1];exact hj);rw[Ab hj] at h1;cases h1;exact eU h2 hc
theorem aCw{S:St}{nv iv fv av:AV}{g:aS}{first:ba}{act:a9}{Tr:List dM}(H:Has fns)(G:aJp g)(hR:qA g act)(hFl:first.length=g.bj.length)(hFr:∀s,s<g.bj.length->∃r:Nat,first.getD s 0=(r:Int)/\r<g.bj.length)(hn:aE 6 bX S nv g.bh)(hi:aE 2 bP S iv g.bj)(hf:bI .i64 S fv first)(ha:aE 1 iD S av act)(hT:iN g=some Tr)(hTl:Tr.length=g.bh.length)(hwl:∀i,i<g.bh.length->(b8 g i).weights.length<=100000):
  fZ fns (.fn 97 [] []) [.agg [fv,av],.agg [.int .i64 g.bo,nv,iv]] S fun r Z=>Same S Z/\aOD g first act S Z r:=by
 have Gg:=G.good;have hN:=Gg.n2;have sfv:=bI.self hf;refine cF H.f97 (by simp) ?_;refine am ?_;refine bO ?_;refine cI (by refine am ?_;exact aY _) ?_;intro S1 s1 n1 g1;refine am ?_;refine cI (by refine am ?_;exact aY _) ?_;intro S2 s2 n2 g2;try refine am ?_
 refine cA ?_;intro S0 s3 n3 g3;try refine am ?_
 have s03:=s1.trans (s2.trans s3);have gl0:S0.h.get S.nx=_:=(s3.2 _ ar).trans ((s2.2 _ ar).trans g1);have gg0:S0.h.get S1.nx=_:=(s3.2 _ ar).trans g2;refine bO ?_;refine fN (v:=.map S0.nx) (bl:=.map []) rfl ?_;intro X1 x1 k1 e1;refine am ?_;refine cA ?_;intro X2 x2 k2 e2;try refine am ?_
 refine cQ (b:=X1.nx) (cs':=[.map S0.nx]) (ap) (by simp only[↓aF,aG,rE,↓reduceIte,rA];rfl) e2 rfl rfl ?_;intro X3 x3 k3 e3;try refine am ?_
 have s13:Same X1 X3:=x3.same x2 (Ag _);refine bO ?_;refine cA ?_;intro X4 x4 k4 e4;try refine am ?_
 refine bO ?_;refine cA ?_;intro X5 x5 k5 e5;try refine am ?_
 have s05:Same S0 X5:=x1.trans (s13.trans (x4.trans x5));have gg5:=(s05.2 _ ar).trans gg0;have lg5:=fR gg5;have hnl:=hn.len;have hmk:=fun F id (x:cO) (hx:fP (x.val F)=some g.bh.length)=>lN (t:=3) (s:=1) (bytes:=8) (z:=[AV.int .i64 0]) (l:=x) (c:=x) (F:=F) (id:=id) (n:=g.bh.length) hx hx ax ax;refine bO (ed @aC @aB lg5 hnl ?_);refine fN (hmk _ _ _ (by simp only[↓aF,aG,rE,↓reduceIte,rA,aH])) ?_;intro X6 x6 k6 e6;try refine am ?_
 refine cA ?_;intro X7 x7 k7 e7;try refine am ?_
 refine cQ (b:=X6.nx) (cs':=[.sl X5.nx 0 g.bh.length g.bh.length false]) (ap) (by simp only[↓aF,aG,rE,↓reduceIte,rA];rfl) e7 rfl rfl ?_;intro X8 x8 k8 e8;try refine am ?_
 have s68:Same X6 X8:=x8.same x7 (Ag _);refine bO ?_;refine cA ?_;intro X9 x9 k9 e9;try refine am ?_
 refine bO (dx @aA3 ?_);obtain⟨C,hC⟩:∃C:LC,C=⟨X4.nx,X3.nx,X5.nx,S0.nx,X6.nx,X1.nx,X8.nx,S1.nx,S.nx,.int .i64 g.bo,nv,iv,fv,av⟩:=⟨_,rfl⟩;have hfn:C.fn= .fn 139 [] [.ptr X4.nx 0,.ptr X6.nx 0,.ptr S1.nx 0,.ptr S.nx 0,.ptr X1.nx 0,.ptr X3.nx 0,.ptr X8.nx 0]:=by rw[hC];rfl
 refine cQ (b:=X8.nx) (cs':=[C.fn]) (ap) (by refine am ?_;rw[hfn];rfl) e9 rfl rfl ?_;intro X x10 k10 e10;try refine am ?_
 have s8X:Same X8 X:=x10.same x9 (Ag _);have s6X:=s68.trans s8X;have s5X:=x6.trans s6X;have s0X:=s05.trans s5X;have s3X:Same X3 X:=x4.trans (x5.trans s5X);have hrp:AB.cells (repeatL [AV.int .i64 0] g.bh.length) false 0=AB.cells (aU (List.replicate g.bh.length 0)) false 0:=by rw[qJ]
 have hS:rH C (fun c=>S0.nx<=c) g S0 X ⟨.bw,.bw,[],[]⟩ (List.replicate g.bh.length 0):=by
  have w:∀c,C.W c->S0.nx<=c/\c<X.nx:=fun c hc=>by
   rw[hC] at hc;rcases hc with hc | hc | hc | hc<;>simp only at hc<;>omega
  have p:∀c,¬C.W c->pI C.W ⟨.bw,.bw,[],[]⟩ c:=fun c hc=>⟨hc,fun e=>(by cases e),fun e=>(by cases e),fun a h=>(by cases h)⟩;have nw:∀c,(c=X6.nx\/c=X1.nx\/c=X8.nx)->¬C.W c:=fun c hc hw=>by
   rw[hC] at hw;rcases hw with hw | hw | hw | hw<;>simp only at hw<;>omega
  refine⟨⟨.none,.none,fun a h=>(by cases h),fun i j a b _ h=>(by cases h),fun c h=>(by cases h),fun c h=>(by cases h),w⟩,?_,?_,?_,?_,?_,?_,?_,?_,?_,⟨p _ (nw _ (by rw[hC];exact .inl rfl)),?_⟩,⟨p _ (nw _ (by rw[hC];exact .inr (.inl rfl))),?_⟩,⟨p _ (nw _ (by rw[hC];exact .inr (.inr rfl))),?_⟩,?_,?_,?_,Au,s0X⟩
  all_goals rw[hC]
  all_goals simp only
  ·exact(s5X.2 _ ar).trans e5
  ·exact((x5.trans s5X).2 _ ar).trans e4
  ·rw[<-hrp];exact(s6X.2 _ ar).trans e6
  ·exact⟨[],((s13.trans s3X).2 _ ar).trans e1,fun _=>rfl⟩
  ·exact(s8X.2 _ ar).trans e8
  ·exact(s3X.2 _ ar).trans e3
  ·rw[e10,hC]
  ·exact(s0X.2 _ ar).trans gg0
  ·exact(s0X.2 _ ar).trans gl0
  all_goals first | omega | trace_state
 have lf:=dI (p:=0) e10 rfl;have hsz:([]:List (dP×AV)).length+oC Tr 0<=g.bh.length:=by
  rw[Bq,An,<-hTl];exact(aCV (aBc ay (show fW g.bh.length (eB g) (g.bh.length+1) 0 (-1) 0=some Tr from hT)) (by rw[hTl];exact Gg.n1)).2.1
 refine bO (dx lf ?_);refine bD (am ?_);have e0:C.nv=nv/\C.iv=iv/\C.fv=fv/\C.av=av:=by rw[hC];exact⟨rfl,rfl,rfl,rfl⟩
 have gn0:=aE.same (E:=bX) bL hn s03;have gi0:=aE.same (E:=bP) bK hi s03;have gf0:=hf.same s03;have ga0:=aE.same (E:=iD) cm ha s03;rw[<-e0.1] at gn0;rw[<-e0.2.1] at gi0;rw[<-e0.2.2.1] at gf0;rw[<-e0.2.2.2] at ga0;refine aW (aM3 (first:=first) (act:=act) (Tr:=Tr) (P:=fun c=>S0.nx<=c) H (fun _ h=>h) G hR hFl hFr gn0 gi0 gf0 ga0 hT hTl hwl g.bh.length (old:=0) ar Gg.n1 hsz (Ag _) hS) ?_;rintro _ Y ⟨-,m,l',hY,a1,a2,a3,a4,a5⟩;try refine am ?_
 generalize hB:fQ g first act g.bh.length 0 0 []=B at *;have rall:=fun s hs=>rC (first:=first) Gg hR (s:=s) hs;rw[hB] at rall;have sSY:Same S Y:=⟨by have:=s03.1;have:=hY.s.1;omega,fun c hc=>(hY.s.2 c (au s03.1)).trans (s03.2 c hc)⟩;have gnY:Y.h.get X4.nx=some (.cells [m.na] false 0):=by have:=hY.gn;rw[hC] at this;exact this
 have giY:Y.h.get X3.nx=some (.cells [m.ia] false 0):=by have:=hY.gi;rw[hC] at this;exact this
 have gpY:Y.h.get X6.nx=some (.cells [.sl X5.nx 0 g.bh.length g.bh.length false] false 0):=by have:=hY.gp;rw[hC] at this;exact this
 have ggY:Y.h.get S1.nx=some (.cells [.int .i64 g.bo,nv,iv] false 0):=by have:=hY.gg;rw[hC] at this;exact this
 have glY:Y.h.get S.nx=some (.cells [fv,av] false 0):=by have:=hY.gl;rw[hC] at this;exact this
 have gcY:Y.h.get X1.nx=some (.cells [.map S0.nx] false 0):=by have:=hY.gc;rw[hC] at this;exact this
 have gqY:Y.h.get X5.nx=some (.cells (aU (qD (List.replicate g.bh.length 0) 0 B.olds)) false 0):=by have:=hY.gq;rw[hC] at this;exact this
 have gmY:aD6 encI encI Y.h S0.nx (aEO m.da):=by have:=hY.gm;rw[hC] at this;exact this
 have lq:X5.nx<Y.nx:=by have:=hY.b.wg X5.nx (by rw[hC];exact .inr (.inr (.inl rfl)));exact this.2
 have lmb:S0.nx<Y.nx:=by have:=hY.b.wg S0.nx (by rw[hC];exact .inr (.inr (.inr rfl)));exact this.2
 have lmc:X1.nx<Y.nx:=by have:=hY.kc.2;rw[hC] at this;exact this
 have hbY:=hY.b;have cna:m.na.cells=some [m.na]:=hY.b.nod.cells;have cia:m.ia.cells=some [m.ia]:=hY.b.inf.cells;rw[Cg] at a1;rw[<-a1] at a2;rw[a3] at gmY;obtain⟨na,hna⟩:∃na,na=m.na:=⟨_,rfl⟩;obtain⟨ia,hia⟩:∃ia,ia=m.ia:=⟨_,rfl⟩;rw[<-hna] at gnY cna;rw[<-hia] at giY cia;obtain⟨r4,hr4⟩:∃r4,r4=S2.nx:=⟨_,rfl⟩;have g4Y:Y.h.get r4=some (.cells [.int .i64 0,.bw,.bw,.bw,.bw,.bw] false 0):=by rw[hr4];exact(hY.s.2 _ ar).trans g3
 have l4:r4<Y.nx:=by have:=hY.s.1;omega
 have n4:S.nx<=r4:=by omega
 have hT5:=aD7 (os:=B.olds) (pl:=List.replicate g.bh.length 0) (i:=0);rw[Au] at hT5;simp only[<-hr4];have r4l:r4<S0.nx:=by omega
 clear hS hY a1 a4 a5 lf e10 e9 e8 e7 e6 e5 e4 e3 e2 e1 g1 g2 g3 gn0 gi0 gf0 ga0 hfn s0X s3X s5X s6X;have hB1:∀ (F:Fr) (h:Ev.T AB),aD 22 F= .int .i64 g.bo->aD 23 F=na->aD 24 F=ia->gM (.build [.int .i64 0,.bw,.bw] [(0,1,.t 22),(1,1,.t 23),(2,1,.t 24)]) F h=some (.agg [.int .i64 g.bo,na,ia]):=fun F h h1 h2 h3=>by
  show(bC (eQ _ (eH F [(0,1,.t 22),(1,1,.t 23),(2,1,.t 24)])) fun cs=>some (AV.agg cs))=_;simp only[eH,show(cO.t 22).val F= .int .i64 g.bo from h1,show(cO.t 23).val F=na from h2,show(cO.t 24).val F=ia from h3,eQ,cR,cna,cia,aL];rfl
 have hB2:∀ (F:Fr) (h:Ev.T AB),aD 25 F= .agg [.int .i64 g.bo,na,ia]->aD 26 F= .sl X5.nx 0 g.bh.length g.bh.length false->gM (.build [.int .i64 0,.bw,.bw,.bw,.bw,.bw] [(0,3,.t 25),(5,1,.t 26)]) F h=some (.agg [.int .i64 g.bo,na,ia,.bw,.bw,.sl X5.nx 0 g.bh.length g.bh.length false]):=fun F h h1 h2=>by
  show(bC (eQ _ (eH F [(0,3,.t 25),(5,1,.t 26)])) fun cs=>some (AV.agg cs))=_;simp only[eH,show(cO.t 25).val F= .agg [.int .i64 g.bo,na,ia] from h1,show(cO.t 26).val F= .sl X5.nx 0 g.bh.length g.bh.length false from h2,eQ,aY,aL];rfl
 have ld22:=sR ggY;have ld23:=dI (p:=0) gnY rfl;have ld24:=dI (p:=0) giY rfl;have ld26:=dI (p:=0) gpY rfl;refine bO (ew @aC @aB ld22 ld23 ld24 ld26 hB1 hB2 ?_);refine cA ?_;intro Z1 z1 m1 d1;try refine am ?_
 refine cQ (b:=Y.nx) (cs':=[.int .i64 g.bo,na,ia,.bw,.bw,.sl X5.nx 0 g.bh.length g.bh.length false]) (ap) (by refine am ?_;exact aY _) d1 rfl rfl ?_;intro Y0 z2 m2 d2;try refine am ?_
 have sY0:Same Y Y0:=z2.same z1 (Ag _);obtain⟨ob,hob⟩:∃ob,ob=Y.nx:=⟨_,rfl⟩;rw[<-hob] at d2;simp only[<-hob];have nY0:Y0.nx=ob+1:=by omega
 have glZ:=(sY0.2 _ (au sSY.1)).trans glY;have gcZ:=(sY0.2 _ lmc).trans gcY;have gmZ:=gmY.move (sY0.2 _ lmb);have ld29:=dI (p:=0) glZ rfl;have hfl:=hf.len;have hnumL:(mD first B.da).length=first.length:=by unfold mD;rw[Aj]
 refine aA (aX (Q:=fun o A' W=>o= .normal/\aQ0 Y0 ob S.nx X1.nx S0.nx (.int .i64 g.bo) na ia (.sl X5.nx 0 g.bh.length g.bh.length false) fv B.da first act r4 0 A' W) (aA (aJ ?_)) ?_)
 ·refine dr @aC @aB ld29 hfl @Ah ?_;refine aK (bH (aQ0 Y0 ob S.nx X1.nx S0.nx (.int .i64 g.bo) na ia (.sl X5.nx 0 g.bh.length g.bh.length false) fv B.da first act r4) ?_ first.length _ _ ⟨rfl,Ag _,fun _ _ _=>rfl,0,.bw,.bw,[],ar,d2,.inl ⟨rfl,rfl,rfl⟩,.inl ⟨rfl,rfl,rfl⟩,⟨rfl,fun j hj=>absurd hj (Bm j)⟩,fun c hc=>(by cases hc),af,af,af,af,af,af,ag⟩);rintro k ⟨F,inr⟩ X ⟨q0,nX,kX,i,jv,qv,cs,hik,gX,hj,hq,hRw,hd,p2,p4,p5,p10,p29,p30,p31⟩;simp only at q0 p2 p4 p5 p10 p29 p30 p31;subst q0;refine bO (dn p30 p31 ?_);by_cases hlt:i<first.length;rotate_left
  ·refine aA (aM (by simp only[↓sU,sD,rE,↓reduceIte,rA,Aa (show ¬ (i:Int)<(first.length:Int) by omega)]) (bJ ?_));refine ae ?_;obtain rfl:k=0:=by omega
   exact⟨rfl,nX,kX,i,jv,qv,cs,hik,gX,hj,hq,hRw,hd,by refine⟨?_,?_,?_,?_,?_,?_,?_⟩<;>simp only[↓sU,sD,rE,↓reduceIte,rA,p2,p4,p5,p10,p29,p30,p31]⟩
  refine aA (aN (by simp only[↓sU,sD,rE,↓reduceIte,rA,Ac (show(i:Int)<(first.length:Int) by omega)]) (aI ?_));try refine ae ?_
  have hNI:=Gg.ni;have w1:=dh i
  have sSX:Same S X:=⟨au sSY.1,fun c hc=>(kX c (au sSY.1) (au sSY.1)).trans ((sY0.2 c (au sSY.1)).trans (sSY.2 c hc))⟩;have⟨r,hr,hrl⟩:=hFr i ar;have hrm:=rall i ar;rw[hr,Az] at hrm;have⟨fb,fq,f1,f2,f3⟩:=jB (hf.same sSX) hlt;rw[hr] at f3;have gcX:=(kX _ ar ar).trans gcZ;have glX:=(kX S.nx (au sSY.1) (au sSY.1)).trans glZ;have gmX:=gmZ.move (kX _ ar ar);have lcm:=dI (p:=0) gcX rfl;have hlk:∀F:Fr,aD 38 F= .map S0.nx->aD 39 F= .int .i64 (r:Int)->gM (.lookup (.p .int) (.int .i64 0) false (.t 38) (.t 39)) F X.h=some (.int .i64 ((B.da.idxOf r:Nat):Int)):=fun F a b=>aHv (m:=.t 38) (x:=.t 39) aLs gmX a b (by unfold aEO;rw[if_pos hrm]);have htk:(mD first B.da).take (i+1)=(mD first B.da).take i++ [((B.da.idxOf r:Nat):Int)]:=by
   rw[Bn];unfold mD;rw[Am,Ab hlt];have:first[i]=(r:Int):=by rw[<-hr,Ad,Ab hlt];rfl
   rw[this,Dy,Az];rfl
  have hjl:((mD first B.da).take i).length=i:=by rw[Ca,hnumL];omega
  have he1:=fun(F:Fr) (id:Nat) (h:aD 40 F= .int .i64 ((B.da.idxOf r:Nat):Int))=>nQ (t:=3) (z:=.int .i64 0) (x:=.t 40) (F:=F) (id:=id) (k:=.i64) (n:=((B.da.idxOf r:Nat):Int)) h;refine aA (aK (aA (aJ ?_)));refine dr p29 p31 @aH f1 f3 ?_;refine bO (eu p5 p10 @aC @aB (dC gX) lcm hlk ?_);refine fN (he1 _ _ (ap)) ?_;intro U u1 u2 u3;try refine am ?_
  have⟨jv',V,eA,gA,bA,nA,kA⟩:=fY.push (bytes:=8) (S0:=⟨U.h,Y0.nx⟩) (S:=U) (t:=X.nx) (w:=((B.da.idxOf r:Nat):Int)) (hj.step u1) ⟨by show Y0.nx<=U.nx;omega,fun _ _=>rfl⟩ u3 (by rw[hjl];unfold room;omega) (by rw[hjl];unfold room;omega);rw[<-htk] at gA;refine fI (fun call=>by refine dx @gO ?_;exact eA) ?_;have hcl:jv'.cells=some [jv']:=gA.cells;have lob:ob<X.nx:=by omega
  have jne:aZ jv≠some ob:=fun e=>by have:=(hj.blk e).1;omega
  have gXV:V.h.get ob=some (.cells [.int .i64 g.bo,na,ia,jv,qv,.sl X5.nx 0 g.bh.length g.bh.length false] false 0):=(kA ob ar jne).trans ((u1.2 _ lob).trans gX);refine dz p10 @aC @aB ?_;refine fI (v:=.undef) (S1:=⟨V.h.set ob (some (.cells [.int .i64 g.bo,na,ia,jv',qv,.sl X5.nx 0 g.bh.length g.bh.length false] false 0)),V.nx⟩) (fun call=>by refine dz @dS hcl @aL ?_;exact stc (cs:=[.int .i64 g.bo,na,ia,jv,qv,.sl X5.nx 0 g.bh.length g.bh.length false]) (p:=3) (S:=V) gXV (by simp)) ?_;refine am ?_;obtain⟨X1,hX1⟩:∃X1:St,X1=⟨V.h.set ob (some (.cells [.int .i64 g.bo,na,ia,jv',qv,.sl X5.nx 0 g.bh.length g.bh.length false] false 0)),V.nx⟩:=⟨_,rfl⟩;rw[<-hX1];have nX1:X1.nx=V.nx:=by rw[hX1]
  have nV:=nA;have g1:X1.h.get ob=some (.cells [.int .i64 g.bo,na,ia,jv',qv,.sl X5.nx 0 g.bh.length g.bh.length false] false 0):=by rw[hX1];simp only;rw[di,if_pos rfl]
  have k1:∀c,c<X.nx->c≠ob->aZ jv≠some c->X1.h.get c=X.h.get c:=fun c hc h1 h2=>by
   rw[hX1];simp only;rw[di,if_neg h1,kA c ar h2];exact u1.2 c hc
  have hj1:fY 1 Y0 X1 jv' ((mD first B.da).take (i+1)).length (aU ((mD first B.da).take (i+1))):=fY.move (S:=V) (by exact gA) ar fun c hc=>by
   rw[bA] at hc;cases hc;rw[hX1];simp only;rw[di,if_neg ar]
  have qno:∀ {c},aZ qv=some c->c<X.nx/\c≠ob/\aZ jv≠some c:=fun hc=>⟨(hq.blk hc).2.1,by have:=(hq.blk hc).1;omega,fun e=>(hd _ e).1 hc⟩;have hq1:fY 1 Y0 X1 qv i cs:=hq.move ar fun c hc=>k1 c (qno hc).1 (qno hc).2.1 (qno hc).2.2;have hRw1:pO Y0 X1 qv cs (act.take i):=hRw.moveR ar fun r hr c hc h0=>k1 c (hRw.low hr hc) ar fun e=>(hd c e).2 r hr hc;have sS1:Same S X1:=⟨au sSX.1,fun c hc=>(k1 c (au sSX.1) (au sSY.1) (fun e=>by have:=(hj.blk e).1;have:=sSY.1;omega)).trans (sSX.2 c hc)⟩;have gl1:=(k1 S.nx (au sSY.1) (au sSY.1) (fun e=>by have:=(hj.blk e).1;have:=sSY.1;omega)).trans glX;have hal:i<act.length:=by rw[hR.1];omega
  have⟨rb,rq,ra,r1,r2,r3,r4⟩:=pQ (aE.same (E:=iD) cm ha sS1) hal;have hrlen:=(hR.2 i ar).1;have hacl:(act.getD i []).length<=100000:=by
   rw[hrlen];have⟨f1,_,_⟩:=Gg.fst i ar;have:=Gg.nxt _ f1;unfold cG;rw[pT Gg ar];omega
  refine aNm (S0:=Y0) (ob:=ob) (lb:=S.nx) (br:=rb) (qr:=rq) (i:=i) (n:=i) (qv:=qv) (fv:=fv) (av:=av) (a:=ra) (cs:=cs) (l:=act.getD i []) H rfl (ah p10) (ah p2) (af) g1 gl1 ar (by have:=sS1.1;have:=sSY.1;omega) r1 (r4 X1 (dk _)) r3 r2 hacl (aE.self ha) hq1 ar ar  ?_;intro F' Z rr qv' hk nZ gZ kZ hrr hgZ hbr hbp;have h2':=hk 2 ar;have h4':=hk 4 ar;have h5':=hk 5 ar;have h10':=hk 10 ar;have h29':=hk 29 ar;have h30':=hk 30 ar;have h31':=hk 31 ar;simp only[↓sU,sD,rE,↓reduceIte,rA,p2,p4,p5,p10,p29,p30,p31] at h2' h4' h5' h10' h29' h30' h31';have hRZ:=hRw1.push (Z:=Z) (l:=act.getD i []) ar nZ (fun c h1 h2 h3=>kZ c h1 ar h3) hrr hbr hbp;have hta:act.take (i+1)=act.take i++ [act.getD i []]:=aKm hal;rw[<-hta] at hRZ;have jbk:∀ {c},aZ jv'=some c->c=U.nx:=fun hc=>by rw[bA] at hc;exact(Bp hc).symm
  try refine ae ?_
  refine aJ (dn h31' w1 ?_);refine⟨k - 1,ar,rfl,ar,fun c hc hne=>?_,i+1,jv',qv',_,ar,gZ,?_,hgZ,hRZ,fun c hc=>⟨fun e=>?_,fun r' hr' e=>?_⟩,by refine⟨?_,?_,?_,?_,?_,?_,?_⟩<;>simp only[↓sU,sD,rE,↓reduceIte,rA,h2',h4',h5',h10',h29',h30']⟩
  ·exact(kZ c ar hne (fun e=>by have:=(hq.blk e).1;omega)).trans ((k1 c ar hne (fun e=>by have:=(hj.blk e).1;omega)).trans (kX c hc hne))
  ·exact hj1.move nZ fun c hc=>kZ c (by have:=jbk hc;omega) (by have:=jbk hc;omega) fun e=>by have:=jbk hc;have:=(qno e).1;omega
  ·have:=jbk hc;have:=hbp c e;omega
  ·have:=jbk hc;rcases Cb.1 hr' with h | h
   ·have:=hRw.low h e;omega
   ·rw[Et.1 h] at e;have:=(hbr c e).1;omega
 rintro o ⟨F3,inr⟩ W ⟨rfl,q0,nW,kW,i,jv,qv,cs,hik,gW,hj,hq,hR',hd,r2,r4',r5,r10, -, -, -⟩;simp only at q0 r2 r4' r5 r10;subst q0;obtain rfl:i=first.length:=by omega
 have cW:∀c,c<Y.nx->W.h.get c=Y.h.get c:=fun c hc=>(kW c ar ar).trans (sY0.2 c hc);have lall:=jM (n:=6) gW rfl;have g4W:=(cW _ l4).trans g4Y;refine bO (dz r4' r10 lall ?_);refine cQ (b:=r4) (cs':=[.int .i64 g.bo,na,ia,jv,qv,.sl X5.nx 0 g.bh.length g.bh.length false]) (aq r4') (by refine am ?_;exact aY _) g4W rfl rfl ?_;intro V v1 n1' d4;try refine am ?_
 have ld4:=jM (n:=6) d4 rfl;refine aP (dz r4' @dJ ld4 ?_);refine⟨⟨by have:=sSY.1;have:=v1.1;omega,fun c hc=>(v1.2 c (au sSY.1) ar).trans ((cW c (au sSY.1)).trans (sSY.2 c hc))⟩,fun V2 hn2 hk2=>?_⟩;have hV:∀c,c≠r4->S.nx<=c->c<W.nx->V2.h.get c=W.h.get c:=fun c hc h0 hl=>(hk2 c h0 (Ae hl v1.1)).trans (v1.2 c hl hc);have nV:W.nx<=V2.nx:=Al v1.1 hn2;have l00:=s03.1;have hbV:=hbY.nodesM (X':=V2) ar fun c h0 hc=>(hV c ar ar ar).trans (cW c hc);have hnV:=hbV.bh;have hiV:=hbV.bj;rw[a2,<-hna] at hnV;rw[a3,<-hia] at hiV;rw[Bb (by rw[hnumL];exact Ag _)] at hj;rw[Bb (by rw[hR.1,hFl];exact Ag _)] at hR';have lYS:=sSY.1;have hqV:fY 1 Y0 V2 qv first.length cs:=hq.move nV fun c hc=>hV c (by have:=(hq.blk hc).1;omega) (by have:=(hq.blk hc).1;omega) (hq.blk hc).2.1;have hjV:fY 1 Y0 V2 jv (mD first B.da).length (aU (mD first B.da)):=hj.move nV fun c hc=>hV c (by have:=(hj.blk hc).1;omega) (by have:=(hj.blk hc).1;omega) (hj.blk hc).2.1;have hRV:pO Y0 V2 qv cs act:=hR'.moveR nV fun r hr c hc h0=>hV c ar ar  (hR'.low hr hc);have gqV:=(hV X5.nx ar ar ar).trans ((cW _ lq).trans gqY);refine⟨na,ia,jv,qv,_,rfl,?_,?_,by rw[hB];exact hjV.is,hRV.is hqV (by rw[hR.1,hFl]),?_⟩
 ·rw[hB];exact hnV
 ·rw[hB];exact hiV
 ·rw[hB];refine .inr ⟨X5.nx,0,g.bh.length,false,aU (qD (List.replicate g.bh.length 0) 0 B.olds),by rw[hT5],by rw[hT5];exact Ag _,ar,by unfold cK;rw[gqV];rfl,fun i x hi=>?_⟩;rw[An];unfold aU;rw[Am,hi];rfl
def aE3:AV:=.agg [.int .i64 0,.bw,.bw,.bw,.bw,.bw]
def aOO(g:aS)(L:a9)(Z:St)(r:AV):Prop:=(jH g L≠0/\r= .tup [aE3,.int .i64 (jH g L)])\/(jH g L=0/\∃first,lD g.bj.length (iI g.bj.length (L.map (de g))) first/\((Dup g L first/\r= .tup [aE3,.int .i64 13])\/(¬Dup g L first/\∃act,qE g L first act/\∃v,r= .tup [v,.int .i64 0]/\aOT g first act Z v)))
theorem aF4{g:aS}(h:cT g=0):∀i,i<g.bh.length->(b8 g i).weights.length<=100000:=fun i hi=>by
 have G:=uM h;have hE:iG g.bo g.bj.length (b8 g i)=0:=by
  unfold cT at h;split at h
  ·cases h
  split at h
  ·rename_i h1;exact absurd h h1
  rename_i hN;exact iE (Dd.1 hN) _ (Ar (gI hi))
 rcases G.knd i hi with hk | hk | hk
 ·have:=G.good.wts i hi hk;have:=G.good.nxt i hi;omega
 ·unfold iG at hE;rw[if_neg ar,if_pos hk] at hE;split at hE
  ·cases hE
  ·rename_i hc;unfold wV at hc;omega
 ·unfold iG at hE;rw[if_neg ar,if_neg ar,if_pos hk] at hE;split at hE
  ·cases hE
  ·rename_i hc;unfold oF at hc;omega
theorem zK{g:aS}{L:a9}{first:ba}(hO:lD g.bj.length (iI g.bj.length (L.map (de g))) first):∀s,s<g.bj.length->∃r:Nat,first.getD s 0=(r:Int)/\r<g.bj.length:=fun s hs=>by
 have h1:=hO.le s hs;exact⟨(first.getD s 0).toNat,ar,ar⟩
def dU(g:aS):Nat->Nat
 | 0=>0
 | s+1=>dU g s+cG g s
def kN(g:aS)(p:K2):Nat:=dU g p.1+p.2
def aAR(g:aS)(p:K2):Prop:=p.1<g.bj.length/\p.2<cG g p.1
section
variable {g:aS}{L:a9}{m:ba}{p q:K2}
theorem aJV{s t:Nat}(h:s<=t):dU g s<=dU g t:=by
 induction h with
 | refl=>exact Ag _
 | step _ ih=>exact Al ih (Ba _ _)
theorem vK(h:aAR g p):kN g p<dU g g.bj.length:=by
 have h1:dU g (p.1+1)<=dU g g.bj.length:=aJV h.1;have h2:dU g (p.1+1)=dU g p.1+cG g p.1:=rfl;have:=h.2;unfold kN;omega
theorem aLD(hp:aAR g p)(hq:aAR g q)(e:kN g p=kN g q):p=q:=by
 have⟨s,a⟩:=p;have⟨t,b⟩:=q;have h1:=hp.2;have h2:=hq.2;unfold kN at e;simp only at h1 h2 e;have key:∀ {s t:Nat},s<t->dU g s+cG g s<=dU g t:=fun {s t} h=>aJV (g:=g) (Nat.succ_le_of_lt h);rcases Dl s t with h | rfl | h
 ·have:=key h;omega
 ·rw[show a=b by omega]
 ·have:=key h;omega
theorem aM2:∀ {n x:Nat},x<dU g n->∃s a,s<n/\a<cG g s/\dU g s+a=x
 | 0,x,h=>absurd h (Bm x)
 | n+1,x,h=>by
  have h:x<dU g n+cG g n:=h;by_cases e:x<dU g n
  ·have⟨s,a,h1,h2,h3⟩:=aM2 e;exact⟨s,a,ar,h2,h3⟩
  ·exact⟨n,x - dU g n,Dj _,ar,ar⟩
open Classical in
noncomputable def aFW(g:aS)(x:Nat):K2:=if h:∃p:K2,aAR g p/\kN g p=x then Classical.choose h else(0,0)
theorem aCQ(h:aAR g p):aFW g (kN g p)=p:=by
 have hx:∃q:K2,aAR g q/\kN g q=kN g p:=⟨p,h,rfl⟩;unfold aFW;rw[dif_pos hx];exact aLD (El hx).1 h (El hx).2
theorem aNE{x:Nat}(h:x<dU g g.bj.length):aAR g (aFW g x)/\kN g (aFW g x)=x:=by
 have⟨s,a,h1,h2,h3⟩:=aM2 h;have hx:∃q:K2,aAR g q/\kN g q=x:=⟨(s,a),⟨h1,h2⟩,h3⟩;unfold aFW;rw[dif_pos hx];exact El hx
noncomputable def pmL(g:aS)(m:ba):ba:=(List.range (dU g g.bj.length)).map fun x=>((kN g (aDv g m (aFW g x)):Nat):Int)
theorem aOA{x:Nat}(h:x<dU g g.bj.length):(pmL g m).getD x 0=((kN g (aDv g m (aFW g x)):Nat):Int):=by
 unfold pmL;rw[Ad,Am,Bf h];rfl
theorem aMs(h:aAR g p):(pmL g m).getD (kN g p) 0=((kN g (aDv g m p):Nat):Int):=by
 rw[aOA (vK h),aCQ h]
theorem aHr(G:dE g)(A:eX g m)(h:aAR g p):aAR g (aDv g m p):=by
 have h1:=aAM G A h.1;have⟨e,h2,_⟩:=aAU G A h.1;have h3:=(h2 p.2 h.2).1;exact⟨by show((de g m).getD p.1 0).toNat<_;omega,by show(((df g m).getD p.1 []).getD p.2 0).toNat<cG g ((de g m).getD p.1 0).toNat;omega⟩
theorem aMm(G:dE g)(hL:∀m∈L,eX g m){x y:Nat}(h:tY (iI (dU g g.bj.length) (L.map (pmL g))) x y):iO (ChE g L) (aFW g x) (aFW g y):=by
 induction h with
 | edge e=>
  obtain⟨hx,q,hq,rfl⟩:=e;obtain⟨m,hm,rfl⟩:=Dg.1 hq;have⟨v,_⟩:=aNE hx;rw[aOA hx,Az,aCQ (aHr G (hL m hm) v)];exact .edge ⟨v.1,v.2,m,hm,rfl⟩
 | refl x=>exact .refl _
 | symm _ ih=>exact .symm ih
 | trans _ _ i1 i2=>exact .trans i1 i2
theorem aMe(h:iO (ChE g L) p q):tY (iI (dU g g.bj.length) (L.map (pmL g))) (kN g p) (kN g q):=by
 induction h with
 | edge e=>
  obtain⟨h1,h2,m,hm,rfl⟩:=e;exact .edge ⟨vK ⟨h1,h2⟩,_,Ez hm,by rw[aMs ⟨h1,h2⟩,Az]⟩
 | refl x=>exact .refl _
 | symm _ ih=>exact .symm ih
 | trans _ _ i1 i2=>exact .trans i1 i2
theorem uB(G:dE g)(hL:∀m∈L,eX g m){o:ba}(hO:lD (dU g g.bj.length) (iI (dU g g.bj.length) (L.map (pmL g))) o)(hp:aAR g p)(hq:aAR g q):o.getD (kN g p) 0=o.getD (kN g q) 0↔iO (ChE g L) p q:=by
 constructor
 ·intro e;have h1:=hO.con _ (vK hp);have h2:=hO.con _ (vK hq);rw[e] at h1;have:=aMm G hL (h1.trans (.symm h2))
  rwa [aCQ hp,aCQ hq] at this
 ·intro h;exact aGd (f:=fun x=>o.getD x 0) hO.inv (aMe h)
end
section
variable {S:St}{nv iv av:AV}{g:aS}{a:ba}
theorem aGp(H:Has fns)(hf:cT g=0)(hn:aE 6 bX S nv g.bh)(hi:aE 2 bP S iv g.bj)(ha:bI .i64 S av a)(A:eX g a):
  fZ fns (.fn 25 [] []) [.agg [.int .i64 g.bo,nv,iv],av] S fun r S'=>Same S S'/\∃v,r= .tup [v,.int .i64 0]/\cE v v=true/\∀Z,S'.nx<=Z.nx->(∀c,S.nx<=c->c<S'.nx->Z.h.get c=S'.h.get c)->bI .i64 Z v (de g a):=
 aW (aHq (P:=aJq g a) (ok:=iR g a) H hn hi ha (by have:=(gF hf).n2;omega) (aL4 H hn hi ha)) fun r S' h=>by
  have⟨s,x,y,e,_,p⟩:=h;rw[A.chk hf] at e;have⟨S0,h0,q,_⟩:=p (A.chk hf);have hl:(de g a).length=g.bj.length:=by unfold de;rw[Aj,Ay]
  rw[<-hl] at q;exact⟨s,x,e,q.self,fun Z hn hk=>(q.move hn fun c hc=>hk c (Al h0 (q.blk hc).1) (q.blk hc).2.1).is⟩
theorem aEx(H:Has fns)(hf:cT g=0)(hn:aE 6 bX S nv g.bh)(hi:aE 2 bP S iv g.bj)(ha:bI .i64 S av a)(A:eX g a):
  fZ fns (.fn 26 [] []) [.agg [.int .i64 g.bo,nv,iv],av] S fun r S'=>Same S S'/\∃v,r= .tup [v,.int .i64 0]/\cE v v=true/\∀Z,S'.nx<=Z.nx->(∀c,S.nx<=c->c<S'.nx->Z.h.get c=S'.h.get c)->aE 1 iD Z v (df g a):=
 aW (aES (P:=aJq g a) (ok:=iR g a) H hn hi ha (by have:=(gF hf).n2;omega) (aL4 H hn hi ha)) fun r S' h=>by
  have⟨s,x,y,e,_,p⟩:=h;rw[A.chk hf] at e;have⟨S0,h0,_,cs,bs,q,h4⟩:=p (A.chk hf);have hl:(df g a).length=g.bj.length:=by unfold df;rw[Aj,Ay]
  refine⟨s,_,e,q.self,fun Z hn hk=>?_⟩;have q:=q.move hn fun c hc=>hk c (Al h0 (q.blk hc).1) (q.blk hc).2.1;have h4:=h4.move hn fun j hj=>hk _ (Al h0 (h4.bl j hj).1) (h4.bl j hj).2.1;rcases q with⟨rfl,h0,_⟩ | ⟨b,rfl,_,h2,h3,_⟩
  ·exact .inl ⟨Bu.1 ar,.inl rfl⟩
  ·rw[<-hl];exact h4.is h3 h2 (Ag _)
end
theorem aEX(b:Bool)(l:List cO):dN (.dg b l)=false:=rfl
theorem aOa{ops:List AO}{X:St}{F:Fr}{inr:Bool}{ob n x y:Nat}{out:ba}{Q:Out->bG->St->Prop}(he:ops=aPR++aPt)(p4:aD 4 F= .sl ob 0 n n true)(p17:aD 17 F= .int .i64 (x:Int))(p18:aD 18 F= .int .i64 (y:Int))(hx:x<n)(hy:y<n)(ho:X.h.get ob=some (.cells (aU out) true 1))(hl:out.length=n)(lob:ob<X.nx)
  (hQ:∀F' Z,(∀j,j<117->aD j F'=aD j F)->bT ob X Z->Z.h.get ob=some (.cells (aU ((out.set x (zJ (out.getD x 0) (out.getD y 0))).set y (zJ (out.getD x 0) (out.getD y 0)))) true 1)->Q .normal ⟨F',inr⟩ Z):iM fns (.drw ops) ⟨F,inr⟩ X Q:=by
 have hlen:ops.length=26:=by rw[he];rfl
 have ia:=dR (b:=ob) (o:=true) hx;have ib:=dR (b:=ob) (o:=true) hy;have la:=uI ho (show x<out.length by omega);have lb:=uI ho (show y<out.length by omega);refine aDJ 6291443 (W:=fun _=>False) (K:=23) (R:=fun F' Z ps=>ps= []/\Z.h=X.h/\Z.nx=X.nx+26/\(∀j,j<117->aD j F'=aD j F)/\aD 119 F'= .sl ob 0 n n true/\aD 120 F'= .int .i64 (y:Int)/\aD 129 F'= .int .i64 (zJ (out.getD x 0) (out.getD y 0))/\aD 138 F'= .int .i64 (zJ (out.getD x 0) (out.getD y 0))/\aD 139 F'= .ptr ob x) he rfl rfl rfl (fun X1 x1 hh1 nn1=>?_) ?_
 ·unfold aPR;simp only[↓sU,sD,rE,↓reduceIte,rA,p4,p17,p18,aH,ia,ib,la,lb,lob,Ak,dH,aAd,aEX,Bc,false_implies,Ed,iZ,mQ,aF3];refine⟨hh1,by rw[nn1,hlen],fun j hj=>?_⟩
  repeat rw[if_neg ar]
 rintro F' S' ps hs' ls ⟨rfl,hZ,nZ,hk,p119,p120,p129,p138,p139⟩ hlast hld;unfold aPt;have hoZ:S'.h.get ob=some (.cells (aU out) true 1):=by rw[hZ];exact ho
 refine jZ (v:=.undef) (S1:=⟨S'.h.set ob (some (.cells (aU (out.set x (zJ (out.getD x 0) (out.getD y 0)))) true 1)),S'.nx⟩) hlast (fun call=>?_) ?_
 ·rw[dS];simp only[fE,p139,p129,bF,cR,aL];exact sM (S:=S') hoZ ar
 simp only[lM,eC,qV,aL,lE,bB,fE,bF,eF,bS,p119,p120,aH,ib,rE,↓reduceIte,rA];refine jZ (v:=.undef) (S1:=⟨(S'.h.set ob (some (.cells (aU (out.set x (zJ (out.getD x 0) (out.getD y 0)))) true 1))).set ob (some (.cells (aU ((out.set x (zJ (out.getD x 0) (out.getD y 0))).set y (zJ (out.getD x 0) (out.getD y 0)))) true 1)),S'.nx⟩) (show Nat.testBit 33554431 23=true by decide) (fun call=>?_) ?_
 ·rw[dS];simp only[fE,bS,rE,↓reduceIte,p138,bF,cR,aL];exact sM (S:=⟨S'.h.set ob (some (.cells (aU (out.set x (zJ (out.getD x 0) (out.getD y 0)))) true 1)),S'.nx⟩) fk (by rw[Aq];omega)
 rw[gG];refine⟨?_,?_⟩
 ·simp only[Bz,Cj,Dw,Ck,Cg];exact hld _ _
 ·simp only[bF,eF];refine hQ _ _ (fun j hj=>?_) ⟨by show X.nx<=S'.nx;omega,fun c hc hne=>?_⟩ fk
  ·rw[bS,if_neg ar];exact hk j hj
  ·simp only;rw[di,if_neg hne,di,if_neg hne,hZ]
def oY(ov:AV)(Y X:St):Prop:=Y.nx<=X.nx/\∀c,c<Y.nx->aZ ov≠some c->X.h.get c=Y.h.get c
theorem oY.refl(ov:AV)(Y:St):oY ov Y Y:=⟨Ag _,fun _ _ _=>rfl⟩
theorem oY.trans{ov:AV}{Y X Z:St}(h:oY ov Y X)(h':oY ov X Z):oY ov Y Z:=⟨Al h.1 h'.1,fun c hc hn=>(h'.2 c (Ae hc h.1) hn).trans (h.2 c hc hn)⟩
theorem Same.butO{ov:AV}{Y X:St}(h:Same Y X):oY ov Y X:=⟨h.1,fun c hc _=>h.2 c hc⟩
def pK(g:aS):ba:=(List.range g.bj.length).map fun s=>((dU g s:Nat):Int)
theorem aA8{g:aS}{s:Nat}(h:s<g.bj.length):(pK g).getD s 0=((dU g s:Nat):Int):=by
 unfold pK;rw[Ad,Am,Bf h];rfl
def PaF(ov fv mv nv av:AV)(gb q:Nat)(fl:Bool)(F:Fr):Prop:=aD 1 F=mv/\aD 2 F= .ptr gb 0/\aD 4 F=ov/\aD 5 F=fv/\aD 9 F= .bool fl/\aD 10 F= .int .i64 (q:Int)/\aD 11 F=nv/\aD 13 F=av
def aRk(S Y:St)(g:aS)(L:a9)(ov fv mv nv av:AV)(gb q s:Nat)(out0:ba)(k:Nat)(A:bG)(X:St):Prop:=A.inr=false/\oY ov Y X/\∃ (a:Nat) (out:ba) (fl:Bool),a+k=cG g s/\fY 1 S X ov out.length (aU out)/\aDQ (dU g g.bj.length) (L.map (pmL g)) out0 out fl q (dU g s+a)/\PaF ov fv mv nv av gb q fl A.F/\aD 15 A.F= .int .i64 (s:Int)/\aD 16 A.F= .int .i64 (a:Int)
theorem aOy{α:Type}{f:α->ba}{L:List α}{d:α}{j:Nat}(hj:j<L.length):(L.map f).getD j []=f (L.getD j d):=by
 rw[Ad,Am,Ab hj,Ad,Ab hj];rfl
theorem aPU{S Y X0:St}{g:aS}{L:a9}{m:ba}{ov fv mv nv av:AV}{F0:Fr}{gb q s:Nat}{out0 out1:ba}{fl:Bool}(G:dE g)(hL:∀m∈L,eX g m)(hq:q<L.length)(hm:L.getD q []=m)(hs:s<g.bj.length)(hI:∀Z,oY ov Y Z->bI .i64 Z nv (de g m))(hA:∀Z,oY ov Y Z->aE 1 iD Z av (df g m))(hF:∀Z,oY ov Y Z->bI .i64 Z fv (pK g))(hN:dU g g.bj.length<=1000000)
  (hX:oY ov Y X0) (ho:fY 1 S X0 ov out1.length (aU out1)) (hD:aDQ (dU g g.bj.length) (L.map (pmL g)) out0 out1 fl q (dU g s)) (hP:PaF ov fv mv nv av gb q fl F0) (p15:aD 15 F0= .int .i64 (s:Int)) (p16:aD 16 F0= .int .i64 ((0:Nat):Int)):
  iM fns aQF ⟨F0,false⟩ X0 fun o A' X=>o= .normal/\aRk S Y g L ov fv mv nv av gb q s out0 0 A' X:=by
 refine aK (bH (aRk S Y g L ov fv mv nv av gb q s out0) ?_ (cG g s) _ _ ⟨rfl,hX,0,out1,fl,ar,ho,hD,hP,p15,p16⟩);clear hP p15 p16 hD ho hX;rintro k ⟨F,inr⟩ X ⟨q0,hX,a,out,fl,hak,ho,hD,⟨p1,p2,p4,p5,p9,p10,p11,p13⟩,p15,p16⟩;simp only at q0 p1 p2 p4 p5 p9 p10 p11 p13 p15 p16;subst q0;have hmem:m∈L:=by rw[<-hm,Ad,Ab hq];exact Bo hq
 have AM:=hL m hmem;have hAl:(df g m).length=g.bj.length:=by unfold df;rw[Aj,Ay]
 have hIl:(de g m).length=g.bj.length:=by unfold de;rw[Aj,Ay]
 have hrow:((df g m).getD s []).length=cG g s:=by
  rw[aFI hs,Aj,Ay,qQ G hs]
 have⟨rb,rq,ra,r1,r2,r3,r4⟩:=pQ (hA X hX) (show s<(df g m).length by omega);have r4':=r4 X (dk X);refine fC ?_;simp only[↓sU,sD,rE,↓reduceIte,rA,p13,p15,p16,aH,r1,r4',r2.len,Ah,hrow];by_cases hlt:a<cG g s;rotate_left
 ·refine aM (by simp only[↓sU,sD,rE,↓reduceIte,rA,Aa (show ¬ (a:Int)<((cG g s:Nat):Int) by omega)]) (bJ ?_);refine ae ?_;obtain rfl:k=0:=by omega
  exact⟨rfl,hX,a,out,fl,hak,ho,hD,(by refine⟨?_,?_,?_,?_,?_,?_,?_,?_⟩<;>simp only[↓sU,sD,rE,↓reduceIte,rA,p1,p2,p4,p5,p9,p10,p11,p13]),by refine⟨?_,?_⟩<;>simp only[↓sU,sD,rE,↓reduceIte,rA,p15,p16]⟩
 refine aN (by simp only[↓sU,sD,rE,↓reduceIte,rA,Ac (show(a:Int)<((cG g s:Nat):Int) by omega)]) (aI ?_);try refine ae ?_
 have hV:aAR g (s,a):=⟨hs,hlt⟩;have hVi:=aHr G AM hV;have xlt:=vK hV;have ylt:=vK hVi;have hpm:=aMs (m:=m) hV;have hImg:=aAM G AM hs;obtain⟨t,ht⟩:∃t:Nat,(de g m).getD s 0=(t:Int):=⟨((de g m).getD s 0).toNat,ar⟩;have hk0:=(aAU G AM hs).2.1 a hlt;obtain⟨b,hb⟩:∃b:Nat,((df g m).getD s []).getD a 0=(b:Int):=⟨(((df g m).getD s []).getD a 0).toNat,ar⟩;have hik:aDv g m (s,a)=(t,b):=by unfold aDv;simp only;rw[ht,hb,Az,Az]
 rw[hik] at hVi ylt hpm;have htn:t<g.bj.length:=hVi.1;generalize hx:kN g (s,a)=x at *;generalize hy:kN g (t,b)=y at *;have hx':dU g s+a=x:=hx;have hy':dU g t+b=y:=hy;have⟨f1,f2,f3,f4,f5⟩:=jB (hF X hX) (i:=s) (by unfold pK;rw[Aj,Ay];exact hs);have⟨e1,e2,e3,e4,e5⟩:=jB (hF X hX) (i:=t) (by unfold pK;rw[Aj,Ay];exact htn);have⟨i1,i2,i3,i4,i5⟩:=jB (hI X hX) (i:=s) ar;have⟨u1,u2,u3,u4,u5⟩:=jB r2 (i:=a) ar;rw[aA8 hs] at f5;rw[aA8 htn] at e5;rw[ht] at i5;rw[hb] at u5;have w1:=dh a
 have w2:IntKind.i64.wrap (((dU g s:Nat):Int)+(a:Int))=(x:Int):=by rw[wrap_i64 ar ar];omega
 have w3:IntKind.i64.wrap (((dU g t:Nat):Int)+(b:Int))=(y:Int):=by rw[wrap_i64 ar ar];omega
 have sra:=bI.self r2;refine aA (aK (aA (gD ?_)));simp only[↓sU,sD,rE,↓reduceIte,rA,p5,p11,p13,p15,p16,aH,f3,f5,i3,i5,e3,e5,r1,r4',sra,u3,u5,dH,w2,w3];have hUp:=hD.1;have hol':=hUp.len;rcases ho with⟨_,h0,_⟩ | ⟨ob,hov,b0,b1,b2,b3⟩
 ·omega
 have p4':aD 4 F= .sl ob 0 (dU g g.bj.length) (dU g g.bj.length) true:=by rw[p4,hov,hol']
 have ia:=dR (b:=ob) (o:=true) xlt;have la:=uI b2 (show x<out.length by omega);have ib:=dR (b:=ob) (o:=true) ylt;have lb:=uI b2 (show y<out.length by omega);have hc:tY (iI (dU g g.bj.length) (L.map (pmL g))) x y:=.edge ⟨xlt,_,Ez hmem,by rw[hpm];rfl⟩;have hedge:=fun hne=>aJL hUp xlt ylt hc hne;have hLq:(L.map (pmL g)).getD q []=pmL g m:=by rw[aOy (d:=[]) hq,hm]
 have hbo:aZ ov=some ob:=by rw[hov];rfl
 refine aA (gD ?_);refine du p4' @aH ia la ib lb @dH ?_;generalize ea:out.getD x 0=xv at *;generalize eb:out.getD y 0=yv at *;by_cases hne:xv=yv
 ·subst hne;refine aM (by simp only[↓sU,sD,rE,↓reduceIte,rA,Aa (show ¬xv≠xv from fun h=>h rfl)]) (aI ?_);try refine ae ?_
  refine aJ (dn p16 w1 ?_);refine⟨k - 1,ar,rfl,hX.trans ⟨Al (Ba _ _) (Ba _ _),fun _ _ _=>rfl⟩,a+1,out,fl,ar,.inr ⟨ob,hov,b0,Ae b1 (Al (Ba _ _) (Ba _ _)),b2,b3⟩,⟨hUp,?_⟩,(by refine⟨?_,?_,?_,?_,?_,?_,?_,?_⟩<;>simp only[↓sU,sD,rE,↓reduceIte,rA,p1,p2,p4,p5,p9,p10,p11,p13]),by refine⟨?_,?_⟩<;>simp only[↓sU,sD,rE,↓reduceIte,rA,p15]⟩;rcases hD.2 with h | ⟨h1,h2,h3⟩
  ·exact .inl h
  ·refine .inr ⟨h1,h2,fun q' x' hx1 hc'=>?_⟩;by_cases e:q'=q/\x'=x
   ·obtain⟨rfl,rfl⟩:=e;rw[hLq,hpm,Az,<-h2,ea,eb]
   ·exact h3 q' x' hx1 ar
 ·have⟨u1,u2⟩:=hedge hne;refine aN (by simp only[↓sU,sD,rE,↓reduceIte,rA,Ac (show xv≠yv from hne)]) ?_;refine aA (aOa (ob:=ob) (n:=dU g g.bj.length) (x:=x) (y:=y) (out:=out) rfl (ah p4') (af) (af) xlt ylt b2 hol' (Ae b1 (Al (Ba _ _) (Ba _ _))) ?_);intro F' Z hk hZ gZ;rw[ea,eb] at gZ;have g1:=hk 1 ar;have g2:=hk 2 ar;have g4:=hk 4 ar;have g5:=hk 5 ar;have g10:=hk 10 ar;have g11:=hk 11 ar;have g13:=hk 13 ar;have g15:=hk 15 ar;have g16:=hk 16 ar;simp only[↓sU,sD,rE,↓reduceIte,rA,p1,p2,p4,p5,p10,p11,p13,p15,p16] at g1 g2 g4 g5 g10 g11 g13 g15 g16;try refine ae ?_
  refine aJ (ae ?_);refine aJ (dn g16 w1 ?_);have hXZ:oY ov X Z:=⟨Al (Al (Ba _ _) (Ba _ _)) hZ.1,fun c hc hn=>hZ.2 c (Ae hc (Al (Ba _ _) (Ba _ _))) fun e=>hn (by rw[e];exact hbo)⟩;refine⟨k - 1,ar,rfl,hX.trans hXZ,a+1,_,true,ar,.inr ⟨ob,by rw[hov,Aq,Aq],b0,Ae b1 hXZ.1,gZ,by rw[nF,Cr]⟩,⟨u1,.inl ⟨rfl,?_⟩⟩,(by refine⟨?_,?_,?_,?_,?_,?_,?_,?_⟩<;>simp only[↓sU,sD,rE,↓reduceIte,rA,g1,g2,g4,g5,g10,g11,g13]),by refine⟨?_,?_⟩<;>simp only[↓sU,sD,rE,↓reduceIte,rA,g15]⟩;rcases hD.2 with h | ⟨h1,h2,h3⟩
  ·omega
  ·rw[<-h2];exact u2
end Go.Ev.Gl
