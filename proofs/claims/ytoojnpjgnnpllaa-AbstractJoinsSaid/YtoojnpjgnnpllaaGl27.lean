import Derived.Test.YtoojnpjgnnpllaaGl26
open Nat renaming reduceEqDiff → rE, reduceAdd → rA
set_option maxHeartbeats 16000000
set_option linter.unusedSimpArgs false
set_option linter.unusedVariables false
namespace Go.Ev.Gl
variable {fns:T eG}
def HdK(C:LC)(P:Nat→Prop)(g:aR)(S0 Xe:St)(m:LyS)(pl first:List Int)(act:List (List Int))(old xb:Nat)(xa xw xp v12:AV)(o:Out)(A:bH)(Z:St):Prop:=o= .normal∧A.inr=false∧∃m',pQ C (fun c=>c≠xb∧P c) g S0 Z m' pl∧m'.l=m.l∧m'.reps=(eX first m.reps (nodeAt g old)).1∧fY C.W m Xe m' Z∧Z.h.get xb=some (.cells [.int .i64 (nodeAt g old).kind,.int .i64 (nodeAt g old).player,.int .i64 (eX first m.reps (nodeAt g old)).2,xa,xw,xp] false 0)∧oK C.W m' xb∧xb<Z.nx∧bK .i64 Z v12 (eJ act (nodeAt g old))∧(∀c,bD v12=some c→oK C.W m' c∧c≠xb)∧LyT C A.F∧aB 10 A.F= .int .i64 ((m.l.length:Nat):Int)∧aB 11 A.F= .ptr xb 0∧aB 12 A.F=v12
def tR(first:List Int)(reps:List Nat)(x:dG)(ks:List Int):dG:={x with info:=(eX first reps x).2,next:=ks}
def aMC(C:LC)(P:Nat→Prop)(g:aR)(S0 Xe:St)(m:LyS)(pl first:List Int)(act:List (List Int))(f old:Nat)(v12:AV)(k:Nat)(A:bH)(Z:St):Prop:=A.inr=false∧∃j,j+k=(eJ act (nodeAt g old)).length∧∃m' v l2,pQ C P g S0 Z m' (oG pl m.l.length (old::(eK (fB g first act f) ((eJ act (nodeAt g old)).take j) (m.l.length+1) (eX first m.reps (nodeAt g old)).1).2.olds))∧m'.l=m.l++((tR first m.reps (nodeAt g old) (eK (fB g first act f) ((eJ act (nodeAt g old)).take j) (m.l.length+1) (eX first m.reps (nodeAt g old)).1).1,v)::l2)∧l2.map (·.1)=(eK (fB g first act f) ((eJ act (nodeAt g old)).take j) (m.l.length+1) (eX first m.reps (nodeAt g old)).1).2.nodes∧m'.reps=(eK (fB g first act f) ((eJ act (nodeAt g old)).take j) (m.l.length+1) (eX first m.reps (nodeAt g old)).1).2.reps∧m'.reps.length≤m'.l.length∧fY C.W m Xe m' Z∧bK .i64 Z v12 (eJ act (nodeAt g old))∧(∀c,bD v12=some c→oK C.W m' c)∧LyT C A.F∧aB 10 A.F= .int .i64 ((m.l.length:Nat):Int)∧aB 101 A.F=v12∧aB 102 A.F= .int .i64 (((eJ act (nodeAt g old)).length:Nat):Int)∧aB 103 A.F= .int .i64 (j:Int)
theorem aFW{reps:List Nat}{r:Nat}:(lC reps r).1.length≤reps.length+1:=by
 unfold lC;split
 ·exact Nat.le_succ _
 ·rw[Am];exact Ah _
theorem aA4{first:List Int}{reps:List Nat}{x:dG}:(eX first reps x).1.length≤reps.length+1:=by
 unfold eX;split
 ·exact aFW
 ·exact Nat.le_succ _
theorem aEf{l:List Nat}{j:Nat}(h:j<l.length):(l.take j).sum+l.getD j 0≤l.sum:=by
 have e:=List.sum_append_nat (l₁:=l.take j) (l₂:=l.drop j);rw[List.take_append_drop] at e;rw[e,Bt h,Dr,Ad,Ab h];simp only[Cy];omega
theorem aKE{C:LC}{P:Nat→Prop}{g:aR}{S0:St}{first:List Int}{act:List (List Int)}{Tr:List dH}(H:Has fns)(hP:∀c,S0.nx≤c→P c)(G:aIx g)(hR:rM g act)(hFl:first.length=g.infos.length)(hFr:∀s,s<g.infos.length→∃r:Nat,first.getD s 0=(r:Int)∧r<g.infos.length)(hn:aH 6 bP S0 C.nv g.nodes)(hi:aH 2 cA S0 C.iv g.infos)(hf:bK .i64 S0 C.fv first)(ha:aH 1 iX S0 C.av act)(hT:gS g=some Tr)(hTl:Tr.length=g.nodes.length)(hwl:∀i,i<g.nodes.length→(nodeAt g i).weights.length≤100000):
  ∀ (f:Nat) {X:St} {m:LyS} {pl:List Int} {old:Nat},g.nodes.length≤f+old→old<g.nodes.length→m.l.length+mS Tr old≤g.nodes.length→m.reps.length≤m.l.length→pQ C P g S0 X m pl→
  gH fns C.fn [.int .i64 (old:Int)] X fun r Z=>r= .int .i64 ((m.l.length:Nat):Int)∧∃m' l',pQ C P g S0 Z m' (oG pl m.l.length (fB g first act f old m.l.length m.reps).olds)∧m'.l=m.l++l'∧l'.map (·.1)=(fB g first act f old m.l.length m.reps).nodes∧m'.reps=(fB g first act f old m.l.length m.reps).reps∧m'.reps.length≤m'.l.length∧fY C.W m X m' Z:=by
 have Gg:=G.good;have hN:=Gg.n2;intro f
 induction f with
 | zero=>intro X m pl old h1 h2;omega
 | succ f ih=>
  intro X m pl old hfu hold hsz hrl hS;have hks:=aB6 hT hTl hold;show gH fns (.fn 139 [] [.ptr C.nc 0,.ptr C.pc 0,.ptr C.gb 0,.ptr C.lb 0,.ptr C.mc 0,.ptr C.ic 0,.ptr C.fc 0]) _ _ _;refine cI H.f139 (by simp) ?_;simp only[↓sU,sD,rE,↓reduceIte,rA];refine bQ ?_;simp only[↓sU,sD,rE,↓reduceIte,rA];have ln:=eE (p:=0) hS.gn rfl;have lp:=eE (p:=0) hS.gp rfl;have hnl:=hS.b.nod.len;refine bQ ?_;simp only[↓sU,sD,rE,↓reduceIte,rA,ln,hnl];have hpl:=hS.pll;have hia:=dT (b:=C.qb) (o:=false) hold;refine bQ ?_;simp only[↓sU,sD,rE,↓reduceIte,rA,lp,aG,hia];refine fJ (fun call=>by simp only[↓sU,sD,rE,↓reduceIte,rA,dN,cO];exact qL (S:=X) hS.gq (by omega)) ?_;simp only[↓sU,sD,rE,↓reduceIte,rA];obtain⟨d1,d2,d3,d4,d5,d6⟩:=hS.n1;obtain⟨X1,hX1⟩:∃X1:St,X1=⟨X.h.set C.qb (some (.cells (aP (pl.set old ((m.l.length:Nat):Int))) false 0)),X.nx⟩:=⟨_,rfl⟩;have n1:X1.nx=X.nx:=by rw[hX1]
  have k1:∀c,c≠C.qb→X1.h.get c=X.h.get c:=fun c hc=>by rw[hX1];simp only;rw[T.get_set,if_neg hc]
  rw[←hX1];have K1:fY C.W m X m X1:=.off (Et n1.symm) fun c _ hp=>k1 c fun e=>hp.1 (by rw[e];exact LC.wq);have hS1:pQ C P g S0 X1 m (pl.set old ((m.l.length:Nat):Int)):=hS.next (hS.b.local (Et n1.symm) fun c _ hw _=>k1 c fun e=>hw (by rw[e];exact LC.wq)) K1 (by rw[Ap]) ((k1 _ d2).trans hS.gn) ((k1 _ d4).trans hS.gi) (by rw[hX1];simp only;rw[T.get_set,if_pos rfl]) (hS.gm.move (k1 _ (Bq d6)));have s01:=hS1.s;obtain⟨_,bx,qx,hiax,hbx,_,⟨xa,xw,xp,rfl,hxa,hxw,hxp⟩,hldx,_⟩:=aH.at hn (by decide) (eR hold);rw[←jJ s01 hbx] at hldx;have lg1:=eE (p:=1) hS1.gg rfl;refine bQ ?_;simp only[↓aF,aE,rE,↓reduceIte,rA,aC,aD,Ao,lg1,aG,hiax,hldx];refine cH ?_;intro X2 x2 n2 g2;try simp only[↓aF,aE,rE,↓reduceIte,rA]
  refine dB (b:=X1.nx) (cs':=[.int .i64 (nodeAt g old).kind,.int .i64 (nodeAt g old).player,.int .i64 (nodeAt g old).info,xa,xw,xp]) (by simp only[↓aF,aE,rE,↓reduceIte,rA]) (by simp only[↓aF,aE,rE,↓reduceIte,rA];exact bB _) g2 rfl rfl ?_;intro X3 x3 n3 g3;simp only[↓aF,aE,rE,↓reduceIte,rA];have s13:Same X1 X3:=x3.same x2 (Ah _);obtain⟨xb,hxb⟩:∃xb,xb=X1.nx:=⟨_,rfl⟩;rw[←hxb] at g3;simp only[←hxb];have hS3:pQ C (fun c=>c≠xb∧P c) g S0 X3 m (pl.set old ((m.l.length:Nat):Int)):=(hS1.mono (P':=fun c=>c≠xb∧P c) fun c hc hp=>⟨by omega,hp⟩).same s13;have pxb:oK C.W m xb:=hS1.b.fresh (Et hxb.symm);have nxc:xb≠C.pc∧xb≠C.mc∧xb≠C.fc:=by
   have a:=hS1.kp.2;have b:=hS1.kc.2;have c:=hS1.kf.2;omega
  have s0b:S0.nx≤xb:=by rw[hxb];exact s01.1
  have lxb:xb<X3.nx:=by omega
  have hlk:=hxa.same hS3.s;have lx3:=cT g3;refine bQ ?_;simp only[↓aF,aE,rE,↓reduceIte,rA,aC,aD,lx3];refine bG ?_;simp only[↓aF,aE,rE,↓reduceIte,rA];have hnx:=Gg.nxt old hold;refine aX (nT H hlk (by omega)) ?_;rintro v12 X4 ⟨s4,i4,b4,g4⟩;try simp only[↓aF,aE,rE,↓reduceIte,rA]
  have hS4:=hS3.same s4;have g34:=(s4.2 _ lxb).trans g3;have K13:fY C.W m X m X3:=K1.trans (.same s13);refine aA (aY (Q:=HdK C P g S0 X m (pl.set old ((m.l.length:Nat):Int)) first act old xb xa xw xp v12) (aA (aJ ?_)) ?_)
  ·simp only[↓sU,sD,rE,↓reduceIte,rA,aC,aD,eC g34];by_cases hk:(nodeAt g old).kind=2
   ·refine aO (by simp only[↓sU,sD,rE,↓reduceIte,rA,Ac hk]) ?_;obtain⟨a1,a2,a3⟩:=aCx Gg hold hk;obtain⟨r1,r2,r3⟩:=hR.2 _ a1;have hne:(nodeAt g old).next≠ []:=fun e=>by
     have:=(G.mov old hold hk).1;rw[e] at this;exact absurd this (by decide)
    rcases g4 hne with⟨_,e,_⟩ | ⟨cb,rfl,c1,c2,c3,_⟩
    ·exact absurd (Bw.1 e) hne
    ·refine aY (aNs (P:=fun c=>c≠xb∧P c) (Xe:=X) (s:=(nodeAt g old).info.toNat) (act:=act) (first:=first) (x10:=.int .i64 ((m.l.length:Nat):Int)) (xb:=xb) (cb:=cb) (k:=.int .i64 (nodeAt g old).kind) (p:=.int .i64 (nodeAt g old).player) (xa:=xa) (xw:=xw) (xp:=xp) hS3 (fun h=>h.1 rfl) K13 (by omega) s4 c1 c2 s0b lxb pxb nxc ha hf hi hxa (by omega) (by rw[hR.1];exact a1) (by rw[hFl];exact a1) (by rw[r1];exact a2) (by rw[←a2];exact r2) (hFr _ a1) (by omega) (by rw[a3];exact g3) c3 (by refine⟨?_,?_,?_,?_,?_,?_,?_⟩<;>simp only[↓sU,sD,rE,↓reduceIte,rA]) (by simp only[↓sU,sD,rE,↓reduceIte,rA]) (by simp only[↓sU,sD,rE,↓reduceIte,rA]) (by simp only[↓sU,sD,rE,↓reduceIte,rA])) ?_;rintro o A' Z ⟨h1,h2,m',h3,h4,h5,h6,h7,h8,hlt,h9,h10,h11,h12,h13,h14⟩;have eh:eX first m.reps (nodeAt g old)=((lC m.reps (first.getD (nodeAt g old).info.toNat 0).toNat).1,((lC m.reps (first.getD (nodeAt g old).info.toNat 0).toNat).2:Int)):=by unfold eX;rw[if_pos hk]
     have eo:eJ act (nodeAt g old)=oE (act.getD (nodeAt g old).info.toNat []) (nodeAt g old).next (nodeAt g old).next.length:=by unfold eJ;rw[if_pos hk]
     exact⟨h1,h2,m',h3,h4,by rw[eh];exact h5,h6,by rw[eh];exact h7,h8,hlt,by rw[eo];exact h9,h10,h11,h12,h13,h14⟩
   ·refine aN (by simp only[↓sU,sD,rE,↓reduceIte,rA,Aa hk]) (aI ?_);have eh:eX first m.reps (nodeAt g old)=(m.reps,(nodeAt g old).info):=by unfold eX;rw[if_neg hk]
    have eo:eJ act (nodeAt g old)=(nodeAt g old).next:=by unfold eJ;rw[if_neg hk]
    exact⟨rfl,rfl,m,hS4,rfl,by rw[eh],K13.trans (.same s4),by rw[eh];exact g34,pxb,Ae lxb s4.1,by rw[eo];exact i4,fun c hc=>⟨hS3.b.fresh (b4 c hc),by have:=b4 c hc;omega⟩,(by refine⟨?_,?_,?_,?_,?_,?_,?_⟩<;>simp only[↓sU,sD,rE,↓reduceIte,rA]),by refine⟨?_,?_,?_⟩<;>simp only[↓sU,sD,rE,↓reduceIte,rA]⟩
  clear ln lp lg1 hldx g2 g3 g34 lx3 i4 b4 g4 hS3 hS4;rintro o ⟨F1,inr⟩ Z ⟨rfl,q0,m1,hZ,el,er,KZ,gxZ,pxZ,lxZ,iv12,bv12,hT1,p10,p11,p12⟩;simp only at q0 hT1 p10 p11 p12;subst q0;try simp only[↓sU,sD,rE,↓reduceIte,rA]
  refine aA (aL9 H rfl p11 gxZ lxZ (hxw.same hZ.s) (hxp.same hZ.s) (hwl old hold) (by have:=Gg.pay old hold;omega) ?_);intro F2 Z2 rw' rp hk2 sb2 gx2 iw ip hb2;have hZ2:=hZ.but pxZ (fun h=>h.1 rfl) ⟨nxc.1,nxc.2.1,nxc.2.2,s0b⟩ sb2;have K2:fY C.W m X m1 Z2:=⟨Ak KZ.1 sb2.1,fun c hc hp=>⟨(sb2.2 c (Ae hc KZ.1) (by omega)).trans (KZ.2 c hc hp).1,(KZ.2 c hc hp).2⟩⟩;obtain⟨t1,t2,t3,t4,t5,t6,t7⟩:=hT1;have q1:=(hk2 1 (by omega)).trans t1;have q2:=(hk2 2 (by omega)).trans t2;have q3:=(hk2 3 (by omega)).trans t3;have q4:=(hk2 4 (by omega)).trans t4;have q5:=(hk2 5 (by omega)).trans t5;have q6:=(hk2 6 (by omega)).trans t6;have q7:=(hk2 7 (by omega)).trans t7;have q10:=(hk2 10 (by omega)).trans p10;have q11:=(hk2 11 (by omega)).trans p11;have q12:=(hk2 12 (by omega)).trans p12;try simp only[↓sU,sD,rE,↓reduceIte,rA]
  have lna:=eE (p:=0) hZ2.gn rfl;have lxx:=iA (n:=6) gx2 rfl;refine bQ ?_;simp only[↓aF,aE,rE,↓reduceIte,rA,q1,q11,lna,lxx];refine gM (aKS (by simp only[↓aF,aE,rE,↓reduceIte,rA];try rfl)) ?_;intro U u1 u2 u3;have hZU:=hZ2.same u1;obtain⟨v',V,eA,aV,nV,kV,bV⟩:=hZU.b.nod.push (bytes:=96) (x:=.sl Z2.nx 0 1 1 false) (a:=(tR first m.reps (nodeAt g old) [],AV.nilsl)) (by decide) hZU.s.1 rfl (aLt u3 rfl) rfl ⟨rw',rp,rfl,.inl ⟨rfl,rfl,rfl⟩,iw.same u1,ip.same u1,fun c hc=>by
   have:=hb2 c hc;exact⟨hZ.b.fresh this,by omega,hP c (by have:=hZ.s.1;omega)⟩⟩ (by have:=hsz;rw[el];unfold room;omega) (by have:=hsz;rw[el];unfold room;omega)
  obtain⟨kP,kM⟩:=hZU.b.pushN nV kV bV aV;refine fJ (fun call=>by simp only[↓aF,aE,rE,↓reduceIte,rA,iG];exact eA) ?_;try simp only[↓aF,aE,rE,↓reduceIte,rA]
  have wg:=hZU.b.wg;have gnV:=(kV _ (wg _ LC.wn).2 fun e=>(hZU.b.d1 _ e).1 LC.wn).trans hZU.gn;have hcl:v'.cells=some [v']:=aV.cells;refine fJ (v:=.undef) (S1:=⟨V.h.set C.nc (some (.cells [v'] false 0)),V.nx⟩) (fun call=>by simp only[↓aF,aE,rE,↓reduceIte,rA,dN,q1,hcl,aK];exact stc (cs:=[m1.na]) (p:=0) (S:=V) gnV (by simp)) ?_;simp only[↓aF,aE,rE,↓reduceIte,rA];obtain⟨Y,hY⟩:∃Y:St,Y=⟨V.h.set C.nc (some (.cells [v'] false 0)),V.nx⟩:=⟨_,rfl⟩;rw[←hY];have nY:Y.nx=V.nx:=by rw[hY]
  have kY:∀c,c≠C.nc→Y.h.get c=V.h.get c:=fun c hc=>by rw[hY];simp only;rw[T.get_set,if_neg hc]
  have KY:fY C.W {m1 with na:=v',l:=m1.l++ [(tR first m.reps (nodeAt g old) [],AV.nilsl)]} V {m1 with na:=v',l:=m1.l++ [(tR first m.reps (nodeAt g old) [],AV.nilsl)]} Y:=.off (Et nY.symm) fun c _ hp=>kY c fun e=>hp.1 (by rw[e];exact LC.wn);have KUY:=kM.trans KY;have kw:∀c,C.W c→c≠C.nc→Y.h.get c=U.h.get c:=fun c hw hne=>(kY c hne).trans (kV c (wg c hw).2 fun e=>(hZU.b.d1 _ e).1 hw);have hbY:oV C.W P g S0 Y {m1 with na:=v',l:=m1.l++ [(tR first m.reps (nodeAt g old) [],AV.nilsl)]}:=(kP.local (Et nY.symm) fun c _ hw _=>kY c fun e=>hw (by rw[e];exact LC.wn)).mono fun _ _ h=>h.2;have hSY:pQ C P g S0 Y {m1 with na:=v',l:=m1.l++ [(tR first m.reps (nodeAt g old) [],AV.nilsl)]} (pl.set old ((m.l.length:Nat):Int)):=(hZU.mono (P':=P) fun _ _ h=>h.2).next hbY KUY rfl (by rw[hY];simp only;rw[T.get_set,if_pos rfl]) ((kw _ LC.wi (Bq d1)).trans hZU.gi) ((kw _ LC.wq (Bq d2)).trans hZU.gq) (hZU.gm.move (kw _ LC.wm (Bq d3)));have lU:∀c,bD v12=some c→c<Z.nx:=fun c hc=>fE iv12 hc;have KXY:fY C.W m X {m1 with na:=v',l:=m1.l++ [(tR first m.reps (nodeAt g old) [],AV.nilsl)]} Y:=K2.trans ((fY.same u1).trans KUY);have v12Y:bK .i64 Y v12 (eJ act (nodeAt g old))∧∀c,bD v12=some c→oK C.W {m1 with na:=v',l:=m1.l++ [(tR first m.reps (nodeAt g old) [],AV.nilsl)]} c:=by
   have h1:∀c,bD v12=some c→c<U.nx∧oK C.W m1 c∧U.h.get c=Z.h.get c:=fun c hc=>by
    have a:=lU c hc;have b:=sb2.1;have e:=u1.1;exact⟨by omega,(bv12 c hc).1,(u1.2 c (by omega)).trans (sb2.2 c a (bv12 c hc).2)⟩
   refine⟨eO iv12 (by have:=sb2.1;have:=u1.1;have:=KUY.1;omega) fun c hc=>?_,fun c hc=>?_⟩
   ·obtain⟨a,b,e⟩:=h1 c hc;exact(KUY.2 c a b).1.trans e
   ·obtain⟨a,b,e⟩:=h1 c hc;exact(KUY.2 c a b).2
  have hrl1:=aA4 (first:=first) (reps:=m.reps) (x:=nodeAt g old);have hol:(eJ act (nodeAt g old)).length=(nodeAt g old).next.length:=(iR Gg hR hold).length_eq;have v12l:=v12Y.1.len;refine aA (aY (Q:=fun o A' W=>o= .normal∧aMC C P g S0 X m pl first act f old v12 0 A' W) (aA (aJ ?_)) ?_)
  ·simp only[↓sU,sD,rE,↓reduceIte,rA,q12,v12l,Ag];refine aL (bL (aMC C P g S0 X m pl first act f old v12) ?_ (eJ act (nodeAt g old)).length _ _ ⟨rfl,0,by omega,_,AV.nilsl,[],hSY,by rw[Er,←el];rfl,by rw[Er];rfl,by rw[Er];exact er,by show m1.reps.length≤(m1.l++ [_]).length;rw[er,el,Am,Bi];omega,KXY,v12Y.1,v12Y.2,(by refine⟨?_,?_,?_,?_,?_,?_,?_⟩<;>simp only[↓sU,sD,rE,↓reduceIte,rA,q1,q2,q3,q4,q5,q6,q7]),by simp only[↓sU,sD,rE,↓reduceIte,rA,q10],by simp only[↓sU,sD,rE,↓reduceIte,rA],by simp only[↓sU,sD,rE,↓reduceIte,rA],by simp only[↓sU,sD,rE,↓reduceIte,rA];try rfl⟩);clear hS hS1 K1 K13 hZ KZ hZ2 K2 kP kM hbY hSY KXY v12Y KUY hZU gnV KY eA aV nV kV bV;rintro k ⟨F,inr⟩ W ⟨q0,j,hjk,m',v,l2,hW,e1,e2,e3,e4,e5,e6,e7,⟨t1,t2,t3,t4,t5,t6,t7⟩,r10,r101,r102,r103⟩;simp only at q0 t1 t2 t3 t4 t5 t6 t7 r10 r101 r102 r103;subst q0;refine bQ ?_;simp only[↓sU,sD,rE,↓reduceIte,rA,r102,r103];by_cases hlt:j<(eJ act (nodeAt g old)).length;rotate_left
   ·refine aA (aN (by simp only[↓sU,sD,rE,↓reduceIte,rA,Aa (show ¬ (j:Int)<(((eJ act (nodeAt g old)).length:Nat):Int) by omega)]) (bM ?_));simp only[↓sU,sD,rE,↓reduceIte,rA];obtain rfl:k=0:=by omega
    exact⟨rfl,j,hjk,m',v,l2,hW,e1,e2,e3,e4,e5,e6,e7,(by refine⟨?_,?_,?_,?_,?_,?_,?_⟩<;>simp only[↓sU,sD,rE,↓reduceIte,rA,t1,t2,t3,t4,t5,t6,t7]),by refine⟨?_,?_,?_,?_⟩<;>simp only[↓sU,sD,rE,↓reduceIte,rA,r10,r101,r102,r103]⟩
   refine aA (aO (by simp only[↓sU,sD,rE,↓reduceIte,rA,Ac (show(j:Int)<(((eJ act (nodeAt g old)).length:Nat):Int) by omega)]) (aI ?_));try simp only[↓sU,sD,rE,↓reduceIte,rA]
   have w1:IntKind.i64.wrap ((j:Int)+1)=((j+1:Nat):Int):=by rw[wrap_i64 (by omega) (by omega)];omega
   obtain⟨kb,kq,i1,_,i3⟩:=iQ e6 hlt;have hmem:(eJ act (nodeAt g old)).getD j 0∈(nodeAt g old).next:=(iR Gg hR hold).mem_iff.1 (by rw[Ad,Ab hlt];exact Bo hlt);obtain⟨q,hq,hqe⟩:=Cb hmem;have hkid:=Gg.kids old hold q hq;rw[show(nodeAt g old).next.getD q 0=(nodeAt g old).next[q] by rw[Ad,Ab hq];rfl,hqe] at hkid;obtain⟨cn,hcn⟩:∃cn:Nat,(eJ act (nodeAt g old)).getD j 0=(cn:Int):=⟨((eJ act (nodeAt g old)).getD j 0).toNat,by omega⟩;rw[hcn] at i3 hkid;have htk:(eJ act (nodeAt g old)).take (j+1)=(eJ act (nodeAt g old)).take j++ [(cn:Int)]:=by
    rw[Bp,Ab hlt,←hcn,Ad,Ab hlt];rfl
   generalize hKB:eK (fB g first act f) ((eJ act (nodeAt g old)).take j) (m.l.length+1) (eX first m.reps (nodeAt g old)).1=KB at *;have hl2:l2.length=KB.2.nodes.length:=by rw[←e2,Aj]
   have hml:m'.l.length=m.l.length+1+KB.2.nodes.length:=by rw[e1,Am,Ay,hl2];omega
   have hszc:m'.l.length+mS Tr cn≤g.nodes.length:=by
    have h1:=qP (T:=Tr) (lay:=fB g first act f) (l:=(eJ act (nodeAt g old)).take j) (fun k hk i reps=>qE Gg hR hT hTl (by
     obtain⟨q,hq,rfl⟩:=Cb ((iR Gg hR hold).mem_iff.1 (Dm hk));have:=Gg.kids old hold q hq;rw[Ad,Ab hq] at this;simp only[Cy] at this;omega)) (i:=m.l.length+1) (reps:=(eX first m.reps (nodeAt g old)).1)
    rw[hKB] at h1;have h2:=aCY (((iR Gg hR hold).map Int.toNat).map (mS Tr));have h3:=aEf (l:=((eJ act (nodeAt g old)).map Int.toNat).map (mS Tr)) (j:=j) (by rw[Aj,Aj];exact hlt);rw[←List.map_take,←List.map_take] at h3;have h4:(((eJ act (nodeAt g old)).map Int.toNat).map (mS Tr)).getD j 0=mS Tr cn:=by
     rw[Ad,Aq,Aq,Ab hlt];have:(eJ act (nodeAt g old))[j]=(cn:Int):=by rw[←hcn,Ad,Ab hlt];rfl
     rw[this];rfl
    omega
   have lf:=eE (p:=0) hW.gf rfl;refine aA (aL (aA (aJ ?_)));simp only[↓sU,sD,rE,↓reduceIte,rA,r101,r103,aG,i1,i3];refine bQ ?_;simp only[↓sU,sD,rE,↓reduceIte,rA,t7,lf];refine bG ?_;simp only[↓sU,sD,rE,↓reduceIte,rA];refine aX (ih (by omega) (by omega) hszc e4 hW) ?_;rintro _ W2 ⟨rfl,m2,l3,hW2,a1,a2,a3,a4,a5⟩;try simp only[↓sU,sD,rE,↓reduceIte,rA]
   rw[hml] at hW2 a2 a3;have hi2:m2.l[m.l.length]? =some (tR first m.reps (nodeAt g old) KB.1,v):=by
    rw[a1,e1,Cd,Bd (Ah _),Dw];rfl
   have hkl:=wH (lay:=fB g first act f) (l:=(eJ act (nodeAt g old)).take j) (i:=m.l.length+1) (reps:=(eX first m.reps (nodeAt g old)).1);rw[hKB,Ce] at hkl;refine aKo (W:=C.W) (g:=g) (S0:=S0) (nc:=C.nc) (i:=m.l.length) (m:=m2) (v:=v) (a:=tR first m.reps (nodeAt g old) KB.1) (w:=((m'.l.length:Nat):Int)) rfl hW2.b hW2.s.1 hi2 (by show KB.1.length≤100000;omega) (by simp only[↓sU,sD,rE,↓reduceIte,rA,t1]) (by simp only[↓sU,sD,rE,↓reduceIte,rA,r10]) (by simp only[↓sU,sD,rE,↓reduceIte,rA]) hW2.gn LC.wn ?_;intro F' V v2 hk' hbV KV kV;have wg2:=hW2.b.wg;have r103':=(hk' 103 (by omega));simp only[↓sU,sD,rE,↓reduceIte,rA,r103] at r103';try simp only[↓sU,sD,rE,↓reduceIte,rA]
   refine aJ ?_;simp only[↓sU,sD,rE,↓reduceIte,rA,r103',w1];have g1:=hk' 1 (by omega);have g2:=hk' 2 (by omega);have g3:=hk' 3 (by omega);have g4:=hk' 4 (by omega);have g5:=hk' 5 (by omega);have g6:=hk' 6 (by omega);have g7:=hk' 7 (by omega);have g10:=hk' 10 (by omega);have g101:=hk' 101 (by omega);have g102:=hk' 102 (by omega);simp only[↓sU,sD,rE,↓reduceIte,rA,t1,t2,t3,t4,t5,t6,t7,r10,r101,r102] at g1 g2 g3 g4 g5 g6 g7 g10 g101 g102;have kk:=yZ (lay:=fB g first act f) (l:=(eJ act (nodeAt g old)).take j) (k:=(cn:Int)) (i:=m.l.length+1) (reps:=(eX first m.reps (nodeAt g old)).1);rw[hKB,←htk,Ba,←e3] at kk;have e3':=a3;have hv2:bK .i64 V v12 (eJ act (nodeAt g old))∧∀c,bD v12=some c→oK C.W {m2 with l:=m2.l.set m.l.length ({tR first m.reps (nodeAt g old) KB.1 with next:=KB.1++ [((m'.l.length:Nat):Int)]},v2)} c:=by
    have KK:=a5.trans KV;exact⟨eO e6 KK.1 fun c hc=>(KK.2 c (fE e6 hc) (e7 c hc)).1,fun c hc=>(KK.2 c (fE e6 hc) (e7 c hc)).2⟩
   refine⟨k - 1,by omega,rfl,j+1,by omega,{m2 with l:=m2.l.set m.l.length ({tR first m.reps (nodeAt g old) KB.1 with next:=KB.1++ [((m'.l.length:Nat):Int)]},v2)},v2,l2++l3,?_,?_,?_,?_,?_,e5.trans (a5.trans KV),hv2.1,hv2.2,(by refine⟨?_,?_,?_,?_,?_,?_,?_⟩<;>simp only[↓sU,sD,rE,↓reduceIte,rA,g1,g2,g3,g4,g5,g6,g7]),by refine⟨?_,?_,?_,?_⟩<;>simp only[↓sU,sD,rE,↓reduceIte,rA,g10,g101,g102]⟩
   ·rw[kk];simp only;have hol2:KB.2.olds.length=KB.2.nodes.length:=by rw[←hKB];exact tU fun o i reps=>aAS
    have hpe:oG pl m.l.length (old::(KB.2.olds++(fB g first act f cn (m.l.length+1+KB.2.nodes.length) m'.reps).olds))=oG (oG pl m.l.length (old::KB.2.olds)) (m.l.length+1+KB.2.nodes.length) (fB g first act f cn (m.l.length+1+KB.2.nodes.length) m'.reps).olds:=by
     rw[←Cf,aDg,Ay,hol2,show m.l.length+(KB.2.nodes.length+1)=m.l.length+1+KB.2.nodes.length by omega]
    rw[hpe];exact hW2.next hbV KV rfl ((kV _ (wg2 _ LC.wn).2 LC.wn).trans hW2.gn) ((kV _ (wg2 _ LC.wi).2 LC.wi).trans hW2.gi) ((kV _ (wg2 _ LC.wq).2 LC.wq).trans hW2.gq) (hW2.gm.move (kV _ (wg2 _ LC.wm).2 LC.wm))
   ·rw[kk];simp only;rw[hml,a1,e1,Cd,List.set_append_right _ _ (Ah _),Dw];rfl
   ·rw[kk];simp only;rw[Dx,e2,a2]
   ·rw[kk];exact a3
   ·simp only;rw[Ap];exact a4
  rintro o ⟨F3,inr⟩ W ⟨rfl,q0,j,hjk,m',v,l2,hW,e1,e2,e3,e4,e5,e6,e7,hT3,r10, -, -, -⟩;simp only at q0 hT3 r10;subst q0;obtain rfl:j=(eJ act (nodeAt g old)).length:=by omega
  rw[List.take_length] at hW e1 e2 e3;refine bQ ?_;simp only[↓sU,sD,rE,↓reduceIte,rA,r10];refine aS ?_;simp only[↓sU,sD,rE,↓reduceIte,rA];refine⟨m',_,hW,e1,?_,e3,e4,e5⟩;rw[Cx,e2];rfl
structure Clo(g:aR)(first:List Int)(reps:List Nat)(B:aCm):Prop where
 kid:∀o∈B.olds,∀k∈(nodeAt g o).next,k.toNat∈B.olds
 rep:∀o∈B.olds,(nodeAt g o).kind=2→(first.getD (nodeAt g o).info.toNat 0).toNat∈B.reps
 mono:∀r∈reps,r∈B.reps
theorem aC7{reps:List Nat}{r:Nat}:r∈(lC reps r).1∧∀q∈reps,q∈(lC reps r).1:=by
 unfold lC;split
 ·rename_i h;exact⟨h,fun _ h=>h⟩
 ·exact⟨by simp,fun q h=>by simp [h]⟩
theorem aEi{g:aR}{first:List Int}{lay:Nat→Nat→List Nat→aCm}:∀ {l:List Int} (_:∀k∈l,∀i reps,Clo g first reps (lay k.toNat i reps)∧k.toNat∈(lay k.toNat i reps).olds) {i:Nat} {reps:List Nat},Clo g first reps (eK lay l i reps).2∧∀k∈l,k.toNat∈(eK lay l i reps).2.olds
 | [],_,i,reps=>⟨⟨fun o h=>(by cases h),fun o h=>(by cases h),fun r h=>h⟩,fun k h=>by cases h⟩
 | x::l,h,i,reps=>by
  obtain⟨c1,m1⟩:=h x (Bu ..) i reps;obtain⟨c2,m2⟩:=aEi (l:=l) (fun k hk=>h k (Bj _ hk)) (i:=i+(lay x.toNat i reps).nodes.length) (reps:=(lay x.toNat i reps).reps);unfold eK;refine⟨⟨fun o ho k hk=>?_,fun o ho hk=>?_,fun r hr=>c2.mono r (c1.mono r hr)⟩,fun k hk=>?_⟩
  ·rcases Bx.1 ho with h1 | h1
   ·exact Dc _ (c1.kid o h1 k hk)
   ·exact Cp _ (c2.kid o h1 k hk)
  ·rcases Bx.1 ho with h1 | h1
   ·exact c2.mono _ (c1.rep o h1 hk)
   ·exact c2.rep o h1 hk
  ·rcases Bm.1 hk with rfl | h1
   ·exact Dc _ m1
   ·exact Cp _ (m2 k h1)
theorem aCj{g:aR}{first:List Int}{act:List (List Int)}(G:dL g)(hR:rM g act):∀ {f o i:Nat} {reps:List Nat},g.nodes.length≤f+o→o<g.nodes.length→Clo g first reps (fB g first act f o i reps)∧o∈(fB g first act f o i reps).olds
 | 0,o,i,reps,h1,h2=>absurd h2 (by omega)
 | f+1,o,i,reps,h1,ho=>by
  unfold fB;have hp:=iR G hR ho;obtain⟨c,m⟩:=aEi (g:=g) (first:=first) (lay:=fB g first act f) (l:=eJ act (nodeAt g o)) (fun k hk i reps=>by
   obtain⟨q,hq,rfl⟩:=Cb (hp.mem_iff.1 hk);have:=G.kids o ho q hq;rw[Ad,Ab hq] at this;simp only[Cy] at this;exact aCj G hR (by omega) (by omega)) (i:=i+1) (reps:=(eX first reps (nodeAt g o)).1)
  have hm:∀r∈reps,r∈(eX first reps (nodeAt g o)).1:=fun r hr=>by
   unfold eX;split
   ·exact aC7.2 r hr
   ·exact hr
  refine⟨⟨fun o' ho' k hk=>?_,fun o' ho' hk=>?_,fun r hr=>c.mono r (hm r hr)⟩,Bu ..⟩
  ·rcases Bm.1 ho' with rfl | h
   ·exact Bj _ (m k (hp.mem_iff.2 hk))
   ·exact Bj _ (c.kid o' h k hk)
  ·rcases Bm.1 ho' with rfl | h
   ·refine c.mono _ ?_;unfold eX;rw[if_pos hk];exact aC7.1
   ·exact c.rep o' h hk
theorem aKr{g:aR}{first:List Int}{act:List (List Int)}(G:dL g)(hR:rM g act){j:Nat}(hj:j<g.nodes.length):j∈(fB g first act g.nodes.length 0 0 []).olds:=by
 obtain⟨c,m⟩:=aCj (first:=first) G hR (f:=g.nodes.length) (o:=0) (i:=0) (reps:=[]) (by omega) G.n1
 induction j using Nat.strongRecOn with
 | ind j ih=>
  by_cases h0:j=0
  ·rw[h0];exact m
  ·obtain⟨q,k,h1,h2,h3⟩:=aJm G (Nat.pos_of_ne_zero h0) hj;have:=c.kid q (ih q h1 (by omega)) ((nodeAt g q).next.getD k 0) (by rw[Ad,Ab h2];exact Bo h2);rw[h3] at this;exact this
theorem aGv{g:aR}{first:List Int}{act:List (List Int)}(G:dL g)(hR:rM g act){s:Nat}(hs:s<g.infos.length):(first.getD s 0).toNat∈(fB g first act g.nodes.length 0 0 []).reps:=by
 obtain⟨c,_⟩:=aCj (first:=first) G hR (f:=g.nodes.length) (o:=0) (i:=0) (reps:=[]) (by omega) G.n1;obtain⟨f1,f2,f3⟩:=G.fst s hs;have:=c.rep _ (aKr G hR f1) f2;rw[f3] at this;exact this
def aPx(W:St)(F:Fr)(qv:AV)(l:List Int)(F':Fr)(Z:St)(ps:List iJ):Prop:=ps= [⟨8,W.nx+8,.cells [aB 51 F'] false 0⟩]∧Same W Z∧W.nx+12≤Z.nx∧(∀j,j<44→aB j F'=aB j F)∧aB 45 F'=qv∧aB 52 F'= .sl (W.nx+8) 0 1 1 false∧bK .i64 Z (aB 51 F') l∧∀c,bD (aB 51 F')=some c→W.nx≤c∧c≠W.nx+8
theorem aK6{W Y:St}{F:Fr}{ob lb br qr i:Nat}{c0 c1 c2 c3 qv c5 fv av a:AV}{l:List Int}(H:Has fns)(p10:aB 10 F= .ptr ob 0)(p2:aB 2 F= .ptr lb 0)(p11:aB 11 F= .int .i64 (i:Int))(hob:W.h.get ob=some (.cells [c0,c1,c2,c3,qv,c5] false 0))(hlb:W.h.get lb=some (.cells [fv,av] false 0))(lob:ob<W.nx)(llb:lb<W.nx)(hia:eU (.slice 1) av i=some (.ptr br qr))(hld:eH (.ptr br qr) false 1 W.h=some a)(lbr:br<W.nx)(ha:bK .i64 W a l)(hl:l.length≤100000)(sv:cC av av=true)(spv:cC qv qv=true)
  (hY:Same W Y) (nY:Y.nx=W.nx+12):fK fns (fun _=>False) W.h W.nx aH9 0 F Y [] none (aPx W F qv l):=by
 have sa:=bK.self ha;unfold aH9;simp only[↓sU,sD,rE,↓reduceIte,rA,p2,p10,p11,aC,aU,aD,dC hob,aH8 hlb,lob,llb,lbr,Al,sv,spv,sa,aG,hia,hld];refine dS rfl ?_;simp only[↓sU,sD,rE,↓reduceIte,rA];refine aX (nT H (ha.same hY) hl) ?_;rintro r1 Y1 ⟨s1,i1,k1,_⟩;refine⟨s1,?_⟩;have he:=fun(F:Fr) (id:Nat) (h:aB 51 F=r1)=>aBX (t:=22) (z:=.nilsl) (x:=.t 51) (F:=F) (id:=id) i1 h;simp only[↓sU,sD,rE,↓reduceIte,rA,he];refine⟨by simp only[↓sU,sD,rE,↓reduceIte,rA],hY.trans s1,by have:=s1.1;omega,fun j hj=>?_,by simp only[↓sU,sD,rE,↓reduceIte,rA],by simp only[↓sU,sD,rE,↓reduceIte,rA],by simp only[↓sU,sD,rE,↓reduceIte,rA];exact i1,fun c hc=>?_⟩
 ·simp only[cE];rw[if_neg (by omega),if_neg (by omega),if_neg (by omega),if_neg (by omega),if_neg (by omega),if_neg (by omega),if_neg (by omega),if_neg (by omega),if_neg (by omega)]
 ·simp only[↓sU,sD,rE,↓reduceIte,rA] at hc;have:=k1 c hc;omega
theorem aMq{ops:List AO}{S0 W:St}{F:Fr}{inr:Bool}{ob lb br qr i n:Nat}{c0 c1 c2 c3 qv c5 fv av a:AV}{cs:List AV}{l:List Int}{Q:Out→bH→St→Prop}(H:Has fns)(he:ops=aH9++aKU)(p10:aB 10 F= .ptr ob 0)(p2:aB 2 F= .ptr lb 0)(p11:aB 11 F= .int .i64 (i:Int))(hob:W.h.get ob=some (.cells [c0,c1,c2,c3,qv,c5] false 0))(hlb:W.h.get lb=some (.cells [fv,av] false 0))(lob:ob<S0.nx)(llb:lb<W.nx)(hia:eU (.slice 1) av i=some (.ptr br qr))(hld:eH (.ptr br qr) false 1 W.h=some a)(lbr:br<W.nx)(ha:bK .i64 W a l)(hl:l.length≤100000)(sv:cC av av=true)
  (hg:fP 1 S0 W qv n cs) (hS:S0.nx≤W.nx) (hn:n≤100000)
  (hQ:∀F' Z r qv',(∀j,j<44→aB j F'=aB j F)→W.nx≤Z.nx→Z.h.get ob=some (.cells [c0,c1,c2,c3,qv',c5] false 0)→(∀c,c<W.nx→c≠ob→bD qv≠some c→Z.h.get c=W.h.get c)→bK .i64 Z r l→fP 1 S0 Z qv' (n+1) (cs++ [r])→(∀c,bD r=some c→W.nx≤c∧bD qv'≠some c)→(∀c,bD qv'=some c→W.nx≤c)→Q .normal ⟨F',inr⟩ Z):iH fns (.drw ops) ⟨F,inr⟩ W Q:=by
 have hlen:ops.length=12:=by rw[he];rfl
 refine nQ (K:=9) (R:=aPx W F qv l) he rfl rfl (fun S1 s h n=>aK6 H p10 p2 p11 hob hlb (by omega) llb hia hld lbr ha hl sv hg.self s (by rw[n,hlen])) ?_;rintro F' S' ps hs ls ⟨rfl,sZ,nZ,hk,p45,p52,i1,hbk⟩ hlast hld;have p10':aB 10 F'= .ptr ob 0:=(hk 10 (by omega)).trans p10;generalize hr1:aB 51 F'=r at i1 hbk;have m1:∀i,i<9→Nat.testBit 511 i=true:=by decide
 obtain⟨U,hU⟩:∃U:St,U=⟨S'.h.set (W.nx+8) (some (.cells [r] false 0)),S'.nx⟩:=⟨_,rfl⟩;have sUx:Same W U:=by rw[hU];exact⟨sZ.1,fun c hc=>by simp only;rw[T.get_set,if_neg (by omega)];exact sZ.2 c hc⟩
 have gU:U.h.get (W.nx+8)=some (.cells [r] false 0):=by rw[hU];simp only;rw[T.get_set,if_pos rfl]
 have nU:U.nx=S'.nx:=by rw[hU]
 have iU:bK .i64 U r l:=eO i1 (by omega) fun c hc=>by
  rw[hU];simp only;rw[T.get_set,if_neg (hbk c hc).2]
 have hbpv:∀ {c},bD qv=some c→S0.nx≤c∧c<W.nx:=fun hc=>⟨(hg.blk hc).1,(hg.blk hc).2.1⟩;have hgU:fP 1 ⟨U.h,S0.nx⟩ U qv n cs:=hg.move sUx.1 fun c hc=>sUx.2 c (hbpv hc).2;obtain⟨qv',X,eA,gA,bA,nA,rA⟩:=fP.push1 (bytes:=24) (x:=r) hgU ⟨by show S0.nx≤U.nx;have:=sUx.1;omega,fun _ _=>rfl⟩ gU (by unfold room;omega) (by unfold room;omega);have nbX:X.h.get ob=some (.cells [c0,c1,c2,c3,qv,c5] false 0):=by
  rw[rA ob (by have:=sUx.1;omega) (fun e=>by have:=(hbpv e).1;omega)];exact(sUx.2 ob (by omega)).trans hob
 unfold aKU;refine jP (v:=qv') (S1:=X) (hlast _ m1) (fun call=>?_) ?_
 ·rw[dF (show Nat.testBit 511 8=true by decide),iG];simp only[fD,p45,p52,hr1];rw[←hU];exact eA
 rw[dF (show Nat.testBit 511 8=true by decide)];simp only[lA,dW,aC,aD,aU,aW,fD,bE,cE,p10',rE,↓reduceIte,rA];have gAc:qv'.cells=some [qv']:=fP.cells gA;refine jP (v:=.undef) (S1:=⟨X.h.set ob (some (.cells [c0,c1,c2,c3,qv',c5] false 0)),X.nx⟩) (show Nat.testBit 2047 9=true by decide) (fun call=>?_) ?_
 ·rw[dN];simp only[fD,cE,rE,↓reduceIte,bE,gAc,aK];exact stc (cs:=[c0,c1,c2,c3,qv,c5]) (p:=4) (S:=X) nbX (by simp)
 rw[fZ];have hbA:∀ {c},bD qv'=some c→c=U.nx:=fun hc=>by rw[bA] at hc;exact(Bn hc).symm
 have sUn:=sUx.1;refine⟨?_,?_⟩
 ·simp only[Bz,Cd,Di,Cf,Cc];exact hld _ _ _ m1
 ·simp only[bE,eF];have lowr:∀ {c},bD r=some c→c<U.nx:=fun hc=>fE iU hc;refine hQ _ _ r qv' (fun j hj=>?_) (by show W.nx≤X.nx;omega) (by simp only;rw[T.get_set,if_pos rfl]) (fun c hc h1 h2=>?_) ?_ ?_ (fun c hc=>⟨(hbk c hc).1,fun h=>?_⟩) (fun c hc=>?_)
  ·rw[cE,if_neg (by omega),cE,if_neg (by omega)];exact hk j hj
  ·simp only;rw[T.get_set,if_neg h1,rA c (by omega) h2];exact sUx.2 c hc
  ·refine eO iU (by show U.nx≤X.nx;omega) fun c hc=>?_;have h1:=(hbk c hc).1;simp only;rw[T.get_set,if_neg (by omega),rA c (lowr hc) (fun e=>by have:=(hbpv e).2;omega)]
  ·refine fP.move (S:=X) (by exact gA) (Ah _) fun c hc=>?_;have:=hbA hc;simp only;rw[T.get_set,if_neg (by omega)]
  ·have:=hbA h;have:=lowr hc;omega
  ·have:=hbA hc;omega
def rO(first:List Int)(reps:List Nat):List Int:=first.map fun r=>((reps.idxOf r.toNat:Nat):Int)
def aMD(g:aR)(first:List Int)(act:List (List Int))(Z:St)(r:AV):Prop:=∃nv iv jv qv pv,r= .agg [.int .i64 g.players,nv,iv,jv,qv,pv]∧aH 6 bP Z nv (fB g first act g.nodes.length 0 0 []).nodes∧aH 2 cA Z iv ((fB g first act g.nodes.length 0 0 []).reps.map fun r:Nat=>infoAt g (r:Int))∧bK .i64 Z jv (rO first (fB g first act g.nodes.length 0 0 []).reps)∧aH 1 iX Z qv act∧bK .i64 Z pv (oG (List.replicate g.nodes.length 0) 0 (fB g first act g.nodes.length 0 0 []).olds)
def aMO(g:aR)(first:List Int)(act:List (List Int))(S Z:St)(r:AV):Prop:=∀Z',Z.nx≤Z'.nx→(∀c,S.nx≤c→c<Z.nx→Z'.h.get c=Z.h.get c)→aMD g first act Z' r
def aOP(Y0:St)(ob lb mc mb:Nat)(c0 na ia pl fv:AV)(reps:List Nat)(first:List Int)(act:List (List Int))(r4:Nat)(k:Nat)(A:bH)(X:St):Prop:=A.inr=false∧Y0.nx≤X.nx∧(∀c,c<Y0.nx→c≠ob→X.h.get c=Y0.h.get c)∧∃i jv qv cs,i+k=first.length∧X.h.get ob=some (.cells [c0,na,ia,jv,qv,pl] false 0)∧fP 1 Y0 X jv ((rO first reps).take i).length (aP ((rO first reps).take i))∧fP 1 Y0 X qv i cs∧oL Y0 X qv cs (act.take i)∧(∀c,bD jv=some c→bD qv≠some c∧∀r∈cs,bD r≠some c)∧aB 2 A.F= .ptr lb 0∧aB 4 A.F= .ptr r4 0∧aB 5 A.F= .ptr mc 0∧aB 10 A.F= .ptr ob 0∧aB 29 A.F=fv∧aB 30 A.F= .int .i64 ((first.length:Nat):Int)∧aB 31 A.F= .int .i64 (i:Int)
theorem oV.nodesM{W:Nat→Prop}{g:aR}{S0 X X':St}{m:LyS}(h:oV W (fun c=>S0.nx≤c) g S0 X m)(hn:X.nx≤X'.nx)(hk:∀c,S0.nx≤c→c<X.nx→X'.h.get c=X.h.get c):oV W (fun c=>S0.nx≤c) g S0 X' m:=
 h.local hn fun c hc _ hp=>hk c (by
  by_cases e:c<S0.nx
  ·exact hp (h.low e)
  ·omega) hc
theorem oL.moveR{S0 X X':St}{pv:AV}{cs:List AV}{A:List (List Int)}(h:oL S0 X pv cs A)(hn:X.nx≤X'.nx)(hk:∀r∈cs,∀c,bD r=some c→S0.nx≤c→X'.h.get c=X.h.get c):oL S0 X' pv cs A:=
 ⟨h.1,fun j hj=>by
  obtain⟨r,h1,h2,h3⟩:=h.2 j hj;exact⟨r,h1,eO h2 hn fun c hc=>hk r (Bc h1) c hc (h3 c hc).1,h3⟩⟩
theorem oL.low{S0 X:St}{pv r:AV}{cs:List AV}{A:List (List Int)}(h:oL S0 X pv cs A)(hr:r∈cs){c:Nat}(hc:bD r=some c):c<X.nx:=by
 obtain⟨j,hj,rfl⟩:=Cb hr;obtain⟨r',h1,h2,_⟩:=h.2 j (by rw[←h.1];exact hj);rw[Ab hj] at h1;cases h1;exact fE h2 hc
theorem aF3{S:St}{nv iv fv av:AV}{g:aR}{first:List Int}{act:List (List Int)}{Tr:List dH}(H:Has fns)(G:aIx g)(hR:rM g act)(hFl:first.length=g.infos.length)(hFr:∀s,s<g.infos.length→∃r:Nat,first.getD s 0=(r:Int)∧r<g.infos.length)(hn:aH 6 bP S nv g.nodes)(hi:aH 2 cA S iv g.infos)(hf:bK .i64 S fv first)(ha:aH 1 iX S av act)(hT:gS g=some Tr)(hTl:Tr.length=g.nodes.length)(hwl:∀i,i<g.nodes.length→(nodeAt g i).weights.length≤100000):
  gH fns (.fn 97 [] []) [.agg [fv,av],.agg [.int .i64 g.players,nv,iv]] S fun r Z=>Same S Z∧aMO g first act S Z r:=by
 have Gg:=G.good;have hN:=Gg.n2;have sfv:=bK.self hf;refine cI H.f97 (by simp) ?_;simp only[↓aF,aE,rE,↓reduceIte,rA];refine bQ ?_;refine cM (by simp only[↓aF,aE,rE,↓reduceIte,rA];exact bB _) ?_;intro S1 s1 n1 g1;simp only[↓aF,aE,rE,↓reduceIte,rA];refine cM (by simp only[↓aF,aE,rE,↓reduceIte,rA];exact bB _) ?_;intro S2 s2 n2 g2;try simp only[↓aF,aE,rE,↓reduceIte,rA]
 refine cH ?_;intro S0 s3 n3 g3;try simp only[↓aF,aE,rE,↓reduceIte,rA]
 have s03:=s1.trans (s2.trans s3);have gl0:S0.h.get S.nx=_:=(s3.2 _ (by omega)).trans ((s2.2 _ (by omega)).trans g1);have gg0:S0.h.get S1.nx=_:=(s3.2 _ (by omega)).trans g2;refine bQ ?_;refine gM (v:=.map S0.nx) (bl:=.map []) rfl ?_;intro X1 x1 k1 e1;simp only[↓aF,aE,rE,↓reduceIte,rA];refine cH ?_;intro X2 x2 k2 e2;try simp only[↓aF,aE,rE,↓reduceIte,rA]
 refine dB (b:=X1.nx) (cs':=[.map S0.nx]) (by simp only[↓aF,aE,rE,↓reduceIte,rA]) (by simp only[↓aF,aE,rE,↓reduceIte,rA];rfl) e2 rfl rfl ?_;intro X3 x3 k3 e3;try simp only[↓aF,aE,rE,↓reduceIte,rA]
 have s13:Same X1 X3:=x3.same x2 (Ah _);refine bQ ?_;refine cH ?_;intro X4 x4 k4 e4;try simp only[↓aF,aE,rE,↓reduceIte,rA]
 refine bQ ?_;refine cH ?_;intro X5 x5 k5 e5;try simp only[↓aF,aE,rE,↓reduceIte,rA]
 have s05:Same S0 X5:=x1.trans (s13.trans (x4.trans x5));have gg5:=(s05.2 _ (by omega)).trans gg0;have lg5:=eY gg5;have hnl:=hn.len;have hmk:=fun F id (x:cL) (hx:fI (x.val F)=some g.nodes.length)=>nK (t:=3) (s:=1) (bytes:=8) (z:=[AV.int .i64 0]) (l:=x) (c:=x) (F:=F) (id:=id) (n:=g.nodes.length) hx hx (by unfold room;omega) (by unfold room;omega);refine bQ ?_;simp only[↓aF,aE,rE,↓reduceIte,rA,aC,aD,lg5,hnl];refine gM (hmk _ _ _ (by simp only[↓aF,aE,rE,↓reduceIte,rA,aG])) ?_;intro X6 x6 k6 e6;try simp only[↓aF,aE,rE,↓reduceIte,rA]
 refine cH ?_;intro X7 x7 k7 e7;try simp only[↓aF,aE,rE,↓reduceIte,rA]
 refine dB (b:=X6.nx) (cs':=[.sl X5.nx 0 g.nodes.length g.nodes.length false]) (by simp only[↓aF,aE,rE,↓reduceIte,rA]) (by simp only[↓aF,aE,rE,↓reduceIte,rA];rfl) e7 rfl rfl ?_;intro X8 x8 k8 e8;try simp only[↓aF,aE,rE,↓reduceIte,rA]
 have s68:Same X6 X8:=x8.same x7 (Ah _);refine bQ ?_;refine cH ?_;intro X9 x9 k9 e9;try simp only[↓aF,aE,rE,↓reduceIte,rA]
 refine bQ ?_;simp only[↓aF,aE,rE,↓reduceIte,rA,zK];obtain⟨C,hC⟩:∃C:LC,C=⟨X4.nx,X3.nx,X5.nx,S0.nx,X6.nx,X1.nx,X8.nx,S1.nx,S.nx,.int .i64 g.players,nv,iv,fv,av⟩:=⟨_,rfl⟩;have hfn:C.fn= .fn 139 [] [.ptr X4.nx 0,.ptr X6.nx 0,.ptr S1.nx 0,.ptr S.nx 0,.ptr X1.nx 0,.ptr X3.nx 0,.ptr X8.nx 0]:=by rw[hC];rfl
 refine dB (b:=X8.nx) (cs':=[C.fn]) (by simp only[↓aF,aE,rE,↓reduceIte,rA]) (by simp only[↓aF,aE,rE,↓reduceIte,rA];rw[hfn];rfl) e9 rfl rfl ?_;intro X x10 k10 e10;try simp only[↓aF,aE,rE,↓reduceIte,rA]
 have s8X:Same X8 X:=x10.same x9 (Ah _);have s6X:=s68.trans s8X;have s5X:=x6.trans s6X;have s0X:=s05.trans s5X;have s3X:Same X3 X:=x4.trans (x5.trans s5X);have hrp:AB.cells (repeatL [AV.int .i64 0] g.nodes.length) false 0=AB.cells (aP (List.replicate g.nodes.length 0)) false 0:=by rw[pG]
 have hS:pQ C (fun c=>S0.nx≤c) g S0 X ⟨.nilsl,.nilsl,[],[]⟩ (List.replicate g.nodes.length 0):=by
  have w:∀c,C.W c→S0.nx≤c∧c<X.nx:=fun c hc=>by
   rw[hC] at hc;rcases hc with hc | hc | hc | hc<;>simp only at hc<;>omega
  have p:∀c,¬C.W c→oK C.W ⟨.nilsl,.nilsl,[],[]⟩ c:=fun c hc=>⟨hc,fun e=>(by cases e),fun e=>(by cases e),fun a h=>(by cases h)⟩;have nw:∀c,(c=X6.nx∨c=X1.nx∨c=X8.nx)→¬C.W c:=fun c hc hw=>by
   rw[hC] at hw;rcases hw with hw | hw | hw | hw<;>simp only at hw<;>omega
  refine⟨⟨.none,.none,fun a h=>(by cases h),fun i j a b _ h=>(by cases h),fun c h=>(by cases h),fun c h=>(by cases h),w⟩,?_,?_,?_,?_,?_,?_,?_,?_,?_,⟨p _ (nw _ (by rw[hC];exact .inl rfl)),?_⟩,⟨p _ (nw _ (by rw[hC];exact .inr (.inl rfl))),?_⟩,⟨p _ (nw _ (by rw[hC];exact .inr (.inr rfl))),?_⟩,?_,?_,?_,Ar,s0X⟩
  all_goals rw[hC]
  all_goals simp only
  ·exact(s5X.2 _ (by omega)).trans e5
  ·exact((x5.trans s5X).2 _ (by omega)).trans e4
  ·rw[←hrp];exact(s6X.2 _ (by omega)).trans e6
  ·exact⟨[],((s13.trans s3X).2 _ (by omega)).trans e1,fun _=>rfl⟩
  ·exact(s8X.2 _ (by omega)).trans e8
  ·exact(s3X.2 _ (by omega)).trans e3
  ·rw[e10,hC]
  ·exact(s0X.2 _ (by omega)).trans gg0
  ·exact(s0X.2 _ (by omega)).trans gl0
  all_goals first | omega | trace_state
 have lf:=eE (p:=0) e10 rfl;have hsz:([]:List (dG×AV)).length+mS Tr 0≤g.nodes.length:=by
  rw[Bv,Ao,←hTl];exact(aB0 (aAf (by decide) (show fO g.nodes.length (dU g) (g.nodes.length+1) 0 (-1) 0=some Tr from hT)) (by rw[hTl];exact Gg.n1)).2.1
 refine bQ ?_;simp only[↓aF,aE,rE,↓reduceIte,rA,lf];refine bG ?_;simp only[↓aF,aE,rE,↓reduceIte,rA];have e0:C.nv=nv∧C.iv=iv∧C.fv=fv∧C.av=av:=by rw[hC];exact⟨rfl,rfl,rfl,rfl⟩
 have gn0:=aH.same (E:=bP) bF hn s03;have gi0:=aH.same (E:=cA) bO hi s03;have gf0:=hf.same s03;have ga0:=aH.same (E:=iX) firm_sl ha s03;rw[←e0.1] at gn0;rw[←e0.2.1] at gi0;rw[←e0.2.2.1] at gf0;rw[←e0.2.2.2] at ga0;refine aX (aKE (first:=first) (act:=act) (Tr:=Tr) (P:=fun c=>S0.nx≤c) H (fun _ h=>h) G hR hFl hFr gn0 gi0 gf0 ga0 hT hTl hwl g.nodes.length (old:=0) (by omega) Gg.n1 hsz (Ah _) hS) ?_;rintro _ Y ⟨-,m,l',hY,a1,a2,a3,a4,a5⟩;try simp only[↓aF,aE,rE,↓reduceIte,rA]
 generalize hB:fB g first act g.nodes.length 0 0 []=B at *;have rall:=fun s hs=>aGv (first:=first) Gg hR (s:=s) hs;rw[hB] at rall;have sSY:Same S Y:=⟨by have:=s03.1;have:=hY.s.1;omega,fun c hc=>(hY.s.2 c (by have:=s03.1;omega)).trans (s03.2 c hc)⟩;have gnY:Y.h.get X4.nx=some (.cells [m.na] false 0):=by have:=hY.gn;rw[hC] at this;exact this
 have giY:Y.h.get X3.nx=some (.cells [m.ia] false 0):=by have:=hY.gi;rw[hC] at this;exact this
 have gpY:Y.h.get X6.nx=some (.cells [.sl X5.nx 0 g.nodes.length g.nodes.length false] false 0):=by have:=hY.gp;rw[hC] at this;exact this
 have ggY:Y.h.get S1.nx=some (.cells [.int .i64 g.players,nv,iv] false 0):=by have:=hY.gg;rw[hC] at this;exact this
 have glY:Y.h.get S.nx=some (.cells [fv,av] false 0):=by have:=hY.gl;rw[hC] at this;exact this
 have gcY:Y.h.get X1.nx=some (.cells [.map S0.nx] false 0):=by have:=hY.gc;rw[hC] at this;exact this
 have gqY:Y.h.get X5.nx=some (.cells (aP (oG (List.replicate g.nodes.length 0) 0 B.olds)) false 0):=by have:=hY.gq;rw[hC] at this;exact this
 have gmY:aC5 encI encI Y.h S0.nx (aDX m.reps):=by have:=hY.gm;rw[hC] at this;exact this
 have lq:X5.nx<Y.nx:=by have:=hY.b.wg X5.nx (by rw[hC];exact .inr (.inr (.inl rfl)));exact this.2
 have lmb:S0.nx<Y.nx:=by have:=hY.b.wg S0.nx (by rw[hC];exact .inr (.inr (.inr rfl)));exact this.2
 have lmc:X1.nx<Y.nx:=by have:=hY.kc.2;rw[hC] at this;exact this
 have hbY:=hY.b;have cna:m.na.cells=some [m.na]:=hY.b.nod.cells;have cia:m.ia.cells=some [m.ia]:=hY.b.inf.cells;rw[Cc] at a1;rw[←a1] at a2;rw[a3] at gmY;obtain⟨na,hna⟩:∃na,na=m.na:=⟨_,rfl⟩;obtain⟨ia,hia⟩:∃ia,ia=m.ia:=⟨_,rfl⟩;rw[←hna] at gnY cna;rw[←hia] at giY cia;obtain⟨r4,hr4⟩:∃r4,r4=S2.nx:=⟨_,rfl⟩;have g4Y:Y.h.get r4=some (.cells [.int .i64 0,.nilsl,.nilsl,.nilsl,.nilsl,.nilsl] false 0):=by rw[hr4];exact(hY.s.2 _ (by omega)).trans g3
 have l4:r4<Y.nx:=by have:=hY.s.1;omega
 have n4:S.nx≤r4:=by omega
 have hT5:=zS (os:=B.olds) (pl:=List.replicate g.nodes.length 0) (i:=0);rw[Ar] at hT5;simp only[←hr4];have r4l:r4<S0.nx:=by omega
 clear hS hY a1 a4 a5 lf e10 e9 e8 e7 e6 e5 e4 e3 e2 e1 g1 g2 g3 gn0 gi0 gf0 ga0 hfn s0X s3X s5X s6X;have hB1:∀ (F:Fr) (h:Ev.T AB),aB 22 F= .int .i64 g.players→aB 23 F=na→aB 24 F=ia→fV (.build [.int .i64 0,.nilsl,.nilsl] [(0,1,.t 22),(1,1,.t 23),(2,1,.t 24)]) F h=some (.agg [.int .i64 g.players,na,ia]):=fun F h h1 h2 h3=>by
  show(aZ (eS _ (eB F [(0,1,.t 22),(1,1,.t 23),(2,1,.t 24)])) fun cs=>some (AV.agg cs))=_;simp only[eB,show(cL.t 22).val F= .int .i64 g.players from h1,show(cL.t 23).val F=na from h2,show(cL.t 24).val F=ia from h3,eS,cO,cna,cia,aK];rfl
 have hB2:∀ (F:Fr) (h:Ev.T AB),aB 25 F= .agg [.int .i64 g.players,na,ia]→aB 26 F= .sl X5.nx 0 g.nodes.length g.nodes.length false→fV (.build [.int .i64 0,.nilsl,.nilsl,.nilsl,.nilsl,.nilsl] [(0,3,.t 25),(5,1,.t 26)]) F h=some (.agg [.int .i64 g.players,na,ia,.nilsl,.nilsl,.sl X5.nx 0 g.nodes.length g.nodes.length false]):=fun F h h1 h2=>by
  show(aZ (eS _ (eB F [(0,3,.t 25),(5,1,.t 26)])) fun cs=>some (AV.agg cs))=_;simp only[eB,show(cL.t 25).val F= .agg [.int .i64 g.players,na,ia] from h1,show(cL.t 26).val F= .sl X5.nx 0 g.nodes.length g.nodes.length false from h2,eS,bB,aK];rfl
 have ld22:=oY ggY;have ld23:=eE (p:=0) gnY rfl;have ld24:=eE (p:=0) giY rfl;have ld26:=eE (p:=0) gpY rfl;refine bQ ?_;simp only[↓aF,aE,rE,↓reduceIte,rA,aC,aD,ld22,ld23,ld24,ld26,hB1,hB2];refine cH ?_;intro Z1 z1 m1 d1;try simp only[↓aF,aE,rE,↓reduceIte,rA]
 refine dB (b:=Y.nx) (cs':=[.int .i64 g.players,na,ia,.nilsl,.nilsl,.sl X5.nx 0 g.nodes.length g.nodes.length false]) (by simp only[↓aF,aE,rE,↓reduceIte,rA]) (by simp only[↓aF,aE,rE,↓reduceIte,rA];exact bB _) d1 rfl rfl ?_;intro Y0 z2 m2 d2;try simp only[↓aF,aE,rE,↓reduceIte,rA]
 have sY0:Same Y Y0:=z2.same z1 (Ah _);obtain⟨ob,hob⟩:∃ob,ob=Y.nx:=⟨_,rfl⟩;rw[←hob] at d2;simp only[←hob];have nY0:Y0.nx=ob+1:=by omega
 have glZ:=(sY0.2 _ (by have:=sSY.1;omega)).trans glY;have gcZ:=(sY0.2 _ lmc).trans gcY;have gmZ:=gmY.move (sY0.2 _ lmb);have ld29:=eE (p:=0) glZ rfl;have hfl:=hf.len;have hnumL:(rO first B.reps).length=first.length:=by unfold rO;rw[Aj]
 refine aA (aY (Q:=fun o A' W=>o= .normal∧aOP Y0 ob S.nx X1.nx S0.nx (.int .i64 g.players) na ia (.sl X5.nx 0 g.nodes.length g.nodes.length false) fv B.reps first act r4 0 A' W) (aA (aJ ?_)) ?_)
 ·simp only[↓sU,sD,rE,↓reduceIte,rA,aC,aD,ld29,hfl,Ag];refine aL (bL (aOP Y0 ob S.nx X1.nx S0.nx (.int .i64 g.players) na ia (.sl X5.nx 0 g.nodes.length g.nodes.length false) fv B.reps first act r4) ?_ first.length _ _ ⟨rfl,Ah _,fun _ _ _=>rfl,0,.nilsl,.nilsl,[],by omega,d2,.inl ⟨rfl,rfl,rfl⟩,.inl ⟨rfl,rfl,rfl⟩,⟨rfl,fun j hj=>absurd hj (Bs j)⟩,fun c hc=>(by cases hc),by simp only[↓sU,sD,rE,↓reduceIte,rA],by simp only[↓sU,sD,rE,↓reduceIte,rA],by simp only[↓sU,sD,rE,↓reduceIte,rA],by simp only[↓sU,sD,rE,↓reduceIte,rA],by simp only[↓sU,sD,rE,↓reduceIte,rA],by simp only[↓sU,sD,rE,↓reduceIte,rA],by simp only[↓sU,sD,rE,↓reduceIte,rA];try rfl⟩);rintro k ⟨F,inr⟩ X ⟨q0,nX,kX,i,jv,qv,cs,hik,gX,hj,hq,hRw,hd,p2,p4,p5,p10,p29,p30,p31⟩;simp only at q0 p2 p4 p5 p10 p29 p30 p31;subst q0;refine bQ ?_;simp only[↓sU,sD,rE,↓reduceIte,rA,p30,p31];by_cases hlt:i<first.length;rotate_left
  ·refine aA (aN (by simp only[↓sU,sD,rE,↓reduceIte,rA,Aa (show ¬ (i:Int)<((first.length:Nat):Int) by omega)]) (bM ?_));simp only[↓sU,sD,rE,↓reduceIte,rA];obtain rfl:k=0:=by omega
   exact⟨rfl,nX,kX,i,jv,qv,cs,hik,gX,hj,hq,hRw,hd,by refine⟨?_,?_,?_,?_,?_,?_,?_⟩<;>simp only[↓sU,sD,rE,↓reduceIte,rA,p2,p4,p5,p10,p29,p30,p31]⟩
  refine aA (aO (by simp only[↓sU,sD,rE,↓reduceIte,rA,Ac (show(i:Int)<((first.length:Nat):Int) by omega)]) (aI ?_));try simp only[↓sU,sD,rE,↓reduceIte,rA]
  have hNI:=Gg.ni;have w1:IntKind.i64.wrap ((i:Int)+1)=((i+1:Nat):Int):=by rw[wrap_i64 (by omega) (by omega)];omega
  have sSX:Same S X:=⟨by have:=sSY.1;omega,fun c hc=>(kX c (by have:=sSY.1;omega) (by have:=sSY.1;omega)).trans ((sY0.2 c (by have:=sSY.1;omega)).trans (sSY.2 c hc))⟩;obtain⟨r,hr,hrl⟩:=hFr i (by omega);have hrm:=rall i (by omega);rw[hr,Ba] at hrm;obtain⟨fb,fq,f1,f2,f3⟩:=iQ (hf.same sSX) hlt;rw[hr] at f3;have gcX:=(kX _ (by omega) (by omega)).trans gcZ;have glX:=(kX S.nx (by have:=sSY.1;omega) (by have:=sSY.1;omega)).trans glZ;have gmX:=gmZ.move (kX _ (by omega) (by omega));have lcm:=eE (p:=0) gcX rfl;have hlk:∀F:Fr,aB 38 F= .map S0.nx→aB 39 F= .int .i64 (r:Int)→fV (.lookup (.p .int) (.int .i64 0) false (.t 38) (.t 39)) F X.h=some (.int .i64 ((B.reps.idxOf r:Nat):Int)):=fun F a b=>aFQ (m:=.t 38) (x:=.t 39) aKd gmX a b (by unfold aDX;rw[if_pos hrm]);have htk:(rO first B.reps).take (i+1)=(rO first B.reps).take i++ [((B.reps.idxOf r:Nat):Int)]:=by
   rw[Bp];unfold rO;rw[Aq,Ab hlt];have:first[i]=(r:Int):=by rw[←hr,Ad,Ab hlt];rfl
   rw[this,Dl,Ba];rfl
  have hjl:((rO first B.reps).take i).length=i:=by rw[Ce,hnumL];omega
  have he1:=fun(F:Fr) (id:Nat) (h:aB 40 F= .int .i64 ((B.reps.idxOf r:Nat):Int))=>mH (t:=3) (z:=.int .i64 0) (x:=.t 40) (F:=F) (id:=id) (k:=.i64) (n:=((B.reps.idxOf r:Nat):Int)) h;refine aA (aL (aA (aJ ?_)));simp only[↓sU,sD,rE,↓reduceIte,rA,p29,p31,aG,f1,f3];refine bQ ?_;simp only[↓aF,aE,rE,↓reduceIte,rA,p5,p10,aC,aD,cT gX,lcm,hlk];refine gM (he1 _ _ (by simp only[↓aF,aE,rE,↓reduceIte,rA])) ?_;intro U u1 u2 u3;try simp only[↓aF,aE,rE,↓reduceIte,rA]
  obtain⟨jv',V,eA,gA,bA,nA,kA⟩:=fP.push (bytes:=8) (S0:=⟨U.h,Y0.nx⟩) (S:=U) (t:=X.nx) (w:=((B.reps.idxOf r:Nat):Int)) (hj.step u1) ⟨by show Y0.nx≤U.nx;omega,fun _ _=>rfl⟩ u3 (by rw[hjl];unfold room;omega) (by rw[hjl];unfold room;omega);rw[←htk] at gA;refine fJ (fun call=>by simp only[↓aF,aE,rE,↓reduceIte,rA,iG];exact eA) ?_;have hcl:jv'.cells=some [jv']:=gA.cells;have lob:ob<X.nx:=by omega
  have jne:bD jv≠some ob:=fun e=>by have:=(hj.blk e).1;omega
  have gXV:V.h.get ob=some (.cells [.int .i64 g.players,na,ia,jv,qv,.sl X5.nx 0 g.nodes.length g.nodes.length false] false 0):=(kA ob (by omega) jne).trans ((u1.2 _ lob).trans gX);simp only[↓aF,aE,rE,↓reduceIte,rA,p10,aC,aD];refine fJ (v:=.undef) (S1:=⟨V.h.set ob (some (.cells [.int .i64 g.players,na,ia,jv',qv,.sl X5.nx 0 g.nodes.length g.nodes.length false] false 0)),V.nx⟩) (fun call=>by simp only[↓aF,aE,rE,↓reduceIte,rA,dN,hcl,aK];exact stc (cs:=[.int .i64 g.players,na,ia,jv,qv,.sl X5.nx 0 g.nodes.length g.nodes.length false]) (p:=3) (S:=V) gXV (by simp)) ?_;simp only[↓aF,aE,rE,↓reduceIte,rA];obtain⟨X1,hX1⟩:∃X1:St,X1=⟨V.h.set ob (some (.cells [.int .i64 g.players,na,ia,jv',qv,.sl X5.nx 0 g.nodes.length g.nodes.length false] false 0)),V.nx⟩:=⟨_,rfl⟩;rw[←hX1];have nX1:X1.nx=V.nx:=by rw[hX1]
  have nV:=nA;have g1:X1.h.get ob=some (.cells [.int .i64 g.players,na,ia,jv',qv,.sl X5.nx 0 g.nodes.length g.nodes.length false] false 0):=by rw[hX1];simp only;rw[T.get_set,if_pos rfl]
  have k1:∀c,c<X.nx→c≠ob→bD jv≠some c→X1.h.get c=X.h.get c:=fun c hc h1 h2=>by
   rw[hX1];simp only;rw[T.get_set,if_neg h1,kA c (by omega) h2];exact u1.2 c hc
  have hj1:fP 1 Y0 X1 jv' ((rO first B.reps).take (i+1)).length (aP ((rO first B.reps).take (i+1))):=fP.move (S:=V) (by exact gA) (by omega) fun c hc=>by
   rw[bA] at hc;cases hc;rw[hX1];simp only;rw[T.get_set,if_neg (by omega)]
  have qno:∀ {c},bD qv=some c→c<X.nx∧c≠ob∧bD jv≠some c:=fun hc=>⟨(hq.blk hc).2.1,by have:=(hq.blk hc).1;omega,fun e=>(hd _ e).1 hc⟩;have hq1:fP 1 Y0 X1 qv i cs:=hq.move (by omega) fun c hc=>k1 c (qno hc).1 (qno hc).2.1 (qno hc).2.2;have hRw1:oL Y0 X1 qv cs (act.take i):=hRw.moveR (by omega) fun r hr c hc h0=>k1 c (hRw.low hr hc) (by omega) fun e=>(hd c e).2 r hr hc;have sS1:Same S X1:=⟨by have:=sSX.1;omega,fun c hc=>(k1 c (by have:=sSX.1;omega) (by have:=sSY.1;omega) (fun e=>by have:=(hj.blk e).1;have:=sSY.1;omega)).trans (sSX.2 c hc)⟩;have gl1:=(k1 S.nx (by have:=sSY.1;omega) (by have:=sSY.1;omega) (fun e=>by have:=(hj.blk e).1;have:=sSY.1;omega)).trans glX;have hal:i<act.length:=by rw[hR.1];omega
  obtain⟨rb,rq,ra,r1,r2,r3,r4⟩:=oN (aH.same (E:=iX) firm_sl ha sS1) hal;have hrlen:=(hR.2 i (by omega)).1;have hacl:(act.getD i []).length≤100000:=by
   rw[hrlen];obtain⟨f1,_,_⟩:=Gg.fst i (by omega);have:=Gg.nxt _ f1;unfold cR;rw[pW Gg (by omega)];omega
  refine aMq (S0:=Y0) (ob:=ob) (lb:=S.nx) (br:=rb) (qr:=rq) (i:=i) (n:=i) (qv:=qv) (fv:=fv) (av:=av) (a:=ra) (cs:=cs) (l:=act.getD i []) H rfl (by simp only[↓sU,sD,rE,↓reduceIte,rA,p10]) (by simp only[↓sU,sD,rE,↓reduceIte,rA,p2]) (by simp only[↓sU,sD,rE,↓reduceIte,rA]) g1 gl1 (by omega) (by have:=sS1.1;have:=sSY.1;omega) r1 (r4 X1 (Same.refl _)) r3 r2 hacl (aH.self ha) hq1 (by omega) (by omega) ?_;intro F' Z rr qv' hk nZ gZ kZ hrr hgZ hbr hbp;have h2':=hk 2 (by omega);have h4':=hk 4 (by omega);have h5':=hk 5 (by omega);have h10':=hk 10 (by omega);have h29':=hk 29 (by omega);have h30':=hk 30 (by omega);have h31':=hk 31 (by omega);simp only[↓sU,sD,rE,↓reduceIte,rA,p2,p4,p5,p10,p29,p30,p31] at h2' h4' h5' h10' h29' h30' h31';have hRZ:=hRw1.push (Z:=Z) (l:=act.getD i []) (by omega) nZ (fun c h1 h2 h3=>kZ c h1 (by omega) h3) hrr hbr hbp;have hta:act.take (i+1)=act.take i++ [act.getD i []]:=aJq hal;rw[←hta] at hRZ;have jbk:∀ {c},bD jv'=some c→c=U.nx:=fun hc=>by rw[bA] at hc;exact(Bn hc).symm
  try simp only[↓sU,sD,rE,↓reduceIte,rA]
  refine aJ ?_;simp only[↓sU,sD,rE,↓reduceIte,rA,h31',w1];refine⟨k - 1,by omega,rfl,by omega,fun c hc hne=>?_,i+1,jv',qv',_,by omega,gZ,?_,hgZ,hRZ,fun c hc=>⟨fun e=>?_,fun r' hr' e=>?_⟩,by refine⟨?_,?_,?_,?_,?_,?_,?_⟩<;>simp only[↓sU,sD,rE,↓reduceIte,rA,h2',h4',h5',h10',h29',h30']⟩
  ·exact(kZ c (by omega) hne (fun e=>by have:=(hq.blk e).1;omega)).trans ((k1 c (by omega) hne (fun e=>by have:=(hj.blk e).1;omega)).trans (kX c hc hne))
  ·exact hj1.move nZ fun c hc=>kZ c (by have:=jbk hc;omega) (by have:=jbk hc;omega) fun e=>by have:=jbk hc;have:=(qno e).1;omega
  ·have:=jbk hc;have:=hbp c e;omega
  ·have:=jbk hc;rcases Bx.1 hr' with h | h
   ·have:=hRw.low h e;omega
   ·rw[List.mem_singleton.1 h] at e;have:=(hbr c e).1;omega
 rintro o ⟨F3,inr⟩ W ⟨rfl,q0,nW,kW,i,jv,qv,cs,hik,gW,hj,hq,hR',hd,r2,r4',r5,r10, -, -, -⟩;simp only at q0 r2 r4' r5 r10;subst q0;obtain rfl:i=first.length:=by omega
 have cW:∀c,c<Y.nx→W.h.get c=Y.h.get c:=fun c hc=>(kW c (by omega) (by omega)).trans (sY0.2 c hc);have lall:=iA (n:=6) gW rfl;have g4W:=(cW _ l4).trans g4Y;refine bQ ?_;simp only[↓aF,aE,rE,↓reduceIte,rA,r4',r10,lall];refine dB (b:=r4) (cs':=[.int .i64 g.players,na,ia,jv,qv,.sl X5.nx 0 g.nodes.length g.nodes.length false]) (by simp only[↓aF,aE,rE,↓reduceIte,rA,r4']) (by simp only[↓aF,aE,rE,↓reduceIte,rA];exact bB _) g4W rfl rfl ?_;intro V v1 n1' d4;try simp only[↓aF,aE,rE,↓reduceIte,rA]
 have ld4:=iA (n:=6) d4 rfl;refine aS ?_;simp only[↓aF,aE,rE,↓reduceIte,rA,r4',dK,ld4];refine⟨⟨by have:=sSY.1;have:=v1.1;omega,fun c hc=>(v1.2 c (by have:=sSY.1;omega) (by omega)).trans ((cW c (by have:=sSY.1;omega)).trans (sSY.2 c hc))⟩,fun V2 hn2 hk2=>?_⟩;have hV:∀c,c≠r4→S.nx≤c→c<W.nx→V2.h.get c=W.h.get c:=fun c hc h0 hl=>(hk2 c h0 (Ae hl v1.1)).trans (v1.2 c hl hc);have nV:W.nx≤V2.nx:=Ak v1.1 hn2;have l00:=s03.1;have hbV:=hbY.nodesM (X':=V2) (by omega) fun c h0 hc=>(hV c (by omega) (by omega) (by omega)).trans (cW c hc);have hnV:=hbV.nodes;have hiV:=hbV.infos;rw[a2,←hna] at hnV;rw[a3,←hia] at hiV;rw[Bb (by rw[hnumL];exact Ah _)] at hj;rw[Bb (by rw[hR.1,hFl];exact Ah _)] at hR';have lYS:=sSY.1;have hqV:fP 1 Y0 V2 qv first.length cs:=hq.move nV fun c hc=>hV c (by have:=(hq.blk hc).1;omega) (by have:=(hq.blk hc).1;omega) (hq.blk hc).2.1;have hjV:fP 1 Y0 V2 jv (rO first B.reps).length (aP (rO first B.reps)):=hj.move nV fun c hc=>hV c (by have:=(hj.blk hc).1;omega) (by have:=(hj.blk hc).1;omega) (hj.blk hc).2.1;have hRV:oL Y0 V2 qv cs act:=hR'.moveR nV fun r hr c hc h0=>hV c (by omega) (by omega) (hR'.low hr hc);have gqV:=(hV X5.nx (by omega) (by omega) (by omega)).trans ((cW _ lq).trans gqY);refine⟨na,ia,jv,qv,_,rfl,?_,?_,by rw[hB];exact hjV.is,hRV.is hqV (by rw[hR.1,hFl]),?_⟩
 ·rw[hB];exact hnV
 ·rw[hB];exact hiV
 ·rw[hB];refine .inr ⟨X5.nx,0,g.nodes.length,false,aP (oG (List.replicate g.nodes.length 0) 0 B.olds),by rw[hT5],by rw[hT5];exact Ah _,by omega,by unfold cN;rw[gqV];rfl,fun i x hi=>?_⟩;rw[Ao];unfold aP;rw[Aq,hi];rfl
def aBo:AV:=.agg [.int .i64 0,.nilsl,.nilsl,.nilsl,.nilsl,.nilsl]
def aEj(g:aR)(L:List (List Int))(Z:St)(r:AV):Prop:=(jI g L≠0∧r= .tup [aBo,.int .i64 (jI g L)])∨(jI g L=0∧∃first,kT g.infos.length (gJ g.infos.length (L.map (imgI g))) first∧((Dup g L first∧r= .tup [aBo,.int .i64 13])∨(¬Dup g L first∧∃act,aBC g L first act∧∃v,r= .tup [v,.int .i64 0]∧aMD g first act Z v)))
theorem aFh{g:aR}(h:cP g=0):∀i,i<g.nodes.length→(nodeAt g i).weights.length≤100000:=fun i hi=>by
 have G:=vS h;have hE:gK g.players g.infos.length (nodeAt g i)=0:=by
  unfold cP at h;split at h
  ·cases h
  split at h
  ·rename_i h1;exact absurd h h1
  rename_i hN;exact gN (Cu.1 hN) _ (Bc (eR hi))
 rcases G.knd i hi with hk | hk | hk
 ·have:=G.good.wts i hi hk;have:=G.good.nxt i hi;omega
 ·unfold gK at hE;rw[if_neg (by omega),if_pos hk] at hE;split at hE
  ·cases hE
  ·rename_i hc;unfold vF at hc;omega
 ·unfold gK at hE;rw[if_neg (by omega),if_neg (by omega),if_pos hk] at hE;split at hE
  ·cases hE
  ·rename_i hc;unfold mT at hc;omega
theorem aDv{g:aR}{L:List (List Int)}{first:List Int}(hO:kT g.infos.length (gJ g.infos.length (L.map (imgI g))) first):∀s,s<g.infos.length→∃r:Nat,first.getD s 0=(r:Int)∧r<g.infos.length:=fun s hs=>by
 have h1:=hO.le s hs;exact⟨(first.getD s 0).toNat,by omega,by omega⟩
theorem aHr{S:St}{nv iv mv:AV}{g:aR}{L:List (List Int)}(H:Has fns)(hn:aH 6 bP S nv g.nodes)(hi:aH 2 cA S iv g.infos)(hln:g.nodes.length≤100000)(hm:aH 1 iX S mv L):
  gH fns (.fn 48 [] []) [.agg [.int .i64 g.players,nv,iv],mv] S fun r S'=>Same S S'∧aEj g L S' r:=by
 have hz:∀ (F:Fr) (h:Ev.T AB),fV (.build [.int .i64 0,.nilsl,.nilsl,.nilsl,.nilsl,.nilsl] []) F h=some aBo:=fun _ _=>rfl;refine cI H.f48 (by simp) ?_;simp only[↓aF,aE,rE,↓reduceIte,rA];refine bQ ?_;refine cM (by simp only[↓aF,aE,rE,↓reduceIte,rA];exact bB _) ?_;intro S1 s1 n1 g1;simp only[↓aF,aE,rE,↓reduceIte,rA];refine cH ?_;intro S2 s2 n2 g2;try simp only[↓aF,aE,rE,↓reduceIte,rA]
 have s02:=s1.trans s2;have c2:S2.h.get S.nx=_:=(s2.2 _ (by omega)).trans g1;refine bQ ?_;simp only[↓aF,aE,rE,↓reduceIte,rA,fR c2];refine bG ?_;simp only[↓aF,aE,rE,↓reduceIte,rA];refine aX (aGI H (aH.same (E:=bP) bF hn s02) (aH.same (E:=cA) bO hi s02) hln (aH.same (E:=iX) firm_sl hm s02)) ?_;rintro _ S3 ⟨s3,fv,av,e,rfl,hL⟩;simp only[↓aF,aE,rE,↓reduceIte,rA,uW,vE];refine cH ?_;intro S4 s4 n4 g4;try simp only[↓aF,aE,rE,↓reduceIte,rA]
 refine dB (b:=S3.nx) (cs':=[fv,av]) (by simp only[↓aF,aE,rE,↓reduceIte,rA]) (by simp only[↓aF,aE,rE,↓reduceIte,rA];exact bB _) g4 rfl rfl ?_;intro S5 s5 n5 g5;try simp only[↓aF,aE,rE,↓reduceIte,rA]
 have s35:Same S3 S5:=s5.same s4 (Ah _);have s05:=s02.trans (s3.trans s35);have c5:S5.h.get S.nx=_:=((s3.trans s35).2 _ (by omega)).trans c2;have r5:S5.h.get S1.nx=_:=((s3.trans s35).2 _ (by omega)).trans g2;refine gC ?_;simp only[↓aF,aE,rE,↓reduceIte,rA];have fin:∀ (V:St),bS S1.nx S5 V→Same S V:=fun V hv=>⟨by have:=s05.1;have:=hv.1;omega,fun c hc=>(hv.2 c (by have:=s05.1;omega) (by omega)).trans (s05.2 c hc)⟩;by_cases he:e=0;rotate_left
 ·refine aO (by simp only[↓sU,sD,rE,↓reduceIte,rA,Ac (show e≠0 from he)]) ?_;refine bQ ?_;simp only[↓aF,aE,rE,↓reduceIte,rA,hz];refine dB (b:=S1.nx) (cs':=[.int .i64 0,.nilsl,.nilsl,.nilsl,.nilsl,.nilsl]) (by simp only[↓aF,aE,rE,↓reduceIte,rA]) (by simp only[↓aF,aE,rE,↓reduceIte,rA];exact bB _) r5 rfl rfl ?_;intro V v1 k1 d1;try simp only[↓aF,aE,rE,↓reduceIte,rA]
  have ld:=iA (n:=6) d1 rfl;refine aS ?_;simp only[↓aF,aE,rE,↓reduceIte,rA,dK,ld];refine⟨fin V v1,?_⟩;rcases hL with⟨h1,rfl,_⟩ | ⟨h1,first,hO,⟨rfl,hD,_⟩ | ⟨rfl,_⟩⟩
  ·exact .inl ⟨h1,rfl⟩
  ·exact .inr ⟨h1,first,hO,.inl ⟨hD,rfl⟩⟩
  ·exact absurd rfl he
 subst he;refine aN (by simp only[↓sU,sD,rE,↓reduceIte,rA];try first | rfl | trivial) (aI ?_);try simp only[↓aF,aE,rE,↓reduceIte,rA]
 rcases hL with⟨h1,h2,_⟩ | ⟨h1,first,hO,⟨h2,_⟩ | ⟨_,hD,act,hA,hf,ha⟩⟩
 ·exact absurd h2.symm h1
 ·cases h2
 obtain⟨hf0,hL16,hims⟩:=sE h1;have hAll:∀m∈L,fH g m:=fun m hm=>nI (nG hims m hm);have G:=vS hf0;obtain⟨Tr,hT,hTl,_⟩:=G.good.walk;refine bQ ?_;simp only[↓aF,aE,rE,↓reduceIte,rA,fR c5,aK0 g5];refine bG ?_;simp only[↓aF,aE,rE,↓reduceIte,rA];refine aX (aF3 (first:=first) (act:=act) (Tr:=Tr) H G (aA3 G.good hAll hO hD hA) hO.len (aDv hO) (aH.same (E:=bP) bF hn s05) (aH.same (E:=cA) bO hi s05) (hf.same s35) (aH.same (E:=iX) firm_sl ha s35) hT hTl (aFh hf0)) ?_;rintro r S6 ⟨s6,hJ⟩;have lS5:S1.nx<S5.nx:=by have:=(s3.trans s35).1;omega
 obtain⟨nv',iv',jv,qv,pv,rfl, -⟩:=hJ S6 (Ah _) fun _ _ _=>rfl;try simp only[↓aF,aE,rE,↓reduceIte,rA]
 have r6:S6.h.get S1.nx=_:=(s6.2 _ (by omega)).trans r5;refine dB (b:=S1.nx) (cs':=[.int .i64 g.players,nv',iv',jv,qv,pv]) (by simp only[↓aF,aE,rE,↓reduceIte,rA]) (by simp only[↓aF,aE,rE,↓reduceIte,rA];exact bB _) r6 rfl rfl ?_;intro V v1 k1 d1;try simp only[↓aF,aE,rE,↓reduceIte,rA]
 have ld:=iA (n:=6) d1 rfl;refine aS ?_;simp only[↓aF,aE,rE,↓reduceIte,rA,dK,ld];exact⟨⟨by have:=s05.1;have:=s6.1;omega,fun c hc=>(v1.2 c (by have:=s05.1;have:=s6.1;omega) (by omega)).trans ((s6.2 c (by have:=s05.1;omega)).trans (s05.2 c hc))⟩,.inr ⟨h1,first,hO,.inr ⟨hD,act,hA,_,rfl,hJ V v1.1 fun c h0 hc=>v1.2 c hc (by omega)⟩⟩⟩
def dO(g:aR):Nat→Nat
 | 0=>0
 | s+1=>dO g s+cR g s
def jQ(g:aR)(p:K2):Nat:=dO g p.1+p.2
def aAa(g:aR)(p:K2):Prop:=p.1<g.infos.length∧p.2<cR g p.1
section
variable {g:aR}{L:List (List Int)}{m:List Int}{p q:K2}
theorem aIn{s t:Nat}(h:s≤t):dO g s≤dO g t:=by
 induction h with
 | refl=>exact Ah _
 | step _ ih=>exact Ak ih (Av _ _)
theorem uD(h:aAa g p):jQ g p<dO g g.infos.length:=by
 have h1:dO g (p.1+1)≤dO g g.infos.length:=aIn h.1;have h2:dO g (p.1+1)=dO g p.1+cR g p.1:=rfl;have:=h.2;unfold jQ;omega
theorem aJ2(hp:aAa g p)(hq:aAa g q)(e:jQ g p=jQ g q):p=q:=by
 obtain⟨s,a⟩:=p;obtain⟨t,b⟩:=q;have h1:=hp.2;have h2:=hq.2;unfold jQ at e;simp only at h1 h2 e;have key:∀ {s t:Nat},s<t→dO g s+cR g s≤dO g t:=fun {s t} h=>aIn (g:=g) (Nat.succ_le_of_lt h);rcases Dg s t with h | rfl | h
 ·have:=key h;omega
 ·rw[show a=b by omega]
 ·have:=key h;omega
theorem aKy:∀ {n x:Nat},x<dO g n→∃s a,s<n∧a<cR g s∧dO g s+a=x
 | 0,x,h=>absurd h (Bs x)
 | n+1,x,h=>by
  have h:x<dO g n+cR g n:=h;by_cases e:x<dO g n
  ·obtain⟨s,a,h1,h2,h3⟩:=aKy e;exact⟨s,a,by omega,h2,h3⟩
  ·exact⟨n,x - dO g n,Cw _,by omega,by omega⟩
open Classical in
noncomputable def aE6(g:aR)(x:Nat):K2:=if h:∃p:K2,aAa g p∧jQ g p=x then Classical.choose h else(0,0)
theorem aB5(h:aAa g p):aE6 g (jQ g p)=p:=by
 have hx:∃q:K2,aAa g q∧jQ g q=jQ g p:=⟨p,h,rfl⟩;unfold aE6;rw[dif_pos hx];exact aJ2 (Ea hx).1 h (Ea hx).2
theorem aLL{x:Nat}(h:x<dO g g.infos.length):aAa g (aE6 g x)∧jQ g (aE6 g x)=x:=by
 obtain⟨s,a,h1,h2,h3⟩:=aKy h;have hx:∃q:K2,aAa g q∧jQ g q=x:=⟨(s,a),⟨h1,h2⟩,h3⟩;unfold aE6;rw[dif_pos hx];exact Ea hx
noncomputable def pmL(g:aR)(m:List Int):List Int:=(List.range (dO g g.infos.length)).map fun x=>((jQ g (aCJ g m (aE6 g x)):Nat):Int)
theorem aMH{x:Nat}(h:x<dO g g.infos.length):(pmL g m).getD x 0=((jQ g (aCJ g m (aE6 g x)):Nat):Int):=by
 unfold pmL;rw[Ad,Aq,Bl h];rfl
theorem aK4(h:aAa g p):(pmL g m).getD (jQ g p) 0=((jQ g (aCJ g m p):Nat):Int):=by
 rw[aMH (uD h),aB5 h]
theorem aFY(G:dL g)(A:fH g m)(h:aAa g p):aAa g (aCJ g m p):=by
 have h1:=aAg G A h.1;obtain⟨e,h2,_⟩:=aAj G A h.1;have h3:=(h2 p.2 h.2).1;exact⟨by show((imgI g m).getD p.1 0).toNat<_;omega,by show(((imgA g m).getD p.1 []).getD p.2 0).toNat<cR g ((imgI g m).getD p.1 0).toNat;omega⟩
theorem aJN(G:dL g)(hL:∀m∈L,fH g m){x y:Nat}(h:rK (gJ (dO g g.infos.length) (L.map (pmL g))) x y):iB (ChE g L) (aE6 g x) (aE6 g y):=by
 induction h with
 | edge e=>
  obtain⟨hx,q,hq,rfl⟩:=e;obtain⟨m,hm,rfl⟩:=Du.1 hq;obtain⟨v,_⟩:=aLL hx;rw[aMH hx,Ba,aB5 (aFY G (hL m hm) v)];exact .edge ⟨v.1,v.2,m,hm,rfl⟩
 | refl x=>exact .refl _
 | symm _ ih=>exact .symm ih
 | trans _ _ i1 i2=>exact .trans i1 i2
theorem aKn(h:iB (ChE g L) p q):rK (gJ (dO g g.infos.length) (L.map (pmL g))) (jQ g p) (jQ g q):=by
 induction h with
 | edge e=>
  obtain⟨h1,h2,m,hm,rfl⟩:=e;exact .edge ⟨uD ⟨h1,h2⟩,_,List.mem_map_of_mem hm,by rw[aK4 ⟨h1,h2⟩,Ba]⟩
 | refl x=>exact .refl _
 | symm _ ih=>exact .symm ih
 | trans _ _ i1 i2=>exact .trans i1 i2
theorem sN(G:dL g)(hL:∀m∈L,fH g m){o:List Int}(hO:kT (dO g g.infos.length) (gJ (dO g g.infos.length) (L.map (pmL g))) o)(hp:aAa g p)(hq:aAa g q):o.getD (jQ g p) 0=o.getD (jQ g q) 0↔iB (ChE g L) p q:=by
 constructor
 ·intro e;have h1:=hO.con _ (uD hp);have h2:=hO.con _ (uD hq);rw[e] at h1;have:=aJN G hL (h1.trans (.symm h2))
  rwa [aB5 hp,aB5 hq] at this
 ·intro h;exact aEB (f:=fun x=>o.getD x 0) hO.inv (aKn h)
end
section
variable {S:St}{nv iv av:AV}{g:aR}{a:List Int}
theorem aFn(H:Has fns)(hf:cP g=0)(hn:aH 6 bP S nv g.nodes)(hi:aH 2 cA S iv g.infos)(ha:bK .i64 S av a)(A:fH g a):
  gH fns (.fn 25 [] []) [.agg [.int .i64 g.players,nv,iv],av] S fun r S'=>Same S S'∧∃v,r= .tup [v,.int .i64 0]∧cC v v=true∧∀Z,S'.nx≤Z.nx→(∀c,S.nx≤c→c<S'.nx→Z.h.get c=S'.h.get c)→bK .i64 Z v (imgI g a):=
 aX (aGD (P:=aHY g a) (ok:=iC g a) H hn hi ha (by have:=(iK hf).n2;omega) (aKX H hn hi ha)) fun r S' h=>by
  obtain⟨s,x,y,e,_,p⟩:=h;rw[A.chk hf] at e;obtain⟨S0,h0,q,_⟩:=p (A.chk hf);have hl:(imgI g a).length=g.infos.length:=by unfold imgI;rw[Aj,Bk]
  rw[←hl] at q;exact⟨s,x,e,q.self,fun Z hn hk=>(q.move hn fun c hc=>hk c (Ak h0 (q.blk hc).1) (q.blk hc).2.1).is⟩
theorem aCo(H:Has fns)(hf:cP g=0)(hn:aH 6 bP S nv g.nodes)(hi:aH 2 cA S iv g.infos)(ha:bK .i64 S av a)(A:fH g a):
  gH fns (.fn 26 [] []) [.agg [.int .i64 g.players,nv,iv],av] S fun r S'=>Same S S'∧∃v,r= .tup [v,.int .i64 0]∧cC v v=true∧∀Z,S'.nx≤Z.nx→(∀c,S.nx≤c→c<S'.nx→Z.h.get c=S'.h.get c)→aH 1 iX Z v (imgA g a):=
 aX (aDU (P:=aHY g a) (ok:=iC g a) H hn hi ha (by have:=(iK hf).n2;omega) (aKX H hn hi ha)) fun r S' h=>by
  obtain⟨s,x,y,e,_,p⟩:=h;rw[A.chk hf] at e;obtain⟨S0,h0,_,cs,bs,q,h4⟩:=p (A.chk hf);have hl:(imgA g a).length=g.infos.length:=by unfold imgA;rw[Aj,Bk]
  refine⟨s,_,e,q.self,fun Z hn hk=>?_⟩;have q:=q.move hn fun c hc=>hk c (Ak h0 (q.blk hc).1) (q.blk hc).2.1;have h4:=h4.move hn fun j hj=>hk _ (Ak h0 (h4.bl j hj).1) (h4.bl j hj).2.1;rcases q with⟨rfl,h0,_⟩ | ⟨b,rfl,_,h2,h3,_⟩
  ·exact .inl ⟨Bw.1 (by omega),.inl rfl⟩
  ·rw[←hl];exact h4.is h3 h2 (Ah _)
end
theorem aDV(b:Bool)(l:List cL):dI (.minmax b l)=false:=rfl
theorem aLZ{ops:List AO}{X:St}{F:Fr}{inr:Bool}{ob n x y:Nat}{out:List Int}{Q:Out→bH→St→Prop}(he:ops=aNy++aOg)(p4:aB 4 F= .sl ob 0 n n true)(p17:aB 17 F= .int .i64 (x:Int))(p18:aB 18 F= .int .i64 (y:Int))(hx:x<n)(hy:y<n)(ho:X.h.get ob=some (.cells (aP out) true 1))(hl:out.length=n)(lob:ob<X.nx)
  (hQ:∀F' Z,(∀j,j<117→aB j F'=aB j F)→bS ob X Z→Z.h.get ob=some (.cells (aP ((out.set x (yB (out.getD x 0) (out.getD y 0))).set y (yB (out.getD x 0) (out.getD y 0)))) true 1)→Q .normal ⟨F',inr⟩ Z):iH fns (.drw ops) ⟨F,inr⟩ X Q:=by
 have hlen:ops.length=26:=by rw[he];rfl
 have ia:=dT (b:=ob) (o:=true) hx;have ib:=dT (b:=ob) (o:=true) hy;have la:=sR ho (show x<out.length by omega);have lb:=sR ho (show y<out.length by omega);refine aCv 6291443 (W:=fun _=>False) (K:=23) (R:=fun F' Z ps=>ps= []∧Z.h=X.h∧Z.nx=X.nx+26∧(∀j,j<117→aB j F'=aB j F)∧aB 119 F'= .sl ob 0 n n true∧aB 120 F'= .int .i64 (y:Int)∧aB 129 F'= .int .i64 (yB (out.getD x 0) (out.getD y 0))∧aB 138 F'= .int .i64 (yB (out.getD x 0) (out.getD y 0))∧aB 139 F'= .ptr ob x) he rfl rfl rfl (fun X1 x1 hh1 nn1=>?_) ?_
 ·unfold aNy;simp only[↓sU,sD,rE,↓reduceIte,rA,p4,p17,p18,aG,ia,ib,la,lb,lob,Al,cS,xZ,aDV,Ax,false_implies,true_and,iF,lT,aE9];refine⟨hh1,by rw[nn1,hlen],fun j hj=>?_⟩
  repeat rw[if_neg (by omega)]
 rintro F' S' ps hs' ls ⟨rfl,hZ,nZ,hk,p119,p120,p129,p138,p139⟩ hlast hld;unfold aOg;have hoZ:S'.h.get ob=some (.cells (aP out) true 1):=by rw[hZ];exact ho
 refine jP (v:=.undef) (S1:=⟨S'.h.set ob (some (.cells (aP (out.set x (yB (out.getD x 0) (out.getD y 0)))) true 1)),S'.nx⟩) hlast (fun call=>?_) ?_
 ·rw[dN];simp only[fD,p139,p129,bE,cO,aK];exact qL (S:=S') hoZ (by omega)
 simp only[lA,dW,pK,aK,kI,aW,fD,bE,eF,cE,p119,p120,aG,ib,rE,↓reduceIte,rA];refine jP (v:=.undef) (S1:=⟨(S'.h.set ob (some (.cells (aP (out.set x (yB (out.getD x 0) (out.getD y 0)))) true 1))).set ob (some (.cells (aP ((out.set x (yB (out.getD x 0) (out.getD y 0))).set y (yB (out.getD x 0) (out.getD y 0)))) true 1)),S'.nx⟩) (show Nat.testBit 33554431 23=true by decide) (fun call=>?_) ?_
 ·rw[dN];simp only[fD,cE,rE,↓reduceIte,p138,bE,cO,aK];exact qL (S:=⟨S'.h.set ob (some (.cells (aP (out.set x (yB (out.getD x 0) (out.getD y 0)))) true 1)),S'.nx⟩) (by simp only;rw[T.get_set,if_pos rfl]) (by rw[Ap];omega)
 rw[fZ];refine⟨?_,?_⟩
 ·simp only[Bz,Cd,Di,Cf,Cc];exact hld _ _
 ·simp only[bE,eF];refine hQ _ _ (fun j hj=>?_) ⟨by show X.nx≤S'.nx;omega,fun c hc hne=>?_⟩ (by simp only;rw[T.get_set,if_pos rfl])
  ·rw[cE,if_neg (by omega)];exact hk j hj
  ·simp only;rw[T.get_set,if_neg hne,T.get_set,if_neg hne,hZ]
def nC(ov:AV)(Y X:St):Prop:=Y.nx≤X.nx∧∀c,c<Y.nx→bD ov≠some c→X.h.get c=Y.h.get c
theorem nC.refl(ov:AV)(Y:St):nC ov Y Y:=⟨Ah _,fun _ _ _=>rfl⟩
theorem nC.trans{ov:AV}{Y X Z:St}(h:nC ov Y X)(h':nC ov X Z):nC ov Y Z:=⟨Ak h.1 h'.1,fun c hc hn=>(h'.2 c (Ae hc h.1) hn).trans (h.2 c hc hn)⟩
theorem Same.butO{ov:AV}{Y X:St}(h:Same Y X):nC ov Y X:=⟨h.1,fun c hc _=>h.2 c hc⟩
def oM(g:aR):List Int:=(List.range g.infos.length).map fun s=>((dO g s:Nat):Int)
theorem zT{g:aR}{s:Nat}(h:s<g.infos.length):(oM g).getD s 0=((dO g s:Nat):Int):=by
 unfold oM;rw[Ad,Aq,Bl h];rfl
def PaF(ov fv mv nv av:AV)(gb q:Nat)(fl:Bool)(F:Fr):Prop:=aB 1 F=mv∧aB 2 F= .ptr gb 0∧aB 4 F=ov∧aB 5 F=fv∧aB 9 F= .bool fl∧aB 10 F= .int .i64 (q:Int)∧aB 11 F=nv∧aB 13 F=av
def aO3(S Y:St)(g:aR)(L:List (List Int))(ov fv mv nv av:AV)(gb q s:Nat)(out0:List Int)(k:Nat)(A:bH)(X:St):Prop:=A.inr=false∧nC ov Y X∧∃ (a:Nat) (out:List Int) (fl:Bool),a+k=cR g s∧fP 1 S X ov out.length (aP out)∧aCr (dO g g.infos.length) (L.map (pmL g)) out0 out fl q (dO g s+a)∧PaF ov fv mv nv av gb q fl A.F∧aB 15 A.F= .int .i64 (s:Int)∧aB 16 A.F= .int .i64 (a:Int)
theorem aLr{α:Type}{f:α→List Int}{L:List α}{d:α}{j:Nat}(hj:j<L.length):(L.map f).getD j []=f (L.getD j d):=by
 rw[Ad,Aq,Ab hj,Ad,Ab hj];rfl
theorem aNn{S Y X0:St}{g:aR}{L:List (List Int)}{m:List Int}{ov fv mv nv av:AV}{F0:Fr}{gb q s:Nat}{out0 out1:List Int}{fl:Bool}(G:dL g)(hL:∀m∈L,fH g m)(hq:q<L.length)(hm:L.getD q []=m)(hs:s<g.infos.length)(hI:∀Z,nC ov Y Z→bK .i64 Z nv (imgI g m))(hA:∀Z,nC ov Y Z→aH 1 iX Z av (imgA g m))(hF:∀Z,nC ov Y Z→bK .i64 Z fv (oM g))(hN:dO g g.infos.length≤1000000)
  (hX:nC ov Y X0) (ho:fP 1 S X0 ov out1.length (aP out1)) (hD:aCr (dO g g.infos.length) (L.map (pmL g)) out0 out1 fl q (dO g s)) (hP:PaF ov fv mv nv av gb q fl F0) (p15:aB 15 F0= .int .i64 (s:Int)) (p16:aB 16 F0= .int .i64 ((0:Nat):Int)):
  iH fns aPH ⟨F0,false⟩ X0 fun o A' X=>o= .normal∧aO3 S Y g L ov fv mv nv av gb q s out0 0 A' X:=by
 refine aL (bL (aO3 S Y g L ov fv mv nv av gb q s out0) ?_ (cR g s) _ _ ⟨rfl,hX,0,out1,fl,by omega,ho,hD,hP,p15,p16⟩);clear hP p15 p16 hD ho hX;rintro k ⟨F,inr⟩ X ⟨q0,hX,a,out,fl,hak,ho,hD,⟨p1,p2,p4,p5,p9,p10,p11,p13⟩,p15,p16⟩;simp only at q0 p1 p2 p4 p5 p9 p10 p11 p13 p15 p16;subst q0;have hmem:m∈L:=by rw[←hm,Ad,Ab hq];exact Bo hq
 have AM:=hL m hmem;have hAl:(imgA g m).length=g.infos.length:=by unfold imgA;rw[Aj,Bk]
 have hIl:(imgI g m).length=g.infos.length:=by unfold imgI;rw[Aj,Bk]
 have hrow:((imgA g m).getD s []).length=cR g s:=by
  rw[aE3 hs,Aj,Bk,oZ G hs]
 obtain⟨rb,rq,ra,r1,r2,r3,r4⟩:=oN (hA X hX) (show s<(imgA g m).length by omega);have r4':=r4 X (Same.refl X);refine gC ?_;simp only[↓sU,sD,rE,↓reduceIte,rA,p13,p15,p16,aG,r1,r4',r2.len,Ag,hrow];by_cases hlt:a<cR g s;rotate_left
 ·refine aN (by simp only[↓sU,sD,rE,↓reduceIte,rA,Aa (show ¬ (a:Int)<((cR g s:Nat):Int) by omega)]) (bM ?_);simp only[↓sU,sD,rE,↓reduceIte,rA];obtain rfl:k=0:=by omega
  exact⟨rfl,hX,a,out,fl,hak,ho,hD,(by refine⟨?_,?_,?_,?_,?_,?_,?_,?_⟩<;>simp only[↓sU,sD,rE,↓reduceIte,rA,p1,p2,p4,p5,p9,p10,p11,p13]),by refine⟨?_,?_⟩<;>simp only[↓sU,sD,rE,↓reduceIte,rA,p15,p16]⟩
 refine aO (by simp only[↓sU,sD,rE,↓reduceIte,rA,Ac (show(a:Int)<((cR g s:Nat):Int) by omega)]) (aI ?_);try simp only[↓sU,sD,rE,↓reduceIte,rA]
 have hV:aAa g (s,a):=⟨hs,hlt⟩;have hVi:=aFY G AM hV;have xlt:=uD hV;have ylt:=uD hVi;have hpm:=aK4 (m:=m) hV;have hImg:=aAg G AM hs;obtain⟨t,ht⟩:∃t:Nat,(imgI g m).getD s 0=(t:Int):=⟨((imgI g m).getD s 0).toNat,by omega⟩;have hk0:=(aAj G AM hs).2.1 a hlt;obtain⟨b,hb⟩:∃b:Nat,((imgA g m).getD s []).getD a 0=(b:Int):=⟨(((imgA g m).getD s []).getD a 0).toNat,by omega⟩;have hik:aCJ g m (s,a)=(t,b):=by unfold aCJ;simp only;rw[ht,hb,Ba,Ba]
 rw[hik] at hVi ylt hpm;have htn:t<g.infos.length:=hVi.1;generalize hx:jQ g (s,a)=x at *;generalize hy:jQ g (t,b)=y at *;have hx':dO g s+a=x:=hx;have hy':dO g t+b=y:=hy;obtain⟨f1,f2,f3,f4,f5⟩:=iQ (hF X hX) (i:=s) (by unfold oM;rw[Aj,Bk];exact hs);obtain⟨e1,e2,e3,e4,e5⟩:=iQ (hF X hX) (i:=t) (by unfold oM;rw[Aj,Bk];exact htn);obtain⟨i1,i2,i3,i4,i5⟩:=iQ (hI X hX) (i:=s) (by omega);obtain⟨u1,u2,u3,u4,u5⟩:=iQ r2 (i:=a) (by omega);rw[zT hs] at f5;rw[zT htn] at e5;rw[ht] at i5;rw[hb] at u5;have w1:IntKind.i64.wrap ((a:Int)+1)=((a+1:Nat):Int):=by rw[wrap_i64 (by omega) (by omega)];omega
 have w2:IntKind.i64.wrap (((dO g s:Nat):Int)+(a:Int))=(x:Int):=by rw[wrap_i64 (by omega) (by omega)];omega
 have w3:IntKind.i64.wrap (((dO g t:Nat):Int)+(b:Int))=(y:Int):=by rw[wrap_i64 (by omega) (by omega)];omega
 have sra:=bK.self r2;refine aA (aL (aA (gP ?_)));simp only[↓sU,sD,rE,↓reduceIte,rA,p5,p11,p13,p15,p16,aG,f3,f5,i3,i5,e3,e5,r1,r4',sra,u3,u5,cS,w2,w3];have hUp:=hD.1;have hol':=hUp.len;rcases ho with⟨_,h0,_⟩ | ⟨ob,hov,b0,b1,b2,b3⟩
 ·omega
 have p4':aB 4 F= .sl ob 0 (dO g g.infos.length) (dO g g.infos.length) true:=by rw[p4,hov,hol']
 have ia:=dT (b:=ob) (o:=true) xlt;have la:=sR b2 (show x<out.length by omega);have ib:=dT (b:=ob) (o:=true) ylt;have lb:=sR b2 (show y<out.length by omega);have hc:rK (gJ (dO g g.infos.length) (L.map (pmL g))) x y:=.edge ⟨xlt,_,List.mem_map_of_mem hmem,by rw[hpm];rfl⟩;have hedge:=fun hne=>aId hUp xlt ylt hc hne;have hLq:(L.map (pmL g)).getD q []=pmL g m:=by rw[aLr (d:=[]) hq,hm]
 have hbo:bD ov=some ob:=by rw[hov];rfl
 refine aA (gP ?_);simp only[↓sU,sD,rE,↓reduceIte,rA,p4',aG,ia,la,ib,lb,cS];generalize ea:out.getD x 0=xv at *;generalize eb:out.getD y 0=yv at *;by_cases hne:xv=yv
 ·subst hne;refine aN (by simp only[↓sU,sD,rE,↓reduceIte,rA,Aa (show ¬xv≠xv from fun h=>h rfl)]) (aI ?_);try simp only[↓sU,sD,rE,↓reduceIte,rA]
  refine aJ ?_;simp only[↓sU,sD,rE,↓reduceIte,rA,p16,w1];refine⟨k - 1,by omega,rfl,hX.trans ⟨Ak (Av _ _) (Av _ _),fun _ _ _=>rfl⟩,a+1,out,fl,by omega,.inr ⟨ob,hov,b0,Ae b1 (Ak (Av _ _) (Av _ _)),b2,b3⟩,⟨hUp,?_⟩,(by refine⟨?_,?_,?_,?_,?_,?_,?_,?_⟩<;>simp only[↓sU,sD,rE,↓reduceIte,rA,p1,p2,p4,p5,p9,p10,p11,p13]),by refine⟨?_,?_⟩<;>simp only[↓sU,sD,rE,↓reduceIte,rA,p15]⟩;rcases hD.2 with h | ⟨h1,h2,h3⟩
  ·exact .inl h
  ·refine .inr ⟨h1,h2,fun q' x' hx1 hc'=>?_⟩;by_cases e:q'=q∧x'=x
   ·obtain⟨rfl,rfl⟩:=e;rw[hLq,hpm,Ba,←h2,ea,eb]
   ·exact h3 q' x' hx1 (by omega)
 ·obtain⟨u1,u2⟩:=hedge hne;refine aO (by simp only[↓sU,sD,rE,↓reduceIte,rA,Ac (show xv≠yv from hne)]) ?_;refine aA (aLZ (ob:=ob) (n:=dO g g.infos.length) (x:=x) (y:=y) (out:=out) rfl (by simp only[↓sU,sD,rE,↓reduceIte,rA,p4']) (by simp only[↓sU,sD,rE,↓reduceIte,rA]) (by simp only[↓sU,sD,rE,↓reduceIte,rA]) xlt ylt b2 hol' (Ae b1 (Ak (Av _ _) (Av _ _))) ?_);intro F' Z hk hZ gZ;rw[ea,eb] at gZ;have g1:=hk 1 (by omega);have g2:=hk 2 (by omega);have g4:=hk 4 (by omega);have g5:=hk 5 (by omega);have g10:=hk 10 (by omega);have g11:=hk 11 (by omega);have g13:=hk 13 (by omega);have g15:=hk 15 (by omega);have g16:=hk 16 (by omega);simp only[↓sU,sD,rE,↓reduceIte,rA,p1,p2,p4,p5,p10,p11,p13,p15,p16] at g1 g2 g4 g5 g10 g11 g13 g15 g16;try simp only[↓sU,sD,rE,↓reduceIte,rA]
  refine aJ ?_;simp only[↓sU,sD,rE,↓reduceIte,rA];refine aJ ?_;simp only[↓sU,sD,rE,↓reduceIte,rA,g16,w1];have hXZ:nC ov X Z:=⟨Ak (Ak (Av _ _) (Av _ _)) hZ.1,fun c hc hn=>hZ.2 c (Ae hc (Ak (Av _ _) (Av _ _))) fun e=>hn (by rw[e];exact hbo)⟩;refine⟨k - 1,by omega,rfl,hX.trans hXZ,a+1,_,true,by omega,.inr ⟨ob,by rw[hov,Ap,Ap],b0,Ae b1 hXZ.1,gZ,by rw[mI,Dh]⟩,⟨u1,.inl ⟨rfl,?_⟩⟩,(by refine⟨?_,?_,?_,?_,?_,?_,?_,?_⟩<;>simp only[↓sU,sD,rE,↓reduceIte,rA,g1,g2,g4,g5,g10,g11,g13]),by refine⟨?_,?_⟩<;>simp only[↓sU,sD,rE,↓reduceIte,rA,g15]⟩;rcases hD.2 with h | ⟨h1,h2,h3⟩
  ·omega
  ·rw[←h2];exact u2
end Go.Ev.Gl
