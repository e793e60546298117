import Derived.Test.YtoojnpjgnnpllaaGl28
open Nat renaming reduceEqDiff -> rE, reduceAdd -> rA
set_option maxHeartbeats 0
set_option linter.unusedSimpArgs false
set_option linter.unusedVariables false
namespace Go.Ev.Gl
variable {fns:T dY}
def aTk(C:XC)(P:Nat->Prop)(g:aS)(S0 Xe Xs:St)(m:LyS)(pl first:ba)(act:a9)(old gb yb:Nat)(r1 r2 v13:AV)(o:Out)(A:bG)(Z:St):Prop:=o= .normal/\A.inr=false/\∃m',pR C P g S0 Z m' pl/\m'.l=m.l/\m'.da=(fB first m.da (b8 g old)).1/\gL C.W m Xe m' Z/\(Xs.nx<=Z.nx/\∀c,c<Xs.nx->pI C.W m c->c≠yb->aZ v13≠some c->Z.h.get c=Xs.h.get c)/\Z.h.get yb=some (.cells [.int .i64 (b8 g old).kind,.int .i64 (b8 g old).player,.int .i64 (fB first m.da (b8 g old)).2,.bw,r1,r2] false 0)/\pI C.W m' yb/\yb<Z.nx/\Z.h.get gb=some (.cells [C.ps,C.nv,C.iv] false 0)/\pI C.W m' gb/\gb<Z.nx/\bI .i64 Z v13 (eO act (b8 g old))/\(∀c,aZ v13=some c->pI C.W m' c)/\(∀c,(aZ r1=some c\/aZ r2=some c)->pI C.W m' c)/\LxT C g gb A.F/\aD 11 A.F= .int .i64 (m.l.length:Int)/\aD 12 A.F= .ptr yb 0/\aD 13 A.F=v13
def aRj(C:XC)(P:Nat->Prop)(g:aS)(S0 Xe:St)(m:LyS)(pl first:ba)(act:a9)(f old gb:Nat)(v13:AV)(k:Nat)(A:bG)(Z:St):Prop:=A.inr=false/\∃j,j+k=(eO act (b8 g old)).length/\∃m' v l2,pR C P g S0 Z m' (qD pl m.l.length (old::(eR (fQ g first act f) ((eO act (b8 g old)).take j) (m.l.length+1) (fB first m.da (b8 g old)).1).2.olds))/\m'.l=m.l++((vT first m.da (b8 g old) (eR (fQ g first act f) ((eO act (b8 g old)).take j) (m.l.length+1) (fB first m.da (b8 g old)).1).1,v)::l2)/\l2.map (·.1)=(eR (fQ g first act f) ((eO act (b8 g old)).take j) (m.l.length+1) (fB first m.da (b8 g old)).1).2.bh/\m'.da=(eR (fQ g first act f) ((eO act (b8 g old)).take j) (m.l.length+1) (fB first m.da (b8 g old)).1).2.da/\m'.da.length<=m'.l.length/\gL C.W m Xe m' Z/\bI .i64 Z v13 (eO act (b8 g old))/\(∀c,aZ v13=some c->pI C.W m' c)/\Z.h.get gb=some (.cells [C.ps,C.nv,C.iv] false 0)/\pI C.W m' gb/\gb<Z.nx/\LxT C g gb A.F/\aD 11 A.F= .int .i64 (m.l.length:Int)/\aD 13 A.F=v13/\aD 16 A.F= .int .i64 (j:Int)
theorem pR.plc{C:XC}{P:Nat->Prop}{g:aS}{S0 X:St}{m:LyS}{pl pl':ba}(h:pR C P g S0 X m pl)(hl:pl'.length=pl.length):pR C P g S0 ⟨X.h.set C.qb (some (.cells (aU pl') false 0)),X.nx⟩ m pl':=by
 have k1:∀c,c≠C.qb->(X.h.set C.qb (some (.cells (aU pl') false 0))).get c=X.h.get c:=fun c hc=>by rw[di,if_neg hc]
 have⟨d1,d2,d3⟩:=h.n1;have w:=(h.b.wg _ XC.wq).1;exact⟨h.b.local (Ag _) fun c _ hw _=>k1 c fun e=>hw (by rw[e];exact XC.wq),(k1 _ d2).trans h.gj,(k1 _ d3).trans h.go,fk,h.n1,hl.trans h.pll,⟨h.s.1,fun c hc=>(k1 c ar).trans (h.s.2 c hc)⟩⟩
theorem aK1{C:XC}{P:Nat->Prop}{g:aS}{S0:St}{first:ba}{act:a9}{Tr:List dM}(H:Has fns)(hP:∀c,S0.nx<=c->P c)(G:aJp g)(hR:qA g act)(hFl:first.length=g.bj.length)(hFr:∀s,s<g.bj.length->∃r:Nat,first.getD s 0=(r:Int)/\r<g.bj.length)(hn:aE 6 bX S0 C.nv g.bh)(hi:aE 2 bP S0 C.iv g.bj)(hf:bI .i64 S0 C.fv first)(ha:aE 1 iD S0 C.av act)(hps:C.ps= .int .i64 g.bo)(hT:iN g=some Tr)(hTl:Tr.length=g.bh.length)(hwl:∀i,i<g.bh.length->(b8 g i).weights.length<=100000)(hi0:∀i,i<g.bh.length->(b8 g i).kind≠2->(b8 g i).info=0):
  ∀ (f:Nat) {X:St} {m:LyS} {pl:ba} {old:Nat},g.bh.length<=f+old->old<g.bh.length->m.l.length+oC Tr old<=g.bh.length->m.da.length<=m.l.length->pR C P g S0 X m pl->
  fZ fns (.fn 141 [] []) [.agg [C.ps,C.nv,C.iv],.int .i64 (old:Int),C.fv,.sl C.ob 0 g.bj.length g.bj.length false,.ptr C.jb 0] X fun _ Z=>∃m' l',pR C P g S0 Z m' (qD pl m.l.length (fQ g first act f old m.l.length m.da).olds)/\m'.l=m.l++l'/\l'.map (·.1)=(fQ g first act f old m.l.length m.da).bh/\m'.da=(fQ g first act f old m.l.length m.da).da/\m'.da.length<=m'.l.length/\gL C.W m X m' Z:=by
 have Gg:=G.good;have hN:=Gg.n2;have snv:=aE.self hn;have siv:=aE.self hi;intro f
 induction f with
 | zero=>intro X m pl old h1 h2;omega
 | succ f ih=>
  intro X m pl old hfu hold hsz hrl hS;have hks:=aEk hT hTl hold;refine cF H.f141 (by simp) ?_;refine am ?_;refine bO ?_;refine cI (by refine am ?_;exact aY _) ?_;intro X1 x1 n1 g1;refine am ?_;obtain⟨gb,hgb⟩:∃gb,gb=X.nx:=⟨_,rfl⟩;rw[<-hgb] at g1;simp only[<-hgb];have s01:=hS.s.trans x1;obtain⟨_,bx,qx,hiax,hbx,_,⟨xa,xw,xp,rfl,hxa,hxw,hxp⟩,hldx,_⟩:=aE.at hn ay (gI hold);rw[<-iA s01 hbx] at hldx;have lg1:=fR g1;refine bO (ej @aC @aB lg1 @aH hiax hldx ?_);refine cA ?_;intro X2 x2 n2 g2;try refine am ?_
  refine cQ (b:=X1.nx) (cs':=[.int .i64 (b8 g old).kind,.int .i64 (b8 g old).player,.int .i64 (b8 g old).info,xa,xw,xp]) (ap) (by refine am ?_;exact aY _) g2 rfl rfl ?_;intro X3 x3 n3 g3;refine am ?_;have s13:Same X1 X3:=x3.same x2 (Ag _);obtain⟨xb,hxb⟩:∃xb,xb=X1.nx:=⟨_,rfl⟩;rw[<-hxb] at g3;simp only[<-hxb];have sX3:=x1.trans s13;have hS3:∀ {P':Nat->Prop},(∀c,c<X.nx->P c->P' c)->pR C P' g S0 X3 m pl:=fun h=>(hS.mono h).same sX3;have hS3':=hS3 (P':=P) fun _ _ h=>h;have hnl:=hS3'.b.nod.len;have gj3:=hS3'.gj;refine bO (dt @bN @bM @aC @aB (dK gj3) hnl ?_);have hpl:=hS.pll;have hia:=dR (b:=C.qb) (o:=false) hold;refine bO (du @bN @bM @aC @aB (dZ gj3) @aH hia ?_);refine fI (fun call=>by refine dn @dS @cR ?_;exact sM (S:=X3) hS3'.gq ar) ?_;refine ae ?_;obtain⟨X4,hX4⟩:∃X4:St,X4=⟨X3.h.set C.qb (some (.cells (aU (pl.set old (m.l.length:Int))) false 0)),X3.nx⟩:=⟨_,rfl⟩;rw[<-hX4];have n4:X4.nx=X3.nx:=by rw[hX4]
  have k4:∀c,c≠C.qb->X4.h.get c=X3.h.get c:=fun c hc=>by rw[hX4];simp only;rw[di,if_neg hc]
  have hS4:∀ {P':Nat->Prop},(∀c,c<X.nx->P c->P' c)->pR C P' g S0 X4 m (pl.set old (m.l.length:Int)):=fun h=>by
   rw[hX4];exact(hS3 h).plc (by rw[Aq])
  have K4:gL C.W m X m X4:=(gL.same sX3).trans (.off (Eq n4.symm) fun c _ hp=>k4 c fun e=>hp.1 (by rw[e];exact XC.wq));have lqX:C.qb<X.nx:=(hS.b.wg _ XC.wq).2;have g34:=(k4 xb ar).trans g3;have gg4:=(k4 gb ar).trans ((s13.2 _ ar).trans g1);have lxb:xb<X4.nx:=by omega
  have lgb:gb<X4.nx:=by omega
  have hS4':=hS4 (P':=P) fun _ _ h=>h;refine aA (aP4 rfl (af) g34 lxb (hxw.same hS4'.s) (hxp.same hS4'.s) (hwl old hold) (by have:=Gg.pay old hold;omega) ?_);intro F5 X5 r1 r2 yb hk5 p12 s5 h5a h5b g5 i1 i2 hb12;have q2:=hk5 2 ar ar;have q3:=hk5 3 ar ar;have q4:=hk5 4 ar ar;have q5:=hk5 5 ar ar;have q10:=hk5 10 ar ar;have q11:=hk5 11 ar ar;simp only[↓sU,sD,rE,↓reduceIte,rA] at q2 q3 q4 q5 q10 q11;have g35:=(s5.2 _ lxb).trans g34;try refine ae ?_
  refine bO ?_;refine fN rG ?_;intro X6 x6 n6 g6;have g36:=(x6.2 _ (au s5.1)).trans g35;refine ed q10 @aC @aB (dC g36) ?_;have hnx:=Gg.nxt old hold;have⟨v13,X7,e7,s7,q7⟩:=aAD g6 (hxa.same (hS4'.s.trans (s5.trans x6))) ar;refine fI (fun call=>by refine dx @gO ?_;exact e7) ?_;refine am ?_;have g67:=(s7.2 _ ar).trans g6;have⟨i13,c13,k13⟩:=aMP (au s7.1) g67 q7;have s57:=x6.trans s7;have s47:=s5.trans s57;have g57:=(s57.2 _ h5b).trans g5;have g37:=(s57.2 _ (au s5.1)).trans g35;have gg7:=(s47.2 _ lgb).trans gg4;have lb13:∀c,aZ v13=some c->X5.nx<=c:=fun c hc=>by rcases k13 c hc with h | h<;>omega
  have l57:=s57.1;have l5:=s5.1;obtain⟨P',hP'⟩:∃P':Nat->Prop,P'=fun c=>c≠yb/\aZ v13≠some c/\P c:=⟨_,rfl⟩;have hmP:∀c,c<X.nx->P c->P' c:=fun c hc hp=>by rw[hP'];exact⟨ar,fun e=>by have:=lb13 c e;omega,hp⟩
  have hS7:pR C P' g S0 X7 m (pl.set old (m.l.length:Int)):=(hS4 hmP).same s47;have fr:∀c,X.nx<=c->pI C.W m c:=fun c hc=>hS.b.fresh hc;have K7:gL C.W m X m X7:=K4.trans (.same s47);have hb12':∀c,(aZ r1=some c\/aZ r2=some c)->c<X5.nx:=fun c hc=>by
   rcases hc with hc | hc
   ·exact eU i1 hc
   ·exact eU i2 hc
  refine aA (aX (Q:=aTk C P' g S0 X X7 m (pl.set old (m.l.length:Int)) first act old gb yb r1 r2 v13) (aA (aJ ?_)) ?_)
  ·refine dq q10 @aC @aB (eK g37) ?_;by_cases hk:(b8 g old).kind=2
   ·refine aN (by simp only[↓sU,sD,rE,↓reduceIte,rA,Ac hk]) ?_;have⟨a1,a2,a3⟩:=aDV Gg hold hk;have⟨w1,w2,w3⟩:=hR.2 _ a1;have hne:(b8 g old).next≠ []:=fun e=>by
     have:=(G.mov old hold hk).1;rw[e] at this;exact absurd this ay
    rcases q7 with⟨e,_⟩ | ⟨hg7,_⟩
    ·exact absurd e hne
    rcases hg7 with⟨_,e,_⟩ | ⟨cb,hcbv,c1,c2,c3,_⟩
    ·exact absurd (Bu.1 e) hne
    have hcb5:=lb13 cb (by rw[hcbv];rfl);have eh:fB first m.da (b8 g old)=((kR m.da (first.getD (b8 g old).info.toNat 0).toNat).1,((kR m.da (first.getD (b8 g old).info.toNat 0).toNat).2:Int)):=by unfold fB;rw[if_pos hk]
    have eo:eO act (b8 g old)=pL (act.getD (b8 g old).info.toNat []) (b8 g old).next (b8 g old).next.length:=by unfold eO;rw[if_pos hk]
    have hXS:=hS.s.1;refine aX (aPB (C:=C) (P:=P') (Xe:=X) (s:=(b8 g old).info.toNat) (act:=act) (first:=first) (x11:=.int .i64 (m.l.length:Int)) (gb:=gb) (xb:=xb) (yb:=yb) (cb:=cb) (k:=.int .i64 (b8 g old).kind) (p:=.int .i64 (b8 g old).player) (xa:=xa) (xw:=xw) (xp:=xp) (r1:=r1) (r2:=r2) hS7 (by rw[hP'];exact fun h=>h.1 rfl) (by rw[hP'];exact fun h=>h.2.1 (by rw[hcbv];rfl)) K7 ar ar ar ar ar ar ar ar ar (fr _ ar) (fr _ ar) (fr _ ar) (fr _ ar) ar ar ar c2 (fun c hc=>⟨fr _ (by have:=(hb12 c hc).1;omega),by have:=hb12' c hc;omega⟩) ha hf hi hxa ar (by rw[hR.1];exact a1) (by rw[hFl];exact a1) (by rw[w1];exact a2) (by rw[<-a2];exact w2) (hFr _ a1) ar (by rw[a3];exact g37) g57 gg7 c3 (by refine⟨?_,?_,?_,?_⟩<;>simp only[↓sU,sD,rE,↓reduceIte,rA,q2,q3,q4,q5]) (ah q10) (ah q11) (ah p12) (ah hcbv)) ?_;rintro o A' Z ⟨h1,h2,m',h3,h4,h5,h6,h6b,h7,h8,h9,h10,h11,h12,h13,h14,h15,h16,h17,h18,h19⟩;exact⟨h1,h2,m',h3,h4,by rw[eh];exact h5,h6,by rw[hcbv];exact h6b,by rw[eh];exact h7,h8,h9,h10,h11,h12,by rw[eo,hcbv];exact h13,by rw[hcbv];exact h14,h15,h16,h17,h18,by rw[hcbv];exact h19⟩
   ·refine aM (by simp only[↓sU,sD,rE,↓reduceIte,rA,Aa hk]) (aI ?_);have eh:fB first m.da (b8 g old)=(m.da,0):=by unfold fB;rw[if_neg hk,hi0 old hold hk]
    have eo:eO act (b8 g old)=(b8 g old).next:=by unfold eO;rw[if_neg hk]
    exact⟨rfl,rfl,m,hS7,rfl,by rw[eh],K7,⟨Ag _,fun _ _ _ _ _=>rfl⟩,by rw[eh];exact g57,fr _ ar,ar,gg7,fr _ ar,ar,by rw[eo];exact i13,fun c hc=>fr c (by have:=lb13 c hc;omega),fun c hc=>fr c (by have:=(hb12 c hc).1;omega),(by refine⟨?_,?_,?_,?_⟩<;>simp only[↓sU,sD,rE,↓reduceIte,rA,q2,q3,q4,q5]),by refine⟨?_,?_,?_⟩<;>simp only[↓sU,sD,rE,↓reduceIte,rA,q11,p12]⟩
  have i1':=i1.same s57;have i2':=i2.same s57;have hl17:∀c,(aZ r1=some c\/aZ r2=some c)->c<X7.nx:=fun c hc=>by have:=hb12' c hc;omega
  have hn13:∀c,(aZ r1=some c\/aZ r2=some c)->c≠yb/\aZ v13≠some c/\pI C.W m c:=fun c hc=>⟨(hb12 c hc).2,fun e=>by have:=lb13 c e;have:=hb12' c hc;omega,fr c (by have:=(hb12 c hc).1;omega)⟩;have hP1:∀c,(aZ r1=some c\/aZ r2=some c)->P' c:=fun c hc=>by
   rw[hP'];exact⟨(hn13 c hc).1,(hn13 c hc).2.1,hP c (by have:=(hb12 c hc).1;have:=hS.s.1;omega)⟩
  have hXn:=hS.s.1;clear q2 q3 q4 q5 q10 q11 p12 hS7 K7 hS4' hS4 hS3' hS3 gj3 g37 g36 g35 g34 g57 g5 gg7 gg4 g67 g6 q7 i13 e7;rintro o ⟨F1,inr⟩ Z ⟨rfl,q0,m1,hZ,el,er,KZ,⟨nZ7,kZ⟩,gyZ,pyZ,lyZ,ggZ,pgZ,lgZ,iv13,bv13,b12Z,⟨p2,p3,p4,p5⟩,p11,p12,p13⟩;simp only at q0 p2 p3 p4 p5 p11 p12 p13;subst q0;have i1Z:bI .i64 Z r1 (b8 g old).weights:=eT i1' nZ7 fun c hc=>kZ c (hl17 c (.inl hc)) (hn13 c (.inl hc)).2.2 (hn13 c (.inl hc)).1 (hn13 c (.inl hc)).2.1;have i2Z:bI .i64 Z r2 (b8 g old).pay:=eT i2' nZ7 fun c hc=>kZ c (hl17 c (.inr hc)) (hn13 c (.inr hc)).2.2 (hn13 c (.inr hc)).1 (hn13 c (.inr hc)).2.1;try refine ae ?_
  have hsz1:=hsz;refine aA (aOl (W:=C.W) (P:=P') (g:=g) (S0:=S0) (X:=Z) (yb:=yb) (jb:=C.jb) (m:=m1) (a:=vT first m.da (b8 g old) []) (rw':=r1) (rp:=r2) rfl hZ.b hZ.s.1 p4 p12 gyZ hZ.gj lyZ XC.wj i1Z i2Z (fun c hc=>⟨b12Z c hc,hP1 c hc⟩) rfl (by rw[el];omega) ?_);intro F2 Y na' hk2 hbY KY gjY kY;have q2:=(hk2 2 ar).trans p2;have q3:=(hk2 3 ar).trans p3;have q4:=(hk2 4 ar).trans p4;have q5:=(hk2 5 ar).trans p5;have q11:=(hk2 11 ar).trans p11;have q13:=(hk2 13 ar).trans p13;have⟨d1,d2,d3⟩:=hS.n1;have wgZ:=hZ.b.wg;have hSY:pR C P g S0 Y {m1 with na:=na',l:=m1.l++ [(vT first m.da (b8 g old) [],AV.bw)]} (pl.set old (m.l.length:Int)):=⟨hbY.mono fun c _ h=>by rw[hP'] at h;exact h.2.2,gjY,(kY _ (wgZ _ XC.wo).2 XC.wo (Bt d1)).trans hZ.go,(kY _ (wgZ _ XC.wq).2 XC.wq (Bt d2)).trans hZ.gq,hS.n1,hZ.pll,hZ.b.same0 KY hZ.s⟩;have KXY:=KZ.trans KY;have v13Y:bI .i64 Y v13 (eO act (b8 g old)):=eT iv13 KY.1 fun c hc=>(KY.2 c (eU iv13 hc) (bv13 c hc)).1;have b13Y:∀c,aZ v13=some c->pI C.W {m1 with na:=na',l:=m1.l++ [(vT first m.da (b8 g old) [],AV.bw)]} c:=fun c hc=>(KY.2 c (eU iv13 hc) (bv13 c hc)).2;have ggY:=(KY.2 gb lgZ pgZ).1.trans ggZ;have pgY:=(KY.2 gb lgZ pgZ).2;have lgY:=Ae lgZ KY.1;have hrl1:=aBr (first:=first) (da:=m.da) (x:=b8 g old);have hol:(eO act (b8 g old)).length=(b8 g old).next.length:=(jD Gg hR hold).length_eq;try refine ae ?_
  refine aX (Q:=fun o A' W=>o= .normal/\aRj C P g S0 X m pl first act f old gb v13 0 A' W) (aA (aJ ?_)) ?_
  ·refine ae ?_;refine aK (bH (aRj C P g S0 X m pl first act f old gb v13) ?_ (eO act (b8 g old)).length _ _ ⟨rfl,0,ar,_,AV.bw,[],hSY,by rw[Fb,<-el];rfl,by rw[Fb];rfl,by rw[Fb];exact er,by show m1.da.length<=(m1.l++ [_]).length;rw[er,el,Ao,Bl];omega,KXY,v13Y,b13Y,ggY,pgY,lgY,(by refine⟨?_,?_,?_,?_⟩<;>simp only[↓sU,sD,rE,↓reduceIte,rA,q2,q3,q4,q5]),ah q11,ah q13,ag⟩);clear hS KZ hZ hbY hSY KXY v13Y KY q2 q3 q4 q5 q11 q13 p2 p3 p4 p5 p11 p12 p13 gjY kY b13Y ggY pgY;rintro k ⟨F,inr⟩ W ⟨q0,j,hjk,m',v,l2,hW,e1,e2,e3,e4,e5,e6,e7,ggW,pgW,lgW,⟨t2,t3,t4,t5⟩,t11,t13,t16⟩;simp only at q0 t2 t3 t4 t5 t11 t13 t16;subst q0;refine fC (dq t13 t16 e6.len @Ah ?_);by_cases hlt:j<(eO act (b8 g old)).length;rotate_left
   ·refine aM (by simp only[↓sU,sD,rE,↓reduceIte,rA,Aa (show ¬ (j:Int)<(((eO act (b8 g old)).length:Nat):Int) by omega)]) (bJ ?_);refine ae ?_;obtain rfl:k=0:=by omega
    exact⟨rfl,j,hjk,m',v,l2,hW,e1,e2,e3,e4,e5,e6,e7,ggW,pgW,lgW,(by refine⟨?_,?_,?_,?_⟩<;>simp only[↓sU,sD,rE,↓reduceIte,rA,t2,t3,t4,t5]),by refine⟨?_,?_,?_⟩<;>simp only[↓sU,sD,rE,↓reduceIte,rA,t11,t13,t16]⟩
   refine aN (by simp only[↓sU,sD,rE,↓reduceIte,rA,Ac (show(j:Int)<(((eO act (b8 g old)).length:Nat):Int) by omega)]) (aI ?_);try refine ae ?_
   have w1:=dh j
   have hmem:(eO act (b8 g old)).getD j 0∈(b8 g old).next:=(jD Gg hR hold).mem_iff.1 (by rw[Ad,Ab hlt];exact Bo hlt);have⟨q,hq,hqe⟩:=Cm hmem;have hkid:=Gg.kids old hold q hq;rw[show(b8 g old).next.getD q 0=(b8 g old).next[q] by rw[Ad,Ab hq];rfl,hqe] at hkid;obtain⟨cn,hcn⟩:∃cn:Nat,(eO act (b8 g old)).getD j 0=(cn:Int):=⟨((eO act (b8 g old)).getD j 0).toNat,ar⟩;rw[hcn] at hkid;have htk:(eO act (b8 g old)).take (j+1)=(eO act (b8 g old)).take j++ [(cn:Int)]:=by
    rw[Bn,Ab hlt,<-hcn,Ad,Ab hlt];rfl
   generalize hKB:eR (fQ g first act f) ((eO act (b8 g old)).take j) (m.l.length+1) (fB first m.da (b8 g old)).1=KB at *;have hl2:l2.length=KB.2.bh.length:=by rw[<-e2,Aj]
   have hml:m'.l.length=m.l.length+1+KB.2.bh.length:=by rw[e1,Ao,Ax,hl2];omega
   have hszc:m'.l.length+oC Tr cn<=g.bh.length:=by
    have h1:=tG (T:=Tr) (lay:=fQ g first act f) (l:=(eO act (b8 g old)).take j) (fun k hk i da=>rQ Gg hR hT hTl (by
     obtain⟨q,hq,rfl⟩:=Cm ((jD Gg hR hold).mem_iff.1 (Ea hk));have:=Gg.kids old hold q hq;rw[Ad,Ab hq] at this;simp only[Dq] at this;omega)) (i:=m.l.length+1) (da:=(fB first m.da (b8 g old)).1)
    rw[hKB] at h1;have h2:=aEC (((jD Gg hR hold).map Int.toNat).map (oC Tr));have h3:=aFu (l:=((eO act (b8 g old)).map Int.toNat).map (oC Tr)) (j:=j) (by rw[Aj,Aj];exact hlt);rw[<-List.map_take,<-List.map_take] at h3;have h4:(((eO act (b8 g old)).map Int.toNat).map (oC Tr)).getD j 0=oC Tr cn:=by
     rw[Ad,Am,Am,Ab hlt];have:(eO act (b8 g old))[j]=(cn:Int):=by rw[<-hcn,Ad,Ab hlt];rfl
     rw[this];rfl
    omega
   have hiW:m'.l[m.l.length]? =some (vT first m.da (b8 g old) KB.1,v):=by
    rw[e1,Be (Ag _),Eh];rfl
   have hkl:=aBs (lay:=fQ g first act f) (l:=(eO act (b8 g old)).take j) (i:=m.l.length+1) (da:=(fB first m.da (b8 g old)).1);rw[hKB,Ca] at hkl;refine aA (aK (aA (aN7 (W:=C.W) (P:=P) (g:=g) (S0:=S0) (jb:=C.jb) (i:=m.l.length) (m:=m') (v:=v) (a:=vT first m.da (b8 g old) KB.1) rfl hW.b hW.s.1 hiW (by show KB.1.length<=100000;omega) (ah t4) (ah t11) hW.gj XC.wj ?_)));intro F' V v2 hk' hbV KV kV;have wgW:=hW.b.wg;obtain⟨mV,hmV⟩:∃mV:LyS,mV= {m' with l:=m'.l.set m.l.length ({vT first m.da (b8 g old) KB.1 with next:=KB.1++ [(m'.l.length:Int)]},v2)}:=⟨_,rfl⟩;have hbV':qC C.W P g S0 V mV:=by rw[hmV];exact hbV
   have KV':gL C.W m' W mV V:=by rw[hmV];exact KV
   have hmVl:mV.l.length=m'.l.length:=by rw[hmV];simp only;rw[Aq]
   have hmVr:mV.da=m'.da:=by rw[hmV]
   have hLV:pR C P g S0 V mV (qD pl m.l.length (old::KB.2.olds)):=⟨hbV',by rw[hmV];exact(kV _ (wgW _ XC.wj).2 XC.wj).trans hW.gj,by rw[hmVr];exact(kV _ (wgW _ XC.wo).2 XC.wo).trans hW.go,(kV _ (wgW _ XC.wq).2 XC.wq).trans hW.gq,hW.n1,hW.pll,hW.b.same0 KV hW.s⟩;clear hbV KV;have e6V:bI .i64 V v13 (eO act (b8 g old)):=eT e6 KV'.1 fun c hc=>(KV'.2 c (eU e6 hc) (e7 c hc)).1;have e7V:∀c,aZ v13=some c->pI C.W mV c:=fun c hc=>(KV'.2 c (eU e6 hc) (e7 c hc)).2;have ggV:=(KV'.2 gb lgW pgW).1.trans ggW;have pgV:=(KV'.2 gb lgW pgW).2;have lgV:=Ae lgW KV'.1;have g2:=hk' 2 ar;have g3:=hk' 3 ar;have g4:=hk' 4 ar;have g5:=hk' 5 ar;have g11:=hk' 11 ar;have g13:=hk' 13 ar;have g16:=hk' 16 ar;simp only[↓sU,sD,rE,↓reduceIte,rA,t2,t3,t4,t5,t11,t13,t16] at g2 g3 g4 g5 g11 g13 g16;have⟨kb,kq,i1,lk,i3⟩:=jB e6V hlt;rw[hcn] at i3;have sgv:cE (.agg [C.ps,C.nv,C.iv]) (.agg [C.ps,C.nv,C.iv])=true:=uK (by rw[hps];exact dH ..) snv siv;try refine ae ?_
   refine aPz (gb:=gb) (kb:=kb) (kq:=kq) (pv:=C.ps) (nv:=C.nv) (iv:=C.iv) (v13:=v13) (fv:=C.fv) (ov:=.sl C.ob 0 g.bj.length g.bj.length false) (jv:=.ptr C.jb 0) (j:=j) (c:=(cn:Int)) rfl g5 g13 g16 g2 g3 g4 ggV lgV sgv i1 lk i3 ?_;refine aW (ih (m:=mV) (pl:=qD pl m.l.length (old::KB.2.olds)) (old:=cn) ar ar  (by rw[hmVl];exact hszc) (by rw[hmVl,hmVr];exact e4) (hLV.same (Same.nx V 9))) ?_;rintro _ W2 ⟨m2,l3,hW2,a1,a2,a3,a4,a5⟩ F3 hk3;have h2':=(hk3 2 ar).trans g2;have h3':=(hk3 3 ar).trans g3;have h4':=(hk3 4 ar).trans g4;have h5':=(hk3 5 ar).trans g5;have h11':=(hk3 11 ar).trans g11;have h13':=(hk3 13 ar).trans g13;have h16':=(hk3 16 ar).trans g16;have KW2:gL C.W mV V m2 W2:=(gL.same (Same.nx V 9)).trans a5;rw[hmVl,hml] at hW2 a2 a3;rw[hmVr] at hW2 a2 a3;try refine ae ?_
   refine aJ (dn h16' w1 ?_);have kk:=zM (lay:=fQ g first act f) (l:=(eO act (b8 g old)).take j) (k:=(cn:Int)) (i:=m.l.length+1) (da:=(fB first m.da (b8 g old)).1);rw[hKB,<-htk,Az,<-e3] at kk;refine⟨k - 1,ar,rfl,j+1,ar,m2,v2,l2++l3,?_,?_,?_,?_,a4,e5.trans (KV'.trans KW2),eT e6V KW2.1 fun c hc=>(KW2.2 c (eU e6V hc) (e7V c hc)).1,fun c hc=>(KW2.2 c (eU e6V hc) (e7V c hc)).2,(KW2.2 gb lgV pgV).1.trans ggV,(KW2.2 gb lgV pgV).2,Ae lgV KW2.1,(by refine⟨?_,?_,?_,?_⟩<;>simp only[↓sU,sD,rE,↓reduceIte,rA,h2',h3',h4',h5']),by refine⟨?_,?_,?_⟩<;>simp only[↓sU,sD,rE,↓reduceIte,rA,h11',h13']⟩
   ·rw[kk];simp only;have hol2:KB.2.olds.length=KB.2.bh.length:=by rw[<-hKB];exact vY fun o i da=>aBT
    have hpe:qD pl m.l.length (old::(KB.2.olds++(fQ g first act f cn (m.l.length+1+KB.2.bh.length) m'.da).olds))=qD (qD pl m.l.length (old::KB.2.olds)) (m.l.length+1+KB.2.bh.length) (fQ g first act f cn (m.l.length+1+KB.2.bh.length) m'.da).olds:=by
     rw[<-Ck,aEu,Ax,hol2,show m.l.length+(KB.2.bh.length+1)=m.l.length+1+KB.2.bh.length by omega]
    rw[hpe];exact hW2
   ·rw[kk];simp only;rw[a1,hmV];simp only;rw[hml,e1,List.set_append_right _ _ (Ag _),Eh,Cj];rfl
   ·rw[kk];simp only;rw[Dz,e2,a2]
   ·rw[kk];exact a3
  rintro o ⟨F3,inr⟩ W ⟨rfl,q0,j,hjk,m',v,l2,hW,e1,e2,e3,e4,e5,_⟩;obtain rfl:j=(eO act (b8 g old)).length:=by omega
  rw[List.take_length] at hW e1 e2 e3;refine⟨_,rfl,m',_,hW,e1,?_,e3,e4,e5⟩;rw[Dc,e2];rfl
def eqK(g:aS)(o:ba)(p q:K2):Prop:=o.getD (kN g p) 0=o.getD (kN g q) 0
instance eqKDec(g:aS)(o:ba)(p q:K2):Decidable (eqK g o p q):=by unfold eqK;exact inferInstance
def aAo(g:aS)(o:ba)(r i a:Nat):Nat->ba
 | 0=>[]
 | b+1=>if eqK g o (r,b) (i,a) then aAo g o r i a b++ [(b:Int)] else aAo g o r i a b
def aBm(g:aS)(o:ba)(r i:Nat):Nat->ba
 | 0=>[]
 | a+1=>aBm g o r i a++aAo g o r i a (cG g r)
theorem aDG{g:aS}{o:ba}{r i a:Nat}:∀ {n:Nat},(aAo g o r i a n).length<=n
 | 0=>Ag _
 | n+1=>by
  unfold aAo;have:=aDG (g:=g) (o:=o) (r:=r) (i:=i) (a:=a) (n:=n);split
  ·rw[Ao,Bl];omega
  ·omega
theorem aHL{g:aS}{o:ba}{r i:Nat}(h:cG g r<=1000):∀ {n:Nat},(aBm g o r i n).length<=1000 * n
 | 0=>Ag _
 | n+1=>by
  unfold aBm;have:=aHL (g:=g) (o:=o) (r:=r) (i:=i) h (n:=n);have:=aDG (g:=g) (o:=o) (r:=r) (i:=i) (a:=n) (n:=cG g r);rw[Ao];omega
structure XjC where
 (gb r4:Nat) (fv ov wv nv iv:AV)
structure XjB(C:XjC)(B:St)(g:aS)(first o:ba):Prop where
 gg:B.h.get C.gb=some (.cells [.int .i64 g.bo,C.nv,C.iv] false 0)
 ii:aE 2 bP B C.iv g.bj
 ff:bI .i64 B C.fv first
 oo:bI .i64 B C.ov o
 ww:bI .i64 B C.wv (pK g)
 lo:o.length=dU g g.bj.length
 lf:first.length=g.bj.length
 fr:∀s,s<g.bj.length->∃r:Nat,first.getD s 0=(r:Int)/\r<g.bj.length
 g4:B.h.get C.r4=some (.cells [.int .i64 0,.bw,.bw,.bw,.bw,.bw] false 0)
 lg:C.gb<B.nx
 l4:C.r4<B.nx
def XjT(C:XjC)(F:Fr)(atv rowv:AV)(i:Nat):Prop:=aD 2 F= .ptr C.gb 0/\aD 4 F= .ptr C.r4 0/\aD 7 F=C.fv/\aD 9 F=C.ov/\aD 10 F=C.wv/\aD 11 F=atv/\aD 12 F= .int .i64 (i:Int)/\aD 13 F=rowv
def XjR(C:XjC)(B:St)(g:aS)(o:ba)(A:bG)(Y:St):Prop:=bT C.r4 B Y/\Y.h.get C.r4=some (.cells [.int .i64 0,.bw,.bw,.bw,.bw,.bw] false 0)/\(∃i a b,i<g.bj.length/\b<a/\a<cG g i/\eqK g o (i,a) (i,b))/\aD 4 A.F= .ptr C.r4 0/\aD 5 A.F= .int .i64 13
theorem qB{g:aS}(G:dE g){s:Nat}(hs:s<g.bj.length):cG g s<=1000:=by
 rw[qQ G hs];exact G.nxt _ (G.fst s hs).1
theorem aJu{C:XjC}{B X:St}{g:aS}{first o:ba}(G:dE g)(hB:XjB C B g first o)(hX:Same B X){s a:Nat}(hs:s<g.bj.length)(ha:a<cG g s):∃fb fq ob oq,dO (.slice 1) C.wv s=some (.ptr fb fq)/\dT (.ptr fb fq) false 1 X.h=some (.int .i64 ((dU g s:Nat):Int))/\IntKind.i64.wrap (((dU g s:Nat):Int)+(a:Int))=((kN g (s,a):Nat):Int)/\dO (.slice 1) C.ov (kN g (s,a))=some (.ptr ob oq)/\dT (.ptr ob oq) false 1 X.h=some (.int .i64 (o.getD (kN g (s,a)) 0)):=by
 have hl:=vK (g:=g) (p:=(s,a)) ⟨hs,ha⟩;have hb:=rO G (Ag g.bj.length);have hNI:=G.ni;have⟨f1,f2,f3,_,f5⟩:=jB (hB.ww.same hX) (i:=s) (by unfold pK;rw[Aj,Ay];exact hs);have⟨o1,o2,o3,_,o5⟩:=jB (hB.oo.same hX) (i:=kN g (s,a)) (by rw[hB.lo];exact hl);rw[aA8 hs] at f5;have e:kN g (s,a)=dU g s+a:=rfl;exact⟨f1,f2,o1,o2,f3,f5,by rw[wrap_i64 ar ar];omega,o3,o5⟩
def aNG(C:XjC)(X0:St)(g:aS)(o:ba)(atv rowv:AV)(i a:Nat)(k:Nat)(A:bG)(X:St):Prop:=A.inr=false/\X.h=X0.h/\X0.nx<=X.nx/\∃b,b+k=a/\(∀b',b'<b->¬eqK g o (i,a) (i,b'))/\XjT C A.F atv rowv i/\aD 14 A.F= .int .i64 (a:Int)/\aD 15 A.F= .int .i64 (b:Int)
theorem aO0{C:XjC}{B X0:St}{g:aS}{first o:ba}{atv rowv:AV}{i a:Nat}{F0:Fr}(G:dE g)(hB:XjB C B g first o)(hX0:Same B X0)(hi:i<g.bj.length)(ha:a<cG g i)(hT:XjT C F0 atv rowv i)(p14:aD 14 F0= .int .i64 (a:Int))(p15:aD 15 F0= .int .i64 ((0:Nat):Int)):
  iM fns qk8 ⟨F0,false⟩ X0 fun oo A' X=>(oo= .normal/\aNG C X0 g o atv rowv i a 0 A' X)\/(oo= .ret/\XjR C B g o A' X):=by
 refine aX (Q:=fun oo A' X=>(oo= .normal/\aNG C X0 g o atv rowv i a 0 A' X)\/(oo= .ret/\XjR C B g o A' X)) (aK (bH (aNG C X0 g o atv rowv i a) ?_ a _ _ ⟨rfl,rfl,Ag _,0,ar,fun b' h=>absurd h (Bm _),hT,p14,p15⟩)) fun _ _ _ h=>h;clear hT p14 p15;rintro k ⟨F,inr⟩ X ⟨q0,hX,nX,b,hbk,hno,⟨p2,p4,p7,p9,p10,p11,p12,p13⟩,p14,p15⟩;simp only at q0 p2 p4 p7 p9 p10 p11 p12 p13 p14 p15;subst q0;have sX0:Same X0 X:=⟨nX,fun c _=>by rw[hX]⟩;have sX:=hX0.trans sX0;refine fC (dn p14 p15 ?_);by_cases hlt:b<a;rotate_left
 ·refine aM (by simp only[↓sU,sD,rE,↓reduceIte,rA,Aa (show ¬ (b:Int)<(a:Int) by omega)]) (bJ ?_);refine ae ?_;obtain rfl:k=0:=by omega
  exact .inl ⟨rfl,hX,nX,b,hbk,hno,(by refine⟨?_,?_,?_,?_,?_,?_,?_,?_⟩<;>simp only[↓sU,sD,rE,↓reduceIte,rA,p2,p4,p7,p9,p10,p11,p12,p13]),by refine⟨?_,?_⟩<;>simp only[↓sU,sD,rE,↓reduceIte,rA,p14,p15]⟩
 refine aN (by simp only[↓sU,sD,rE,↓reduceIte,rA,Ac (show(b:Int)<(a:Int) by omega)]) (aI ?_);try refine ae ?_
 have hac:=qB G hi;have w1:=dh b
 have⟨fb,fq,ob,oq,a1,a2,a3,a4,a5⟩:=aJu G hB sX hi ha;have⟨fb',fq',ob',oq',c1,c2,c3,c4,c5⟩:=aJu G hB sX hi (show b<cG g i by omega);rw[a1] at c1;cases c1;refine aA (aK (aA (gD ?_)));simp only[↓sU,sD,rE,↓reduceIte,rA,p9,p10,p12,p14,p15,aH,a1,a2,a3,a4,a5,c3,c4,c5,dH];by_cases e:eqK g o (i,a) (i,b)
 ·refine aN (by simp only[↓sU,sD,rE,↓reduceIte,rA,Ac (show o.getD (kN g (i,a)) 0=o.getD (kN g (i,b)) 0 from e)]) ?_;refine bO ?_;have hz:∀ (F:Fr) (h:Ev.T AB),gM (.build [.int .i64 0,.bw,.bw,.bw,.bw,.bw] []) F h=some aE3:=fun _ _=>rfl;have g4:=(sX.2 _ hB.l4).trans hB.g4;refine dm hz ?_;refine cQ (b:=C.r4) (cs':=[.int .i64 0,.bw,.bw,.bw,.bw,.bw]) (ah p4) (by refine ae ?_;exact aY _) g4 rfl rfl ?_;intro V v1 k1 d1;refine ae ?_;refine aP ?_;refine .inr ⟨rfl,⟨Al sX.1 (Al (Ba _ _) v1.1),fun c hc hne=>(v1.2 c (Ae (Ae hc sX.1) (Ba _ _)) hne).trans (sX.2 c hc)⟩,d1,⟨i,a,b,hi,hlt,ha,e⟩,by refine⟨?_,?_⟩<;>simp only[↓sU,sD,rE,↓reduceIte,rA,p4]⟩
 ·refine aM (by simp only[↓sU,sD,rE,↓reduceIte,rA,Aa (show ¬o.getD (kN g (i,a)) 0=o.getD (kN g (i,b)) 0 from e)]) (aI ?_);try refine ae ?_
  refine aJ (dn p15 w1 ?_);refine⟨k - 1,ar,rfl,hX,Al nX (Ba _ _),b+1,ar,fun b' h=>?_,(by refine⟨?_,?_,?_,?_,?_,?_,?_,?_⟩<;>simp only[↓sU,sD,rE,↓reduceIte,rA,p2,p4,p7,p9,p10,p11,p12,p13]),by refine⟨?_,?_⟩<;>simp only[↓sU,sD,rE,↓reduceIte,rA,p14]⟩;by_cases h':b'=b
  ·rw[h'];exact e
  ·exact hno b' ar
def aPg(C:XjC)(Y0:St)(g:aS)(o:ba)(atv:AV)(r i a:Nat)(r0:ba)(k:Nat)(A:bG)(X:St):Prop:=A.inr=false/\Same Y0 X/\∃b rowv,b+k=cG g r/\fY 1 Y0 X rowv (r0++aAo g o r i a b).length (aU (r0++aAo g o r i a b))/\XjT C A.F atv rowv i/\aD 14 A.F= .int .i64 (a:Int)/\aD 16 A.F= .int .i64 (b:Int)
theorem aP6{C:XjC}{B Y0 X0:St}{g:aS}{first o r0:ba}{atv rowv:AV}{r i a:Nat}{F0:Fr}(G:dE g)(hB:XjB C B g first o)(hBY:Same B Y0)(hX0:Same Y0 X0)(hi:i<g.bj.length)(hr:first.getD i 0=(r:Int))(hrl:r<g.bj.length)(ha:a<cG g i)(hg:fY 1 Y0 X0 rowv r0.length (aU r0))(h0:r0.length<=10000000)(hT:XjT C F0 atv rowv i)(p14:aD 14 F0= .int .i64 (a:Int))(p16:aD 16 F0= .int .i64 ((0:Nat):Int)):
  iM fns aQW ⟨F0,false⟩ X0 fun oo A' X=>oo= .normal/\aPg C Y0 g o atv r i a r0 0 A' X:=by
 refine aK (bH (aPg C Y0 g o atv r i a r0) ?_ (cG g r) _ _ ⟨rfl,hX0,0,rowv,ar,by unfold aAo;rw[Dn];exact hg,hT,p14,p16⟩);clear hT p14 p16 hg hX0;rintro k ⟨F,inr⟩ X ⟨q0,hX,b,rv,hbk,hg,⟨p2,p4,p7,p9,p10,p11,p12,p13⟩,p14,p16⟩;simp only at q0 p2 p4 p7 p9 p10 p11 p12 p13 p14 p16;subst q0;have sX:=hBY.trans hX;have gX:=(sX.2 _ hB.lg).trans hB.gg;have lgX:=Ae hB.lg sX.1;have siv:=aE.self hB.ii;have⟨fb,fq,f1,lfb,f3⟩:=jB (hB.ff.same sX) (i:=i) (by rw[hB.lf];exact hi);rw[hr] at f3;obtain⟨_,ib,iq,i1,lib,_,rfl,_,i3⟩:=aE.at (aE.same (E:=bP) bK hB.ii sX) ay (pJ hrl);have i4:=i3 1 _ rfl;have hacr:(cd g (r:Int)).bt=((cG g r:Nat):Int):=by rw[pT G hrl,qQ G hrl]
 rw[hacr] at i4;refine aA (aA (gD ?_));simp only[↓sU,sD,rE,↓reduceIte,rA,p2,p7,p12,p16,aC,aQ,aB,fH gX,siv,aH,f1,f3,i1,i4,dH];by_cases hlt:b<cG g r;rotate_left
 ·refine aM (by simp only[↓sU,sD,rE,↓reduceIte,rA,Aa (show ¬ (b:Int)<((cG g r:Nat):Int) by omega)]) (bJ ?_);refine ae ?_;obtain rfl:k=0:=by omega
  exact⟨rfl,hX.trans (Same.nx X _),b,rv,hbk,hg.step (Same.nx X _),(by refine⟨?_,?_,?_,?_,?_,?_,?_,?_⟩<;>simp only[↓sU,sD,rE,↓reduceIte,rA,p2,p4,p7,p9,p10,p11,p12,p13]),by refine⟨?_,?_⟩<;>simp only[↓sU,sD,rE,↓reduceIte,rA,p14,p16]⟩
 refine aN (by simp only[↓sU,sD,rE,↓reduceIte,rA,Ac (show(b:Int)<((cG g r:Nat):Int) by omega)]) (aI ?_);try refine ae ?_
 have hac:=qB G hrl;have w1:=dh b
 have⟨fa,fe,oa,oe,a1,a2,a3,a4,a5⟩:=aJu G hB sX hi ha;have⟨fa',fe',oa',oe',c1,c2,c3,c4,c5⟩:=aJu G hB sX hrl hlt;refine aA (aK (aA (gD ?_)));simp only[↓sU,sD,rE,↓reduceIte,rA,p7,p9,p10,p12,p14,p16,aH,f1,f3,a1,a2,a3,a4,a5,c1,c2,c3,c4,c5,dH];by_cases e:eqK g o (r,b) (i,a)
 ·refine aN (by simp only[↓sU,sD,rE,↓reduceIte,rA,Ac (show o.getD (kN g (r,b)) 0=o.getD (kN g (i,a)) 0 from e)]) ?_;obtain⟨Xn,hXn⟩:∃Xn:St,Same X Xn/\Xn.h=X.h/\Xn=Xn:=⟨X,dk X,rfl,rfl⟩;have hml:=aDG (g:=g) (o:=o) (r:=r) (i:=i) (a:=a) (n:=b);have he1:=fun(F:Fr) (id:Nat) (h:aD 115 F= .int .i64 (b:Int))=>nQ (t:=3) (z:=.int .i64 0) (x:=.t 115) (F:=F) (id:=id) (k:=.i64) (n:=(b:Int)) h;refine aJ (dy p13 p16 ?_);refine fN (he1 _ _ (ap)) ?_;intro U u1 u2 u3;have u0:Same X U:=(Same.nx X _).trans ((Same.nx _ _).trans u1);refine ae ?_;have⟨rv',V,eA,gA,bA,nA,kA⟩:=fY.push (bytes:=8) (S0:=⟨U.h,Y0.nx⟩) (S:=U) (w:=(b:Int)) (hg.step u0) ⟨Al hX.1 u0.1,fun _ _=>rfl⟩ u3 (by rw[Ao];unfold room;omega) (by rw[Ao];unfold room;omega);refine fI (fun call=>by refine dm @gO ?_;exact eA) ?_;refine ae ?_;refine aJ (dn p16 w1 ?_);have u00:=u0.1;have hX0:=hX.1;have hYV:Same Y0 V:=⟨ar,fun c hc=>(kA c ar fun e=>by have:=(hg.blk e).1;omega).trans ((u0.2 c ar).trans (hX.2 c hc))⟩;refine⟨k - 1,ar,rfl,hYV,b+1,rv',ar,?_,(by refine⟨?_,?_,?_,?_,?_,?_,?_,?_⟩<;>simp only[↓sU,sD,rE,↓reduceIte,rA,p2,p4,p7,p9,p10,p11,p12]),by refine⟨?_,?_⟩<;>simp only[↓sU,sD,rE,↓reduceIte,rA,p14]⟩;have hm:aAo g o r i a (b+1)=aAo g o r i a b++ [(b:Int)]:=by
   show(if eqK g o (r,b) (i,a) then _ else _)=_;rw[if_pos e]
  rw[hm,<-Cj];exact gA
 ·refine aM (by simp only[↓sU,sD,rE,↓reduceIte,rA,Aa (show ¬o.getD (kN g (r,b)) 0=o.getD (kN g (i,a)) 0 from e)]) (aI ?_);try refine ae ?_
  refine aJ (dn p16 w1 ?_);have hm:aAo g o r i a (b+1)=aAo g o r i a b:=by
   show(if eqK g o (r,b) (i,a) then _ else _)=_;rw[if_neg e]
  refine⟨k - 1,ar,rfl,hX.trans ((Same.nx X _).trans (Same.nx _ _)),b+1,rv,ar,by rw[hm];exact hg.step ((Same.nx X _).trans (Same.nx _ _)),(by refine⟨?_,?_,?_,?_,?_,?_,?_,?_⟩<;>simp only[↓sU,sD,rE,↓reduceIte,rA,p2,p4,p7,p9,p10,p11,p12,p13]),by refine⟨?_,?_⟩<;>simp only[↓sU,sD,rE,↓reduceIte,rA,p14]⟩
def RwI(C:XjC)(Y0:St)(g:aS)(o:ba)(atv:AV)(r i:Nat)(k:Nat)(A:bG)(X:St):Prop:=A.inr=false/\Same Y0 X/\∃a rowv,a+k=cG g i/\fY 1 Y0 X rowv (aBm g o r i a).length (aU (aBm g o r i a))/\(∀a' b',b'<a'->a'<a->¬eqK g o (i,a') (i,b'))/\XjT C A.F atv rowv i/\aD 14 A.F= .int .i64 (a:Int)
theorem aQ2{C:XjC}{B Y0:St}{g:aS}{first o:ba}{atv:AV}{r i:Nat}{F0:Fr}(G:dE g)(hB:XjB C B g first o)(hBY:Same B Y0)(hi:i<g.bj.length)(hr:first.getD i 0=(r:Int))(hrl:r<g.bj.length)(hT:XjT C F0 atv .bw i)(p14:aD 14 F0= .int .i64 ((0:Nat):Int)):
  iM fns aQA ⟨F0,false⟩ Y0 fun oo A' X=>(oo= .normal/\RwI C Y0 g o atv r i 0 A' X)\/(oo= .ret/\XjR C B g o A' X):=by
 refine aX (Q:=fun oo A' X=>(oo= .normal/\RwI C Y0 g o atv r i 0 A' X)\/(oo= .ret/\XjR C B g o A' X)) (aK (bH (RwI C Y0 g o atv r i) ?_ (cG g i) _ _ ⟨rfl,dk _,0,.bw,ar,.inl ⟨rfl,rfl,rfl⟩,fun a' b' _ h=>absurd h (Bm _),hT,p14⟩)) fun _ _ _ h=>h;clear hT p14;rintro k ⟨F,inr⟩ X ⟨q0,hX,a,rv,hak,hg,hno,⟨p2,p4,p7,p9,p10,p11,p12,p13⟩,p14⟩;simp only at q0 p2 p4 p7 p9 p10 p11 p12 p13 p14;subst q0;have sX:=hBY.trans hX;have gX:=(sX.2 _ hB.lg).trans hB.gg;obtain⟨_,ib,iq,i1,lib,_,rfl,_,i3⟩:=aE.at (aE.same (E:=bP) bK hB.ii sX) ay (pJ hi);have i4:=i3 1 _ rfl;have hacr:(cd g (i:Int)).bt=((cG g i:Nat):Int):=by rw[pT G hi,qQ G hi]
 rw[hacr] at i4;refine fC ?_;simp only[↓sU,sD,rE,↓reduceIte,rA,p2,p12,p14,aC,aB,fH gX,aH,i1,i4];by_cases hlt:a<cG g i;rotate_left
 ·refine aM (by simp only[↓sU,sD,rE,↓reduceIte,rA,Aa (show ¬ (a:Int)<((cG g i:Nat):Int) by omega)]) (bJ ?_);refine ae ?_;obtain rfl:k=0:=by omega
  exact .inl ⟨rfl,hX,a,rv,hak,hg,hno,(by refine⟨?_,?_,?_,?_,?_,?_,?_,?_⟩<;>simp only[↓sU,sD,rE,↓reduceIte,rA,p2,p4,p7,p9,p10,p11,p12,p13]),ah p14⟩
 refine aN (by simp only[↓sU,sD,rE,↓reduceIte,rA,Ac (show(a:Int)<((cG g i:Nat):Int) by omega)]) (aI ?_);try refine ae ?_
 have hac:=qB G hi;have hacr':=qB G hrl;have hrq:=aHL (o:=o) (i:=i) (n:=a) hacr';have w1:=dh a
 refine aA (aX (Q:=fun oo A' X1=>(oo= .normal/\A'.inr=false/\aPg C Y0 g o atv r i a (aBm g o r i a) 0 A' X1/\∀b',b'<a->¬eqK g o (i,a) (i,b'))\/(oo= .ret/\XjR C B g o A' X1)) (aK (aA (aX (Q:=fun oo A' X1=>(oo= .normal/\aNG C X g o atv rv i a 0 A' X1)\/(oo= .ret/\XjR C B g o A' X1)) (aA (aJ ?_)) ?_))) ?_)
 ·refine ae ?_;exact aO0 (C:=C) (B:=B) (X0:=X) (g:=g) (first:=first) (o:=o) (atv:=atv) (rowv:=rv) (i:=i) (a:=a) G hB sX hi hlt (by refine⟨?_,?_,?_,?_,?_,?_,?_,?_⟩<;>simp only[↓sU,sD,rE,↓reduceIte,rA,p2,p4,p7,p9,p10,p11,p12,p13]) (ah p14) (ag)
 ·clear p2 p4 p7 p9 p10 p11 p12 p13 p14;rintro oo ⟨F1,inr⟩ X1 (⟨rfl,q0,hX1,nX1,b,hbk,hno1,⟨p2,p4,p7,p9,p10,p11,p12,p13⟩,p14,_⟩ | ⟨rfl,hret⟩);rotate_left
  ·exact .inr ⟨rfl,hret⟩
  simp only at q0 p2 p4 p7 p9 p10 p11 p12 p13 p14;subst q0;obtain rfl:b=a:=by omega
  have sX1:Same X X1:=⟨nX1,fun c _=>by rw[hX1]⟩;try refine ae ?_
  refine bO (ae ?_);refine aX (aP6 (C:=C) (B:=B) (Y0:=Y0) (X0:=X1) (g:=g) (first:=first) (o:=o) (r0:=aBm g o r i b) (atv:=atv) (rowv:=rv) (r:=r) (i:=i) (a:=b) G hB hBY (hX.trans sX1) hi hr hrl hlt (hg.step sX1) ar (by refine⟨?_,?_,?_,?_,?_,?_,?_,?_⟩<;>simp only[↓sU,sD,rE,↓reduceIte,rA,p2,p4,p7,p9,p10,p11,p12,p13]) (ah p14) (ag)) ?_;rintro o2 A2 X2 ⟨rfl,hM⟩;exact .inl ⟨rfl,hM.1,hM,hno1⟩
 ·clear p2 p4 p7 p9 p10 p11 p12 p13 p14;rintro oo ⟨F1,inr⟩ X1 (⟨rfl,q0,⟨_,hX1,b,rv1,hbk,hg1,⟨p2,p4,p7,p9,p10,p11,p12,p13⟩,p14,_⟩,hno1⟩ | ⟨rfl,hret⟩);rotate_left
  ·exact .inr ⟨rfl,hret⟩
  simp only at q0 p2 p4 p7 p9 p10 p11 p12 p13 p14;subst q0;obtain rfl:b=cG g r:=by omega
  try refine ae ?_
  refine aJ (dn p14 w1 ?_);refine⟨k - 1,ar,rfl,hX1,a+1,rv1,ar,hg1,fun a' b' h1 h2=>?_,(by refine⟨?_,?_,?_,?_,?_,?_,?_,?_⟩<;>simp only[↓sU,sD,rE,↓reduceIte,rA,p2,p4,p7,p9,p10,p11,p12,p13]),af⟩;by_cases e:a'=a
  ·rw[e];exact hno1 b' ar
  ·exact hno a' b' h1 ar
def wD(g:aS)(o first:ba):a9:=(List.range g.bj.length).map fun i=>aBm g o (first.getD i 0).toNat i (cG g i)
def RsI(C:XjC)(B:St)(g:aS)(o first:ba)(k:Nat)(A:bG)(X:St):Prop:=A.inr=false/\Same B X/\∃i atv cs,i+k=g.bj.length/\fY 1 B X atv i cs/\pO B X atv cs ((wD g o first).take i)/\(∀s a b,s<i->b<a->a<cG g s->¬eqK g o (s,a) (s,b))/\aD 2 A.F= .ptr C.gb 0/\aD 4 A.F= .ptr C.r4 0/\aD 7 A.F=C.fv/\aD 9 A.F=C.ov/\aD 10 A.F=C.wv/\aD 11 A.F=atv/\aD 12 A.F= .int .i64 (i:Int)
theorem aQ4{C:XjC}{B:St}{g:aS}{first o:ba}{F0:Fr}(G:dE g)(hB:XjB C B g first o)(p2:aD 2 F0= .ptr C.gb 0)(p4:aD 4 F0= .ptr C.r4 0)(p7:aD 7 F0=C.fv)(p9:aD 9 F0=C.ov)(p10:aD 10 F0=C.wv)(p11:aD 11 F0= .bw)(p12:aD 12 F0= .int .i64 ((0:Nat):Int)):
  iM fns aR4 ⟨F0,false⟩ B fun oo A' X=>(oo= .normal/\RsI C B g o first 0 A' X)\/(oo= .ret/\XjR C B g o A' X):=by
 have hNI:=G.ni;refine aX (Q:=fun oo A' X=>(oo= .normal/\RsI C B g o first 0 A' X)\/(oo= .ret/\XjR C B g o A' X)) (aK (bH (RsI C B g o first) ?_ g.bj.length _ _ ⟨rfl,dk _,0,.bw,[],ar,.inl ⟨rfl,rfl,rfl⟩,⟨rfl,fun j hj=>absurd hj (Bm j)⟩,fun s a b h=>absurd h (Bm _),p2,p4,p7,p9,p10,p11,p12⟩)) fun _ _ _ h=>h;clear p2 p4 p7 p9 p10 p11 p12;rintro k ⟨F,inr⟩ X ⟨q0,hX,i,atv,cs,hik,hg,hR,hno,p2,p4,p7,p9,p10,p11,p12⟩;simp only at q0 p2 p4 p7 p9 p10 p11 p12;subst q0;have gX:=(hX.2 _ hB.lg).trans hB.gg;refine fC (du p2 p12 @aC @aB (fH gX) hB.ii.len @Ah ?_);by_cases hlt:i<g.bj.length;rotate_left
 ·refine aM (by simp only[↓sU,sD,rE,↓reduceIte,rA,Aa (show ¬ (i:Int)<(g.bj.length:Int) by omega)]) (bJ ?_);refine ae ?_;obtain rfl:k=0:=by omega
  exact .inl ⟨rfl,hX,i,atv,cs,hik,hg,hR,hno,by refine⟨?_,?_,?_,?_,?_,?_,?_⟩<;>simp only[↓sU,sD,rE,↓reduceIte,rA,p2,p4,p7,p9,p10,p11,p12]⟩
 refine aN (by simp only[↓sU,sD,rE,↓reduceIte,rA,Ac (show(i:Int)<(g.bj.length:Int) by omega)]) (aI ?_);try refine ae ?_
 have w1:=dh i
 have⟨r,hr,hrl⟩:=hB.fr i hlt;refine aA (aX (Q:=fun oo A' X1=>(oo= .normal/\A'.inr=false/\Same B X1/\(∃atv1 cs1,fY 1 B X1 atv1 (i+1) cs1/\pO B X1 atv1 cs1 ((wD g o first).take (i+1))/\aD 11 A'.F=atv1)/\(∀a b,b<a->a<cG g i->¬eqK g o (i,a) (i,b))/\aD 2 A'.F= .ptr C.gb 0/\aD 4 A'.F= .ptr C.r4 0/\aD 7 A'.F=C.fv/\aD 9 A'.F=C.ov/\aD 10 A'.F=C.wv/\aD 12 A'.F= .int .i64 (i:Int))\/(oo= .ret/\XjR C B g o A' X1)) (aK (aA (aJ ?_))) ?_)
 ·refine ae ?_;refine aA (aX (Q:=fun oo A' X1=>(oo= .normal/\RwI C X g o atv r i 0 A' X1)\/(oo= .ret/\XjR C B g o A' X1)) (aA (aJ ?_)) ?_)
  ·refine ae ?_;exact aQ2 (C:=C) (B:=B) (Y0:=X) (g:=g) (first:=first) (o:=o) (atv:=atv) (r:=r) (i:=i) G hB hX hlt hr hrl (by refine⟨?_,?_,?_,?_,?_,?_,?_,?_⟩<;>simp only[↓sU,sD,rE,↓reduceIte,rA,p2,p4,p7,p9,p10,p11,p12]) (ag)
  clear p2 p4 p7 p9 p10 p11 p12;rintro oo ⟨F1,inr⟩ X1 (⟨rfl,q0,hX1,a,rv,hak,hg1,hno1,⟨p2,p4,p7,p9,p10,p11,p12,p13⟩,_⟩ | ⟨rfl,hret⟩);rotate_left
  ·exact .inr ⟨rfl,hret⟩
  simp only at q0 p2 p4 p7 p9 p10 p11 p12 p13;subst q0;obtain rfl:a=cG g i:=by omega
  have crv:=hg1.cells;have he1:=fun(F:Fr) (id:Nat) (h:aD 119 F=rv)=>aCY (t:=22) (z:=.bw) (x:=.t 119) (F:=F) (id:=id) hg1.is h;try refine ae ?_
  refine aJ (dy p11 p13 ?_);refine fN (he1 _ _ (ap)) ?_;intro U u1 u2 u3;try refine ae ?_
  have hBX1:=hX.trans hX1;have hgU:fY 1 ⟨U.h,B.nx⟩ U atv i cs:=hg.move (Al hX1.1 u1.1) fun c hc=>(u1.2 c (Ae (hg.blk hc).2.1 hX1.1)).trans (hX1.2 c (hg.blk hc).2.1);have⟨atv',V,eA,gA,bA,nA,kA⟩:=fY.push1 (bytes:=24) (x:=rv) hgU ⟨Al hBX1.1 u1.1,fun _ _=>rfl⟩ u3 ax ax;refine fI (fun call=>by refine dm @gO ?_;exact eA) ?_;refine ae ?_;have l1:=hX1.1;have l2:=u1.1;have l3:=hX.1;have hkV:∀c,c<X.nx->aZ atv≠some c->V.h.get c=X.h.get c:=fun c hc hn=>(kA c ar hn).trans ((u1.2 c ar).trans (hX1.2 c hc));have rlow:∀ {c},aZ rv=some c->X.nx<=c/\c<X1.nx:=fun hc=>⟨(hg1.blk hc).1,(hg1.blk hc).2.1⟩;have hrV:bI .i64 V rv (aBm g o r i (cG g i)):=eT (hg1.is.same u1) ar fun c hc=>kA c (by have:=(rlow hc).2;omega) fun e=>by have:=(hg.blk e).2.1;have:=(rlow hc).1;omega
  have hbA:∀ {c},aZ atv'=some c->c=U.nx:=fun hc=>by rw[bA] at hc;exact(Bp hc).symm
  have hRV:=hR.push (Z:=V) (pv':=atv') (l:=aBm g o r i (cG g i)) l3 ar (fun c h1 _ h3=>hkV c h1 h3) hrV (fun c hc=>⟨(rlow hc).1,fun e=>by have:=hbA e;have:=(rlow hc).2;omega⟩) (fun c hc=>by have:=hbA hc;omega);have htk:(wD g o first).take (i+1)=(wD g o first).take i++ [aBm g o r i (cG g i)]:=by
   rw[Bn];unfold wD;rw[Am,Bf hlt,Dy,hr];rfl
  rw[<-htk] at hRV;exact .inl ⟨⟨ar,fun c hc=>(hkV c ar fun e=>by have:=(hg.blk e).1;omega).trans (hX.2 c hc)⟩,⟨atv',_,gA,hRV,rfl⟩,fun a b h1 h2=>hno1 a b h1 h2,p2,p4,p7,p9,p10,p12⟩
 ·clear p2 p4 p7 p9 p10 p11 p12;rintro oo ⟨F1,inr⟩ X1 (⟨rfl,q0,hX1,⟨atv1,cs1,hg1,hR1,p11⟩,hno1,p2,p4,p7,p9,p10,p12⟩ | ⟨rfl,hret⟩);rotate_left
  ·exact .inr ⟨rfl,hret⟩
  simp only at q0 p2 p4 p7 p9 p10 p11 p12;subst q0;try refine ae ?_
  refine aJ (dn p12 w1 ?_);refine⟨k - 1,ar,rfl,hX1,i+1,atv1,cs1,ar,hg1,hR1,fun s a b h1 h2 h3=>?_,by refine⟨?_,?_,?_,?_,?_,?_,?_⟩<;>simp only[↓sU,sD,rE,↓reduceIte,rA,p2,p4,p7,p9,p10,p11]⟩;by_cases e:s=i
  ·subst e;exact hno1 a b h2 h3
  ·exact hno s a b ar h2 h3
section
variable {g:aS}{L:a9}{first o:ba}
theorem aR5(G:dE g)(hL:∀m∈L,eX g m)(hO:lD g.bj.length (iI g.bj.length (L.map (de g))) first)(ho:lD (dU g g.bj.length) (iI (dU g g.bj.length) (L.map (pmL g))) o){i a b:Nat}(hi:i<g.bj.length)(hb:b<a)(ha:a<cG g i)(e:eqK g o (i,a) (i,b)):Dup g L first:=
 aIV G hL hO hi hb ha (.symm ((uB G hL ho ⟨hi,ha⟩ ⟨hi,show b<cG g i by omega⟩).1 e))
theorem aNb(G:dE g)(hL:∀m∈L,eX g m)(ho:lD (dU g g.bj.length) (iI (dU g g.bj.length) (L.map (pmL g))) o)(hno:∀s a b,s<g.bj.length->b<a->a<cG g s->¬eqK g o (s,a) (s,b)):¬Dup g L first:=fun⟨s,a,b,h1,_,h3,h4,h5⟩=>
 hno s b a h1 h3 h4 ((uB G hL ho ⟨h1,h4⟩ ⟨h1,show a<cG g s by omega⟩).2 (.symm h5))
theorem aGV{r i a c:Nat}(h:∀b,b<cG g r->(eqK g o (r,b) (i,a)↔b=c)):∀ {n:Nat},n<=cG g r->aAo g o r i a n=if c<n then [(c:Int)] else []
 | 0,_=>rfl
 | n+1,hn=>by
  unfold aAo;rw[aGV h ar];have:=h n ar;by_cases e:n=c
  ·rw[if_pos (this.2 e),if_neg ar,if_pos ar,e];rfl
  ·rw[if_neg (fun h=>e (this.1 h))];by_cases h2:c<n
   ·rw[if_pos h2,if_pos ar]
   ·rw[if_neg h2,if_neg ar]
theorem aHR{r i:Nat}{σ:Nat->Nat}(h:∀a,a<cG g i->aAo g o r i a (cG g r)= [((σ a:Nat):Int)]):∀ {n:Nat},n<=cG g i->aBm g o r i n=(List.range n).map fun a=>((σ a:Nat):Int)
 | 0,_=>rfl
 | n+1,hn=>by
  unfold aBm;rw[aHR h ar,h n ar,List.range_succ,Dz];rfl
theorem aPv(G:dE g)(hL:∀m∈L,eX g m)(hO:lD g.bj.length (iI g.bj.length (L.map (de g))) first)(ho:lD (dU g g.bj.length) (iI (dU g g.bj.length) (L.map (pmL g))) o)(hno:∀s a b,s<g.bj.length->b<a->a<cG g s->¬eqK g o (s,a) (s,b)):qE g L first (wD g o first):=by
 have key:∀s,s<g.bj.length->∃σ:Nat->Nat,(∀a,a<cG g s->σ a<cG g (first.getD s 0).toNat/\iO (ChE g L) (s,a) ((first.getD s 0).toNat,σ a))/\(wD g o first).getD s []=(List.range (cG g s)).map fun a=>((σ a:Nat):Int):=fun s hs=>by
  have⟨h1,σ,h2,h3⟩:=aAP G hL (hO.con s hs);have⟨r,hr,hrl⟩:=zK hO s hs;have hrt:(first.getD s 0).toNat=r:=by omega
  rw[hrt] at h1 h2;refine⟨σ,by rw[hrt];exact h2,?_⟩;unfold wD;rw[Ad,Am,Bf hs,Dy,Dq,hrt];refine aHR (fun a ha=>?_) (Ag _);have⟨s1,s2⟩:=h2 a ha;rw[aGV (c:=σ a) (fun b hb=>?_) (Ag _),if_pos s1];rw[show eqK g o (r,b) (s,a)↔iO (ChE g L) (r,b) (s,a) from uB G hL ho ⟨hrl,hb⟩ ⟨hs,ha⟩];constructor
  ·intro h;have hc:iO (ChE g L) (r,b) (r,σ a):=.trans h s2;rcases Dl b (σ a) with hlt | e | hlt
   ·exact absurd ((uB G hL ho ⟨hrl,s1⟩ ⟨hrl,hb⟩).2 (.symm hc)) (hno r _ _ hrl hlt s1)
   ·exact e
   ·exact absurd ((uB G hL ho ⟨hrl,hb⟩ ⟨hrl,s1⟩).2 hc) (hno r _ _ hrl hlt hb)
  ·intro e;rw[e];exact .symm s2
 refine⟨by unfold wD;rw[Aj,Ay],fun s hs=>?_,fun s a hs ha=>?_⟩
 ·have⟨σ,_,h2⟩:=key s hs;rw[h2,Aj,Ay]
 ·have⟨σ,h1,h2⟩:=key s hs;refine⟨σ a,?_,(h1 a ha).1,(h1 a ha).2⟩;rw[h2,Ad,Am,Bf ha];rfl
end
theorem aO2{ops:List AO}{X:St}{F:Fr}{inr:Bool}{g:aS}{gb:Nat}{nv iv atv:AV}{Q:Out->bG->St->Prop}(he:ops=jdP++jdX)(p2:aD 2 F= .ptr gb 0)(p11:aD 11 F=atv)(gg:X.h.get gb=some (.cells [.int .i64 g.bo,nv,iv] false 0))(lg:gb<X.nx)(hn:aE 6 bX X nv g.bh)(hi:aE 2 bP X iv g.bj)(hN:g.bh.length<=100000)(hNI:g.bj.length<=100000)(ca:atv.cells=some [atv])
  (hQ:∀F' Z,(∀j,j<122->j≠17->aD j F'=aD j F)->aD 17 F'= .ptr (X.nx+13) 0->Same X Z->X.nx+15<=Z.nx->Z.h.get (X.nx+13)=some (.cells [.int .i64 g.bo,.bw,.bw,.sl (X.nx+6) 0 g.bj.length g.bj.length false,atv,.sl (X.nx+11) 0 g.bh.length g.bh.length false] false 0)->Z.h.get (X.nx+6)=some (.cells (aU (List.replicate g.bj.length 0)) false 0)->Z.h.get (X.nx+11)=some (.cells (aU (List.replicate g.bh.length 0)) false 0)->Q .normal ⟨F',inr⟩ Z):iM fns (.drw ops) ⟨F,inr⟩ X Q:=by
 have hlen:ops.length=15:=by rw[he];rfl
 have snv:=aE.self hn;have siv:=aE.self hi;have hnl:=hn.len;have hil:=hi.len;refine nI (W:=fun _=>False) (K:=14) (R:=fun F' Z ps=>ps= [⟨13,X.nx+13,.cells [.int .i64 0,.bw,.bw,.bw,.bw,.bw] false 0⟩,⟨11,X.nx+11,.cells (aU (List.replicate g.bh.length 0)) false 0⟩,⟨6,X.nx+6,.cells (aU (List.replicate g.bj.length 0)) false 0⟩]/\Z.h=X.h/\Z.nx=X.nx+15/\(∀j,j<122->j≠17->aD j F'=aD j F)/\aD 17 F'= .ptr (X.nx+13) 0/\aD 134 F'= .agg [.int .i64 g.bo,.bw,.bw,.sl (X.nx+6) 0 g.bj.length g.bj.length false,atv,.sl (X.nx+11) 0 g.bh.length g.bh.length false]) he rfl rfl (fun X1 x1 hh1 nn1=>?_) ?_
 ·have hB1:∀ (F:Fr) (h:Ev.T AB),aD 123 F= .int .i64 g.bo->gM (.build [.int .i64 0,.bw,.bw] [(0,1,.t 123)]) F h=some (.agg [.int .i64 g.bo,.bw,.bw]):=fun F h h1=>by
   show(bC (eQ _ (eH F [(0,1,.t 123)])) fun cs=>some (AV.agg cs))=_;simp only[eH,show(cO.t 123).val F= .int .i64 g.bo from h1,eQ,cR,aL];rfl
  have hB2:∀ (F:Fr) (h:Ev.T AB) (a b:Nat),aD 124 F= .agg [.int .i64 g.bo,.bw,.bw]->aD 128 F= .sl a 0 g.bj.length g.bj.length false->aD 129 F=atv->aD 133 F= .sl b 0 g.bh.length g.bh.length false->gM (.build [.int .i64 0,.bw,.bw,.bw,.bw,.bw] [(0,3,.t 124),(3,1,.t 128),(4,1,.t 129),(5,1,.t 133)]) F h=some (.agg [.int .i64 g.bo,.bw,.bw,.sl a 0 g.bj.length g.bj.length false,atv,.sl b 0 g.bh.length g.bh.length false]):=fun F h a b h1 h2 h3 h4=>by
   show(bC (eQ _ (eH F [(0,3,.t 124),(3,1,.t 128),(4,1,.t 129),(5,1,.t 133)])) fun cs=>some (AV.agg cs))=_;simp only[eH,show(cO.t 124).val F= .agg [.int .i64 g.bo,.bw,.bw] from h1,show(cO.t 128).val F= .sl a 0 g.bj.length g.bj.length false from h2,show(cO.t 129).val F=atv from h3,show(cO.t 133).val F= .sl b 0 g.bh.length g.bh.length false from h4,eQ,aY,ca,aL];rfl
  have hm1:=fun F id (h:aD 127 F= .int .i64 (g.bj.length:Int))=>lN (t:=3) (s:=1) (bytes:=8) (z:=[AV.int .i64 0]) (l:=.t 127) (c:=.t 127) (F:=F) (id:=id) (n:=g.bj.length) (by show fP (aD 127 F)=_;rw[h];exact aH _ _) (by show fP (aD 127 F)=_;rw[h];exact aH _ _) ax ax;have hm2:=fun F id (h:aD 132 F= .int .i64 (g.bh.length:Int))=>lN (t:=3) (s:=1) (bytes:=8) (z:=[AV.int .i64 0]) (l:=.t 132) (c:=.t 132) (F:=F) (id:=id) (n:=g.bh.length) (by show fP (aD 132 F)=_;rw[h];exact aH _ _) (by show fP (aD 132 F)=_;rw[h];exact aH _ _) ax ax;simp only[qJ] at hm1 hm2;unfold jdP;simp only[↓sU,sD,rE,↓reduceIte,rA,p2,p11,aC,aQ,aB,sR gg,fR gg,fH gg,snv,siv,lg,Ak,hnl,hil,iW,hB1,hm1,hm2,fun F h=>hB2 F h (X.nx+6) (X.nx+11),oS];refine⟨hh1,by rw[nn1,hlen],fun j hj hj2=>?_⟩
  repeat rw[if_neg ar]
 rintro F' S' ps hs' ls ⟨rfl,hZ,nZ,hk,p17,p134⟩ hlast hld;have m1:∀i,i<14->Nat.testBit 16383 i=true:=by decide
 unfold jdX;have hf:cJ 16383 [⟨13,X.nx+13,.cells [.int .i64 0,.bw,.bw,.bw,.bw,.bw] false 0⟩,⟨11,X.nx+11,.cells (aU (List.replicate g.bh.length 0)) false 0⟩,⟨6,X.nx+6,.cells (aU (List.replicate g.bj.length 0)) false 0⟩] S'.h=([],((S'.h.set (X.nx+13) (some (.cells [.int .i64 0,.bw,.bw,.bw,.bw,.bw] false 0))).set (X.nx+11) (some (.cells (aU (List.replicate g.bh.length 0)) false 0))).set (X.nx+6) (some (.cells (aU (List.replicate g.bj.length 0)) false 0))):=by rw[fD ay,fD ay,fD ay,bF]
 obtain⟨U,hU⟩:∃U:St,U=⟨((S'.h.set (X.nx+13) (some (.cells [.int .i64 0,.bw,.bw,.bw,.bw,.bw] false 0))).set (X.nx+11) (some (.cells (aU (List.replicate g.bh.length 0)) false 0))).set (X.nx+6) (some (.cells (aU (List.replicate g.bj.length 0)) false 0)),S'.nx⟩:=⟨_,rfl⟩;have u13:U.h.get (X.nx+13)=some (.cells [.int .i64 0,.bw,.bw,.bw,.bw,.bw] false 0):=by rw[hU];simp only;rw[di,if_neg ar,di,if_neg ar,di,if_pos rfl]
 have u11:U.h.get (X.nx+11)=some (.cells (aU (List.replicate g.bh.length 0)) false 0):=by rw[hU];simp only;rw[di,if_neg ar,di,if_pos rfl]
 have u6:U.h.get (X.nx+6)=some (.cells (aU (List.replicate g.bj.length 0)) false 0):=by rw[hU];simp only;rw[di,if_pos rfl]
 have uo:∀c,c<X.nx->U.h.get c=X.h.get c:=fun c hc=>by rw[hU];simp only;rw[di,if_neg ar,di,if_neg ar,di,if_neg ar,hZ]
 have nU:U.nx=X.nx+15:=by rw[hU];exact nZ
 refine jZ (v:=.undef) (S1:=⟨U.h.set (X.nx+13) (some (.cells [.int .i64 g.bo,.bw,.bw,.sl (X.nx+6) 0 g.bj.length g.bj.length false,atv,.sl (X.nx+11) 0 g.bh.length g.bh.length false] false 0)),U.nx⟩) (hlast _ m1) (fun call=>?_) ?_
 ·rw[hf,dS];simp only[fE,p17,p134,aY,aL];rw[<-hU];exact kH (S:=U) (n:=6) u13 rfl rfl
 rw[hf];rw[gG];refine⟨?_,?_⟩
 ·simp only[Bz];exact hld _ _ _ m1
 ·simp only[bF,eF];have kS:∀c,c≠X.nx+13->(U.h.set (X.nx+13) (some (.cells [.int .i64 g.bo,.bw,.bw,.sl (X.nx+6) 0 g.bj.length g.bj.length false,atv,.sl (X.nx+11) 0 g.bh.length g.bh.length false] false 0))).get c=U.h.get c:=fun c hc=>by rw[di,if_neg hc]
  exact hQ _ _ hk p17 ⟨by show X.nx<=U.nx;omega,fun c hc=>(kS c ar).trans (uo c hc)⟩ (by show X.nx+15<=U.nx;omega) fk ((kS _ ar).trans u6) ((kS _ ar).trans u11)
def aLM(X1:St)(g:aS)(first:ba)(da:bg)(gb r4 ib jb ob:Nat)(fv:AV)(k:Nat)(A:bG)(Y:St):Prop:=A.inr=false/\bT ib X1 Y/\∃i l,i+k=g.bj.length/\l.length=g.bj.length/\(∀j,j<i->l.getD j 0=(mD first da).getD j 0)/\Y.h.get ib=some (.cells (aU l) false 0)/\aD 2 A.F= .ptr gb 0/\aD 4 A.F= .ptr r4 0/\aD 7 A.F=fv/\aD 17 A.F= .ptr jb 0/\aD 18 A.F= .sl ob 0 g.bj.length g.bj.length false/\aD 19 A.F= .int .i64 (i:Int)
theorem aND{X1:St}{g:aS}{first l0:ba}{da:bg}{gb r4 ib jb ob:Nat}{fv pv nv iv j0 j1 j2 j4 j5:AV}{F0:Fr}(hNI:g.bj.length<=100000)(hi:aE 2 bP X1 iv g.bj)(hsiv:True)(gg:X1.h.get gb=some (.cells [pv,nv,iv] false 0))(gj:X1.h.get jb=some (.cells [j0,j1,j2,.sl ib 0 g.bj.length g.bj.length false,j4,j5] false 0))(go:X1.h.get ob=some (.cells (aU (ofL g.bj.length da)) false 0))(gi:X1.h.get ib=some (.cells (aU l0) false 0))(hl0:l0.length=g.bj.length)(hf:∀i,i<g.bj.length->∃fb fq,dO (.slice 1) fv i=some (.ptr fb fq)/\fb<X1.nx/\fb≠ib/\dT (.ptr fb fq) false 1 X1.h=some (.int .i64 (first.getD i 0)))(hfl:first.length=g.bj.length)(hfr:∀s,s<g.bj.length->∃r:Nat,first.getD s 0=(r:Int)/\r<g.bj.length/\r∈da)(hrp:da.length<=100000)(lg:gb<X1.nx)(lj:jb<X1.nx)(lo:ob<X1.nx)(li:ib<X1.nx)(ngi:gb≠ib)(nji:jb≠ib)(noi:ob≠ib)
  (p2:aD 2 F0= .ptr gb 0) (p4:aD 4 F0= .ptr r4 0) (p7:aD 7 F0=fv) (p17:aD 17 F0= .ptr jb 0) (p18:aD 18 F0= .sl ob 0 g.bj.length g.bj.length false) (p19:aD 19 F0= .int .i64 ((0:Nat):Int)) (sfv:cE fv fv=true):
  iM fns qk5 ⟨F0,false⟩ X1 fun oo A' Y=>oo= .normal/\aLM X1 g first da gb r4 ib jb ob fv 0 A' Y:=by
 refine aK (bH (aLM X1 g first da gb r4 ib jb ob fv) ?_ g.bj.length _ _ ⟨rfl,bT.refl _ _,0,l0,ar,hl0,fun j hj=>absurd hj (Bm _),gi,p2,p4,p7,p17,p18,p19⟩);clear p2 p4 p7 p17 p18 p19;rintro k ⟨F,inr⟩ Y ⟨q0,sY,i,l,hik,hll,hlj,gY,p2,p4,p7,p17,p18,p19⟩;simp only at q0 p2 p4 p7 p17 p18 p19;subst q0;have ggY:=(sY.2 _ lg ngi).trans gg;have gjY:=(sY.2 _ lj nji).trans gj;have goY:=(sY.2 _ lo noi).trans go;refine fC (du p2 p19 @aC @aB (fH ggY) hi.len @Ah ?_);by_cases hlt:i<g.bj.length;rotate_left
 ·refine aM (by simp only[↓sU,sD,rE,↓reduceIte,rA,Aa (show ¬ (i:Int)<(g.bj.length:Int) by omega)]) (bJ ?_);refine ae ?_;obtain rfl:k=0:=by omega
  exact⟨rfl,sY,i,l,hik,hll,hlj,gY,by refine⟨?_,?_,?_,?_,?_,?_⟩<;>simp only[↓sU,sD,rE,↓reduceIte,rA,p2,p4,p7,p17,p18,p19]⟩
 refine aN (by simp only[↓sU,sD,rE,↓reduceIte,rA,Ac (show(i:Int)<(g.bj.length:Int) by omega)]) (aI ?_);try refine ae ?_
 have w1:=dh i
 have⟨r,hr,hrl,hrm⟩:=hfr i hlt;have⟨fb,fq,f1,lf,nf,f3⟩:=hf i hlt;rw[hr] at f3;have f3Y:dT (.ptr fb fq) false 1 Y.h=some (.int .i64 (r:Int)):=by
  rw[<-f3];have e:cK Y.h fb=cK X1.h fb:=by unfold cK;rw[sY.2 _ lf nf]
  simp only[dT,pS,bB,lK,e]
 have hidx:=List.idxOf_lt_length_iff.2 hrm;have hio:=dR (b:=ob) (o:=false) hrl;have hii:=dR (b:=ib) (o:=false) hlt;have ldo:=uI goY (show r<(ofL g.bj.length da).length by rw[pC];exact hrl);rw[aBY hrl,if_pos hrm] at ldo;have w0:IntKind.i64.wrap (((da.idxOf r+1:Nat):Int) - 1)=((da.idxOf r:Nat):Int):=by rw[wrap_i64 ar ar];omega
 have lY:=sY.1;have lj':=Ae lj lY;have lo':=Ae lo lY;have lf':=Ae lf lY;refine aA (aK (gS (fun c=>c=ib) ?_));intro S1 s1;simp only[↓sU,sD,rE,↓reduceIte,rA,p7,p17,p18,p19,aC,aQ,aB,dC gjY,aH,f1,f3Y,hio,hii,ldo,w0,lj',lo',lf',nji,noi,nf,Ak,sfv,dH];refine uF (p:=i) (w:=((da.idxOf r:Nat):Int)) (P:=l) rfl (af) (af) (by rw[s1.2 _ (Ae li lY)];exact gY) ar rfl ?_;intro S2 s2 n2 c2;refine dm @bF ?_;refine aJ (dn p19 w1 ?_);refine⟨k - 1,ar,rfl,⟨by show X1.nx<=S2.nx;have:=s1.1;have:=s2.1;omega,fun c hc hne=>(s2.2 c (au s1.1) hne).trans ((s1.2 c ar).trans (sY.2 c hc hne))⟩,i+1,l.set i ((da.idxOf r:Nat):Int),ar,by rw[Aq];exact hll,fun j hj=>?_,c2,by refine⟨?_,?_,?_,?_,?_,?_⟩<;>simp only[↓sU,sD,rE,↓reduceIte,rA,p2,p4,p7,p17,p18]⟩;rw[gJ ar];by_cases e:j=i
 ·rw[if_pos e,e];unfold mD;rw[Ad,Am,Ab (show i<first.length by omega)];have:first[i]' ar =(r:Int):=by rw[<-hr,Ad,Ab (show i<first.length by omega)];rfl
  rw[this];rfl
 ·rw[if_neg e];exact hlj j ar
theorem aQT{g:aS}(h:cT g=0):∀i,i<g.bh.length->(b8 g i).kind≠2->(b8 g i).info=0:=fun i hi hk2=>by
 have G:=uM h;rcases G.knd i hi with hk | hk | hk
 ·unfold cT at h;split at h
  ·cases h
  rename_i hb;split at h
  ·rename_i h1;exact absurd h h1
  rename_i hN;have hN:=Dd.1 hN;have:=iE hN _ (Ar (gI hi));unfold iG at this;rw[if_pos hk] at this;split at this
  ·cases this
  ·rename_i hc;unfold nR at hc;omega
 ·exact absurd hk hk2
 ·unfold cT at h;split at h
  ·cases h
  rename_i hb;split at h
  ·rename_i h1;exact absurd h h1
  rename_i hN;have hN:=Dd.1 hN;have:=iE hN _ (Ar (gI hi));unfold iG at this;rw[if_neg ar,if_neg ar,if_pos hk] at this;split at this
  ·cases this
  ·rename_i hc;unfold oF at hc;omega
def aIu(g:aS)(L:a9)(S Z:St)(r:AV):Prop:=(jH g L≠0/\r= .tup [aE3,.int .i64 (jH g L)])\/(jH g L=0/\∃first,lD g.bj.length (iI g.bj.length (L.map (de g))) first/\((Dup g L first/\r= .tup [aE3,.int .i64 13])\/(¬Dup g L first/\∃act,qE g L first act/\∃v,r= .tup [v,.int .i64 0]/\aOD g first act S Z v)))
theorem aIu.move{g:aS}{L:a9}{S Z Z':St}{r:AV}(h:aIu g L S Z r)(hn:Z.nx<=Z'.nx)(hk:∀c,S.nx<=c->c<Z.nx->Z'.h.get c=Z.h.get c):aOO g L Z' r:=by
 rcases h with h | ⟨h0,first,hO,h | ⟨hD,act,hA,v,e,hJ⟩⟩
 ·exact .inl h
 ·exact .inr ⟨h0,first,hO,.inl h⟩
 ·exact .inr ⟨h0,first,hO,.inr ⟨hD,act,hA,v,e,hJ Z' hn hk⟩⟩
theorem vU{S:St}{nv iv mv:AV}{g:aS}{L:a9}(H:Has fns)(hn:aE 6 bX S nv g.bh)(hi:aE 2 bP S iv g.bj)(hln:g.bh.length<=100000)(hm:aE 1 iD S mv L):
  fZ fns (.fn 98 [] []) [.agg [.int .i64 g.bo,nv,iv],mv] S fun r S'=>Same S S'/\aIu g L S S' r:=by
 have hz:∀ (F:Fr) (h:Ev.T AB),gM (.build [.int .i64 0,.bw,.bw,.bw,.bw,.bw] []) F h=some aE3:=fun _ _=>rfl;refine cF H.f98 (by simp) ?_;refine am ?_;refine bO ?_;refine cI (by refine am ?_;exact aY _) ?_;intro S1 s1 n1 g1;refine am ?_;refine cA ?_;intro S2 s2 n2 g2;try refine am ?_
 have s02:=s1.trans s2;have c2:S2.h.get S.nx=_:=(s2.2 _ ar).trans g1;refine bO (dm (eJ c2) ?_);refine bD (ae ?_);refine aW (aGc H (aE.same (E:=bX) bL hn s02) (aE.same (E:=bP) bK hi s02) hln (aE.same (E:=iD) cm hm s02)) ?_;rintro _ S3 ⟨s3,xv,fv,rfl,hbad,hgood⟩;refine dp @rN @sA @ex2 ?_;have s03:=s02.trans s3;have c3:S3.h.get S.nx=_:=(s3.2 _ ar).trans c2;have r3:S3.h.get S1.nx=_:=(s3.2 _ ar).trans g2;have l3:=s3.1;have fin:∀ (X V:St),Same S3 X->bT S1.nx X V->Same S V:=fun X V hX hv=>⟨by have:=s03.1;have:=hX.1;have:=hv.1;omega,fun c hc=>(hv.2 c (by have:=s03.1;have:=hX.1;omega) ar).trans ((hX.2 c (au s03.1)).trans (s03.2 c hc))⟩;refine fC (ae ?_);by_cases h0:jH g L=0;rotate_left
 ·refine aN (by simp only[↓sU,sD,rE,↓reduceIte,rA,Ac (show jH g L≠0 from h0)]) ?_;refine bO (dx hz ?_);refine cQ (b:=S1.nx) (cs':=[.int .i64 0,.bw,.bw,.bw,.bw,.bw]) (ap) (by refine am ?_;exact aY _) r3 rfl rfl ?_;intro V v1 k1 d1;try refine am ?_
  have ld:=jM (n:=6) d1 rfl;refine aP (dy @dJ @ld ?_);exact⟨fin S3 V (dk _) v1,.inl ⟨h0,rfl⟩⟩
 have⟨_,first,_,hOw,_,hO⟩:=hgood h0;rw[h0];refine aM (by simp only[↓sU,sD,rE,↓reduceIte,rA];try first | rfl | trivial) (aI ?_);try refine ae ?_
 have⟨hf0,hL16,hims⟩:=iS h0;have hAll:∀m∈L,eX g m:=fun m hm=>gR (iC hims m hm);have GK:=uM hf0;have G:=GK.good;have⟨Tr,hT,hTl,_⟩:=G.walk;have hN:=G.n2;have hNI:=G.ni;refine bO (dm (eJ c3) ?_);refine bD (ae ?_);refine aW (aG7 H hf0 hAll hL16 (aE.same (E:=bX) bL hn s03) (aE.same (E:=bP) bK hi s03) (aE.same (E:=iD) cm hm s03)) ?_;rintro _ B ⟨s4,ov,wv,o,rfl,hov,hwv,hOo⟩;refine dn @rN @sA ?_;have s0B:=s03.trans s4;have cB:B.h.get S.nx=_:=(s4.2 _ ar).trans c3;have rB:B.h.get S1.nx=_:=(s4.2 _ ar).trans r3;have lB:=s4.1;have hnB:=aE.same (E:=bX) bL hn s0B;have hiB:=aE.same (E:=bP) bK hi s0B;have hfB:bI .i64 B fv first:=hOw.is.same s4;obtain⟨C,hC⟩:∃C:XjC,C=⟨S.nx,S1.nx,fv,ov,wv,nv,iv⟩:=⟨_,rfl⟩;have hXB:XjB C B g first o:=by
  rw[hC];exact⟨cB,hiB,hfB,hov,hwv,hOo.len,hO.len,zK hO,rB,by show S.nx<B.nx;omega,by show S1.nx<B.nx;omega⟩
 refine bO (ae ?_);refine aA (aX (Q:=fun oo A' X=>(oo= .normal/\RsI C B g o first 0 A' X)\/(oo= .ret/\XjR C B g o A' X)) (aA (aJ ?_)) ?_)
 ·refine ae ?_;exact aQ4 (C:=C) (B:=B) (g:=g) (first:=first) (o:=o) G hXB (by rw[hC];simp only[↓sU,sD,rE,↓reduceIte,rA]) (by rw[hC];simp only[↓sU,sD,rE,↓reduceIte,rA]) (by rw[hC];simp only[↓sU,sD,rE,↓reduceIte,rA]) (by rw[hC];simp only[↓sU,sD,rE,↓reduceIte,rA]) (by rw[hC];simp only[↓sU,sD,rE,↓reduceIte,rA]) (af) (ag)
 rintro oo ⟨F,inr⟩ X (⟨rfl,q0,hX,i,atv,cs,hik,hg,hR,hno,p2,p4,p7,p9,p10,p11,_⟩ | ⟨rfl,hsb,d4,⟨i,a,b,hi1,hb1,ha1,he1⟩,p4,p5⟩);rotate_left
 ·simp only at p4 p5;have d4:X.h.get S1.nx=some (.cells [.int .i64 0,.bw,.bw,.bw,.bw,.bw] false 0):=by rw[hC] at d4;exact d4
  have hsb:bT S1.nx B X:=by rw[hC] at hsb;exact hsb
  have p4:aD 4 F= .ptr S1.nx 0:=by rw[hC] at p4;exact p4
  have ld:=jM (n:=6) d4 rfl;refine dq @dJ p4 p5 @ld ?_;exact⟨fin B X s4 hsb,.inr ⟨h0,first,hO,.inl ⟨aR5 G hAll hO hOo hi1 hb1 ha1 he1,rfl⟩⟩⟩
 simp only at q0 p2 p4 p7 p9 p10 p11;subst q0;obtain rfl:i=g.bj.length:=by omega
 have hrl:(wD g o first).length=g.bj.length:=by unfold wD;rw[Aj,Ay]
 rw[Bb (by rw[hrl];exact Ag _)] at hR;have hD:=aNb (first:=first) G hAll hOo hno;have hA:=aPv G hAll hO hOo hno;generalize wD g o first=act at *;have p2:aD 2 F= .ptr S.nx 0:=by rw[hC] at p2;exact p2
 have p4:aD 4 F= .ptr S1.nx 0:=by rw[hC] at p4;exact p4
 have p7:aD 7 F=fv:=by rw[hC] at p7;exact p7
 clear p9 p10 hXB hwv hov hno hC;have s0X:=s0B.trans hX;have cX:X.h.get S.nx=_:=(hX.2 _ ar).trans cB;have lX:=hX.1;have hRk:=nC G hAll hO hD hA;try refine ae ?_
 refine aA (aO2 (g:=g) (gb:=S.nx) (nv:=nv) (iv:=iv) (atv:=atv) rfl p2 p11 cX ar (aE.same (E:=bX) bL hn s0X) (aE.same (E:=bP) bK hi s0X) ar ar  hg.cells ?_);intro F1 Z hk p17 sZ nZ gj gi gq;have q2:=(hk 2 ar ar).trans p2;have q4:=(hk 4 ar ar).trans p4;have q7:=(hk 7 ar ar).trans p7;have cZ:=(sZ.2 _ ar).trans cX;have hil:=hi.len;have hmk:=fun F id (h:aD 137 F= .int .i64 (g.bj.length:Int))=>lN (t:=3) (s:=1) (bytes:=8) (z:=[AV.int .i64 0]) (l:=.t 137) (c:=.t 137) (F:=F) (id:=id) (n:=g.bj.length) (by show fP (aD 137 F)=_;rw[h];exact aH _ _) (by show fP (aD 137 F)=_;rw[h];exact aH _ _) ax ax;simp only[qJ] at hmk;try refine ae ?_
 refine bO (ef q2 @aC @aB (fH cZ) hil ?_);refine fN (hmk _ _ (ap)) ?_;intro Y y1 y2 y3;refine am ?_;obtain⟨C2,hC2⟩:∃C2:XC,C2=⟨X.nx+13,Z.nx,X.nx+11,.int .i64 g.bo,.sl (X.nx+6) 0 g.bj.length g.bj.length false,nv,iv,fv,atv⟩:=⟨_,rfl⟩;obtain⟨T0,hT0⟩:∃T0:St,T0=⟨Z.h,X.nx+7⟩:=⟨_,rfl⟩;have nT0:T0.nx=X.nx+7:=by rw[hT0]
 have sXT:Same X T0:=by rw[hT0];exact⟨Ba _ _,sZ.2⟩
 have sTZ:Same T0 Z:=by rw[hT0];exact⟨by show X.nx+7<=Z.nx;omega,fun _ _=>rfl⟩
 have sTY:=sTZ.trans y1;have s0T:=s0X.trans sXT;have aT:aE 1 iD T0 atv act:=aE.same (E:=iD) cm (hR.is hg hA.len.symm) sXT;have fT:bI .i64 T0 fv first:=(hfB.same hX).same sXT;have e0:C2.nv=nv/\C2.iv=iv/\C2.fv=fv/\C2.av=atv/\C2.ps= .int .i64 g.bo/\C2.ob=Z.nx/\C2.jb=X.nx+13/\C2.qb=X.nx+11:=by rw[hC2];exact⟨rfl,rfl,rfl,rfl,rfl,rfl,rfl,rfl⟩
 have gjY:=(y1.2 _ ar).trans gj;have gqY:=(y1.2 _ ar).trans gq;have giY:=(y1.2 _ ar).trans gi;have hS:pR C2 (fun c=>T0.nx<=c) g T0 Y ⟨.bw,.bw,[],[]⟩ (List.replicate g.bh.length 0):=by
  have w:∀c,C2.W c->T0.nx<=c/\c<Y.nx:=fun c hc=>by
   rw[hC2] at hc;rcases hc with hc | hc | hc<;>simp only at hc<;>omega
  refine⟨⟨.none,.none,fun a h=>(by cases h),fun i j a b _ h=>(by cases h),fun c h=>(by cases h),fun c h=>(by cases h),w⟩,by rw[hC2];exact gjY,?_,by rw[hC2];exact gqY,by rw[hC2];simp only;omega,Au,sTY⟩;have:ofL g.bj.length []=List.replicate g.bj.length 0:=oP (by rw[pC,Au]) fun j hj=>by
   rw[pC] at hj;rw[aBY hj,Ad,Ch,if_pos hj];rfl
  show Y.h.get C2.ob=some (.cells (aU (ofL g.bj.length [])) false 0);rw[this,hC2];exact y3
 have hsz:([]:List (dP×AV)).length+oC Tr 0<=g.bh.length:=by
  rw[Bq,An,<-hTl];exact(aCV (aBc ay (show fW g.bh.length (eB g) (g.bh.length+1) 0 (-1) 0=some Tr from hT)) (by rw[hTl];exact G.n1)).2.1
 have cY:=(y1.2 _ ar).trans cZ;refine bO (ed q2 q7 p17 (eJ cY) ?_);refine bD (dx p17 ?_);have hlay:=aK1 (C:=C2) (P:=fun c=>T0.nx<=c) (g:=g) (S0:=T0) (first:=first) (act:=act) (Tr:=Tr) H (fun _ h=>h) GK hRk hO.len (zK hO) (by rw[e0.1];exact aE.same (E:=bX) bL hn s0T) (by rw[e0.2.1];exact aE.same (E:=bP) bK hi s0T) (by rw[e0.2.2.1];exact fT) (by rw[e0.2.2.2.1];exact aT) e0.2.2.2.2.1 hT hTl (aF4 hf0) (aQT hf0) g.bh.length (X:=Y) (old:=0) ar G.n1 hsz (Ag _) hS;rw[e0.1,e0.2.1,e0.2.2.1,e0.2.2.2.2.1,e0.2.2.2.2.2.1,e0.2.2.2.2.2.2.1] at hlay;refine aW hlay ?_;rintro _ W ⟨m,l',hW,a1,a2,a3,a4,a5⟩;try refine am ?_
 have rall:=fun s hs=>rC (first:=first) G hRk (s:=s) hs;have a2:l'.map (·.1)=(fQ g first act g.bh.length 0 0 []).bh:=a2;have a3:m.da=(fQ g first act g.bh.length 0 0 []).da:=a3;have hW:pR C2 (fun c=>T0.nx<=c) g T0 W m (qD (List.replicate g.bh.length 0) 0 (fQ g first act g.bh.length 0 0 []).olds):=hW;generalize hBB:fQ g first act g.bh.length 0 0 []=BB at *;have pib:pI C2.W ⟨.bw,.bw,[],[]⟩ (X.nx+6):=hS.b.low ar;have giW:=(a5.2 (X.nx+6) ar pib).1.trans giY;have lW:=a5.1;have cW:W.h.get S.nx=_:=(hW.s.2 _ ar).trans ((sTZ.2 _ ar).symm.trans cZ);have rW:W.h.get S1.nx=_:=(hW.s.2 _ ar).trans ((sXT.2 _ ar).trans ((hX.2 _ ar).trans rB));have gjW:=hW.gj;have goW:=hW.go;have gqW:=hW.gq;rw[hC2] at gjW goW gqW;simp only at gjW goW gqW;have sTW:=hW.s;have hTn:=sTW.1;refine aA (aX (Q:=fun oo A' V=>oo= .normal/\aLM W g first m.da S.nx S1.nx (X.nx+6) (X.nx+13) Z.nx fv 0 A' V) (aA (aJ ?_)) ?_)
 ·refine ae ?_;refine aND (X1:=W) (g:=g) (first:=first) (l0:=List.replicate g.bj.length 0) (da:=m.da) (gb:=S.nx) (r4:=S1.nx) (ib:=X.nx+6) (jb:=X.nx+13) (ob:=Z.nx) (fv:=fv) (iv:=iv) ar (aE.same (E:=bP) bK hi (s0T.trans sTW)) trivial cW gjW goW giW Au (fun i hi=>?_) hO.len (fun s hs=>?_) ?_ ar ar ar ar ar ar ar (ah q2) (ah q4) (ah q7) (ah p17) (af) (ag) (bI.self hfB)
  ·have⟨b,q,h1,h2,h3⟩:=jB (hfB.same hX) (i:=i) (by rw[hO.len];exact hi);exact⟨b,q,h1,ar,ar,by rw[iA (sXT.trans sTW) h2];exact h3⟩
  ·have⟨r,h1,h2⟩:=zK hO s hs;refine⟨r,h1,h2,?_⟩;have:=rall s hs;rw[h1,Az] at this;rw[a3];exact this
  ·have:=Fg List.length a2;rw[Aj] at this;have h2:=rQ (T:=Tr) G hRk hT hTl (f:=g.bh.length) (o:=0) (i:=0) (da:=[]) (first:=first) G.n1;rw[hBB] at h2;have h3:m.l.length=l'.length:=by rw[a1];rfl
   simp only[Bq,An] at hsz;omega
 rintro oo ⟨F3,inr⟩ V ⟨rfl,q0,sV,i,l,hik,hll,hlj,gV,r2,r4,r7,r17,r18,_⟩;simp only at q0 r2 r4 r7 r17 r18;subst q0;obtain rfl:i=g.bj.length:=by omega
 have hnl:l=mD first m.da:=oP (by rw[hll];unfold mD;rw[Aj,hO.len]) fun j hj=>hlj j ar;subst hnl;have gjV:=(sV.2 _ ar ar).trans gjW;have gqV:=(sV.2 _ ar ar).trans gqW;have rV:=(sV.2 _ ar ar).trans rW;have lV:=sV.1;have lj6:=jM (n:=6) gjV rfl;refine bO (dz r4 r17 lj6 ?_);refine cQ (b:=S1.nx) (cs':=[.int .i64 g.bo,m.na,m.ia,.sl (X.nx+6) 0 g.bj.length g.bj.length false,atv,.sl (X.nx+11) 0 g.bh.length g.bh.length false]) (aq r4) (by refine am ?_;exact aY _) rV rfl rfl ?_;intro U v1 k1 d4;try refine am ?_
 have ld4:=jM (n:=6) d4 rfl;refine aP (dz r4 @dJ ld4 ?_);have lU:=v1.1;refine⟨⟨au s0X.1,fun c hc=>(v1.2 c (au s0X.1) ar).trans ((sV.2 c (au s0X.1) (au s0X.1)).trans ((sTW.2 c (au s0X.1)).trans ((sXT.2 c (au s0X.1)).trans (s0X.2 c hc))))⟩,.inr ⟨h0,first,hO,.inr ⟨hD,act,hA,_,rfl,fun U2 hn2 hk2=>?_⟩⟩⟩;have hU:∀c,c≠S1.nx->S.nx<=c->c<V.nx->U2.h.get c=V.h.get c:=fun c hc h0 hl=>(hk2 c h0 ar).trans (v1.2 c hl hc);have hUW:∀c,c≠S1.nx->S.nx<=c->c≠X.nx+6->c<W.nx->U2.h.get c=W.h.get c:=fun c h1 h0 h2 h3=>(hU c h1 h0 ar).trans (sV.2 c h3 h2);have l0X:=s0X.1;have l0B:=s0B.1;have hbU:=hW.b.nodesM (X':=U2) ar fun c h0 hc=>hUW c ar ar ar hc;have hnU:=hbU.bh;have hiU:=hbU.bj;have a1:m.l=l':=a1;rw[a1,a2] at hnU;rw[a3] at hiU;have kXU:∀c,B.nx<=c->c<X.nx->U2.h.get c=X.h.get c:=fun c h1 h2=>(hUW c ar ar ar ar).trans ((sTW.2 c ar).trans (sXT.2 c h2));have hqU:fY 1 B U2 atv g.bj.length cs:=hg.move ar fun c hc=>kXU c (hg.blk hc).1 (hg.blk hc).2.1;have hRU:pO B U2 atv cs act:=hR.moveR ar fun r hr c hc h0=>kXU c h0 (hR.low hr hc);have gqU:=(hU _ ar ar ar).trans gqV;have giU:=(hU _ ar ar ar).trans gV;have hT5:=aD7 (os:=BB.olds) (pl:=List.replicate g.bh.length 0) (i:=0);rw[Au] at hT5;have hnl2:(mD first m.da).length=g.bj.length:=by unfold mD;rw[Aj,hO.len]
 have hcell:∀ {b n:Nat} {l:ba},b<U2.nx->U2.h.get b=some (.cells (aU l) false 0)->l.length=n->bI .i64 U2 (.sl b 0 n n false) l:=fun {b n l} hb hg hn=>.inr ⟨b,0,n,false,aU l,by rw[hn],by rw[hn];exact Ag _,hb,by unfold cK;rw[hg];rfl,fun i x hi=>by
  rw[An];unfold aU;rw[Am,hi];rfl⟩
 refine⟨m.na,m.ia,_,atv,_,rfl,?_,?_,?_,?_,?_⟩
 ·rw[hBB];exact hnU
 ·rw[hBB];exact hiU
 ·rw[hBB,<-a3];exact hcell ar giU hnl2
 ·exact hRU.is hqU hA.len.symm
 ·rw[hBB];exact hcell ar gqU hT5
theorem aEp{lay:Nat->Nat->bg->aDe}:∀ {l:ba} (_:∀k∈l,∀i da,(lay k.toNat i da).da.length<=da.length+(lay k.toNat i da).bh.length) {i:Nat} {da:bg},(eR lay l i da).2.da.length<=da.length+(eR lay l i da).2.bh.length
 | [],_,_,_=>Ag _
 | y::l,h,i,da=>by
  unfold eR;have h1:=h y (Bv ..) i da;have h2:=aEp (l:=l) (fun k hk=>h k (Bk _ hk)) (i:=i+(lay y.toNat i da).bh.length) (da:=(lay y.toNat i da).da);simp only[Ao];omega
theorem aFd{g:aS}{first:ba}{act:a9}:∀ {f o i:Nat} {da:bg},(fQ g first act f o i da).da.length<=da.length+(fQ g first act f o i da).bh.length
 | 0,_,_,_=>Ag _
 | f+1,o,i,da=>by
  unfold fQ;have h1:=aBr (first:=first) (da:=da) (x:=b8 g o);have h2:=aEp (lay:=fQ g first act f) (l:=eO act (b8 g o)) (fun k _ i da=>aFd) (i:=i+1) (da:=(fB first da (b8 g o)).1);simp only[Ax];omega
theorem xU{g:aS}{L:a9}{Z:St}{r:AV}(h:aOO g L Z r):∃x0 x1 x2 x3 x4 x5 e,r= .tup [.agg [x0,x1,x2,x3,x4,x5],.int .i64 e]:=by
 rcases h with⟨_,h⟩ | ⟨_,first,_,⟨_,h⟩ | ⟨_,act,_,v,h,hN⟩⟩
 ·exact⟨_,_,_,_,_,_,_,h⟩
 ·exact⟨_,_,_,_,_,_,_,h⟩
 ·have⟨a1,a2,a3,a4,a5,e1,_⟩:=hN;exact⟨_,_,_,_,_,_,_,by rw[h,e1]⟩
end Go.Ev.Gl
namespace Go.Ev.Gl
section
variable {P:Program}{σ:Env}{S:St}{w:World}
theorem aKj{t:TypeId}{H:Type}{enc:TypeId×Value->H}{base:Nat}{spare:Nat->Bool}{held:Bool}{fuel:Nat}{v:Value}{x:DataW H×List MemPlace}(hR:kT P σ S w)(hn:wK S)(hf:wF S)(hG:P.globals.size<=S.nx)(hL:Lays P t (qM 1 (rS .i64)))(h:DataW.trod enc P w base spare held fuel t v.cells.toList=some x)(hv:v.cells.toList= [v])(hW:∀n∈DataW.weights P t x.1,n<=140737488355328):
  ∃σ' S' a,∃L:a9,lP P σ S w σ' S'/\Rv P σ' a v/\aE 1 iD S' a L/\S.nx<=S'.nx:=by
 have⟨σ',S',avs,l,hA,hr,h1,hE,hnx⟩:=hL H enc σ S w base spare held fuel _ x hR hn hf hG h hW;obtain⟨a,rfl,i1⟩:=qM.is hE;rw[hv] at hr;have⟨_,_,h2,h3,h4⟩:=dB.1 hr;cases h2;exact⟨σ',S',a,l.map id,hA,h3,aE.conv (fun e x h=>aCW h) i1,hnx⟩
theorem aIX{tl ts e:TypeId}(hl:P.underlying tl=some (.slice ts))(hs:P.underlying ts=some (.slice e))(he:P.underlying e=some (.int .i64))(ce:P.cellsOf e=1)(cs:P.cellsOf ts=1)(be:8<=P.bytesOf e)(bs:8<=P.bytesOf ts):Lays P tl (qM 1 (rS .i64)):=
 oU hl cs ay ar (aFe hs he ce be) oM
end
end Go.Ev.Gl
