import Derived.Test.YtoojnpjgnnpllaaGl28
open Nat renaming reduceEqDiff → rE, reduceAdd → rA
set_option maxHeartbeats 16000000
set_option linter.unusedSimpArgs false
set_option linter.unusedVariables false
namespace Go.Ev.Gl
variable {fns:T eG}
def aQS(C:XC)(P:Nat→Prop)(g:aR)(S0 Xe Xs:St)(m:LyS)(pl first:List Int)(act:List (List Int))(old gb yb:Nat)(r1 r2 v13:AV)(o:Out)(A:bH)(Z:St):Prop:=o= .normal∧A.inr=false∧∃m',oF C P g S0 Z m' pl∧m'.l=m.l∧m'.reps=(eX first m.reps (nodeAt g old)).1∧fY C.W m Xe m' Z∧(Xs.nx≤Z.nx∧∀c,c<Xs.nx→oK C.W m c→c≠yb→bD v13≠some c→Z.h.get c=Xs.h.get c)∧Z.h.get yb=some (.cells [.int .i64 (nodeAt g old).kind,.int .i64 (nodeAt g old).player,.int .i64 (eX first m.reps (nodeAt g old)).2,.nilsl,r1,r2] false 0)∧oK C.W m' yb∧yb<Z.nx∧Z.h.get gb=some (.cells [C.ps,C.nv,C.iv] false 0)∧oK C.W m' gb∧gb<Z.nx∧bK .i64 Z v13 (eJ act (nodeAt g old))∧(∀c,bD v13=some c→oK C.W m' c)∧(∀c,(bD r1=some c∨bD r2=some c)→oK C.W m' c)∧LxT C g gb A.F∧aB 11 A.F= .int .i64 ((m.l.length:Nat):Int)∧aB 12 A.F= .ptr yb 0∧aB 13 A.F=v13
def aOo(C:XC)(P:Nat→Prop)(g:aR)(S0 Xe:St)(m:LyS)(pl first:List Int)(act:List (List Int))(f old gb:Nat)(v13:AV)(k:Nat)(A:bH)(Z:St):Prop:=A.inr=false∧∃j,j+k=(eJ act (nodeAt g old)).length∧∃m' v l2,oF C P g S0 Z m' (oG pl m.l.length (old::(eK (fB g first act f) ((eJ act (nodeAt g old)).take j) (m.l.length+1) (eX first m.reps (nodeAt g old)).1).2.olds))∧m'.l=m.l++((tR first m.reps (nodeAt g old) (eK (fB g first act f) ((eJ act (nodeAt g old)).take j) (m.l.length+1) (eX first m.reps (nodeAt g old)).1).1,v)::l2)∧l2.map (·.1)=(eK (fB g first act f) ((eJ act (nodeAt g old)).take j) (m.l.length+1) (eX first m.reps (nodeAt g old)).1).2.nodes∧m'.reps=(eK (fB g first act f) ((eJ act (nodeAt g old)).take j) (m.l.length+1) (eX first m.reps (nodeAt g old)).1).2.reps∧m'.reps.length≤m'.l.length∧fY C.W m Xe m' Z∧bK .i64 Z v13 (eJ act (nodeAt g old))∧(∀c,bD v13=some c→oK C.W m' c)∧Z.h.get gb=some (.cells [C.ps,C.nv,C.iv] false 0)∧oK C.W m' gb∧gb<Z.nx∧LxT C g gb A.F∧aB 11 A.F= .int .i64 ((m.l.length:Nat):Int)∧aB 13 A.F=v13∧aB 16 A.F= .int .i64 (j:Int)
theorem oF.plc{C:XC}{P:Nat→Prop}{g:aR}{S0 X:St}{m:LyS}{pl pl':List Int}(h:oF C P g S0 X m pl)(hl:pl'.length=pl.length):oF C P g S0 ⟨X.h.set C.qb (some (.cells (aP pl') false 0)),X.nx⟩ m pl':=by
 have k1:∀c,c≠C.qb→(X.h.set C.qb (some (.cells (aP pl') false 0))).get c=X.h.get c:=fun c hc=>by rw[T.get_set,if_neg hc]
 obtain⟨d1,d2,d3⟩:=h.n1;have w:=(h.b.wg _ XC.wq).1;exact⟨h.b.local (Ah _) fun c _ hw _=>k1 c fun e=>hw (by rw[e];exact XC.wq),(k1 _ d2).trans h.gj,(k1 _ d3).trans h.go,by simp only;rw[T.get_set,if_pos rfl],h.n1,hl.trans h.pll,⟨h.s.1,fun c hc=>(k1 c (by omega)).trans (h.s.2 c hc)⟩⟩
theorem aJt{C:XC}{P:Nat→Prop}{g:aR}{S0:St}{first:List Int}{act:List (List Int)}{Tr:List dH}(H:Has fns)(hP:∀c,S0.nx≤c→P c)(G:aIx g)(hR:rM g act)(hFl:first.length=g.infos.length)(hFr:∀s,s<g.infos.length→∃r:Nat,first.getD s 0=(r:Int)∧r<g.infos.length)(hn:aH 6 bP S0 C.nv g.nodes)(hi:aH 2 cA S0 C.iv g.infos)(hf:bK .i64 S0 C.fv first)(ha:aH 1 iX S0 C.av act)(hps:C.ps= .int .i64 g.players)(hT:gS g=some Tr)(hTl:Tr.length=g.nodes.length)(hwl:∀i,i<g.nodes.length→(nodeAt g i).weights.length≤100000)(hi0:∀i,i<g.nodes.length→(nodeAt g i).kind≠2→(nodeAt g i).info=0):
  ∀ (f:Nat) {X:St} {m:LyS} {pl:List Int} {old:Nat},g.nodes.length≤f+old→old<g.nodes.length→m.l.length+mS Tr old≤g.nodes.length→m.reps.length≤m.l.length→oF C P g S0 X m pl→
  gH fns (.fn 141 [] []) [.agg [C.ps,C.nv,C.iv],.int .i64 (old:Int),C.fv,.sl C.ob 0 g.infos.length g.infos.length false,.ptr C.jb 0] X fun _ Z=>∃m' l',oF C P g S0 Z m' (oG pl m.l.length (fB g first act f old m.l.length m.reps).olds)∧m'.l=m.l++l'∧l'.map (·.1)=(fB g first act f old m.l.length m.reps).nodes∧m'.reps=(fB g first act f old m.l.length m.reps).reps∧m'.reps.length≤m'.l.length∧fY C.W m X m' Z:=by
 have Gg:=G.good;have hN:=Gg.n2;have snv:=aH.self hn;have siv:=aH.self hi;intro f
 induction f with
 | zero=>intro X m pl old h1 h2;omega
 | succ f ih=>
  intro X m pl old hfu hold hsz hrl hS;have hks:=aB6 hT hTl hold;refine cI H.f141 (by simp) ?_;simp only[↓aF,aE,rE,↓reduceIte,rA];refine bQ ?_;refine cM (by simp only[↓aF,aE,rE,↓reduceIte,rA];exact bB _) ?_;intro X1 x1 n1 g1;simp only[↓aF,aE,rE,↓reduceIte,rA];obtain⟨gb,hgb⟩:∃gb,gb=X.nx:=⟨_,rfl⟩;rw[←hgb] at g1;simp only[←hgb];have s01:=hS.s.trans x1;obtain⟨_,bx,qx,hiax,hbx,_,⟨xa,xw,xp,rfl,hxa,hxw,hxp⟩,hldx,_⟩:=aH.at hn (by decide) (eR hold);rw[←jJ s01 hbx] at hldx;have lg1:=eY g1;refine bQ ?_;simp only[↓aF,aE,rE,↓reduceIte,rA,aC,aD,lg1,aG,hiax,hldx];refine cH ?_;intro X2 x2 n2 g2;try simp only[↓aF,aE,rE,↓reduceIte,rA]
  refine dB (b:=X1.nx) (cs':=[.int .i64 (nodeAt g old).kind,.int .i64 (nodeAt g old).player,.int .i64 (nodeAt g old).info,xa,xw,xp]) (by simp only[↓aF,aE,rE,↓reduceIte,rA]) (by simp only[↓aF,aE,rE,↓reduceIte,rA];exact bB _) g2 rfl rfl ?_;intro X3 x3 n3 g3;simp only[↓aF,aE,rE,↓reduceIte,rA];have s13:Same X1 X3:=x3.same x2 (Ah _);obtain⟨xb,hxb⟩:∃xb,xb=X1.nx:=⟨_,rfl⟩;rw[←hxb] at g3;simp only[←hxb];have sX3:=x1.trans s13;have hS3:∀ {P':Nat→Prop},(∀c,c<X.nx→P c→P' c)→oF C P' g S0 X3 m pl:=fun h=>(hS.mono h).same sX3;have hS3':=hS3 (P':=P) fun _ _ h=>h;have hnl:=hS3'.b.nod.len;have gj3:=hS3'.gj;refine bQ ?_;simp only[↓sU,sD,rE,↓reduceIte,rA,bJ,bI,aC,aD,dE gj3,hnl];have hpl:=hS.pll;have hia:=dT (b:=C.qb) (o:=false) hold;refine bQ ?_;simp only[↓sU,sD,rE,↓reduceIte,rA,bJ,bI,aC,aD,dM gj3,aG,hia];refine fJ (fun call=>by simp only[↓sU,sD,rE,↓reduceIte,rA,dN,cO];exact qL (S:=X3) hS3'.gq (by omega)) ?_;simp only[↓sU,sD,rE,↓reduceIte,rA];obtain⟨X4,hX4⟩:∃X4:St,X4=⟨X3.h.set C.qb (some (.cells (aP (pl.set old ((m.l.length:Nat):Int))) false 0)),X3.nx⟩:=⟨_,rfl⟩;rw[←hX4];have n4:X4.nx=X3.nx:=by rw[hX4]
  have k4:∀c,c≠C.qb→X4.h.get c=X3.h.get c:=fun c hc=>by rw[hX4];simp only;rw[T.get_set,if_neg hc]
  have hS4:∀ {P':Nat→Prop},(∀c,c<X.nx→P c→P' c)→oF C P' g S0 X4 m (pl.set old ((m.l.length:Nat):Int)):=fun h=>by
   rw[hX4];exact(hS3 h).plc (by rw[Ap])
  have K4:fY C.W m X m X4:=(fY.same sX3).trans (.off (Et n4.symm) fun c _ hp=>k4 c fun e=>hp.1 (by rw[e];exact XC.wq));have lqX:C.qb<X.nx:=(hS.b.wg _ XC.wq).2;have g34:=(k4 xb (by omega)).trans g3;have gg4:=(k4 gb (by omega)).trans ((s13.2 _ (by omega)).trans g1);have lxb:xb<X4.nx:=by omega
  have lgb:gb<X4.nx:=by omega
  have hS4':=hS4 (P':=P) fun _ _ h=>h;refine aA (aNX rfl (by simp only[↓sU,sD,rE,↓reduceIte,rA]) g34 lxb (hxw.same hS4'.s) (hxp.same hS4'.s) (hwl old hold) (by have:=Gg.pay old hold;omega) ?_);intro F5 X5 r1 r2 yb hk5 p12 s5 h5a h5b g5 i1 i2 hb12;have q2:=hk5 2 (by omega) (by omega);have q3:=hk5 3 (by omega) (by omega);have q4:=hk5 4 (by omega) (by omega);have q5:=hk5 5 (by omega) (by omega);have q10:=hk5 10 (by omega) (by omega);have q11:=hk5 11 (by omega) (by omega);simp only[↓sU,sD,rE,↓reduceIte,rA] at q2 q3 q4 q5 q10 q11;have g35:=(s5.2 _ lxb).trans g34;try simp only[↓sU,sD,rE,↓reduceIte,rA]
  refine bQ ?_;refine gM aAc ?_;intro X6 x6 n6 g6;have g36:=(x6.2 _ (by have:=s5.1;omega)).trans g35;simp only[↓aF,aE,rE,↓reduceIte,rA,q10,aC,aD,cT g36];have hnx:=Gg.nxt old hold;obtain⟨v13,X7,e7,s7,q7⟩:=zW g6 (hxa.same (hS4'.s.trans (s5.trans x6))) (by omega);refine fJ (fun call=>by simp only[↓aF,aE,rE,↓reduceIte,rA,iG];exact e7) ?_;simp only[↓aF,aE,rE,↓reduceIte,rA];have g67:=(s7.2 _ (by omega)).trans g6;obtain⟨i13,c13,k13⟩:=aJP (by have:=s7.1;omega) g67 q7;have s57:=x6.trans s7;have s47:=s5.trans s57;have g57:=(s57.2 _ h5b).trans g5;have g37:=(s57.2 _ (by have:=s5.1;omega)).trans g35;have gg7:=(s47.2 _ lgb).trans gg4;have lb13:∀c,bD v13=some c→X5.nx≤c:=fun c hc=>by rcases k13 c hc with h | h<;>omega
  have l57:=s57.1;have l5:=s5.1;obtain⟨P',hP'⟩:∃P':Nat→Prop,P'=fun c=>c≠yb∧bD v13≠some c∧P c:=⟨_,rfl⟩;have hmP:∀c,c<X.nx→P c→P' c:=fun c hc hp=>by rw[hP'];exact⟨by omega,fun e=>by have:=lb13 c e;omega,hp⟩
  have hS7:oF C P' g S0 X7 m (pl.set old ((m.l.length:Nat):Int)):=(hS4 hmP).same s47;have fr:∀c,X.nx≤c→oK C.W m c:=fun c hc=>hS.b.fresh hc;have K7:fY C.W m X m X7:=K4.trans (.same s47);have hb12':∀c,(bD r1=some c∨bD r2=some c)→c<X5.nx:=fun c hc=>by
   rcases hc with hc | hc
   ·exact fE i1 hc
   ·exact fE i2 hc
  refine aA (aY (Q:=aQS C P' g S0 X X7 m (pl.set old ((m.l.length:Nat):Int)) first act old gb yb r1 r2 v13) (aA (aJ ?_)) ?_)
  ·simp only[↓sU,sD,rE,↓reduceIte,rA,q10,aC,aD,eC g37];by_cases hk:(nodeAt g old).kind=2
   ·refine aO (by simp only[↓sU,sD,rE,↓reduceIte,rA,Ac hk]) ?_;obtain⟨a1,a2,a3⟩:=aCx Gg hold hk;obtain⟨w1,w2,w3⟩:=hR.2 _ a1;have hne:(nodeAt g old).next≠ []:=fun e=>by
     have:=(G.mov old hold hk).1;rw[e] at this;exact absurd this (by decide)
    rcases q7 with⟨e,_⟩ | ⟨hg7,_⟩
    ·exact absurd e hne
    rcases hg7 with⟨_,e,_⟩ | ⟨cb,hcbv,c1,c2,c3,_⟩
    ·exact absurd (Bw.1 e) hne
    have hcb5:=lb13 cb (by rw[hcbv];rfl);have eh:eX first m.reps (nodeAt g old)=((lC m.reps (first.getD (nodeAt g old).info.toNat 0).toNat).1,((lC m.reps (first.getD (nodeAt g old).info.toNat 0).toNat).2:Int)):=by unfold eX;rw[if_pos hk]
    have eo:eJ act (nodeAt g old)=oE (act.getD (nodeAt g old).info.toNat []) (nodeAt g old).next (nodeAt g old).next.length:=by unfold eJ;rw[if_pos hk]
    have hXS:=hS.s.1;refine aY (aNZ (C:=C) (P:=P') (Xe:=X) (s:=(nodeAt g old).info.toNat) (act:=act) (first:=first) (x11:=.int .i64 ((m.l.length:Nat):Int)) (gb:=gb) (xb:=xb) (yb:=yb) (cb:=cb) (k:=.int .i64 (nodeAt g old).kind) (p:=.int .i64 (nodeAt g old).player) (xa:=xa) (xw:=xw) (xp:=xp) (r1:=r1) (r2:=r2) hS7 (by rw[hP'];exact fun h=>h.1 rfl) (by rw[hP'];exact fun h=>h.2.1 (by rw[hcbv];rfl)) K7 (by omega) (by omega) (by omega) (by omega) (by omega) (by omega) (by omega) (by omega) (by omega) (fr _ (by omega)) (fr _ (by omega)) (fr _ (by omega)) (fr _ (by omega)) (by omega) (by omega) (by omega) c2 (fun c hc=>⟨fr _ (by have:=(hb12 c hc).1;omega),by have:=hb12' c hc;omega⟩) ha hf hi hxa (by omega) (by rw[hR.1];exact a1) (by rw[hFl];exact a1) (by rw[w1];exact a2) (by rw[←a2];exact w2) (hFr _ a1) (by omega) (by rw[a3];exact g37) g57 gg7 c3 (by refine⟨?_,?_,?_,?_⟩<;>simp only[↓sU,sD,rE,↓reduceIte,rA,q2,q3,q4,q5]) (by simp only[↓sU,sD,rE,↓reduceIte,rA,q10]) (by simp only[↓sU,sD,rE,↓reduceIte,rA,q11]) (by simp only[↓sU,sD,rE,↓reduceIte,rA,p12]) (by simp only[↓sU,sD,rE,↓reduceIte,rA,hcbv])) ?_;rintro o A' Z ⟨h1,h2,m',h3,h4,h5,h6,h6b,h7,h8,h9,h10,h11,h12,h13,h14,h15,h16,h17,h18,h19⟩;exact⟨h1,h2,m',h3,h4,by rw[eh];exact h5,h6,by rw[hcbv];exact h6b,by rw[eh];exact h7,h8,h9,h10,h11,h12,by rw[eo,hcbv];exact h13,by rw[hcbv];exact h14,h15,h16,h17,h18,by rw[hcbv];exact h19⟩
   ·refine aN (by simp only[↓sU,sD,rE,↓reduceIte,rA,Aa hk]) (aI ?_);have eh:eX first m.reps (nodeAt g old)=(m.reps,0):=by unfold eX;rw[if_neg hk,hi0 old hold hk]
    have eo:eJ act (nodeAt g old)=(nodeAt g old).next:=by unfold eJ;rw[if_neg hk]
    exact⟨rfl,rfl,m,hS7,rfl,by rw[eh],K7,⟨Ah _,fun _ _ _ _ _=>rfl⟩,by rw[eh];exact g57,fr _ (by omega),by omega,gg7,fr _ (by omega),by omega,by rw[eo];exact i13,fun c hc=>fr c (by have:=lb13 c hc;omega),fun c hc=>fr c (by have:=(hb12 c hc).1;omega),(by refine⟨?_,?_,?_,?_⟩<;>simp only[↓sU,sD,rE,↓reduceIte,rA,q2,q3,q4,q5]),by refine⟨?_,?_,?_⟩<;>simp only[↓sU,sD,rE,↓reduceIte,rA,q11,p12]⟩
  have i1':=i1.same s57;have i2':=i2.same s57;have hl17:∀c,(bD r1=some c∨bD r2=some c)→c<X7.nx:=fun c hc=>by have:=hb12' c hc;omega
  have hn13:∀c,(bD r1=some c∨bD r2=some c)→c≠yb∧bD v13≠some c∧oK C.W m c:=fun c hc=>⟨(hb12 c hc).2,fun e=>by have:=lb13 c e;have:=hb12' c hc;omega,fr c (by have:=(hb12 c hc).1;omega)⟩;have hP1:∀c,(bD r1=some c∨bD r2=some c)→P' c:=fun c hc=>by
   rw[hP'];exact⟨(hn13 c hc).1,(hn13 c hc).2.1,hP c (by have:=(hb12 c hc).1;have:=hS.s.1;omega)⟩
  have hXn:=hS.s.1;clear q2 q3 q4 q5 q10 q11 p12 hS7 K7 hS4' hS4 hS3' hS3 gj3 g37 g36 g35 g34 g57 g5 gg7 gg4 g67 g6 q7 i13 e7;rintro o ⟨F1,inr⟩ Z ⟨rfl,q0,m1,hZ,el,er,KZ,⟨nZ7,kZ⟩,gyZ,pyZ,lyZ,ggZ,pgZ,lgZ,iv13,bv13,b12Z,⟨p2,p3,p4,p5⟩,p11,p12,p13⟩;simp only at q0 p2 p3 p4 p5 p11 p12 p13;subst q0;have i1Z:bK .i64 Z r1 (nodeAt g old).weights:=eO i1' nZ7 fun c hc=>kZ c (hl17 c (.inl hc)) (hn13 c (.inl hc)).2.2 (hn13 c (.inl hc)).1 (hn13 c (.inl hc)).2.1;have i2Z:bK .i64 Z r2 (nodeAt g old).pay:=eO i2' nZ7 fun c hc=>kZ c (hl17 c (.inr hc)) (hn13 c (.inr hc)).2.2 (hn13 c (.inr hc)).1 (hn13 c (.inr hc)).2.1;try simp only[↓sU,sD,rE,↓reduceIte,rA]
  have hsz1:=hsz;refine aA (aLs (W:=C.W) (P:=P') (g:=g) (S0:=S0) (X:=Z) (yb:=yb) (jb:=C.jb) (m:=m1) (a:=tR first m.reps (nodeAt g old) []) (rw':=r1) (rp:=r2) rfl hZ.b hZ.s.1 p4 p12 gyZ hZ.gj lyZ XC.wj i1Z i2Z (fun c hc=>⟨b12Z c hc,hP1 c hc⟩) rfl (by rw[el];omega) ?_);intro F2 Y na' hk2 hbY KY gjY kY;have q2:=(hk2 2 (by omega)).trans p2;have q3:=(hk2 3 (by omega)).trans p3;have q4:=(hk2 4 (by omega)).trans p4;have q5:=(hk2 5 (by omega)).trans p5;have q11:=(hk2 11 (by omega)).trans p11;have q13:=(hk2 13 (by omega)).trans p13;obtain⟨d1,d2,d3⟩:=hS.n1;have wgZ:=hZ.b.wg;have hSY:oF C P g S0 Y {m1 with na:=na',l:=m1.l++ [(tR first m.reps (nodeAt g old) [],AV.nilsl)]} (pl.set old ((m.l.length:Nat):Int)):=⟨hbY.mono fun c _ h=>by rw[hP'] at h;exact h.2.2,gjY,(kY _ (wgZ _ XC.wo).2 XC.wo (Bq d1)).trans hZ.go,(kY _ (wgZ _ XC.wq).2 XC.wq (Bq d2)).trans hZ.gq,hS.n1,hZ.pll,hZ.b.same0 KY hZ.s⟩;have KXY:=KZ.trans KY;have v13Y:bK .i64 Y v13 (eJ act (nodeAt g old)):=eO iv13 KY.1 fun c hc=>(KY.2 c (fE iv13 hc) (bv13 c hc)).1;have b13Y:∀c,bD v13=some c→oK C.W {m1 with na:=na',l:=m1.l++ [(tR first m.reps (nodeAt g old) [],AV.nilsl)]} c:=fun c hc=>(KY.2 c (fE iv13 hc) (bv13 c hc)).2;have ggY:=(KY.2 gb lgZ pgZ).1.trans ggZ;have pgY:=(KY.2 gb lgZ pgZ).2;have lgY:=Ae lgZ KY.1;have hrl1:=aA4 (first:=first) (reps:=m.reps) (x:=nodeAt g old);have hol:(eJ act (nodeAt g old)).length=(nodeAt g old).next.length:=(iR Gg hR hold).length_eq;try simp only[↓sU,sD,rE,↓reduceIte,rA]
  refine aY (Q:=fun o A' W=>o= .normal∧aOo C P g S0 X m pl first act f old gb v13 0 A' W) (aA (aJ ?_)) ?_
  ·simp only[↓sU,sD,rE,↓reduceIte,rA];refine aL (bL (aOo C P g S0 X m pl first act f old gb v13) ?_ (eJ act (nodeAt g old)).length _ _ ⟨rfl,0,by omega,_,AV.nilsl,[],hSY,by rw[Er,←el];rfl,by rw[Er];rfl,by rw[Er];exact er,by show m1.reps.length≤(m1.l++ [_]).length;rw[er,el,Am,Bi];omega,KXY,v13Y,b13Y,ggY,pgY,lgY,(by refine⟨?_,?_,?_,?_⟩<;>simp only[↓sU,sD,rE,↓reduceIte,rA,q2,q3,q4,q5]),by simp only[↓sU,sD,rE,↓reduceIte,rA,q11],by simp only[↓sU,sD,rE,↓reduceIte,rA,q13],by simp only[↓sU,sD,rE,↓reduceIte,rA];try rfl⟩);clear hS KZ hZ hbY hSY KXY v13Y KY q2 q3 q4 q5 q11 q13 p2 p3 p4 p5 p11 p12 p13 gjY kY b13Y ggY pgY;rintro k ⟨F,inr⟩ W ⟨q0,j,hjk,m',v,l2,hW,e1,e2,e3,e4,e5,e6,e7,ggW,pgW,lgW,⟨t2,t3,t4,t5⟩,t11,t13,t16⟩;simp only at q0 t2 t3 t4 t5 t11 t13 t16;subst q0;refine gC ?_;simp only[↓sU,sD,rE,↓reduceIte,rA,t13,t16,e6.len,Ag];by_cases hlt:j<(eJ act (nodeAt g old)).length;rotate_left
   ·refine aN (by simp only[↓sU,sD,rE,↓reduceIte,rA,Aa (show ¬ (j:Int)<(((eJ act (nodeAt g old)).length:Nat):Int) by omega)]) (bM ?_);simp only[↓sU,sD,rE,↓reduceIte,rA];obtain rfl:k=0:=by omega
    exact⟨rfl,j,hjk,m',v,l2,hW,e1,e2,e3,e4,e5,e6,e7,ggW,pgW,lgW,(by refine⟨?_,?_,?_,?_⟩<;>simp only[↓sU,sD,rE,↓reduceIte,rA,t2,t3,t4,t5]),by refine⟨?_,?_,?_⟩<;>simp only[↓sU,sD,rE,↓reduceIte,rA,t11,t13,t16]⟩
   refine aO (by simp only[↓sU,sD,rE,↓reduceIte,rA,Ac (show(j:Int)<(((eJ act (nodeAt g old)).length:Nat):Int) by omega)]) (aI ?_);try simp only[↓sU,sD,rE,↓reduceIte,rA]
   have w1:IntKind.i64.wrap ((j:Int)+1)=((j+1:Nat):Int):=by rw[wrap_i64 (by omega) (by omega)];omega
   have hmem:(eJ act (nodeAt g old)).getD j 0∈(nodeAt g old).next:=(iR Gg hR hold).mem_iff.1 (by rw[Ad,Ab hlt];exact Bo hlt);obtain⟨q,hq,hqe⟩:=Cb hmem;have hkid:=Gg.kids old hold q hq;rw[show(nodeAt g old).next.getD q 0=(nodeAt g old).next[q] by rw[Ad,Ab hq];rfl,hqe] at hkid;obtain⟨cn,hcn⟩:∃cn:Nat,(eJ act (nodeAt g old)).getD j 0=(cn:Int):=⟨((eJ act (nodeAt g old)).getD j 0).toNat,by omega⟩;rw[hcn] at hkid;have htk:(eJ act (nodeAt g old)).take (j+1)=(eJ act (nodeAt g old)).take j++ [(cn:Int)]:=by
    rw[Bp,Ab hlt,←hcn,Ad,Ab hlt];rfl
   generalize hKB:eK (fB g first act f) ((eJ act (nodeAt g old)).take j) (m.l.length+1) (eX first m.reps (nodeAt g old)).1=KB at *;have hl2:l2.length=KB.2.nodes.length:=by rw[←e2,Aj]
   have hml:m'.l.length=m.l.length+1+KB.2.nodes.length:=by rw[e1,Am,Ay,hl2];omega
   have hszc:m'.l.length+mS Tr cn≤g.nodes.length:=by
    have h1:=qP (T:=Tr) (lay:=fB g first act f) (l:=(eJ act (nodeAt g old)).take j) (fun k hk i reps=>qE Gg hR hT hTl (by
     obtain⟨q,hq,rfl⟩:=Cb ((iR Gg hR hold).mem_iff.1 (Dm hk));have:=Gg.kids old hold q hq;rw[Ad,Ab hq] at this;simp only[Cy] at this;omega)) (i:=m.l.length+1) (reps:=(eX first m.reps (nodeAt g old)).1)
    rw[hKB] at h1;have h2:=aCY (((iR Gg hR hold).map Int.toNat).map (mS Tr));have h3:=aEf (l:=((eJ act (nodeAt g old)).map Int.toNat).map (mS Tr)) (j:=j) (by rw[Aj,Aj];exact hlt);rw[←List.map_take,←List.map_take] at h3;have h4:(((eJ act (nodeAt g old)).map Int.toNat).map (mS Tr)).getD j 0=mS Tr cn:=by
     rw[Ad,Aq,Aq,Ab hlt];have:(eJ act (nodeAt g old))[j]=(cn:Int):=by rw[←hcn,Ad,Ab hlt];rfl
     rw[this];rfl
    omega
   have hiW:m'.l[m.l.length]? =some (tR first m.reps (nodeAt g old) KB.1,v):=by
    rw[e1,Bd (Ah _),Dw];rfl
   have hkl:=wH (lay:=fB g first act f) (l:=(eJ act (nodeAt g old)).take j) (i:=m.l.length+1) (reps:=(eX first m.reps (nodeAt g old)).1);rw[hKB,Ce] at hkl;refine aA (aL (aA (aLq (W:=C.W) (P:=P) (g:=g) (S0:=S0) (jb:=C.jb) (i:=m.l.length) (m:=m') (v:=v) (a:=tR first m.reps (nodeAt g old) KB.1) rfl hW.b hW.s.1 hiW (by show KB.1.length≤100000;omega) (by simp only[↓sU,sD,rE,↓reduceIte,rA,t4]) (by simp only[↓sU,sD,rE,↓reduceIte,rA,t11]) hW.gj XC.wj ?_)));intro F' V v2 hk' hbV KV kV;have wgW:=hW.b.wg;obtain⟨mV,hmV⟩:∃mV:LyS,mV= {m' with l:=m'.l.set m.l.length ({tR first m.reps (nodeAt g old) KB.1 with next:=KB.1++ [((m'.l.length:Nat):Int)]},v2)}:=⟨_,rfl⟩;have hbV':oV C.W P g S0 V mV:=by rw[hmV];exact hbV
   have KV':fY C.W m' W mV V:=by rw[hmV];exact KV
   have hmVl:mV.l.length=m'.l.length:=by rw[hmV];simp only;rw[Ap]
   have hmVr:mV.reps=m'.reps:=by rw[hmV]
   have hLV:oF C P g S0 V mV (oG pl m.l.length (old::KB.2.olds)):=⟨hbV',by rw[hmV];exact(kV _ (wgW _ XC.wj).2 XC.wj).trans hW.gj,by rw[hmVr];exact(kV _ (wgW _ XC.wo).2 XC.wo).trans hW.go,(kV _ (wgW _ XC.wq).2 XC.wq).trans hW.gq,hW.n1,hW.pll,hW.b.same0 KV hW.s⟩;clear hbV KV;have e6V:bK .i64 V v13 (eJ act (nodeAt g old)):=eO e6 KV'.1 fun c hc=>(KV'.2 c (fE e6 hc) (e7 c hc)).1;have e7V:∀c,bD v13=some c→oK C.W mV c:=fun c hc=>(KV'.2 c (fE e6 hc) (e7 c hc)).2;have ggV:=(KV'.2 gb lgW pgW).1.trans ggW;have pgV:=(KV'.2 gb lgW pgW).2;have lgV:=Ae lgW KV'.1;have g2:=hk' 2 (by omega);have g3:=hk' 3 (by omega);have g4:=hk' 4 (by omega);have g5:=hk' 5 (by omega);have g11:=hk' 11 (by omega);have g13:=hk' 13 (by omega);have g16:=hk' 16 (by omega);simp only[↓sU,sD,rE,↓reduceIte,rA,t2,t3,t4,t5,t11,t13,t16] at g2 g3 g4 g5 g11 g13 g16;obtain⟨kb,kq,i1,lk,i3⟩:=iQ e6V hlt;rw[hcn] at i3;have sgv:cC (.agg [C.ps,C.nv,C.iv]) (.agg [C.ps,C.nv,C.iv])=true:=sF (by rw[hps];exact cS ..) snv siv;try simp only[↓sU,sD,rE,↓reduceIte,rA]
   refine aMZ (gb:=gb) (kb:=kb) (kq:=kq) (pv:=C.ps) (nv:=C.nv) (iv:=C.iv) (v13:=v13) (fv:=C.fv) (ov:=.sl C.ob 0 g.infos.length g.infos.length false) (jv:=.ptr C.jb 0) (j:=j) (c:=(cn:Int)) rfl g5 g13 g16 g2 g3 g4 ggV lgV sgv i1 lk i3 ?_;refine aX (ih (m:=mV) (pl:=oG pl m.l.length (old::KB.2.olds)) (old:=cn) (by omega) (by omega) (by rw[hmVl];exact hszc) (by rw[hmVl,hmVr];exact e4) (hLV.same (Same.nx V 9))) ?_;rintro _ W2 ⟨m2,l3,hW2,a1,a2,a3,a4,a5⟩ F3 hk3;have h2':=(hk3 2 (by omega)).trans g2;have h3':=(hk3 3 (by omega)).trans g3;have h4':=(hk3 4 (by omega)).trans g4;have h5':=(hk3 5 (by omega)).trans g5;have h11':=(hk3 11 (by omega)).trans g11;have h13':=(hk3 13 (by omega)).trans g13;have h16':=(hk3 16 (by omega)).trans g16;have KW2:fY C.W mV V m2 W2:=(fY.same (Same.nx V 9)).trans a5;rw[hmVl,hml] at hW2 a2 a3;rw[hmVr] at hW2 a2 a3;try simp only[↓sU,sD,rE,↓reduceIte,rA]
   refine aJ ?_;simp only[↓sU,sD,rE,↓reduceIte,rA,h16',w1];have kk:=yZ (lay:=fB g first act f) (l:=(eJ act (nodeAt g old)).take j) (k:=(cn:Int)) (i:=m.l.length+1) (reps:=(eX first m.reps (nodeAt g old)).1);rw[hKB,←htk,Ba,←e3] at kk;refine⟨k - 1,by omega,rfl,j+1,by omega,m2,v2,l2++l3,?_,?_,?_,?_,a4,e5.trans (KV'.trans KW2),eO e6V KW2.1 fun c hc=>(KW2.2 c (fE e6V hc) (e7V c hc)).1,fun c hc=>(KW2.2 c (fE e6V hc) (e7V c hc)).2,(KW2.2 gb lgV pgV).1.trans ggV,(KW2.2 gb lgV pgV).2,Ae lgV KW2.1,(by refine⟨?_,?_,?_,?_⟩<;>simp only[↓sU,sD,rE,↓reduceIte,rA,h2',h3',h4',h5']),by refine⟨?_,?_,?_⟩<;>simp only[↓sU,sD,rE,↓reduceIte,rA,h11',h13']⟩
   ·rw[kk];simp only;have hol2:KB.2.olds.length=KB.2.nodes.length:=by rw[←hKB];exact tU fun o i reps=>aAS
    have hpe:oG pl m.l.length (old::(KB.2.olds++(fB g first act f cn (m.l.length+1+KB.2.nodes.length) m'.reps).olds))=oG (oG pl m.l.length (old::KB.2.olds)) (m.l.length+1+KB.2.nodes.length) (fB g first act f cn (m.l.length+1+KB.2.nodes.length) m'.reps).olds:=by
     rw[←Cf,aDg,Ay,hol2,show m.l.length+(KB.2.nodes.length+1)=m.l.length+1+KB.2.nodes.length by omega]
    rw[hpe];exact hW2
   ·rw[kk];simp only;rw[a1,hmV];simp only;rw[hml,e1,List.set_append_right _ _ (Ah _),Dw,Cd];rfl
   ·rw[kk];simp only;rw[Dx,e2,a2]
   ·rw[kk];exact a3
  rintro o ⟨F3,inr⟩ W ⟨rfl,q0,j,hjk,m',v,l2,hW,e1,e2,e3,e4,e5,_⟩;obtain rfl:j=(eJ act (nodeAt g old)).length:=by omega
  rw[List.take_length] at hW e1 e2 e3;refine⟨_,rfl,m',_,hW,e1,?_,e3,e4,e5⟩;rw[Cx,e2];rfl
def eqK(g:aR)(o:List Int)(p q:K2):Prop:=o.getD (jQ g p) 0=o.getD (jQ g q) 0
instance eqKDec(g:aR)(o:List Int)(p q:K2):Decidable (eqK g o p q):=by unfold eqK;exact inferInstance
def yE(g:aR)(o:List Int)(r i a:Nat):Nat→List Int
 | 0=>[]
 | b+1=>if eqK g o (r,b) (i,a) then yE g o r i a b++ [(b:Int)] else yE g o r i a b
def aAz(g:aR)(o:List Int)(r i:Nat):Nat→List Int
 | 0=>[]
 | a+1=>aAz g o r i a++yE g o r i a (cR g r)
theorem aCp{g:aR}{o:List Int}{r i a:Nat}:∀ {n:Nat},(yE g o r i a n).length≤n
 | 0=>Ah _
 | n+1=>by
  unfold yE;have:=aCp (g:=g) (o:=o) (r:=r) (i:=i) (a:=a) (n:=n);split
  ·rw[Am,Bi];omega
  ·omega
theorem aGU{g:aR}{o:List Int}{r i:Nat}(h:cR g r≤1000):∀ {n:Nat},(aAz g o r i n).length≤1000 * n
 | 0=>Ah _
 | n+1=>by
  unfold aAz;have:=aGU (g:=g) (o:=o) (r:=r) (i:=i) h (n:=n);have:=aCp (g:=g) (o:=o) (r:=r) (i:=i) (a:=n) (n:=cR g r);rw[Am];omega
structure XjC where
 (gb r4:Nat) (fv ov wv nv iv:AV)
structure XjB(C:XjC)(B:St)(g:aR)(first o:List Int):Prop where
 gg:B.h.get C.gb=some (.cells [.int .i64 g.players,C.nv,C.iv] false 0)
 ii:aH 2 cA B C.iv g.infos
 ff:bK .i64 B C.fv first
 oo:bK .i64 B C.ov o
 ww:bK .i64 B C.wv (oM g)
 lo:o.length=dO g g.infos.length
 lf:first.length=g.infos.length
 fr:∀s,s<g.infos.length→∃r:Nat,first.getD s 0=(r:Int)∧r<g.infos.length
 g4:B.h.get C.r4=some (.cells [.int .i64 0,.nilsl,.nilsl,.nilsl,.nilsl,.nilsl] false 0)
 lg:C.gb<B.nx
 l4:C.r4<B.nx
def XjT(C:XjC)(F:Fr)(atv rowv:AV)(i:Nat):Prop:=aB 2 F= .ptr C.gb 0∧aB 4 F= .ptr C.r4 0∧aB 7 F=C.fv∧aB 9 F=C.ov∧aB 10 F=C.wv∧aB 11 F=atv∧aB 12 F= .int .i64 (i:Int)∧aB 13 F=rowv
def XjR(C:XjC)(B:St)(g:aR)(o:List Int)(A:bH)(Y:St):Prop:=bS C.r4 B Y∧Y.h.get C.r4=some (.cells [.int .i64 0,.nilsl,.nilsl,.nilsl,.nilsl,.nilsl] false 0)∧(∃i a b,i<g.infos.length∧b<a∧a<cR g i∧eqK g o (i,a) (i,b))∧aB 4 A.F= .ptr C.r4 0∧aB 5 A.F= .int .i64 13
theorem aDo{g:aR}(G:dL g){s:Nat}(hs:s<g.infos.length):cR g s≤1000:=by
 rw[oZ G hs];exact G.nxt _ (G.fst s hs).1
theorem aIk{C:XjC}{B X:St}{g:aR}{first o:List Int}(G:dL g)(hB:XjB C B g first o)(hX:Same B X){s a:Nat}(hs:s<g.infos.length)(ha:a<cR g s):∃fb fq ob oq,eU (.slice 1) C.wv s=some (.ptr fb fq)∧eH (.ptr fb fq) false 1 X.h=some (.int .i64 ((dO g s:Nat):Int))∧IntKind.i64.wrap (((dO g s:Nat):Int)+(a:Int))=((jQ g (s,a):Nat):Int)∧eU (.slice 1) C.ov (jQ g (s,a))=some (.ptr ob oq)∧eH (.ptr ob oq) false 1 X.h=some (.int .i64 (o.getD (jQ g (s,a)) 0)):=by
 have hl:=uD (g:=g) (p:=(s,a)) ⟨hs,ha⟩;have hb:=pS G (Ah g.infos.length);have hNI:=G.ni;obtain⟨f1,f2,f3,_,f5⟩:=iQ (hB.ww.same hX) (i:=s) (by unfold oM;rw[Aj,Bk];exact hs);obtain⟨o1,o2,o3,_,o5⟩:=iQ (hB.oo.same hX) (i:=jQ g (s,a)) (by rw[hB.lo];exact hl);rw[zT hs] at f5;have e:jQ g (s,a)=dO g s+a:=rfl;exact⟨f1,f2,o1,o2,f3,f5,by rw[wrap_i64 (by omega) (by omega)];omega,o3,o5⟩
def aMc(C:XjC)(X0:St)(g:aR)(o:List Int)(atv rowv:AV)(i a:Nat)(k:Nat)(A:bH)(X:St):Prop:=A.inr=false∧X.h=X0.h∧X0.nx≤X.nx∧∃b,b+k=a∧(∀b',b'<b→¬eqK g o (i,a) (i,b'))∧XjT C A.F atv rowv i∧aB 14 A.F= .int .i64 (a:Int)∧aB 15 A.F= .int .i64 (b:Int)
theorem aNd{C:XjC}{B X0:St}{g:aR}{first o:List Int}{atv rowv:AV}{i a:Nat}{F0:Fr}(G:dL g)(hB:XjB C B g first o)(hX0:Same B X0)(hi:i<g.infos.length)(ha:a<cR g i)(hT:XjT C F0 atv rowv i)(p14:aB 14 F0= .int .i64 (a:Int))(p15:aB 15 F0= .int .i64 ((0:Nat):Int)):
  iH fns qk8 ⟨F0,false⟩ X0 fun oo A' X=>(oo= .normal∧aMc C X0 g o atv rowv i a 0 A' X)∨(oo= .ret∧XjR C B g o A' X):=by
 refine aY (Q:=fun oo A' X=>(oo= .normal∧aMc C X0 g o atv rowv i a 0 A' X)∨(oo= .ret∧XjR C B g o A' X)) (aL (bL (aMc C X0 g o atv rowv i a) ?_ a _ _ ⟨rfl,rfl,Ah _,0,by omega,fun b' h=>absurd h (Bs _),hT,p14,p15⟩)) fun _ _ _ h=>h;clear hT p14 p15;rintro k ⟨F,inr⟩ X ⟨q0,hX,nX,b,hbk,hno,⟨p2,p4,p7,p9,p10,p11,p12,p13⟩,p14,p15⟩;simp only at q0 p2 p4 p7 p9 p10 p11 p12 p13 p14 p15;subst q0;have sX0:Same X0 X:=⟨nX,fun c _=>by rw[hX]⟩;have sX:=hX0.trans sX0;refine gC ?_;simp only[↓sU,sD,rE,↓reduceIte,rA,p14,p15];by_cases hlt:b<a;rotate_left
 ·refine aN (by simp only[↓sU,sD,rE,↓reduceIte,rA,Aa (show ¬ (b:Int)<(a:Int) by omega)]) (bM ?_);simp only[↓sU,sD,rE,↓reduceIte,rA];obtain rfl:k=0:=by omega
  exact .inl ⟨rfl,hX,nX,b,hbk,hno,(by refine⟨?_,?_,?_,?_,?_,?_,?_,?_⟩<;>simp only[↓sU,sD,rE,↓reduceIte,rA,p2,p4,p7,p9,p10,p11,p12,p13]),by refine⟨?_,?_⟩<;>simp only[↓sU,sD,rE,↓reduceIte,rA,p14,p15]⟩
 refine aO (by simp only[↓sU,sD,rE,↓reduceIte,rA,Ac (show(b:Int)<(a:Int) by omega)]) (aI ?_);try simp only[↓sU,sD,rE,↓reduceIte,rA]
 have hac:=aDo G hi;have w1:IntKind.i64.wrap ((b:Int)+1)=((b+1:Nat):Int):=by rw[wrap_i64 (by omega) (by omega)];omega
 obtain⟨fb,fq,ob,oq,a1,a2,a3,a4,a5⟩:=aIk G hB sX hi ha;obtain⟨fb',fq',ob',oq',c1,c2,c3,c4,c5⟩:=aIk G hB sX hi (show b<cR g i by omega);rw[a1] at c1;cases c1;refine aA (aL (aA (gP ?_)));simp only[↓sU,sD,rE,↓reduceIte,rA,p9,p10,p12,p14,p15,aG,a1,a2,a3,a4,a5,c3,c4,c5,cS];by_cases e:eqK g o (i,a) (i,b)
 ·refine aO (by simp only[↓sU,sD,rE,↓reduceIte,rA,Ac (show o.getD (jQ g (i,a)) 0=o.getD (jQ g (i,b)) 0 from e)]) ?_;refine bQ ?_;have hz:∀ (F:Fr) (h:Ev.T AB),fV (.build [.int .i64 0,.nilsl,.nilsl,.nilsl,.nilsl,.nilsl] []) F h=some aBo:=fun _ _=>rfl;have g4:=(sX.2 _ hB.l4).trans hB.g4;simp only[↓sU,sD,rE,↓reduceIte,rA,hz];refine dB (b:=C.r4) (cs':=[.int .i64 0,.nilsl,.nilsl,.nilsl,.nilsl,.nilsl]) (by simp only[↓sU,sD,rE,↓reduceIte,rA,p4]) (by simp only[↓sU,sD,rE,↓reduceIte,rA];exact bB _) g4 rfl rfl ?_;intro V v1 k1 d1;simp only[↓sU,sD,rE,↓reduceIte,rA];refine aS ?_;refine .inr ⟨rfl,⟨Ak sX.1 (Ak (Av _ _) v1.1),fun c hc hne=>(v1.2 c (Ae (Ae hc sX.1) (Av _ _)) hne).trans (sX.2 c hc)⟩,d1,⟨i,a,b,hi,hlt,ha,e⟩,by refine⟨?_,?_⟩<;>simp only[↓sU,sD,rE,↓reduceIte,rA,p4]⟩
 ·refine aN (by simp only[↓sU,sD,rE,↓reduceIte,rA,Aa (show ¬o.getD (jQ g (i,a)) 0=o.getD (jQ g (i,b)) 0 from e)]) (aI ?_);try simp only[↓sU,sD,rE,↓reduceIte,rA]
  refine aJ ?_;simp only[↓sU,sD,rE,↓reduceIte,rA,p15,w1];refine⟨k - 1,by omega,rfl,hX,Ak nX (Av _ _),b+1,by omega,fun b' h=>?_,(by refine⟨?_,?_,?_,?_,?_,?_,?_,?_⟩<;>simp only[↓sU,sD,rE,↓reduceIte,rA,p2,p4,p7,p9,p10,p11,p12,p13]),by refine⟨?_,?_⟩<;>simp only[↓sU,sD,rE,↓reduceIte,rA,p14]⟩;by_cases h':b'=b
  ·rw[h'];exact e
  ·exact hno b' (by omega)
def aNq(C:XjC)(Y0:St)(g:aR)(o:List Int)(atv:AV)(r i a:Nat)(r0:List Int)(k:Nat)(A:bH)(X:St):Prop:=A.inr=false∧Same Y0 X∧∃b rowv,b+k=cR g r∧fP 1 Y0 X rowv (r0++yE g o r i a b).length (aP (r0++yE g o r i a b))∧XjT C A.F atv rowv i∧aB 14 A.F= .int .i64 (a:Int)∧aB 16 A.F= .int .i64 (b:Int)
theorem aM0{C:XjC}{B Y0 X0:St}{g:aR}{first o r0:List Int}{atv rowv:AV}{r i a:Nat}{F0:Fr}(G:dL g)(hB:XjB C B g first o)(hBY:Same B Y0)(hX0:Same Y0 X0)(hi:i<g.infos.length)(hr:first.getD i 0=(r:Int))(hrl:r<g.infos.length)(ha:a<cR g i)(hg:fP 1 Y0 X0 rowv r0.length (aP r0))(h0:r0.length≤10000000)(hT:XjT C F0 atv rowv i)(p14:aB 14 F0= .int .i64 (a:Int))(p16:aB 16 F0= .int .i64 ((0:Nat):Int)):
  iH fns aOX ⟨F0,false⟩ X0 fun oo A' X=>oo= .normal∧aNq C Y0 g o atv r i a r0 0 A' X:=by
 refine aL (bL (aNq C Y0 g o atv r i a r0) ?_ (cR g r) _ _ ⟨rfl,hX0,0,rowv,by omega,by unfold yE;rw[Dd];exact hg,hT,p14,p16⟩);clear hT p14 p16 hg hX0;rintro k ⟨F,inr⟩ X ⟨q0,hX,b,rv,hbk,hg,⟨p2,p4,p7,p9,p10,p11,p12,p13⟩,p14,p16⟩;simp only at q0 p2 p4 p7 p9 p10 p11 p12 p13 p14 p16;subst q0;have sX:=hBY.trans hX;have gX:=(sX.2 _ hB.lg).trans hB.gg;have lgX:=Ae hB.lg sX.1;have siv:=aH.self hB.ii;obtain⟨fb,fq,f1,lfb,f3⟩:=iQ (hB.ff.same sX) (i:=i) (by rw[hB.lf];exact hi);rw[hr] at f3;obtain⟨_,ib,iq,i1,lib,_,rfl,_,i3⟩:=aH.at (aH.same (E:=cA) bO hB.ii sX) (by decide) (oJ hrl);have i4:=i3 1 _ rfl;have hacr:(infoAt g (r:Int)).actions=((cR g r:Nat):Int):=by rw[pW G hrl,oZ G hrl]
 rw[hacr] at i4;refine aA (aA (gP ?_));simp only[↓sU,sD,rE,↓reduceIte,rA,p2,p7,p12,p16,aC,aU,aD,gG gX,siv,aG,f1,f3,i1,i4,cS];by_cases hlt:b<cR g r;rotate_left
 ·refine aN (by simp only[↓sU,sD,rE,↓reduceIte,rA,Aa (show ¬ (b:Int)<((cR g r:Nat):Int) by omega)]) (bM ?_);simp only[↓sU,sD,rE,↓reduceIte,rA];obtain rfl:k=0:=by omega
  exact⟨rfl,hX.trans (Same.nx X _),b,rv,hbk,hg.step (Same.nx X _),(by refine⟨?_,?_,?_,?_,?_,?_,?_,?_⟩<;>simp only[↓sU,sD,rE,↓reduceIte,rA,p2,p4,p7,p9,p10,p11,p12,p13]),by refine⟨?_,?_⟩<;>simp only[↓sU,sD,rE,↓reduceIte,rA,p14,p16]⟩
 refine aO (by simp only[↓sU,sD,rE,↓reduceIte,rA,Ac (show(b:Int)<((cR g r:Nat):Int) by omega)]) (aI ?_);try simp only[↓sU,sD,rE,↓reduceIte,rA]
 have hac:=aDo G hrl;have w1:IntKind.i64.wrap ((b:Int)+1)=((b+1:Nat):Int):=by rw[wrap_i64 (by omega) (by omega)];omega
 obtain⟨fa,fe,oa,oe,a1,a2,a3,a4,a5⟩:=aIk G hB sX hi ha;obtain⟨fa',fe',oa',oe',c1,c2,c3,c4,c5⟩:=aIk G hB sX hrl hlt;refine aA (aL (aA (gP ?_)));simp only[↓sU,sD,rE,↓reduceIte,rA,p7,p9,p10,p12,p14,p16,aG,f1,f3,a1,a2,a3,a4,a5,c1,c2,c3,c4,c5,cS];by_cases e:eqK g o (r,b) (i,a)
 ·refine aO (by simp only[↓sU,sD,rE,↓reduceIte,rA,Ac (show o.getD (jQ g (r,b)) 0=o.getD (jQ g (i,a)) 0 from e)]) ?_;obtain⟨Xn,hXn⟩:∃Xn:St,Same X Xn∧Xn.h=X.h∧Xn=Xn:=⟨X,Same.refl X,rfl,rfl⟩;have hml:=aCp (g:=g) (o:=o) (r:=r) (i:=i) (a:=a) (n:=b);have he1:=fun(F:Fr) (id:Nat) (h:aB 115 F= .int .i64 (b:Int))=>mH (t:=3) (z:=.int .i64 0) (x:=.t 115) (F:=F) (id:=id) (k:=.i64) (n:=(b:Int)) h;refine aJ ?_;simp only[↓aF,aE,rE,↓reduceIte,rA,p13,p16];refine gM (he1 _ _ (by simp only[↓aF,aE,rE,↓reduceIte,rA])) ?_;intro U u1 u2 u3;have u0:Same X U:=(Same.nx X _).trans ((Same.nx _ _).trans u1);simp only[↓sU,sD,rE,↓reduceIte,rA];obtain⟨rv',V,eA,gA,bA,nA,kA⟩:=fP.push (bytes:=8) (S0:=⟨U.h,Y0.nx⟩) (S:=U) (w:=(b:Int)) (hg.step u0) ⟨Ak hX.1 u0.1,fun _ _=>rfl⟩ u3 (by rw[Am];unfold room;omega) (by rw[Am];unfold room;omega);refine fJ (fun call=>by simp only[↓sU,sD,rE,↓reduceIte,rA,iG];exact eA) ?_;simp only[↓sU,sD,rE,↓reduceIte,rA];refine aJ ?_;simp only[↓sU,sD,rE,↓reduceIte,rA,p16,w1];have u00:=u0.1;have hX0:=hX.1;have hYV:Same Y0 V:=⟨by omega,fun c hc=>(kA c (by omega) fun e=>by have:=(hg.blk e).1;omega).trans ((u0.2 c (by omega)).trans (hX.2 c hc))⟩;refine⟨k - 1,by omega,rfl,hYV,b+1,rv',by omega,?_,(by refine⟨?_,?_,?_,?_,?_,?_,?_,?_⟩<;>simp only[↓sU,sD,rE,↓reduceIte,rA,p2,p4,p7,p9,p10,p11,p12]),by refine⟨?_,?_⟩<;>simp only[↓sU,sD,rE,↓reduceIte,rA,p14]⟩;have hm:yE g o r i a (b+1)=yE g o r i a b++ [(b:Int)]:=by
   show(if eqK g o (r,b) (i,a) then _ else _)=_;rw[if_pos e]
  rw[hm,←Cd];exact gA
 ·refine aN (by simp only[↓sU,sD,rE,↓reduceIte,rA,Aa (show ¬o.getD (jQ g (r,b)) 0=o.getD (jQ g (i,a)) 0 from e)]) (aI ?_);try simp only[↓sU,sD,rE,↓reduceIte,rA]
  refine aJ ?_;simp only[↓sU,sD,rE,↓reduceIte,rA,p16,w1];have hm:yE g o r i a (b+1)=yE g o r i a b:=by
   show(if eqK g o (r,b) (i,a) then _ else _)=_;rw[if_neg e]
  refine⟨k - 1,by omega,rfl,hX.trans ((Same.nx X _).trans (Same.nx _ _)),b+1,rv,by omega,by rw[hm];exact hg.step ((Same.nx X _).trans (Same.nx _ _)),(by refine⟨?_,?_,?_,?_,?_,?_,?_,?_⟩<;>simp only[↓sU,sD,rE,↓reduceIte,rA,p2,p4,p7,p9,p10,p11,p12,p13]),by refine⟨?_,?_⟩<;>simp only[↓sU,sD,rE,↓reduceIte,rA,p14]⟩
def RwI(C:XjC)(Y0:St)(g:aR)(o:List Int)(atv:AV)(r i:Nat)(k:Nat)(A:bH)(X:St):Prop:=A.inr=false∧Same Y0 X∧∃a rowv,a+k=cR g i∧fP 1 Y0 X rowv (aAz g o r i a).length (aP (aAz g o r i a))∧(∀a' b',b'<a'→a'<a→¬eqK g o (i,a') (i,b'))∧XjT C A.F atv rowv i∧aB 14 A.F= .int .i64 (a:Int)
theorem aOY{C:XjC}{B Y0:St}{g:aR}{first o:List Int}{atv:AV}{r i:Nat}{F0:Fr}(G:dL g)(hB:XjB C B g first o)(hBY:Same B Y0)(hi:i<g.infos.length)(hr:first.getD i 0=(r:Int))(hrl:r<g.infos.length)(hT:XjT C F0 atv .nilsl i)(p14:aB 14 F0= .int .i64 ((0:Nat):Int)):
  iH fns aPQ ⟨F0,false⟩ Y0 fun oo A' X=>(oo= .normal∧RwI C Y0 g o atv r i 0 A' X)∨(oo= .ret∧XjR C B g o A' X):=by
 refine aY (Q:=fun oo A' X=>(oo= .normal∧RwI C Y0 g o atv r i 0 A' X)∨(oo= .ret∧XjR C B g o A' X)) (aL (bL (RwI C Y0 g o atv r i) ?_ (cR g i) _ _ ⟨rfl,Same.refl _,0,.nilsl,by omega,.inl ⟨rfl,rfl,rfl⟩,fun a' b' _ h=>absurd h (Bs _),hT,p14⟩)) fun _ _ _ h=>h;clear hT p14;rintro k ⟨F,inr⟩ X ⟨q0,hX,a,rv,hak,hg,hno,⟨p2,p4,p7,p9,p10,p11,p12,p13⟩,p14⟩;simp only at q0 p2 p4 p7 p9 p10 p11 p12 p13 p14;subst q0;have sX:=hBY.trans hX;have gX:=(sX.2 _ hB.lg).trans hB.gg;obtain⟨_,ib,iq,i1,lib,_,rfl,_,i3⟩:=aH.at (aH.same (E:=cA) bO hB.ii sX) (by decide) (oJ hi);have i4:=i3 1 _ rfl;have hacr:(infoAt g (i:Int)).actions=((cR g i:Nat):Int):=by rw[pW G hi,oZ G hi]
 rw[hacr] at i4;refine gC ?_;simp only[↓sU,sD,rE,↓reduceIte,rA,p2,p12,p14,aC,aD,gG gX,aG,i1,i4];by_cases hlt:a<cR g i;rotate_left
 ·refine aN (by simp only[↓sU,sD,rE,↓reduceIte,rA,Aa (show ¬ (a:Int)<((cR g i:Nat):Int) by omega)]) (bM ?_);simp only[↓sU,sD,rE,↓reduceIte,rA];obtain rfl:k=0:=by omega
  exact .inl ⟨rfl,hX,a,rv,hak,hg,hno,(by refine⟨?_,?_,?_,?_,?_,?_,?_,?_⟩<;>simp only[↓sU,sD,rE,↓reduceIte,rA,p2,p4,p7,p9,p10,p11,p12,p13]),by simp only[↓sU,sD,rE,↓reduceIte,rA,p14]⟩
 refine aO (by simp only[↓sU,sD,rE,↓reduceIte,rA,Ac (show(a:Int)<((cR g i:Nat):Int) by omega)]) (aI ?_);try simp only[↓sU,sD,rE,↓reduceIte,rA]
 have hac:=aDo G hi;have hacr':=aDo G hrl;have hrq:=aGU (o:=o) (i:=i) (n:=a) hacr';have w1:IntKind.i64.wrap ((a:Int)+1)=((a+1:Nat):Int):=by rw[wrap_i64 (by omega) (by omega)];omega
 refine aA (aY (Q:=fun oo A' X1=>(oo= .normal∧A'.inr=false∧aNq C Y0 g o atv r i a (aAz g o r i a) 0 A' X1∧∀b',b'<a→¬eqK g o (i,a) (i,b'))∨(oo= .ret∧XjR C B g o A' X1)) (aL (aA (aY (Q:=fun oo A' X1=>(oo= .normal∧aMc C X g o atv rv i a 0 A' X1)∨(oo= .ret∧XjR C B g o A' X1)) (aA (aJ ?_)) ?_))) ?_)
 ·simp only[↓sU,sD,rE,↓reduceIte,rA];exact aNd (C:=C) (B:=B) (X0:=X) (g:=g) (first:=first) (o:=o) (atv:=atv) (rowv:=rv) (i:=i) (a:=a) G hB sX hi hlt (by refine⟨?_,?_,?_,?_,?_,?_,?_,?_⟩<;>simp only[↓sU,sD,rE,↓reduceIte,rA,p2,p4,p7,p9,p10,p11,p12,p13]) (by simp only[↓sU,sD,rE,↓reduceIte,rA,p14]) (by simp only[↓sU,sD,rE,↓reduceIte,rA];try rfl)
 ·clear p2 p4 p7 p9 p10 p11 p12 p13 p14;rintro oo ⟨F1,inr⟩ X1 (⟨rfl,q0,hX1,nX1,b,hbk,hno1,⟨p2,p4,p7,p9,p10,p11,p12,p13⟩,p14,_⟩ | ⟨rfl,hret⟩);rotate_left
  ·exact .inr ⟨rfl,hret⟩
  simp only at q0 p2 p4 p7 p9 p10 p11 p12 p13 p14;subst q0;obtain rfl:b=a:=by omega
  have sX1:Same X X1:=⟨nX1,fun c _=>by rw[hX1]⟩;try simp only[↓sU,sD,rE,↓reduceIte,rA]
  refine bQ ?_;simp only[↓sU,sD,rE,↓reduceIte,rA];refine aY (aM0 (C:=C) (B:=B) (Y0:=Y0) (X0:=X1) (g:=g) (first:=first) (o:=o) (r0:=aAz g o r i b) (atv:=atv) (rowv:=rv) (r:=r) (i:=i) (a:=b) G hB hBY (hX.trans sX1) hi hr hrl hlt (hg.step sX1) (by omega) (by refine⟨?_,?_,?_,?_,?_,?_,?_,?_⟩<;>simp only[↓sU,sD,rE,↓reduceIte,rA,p2,p4,p7,p9,p10,p11,p12,p13]) (by simp only[↓sU,sD,rE,↓reduceIte,rA,p14]) (by simp only[↓sU,sD,rE,↓reduceIte,rA];try rfl)) ?_;rintro o2 A2 X2 ⟨rfl,hM⟩;exact .inl ⟨rfl,hM.1,hM,hno1⟩
 ·clear p2 p4 p7 p9 p10 p11 p12 p13 p14;rintro oo ⟨F1,inr⟩ X1 (⟨rfl,q0,⟨_,hX1,b,rv1,hbk,hg1,⟨p2,p4,p7,p9,p10,p11,p12,p13⟩,p14,_⟩,hno1⟩ | ⟨rfl,hret⟩);rotate_left
  ·exact .inr ⟨rfl,hret⟩
  simp only at q0 p2 p4 p7 p9 p10 p11 p12 p13 p14;subst q0;obtain rfl:b=cR g r:=by omega
  try simp only[↓sU,sD,rE,↓reduceIte,rA]
  refine aJ ?_;simp only[↓sU,sD,rE,↓reduceIte,rA,p14,w1];refine⟨k - 1,by omega,rfl,hX1,a+1,rv1,by omega,hg1,fun a' b' h1 h2=>?_,(by refine⟨?_,?_,?_,?_,?_,?_,?_,?_⟩<;>simp only[↓sU,sD,rE,↓reduceIte,rA,p2,p4,p7,p9,p10,p11,p12,p13]),by simp only[↓sU,sD,rE,↓reduceIte,rA]⟩;by_cases e:a'=a
  ·rw[e];exact hno1 b' (by omega)
  ·exact hno a' b' h1 (by omega)
def uN(g:aR)(o first:List Int):List (List Int):=(List.range g.infos.length).map fun i=>aAz g o (first.getD i 0).toNat i (cR g i)
def RsI(C:XjC)(B:St)(g:aR)(o first:List Int)(k:Nat)(A:bH)(X:St):Prop:=A.inr=false∧Same B X∧∃i atv cs,i+k=g.infos.length∧fP 1 B X atv i cs∧oL B X atv cs ((uN g o first).take i)∧(∀s a b,s<i→b<a→a<cR g s→¬eqK g o (s,a) (s,b))∧aB 2 A.F= .ptr C.gb 0∧aB 4 A.F= .ptr C.r4 0∧aB 7 A.F=C.fv∧aB 9 A.F=C.ov∧aB 10 A.F=C.wv∧aB 11 A.F=atv∧aB 12 A.F= .int .i64 (i:Int)
theorem aOD{C:XjC}{B:St}{g:aR}{first o:List Int}{F0:Fr}(G:dL g)(hB:XjB C B g first o)(p2:aB 2 F0= .ptr C.gb 0)(p4:aB 4 F0= .ptr C.r4 0)(p7:aB 7 F0=C.fv)(p9:aB 9 F0=C.ov)(p10:aB 10 F0=C.wv)(p11:aB 11 F0= .nilsl)(p12:aB 12 F0= .int .i64 ((0:Nat):Int)):
  iH fns aOB ⟨F0,false⟩ B fun oo A' X=>(oo= .normal∧RsI C B g o first 0 A' X)∨(oo= .ret∧XjR C B g o A' X):=by
 have hNI:=G.ni;refine aY (Q:=fun oo A' X=>(oo= .normal∧RsI C B g o first 0 A' X)∨(oo= .ret∧XjR C B g o A' X)) (aL (bL (RsI C B g o first) ?_ g.infos.length _ _ ⟨rfl,Same.refl _,0,.nilsl,[],by omega,.inl ⟨rfl,rfl,rfl⟩,⟨rfl,fun j hj=>absurd hj (Bs j)⟩,fun s a b h=>absurd h (Bs _),p2,p4,p7,p9,p10,p11,p12⟩)) fun _ _ _ h=>h;clear p2 p4 p7 p9 p10 p11 p12;rintro k ⟨F,inr⟩ X ⟨q0,hX,i,atv,cs,hik,hg,hR,hno,p2,p4,p7,p9,p10,p11,p12⟩;simp only at q0 p2 p4 p7 p9 p10 p11 p12;subst q0;have gX:=(hX.2 _ hB.lg).trans hB.gg;refine gC ?_;simp only[↓sU,sD,rE,↓reduceIte,rA,p2,p12,aC,aD,gG gX,hB.ii.len,Ag];by_cases hlt:i<g.infos.length;rotate_left
 ·refine aN (by simp only[↓sU,sD,rE,↓reduceIte,rA,Aa (show ¬ (i:Int)<((g.infos.length:Nat):Int) by omega)]) (bM ?_);simp only[↓sU,sD,rE,↓reduceIte,rA];obtain rfl:k=0:=by omega
  exact .inl ⟨rfl,hX,i,atv,cs,hik,hg,hR,hno,by refine⟨?_,?_,?_,?_,?_,?_,?_⟩<;>simp only[↓sU,sD,rE,↓reduceIte,rA,p2,p4,p7,p9,p10,p11,p12]⟩
 refine aO (by simp only[↓sU,sD,rE,↓reduceIte,rA,Ac (show(i:Int)<((g.infos.length:Nat):Int) by omega)]) (aI ?_);try simp only[↓sU,sD,rE,↓reduceIte,rA]
 have w1:IntKind.i64.wrap ((i:Int)+1)=((i+1:Nat):Int):=by rw[wrap_i64 (by omega) (by omega)];omega
 obtain⟨r,hr,hrl⟩:=hB.fr i hlt;refine aA (aY (Q:=fun oo A' X1=>(oo= .normal∧A'.inr=false∧Same B X1∧(∃atv1 cs1,fP 1 B X1 atv1 (i+1) cs1∧oL B X1 atv1 cs1 ((uN g o first).take (i+1))∧aB 11 A'.F=atv1)∧(∀a b,b<a→a<cR g i→¬eqK g o (i,a) (i,b))∧aB 2 A'.F= .ptr C.gb 0∧aB 4 A'.F= .ptr C.r4 0∧aB 7 A'.F=C.fv∧aB 9 A'.F=C.ov∧aB 10 A'.F=C.wv∧aB 12 A'.F= .int .i64 (i:Int))∨(oo= .ret∧XjR C B g o A' X1)) (aL (aA (aJ ?_))) ?_)
 ·simp only[↓sU,sD,rE,↓reduceIte,rA];refine aA (aY (Q:=fun oo A' X1=>(oo= .normal∧RwI C X g o atv r i 0 A' X1)∨(oo= .ret∧XjR C B g o A' X1)) (aA (aJ ?_)) ?_)
  ·simp only[↓sU,sD,rE,↓reduceIte,rA];exact aOY (C:=C) (B:=B) (Y0:=X) (g:=g) (first:=first) (o:=o) (atv:=atv) (r:=r) (i:=i) G hB hX hlt hr hrl (by refine⟨?_,?_,?_,?_,?_,?_,?_,?_⟩<;>simp only[↓sU,sD,rE,↓reduceIte,rA,p2,p4,p7,p9,p10,p11,p12]) (by simp only[↓sU,sD,rE,↓reduceIte,rA];try rfl)
  clear p2 p4 p7 p9 p10 p11 p12;rintro oo ⟨F1,inr⟩ X1 (⟨rfl,q0,hX1,a,rv,hak,hg1,hno1,⟨p2,p4,p7,p9,p10,p11,p12,p13⟩,_⟩ | ⟨rfl,hret⟩);rotate_left
  ·exact .inr ⟨rfl,hret⟩
  simp only at q0 p2 p4 p7 p9 p10 p11 p12 p13;subst q0;obtain rfl:a=cR g i:=by omega
  have crv:=hg1.cells;have he1:=fun(F:Fr) (id:Nat) (h:aB 119 F=rv)=>aBX (t:=22) (z:=.nilsl) (x:=.t 119) (F:=F) (id:=id) hg1.is h;try simp only[↓sU,sD,rE,↓reduceIte,rA]
  refine aJ ?_;simp only[↓aF,aE,rE,↓reduceIte,rA,p11,p13];refine gM (he1 _ _ (by simp only[↓aF,aE,rE,↓reduceIte,rA])) ?_;intro U u1 u2 u3;try simp only[↓sU,sD,rE,↓reduceIte,rA]
  have hBX1:=hX.trans hX1;have hgU:fP 1 ⟨U.h,B.nx⟩ U atv i cs:=hg.move (Ak hX1.1 u1.1) fun c hc=>(u1.2 c (Ae (hg.blk hc).2.1 hX1.1)).trans (hX1.2 c (hg.blk hc).2.1);obtain⟨atv',V,eA,gA,bA,nA,kA⟩:=fP.push1 (bytes:=24) (x:=rv) hgU ⟨Ak hBX1.1 u1.1,fun _ _=>rfl⟩ u3 (by unfold room;omega) (by unfold room;omega);refine fJ (fun call=>by simp only[↓sU,sD,rE,↓reduceIte,rA,iG];exact eA) ?_;simp only[↓sU,sD,rE,↓reduceIte,rA];have l1:=hX1.1;have l2:=u1.1;have l3:=hX.1;have hkV:∀c,c<X.nx→bD atv≠some c→V.h.get c=X.h.get c:=fun c hc hn=>(kA c (by omega) hn).trans ((u1.2 c (by omega)).trans (hX1.2 c hc));have rlow:∀ {c},bD rv=some c→X.nx≤c∧c<X1.nx:=fun hc=>⟨(hg1.blk hc).1,(hg1.blk hc).2.1⟩;have hrV:bK .i64 V rv (aAz g o r i (cR g i)):=eO (hg1.is.same u1) (by omega) fun c hc=>kA c (by have:=(rlow hc).2;omega) fun e=>by have:=(hg.blk e).2.1;have:=(rlow hc).1;omega
  have hbA:∀ {c},bD atv'=some c→c=U.nx:=fun hc=>by rw[bA] at hc;exact(Bn hc).symm
  have hRV:=hR.push (Z:=V) (pv':=atv') (l:=aAz g o r i (cR g i)) l3 (by omega) (fun c h1 _ h3=>hkV c h1 h3) hrV (fun c hc=>⟨(rlow hc).1,fun e=>by have:=hbA e;have:=(rlow hc).2;omega⟩) (fun c hc=>by have:=hbA hc;omega);have htk:(uN g o first).take (i+1)=(uN g o first).take i++ [aAz g o r i (cR g i)]:=by
   rw[Bp];unfold uN;rw[Aq,Bl hlt,Dl,hr];rfl
  rw[←htk] at hRV;exact .inl ⟨⟨by omega,fun c hc=>(hkV c (by omega) fun e=>by have:=(hg.blk e).1;omega).trans (hX.2 c hc)⟩,⟨atv',_,gA,hRV,rfl⟩,fun a b h1 h2=>hno1 a b h1 h2,p2,p4,p7,p9,p10,p12⟩
 ·clear p2 p4 p7 p9 p10 p11 p12;rintro oo ⟨F1,inr⟩ X1 (⟨rfl,q0,hX1,⟨atv1,cs1,hg1,hR1,p11⟩,hno1,p2,p4,p7,p9,p10,p12⟩ | ⟨rfl,hret⟩);rotate_left
  ·exact .inr ⟨rfl,hret⟩
  simp only at q0 p2 p4 p7 p9 p10 p11 p12;subst q0;try simp only[↓sU,sD,rE,↓reduceIte,rA]
  refine aJ ?_;simp only[↓sU,sD,rE,↓reduceIte,rA,p12,w1];refine⟨k - 1,by omega,rfl,hX1,i+1,atv1,cs1,by omega,hg1,hR1,fun s a b h1 h2 h3=>?_,by refine⟨?_,?_,?_,?_,?_,?_,?_⟩<;>simp only[↓sU,sD,rE,↓reduceIte,rA,p2,p4,p7,p9,p10,p11]⟩;by_cases e:s=i
  ·subst e;exact hno1 a b h2 h3
  ·exact hno s a b (by omega) h2 h3
section
variable {g:aR}{L:List (List Int)}{first o:List Int}
theorem aO2(G:dL g)(hL:∀m∈L,fH g m)(hO:kT g.infos.length (gJ g.infos.length (L.map (imgI g))) first)(ho:kT (dO g g.infos.length) (gJ (dO g g.infos.length) (L.map (pmL g))) o){i a b:Nat}(hi:i<g.infos.length)(hb:b<a)(ha:a<cR g i)(e:eqK g o (i,a) (i,b)):Dup g L first:=
 aHO G hL hO hi hb ha (.symm ((sN G hL ho ⟨hi,ha⟩ ⟨hi,show b<cR g i by omega⟩).1 e))
theorem aMd(G:dL g)(hL:∀m∈L,fH g m)(ho:kT (dO g g.infos.length) (gJ (dO g g.infos.length) (L.map (pmL g))) o)(hno:∀s a b,s<g.infos.length→b<a→a<cR g s→¬eqK g o (s,a) (s,b)):¬Dup g L first:=fun⟨s,a,b,h1,_,h3,h4,h5⟩=>
 hno s b a h1 h3 h4 ((sN G hL ho ⟨h1,h4⟩ ⟨h1,show a<cR g s by omega⟩).2 (.symm h5))
theorem aFv{r i a c:Nat}(h:∀b,b<cR g r→(eqK g o (r,b) (i,a)↔b=c)):∀ {n:Nat},n≤cR g r→yE g o r i a n=if c<n then [(c:Int)] else []
 | 0,_=>rfl
 | n+1,hn=>by
  unfold yE;rw[aFv h (by omega)];have:=h n (by omega);by_cases e:n=c
  ·rw[if_pos (this.2 e),if_neg (by omega),if_pos (by omega),e];rfl
  ·rw[if_neg (fun h=>e (this.1 h))];by_cases h2:c<n
   ·rw[if_pos h2,if_pos (by omega)]
   ·rw[if_neg h2,if_neg (by omega)]
theorem aFP{r i:Nat}{σ:Nat→Nat}(h:∀a,a<cR g i→yE g o r i a (cR g r)= [((σ a:Nat):Int)]):∀ {n:Nat},n≤cR g i→aAz g o r i n=(List.range n).map fun a=>((σ a:Nat):Int)
 | 0,_=>rfl
 | n+1,hn=>by
  unfold aAz;rw[aFP h (by omega),h n (by omega),List.range_succ,Dx];rfl
theorem aNr(G:dL g)(hL:∀m∈L,fH g m)(hO:kT g.infos.length (gJ g.infos.length (L.map (imgI g))) first)(ho:kT (dO g g.infos.length) (gJ (dO g g.infos.length) (L.map (pmL g))) o)(hno:∀s a b,s<g.infos.length→b<a→a<cR g s→¬eqK g o (s,a) (s,b)):aBC g L first (uN g o first):=by
 have key:∀s,s<g.infos.length→∃σ:Nat→Nat,(∀a,a<cR g s→σ a<cR g (first.getD s 0).toNat∧iB (ChE g L) (s,a) ((first.getD s 0).toNat,σ a))∧(uN g o first).getD s []=(List.range (cR g s)).map fun a=>((σ a:Nat):Int):=fun s hs=>by
  obtain⟨h1,σ,h2,h3⟩:=zN G hL (hO.con s hs);obtain⟨r,hr,hrl⟩:=aDv hO s hs;have hrt:(first.getD s 0).toNat=r:=by omega
  rw[hrt] at h1 h2;refine⟨σ,by rw[hrt];exact h2,?_⟩;unfold uN;rw[Ad,Aq,Bl hs,Dl,Cy,hrt];refine aFP (fun a ha=>?_) (Ah _);obtain⟨s1,s2⟩:=h2 a ha;rw[aFv (c:=σ a) (fun b hb=>?_) (Ah _),if_pos s1];rw[show eqK g o (r,b) (s,a)↔iB (ChE g L) (r,b) (s,a) from sN G hL ho ⟨hrl,hb⟩ ⟨hs,ha⟩];constructor
  ·intro h;have hc:iB (ChE g L) (r,b) (r,σ a):=.trans h s2;rcases Dg b (σ a) with hlt | e | hlt
   ·exact absurd ((sN G hL ho ⟨hrl,s1⟩ ⟨hrl,hb⟩).2 (.symm hc)) (hno r _ _ hrl hlt s1)
   ·exact e
   ·exact absurd ((sN G hL ho ⟨hrl,hb⟩ ⟨hrl,s1⟩).2 hc) (hno r _ _ hrl hlt hb)
  ·intro e;rw[e];exact .symm s2
 refine⟨by unfold uN;rw[Aj,Bk],fun s hs=>?_,fun s a hs ha=>?_⟩
 ·obtain⟨σ,_,h2⟩:=key s hs;rw[h2,Aj,Bk]
 ·obtain⟨σ,h1,h2⟩:=key s hs;refine⟨σ a,?_,(h1 a ha).1,(h1 a ha).2⟩;rw[h2,Ad,Aq,Bl ha];rfl
end
theorem aM9{ops:List AO}{X:St}{F:Fr}{inr:Bool}{g:aR}{gb:Nat}{nv iv atv:AV}{Q:Out→bH→St→Prop}(he:ops=jdP++jdX)(p2:aB 2 F= .ptr gb 0)(p11:aB 11 F=atv)(gg:X.h.get gb=some (.cells [.int .i64 g.players,nv,iv] false 0))(lg:gb<X.nx)(hn:aH 6 bP X nv g.nodes)(hi:aH 2 cA X iv g.infos)(hN:g.nodes.length≤100000)(hNI:g.infos.length≤100000)(ca:atv.cells=some [atv])
  (hQ:∀F' Z,(∀j,j<122→j≠17→aB j F'=aB j F)→aB 17 F'= .ptr (X.nx+13) 0→Same X Z→X.nx+15≤Z.nx→Z.h.get (X.nx+13)=some (.cells [.int .i64 g.players,.nilsl,.nilsl,.sl (X.nx+6) 0 g.infos.length g.infos.length false,atv,.sl (X.nx+11) 0 g.nodes.length g.nodes.length false] false 0)→Z.h.get (X.nx+6)=some (.cells (aP (List.replicate g.infos.length 0)) false 0)→Z.h.get (X.nx+11)=some (.cells (aP (List.replicate g.nodes.length 0)) false 0)→Q .normal ⟨F',inr⟩ Z):iH fns (.drw ops) ⟨F,inr⟩ X Q:=by
 have hlen:ops.length=15:=by rw[he];rfl
 have snv:=aH.self hn;have siv:=aH.self hi;have hnl:=hn.len;have hil:=hi.len;refine nQ (W:=fun _=>False) (K:=14) (R:=fun F' Z ps=>ps= [⟨13,X.nx+13,.cells [.int .i64 0,.nilsl,.nilsl,.nilsl,.nilsl,.nilsl] false 0⟩,⟨11,X.nx+11,.cells (aP (List.replicate g.nodes.length 0)) false 0⟩,⟨6,X.nx+6,.cells (aP (List.replicate g.infos.length 0)) false 0⟩]∧Z.h=X.h∧Z.nx=X.nx+15∧(∀j,j<122→j≠17→aB j F'=aB j F)∧aB 17 F'= .ptr (X.nx+13) 0∧aB 134 F'= .agg [.int .i64 g.players,.nilsl,.nilsl,.sl (X.nx+6) 0 g.infos.length g.infos.length false,atv,.sl (X.nx+11) 0 g.nodes.length g.nodes.length false]) he rfl rfl (fun X1 x1 hh1 nn1=>?_) ?_
 ·have hB1:∀ (F:Fr) (h:Ev.T AB),aB 123 F= .int .i64 g.players→fV (.build [.int .i64 0,.nilsl,.nilsl] [(0,1,.t 123)]) F h=some (.agg [.int .i64 g.players,.nilsl,.nilsl]):=fun F h h1=>by
   show(aZ (eS _ (eB F [(0,1,.t 123)])) fun cs=>some (AV.agg cs))=_;simp only[eB,show(cL.t 123).val F= .int .i64 g.players from h1,eS,cO,aK];rfl
  have hB2:∀ (F:Fr) (h:Ev.T AB) (a b:Nat),aB 124 F= .agg [.int .i64 g.players,.nilsl,.nilsl]→aB 128 F= .sl a 0 g.infos.length g.infos.length false→aB 129 F=atv→aB 133 F= .sl b 0 g.nodes.length g.nodes.length false→fV (.build [.int .i64 0,.nilsl,.nilsl,.nilsl,.nilsl,.nilsl] [(0,3,.t 124),(3,1,.t 128),(4,1,.t 129),(5,1,.t 133)]) F h=some (.agg [.int .i64 g.players,.nilsl,.nilsl,.sl a 0 g.infos.length g.infos.length false,atv,.sl b 0 g.nodes.length g.nodes.length false]):=fun F h a b h1 h2 h3 h4=>by
   show(aZ (eS _ (eB F [(0,3,.t 124),(3,1,.t 128),(4,1,.t 129),(5,1,.t 133)])) fun cs=>some (AV.agg cs))=_;simp only[eB,show(cL.t 124).val F= .agg [.int .i64 g.players,.nilsl,.nilsl] from h1,show(cL.t 128).val F= .sl a 0 g.infos.length g.infos.length false from h2,show(cL.t 129).val F=atv from h3,show(cL.t 133).val F= .sl b 0 g.nodes.length g.nodes.length false from h4,eS,bB,ca,aK];rfl
  have hm1:=fun F id (h:aB 127 F= .int .i64 ((g.infos.length:Nat):Int))=>nK (t:=3) (s:=1) (bytes:=8) (z:=[AV.int .i64 0]) (l:=.t 127) (c:=.t 127) (F:=F) (id:=id) (n:=g.infos.length) (by show fI (aB 127 F)=_;rw[h];exact aG _ _) (by show fI (aB 127 F)=_;rw[h];exact aG _ _) (by unfold room;omega) (by unfold room;omega);have hm2:=fun F id (h:aB 132 F= .int .i64 ((g.nodes.length:Nat):Int))=>nK (t:=3) (s:=1) (bytes:=8) (z:=[AV.int .i64 0]) (l:=.t 132) (c:=.t 132) (F:=F) (id:=id) (n:=g.nodes.length) (by show fI (aB 132 F)=_;rw[h];exact aG _ _) (by show fI (aB 132 F)=_;rw[h];exact aG _ _) (by unfold room;omega) (by unfold room;omega);simp only[pG] at hm1 hm2;unfold jdP;simp only[↓sU,sD,rE,↓reduceIte,rA,p2,p11,aC,aU,aD,oY gg,eY gg,gG gg,snv,siv,lg,Al,hnl,hil,kK,hB1,hm1,hm2,fun F h=>hB2 F h (X.nx+6) (X.nx+11),nP];refine⟨hh1,by rw[nn1,hlen],fun j hj hj2=>?_⟩
  repeat rw[if_neg (by omega)]
 rintro F' S' ps hs' ls ⟨rfl,hZ,nZ,hk,p17,p134⟩ hlast hld;have m1:∀i,i<14→Nat.testBit 16383 i=true:=by decide
 unfold jdX;have hf:cF 16383 [⟨13,X.nx+13,.cells [.int .i64 0,.nilsl,.nilsl,.nilsl,.nilsl,.nilsl] false 0⟩,⟨11,X.nx+11,.cells (aP (List.replicate g.nodes.length 0)) false 0⟩,⟨6,X.nx+6,.cells (aP (List.replicate g.infos.length 0)) false 0⟩] S'.h=([],((S'.h.set (X.nx+13) (some (.cells [.int .i64 0,.nilsl,.nilsl,.nilsl,.nilsl,.nilsl] false 0))).set (X.nx+11) (some (.cells (aP (List.replicate g.nodes.length 0)) false 0))).set (X.nx+6) (some (.cells (aP (List.replicate g.infos.length 0)) false 0))):=by rw[eT (by decide),eT (by decide),eT (by decide),bE]
 obtain⟨U,hU⟩:∃U:St,U=⟨((S'.h.set (X.nx+13) (some (.cells [.int .i64 0,.nilsl,.nilsl,.nilsl,.nilsl,.nilsl] false 0))).set (X.nx+11) (some (.cells (aP (List.replicate g.nodes.length 0)) false 0))).set (X.nx+6) (some (.cells (aP (List.replicate g.infos.length 0)) false 0)),S'.nx⟩:=⟨_,rfl⟩;have u13:U.h.get (X.nx+13)=some (.cells [.int .i64 0,.nilsl,.nilsl,.nilsl,.nilsl,.nilsl] false 0):=by rw[hU];simp only;rw[T.get_set,if_neg (by omega),T.get_set,if_neg (by omega),T.get_set,if_pos rfl]
 have u11:U.h.get (X.nx+11)=some (.cells (aP (List.replicate g.nodes.length 0)) false 0):=by rw[hU];simp only;rw[T.get_set,if_neg (by omega),T.get_set,if_pos rfl]
 have u6:U.h.get (X.nx+6)=some (.cells (aP (List.replicate g.infos.length 0)) false 0):=by rw[hU];simp only;rw[T.get_set,if_pos rfl]
 have uo:∀c,c<X.nx→U.h.get c=X.h.get c:=fun c hc=>by rw[hU];simp only;rw[T.get_set,if_neg (by omega),T.get_set,if_neg (by omega),T.get_set,if_neg (by omega),hZ]
 have nU:U.nx=X.nx+15:=by rw[hU];exact nZ
 refine jP (v:=.undef) (S1:=⟨U.h.set (X.nx+13) (some (.cells [.int .i64 g.players,.nilsl,.nilsl,.sl (X.nx+6) 0 g.infos.length g.infos.length false,atv,.sl (X.nx+11) 0 g.nodes.length g.nodes.length false] false 0)),U.nx⟩) (hlast _ m1) (fun call=>?_) ?_
 ·rw[hf,dN];simp only[fD,p17,p134,bB,aK];rw[←hU];exact kD (S:=U) (n:=6) u13 rfl rfl
 rw[hf];rw[fZ];refine⟨?_,?_⟩
 ·simp only[Bz];exact hld _ _ _ m1
 ·simp only[bE,eF];have kS:∀c,c≠X.nx+13→(U.h.set (X.nx+13) (some (.cells [.int .i64 g.players,.nilsl,.nilsl,.sl (X.nx+6) 0 g.infos.length g.infos.length false,atv,.sl (X.nx+11) 0 g.nodes.length g.nodes.length false] false 0))).get c=U.h.get c:=fun c hc=>by rw[T.get_set,if_neg hc]
  exact hQ _ _ hk p17 ⟨by show X.nx≤U.nx;omega,fun c hc=>(kS c (by omega)).trans (uo c hc)⟩ (by show X.nx+15≤U.nx;omega) (by simp only;rw[T.get_set,if_pos rfl]) ((kS _ (by omega)).trans u6) ((kS _ (by omega)).trans u11)
def aKf(X1:St)(g:aR)(first:List Int)(reps:List Nat)(gb r4 ib jb ob:Nat)(fv:AV)(k:Nat)(A:bH)(Y:St):Prop:=A.inr=false∧bS ib X1 Y∧∃i l,i+k=g.infos.length∧l.length=g.infos.length∧(∀j,j<i→l.getD j 0=(rO first reps).getD j 0)∧Y.h.get ib=some (.cells (aP l) false 0)∧aB 2 A.F= .ptr gb 0∧aB 4 A.F= .ptr r4 0∧aB 7 A.F=fv∧aB 17 A.F= .ptr jb 0∧aB 18 A.F= .sl ob 0 g.infos.length g.infos.length false∧aB 19 A.F= .int .i64 (i:Int)
theorem aLl{X1:St}{g:aR}{first l0:List Int}{reps:List Nat}{gb r4 ib jb ob:Nat}{fv pv nv iv j0 j1 j2 j4 j5:AV}{F0:Fr}(hNI:g.infos.length≤100000)(hi:aH 2 cA X1 iv g.infos)(hsiv:True)(gg:X1.h.get gb=some (.cells [pv,nv,iv] false 0))(gj:X1.h.get jb=some (.cells [j0,j1,j2,.sl ib 0 g.infos.length g.infos.length false,j4,j5] false 0))(go:X1.h.get ob=some (.cells (aP (ofL g.infos.length reps)) false 0))(gi:X1.h.get ib=some (.cells (aP l0) false 0))(hl0:l0.length=g.infos.length)(hf:∀i,i<g.infos.length→∃fb fq,eU (.slice 1) fv i=some (.ptr fb fq)∧fb<X1.nx∧fb≠ib∧eH (.ptr fb fq) false 1 X1.h=some (.int .i64 (first.getD i 0)))(hfl:first.length=g.infos.length)(hfr:∀s,s<g.infos.length→∃r:Nat,first.getD s 0=(r:Int)∧r<g.infos.length∧r∈reps)(hrp:reps.length≤100000)(lg:gb<X1.nx)(lj:jb<X1.nx)(lo:ob<X1.nx)(li:ib<X1.nx)(ngi:gb≠ib)(nji:jb≠ib)(noi:ob≠ib)
  (p2:aB 2 F0= .ptr gb 0) (p4:aB 4 F0= .ptr r4 0) (p7:aB 7 F0=fv) (p17:aB 17 F0= .ptr jb 0) (p18:aB 18 F0= .sl ob 0 g.infos.length g.infos.length false) (p19:aB 19 F0= .int .i64 ((0:Nat):Int)) (sfv:cC fv fv=true):
  iH fns qk5 ⟨F0,false⟩ X1 fun oo A' Y=>oo= .normal∧aKf X1 g first reps gb r4 ib jb ob fv 0 A' Y:=by
 refine aL (bL (aKf X1 g first reps gb r4 ib jb ob fv) ?_ g.infos.length _ _ ⟨rfl,bS.refl _ _,0,l0,by omega,hl0,fun j hj=>absurd hj (Bs _),gi,p2,p4,p7,p17,p18,p19⟩);clear p2 p4 p7 p17 p18 p19;rintro k ⟨F,inr⟩ Y ⟨q0,sY,i,l,hik,hll,hlj,gY,p2,p4,p7,p17,p18,p19⟩;simp only at q0 p2 p4 p7 p17 p18 p19;subst q0;have ggY:=(sY.2 _ lg ngi).trans gg;have gjY:=(sY.2 _ lj nji).trans gj;have goY:=(sY.2 _ lo noi).trans go;refine gC ?_;simp only[↓sU,sD,rE,↓reduceIte,rA,p2,p19,aC,aD,gG ggY,hi.len,Ag];by_cases hlt:i<g.infos.length;rotate_left
 ·refine aN (by simp only[↓sU,sD,rE,↓reduceIte,rA,Aa (show ¬ (i:Int)<((g.infos.length:Nat):Int) by omega)]) (bM ?_);simp only[↓sU,sD,rE,↓reduceIte,rA];obtain rfl:k=0:=by omega
  exact⟨rfl,sY,i,l,hik,hll,hlj,gY,by refine⟨?_,?_,?_,?_,?_,?_⟩<;>simp only[↓sU,sD,rE,↓reduceIte,rA,p2,p4,p7,p17,p18,p19]⟩
 refine aO (by simp only[↓sU,sD,rE,↓reduceIte,rA,Ac (show(i:Int)<((g.infos.length:Nat):Int) by omega)]) (aI ?_);try simp only[↓sU,sD,rE,↓reduceIte,rA]
 have w1:IntKind.i64.wrap ((i:Int)+1)=((i+1:Nat):Int):=by rw[wrap_i64 (by omega) (by omega)];omega
 obtain⟨r,hr,hrl,hrm⟩:=hfr i hlt;obtain⟨fb,fq,f1,lf,nf,f3⟩:=hf i hlt;rw[hr] at f3;have f3Y:eH (.ptr fb fq) false 1 Y.h=some (.int .i64 (r:Int)):=by
  rw[←f3];have e:cN Y.h fb=cN X1.h fb:=by unfold cN;rw[sY.2 _ lf nf]
  simp only[eH,mW,aW,kL,e]
 have hidx:=List.idxOf_lt_length_iff.2 hrm;have hio:=dT (b:=ob) (o:=false) hrl;have hii:=dT (b:=ib) (o:=false) hlt;have ldo:=sR goY (show r<(ofL g.infos.length reps).length by rw[oB];exact hrl);rw[aAB hrl,if_pos hrm] at ldo;have w0:IntKind.i64.wrap (((reps.idxOf r+1:Nat):Int) - 1)=((reps.idxOf r:Nat):Int):=by rw[wrap_i64 (by omega) (by omega)];omega
 have lY:=sY.1;have lj':=Ae lj lY;have lo':=Ae lo lY;have lf':=Ae lf lY;refine aA (aL (iE (fun c=>c=ib) ?_));intro S1 s1;simp only[↓sU,sD,rE,↓reduceIte,rA,p7,p17,p18,p19,aC,aU,aD,cT gjY,aG,f1,f3Y,hio,hii,ldo,w0,lj',lo',lf',nji,noi,nf,Al,sfv,cS];refine tG (p:=i) (w:=((reps.idxOf r:Nat):Int)) (P:=l) rfl (by simp only[↓sU,sD,rE,↓reduceIte,rA]) (by simp only[↓sU,sD,rE,↓reduceIte,rA]) (by rw[s1.2 _ (Ae li lY)];exact gY) (by omega) rfl ?_;intro S2 s2 n2 c2;simp only[↓sU,sD,rE,↓reduceIte,rA,bE];refine aJ ?_;simp only[↓sU,sD,rE,↓reduceIte,rA,p19,w1];refine⟨k - 1,by omega,rfl,⟨by show X1.nx≤S2.nx;have:=s1.1;have:=s2.1;omega,fun c hc hne=>(s2.2 c (by have:=s1.1;omega) hne).trans ((s1.2 c (by omega)).trans (sY.2 c hc hne))⟩,i+1,l.set i ((reps.idxOf r:Nat):Int),by omega,by rw[Ap];exact hll,fun j hj=>?_,c2,by refine⟨?_,?_,?_,?_,?_,?_⟩<;>simp only[↓sU,sD,rE,↓reduceIte,rA,p2,p4,p7,p17,p18]⟩;rw[fX (by omega)];by_cases e:j=i
 ·rw[if_pos e,e];unfold rO;rw[Ad,Aq,Ab (show i<first.length by omega)];have:first[i]'(by omega)=(r:Int):=by rw[←hr,Ad,Ab (show i<first.length by omega)];rfl
  rw[this];rfl
 ·rw[if_neg e];exact hlj j (by omega)
theorem aOU{g:aR}(h:cP g=0):∀i,i<g.nodes.length→(nodeAt g i).kind≠2→(nodeAt g i).info=0:=fun i hi hk2=>by
 have G:=vS h;rcases G.knd i hi with hk | hk | hk
 ·unfold cP at h;split at h
  ·cases h
  rename_i hb;split at h
  ·rename_i h1;exact absurd h h1
  rename_i hN;have hN:=Cu.1 hN;have:=gN hN _ (Bc (eR hi));unfold gK at this;rw[if_pos hk] at this;split at this
  ·cases this
  ·rename_i hc;unfold mK at hc;omega
 ·exact absurd hk hk2
 ·unfold cP at h;split at h
  ·cases h
  rename_i hb;split at h
  ·rename_i h1;exact absurd h h1
  rename_i hN;have hN:=Cu.1 hN;have:=gN hN _ (Bc (eR hi));unfold gK at this;rw[if_neg (by omega),if_neg (by omega),if_pos hk] at this;split at this
  ·cases this
  ·rename_i hc;unfold mT at hc;omega
def aG9(g:aR)(L:List (List Int))(S Z:St)(r:AV):Prop:=(jI g L≠0∧r= .tup [aBo,.int .i64 (jI g L)])∨(jI g L=0∧∃first,kT g.infos.length (gJ g.infos.length (L.map (imgI g))) first∧((Dup g L first∧r= .tup [aBo,.int .i64 13])∨(¬Dup g L first∧∃act,aBC g L first act∧∃v,r= .tup [v,.int .i64 0]∧aMO g first act S Z v)))
theorem aG9.move{g:aR}{L:List (List Int)}{S Z Z':St}{r:AV}(h:aG9 g L S Z r)(hn:Z.nx≤Z'.nx)(hk:∀c,S.nx≤c→c<Z.nx→Z'.h.get c=Z.h.get c):aEj g L Z' r:=by
 rcases h with h | ⟨h0,first,hO,h | ⟨hD,act,hA,v,e,hJ⟩⟩
 ·exact .inl h
 ·exact .inr ⟨h0,first,hO,.inl h⟩
 ·exact .inr ⟨h0,first,hO,.inr ⟨hD,act,hA,v,e,hJ Z' hn hk⟩⟩
theorem aEM{S:St}{nv iv mv:AV}{g:aR}{L:List (List Int)}(H:Has fns)(hn:aH 6 bP S nv g.nodes)(hi:aH 2 cA S iv g.infos)(hln:g.nodes.length≤100000)(hm:aH 1 iX S mv L):
  gH fns (.fn 98 [] []) [.agg [.int .i64 g.players,nv,iv],mv] S fun r S'=>Same S S'∧aG9 g L S S' r:=by
 have hz:∀ (F:Fr) (h:Ev.T AB),fV (.build [.int .i64 0,.nilsl,.nilsl,.nilsl,.nilsl,.nilsl] []) F h=some aBo:=fun _ _=>rfl;refine cI H.f98 (by simp) ?_;simp only[↓aF,aE,rE,↓reduceIte,rA];refine bQ ?_;refine cM (by simp only[↓aF,aE,rE,↓reduceIte,rA];exact bB _) ?_;intro S1 s1 n1 g1;simp only[↓aF,aE,rE,↓reduceIte,rA];refine cH ?_;intro S2 s2 n2 g2;try simp only[↓aF,aE,rE,↓reduceIte,rA]
 have s02:=s1.trans s2;have c2:S2.h.get S.nx=_:=(s2.2 _ (by omega)).trans g1;refine bQ ?_;simp only[↓sU,sD,rE,↓reduceIte,rA,fR c2];refine bG ?_;simp only[↓sU,sD,rE,↓reduceIte,rA];refine aX (aFo H (aH.same (E:=bP) bF hn s02) (aH.same (E:=cA) bO hi s02) hln (aH.same (E:=iX) firm_sl hm s02)) ?_;rintro _ S3 ⟨s3,xv,fv,rfl,hbad,hgood⟩;simp only[↓sU,sD,rE,↓reduceIte,rA,uW,vE,ex2];have s03:=s02.trans s3;have c3:S3.h.get S.nx=_:=(s3.2 _ (by omega)).trans c2;have r3:S3.h.get S1.nx=_:=(s3.2 _ (by omega)).trans g2;have l3:=s3.1;have fin:∀ (X V:St),Same S3 X→bS S1.nx X V→Same S V:=fun X V hX hv=>⟨by have:=s03.1;have:=hX.1;have:=hv.1;omega,fun c hc=>(hv.2 c (by have:=s03.1;have:=hX.1;omega) (by omega)).trans ((hX.2 c (by have:=s03.1;omega)).trans (s03.2 c hc))⟩;refine gC ?_;simp only[↓sU,sD,rE,↓reduceIte,rA];by_cases h0:jI g L=0;rotate_left
 ·refine aO (by simp only[↓sU,sD,rE,↓reduceIte,rA,Ac (show jI g L≠0 from h0)]) ?_;refine bQ ?_;simp only[↓aF,aE,rE,↓reduceIte,rA,hz];refine dB (b:=S1.nx) (cs':=[.int .i64 0,.nilsl,.nilsl,.nilsl,.nilsl,.nilsl]) (by simp only[↓aF,aE,rE,↓reduceIte,rA]) (by simp only[↓aF,aE,rE,↓reduceIte,rA];exact bB _) r3 rfl rfl ?_;intro V v1 k1 d1;try simp only[↓aF,aE,rE,↓reduceIte,rA]
  have ld:=iA (n:=6) d1 rfl;refine aS ?_;simp only[↓aF,aE,rE,↓reduceIte,rA,dK,ld];exact⟨fin S3 V (Same.refl _) v1,.inl ⟨h0,rfl⟩⟩
 obtain⟨_,first,_,hOw,_,hO⟩:=hgood h0;rw[h0];refine aN (by simp only[↓sU,sD,rE,↓reduceIte,rA];try first | rfl | trivial) (aI ?_);try simp only[↓sU,sD,rE,↓reduceIte,rA]
 obtain⟨hf0,hL16,hims⟩:=sE h0;have hAll:∀m∈L,fH g m:=fun m hm=>nI (nG hims m hm);have GK:=vS hf0;have G:=GK.good;obtain⟨Tr,hT,hTl,_⟩:=G.walk;have hN:=G.n2;have hNI:=G.ni;refine bQ ?_;simp only[↓sU,sD,rE,↓reduceIte,rA,fR c3];refine bG ?_;simp only[↓sU,sD,rE,↓reduceIte,rA];refine aX (aFG H hf0 hAll hL16 (aH.same (E:=bP) bF hn s03) (aH.same (E:=cA) bO hi s03) (aH.same (E:=iX) firm_sl hm s03)) ?_;rintro _ B ⟨s4,ov,wv,o,rfl,hov,hwv,hOo⟩;simp only[↓sU,sD,rE,↓reduceIte,rA,uW,vE];have s0B:=s03.trans s4;have cB:B.h.get S.nx=_:=(s4.2 _ (by omega)).trans c3;have rB:B.h.get S1.nx=_:=(s4.2 _ (by omega)).trans r3;have lB:=s4.1;have hnB:=aH.same (E:=bP) bF hn s0B;have hiB:=aH.same (E:=cA) bO hi s0B;have hfB:bK .i64 B fv first:=hOw.is.same s4;obtain⟨C,hC⟩:∃C:XjC,C=⟨S.nx,S1.nx,fv,ov,wv,nv,iv⟩:=⟨_,rfl⟩;have hXB:XjB C B g first o:=by
  rw[hC];exact⟨cB,hiB,hfB,hov,hwv,hOo.len,hO.len,aDv hO,rB,by show S.nx<B.nx;omega,by show S1.nx<B.nx;omega⟩
 refine bQ ?_;simp only[↓sU,sD,rE,↓reduceIte,rA];refine aA (aY (Q:=fun oo A' X=>(oo= .normal∧RsI C B g o first 0 A' X)∨(oo= .ret∧XjR C B g o A' X)) (aA (aJ ?_)) ?_)
 ·simp only[↓sU,sD,rE,↓reduceIte,rA];exact aOD (C:=C) (B:=B) (g:=g) (first:=first) (o:=o) G hXB (by rw[hC];simp only[↓sU,sD,rE,↓reduceIte,rA]) (by rw[hC];simp only[↓sU,sD,rE,↓reduceIte,rA]) (by rw[hC];simp only[↓sU,sD,rE,↓reduceIte,rA]) (by rw[hC];simp only[↓sU,sD,rE,↓reduceIte,rA]) (by rw[hC];simp only[↓sU,sD,rE,↓reduceIte,rA]) (by simp only[↓sU,sD,rE,↓reduceIte,rA]) (by simp only[↓sU,sD,rE,↓reduceIte,rA];try rfl)
 rintro oo ⟨F,inr⟩ X (⟨rfl,q0,hX,i,atv,cs,hik,hg,hR,hno,p2,p4,p7,p9,p10,p11,_⟩ | ⟨rfl,hsb,d4,⟨i,a,b,hi1,hb1,ha1,he1⟩,p4,p5⟩);rotate_left
 ·simp only at p4 p5;have d4:X.h.get S1.nx=some (.cells [.int .i64 0,.nilsl,.nilsl,.nilsl,.nilsl,.nilsl] false 0):=by rw[hC] at d4;exact d4
  have hsb:bS S1.nx B X:=by rw[hC] at hsb;exact hsb
  have p4:aB 4 F= .ptr S1.nx 0:=by rw[hC] at p4;exact p4
  have ld:=iA (n:=6) d4 rfl;simp only[↓sU,sD,rE,↓reduceIte,rA,dK,p4,p5,ld];exact⟨fin B X s4 hsb,.inr ⟨h0,first,hO,.inl ⟨aO2 G hAll hO hOo hi1 hb1 ha1 he1,rfl⟩⟩⟩
 simp only at q0 p2 p4 p7 p9 p10 p11;subst q0;obtain rfl:i=g.infos.length:=by omega
 have hrl:(uN g o first).length=g.infos.length:=by unfold uN;rw[Aj,Bk]
 rw[Bb (by rw[hrl];exact Ah _)] at hR;have hD:=aMd (first:=first) G hAll hOo hno;have hA:=aNr G hAll hO hOo hno;generalize uN g o first=act at *;have p2:aB 2 F= .ptr S.nx 0:=by rw[hC] at p2;exact p2
 have p4:aB 4 F= .ptr S1.nx 0:=by rw[hC] at p4;exact p4
 have p7:aB 7 F=fv:=by rw[hC] at p7;exact p7
 clear p9 p10 hXB hwv hov hno hC;have s0X:=s0B.trans hX;have cX:X.h.get S.nx=_:=(hX.2 _ (by omega)).trans cB;have lX:=hX.1;have hRk:=aA3 G hAll hO hD hA;try simp only[↓sU,sD,rE,↓reduceIte,rA]
 refine aA (aM9 (g:=g) (gb:=S.nx) (nv:=nv) (iv:=iv) (atv:=atv) rfl p2 p11 cX (by omega) (aH.same (E:=bP) bF hn s0X) (aH.same (E:=cA) bO hi s0X) (by omega) (by omega) hg.cells ?_);intro F1 Z hk p17 sZ nZ gj gi gq;have q2:=(hk 2 (by omega) (by omega)).trans p2;have q4:=(hk 4 (by omega) (by omega)).trans p4;have q7:=(hk 7 (by omega) (by omega)).trans p7;have cZ:=(sZ.2 _ (by omega)).trans cX;have hil:=hi.len;have hmk:=fun F id (h:aB 137 F= .int .i64 ((g.infos.length:Nat):Int))=>nK (t:=3) (s:=1) (bytes:=8) (z:=[AV.int .i64 0]) (l:=.t 137) (c:=.t 137) (F:=F) (id:=id) (n:=g.infos.length) (by show fI (aB 137 F)=_;rw[h];exact aG _ _) (by show fI (aB 137 F)=_;rw[h];exact aG _ _) (by unfold room;omega) (by unfold room;omega);simp only[pG] at hmk;try simp only[↓sU,sD,rE,↓reduceIte,rA]
 refine bQ ?_;simp only[↓aF,aE,rE,↓reduceIte,rA,q2,aC,aD,gG cZ,hil];refine gM (hmk _ _ (by simp only[↓aF,aE,rE,↓reduceIte,rA])) ?_;intro Y y1 y2 y3;simp only[↓aF,aE,rE,↓reduceIte,rA];obtain⟨C2,hC2⟩:∃C2:XC,C2=⟨X.nx+13,Z.nx,X.nx+11,.int .i64 g.players,.sl (X.nx+6) 0 g.infos.length g.infos.length false,nv,iv,fv,atv⟩:=⟨_,rfl⟩;obtain⟨T0,hT0⟩:∃T0:St,T0=⟨Z.h,X.nx+7⟩:=⟨_,rfl⟩;have nT0:T0.nx=X.nx+7:=by rw[hT0]
 have sXT:Same X T0:=by rw[hT0];exact⟨Av _ _,sZ.2⟩
 have sTZ:Same T0 Z:=by rw[hT0];exact⟨by show X.nx+7≤Z.nx;omega,fun _ _=>rfl⟩
 have sTY:=sTZ.trans y1;have s0T:=s0X.trans sXT;have aT:aH 1 iX T0 atv act:=aH.same (E:=iX) firm_sl (hR.is hg hA.len.symm) sXT;have fT:bK .i64 T0 fv first:=(hfB.same hX).same sXT;have e0:C2.nv=nv∧C2.iv=iv∧C2.fv=fv∧C2.av=atv∧C2.ps= .int .i64 g.players∧C2.ob=Z.nx∧C2.jb=X.nx+13∧C2.qb=X.nx+11:=by rw[hC2];exact⟨rfl,rfl,rfl,rfl,rfl,rfl,rfl,rfl⟩
 have gjY:=(y1.2 _ (by omega)).trans gj;have gqY:=(y1.2 _ (by omega)).trans gq;have giY:=(y1.2 _ (by omega)).trans gi;have hS:oF C2 (fun c=>T0.nx≤c) g T0 Y ⟨.nilsl,.nilsl,[],[]⟩ (List.replicate g.nodes.length 0):=by
  have w:∀c,C2.W c→T0.nx≤c∧c<Y.nx:=fun c hc=>by
   rw[hC2] at hc;rcases hc with hc | hc | hc<;>simp only at hc<;>omega
  refine⟨⟨.none,.none,fun a h=>(by cases h),fun i j a b _ h=>(by cases h),fun c h=>(by cases h),fun c h=>(by cases h),w⟩,by rw[hC2];exact gjY,?_,by rw[hC2];exact gqY,by rw[hC2];simp only;omega,Ar,sTY⟩;have:ofL g.infos.length []=List.replicate g.infos.length 0:=nF (by rw[oB,Ar]) fun j hj=>by
   rw[oB] at hj;rw[aAB hj,Ad,Cn,if_pos hj];rfl
  show Y.h.get C2.ob=some (.cells (aP (ofL g.infos.length [])) false 0);rw[this,hC2];exact y3
 have hsz:([]:List (dG×AV)).length+mS Tr 0≤g.nodes.length:=by
  rw[Bv,Ao,←hTl];exact(aB0 (aAf (by decide) (show fO g.nodes.length (dU g) (g.nodes.length+1) 0 (-1) 0=some Tr from hT)) (by rw[hTl];exact G.n1)).2.1
 have cY:=(y1.2 _ (by omega)).trans cZ;refine bQ ?_;simp only[↓aF,aE,rE,↓reduceIte,rA,q2,q7,p17,fR cY];refine bG ?_;simp only[↓aF,aE,rE,↓reduceIte,rA,p17];have hlay:=aJt (C:=C2) (P:=fun c=>T0.nx≤c) (g:=g) (S0:=T0) (first:=first) (act:=act) (Tr:=Tr) H (fun _ h=>h) GK hRk hO.len (aDv hO) (by rw[e0.1];exact aH.same (E:=bP) bF hn s0T) (by rw[e0.2.1];exact aH.same (E:=cA) bO hi s0T) (by rw[e0.2.2.1];exact fT) (by rw[e0.2.2.2.1];exact aT) e0.2.2.2.2.1 hT hTl (aFh hf0) (aOU hf0) g.nodes.length (X:=Y) (old:=0) (by omega) G.n1 hsz (Ah _) hS;rw[e0.1,e0.2.1,e0.2.2.1,e0.2.2.2.2.1,e0.2.2.2.2.2.1,e0.2.2.2.2.2.2.1] at hlay;refine aX hlay ?_;rintro _ W ⟨m,l',hW,a1,a2,a3,a4,a5⟩;try simp only[↓aF,aE,rE,↓reduceIte,rA]
 have rall:=fun s hs=>aGv (first:=first) G hRk (s:=s) hs;have a2:l'.map (·.1)=(fB g first act g.nodes.length 0 0 []).nodes:=a2;have a3:m.reps=(fB g first act g.nodes.length 0 0 []).reps:=a3;have hW:oF C2 (fun c=>T0.nx≤c) g T0 W m (oG (List.replicate g.nodes.length 0) 0 (fB g first act g.nodes.length 0 0 []).olds):=hW;generalize hBB:fB g first act g.nodes.length 0 0 []=BB at *;have pib:oK C2.W ⟨.nilsl,.nilsl,[],[]⟩ (X.nx+6):=hS.b.low (by omega);have giW:=(a5.2 (X.nx+6) (by omega) pib).1.trans giY;have lW:=a5.1;have cW:W.h.get S.nx=_:=(hW.s.2 _ (by omega)).trans ((sTZ.2 _ (by omega)).symm.trans cZ);have rW:W.h.get S1.nx=_:=(hW.s.2 _ (by omega)).trans ((sXT.2 _ (by omega)).trans ((hX.2 _ (by omega)).trans rB));have gjW:=hW.gj;have goW:=hW.go;have gqW:=hW.gq;rw[hC2] at gjW goW gqW;simp only at gjW goW gqW;have sTW:=hW.s;have hTn:=sTW.1;refine aA (aY (Q:=fun oo A' V=>oo= .normal∧aKf W g first m.reps S.nx S1.nx (X.nx+6) (X.nx+13) Z.nx fv 0 A' V) (aA (aJ ?_)) ?_)
 ·simp only[↓sU,sD,rE,↓reduceIte,rA];refine aLl (X1:=W) (g:=g) (first:=first) (l0:=List.replicate g.infos.length 0) (reps:=m.reps) (gb:=S.nx) (r4:=S1.nx) (ib:=X.nx+6) (jb:=X.nx+13) (ob:=Z.nx) (fv:=fv) (iv:=iv) (by omega) (aH.same (E:=cA) bO hi (s0T.trans sTW)) trivial cW gjW goW giW Ar (fun i hi=>?_) hO.len (fun s hs=>?_) ?_ (by omega) (by omega) (by omega) (by omega) (by omega) (by omega) (by omega) (by simp only[↓sU,sD,rE,↓reduceIte,rA,q2]) (by simp only[↓sU,sD,rE,↓reduceIte,rA,q4]) (by simp only[↓sU,sD,rE,↓reduceIte,rA,q7]) (by simp only[↓sU,sD,rE,↓reduceIte,rA,p17]) (by simp only[↓sU,sD,rE,↓reduceIte,rA]) (by simp only[↓sU,sD,rE,↓reduceIte,rA];try rfl) (bK.self hfB)
  ·obtain⟨b,q,h1,h2,h3⟩:=iQ (hfB.same hX) (i:=i) (by rw[hO.len];exact hi);exact⟨b,q,h1,by omega,by omega,by rw[jJ (sXT.trans sTW) h2];exact h3⟩
  ·obtain⟨r,h1,h2⟩:=aDv hO s hs;refine⟨r,h1,h2,?_⟩;have:=rall s hs;rw[h1,Ba] at this;rw[a3];exact this
  ·have:=congrArg List.length a2;rw[Aj] at this;have h2:=qE (T:=Tr) G hRk hT hTl (f:=g.nodes.length) (o:=0) (i:=0) (reps:=[]) (first:=first) G.n1;rw[hBB] at h2;have h3:m.l.length=l'.length:=by rw[a1];rfl
   simp only[Bv,Ao] at hsz;omega
 rintro oo ⟨F3,inr⟩ V ⟨rfl,q0,sV,i,l,hik,hll,hlj,gV,r2,r4,r7,r17,r18,_⟩;simp only at q0 r2 r4 r7 r17 r18;subst q0;obtain rfl:i=g.infos.length:=by omega
 have hnl:l=rO first m.reps:=nF (by rw[hll];unfold rO;rw[Aj,hO.len]) fun j hj=>hlj j (by omega);subst hnl;have gjV:=(sV.2 _ (by omega) (by omega)).trans gjW;have gqV:=(sV.2 _ (by omega) (by omega)).trans gqW;have rV:=(sV.2 _ (by omega) (by omega)).trans rW;have lV:=sV.1;have lj6:=iA (n:=6) gjV rfl;refine bQ ?_;simp only[↓aF,aE,rE,↓reduceIte,rA,r4,r17,lj6];refine dB (b:=S1.nx) (cs':=[.int .i64 g.players,m.na,m.ia,.sl (X.nx+6) 0 g.infos.length g.infos.length false,atv,.sl (X.nx+11) 0 g.nodes.length g.nodes.length false]) (by simp only[↓aF,aE,rE,↓reduceIte,rA,r4]) (by simp only[↓aF,aE,rE,↓reduceIte,rA];exact bB _) rV rfl rfl ?_;intro U v1 k1 d4;try simp only[↓aF,aE,rE,↓reduceIte,rA]
 have ld4:=iA (n:=6) d4 rfl;refine aS ?_;simp only[↓aF,aE,rE,↓reduceIte,rA,r4,dK,ld4];have lU:=v1.1;refine⟨⟨by have:=s0X.1;omega,fun c hc=>(v1.2 c (by have:=s0X.1;omega) (by omega)).trans ((sV.2 c (by have:=s0X.1;omega) (by have:=s0X.1;omega)).trans ((sTW.2 c (by have:=s0X.1;omega)).trans ((sXT.2 c (by have:=s0X.1;omega)).trans (s0X.2 c hc))))⟩,.inr ⟨h0,first,hO,.inr ⟨hD,act,hA,_,rfl,fun U2 hn2 hk2=>?_⟩⟩⟩;have hU:∀c,c≠S1.nx→S.nx≤c→c<V.nx→U2.h.get c=V.h.get c:=fun c hc h0 hl=>(hk2 c h0 (by omega)).trans (v1.2 c hl hc);have hUW:∀c,c≠S1.nx→S.nx≤c→c≠X.nx+6→c<W.nx→U2.h.get c=W.h.get c:=fun c h1 h0 h2 h3=>(hU c h1 h0 (by omega)).trans (sV.2 c h3 h2);have l0X:=s0X.1;have l0B:=s0B.1;have hbU:=hW.b.nodesM (X':=U2) (by omega) fun c h0 hc=>hUW c (by omega) (by omega) (by omega) hc;have hnU:=hbU.nodes;have hiU:=hbU.infos;have a1:m.l=l':=a1;rw[a1,a2] at hnU;rw[a3] at hiU;have kXU:∀c,B.nx≤c→c<X.nx→U2.h.get c=X.h.get c:=fun c h1 h2=>(hUW c (by omega) (by omega) (by omega) (by omega)).trans ((sTW.2 c (by omega)).trans (sXT.2 c h2));have hqU:fP 1 B U2 atv g.infos.length cs:=hg.move (by omega) fun c hc=>kXU c (hg.blk hc).1 (hg.blk hc).2.1;have hRU:oL B U2 atv cs act:=hR.moveR (by omega) fun r hr c hc h0=>kXU c h0 (hR.low hr hc);have gqU:=(hU _ (by omega) (by omega) (by omega)).trans gqV;have giU:=(hU _ (by omega) (by omega) (by omega)).trans gV;have hT5:=zS (os:=BB.olds) (pl:=List.replicate g.nodes.length 0) (i:=0);rw[Ar] at hT5;have hnl2:(rO first m.reps).length=g.infos.length:=by unfold rO;rw[Aj,hO.len]
 have hcell:∀ {b n:Nat} {l:List Int},b<U2.nx→U2.h.get b=some (.cells (aP l) false 0)→l.length=n→bK .i64 U2 (.sl b 0 n n false) l:=fun {b n l} hb hg hn=>.inr ⟨b,0,n,false,aP l,by rw[hn],by rw[hn];exact Ah _,hb,by unfold cN;rw[hg];rfl,fun i x hi=>by
  rw[Ao];unfold aP;rw[Aq,hi];rfl⟩
 refine⟨m.na,m.ia,_,atv,_,rfl,?_,?_,?_,?_,?_⟩
 ·rw[hBB];exact hnU
 ·rw[hBB];exact hiU
 ·rw[hBB,←a3];exact hcell (by omega) giU hnl2
 ·exact hRU.is hqU hA.len.symm
 ·rw[hBB];exact hcell (by omega) gqU hT5
theorem aG1{S:St}{nv iv mv:AV}{g:aR}{L:List (List Int)}(H:Has fns)(hn:aH 6 bP S nv g.nodes)(hi:aH 2 cA S iv g.infos)(hln:g.nodes.length≤100000)(hm:aH 1 iX S mv L):
  gH fns (.fn 49 [] []) [.agg [.int .i64 g.players,nv,iv],mv] S fun r S'=>Same S S'∧aEj g L S' r:=by
 refine cI H.f49 (by simp) ?_;simp only[↓aF,aE,rE,↓reduceIte,rA];refine bQ ?_;refine cM (by simp only[↓aF,aE,rE,↓reduceIte,rA];exact bB _) ?_;intro S1 s1 n1 g1;simp only[↓aF,aE,rE,↓reduceIte,rA];refine cH ?_;intro S2 s2 n2 g2;try simp only[↓aF,aE,rE,↓reduceIte,rA]
 have s02:=s1.trans s2;have c2:S2.h.get S.nx=_:=(s2.2 _ (by omega)).trans g1;refine bQ ?_;simp only[↓aF,aE,rE,↓reduceIte,rA,fR c2];refine bG ?_;simp only[↓aF,aE,rE,↓reduceIte,rA];refine aX (aEM H (aH.same (E:=bP) bF hn s02) (aH.same (E:=cA) bO hi s02) hln (aH.same (E:=iX) firm_sl hm s02)) ?_;rintro r S3 ⟨s3,hJ⟩;have r3:S3.h.get S1.nx=_:=(s3.2 _ (by omega)).trans g2;obtain⟨x0,x1,x2,x3,x4,x5,e,hr⟩:∃x0 x1 x2 x3 x4 x5 e,r= .tup [.agg [x0,x1,x2,x3,x4,x5],.int .i64 e]:=by
  rcases hJ with⟨_,h⟩ | ⟨_,first,_,⟨_,h⟩ | ⟨_,act,_,v,h,hN⟩⟩
  ·exact⟨_,_,_,_,_,_,_,h⟩
  ·exact⟨_,_,_,_,_,_,_,h⟩
  ·obtain⟨a1,a2,a3,a4,a5,e1,_⟩:=hN S3 (Ah _) fun _ _ _=>rfl;exact⟨_,_,_,_,_,_,_,by rw[h,e1]⟩
 have l3:=s3.1;subst hr;simp only[↓aF,aE,rE,↓reduceIte,rA,uW,vE];refine dB (b:=S1.nx) (cs':=[x0,x1,x2,x3,x4,x5]) (by simp only[↓aF,aE,rE,↓reduceIte,rA]) (by simp only[↓aF,aE,rE,↓reduceIte,rA];exact bB _) r3 rfl rfl ?_;intro V v1 k1 d1;try simp only[↓aF,aE,rE,↓reduceIte,rA]
 have ld:=iA (n:=6) d1 rfl;refine aS ?_;simp only[↓aF,aE,rE,↓reduceIte,rA,dK,ld];exact⟨⟨by have:=v1.1;omega,fun c hc=>(v1.2 c (by omega) (by omega)).trans ((s3.2 c (by omega)).trans (s02.2 c hc))⟩,hJ.move v1.1 fun c h0 hc=>v1.2 c hc (by omega)⟩
structure aBH(Z:St)(v:AV)(J:aR)(jl:List Int)(al:List (List Int))(pl:List Int):Prop where
 ex:∃nv iv jv qv pv,v= .agg [.int .i64 J.players,nv,iv,jv,qv,pv]∧aH 6 bP Z nv J.nodes∧aH 2 cA Z iv J.infos∧bK .i64 Z jv jl∧aH 1 iX Z qv al∧bK .i64 Z pv pl
theorem aBH.same{Z Z':St}{v:AV}{J:aR}{jl:List Int}{al:List (List Int)}{pl:List Int}(h:aBH Z v J jl al pl)(hs:Same Z Z'):aBH Z' v J jl al pl:=by
 obtain⟨nv,iv,jv,qv,pv,e,h1,h2,h3,h4,h5⟩:=h.ex;exact⟨nv,iv,jv,qv,pv,e,aH.same (E:=bP) bF h1 hs,aH.same (E:=cA) bO h2 hs,h3.same hs,aH.same (E:=iX) firm_sl h4 hs,h5.same hs⟩
structure aEt(J:aR)(jl:List Int)(al:List (List Int))(pl:List Int):Prop where
 n:J.nodes.length≤2000
 i:J.infos.length≤2000
 x:∀x∈J.nodes,x.next.length≤100000∧x.weights.length≤100000∧x.pay.length≤100000
 j:jl.length≤2000
 a:al.length≤2000
 al:∀x∈al,x.length≤100000
 p:pl.length≤2000
theorem aEt.tame{J:aR}{jl:List Int}{al:List (List Int)}{pl:List Int}(h:aEt J jl al pl):aK7 J:=
 ⟨by have:=h.i;omega,fun x hx=>by obtain⟨a,b,c⟩:=h.x x hx;omega⟩
theorem aD2{Q:dG→Prop}{lay:Nat→Nat→List Nat→aCm}:∀ {l:List Int} (_:∀k∈l,∀i reps,∀x∈(lay k.toNat i reps).nodes,Q x) {i:Nat} {reps:List Nat},∀x∈(eK lay l i reps).2.nodes,Q x
 | [],_,_,_=>fun x h=>by cases h
 | y::l,h,i,reps=>fun x hx=>by
  unfold eK at hx;rcases Bx.1 hx with h1 | h1
  ·exact h y (Bu ..) _ _ x h1
  ·exact aD2 (fun k hk=>h k (Bj _ hk)) x h1
theorem aFF{g:aR}{first:List Int}{act:List (List Int)}(G:dL g)(hR:rM g act){Q:dG→Prop}(hQ:∀o,o<g.nodes.length→∀i l,l.length=(nodeAt g o).next.length→Q {nodeAt g o with info:=i,next:=l}):∀ {f o i:Nat} {reps:List Nat},o<g.nodes.length→∀x∈(fB g first act f o i reps).nodes,Q x
 | 0,_,_,_,_=>fun x h=>by cases h
 | f+1,o,i,reps,ho=>fun x hx=>by
  unfold fB at hx;have hp:=iR G hR ho;rcases Bm.1 hx with rfl | h1
  ·refine hQ o ho _ _ ?_;rw[wH,hp.length_eq]
  ·refine aD2 (fun k hk i reps=>?_) x h1;obtain⟨q,hq,rfl⟩:=Cb (hp.mem_iff.1 hk);have:=G.kids o ho q hq;rw[Ad,Ab hq] at this;simp only[Cy] at this;exact aFF G hR hQ (by omega)
def aMy(g:aR)(first:List Int)(act:List (List Int)):aR:=⟨g.players,(fB g first act g.nodes.length 0 0 []).nodes,(fB g first act g.nodes.length 0 0 []).reps.map fun r:Nat=>infoAt g (r:Int)⟩
theorem aCy{lay:Nat→Nat→List Nat→aCm}:∀ {l:List Int} (_:∀k∈l,∀i reps,(lay k.toNat i reps).reps.length≤reps.length+(lay k.toNat i reps).nodes.length) {i:Nat} {reps:List Nat},(eK lay l i reps).2.reps.length≤reps.length+(eK lay l i reps).2.nodes.length
 | [],_,_,_=>Ah _
 | y::l,h,i,reps=>by
  unfold eK;have h1:=h y (Bu ..) i reps;have h2:=aCy (l:=l) (fun k hk=>h k (Bj _ hk)) (i:=i+(lay y.toNat i reps).nodes.length) (reps:=(lay y.toNat i reps).reps);simp only[Am];omega
theorem aD1{g:aR}{first:List Int}{act:List (List Int)}:∀ {f o i:Nat} {reps:List Nat},(fB g first act f o i reps).reps.length≤reps.length+(fB g first act f o i reps).nodes.length
 | 0,_,_,_=>Ah _
 | f+1,o,i,reps=>by
  unfold fB;have h1:=aA4 (first:=first) (reps:=reps) (x:=nodeAt g o);have h2:=aCy (lay:=fB g first act f) (l:=eJ act (nodeAt g o)) (fun k _ i reps=>aD1) (i:=i+1) (reps:=(eX first reps (nodeAt g o)).1);simp only[Ay];omega
theorem aHu{g:aR}{L:List (List Int)}{first:List Int}{act:List (List Int)}(hf:cP g=0)(hL:∀m∈L,fH g m)(hO:kT g.infos.length (gJ g.infos.length (L.map (imgI g))) first)(hD:¬Dup g L first)(hA:aBC g L first act):aEt (aMy g first act) (rO first (fB g first act g.nodes.length 0 0 []).reps) act (oG (List.replicate g.nodes.length 0) 0 (fB g first act g.nodes.length 0 0 []).olds):=by
 have GK:=vS hf;have G:=GK.good;have hR:=aA3 G hL hO hD hA;obtain⟨Tr,hT,hTl,_⟩:=G.walk;have hb:=qE (first:=first) G hR hT hTl (f:=g.nodes.length) (o:=0) (i:=0) (reps:=[]) G.n1;have hs:=(aB0 (aAf (by decide) (show fO g.nodes.length (dU g) (g.nodes.length+1) 0 (-1) 0=some Tr from hT)) (i:=0) (by rw[hTl];exact G.n1)).2.1;have hN:=G.n2;have hNI:=G.ni;have hr:=aD1 (g:=g) (first:=first) (act:=act) (f:=g.nodes.length) (o:=0) (i:=0) (reps:=[]);rw[Bv,Ao] at hr;refine⟨by show(fB g first act g.nodes.length 0 0 []).nodes.length≤_;omega,by show((fB g first act g.nodes.length 0 0 []).reps.map _).length≤_;rw[Aj];omega,?_,by unfold rO;rw[Aj,hO.len];omega,by rw[hA.len];omega,fun x hx=>?_,by rw[zS,Ar];omega⟩
 ·refine aFF (Q:=fun x=>x.next.length≤100000∧x.weights.length≤100000∧x.pay.length≤100000) G hR (fun o ho i l hl=>⟨?_,aFh hf o ho,?_⟩) G.n1
  ·have:=G.nxt o ho;show l.length≤_;omega
  ·have:=G.pay o ho;show(nodeAt g o).pay.length≤_;omega
 ·obtain⟨s,hs,rfl⟩:=Cb hx;have hn:s<g.infos.length:=by rw[←hA.len];exact hs
  have:=hA.row s hn;rw[Ad,Ab hs] at this;have h2:=aDo G hn;simp only[Cy] at this;omega
theorem aBB{g:aR}{L:List (List Int)}{Z:St}{r:AV}(h:aEj g L Z r):∃x0 x1 x2 x3 x4 x5 e,r= .tup [.agg [x0,x1,x2,x3,x4,x5],.int .i64 e]:=by
 rcases h with⟨_,h⟩ | ⟨_,first,_,⟨_,h⟩ | ⟨_,act,_,v,h,hN⟩⟩
 ·exact⟨_,_,_,_,_,_,_,h⟩
 ·exact⟨_,_,_,_,_,_,_,h⟩
 ·obtain⟨a1,a2,a3,a4,a5,e1,_⟩:=hN;exact⟨_,_,_,_,_,_,_,by rw[h,e1]⟩
theorem aJd{g:aR}{L:List (List Int)}{Z1 Z2:St}{r1 r2:AV}(h1:aEj g L Z1 r1)(h2:aEj g L Z2 r2):∃J jl al pl e v1 v2,r1= .tup [v1,.int .i64 e]∧r2= .tup [v2,.int .i64 e]∧aBH Z1 v1 J jl al pl∧aBH Z2 v2 J jl al pl∧aEt J jl al pl:=by
 have z:∀Z,aBH Z aBo ⟨0,[],[]⟩ [] [] []:=fun Z=>⟨_,_,_,_,_,rfl,.inl ⟨rfl,.inl rfl⟩,.inl ⟨rfl,.inl rfl⟩,.inl ⟨rfl,.inl rfl⟩,.inl ⟨rfl,.inl rfl⟩,.inl ⟨rfl,.inl rfl⟩⟩;have zb:aEt ⟨0,[],[]⟩ [] [] []:=⟨De _,De _,fun x h=>(by cases h),De _,De _,fun x h=>(by cases h),De _⟩;rcases h1 with⟨a0,rfl⟩ | ⟨a0,first,hO,ha⟩
 ·rcases h2 with⟨b0,rfl⟩ | ⟨b0,_⟩
  ·exact⟨_,_,_,_,_,_,_,rfl,rfl,z _,z _,zb⟩
  ·exact absurd b0 a0
 ·rcases h2 with⟨b0,_⟩ | ⟨b0,first',hO',hb⟩
  ·exact absurd a0 b0
  ·obtain⟨hf0,hL16,hims⟩:=sE a0;have hAll:∀m∈L,fH g m:=fun m hm=>nI (nG hims m hm);obtain rfl:first=first':=aLV (fun x y ⟨hx,q,hq,e⟩=>⟨hx,by have:=(aG2 hf0 hAll).2 q hq;have:=this.2 x hx;omega⟩) hO hO';rcases ha with⟨hD,rfl⟩ | ⟨hD,act,hA,v,rfl,hJ⟩
   ·rcases hb with⟨_,rfl⟩ | ⟨hD',_⟩
    ·exact⟨_,_,_,_,_,_,_,rfl,rfl,z _,z _,zb⟩
    ·exact absurd hD hD'
   ·rcases hb with⟨hD',_⟩ | ⟨_,act',hA',v',rfl,hJ'⟩
    ·exact absurd hD' hD
    ·obtain rfl:=aKO hO hD hA hA';exact⟨aMy g first act,_,act,_,_,_,_,rfl,rfl,⟨hJ⟩,⟨hJ'⟩,aHu hf0 hAll hO hD hA⟩
theorem aGa{S:St}{v w:AV}{J:aR}{jl:List Int}{al:List (List Int)}{pl:List Int}(H:Has fns)(hv:aBH S v J jl al pl)(hw:aBH S w J jl al pl)(hB:aEt J jl al pl):
  gH fns (.fn 50 [] []) [v,w] S fun r S'=>r= .bool true∧Same S S':=by
 obtain⟨nv,iv,jv,qv,pv,rfl,a1,a2,a3,a4,a5⟩:=hv.ex;obtain⟨nw,iw,jw,qw,pw,rfl,b1,b2,b3,b4,b5⟩:=hw.ex;refine cI H.f50 (by simp) ?_;simp only[↓aF,aE,rE,↓reduceIte,rA];refine bQ ?_;refine cM (by simp only[↓aF,aE,rE,↓reduceIte,rA];exact bB _) ?_;intro S1 s1 n1 g1;simp only[↓aF,aE,rE,↓reduceIte,rA];refine cM (by simp only[↓aF,aE,rE,↓reduceIte,rA];exact bB _) ?_;intro S2 s2 n2 g2;simp only[↓aF,aE,rE,↓reduceIte,rA];have s02:=s1.trans s2;have c1:S2.h.get S.nx=_:=(s2.2 _ (by omega)).trans g1;have ldJ:∀ {h:Ev.T AB} {b:Nat} {x0 x1 x2 x3 x4 x5:AV},h.get b=some (.cells [x0,x1,x2,x3,x4,x5] false 0)→eH (.ptr b 0) true 3 h=some (.agg [x0,x1,x2]):=fun {h b x0 x1 x2 x3 x4 x5} hb=>by
  simp only[eH,mW,aQ,xD,cN,hb,aK,jS];rfl
 refine bQ ?_;simp only[↓sU,sD,rE,↓reduceIte,rA,aC,aD,ldJ c1,ldJ g2];refine bG ?_;simp only[↓sU,sD,rE,↓reduceIte,rA];refine aX (aCf (g:=J) H (aH.same (E:=bP) bF a1 s02) (aH.same (E:=cA) bO a2 s02) (aH.same (E:=bP) bF b1 s02) (aH.same (E:=cA) bO b2 s02) hB.tame (by have:=hB.n;omega)) ?_;rintro _ S3 ⟨rfl,s3⟩;have c13:=(s3.2 _ (by omega)).trans c1;have c23:=(s3.2 _ (by omega)).trans g2;have s03:=s02.trans s3;simp only[↓sU,sD,rE,↓reduceIte,rA,aC,aD,cT c13,cT c23];refine bG ?_;simp only[↓sU,sD,rE,↓reduceIte,rA];refine aX (qT H (a3.same s03) (b3.same s03) (by have:=hB.j;omega)) ?_;rintro _ S4 ⟨rfl,s4⟩;have s34:=s3.trans s4;have c14:=(s34.2 _ (by omega)).trans c1;have c24:=(s34.2 _ (by omega)).trans g2;have s04:=s02.trans s34;simp only[↓sU,sD,rE,↓reduceIte,rA,decide_true,aC,aD,dC c14,dC c24];refine bG ?_;simp only[↓sU,sD,rE,↓reduceIte,rA];refine aX (aFK H (aH.same (E:=iX) firm_sl a4 s04) (aH.same (E:=iX) firm_sl b4 s04) (by have:=hB.a;omega) (fun x hx=>by have:=hB.al x hx;omega)) ?_;rintro _ S5 ⟨rfl,s5⟩;have s35:=s34.trans s5;have c15:=(s35.2 _ (by omega)).trans c1;have c25:=(s35.2 _ (by omega)).trans g2;have s05:=s02.trans s35;simp only[↓sU,sD,rE,↓reduceIte,rA,decide_true,aC,aD,dM c15,dM c25];refine bG ?_;simp only[↓sU,sD,rE,↓reduceIte,rA];refine aX (qT H (a5.same s05) (b5.same s05) (by have:=hB.p;omega)) ?_;rintro _ S6 ⟨rfl,s6⟩;simp only[↓sU,sD,rE,↓reduceIte,rA,decide_true];refine aS ?_;simp only[↓sU,sD,rE,↓reduceIte,rA];exact s05.trans s6
theorem aGF{S:St}{nv iv mv:AV}{g:aR}{L:List (List Int)}(H:Has fns)(hAw:∀S,gH fns (.fn 47 [] []) [] S fun r S'=>r= .bool true∧Same S S')(hn:aH 6 bP S nv g.nodes)(hi:aH 2 cA S iv g.infos)(hm:aH 1 iX S mv L):
  gH fns (.fn 10 [] []) [.agg [.int .i64 g.players,nv,iv],mv] S fun r S'=>r= .bool true∧Same S S':=by
 refine cI H.f10 (by simp) ?_;simp only[↓aF,aE,rE,↓reduceIte,rA];refine bQ ?_;refine cM (by simp only[↓aF,aE,rE,↓reduceIte,rA];exact bB _) ?_;intro S1 s1 n1 g1;simp only[↓aF,aE,rE,↓reduceIte,rA];refine gC ?_;simp only[↓sU,sD,rE,↓reduceIte,rA];refine bG ?_;simp only[↓sU,sD,rE,↓reduceIte,rA];refine aX (hAw S1) ?_;rintro _ S2 ⟨rfl,s2⟩;simp only[↓sU,sD,rE,↓reduceIte,rA,gE,Cz];refine aN (by simp only[↓sU,sD,rE,↓reduceIte,rA]) (aI ?_);try simp only[↓sU,sD,rE,↓reduceIte,rA]
 have s02:=s1.trans s2;have c2:=(s2.2 _ (show S.nx<S1.nx by omega)).trans g1;have hnl:=hn.len;have hml:=hm.len;have l2:S.nx<S2.nx:=by have:=s2.1;omega
 refine aA (aA (aY (Q:=fun o A' X=>o= .normal∧A'.inr=false∧X=S2∧aB 1 A'.F=mv∧aB 2 A'.F= .ptr S.nx 0∧aB 19 A'.F= .bool (decide (40<g.nodes.length∨17<L.length))) (aJ ?_) ?_))
 ·by_cases h1:40<g.nodes.length
  ·simp only[↓sU,sD,rE,↓reduceIte,rA,aC,aD,eY c2,hnl,Ac (show((g.nodes.length:Nat):Int)>40 by omega),Ac (show 40<g.nodes.length∨17<L.length from .inl h1)]
  ·by_cases h2:17<L.length
   ·simp only[↓sU,sD,rE,↓reduceIte,rA,aC,aD,eY c2,hnl,hml,Ag,Aa (show ¬ ((g.nodes.length:Nat):Int)>40 by omega),Ac (show((L.length:Nat):Int)>17 by omega),Ac (show 40<g.nodes.length∨17<L.length from .inr h2)]
   ·simp only[↓sU,sD,rE,↓reduceIte,rA,aC,aD,eY c2,hnl,hml,Ag,Aa (show ¬ ((g.nodes.length:Nat):Int)>40 by omega),Aa (show ¬ ((L.length:Nat):Int)>17 by omega),Aa (show ¬ (40<g.nodes.length∨17<L.length) by omega)]
 rintro o ⟨F,inr⟩ X ⟨rfl,q0,rfl,p1,p2,p19⟩;simp only at q0 p1 p2 p19;subst q0;try simp only[↓sU,sD,rE,↓reduceIte,rA]
 by_cases hb:40<g.nodes.length∨17<L.length
 ·refine aO (by simp only[↓sU,sD,rE,↓reduceIte,rA,p19,Ac hb]) ?_;refine bQ ?_;simp only[↓sU,sD,rE,↓reduceIte,rA];refine aS ?_;simp only[↓sU,sD,rE,↓reduceIte,rA];exact s02
 refine aN (by simp only[↓sU,sD,rE,↓reduceIte,rA,p19,Aa hb]) (aI ?_);try simp only[↓sU,sD,rE,↓reduceIte,rA]
 have hln:g.nodes.length≤100000:=by omega
 refine bQ ?_;simp only[↓aF,aE,rE,↓reduceIte,rA,p1,p2,fR c2];refine bG ?_;simp only[↓aF,aE,rE,↓reduceIte,rA];refine aX (aHr H (aH.same (E:=bP) bF hn s02) (aH.same (E:=cA) bO hi s02) hln (aH.same (E:=iX) firm_sl hm s02)) ?_;rintro r1 S3 ⟨s3,hJ1⟩;obtain⟨x0,x1,x2,x3,x4,x5,e1,rfl⟩:=aBB hJ1;simp only[↓aF,aE,rE,↓reduceIte,rA,uW,vE];refine cH ?_;intro S4 s4 n4 g4;try simp only[↓aF,aE,rE,↓reduceIte,rA]
 refine dB (b:=S3.nx) (cs':=[x0,x1,x2,x3,x4,x5]) (by simp only[↓aF,aE,rE,↓reduceIte,rA]) (by simp only[↓aF,aE,rE,↓reduceIte,rA];exact bB _) g4 rfl rfl ?_;intro S5 s5 n5 g5;try simp only[↓aF,aE,rE,↓reduceIte,rA]
 have s35:Same S3 S5:=s5.same s4 (Ah _);have s25:=s3.trans s35;have s05:=s02.trans s25;have c5:=(s25.2 _ l2).trans c2;refine bQ ?_;simp only[↓aF,aE,rE,↓reduceIte,rA,p1,p2,fR c5];refine bG ?_;simp only[↓aF,aE,rE,↓reduceIte,rA];refine aX (aG1 H (aH.same (E:=bP) bF hn s05) (aH.same (E:=cA) bO hi s05) hln (aH.same (E:=iX) firm_sl hm s05)) ?_;rintro r2 S6 ⟨s6,hJ2⟩;obtain⟨y0,y1,y2,y3,y4,y5,e2,rfl⟩:=aBB hJ2;simp only[↓aF,aE,rE,↓reduceIte,rA,uW,vE];refine cH ?_;intro S7 s7 n7 g7;try simp only[↓aF,aE,rE,↓reduceIte,rA]
 refine dB (b:=S6.nx) (cs':=[y0,y1,y2,y3,y4,y5]) (by simp only[↓aF,aE,rE,↓reduceIte,rA]) (by simp only[↓aF,aE,rE,↓reduceIte,rA];exact bB _) g7 rfl rfl ?_;intro S8 s8 n8 g8;try simp only[↓aF,aE,rE,↓reduceIte,rA]
 have s68:Same S6 S8:=s8.same s7 (Ah _);have s58:=s6.trans s68;have g58:=(s58.2 _ (show S3.nx<S5.nx by have:=s35.1;omega)).trans g5;obtain⟨J,jl,al,pl,e,v1,v2,q1,q2,hv1,hv2,hB⟩:=aJd hJ1 hJ2;simp only[AV.tup.injEq,List.cons.injEq,AV.int.injEq,and_true,true_and] at q1 q2;obtain⟨rfl,rfl⟩:=q1;obtain⟨rfl,rfl⟩:=q2;have ld1:=iA (n:=6) g58 rfl;have ld2:=iA (n:=6) g8 rfl;refine bQ ?_;simp only[↓sU,sD,rE,↓reduceIte,rA,ld1,ld2];refine bG ?_;simp only[↓sU,sD,rE,↓reduceIte,rA];refine aX (aGa H (hv1.same (s35.trans s58)) (hv2.same s68) hB) ?_;rintro _ S9 ⟨rfl,s9⟩;simp only[↓sU,sD,rE,↓reduceIte,rA,decide_true];refine aS ?_;simp only[↓sU,sD,rE,↓reduceIte,rA];exact s05.trans (s58.trans s9)
end Go.Ev.Gl
namespace Go.Ev.Gl
section
variable {P:Program}{σ:Env}{S:St}{w:World}
theorem aJa{t:TypeId}{H:Type}{enc:TypeId×Value→H}{base:Nat}{spare:Nat→Bool}{held:Bool}{fuel:Nat}{v:Value}{x:DataW H×List MemPlace}(hR:kC P σ S w)(hn:wF S)(hf:uY S)(hG:P.globals.size≤S.nx)(hL:Lays P t (sP 1 (pN .i64)))(h:DataW.trod enc P w base spare held fuel t v.cells.toList=some x)(hv:v.cells.toList= [v])(hW:∀n∈DataW.weights P t x.1,n≤140737488355328):
  ∃σ' S' a,∃L:List (List Int),oH P σ S w σ' S'∧Rv P σ' a v∧aH 1 iX S' a L∧S.nx≤S'.nx:=by
 obtain⟨σ',S',avs,l,hA,hr,h1,hE,hnx⟩:=hL H enc σ S w base spare held fuel _ x hR hn hf hG h hW;obtain⟨a,rfl,i1⟩:=sP.is hE;rw[hv] at hr;obtain⟨_,_,h2,h3,h4⟩:=dJ.1 hr;cases h2;exact⟨σ',S',a,l.map id,hA,h3,aH.conv (fun e x h=>aBT h) i1,hnx⟩
theorem aHD{tl ts e:TypeId}(hl:P.underlying tl=some (.slice ts))(hs:P.underlying ts=some (.slice e))(he:P.underlying e=some (.int .i64))(ce:P.cellsOf e=1)(cs:P.cellsOf ts=1)(be:8≤P.bytesOf e)(bs:8≤P.bytesOf ts):Lays P tl (sP 1 (pN .i64)):=
 tT hl cs (by decide) (by omega) (aDZ hs he ce be) nM
end
end Go.Ev.Gl
