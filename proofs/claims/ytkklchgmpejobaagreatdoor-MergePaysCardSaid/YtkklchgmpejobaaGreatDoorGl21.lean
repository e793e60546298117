import Derived.Test.YtkklchgmpejobaaGreatDoorGl20
open Nat renaming reduceEqDiff → rE, reduceAdd → rA
set_option maxHeartbeats 16000000
set_option linter.unusedSimpArgs false
set_option linter.unusedVariables false
namespace Go.Ev.Gl
open Go.Sort
variable {fns:T cV}
theorem aMp{e:oO}{m k v:cK}{c:eU}{F:Fr}{S:St}:zX (.mapUpd e m k v) c F S=uM (m.val F) e (k.val F) (v.val F) S:=rfl
def ClK(g:bH)(S S3:St)(gb mp kb:Nat)(nv iv:AV)(k:Nat)(A:bQ)(X:St):Prop:=A.inr=false∧Same S X∧S3.nx≤X.nx∧X.h.get gb=some (.cells [.int .i64 g.players,nv,iv] false 0)∧aD 1 A.F= .ptr gb 0∧aD 3 A.F= .nilsl∧aD 4 A.F= .map mp∧aD 5 A.F= .sl kb 0 g.nodes.length g.nodes.length false∧aD 6 A.F= .int .i64 ((k:Int) - 1)∧k≤g.nodes.length∧∃ (K:List Int) (l:List (List Nat×Nat)),aB9 g k K l∧X.h.get mp=some (.map (aCb l))∧X.h.get kb=some (.cells (bG K) false 0)
def SeK(g:bH)(K:List Int)(S S4:St)(gb mp kb sb m:Nat)(k:Nat)(A:bQ)(X:St):Prop:=A.inr=false∧bJ sb S4 X∧aD 1 A.F= .ptr gb 0∧aD 4 A.F= .map mp∧aD 5 A.F= .sl kb 0 g.nodes.length g.nodes.length false∧aD 10 A.F= .sl sb 0 m m false∧aD 59 A.F= .sl kb 0 g.nodes.length g.nodes.length false∧aD 60 A.F= .int .i64 ((g.nodes.length:Nat):Int)∧∃ (i:Nat) (v:AV) (cs:List AV) (sv:Nat→Bool),i+k=g.nodes.length∧aD 61 A.F= .int .i64 (i:Int)∧aD 3 A.F=v∧gQ 1 S X v (oT (nF g i)).length (bG (oT (nF g i)))∧(∀c,aT v=some c→S4.nx≤c)∧X.h.get sb=some (.cells cs false 0)∧cs.length=m∧∀u,u<m→cs[u]? =some (.bool (sv u))∧(sv u=true↔∃j,j<i∧K.getD j 0=(u:Int))
def NuK(g:bH)(K:List Int)(F:List Nat)(S4:St)(kb nb m:Nat)(v:AV)(k:Nat)(A:bQ)(X:St):Prop:=A.inr=false∧bJ nb S4 X∧aD 3 A.F=v∧aD 5 A.F= .sl kb 0 g.nodes.length g.nodes.length false∧aD 14 A.F= .sl nb 0 m m false∧aD 87 A.F=v∧aD 88 A.F= .int .i64 ((F.length:Nat):Int)∧∃ (i:Nat) (N:List Int),i+k=F.length∧aD 89 A.F= .int .i64 (i:Int)∧N.length=m∧X.h.get nb=some (.cells (bG N) false 0)∧∀p q,p<i→F[p]? =some q→N.getD (K.getD q 0).toNat 0=(p:Int)
def CaK(g:bH)(K N:List Int)(S4:St)(kb nb cb m:Nat)(v:AV)(k:Nat)(A:bQ)(X:St):Prop:=A.inr=false∧bJ cb S4 X∧aD 3 A.F=v∧aD 2 A.F= .sl cb 0 g.nodes.length g.nodes.length false∧aD 14 A.F= .sl nb 0 m m false∧aD 105 A.F= .sl kb 0 g.nodes.length g.nodes.length false∧aD 106 A.F= .int .i64 ((g.nodes.length:Nat):Int)∧∃ (i:Nat) (C:List Int),i+k=g.nodes.length∧aD 107 A.F= .int .i64 (i:Int)∧C.length=g.nodes.length∧X.h.get cb=some (.cells (bG C) false 0)∧∀j,j<i→C.getD j 0=N.getD (K.getD j 0).toNat 0
theorem aIb{b n c:Nat}{o:Bool}:lH (.sl b 0 n c o)=some (.int .i64 (n:Int)):=rfl
theorem aFk{S:St}{v:AV}{g:bH}(H:Has fns)(G:qP g)(hL:kA S)(hf:∀i,i<g.nodes.length→aON (nodeAt g i))(hw:∀i,i<g.nodes.length→(nodeAt g i).weights.length≤1000)(hv:nS S v g):fR fns (.fn 42 [] []) [v] S fun r X=>∃a b F C,r= .tup [a,b]∧Same S X∧jN g (htL g) F C∧cD .i64 X a C∧cD .i64 X b (oT F):=by
 have hK:=iW G;have hN:=G.n2;have hv0:=hv;obtain⟨nv,iv,rfl,hn,hi⟩:=hv;refine cE H.f42 (by simp) ?_;refine ah ?_;refine cC ?_;refine eH (by simp only[↓aA,aB,rE,↓reduceIte];exact bM _) ?_;intro S1 s1 n1 c1;refine ac ?_;refine cC ?_;refine fX aNt ?_;intro S2 s2 n2 c2;simp only[↓aA,aB,rE,↓reduceIte];have hnl:=bB.len hn;have c1':=(s2.2 _ (show S.nx<S1.nx by omega)).trans c1;refine cC ?_;simp only[↓aA,aB,rE,↓reduceIte,aE,aF,fL c1',bB.self hn,hnl];refine fX (pO (n:=g.nodes.length) (by simp only[↓aA,aB,rE,↓reduceIte,aH]) (by simp only[↓aA,aB,rE,↓reduceIte,aH]) (by unfold room;omega) (by unfold room;omega)) ?_;intro S3 s3 n3 c3;rw[xP] at c3;try simp only[↓aA,aB,rE,↓reduceIte]
 have g3:=(s3.2 _ (show S.nx<S2.nx by omega)).trans c1';have m3:S3.h.get S1.nx=some (.map []):=(s3.2 _ (by omega)).trans c2;have s03:=s1.trans (s2.trans s3);refine aC (bD (Q:=fun o A' X=>o= .normal∧ClK g S S3 S.nx S1.nx S2.nx nv iv 0 A' X) (aC (aG ?_)) ?_)
 ·have w0:IntKind.i64.wrap (((g.nodes.length:Nat):Int) - 1)=((g.nodes.length:Nat):Int) - 1:=wrap_i64 (by omega) (by omega);simp only[↓aA,aB,rE,↓reduceIte,aE,aF,fL g3,bB.self hn,hnl,Ak,w0];refine aN (bT (ClK g S S3 S.nx S1.nx S2.nx nv iv) ?_ g.nodes.length _ _ ⟨rfl,s03,Ag _,g3,ae,ae,ae,ae,ae,Ag _,_,[],⟨⟨Bg ..,fun a b ha _ h _=>by omega⟩,fun a h1 h2=>by omega,fun i hi=>by simp at hi,by simp⟩,m3,c3⟩);rintro k ⟨F,inr⟩ X ⟨q0,sX,nX,gX,p1,p3,p4,p5,p6,hk,K,l,hS,mX,kX⟩;simp only at q0 p1 p3 p4 p5 p6;subst q0;refine iP ?_;simp only[↓aA,aB,rE,↓reduceIte,p6];by_cases hk0:k=0
  ·subst hk0;refine aO (by simp only[↓aA,aB,rE,↓reduceIte];exact Dh _ (Aa (by omega))) (bK ?_);exact⟨rfl,rfl,sX,nX,gX,ag p1,ag p3,ag p4,ag p5,ag p6,hk,K,l,hS,mX,kX⟩
  obtain⟨a,rfl⟩:∃a,k=a+1:=⟨k - 1,by omega⟩;have e6:(((a+1:Nat):Int) - 1)=(a:Int):=by omega
  rw[e6] at p6 ⊢;refine aR (by simp only[↓aA,aB,rE,↓reduceIte,Ad (show(0:Int)≤(a:Int) by omega)]) (aM ?_);try simp only[↓aA,aB,rE,↓reduceIte]
  have hal:a<g.nodes.length:=by omega
  have hx:=dI hal;obtain⟨e,b,p,i1,i2,i3,⟨na,nb,nc,rfl,x1,x2,x3⟩,i5,i6⟩:=bB.at hn (by omega) hx;have la:dB (.ptr b p) true 6 X.h=some (.agg [.int .i64 (nodeAt g a).kind,.int .i64 (nodeAt g a).player,.int .i64 (nodeAt g a).info,na,nb,nc]):=(sI sX i2).trans i5;have iK:=mG kX (by omega) hS.ok.1;refine aC (aN (aC (aG ?_)));simp only[↓aA,aB,rE,↓reduceIte,aE,aF,p1,p5,p6,fL gX,bB.self hn,aH,i1,la];refine aY ?_;try simp only[↓aA,aB,rE,↓reduceIte]
  have hc:∀c∈(nodeAt g a).next,0≤c∧c.toNat<K.length∧Rng (K.getD c.toNat 0):=fun c hc=>by
   obtain⟨k1,k2⟩:=qN (hK:=hK) hal hc;obtain⟨j,hj⟩:=Er hc;obtain⟨hj1,hj2⟩:=Af.1 hj;obtain⟨_,_,u3⟩:=hK a hal j hj1;have ec:(nodeAt g a).next.getD j 0=c:=by rw[Ae,hj];rfl
   obtain⟨w,w1,w2⟩:=hS.rng c.toNat (by omega) k2;have:=(Af.1 w2).1;have:=hS.len;refine⟨by omega,by rw[hS.ok.1];exact k2,?_⟩;rw[w1];unfold Rng;omega
  refine aP (aKn H (hL.same sX) (x1.same sX) (x2.same sX) (x3.same sX) iK (hf a hal) hc (G.nxt a hal) (hw a hal) (by have:=G.pay a hal;omega)) ?_;rintro _ Y ⟨rfl,hY⟩;obtain⟨key,hkey⟩:∃key,key=nT (nodeAt g a) K:=⟨_,rfl⟩;rw[←hkey];have mY:=(hY.2 _ (show S1.nx<X.nx by omega)).trans mX;have kY:=(hY.2 _ (show S2.nx<X.nx by omega)).trans kX;have gY:=(hY.2 _ (show S.nx<X.nx by omega)).trans gX;have sY:=sX.trans hY;have nY:=Ap nX hY.1;try simp only[↓aA,aB,rE,↓reduceIte]
  have hlk:∀F:Fr,aD 40 F= .map S1.nx→aD 41 F= .str key→iI (.lookup (.p .str) (.int .i64 0) true (.t 40) (.t 41)) F Y.h=some (.tup [.int .i64 (match lkp l key with | some v=>(v:Int) | none=>0),.bool (lkp l key).isSome]):=fun F u w=>by
   rw[aK7 (m:=.t 40) (x:=.t 41) mY u w];cases lkp l key<;>rfl
  refine cC ?_;simp only[↓aA,aB,rE,↓reduceIte,p4,hlk,ex0,ex1];rw[hkey] at hlk;refine aC (bD (Q:=fun o A' Z=>o= .normal∧A'.inr=false∧Same S Z∧S3.nx≤Z.nx∧Z.h.get S.nx=some (.cells [.int .i64 g.players,nv,iv] false 0)∧aD 1 A'.F= .ptr S.nx 0∧aD 3 A'.F= .nilsl∧aD 4 A'.F= .map S1.nx∧aD 5 A'.F= .sl S2.nx 0 g.nodes.length g.nodes.length false∧aD 6 A'.F= .int .i64 (a:Int)∧Z.h.get S2.nx=some (.cells (bG K) false 0)∧∃ (w:Nat) (l':List (List Nat×Nat)),aD 8 A'.F= .int .i64 (w:Int)∧aB9 g a (K.set a (w:Int)) l'∧Z.h.get S1.nx=some (.map (aCb l'))) (aC (aG ?_)) ?_)
  ·cases hq:lkp l key with
   | some w=>
    simp only[↓aA,aB,rE,↓reduceIte,fQ,Option.isSome_some,Bp];refine aO (ae) (aM ?_);rw[hkey] at hq;exact⟨rfl,rfl,sY,nY,gY,ag p1,ag p3,ag p4,ag p5,ag p6,kY,w,l,ae,(hS.old hK hal hq).1,mY⟩
   | none=>
    simp only[↓aA,aB,rE,↓reduceIte,fQ,Fq,Bx];have hnm:∀F:Fr,aD 47 F= .map S1.nx→iI (.lenMap (.t 47)) F Y.h=some (.int .i64 ((l.length:Nat):Int)):=fun F u=>aBw (m:=.t 47) mY u;refine aR (ae) (aC (aG ?_));simp only[↓aA,aB,rE,↓reduceIte,p4,hnm];refine aG ?_;simp only[↓aA,aB,rE,↓reduceIte,p4];refine eR (v:=.undef) (fun call=>by rw[aMp];simp only[↓aA,aB,rE,↓reduceIte,p4];exact aKj mY l.length (Option.map_eq_none_iff.1 hq)) ?_;rw[hkey] at hq ⊢;refine ac ?_;refine⟨⟨sY.1,fun c hc=>?_⟩,nY,?_,p1,p3,p4,p5,p6,?_,l.length,_,rfl,hS.new hK hal hq,by rw[T.get_set,if_pos rfl]⟩
    ·simp only;rw[T.get_set,if_neg (by omega)];exact sY.2 c hc
    ·rw[T.get_set,if_neg (by omega)];exact gY
    ·rw[T.get_set,if_neg (by omega)];exact kY
  clear hlk p1 p3 p4 p5 p6;rintro o ⟨F,inr⟩ Z ⟨rfl,q0,sZ,nZ,gZ,p1,p3,p4,p5,p6,kZ,w,l',p8,hS',mZ⟩;simp only at q0 p1 p3 p4 p5 p6 p8;subst q0;have ia:=iN (b:=S2.nx) (o:=false) hal;try simp only[↓aA,aB,rE,↓reduceIte]
  refine aG ?_;simp only[↓aA,aB,rE,↓reduceIte,p5,p6,p8,aH,ia];refine eR (fun call=>by simp only[↓aA,aB,rE,↓reduceIte,dD,cQ,p8];exact aCg (S:=Z) kZ (by rw[hS.ok.1];exact hal)) ?_;have w2:IntKind.i64.wrap ((a:Int) - 1)=(a:Int) - 1:=wrap_i64 (by omega) (by omega);refine ac ?_;refine aG ?_;simp only[↓aA,aB,rE,↓reduceIte,p6,w2];refine⟨a,by omega,rfl,⟨sZ.1,fun c hc=>?_⟩,nZ,?_,ag p1,ag p3,ag p4,ag p5,ae,by omega,_,l',hS',?_,by simp only;rw[T.get_set,if_pos rfl]⟩
  ·simp only;rw[T.get_set,if_neg (by omega)];exact sZ.2 c hc
  ·simp only;rw[T.get_set,if_neg (by omega)];exact gZ
  ·simp only;rw[T.get_set,if_neg (by omega)];exact mZ
 rintro o ⟨F,inr⟩ X ⟨rfl,q0,sX,nX,gX,p1,p3,p4,p5,p6,hk,K,l,hS,mX,kX⟩;simp only at q0 p1 p3 p4 p5 p6;subst q0;clear p6 hk c3 m3 g3 c2 c1 c1';have hll:=hS.len;have hnm:∀F:Fr,aD 56 F= .map S1.nx→iI (.lenMap (.t 56)) F X.h=some (.int .i64 ((l.length:Nat):Int)):=fun F u=>aBw (m:=.t 56) mX u;try simp only[↓aA,aB,rE,↓reduceIte]
 refine cC ?_;simp only[↓aA,aB,rE,↓reduceIte,p4,hnm];refine fX (pO (n:=l.length) (by simp only[↓aA,aB,rE,↓reduceIte,aH]) (by simp only[↓aA,aB,rE,↓reduceIte,aH]) (by unfold room;omega) (by unfold room;omega)) ?_;intro S4 s4 n4 c4;try simp only[↓aA,aB,rE,↓reduceIte]
 have s4':=sX.trans s4;have g4:=(s4.2 _ (show S.nx<X.nx by omega)).trans gX;have m4:=(s4.2 _ (show S1.nx<X.nx by omega)).trans mX;have k4:=(s4.2 _ (show S2.nx<X.nx by omega)).trans kX;have iK:=mG k4 (by omega) hS.ok.1;have sK:=cD.self iK;refine aC (bD (Q:=fun o A' Y=>o= .normal∧SeK g K S S4 S.nx S1.nx S2.nx X.nx l.length 0 A' Y) (aC (aG ?_)) ?_)
 ·simp only[↓aA,aB,rE,↓reduceIte,p5,aIb];refine aN (bT (SeK g K S S4 S.nx S1.nx S2.nx X.nx l.length) ?_ g.nodes.length _ _ ⟨rfl,bJ.refl _ _,ag p1,ag p4,ag p5,ae,ae,ae,0,.nilsl,_,fun _=>false,by omega,ae,ag p3,.inl ⟨rfl,rfl,rfl⟩,(fun c h=>by cases h),c4,by rw[repeatL_one,Bg],fun u hu=>⟨by rw[repeatL_one,De,if_pos hu],by simp⟩⟩);clear p1 p3 p4 p5;rintro k ⟨F,inr⟩ Y ⟨q0,hY,p1,p4,p5,p10,p59,p60,i,v,cs,sv,hik,p61,p3,hg,hb,sY,hcl,hcs⟩;simp only at q0 p1 p3 p4 p5 p10 p59 p60 p61;subst q0;refine cC ?_;simp only[↓aA,aB,rE,↓reduceIte,p60,p61,zV];by_cases hlt:i<g.nodes.length;rotate_left
  ·refine aC (aO (by simp only[↓aA,aB,rE,↓reduceIte,Aa hlt]) (bK ?_));have hk:k=0:=by omega
   subst hk;exact⟨rfl,rfl,hY,ag p1,ag p4,ag p5,ag p10,ag p59,ag p60,i,v,cs,sv,hik,ag p61,ag p3,hg,hb,sY,hcl,hcs⟩
  refine aC (aR (by simp only[↓aA,aB,rE,↓reduceIte,Ad hlt]) (aM ?_));try simp only[↓aA,aB,rE,↓reduceIte]
  have nY:=hY.1;have kY:=(hY.2 _ (show S2.nx<S4.nx by omega) (by omega)).trans k4;have ia:=iN (b:=S2.nx) (o:=false) hlt;have la:=aD8 kY (show i<K.length by rw[hS.ok.1];exact hlt);obtain⟨u,u1,u2⟩:=aAI hS hlt;rw[u1] at la;obtain⟨cu,su⟩:=hcs u u2;have iu:=iN (b:=X.nx) (o:=false) u2;have lu:dB (.ptr X.nx u) false 1 Y.h=some (.bool (sv u)):=cS sY cu;have hsn:=aLA hS hlt;rw[u1] at hsn;have sSY:Same S Y:=bJ.same s4' hY (by omega);refine aC (aN (aC (aG ?_)));simp only[↓aA,aB,rE,↓reduceIte,p59,p61,aH,ia,la];refine cC ?_;simp only[↓aA,aB,rE,↓reduceIte,p10,aH,iu,lu,fQ];by_cases hf:oM g i=true;rotate_left
  ·have e1:sv u=true:=su.2 (hsn.2 hf);refine aO (by simp only[↓aA,aB,rE,↓reduceIte,e1,Bp]) (aM ?_);try simp only[↓aA,aB,rE,↓reduceIte]
   refine aG ?_;simp only[↓aA,aB,rE,↓reduceIte,p61,fA (a:=i) (by omega)];have e2:nF g (i+1)=nF g i:=by rw[aEI,if_neg hf]
   refine⟨k - 1,by omega,rfl,hY,ag p1,ag p4,ag p5,ag p10,ag p59,ag p60,i+1,v,cs,sv,by omega,ae,ag p3,by rw[e2];exact hg,hb,sY,hcl,fun u' hu'=>⟨(hcs u' hu').1,?_⟩⟩;rw[(hcs u' hu').2];constructor
   ·rintro⟨j,j1,j2⟩;exact⟨j,by omega,j2⟩
   ·rintro⟨j,j1,j2⟩;by_cases e:j=i
    ·subst e;have:u'=u:=by omega
     subst this;exact su.1 e1
    ·exact⟨j,by omega,j2⟩
  have e1:sv u=false:=Bv.2 fun e=>(hsn.1 (su.1 e)) hf;refine aR (by simp only[↓aA,aB,rE,↓reduceIte,e1,Bx]) (aC (aG ?_));simp only[↓aA,aB,rE,↓reduceIte,p10,aH,iu];obtain⟨Y1,hY1⟩:∃Y1:St,Y1=⟨Y.h.set X.nx (some (.cells (cs.set u (.bool true)) false 0)),Y.nx⟩:=⟨_,rfl⟩;refine eR (v:=.undef) (S1:=Y1) (fun call=>by rw[dD,hY1];simp only[↓aA,aB,rE,↓reduceIte];exact xW (S:=Y) sY (by rw[hcl];exact u2)) ?_;have y1:bJ X.nx Y Y1:=by rw[hY1];exact(bJ.refl _ _).put _
  have sY1:Y1.h.get X.nx=some (.cells (cs.set u (.bool true)) false 0):=by rw[hY1];simp only;rw[T.get_set,if_pos rfl]
  have nY1:Y1.nx=Y.nx:=by rw[hY1]
  clear hY1;have hg1:gQ 1 S Y1 v (oT (nF g i)).length (bG (oT (nF g i))):=by
   rcases hg with h | ⟨b,h1,h2,h3,h4,h5⟩
   ·exact .inl h
   ·have:=hb b (by rw[h1];rfl);exact .inr ⟨b,h1,h2,by omega,(y1.2 _ h3 (by omega)).trans h4,h5⟩
  try simp only[↓aA,aB,rE,↓reduceIte]
  refine aG ?_;simp only[↓aA,aB,rE,↓reduceIte,p3];refine fX (kQ (k:=.i64) (n:=(i:Int)) (ae)) ?_;intro Y2 y2 nY2 c2;try simp only[↓aA,aB,rE,↓reduceIte]
  have sSY2:Same S Y2:=(bJ.same sSY y1 (by omega)).trans y2;have hfl:=qA g i;have hnl:=nJ (nF g i);obtain⟨v',Y3,f1,f2,f3,f4,f5⟩:=gQ.push (bytes:=8) (hg1.step y2) sSY2 c2 (by unfold room;omega) (by unfold room;omega);refine eR (v:=v') (S1:=Y3) (fun call=>by rw[fJ];simp only[↓aA,aB,rE,↓reduceIte,p3];exact f1) ?_;have e2:oT (nF g (i+1))=oT (nF g i)++ [(i:Int)]:=by
   rw[aEI,if_pos hf];unfold oT;rw[Dc];rfl
  have kk:∀c,c<S4.nx→c≠X.nx→Y3.h.get c=Y.h.get c:=fun c hc hne=>by
   rw[f5 c (by omega) (fun e=>by have:=hb c e;omega),y2.2 c (by omega),y1.2 c (by omega) hne]
  refine ac ?_;refine aG ?_;simp only[↓aA,aB,rE,↓reduceIte,p61,fA (a:=i) (by omega)];refine⟨k - 1,by omega,rfl,⟨by omega,fun c hc hne=>(kk c hc hne).trans (hY.2 c hc hne)⟩,ag p1,ag p4,ag p5,ag p10,ag p59,ag p60,i+1,v',_,fun w=>if w=u then true else sv w,by omega,ae,ae,by rw[e2];exact f2,fun c hc=>?_,(f5 _ (by omega) (fun e=>by have:=hb _ e;omega)).trans ((y2.2 _ (by omega)).trans sY1),by rw[Bm];exact hcl,fun u' hu'=>⟨?_,?_⟩⟩
  ·rw[f3] at hc;cases hc;omega
  ·show(cs.set u (.bool true))[u']? =some (.bool (if u'=u then true else sv u'));rw[Ef];by_cases e:u=u'
   ·subst e;rw[if_pos rfl,if_pos (by rw[hcl];exact u2),if_pos rfl]
   ·rw[if_neg e,if_neg (Da e)];exact(hcs u' hu').1
  ·show(if u'=u then true else sv u')=true↔_;by_cases e:u'=u
   ·rw[if_pos e,e];exact⟨fun _=>⟨i,by omega,u1⟩,fun _=>rfl⟩
   ·rw[if_neg e,(hcs u' hu').2];constructor
    ·rintro⟨j,j1,j2⟩;exact⟨j,by omega,j2⟩
    ·rintro⟨j,j1,j2⟩;by_cases e3:j=i
     ·rw[e3,u1] at j2;exact absurd (Int.ofNat.inj j2).symm e
     ·exact⟨j,by omega,j2⟩
 clear p1 p3 p4 p5;rintro o ⟨F,inr⟩ Y ⟨rfl,q0,hY,p1,p4,p5,p10,p59,p60,i,v,cs,sv,hik,p61,p3,hg,hb,sY,hcl,hcs⟩;simp only at q0 p1 p3 p4 p5;subst q0;have hin:i=g.nodes.length:=by omega
 subst hin;clear p10 p59 p60 p61 hcs hcl hik sY;have nY:=hY.1;have gY:=(hY.2 _ (show S.nx<S4.nx by omega) (by omega)).trans g4;have mY:=(hY.2 _ (show S1.nx<S4.nx by omega) (by omega)).trans m4;have kY:=(hY.2 _ (show S2.nx<S4.nx by omega) (by omega)).trans k4;have sSY:Same S Y:=bJ.same s4' hY (by omega);have pm:=hnl;rw[show bG (oT (nF g g.nodes.length))=(nF g g.nodes.length).map kV from aC4 _,nJ] at hg;have vlt:∀c,aT v=some c→c<Y.nx:=fun c hc=>(hg.blk hc).2.1;clear hnm hnl g4 m4 k4 hY c4;have lagg:dB (.ptr S.nx 0) true 3 Y.h=some (.agg [.int .i64 g.players,nv,iv]):=lQ gY;refine cC ?_;simp only[↓aA,aB,rE,↓reduceIte,p1,lagg];refine aY ?_;try simp only[↓aA,aB,rE,↓reduceIte]
 refine aP (aEY H G (hv0.same sSY)) ?_;rintro _ Z ⟨⟨ob,rfl,o1,o2,o3⟩,hZ⟩;rw[xU] at *;try simp only[↓aA,aB,rE,↓reduceIte]
 refine cR ?_;intro Z1 z1 nZ1 cZ1;try simp only[↓aA,aB,rE,↓reduceIte]
 obtain⟨Z2,hZ2⟩:∃Z2:St,Z2=⟨Z1.h.set Z.nx (some (.cells [.sl ob 0 g.nodes.length g.nodes.length false] false 0)),Z1.nx⟩:=⟨_,rfl⟩;refine eR (v:=.undef) (S1:=Z2) (fun call=>by rw[dD,hZ2];simp only[↓aA,aB,rE,↓reduceIte];exact xW (cs:=[.nilsl]) (p:=0) cZ1 (by simp)) ?_;have z2:bJ Z.nx Z1 Z2:=by rw[hZ2];exact(bJ.refl _ _).put _
 have hZb:Z2.h.get Z.nx=some (.cells [.sl ob 0 g.nodes.length g.nodes.length false] false 0):=by rw[hZ2];simp only;rw[T.get_set,if_pos rfl]
 have nZ2:Z2.nx=Z1.nx:=by rw[hZ2]
 clear hZ2 cZ1 lagg;have nYZ:=hZ.1;have kkZ:∀c,c<Z.nx→Z2.h.get c=Z.h.get c:=fun c hc=>(z2.2 c (by omega) (by omega)).trans (z1.2 c hc);have kkY:∀c,c<Y.nx→Z2.h.get c=Y.h.get c:=fun c hc=>(kkZ c (by omega)).trans (hZ.2 c hc);have sYZ:Same Y Z2:=⟨by omega,kkY⟩;refine ac ?_;refine cC ?_;simp only[↓aA,aB,rE,↓reduceIte,p3,qK,mJ];refine aY ?_;try simp only[↓aA,aB,rE,↓reduceIte,p3]
 have hpos:0<(nF g g.nodes.length).length:=by
  have:0∈nF g g.nodes.length:=aAH.2 ⟨G.n1,tL.2 fun j hj=>by omega⟩;exact List.length_pos_of_mem this
 have hfl:=qA g g.nodes.length;refine aP (aPx H (xU g) (sSY.trans sYZ) (hg.step sYZ) hpos (fun q hq=>(aAH.1 hq).1) (aCM g _) (by omega) (by omega) (by omega) hZb ((kkZ _ o2).trans o3) (fun e=>by have:=vlt _ e;omega) (fun e=>by have:=vlt _ e;omega)) ?_;rintro _ W ⟨F',hp,hs,hg',nW,kW⟩;have hFl:F'.length=(nF g g.nodes.length).length:=hp.length_eq;have kkW:∀c,c<S4.nx→W.h.get c=Y.h.get c:=fun c hc=>(kW c (by omega) (fun e=>by have:=hb c e;omega)).trans (kkY c (by omega));have mW:=(kkW _ (show S1.nx<S4.nx by omega)).trans mY;have kWb:=(kkW _ (show S2.nx<S4.nx by omega)).trans kY;have sSW:Same S W:=⟨by have:=sSY.1;omega,fun c hc=>(kkW c (by have:=s4'.1;omega)).trans (sSY.2 c hc)⟩;have wlt:∀c,aT v=some c→c<W.nx:=fun c hc=>(hg'.blk hc).2.1;clear kkZ kkY kW hZb o3 hg sYZ;have hg2:gQ 1 S W v (oT F').length (bG (oT F')):=by rw[nJ,aC4];exact hg'
 have hnm:∀F:Fr,aD 84 F= .map S1.nx→iI (.lenMap (.t 84)) F W.h=some (.int .i64 ((l.length:Nat):Int)):=fun F u=>aBw (m:=.t 84) mW u;try simp only[↓aA,aB,rE,↓reduceIte]
 refine cC ?_;simp only[↓aA,aB,rE,↓reduceIte,p4,hnm];refine fX (pO (n:=l.length) (by simp only[↓aA,aB,rE,↓reduceIte,aH]) (by simp only[↓aA,aB,rE,↓reduceIte,aH]) (by unfold room;omega) (by unfold room;omega)) ?_;intro W1 w1 nW1 cW1;rw[xP] at cW1;try simp only[↓aA,aB,rE,↓reduceIte]
 have kW1:=(w1.2 _ (show S2.nx<W.nx by omega)).trans kWb;have isF:=hg2.is.same w1;have lnF:=isF.len;rw[nJ] at lnF;refine aC (bD (Q:=fun o A' V=>o= .normal∧NuK g K F' W1 S2.nx W.nx l.length v 0 A' V) (aC (aG ?_)) ?_)
 ·simp only[↓aA,aB,rE,↓reduceIte,p3,lnF];refine aN (bT (NuK g K F' W1 S2.nx W.nx l.length v) ?_ F'.length _ _ ⟨rfl,bJ.refl _ _,ag p3,ag p5,ae,ae,ae,0,_,by omega,ae,Bg ..,cW1,fun p q h=>by omega⟩);clear p1 p3 p4 p5;rintro k ⟨F,inr⟩ V ⟨q0,hV,p3,p5,p14,p87,p88,i,N,hik,p89,hNl,nV,hI⟩;simp only at q0 p3 p5 p14 p87 p88 p89;subst q0;refine cC ?_;simp only[↓aA,aB,rE,↓reduceIte,p88,p89,zV];by_cases hlt:i<F'.length;rotate_left
  ·refine aC (aO (by simp only[↓aA,aB,rE,↓reduceIte,Aa hlt]) (bK ?_));have hk:k=0:=by omega
   subst hk;exact⟨rfl,rfl,hV,ag p3,ag p5,ag p14,ag p87,ag p88,i,N,hik,ag p89,hNl,nV,hI⟩
  refine aC (aR (by simp only[↓aA,aB,rE,↓reduceIte,Ad hlt]) (aM ?_));try simp only[↓aA,aB,rE,↓reduceIte]
  obtain⟨q,hq⟩:∃q,F'[i]? =some q:=⟨_,Ab hlt⟩;obtain⟨q1,q2⟩:=aCZ hp hq;obtain⟨u,u1,u2⟩:=aAI hS q1;have isV:cD .i64 V v (oT F'):=eY isF hV.1 fun c hc=>hV.2 c (by have:=wlt c hc;omega) (by have:=wlt c hc;omega);have ia:=isV.iaddr (show i<(oT F').length by rw[nJ];exact hlt);have la:=isV.ld (show i<(oT F').length by rw[nJ];exact hlt);rw[aHv hq] at la;have kV:=(hV.2 _ (show S2.nx<W1.nx by omega) (by omega)).trans kW1;have iq:=iN (b:=S2.nx) (o:=false) q1;have lq:=aD8 kV (show q<K.length by rw[hS.ok.1];exact q1);have iu:=iN (b:=W.nx) (o:=false) u2;have hst:=aMO hK hS hp hNl hq hI;rw[u1] at lq hst;rw[Cj] at hst;refine aC (aN (aC (aG ?_)));simp only[↓aA,aB,rE,↓reduceIte,p87,p89,aH,ia,la];refine aG ?_;simp only[↓aA,aB,rE,↓reduceIte,p5,p14,aH,iq,lq,iu];refine eR (fun call=>by simp only[↓aA,aB,rE,↓reduceIte,dD,cQ];exact aCg (S:=V) nV (by rw[hNl];exact u2)) ?_;refine ac ?_;refine aG ?_;simp only[↓aA,aB,rE,↓reduceIte,p89,fA (a:=i) (by omega)];exact⟨k - 1,by omega,rfl,hV.put _,ag p3,ag p5,ag p14,ag p87,ag p88,i+1,N.set u (i:Int),by omega,ae,by rw[Bm];exact hNl,by simp only;rw[T.get_set,if_pos rfl],hst⟩
 clear p1 p3 p4 p5;rintro o ⟨F,inr⟩ V ⟨rfl,q0,hV,p3,p5,p14,p87,p88,i,N,hik,p89,hNl,nV,hI⟩;simp only at q0 p3 p5 p14;subst q0;have hin:i=F'.length:=by omega
 subst hin;clear p87 p88 p89 hik;have kV:=(hV.2 _ (show S2.nx<W1.nx by omega) (by omega)).trans kW1;have isV:cD .i64 V v (oT F'):=eY isF hV.1 fun c hc=>hV.2 c (by have:=wlt c hc;omega) (by have:=wlt c hc;omega);have sSV:Same S V:=bJ.same (sSW.trans w1) hV (by have:=s4'.1;omega);have nWV:=hV.1;try simp only[↓aA,aB,rE,↓reduceIte]
 refine cC ?_;simp only[↓aA,aB,rE,↓reduceIte,p5,aIb];refine fX (pO (n:=g.nodes.length) (by simp only[↓aA,aB,rE,↓reduceIte,aH]) (by simp only[↓aA,aB,rE,↓reduceIte,aH]) (by unfold room;omega) (by unfold room;omega)) ?_;intro V1 v1 nV1 cV1;rw[xP] at cV1;try simp only[↓aA,aB,rE,↓reduceIte]
 have kV1:=(v1.2 _ (show S2.nx<V.nx by omega)).trans kV;have nV1b:=(v1.2 _ (show W.nx<V.nx by omega)).trans nV;refine aC (bD (Q:=fun o A' U=>o= .normal∧CaK g K N V1 S2.nx W.nx V.nx l.length v 0 A' U) (aC (aG ?_)) ?_)
 ·simp only[↓aA,aB,rE,↓reduceIte,p5,aIb];refine aN (bT (CaK g K N V1 S2.nx W.nx V.nx l.length v) ?_ g.nodes.length _ _ ⟨rfl,bJ.refl _ _,ag p3,ae,ag p14,ae,ae,0,_,by omega,ae,Bg ..,cV1,fun j h=>by omega⟩);clear p3 p5 p14;rintro k ⟨F,inr⟩ U ⟨q0,hU,p3,p2,p14,p105,p106,i,C,hik,p107,hCl,cU,hC⟩;simp only at q0 p3 p2 p14 p105 p106 p107;subst q0;refine cC ?_;simp only[↓aA,aB,rE,↓reduceIte,p106,p107,zV];by_cases hlt:i<g.nodes.length;rotate_left
  ·refine aC (aO (by simp only[↓aA,aB,rE,↓reduceIte,Aa hlt]) (bK ?_));have hk:k=0:=by omega
   subst hk;exact⟨rfl,rfl,hU,ag p3,ag p2,ag p14,ag p105,ag p106,i,C,hik,ag p107,hCl,cU,hC⟩
  refine aC (aR (by simp only[↓aA,aB,rE,↓reduceIte,Ad hlt]) (aM ?_));try simp only[↓aA,aB,rE,↓reduceIte]
  obtain⟨u,u1,u2⟩:=aAI hS hlt;have kU:=(hU.2 _ (show S2.nx<V1.nx by omega) (by omega)).trans kV1;have nU:=(hU.2 _ (show W.nx<V1.nx by omega) (by omega)).trans nV1b;have ia:=iN (b:=S2.nx) (o:=false) hlt;have la:=aD8 kU (show i<K.length by rw[hS.ok.1];exact hlt);rw[u1] at la;have iu:=iN (b:=W.nx) (o:=false) u2;have lu:=aD8 nU (show u<N.length by rw[hNl];exact u2);have ic:=iN (b:=V.nx) (o:=false) hlt;refine aC (aN (aC (aG ?_)));simp only[↓aA,aB,rE,↓reduceIte,p105,p107,aH,ia,la];refine aG ?_;simp only[↓aA,aB,rE,↓reduceIte,p2,p14,aH,iu,lu,ic];refine eR (fun call=>by simp only[↓aA,aB,rE,↓reduceIte,dD,cQ];exact aCg (S:=U) cU (by rw[hCl];exact hlt)) ?_;refine ac ?_;refine aG ?_;simp only[↓aA,aB,rE,↓reduceIte,p107,fA (a:=i) (by omega)];refine⟨k - 1,by omega,rfl,hU.put _,ag p3,ag p2,ag p14,ag p105,ag p106,i+1,C.set i (N.getD u 0),by omega,ae,by rw[Bm];exact hCl,by simp only;rw[T.get_set,if_pos rfl],fun j hj=>?_⟩;rw[fH (by rw[hCl];exact hlt)];by_cases e:j=i
  ·rw[if_pos e,e,u1,Cj]
  ·rw[if_neg e];exact hC j (by omega)
 clear p3 p5 p14;rintro o ⟨F,inr⟩ U ⟨rfl,q0,hU,p3,p2,p14,p105,p106,i,C,hik,p107,hCl,cU,hC⟩;simp only at q0 p3 p2;subst q0;have hin:i=g.nodes.length:=by omega
 subst hin;have nU:=hU.1;have isU:cD .i64 U v (oT F'):=eY isV (by omega) fun c hc=>by
  have:=wlt c hc;exact(hU.2 c (by omega) (by omega)).trans (v1.2 c (by omega))
 try simp only[↓aA,aB,rE,↓reduceIte]
 refine cC ?_;simp only[↓aA,aB,rE,↓reduceIte,p2,p3];refine aU ?_;simp only[↓aA,aB,rE,↓reduceIte];exact⟨_,_,F',C,rfl,bJ.same (sSV.trans v1) hU sSV.1,aPs hK hS hp hs hI hCl hC,mG cU (by omega) hCl,isU⟩
end Go.Ev.Gl
namespace Go.Ev.Gl
open Go.Sort
variable {fns:T cV}
end Go.Ev.Gl
namespace Go.Ev.Gl
open Go.Sort
variable {fns:T cV}
end Go.Ev.Gl
namespace Go.Ev.Gl
open Go.Sort
variable {fns:T cV}
end Go.Ev.Gl
namespace Go.Ev.Gl
open Go.Sort
variable {fns:T cV}
def lK(g:bH)(C:List Int)(q:Nat):bU:={nodeAt g q with next:=(nodeAt g q).next.map fun c=>C.getD c.toNat 0}
def hJ(g:bH)(F:List Nat)(C:List Int):bH:=⟨g.players,F.map (lK g C),g.infos⟩
theorem wO{g:bH}(h:iH g=0):∀i,i<g.nodes.length→aON (nodeAt g i)∧(nodeAt g i).weights.length≤1000:=by
 have G:=aGd h;have hN:=G.good.n2;have hI:=G.good.ni;have hp:=G.prs;unfold iH at h;split at h
 ·cases h
 split at h
 ·rename_i h1;exact absurd h h1
 rename_i hE;have hE:=Decidable.not_not.1 hE;intro i hi;have hx:iV g.players g.infos.length (nodeAt g i)=0:=kG hE _ (Aq (dI hi));have hk:=G.knd i hi;have hnx:=G.good.nxt i hi;generalize nodeAt g i=x at *;have any:∀ {lo hi:Int} {l:List Int},¬jI lo hi l→∀w∈l,lo≤w∧w≤hi:=fun {lo hi l} ha w hw=>by
  have:¬ (w<lo∨hi<w):=fun h=>ha ⟨w,hw,h⟩;omega
 have nil:∀ {l:List Int},¬ (0:Int)<((l.length:Nat):Int)→l= []:=fun {l} h=>Cf.1 (by omega);unfold iV at hx;split at hx
 ·rename_i k1;split at hx
  ·cases hx
  rename_i hb;split at hx
  ·cases hx
  rename_i ha;unfold tH at hb;have e1:x.pay= []:=nil (by omega);refine⟨⟨by unfold Rng;omega,by unfold Rng;omega,by unfold Rng;omega,fun w hw=>by have:=any ha w hw;unfold Rng;omega,(fun w hw=>by rw[e1] at hw;cases hw)⟩,by omega⟩
 split at hx
 ·rename_i k2;split at hx
  ·cases hx
  rename_i hb;split at hx
  ·cases hx
  unfold xY at hb;have e1:x.pay= []:=nil (by omega);have e2:x.weights= []:=nil (by omega);refine⟨⟨by unfold Rng;omega,by unfold Rng;omega,by unfold Rng;omega,(fun w hw=>by rw[e2] at hw;cases hw),(fun w hw=>by rw[e1] at hw;cases hw)⟩,by rw[e2];simp⟩
 split at hx
 ·rename_i k3;split at hx
  ·cases hx
  rename_i hb;split at hx
  ·cases hx
  rename_i ha;unfold uU at hb;have e2:x.weights= []:=nil (by omega);refine⟨⟨by unfold Rng;omega,by unfold Rng;omega,by unfold Rng;omega,(fun w hw=>by rw[e2] at hw;cases hw),fun w hw=>by have:=any ha w hw;unfold Rng;omega⟩,by rw[e2];simp⟩
 ·cases hx
theorem aJh{k:Nat}{α:Type}{E:St→List AV→α→Prop}{S:St}{l:List α}(h:bB k E S .nilsl l):l= []:=by
 rcases h with⟨h,_⟩ | ⟨b,off,cap,o,cs,h,_⟩
 ·exact h
 ·cases h
theorem aK9{k:Nat}{α:Type}{E:St→List AV→α→Prop}{S:St}{v:AV}{l:List α}(h:bB k E S v l)(hv:v≠ .nilsl):eJ .eql (.p .slice) v .nilsl=some (.bool false):=by
 rcases h with⟨_,rfl | rfl⟩ | ⟨b,off,cap,o,cs,rfl,_⟩
 ·exact absurd rfl hv
 ·rfl
 ·rfl
theorem qY{S:St}{v:AV}{l:List Int}(H:Has fns)(h:cD .i64 S v l)(hl:l.length≤10000000):fR fns (.fn 40 [] []) [v] S fun r X=>cD .i64 X r l∧Same S X∧(∀c,aT r=some c→S.nx≤c)∧∀c,aT r=some c→Wr X c:=by
 refine cE H.f40 (by simp) ?_;refine am ?_;refine cC ?_;simp only[↓sU,sD,rE,↓reduceIte,rA];by_cases hv:v= .nilsl
 ·subst hv;have hl0:=aJh (toG h);subst hl0;have he:eJ .eql (.p .slice) .nilsl .nilsl=some (.bool true):=rfl;refine iP ?_;simp only[↓sU,sD,rE,↓reduceIte,rA,he];refine aR (aq) (aC (aG ?_));refine am ?_;refine aU ?_;simp only[↓sU,sD,rE,↓reduceIte,rA];exact⟨.inl ⟨rfl,.inl rfl⟩,Same.refl S,fun c hc=>(by cases hc),fun c hc=>(by cases hc)⟩
 ·have he:=aK9 (toG h) hv;refine iP ?_;simp only[↓sU,sD,rE,↓reduceIte,rA,he];refine aO (aq) (aM ?_);try simp only[↓sU,sD,rE,↓reduceIte,rA]
  refine cC ?_;refine fX aAE ?_;intro S1 s1 n1 g1;simp only[↓aA,aB,rE,↓reduceIte,rA];obtain⟨r,S2,e,hr,s2,kr,wr⟩:=aIL (bytes:=8) (E:=aOT) (l:=l) aKB Nat.one_pos g1 (by omega) (toG (h.same s1)) (by unfold room;omega) (by unfold room;omega);refine eR (fun call=>by simp only[↓aA,aB,rE,↓reduceIte,rA,fJ];exact e) ?_;refine ah ?_;refine aU ?_;simp only[↓aA,aB,rE,↓reduceIte,rA];exact⟨ofG hr,s1.trans s2,fun c hc=>by rcases kr c hc with h | h<;>omega,wr⟩
theorem aBI{S:St}{v:AV}{l:List mT}(H:Has fns)(h:bB 2 fP S v l)(hl:l.length * 16≤140737488355328):fR fns (.fn 49 [] []) [v] S fun r X=>bB 2 fP X r l∧Same S X∧∀c,aT r=some c→S.nx≤c:=by
 refine cE H.f49 (by simp) ?_;refine am ?_;refine cC ?_;simp only[↓sU,sD,rE,↓reduceIte,rA];by_cases hv:v= .nilsl
 ·subst hv;have hl0:=aJh h;subst hl0;have he:eJ .eql (.p .slice) .nilsl .nilsl=some (.bool true):=rfl;refine iP ?_;simp only[↓sU,sD,rE,↓reduceIte,rA,he];refine aR (aq) (aC (aG ?_));refine am ?_;refine aU ?_;simp only[↓sU,sD,rE,↓reduceIte,rA];exact⟨.inl ⟨rfl,.inl rfl⟩,Same.refl S,fun c hc=>(by cases hc)⟩
 ·have he:=aK9 h hv;refine iP ?_;simp only[↓sU,sD,rE,↓reduceIte,rA,he];refine aO (aq) (aM ?_);try simp only[↓sU,sD,rE,↓reduceIte,rA]
  refine cC ?_;refine fX aAE ?_;intro S1 s1 n1 g1;simp only[↓aA,aB,rE,↓reduceIte,rA];obtain⟨r,S2,e,hr,s2,kr⟩:=aPl (k:=2) (bytes:=16) (E:=fP) (l:=l) fO (by decide) g1 (by omega) (bB.same (E:=fP) fO h s1) (by unfold room;omega) (by unfold room;omega);refine eR (fun call=>by simp only[↓aA,aB,rE,↓reduceIte,rA,fJ];exact e) ?_;refine ah ?_;refine aU ?_;simp only[↓aA,aB,rE,↓reduceIte,rA];exact⟨hr,s1.trans s2,fun c hc=>by rcases kr c hc with h | h<;>omega⟩
end Go.Ev.Gl
namespace Go.Ev.Gl
open Go.Sort
variable {fns:T cV}
theorem aNE{W:St}{F:Fr}{inr:Bool}{nb:Nat}{k p f:AV}{xa xw xp:AV}{l2 l3:List Int}{Q:Out→bQ→St→Prop}(H:Has fns)(p8:aD 8 F= .ptr nb 0)(hb:W.h.get nb=some (.cells [k,p,f,xa,xw,xp] false 0))(lb:nb<W.nx)(h2:cD .i64 W xw l2)(h3:cD .i64 W xp l3)(b2:l2.length≤10000000)(b3:l3.length≤10000000)
  (hQ:∀F' Z r2 r3,(∀j,j<33→aD j F'=aD j F)→bJ nb W Z→Z.h.get nb=some (.cells [k,p,f,.nilsl,r2,r3] false 0)→cD .i64 Z r2 l2→cD .i64 Z r3 l3→(∀c,(aT r2=some c∨aT r3=some c)→W.nx≤c)→(∀c,(aT r2=some c∨aT r3=some c)→Wr Z c)→Q .normal ⟨F',inr⟩ Z):lJ fns (.drw aNH) ⟨F,inr⟩ W Q:=by
 have s2:=cD.self h2;have s3:=cD.self h3;refine aC6 (W:=fun _=>False) (R:=fun F' X' ps=>ps= []∧Same W X'∧(∀j,j<33→aD j F'=aD j F)∧aD 39 F'= .ptr nb (0+4)∧cD .i64 X' (aD 35 F') l2∧cD .i64 X' (aD 38 F') l3∧(∀c,(aT (aD 35 F')=some c∨aT (aD 38 F')=some c)→W.nx≤c)∧(∀c,(aT (aD 35 F')=some c∨aT (aD 38 F')=some c)→Wr X' c)) 7 rfl (by decide) ?_ ?_
 ·intro S1 x1 hS1 nS1;unfold aNH;simp only[Bk,Bu];simp only[↓sU,sD,rE,↓reduceIte,rA,p8,aE,aW,aF,iD hb,lb,Ay,s2];refine cP rfl ?_;refine am ?_;refine aP (qY H (h2.same x1) b2) ?_;rintro r2 Y ⟨i2,y,k2,w2⟩;refine⟨y,?_⟩;try simp only[↓sU,sD,rE,↓reduceIte,rA,p8,aE,aW,aF,jJ hb,lb,Ay,s3]
  refine cP rfl ?_;refine am ?_;refine aP (qY H (h3.same (x1.trans y)) b3) ?_;rintro r3 Z ⟨i3,z,k3,w3⟩;refine⟨z,?_⟩;have n1:=x1.1;have n2:=y.1;try simp only[↓sU,sD,rE,↓reduceIte,rA,p8,aE,aW,aF]
  refine⟨x1.trans (y.trans z),fun j hj=>?_,i2.same z,i3,fun c hc=>?_,fun c hc=>?_⟩
  ·simp only[bS,show ¬j=33 by omega,show ¬j=34 by omega,show ¬j=35 by omega,show ¬j=36 by omega,show ¬j=37 by omega,show ¬j=38 by omega,show ¬j=39 by omega,Cr]
  ·rcases hc with hc | hc
   ·have:=k2 c hc;omega
   ·have:=k3 c hc;omega
  ·rcases hc with hc | hc
   ·exact(w2 c hc).eq (z.2 c (dG i2 hc))
   ·exact w3 c hc
 rintro F' S' ps hs ls ⟨rfl,sZ,hk,p39,i2,i3,hbk,hwr⟩ hlast hld;have p8':aD 8 F'= .ptr nb 0:=(hk 8 (by omega)).trans p8;have hb':=(sZ.2 _ lb).trans hb;generalize hr2:aD 35 F'=r2 at i2 hbk hwr;generalize hr3:aD 38 F'=r3 at i3 hbk hwr;have m1:∀i,i<7→Nat.testBit 127 i=true:=by decide
 unfold aNH;simp only[List.drop_succ_cons,Ct];refine jR (v:=.undef) (S1:=⟨S'.h.set nb (some (.cells [k,p,f,xa,r2,xp] false 0)),S'.nx⟩) (hlast _ m1) (fun call=>?_) ?_
 ·rw[dD];simp only[fW,p39,hr2,cB,cD.cells i2,aK];exact xW (S:=S') hb' (by simp)
 simp only[nB,dV,aE,aF,aW,aQ,fW,cB,dR,bS,p8',rE,↓reduceIte,rA];refine jR (v:=.undef) (S1:=⟨(S'.h.set nb (some (.cells [k,p,f,xa,r2,xp] false 0))).set nb (some (.cells [k,p,f,xa,r2,r3] false 0)),S'.nx⟩) (show Nat.testBit 511 7=true by decide) (fun call=>?_) ?_
 ·rw[dD];simp only[fW,bS,rE,↓reduceIte,hr3,cB,cD.cells i3,aK];exact xW (cs:=[k,p,f,xa,r2,xp]) (p:=5) (S:=⟨S'.h.set nb (some (.cells [k,p,f,xa,r2,xp] false 0)),S'.nx⟩) (by simp only;rw[T.get_set,if_pos rfl]) (by simp)
 simp only[nB,dV,aE,aF,aW,aQ,fW,cB,dR,bS,p8',rE,↓reduceIte,rA];refine jR (v:=.undef) (S1:=⟨((S'.h.set nb (some (.cells [k,p,f,xa,r2,xp] false 0))).set nb (some (.cells [k,p,f,xa,r2,r3] false 0))).set nb (some (.cells [k,p,f,.nilsl,r2,r3] false 0)),S'.nx⟩) (show Nat.testBit 2047 9=true by decide) (fun call=>?_) ?_
 ·rw[dD];simp only[fW,aEA,bS,rE,↓reduceIte,cB];exact xW (cs:=[k,p,f,xa,r2,r3]) (p:=3) (w:=.nilsl) (S:=⟨(S'.h.set nb (some (.cells [k,p,f,xa,r2,xp] false 0))).set nb (some (.cells [k,p,f,xa,r2,r3] false 0)),S'.nx⟩) (by simp only;rw[T.get_set,if_pos rfl]) (by simp)
 rw[iL];refine⟨?_,?_⟩
 ·simp only[Cn,Ba,Co,Bl,Bh];exact hld _ _ _ m1
 ·simp only[cB,dR];have hne:∀ {v:AV} {l:List Int},cD .i64 S' v l→(∀c,aT v=some c→W.nx≤c)→cD .i64 ⟨((S'.h.set nb (some (.cells [k,p,f,xa,r2,xp] false 0))).set nb (some (.cells [k,p,f,xa,r2,r3] false 0))).set nb (some (.cells [k,p,f,.nilsl,r2,r3] false 0)),S'.nx⟩ v l:=fun {v l} h hc=>eY h (Ag _) fun c hcc=>by
   have:=hc c hcc;simp only;rw[T.get_set,if_neg (by omega),T.get_set,if_neg (by omega),T.get_set,if_neg (by omega)]
  refine hQ _ _ r2 r3 (fun j hj=>?_) ⟨sZ.1,fun c hc hn=>?_⟩ (by simp only;rw[T.get_set,if_pos rfl]) (hne i2 fun c hc=>hbk c (.inl hc)) (hne i3 fun c hc=>hbk c (.inr hc)) hbk (fun c hc=>(hwr c hc).eq (by have:=hbk c hc;simp only;rw[T.get_set,if_neg (by omega),T.get_set,if_neg (by omega),T.get_set,if_neg (by omega)]))
  ·rw[bS,if_neg (by omega),bS,if_neg (by omega)];exact hk j hj
  ·simp only;rw[T.get_set,if_neg hn,T.get_set,if_neg hn,T.get_set,if_neg hn];exact sZ.2 c hc
theorem aOG{S0 S:St}{F:Fr}{inr:Bool}{nb:Nat}{k p f:AV}{a xw xp cv:AV}{l C:List Int}{c:Int}{Q:Out→bQ→St→Prop}(p8:aD 8 F= .ptr nb 0)(p3:aD 3 F=cv)(p10:aD 10 F= .int .i64 c)(hb:S.h.get nb=some (.cells [k,p,f,a,xw,xp] false 0))(lb:nb<S.nx)(hC:cD .i64 S cv C)(h0:0≤c)(h1:c.toNat<C.length)(ha:gQ 1 S0 S a l.length (bG l))(hS:Same S0 S)(ne:aT a≠some nb)(neC:∀b,aT cv=some b→aT a≠some b)(hl:l.length≤100000)
  (hQ:∀F' Z a',(∀j,j<53→aD j F'=aD j F)→S.nx≤Z.nx→Z.h.get nb=some (.cells [k,p,f,a',xw,xp] false 0)→gQ 1 S0 Z a' (l++ [C.getD c.toNat 0]).length (bG (l++ [C.getD c.toNat 0]))→(∀b,aT a'=some b→S.nx≤b)→(∀b,b<S.nx→b≠nb→aT a≠some b→Z.h.get b=S.h.get b)→Q .normal ⟨F',inr⟩ Z):lJ fns (.drw aN7) ⟨F,inr⟩ S Q:=by
 have sa:=ha.self;have sC:=cD.self hC;have ic:=hC.iaddr h1;have lc:=hC.ld h1;have hnc:=oZ .i64 h0;have oldC:aJY (fun b=>aT a=some b) S.nx (aBM cv c.toNat):=by
  rcases hC with⟨e,_⟩ | ⟨b,off,cap,o,cs,rfl,_,hlt,_⟩
  ·rw[e] at h1;simp at h1
  ·exact⟨_,_,rfl,hlt,neC b rfl⟩
 refine aC6 (W:=fun b=>aT a=some b) (R:=fun F' X' ps=>ps= []∧S.nx≤X'.nx∧(∀j,j<53→aD j F'=aD j F)∧aD 61 F'= .ptr nb (0+3)∧gQ 1 S0 X' (aD 60 F') (l++ [C.getD c.toNat 0]).length (bG (l++ [C.getD c.toNat 0]))∧(∀b,aT (aD 60 F')=some b→S.nx≤b)∧∀b,b<S.nx→aT a≠some b→X'.h.get b=S.h.get b) 9 rfl (by decide) ?_ ?_
 ·intro S1 x1 hS1 nS1;unfold aN7;simp only[Bk,Bu];simp only[↓sU,sD,rE,↓reduceIte,rA,p8,p3,p10,aE,aW,aF,gE hb,lb,ne,Ay,sa,sC,hnc,ic,lc];refine⟨oldC,?_⟩;rw[kQ (k:=.i64) (n:=C.getD c.toNat 0) (aq),mE];have nS1:S1.nx=S.nx+10:=nS1;obtain⟨U,hU⟩:∃U:St,U=⟨S1.h.set (S.nx+6) (some (.cells [.int .i64 (C.getD c.toNat 0)] false 0)),S1.nx⟩:=⟨_,rfl⟩;have sQU:Same S U:=by rw[hU];exact⟨x1.1,fun b hbb=>by simp only;rw[T.get_set,if_neg (by omega)];exact x1.2 b hbb⟩
  have gU:U.h.get (S.nx+6)=some (.cells [.int .i64 (C.getD c.toNat 0)] false 0):=by rw[hU];simp only;rw[T.get_set,if_pos rfl]
  have nU:U.nx=S.nx+10:=by rw[hU];exact nS1
  obtain⟨a',V,e1,g1,e2,e3,e4⟩:=gQ.push (bytes:=8) (ha.step sQU) (hS.trans sQU) gU (by unfold room;omega) (by unfold room;omega);refine am ?_;refine aHf rfl (by rw[dS rfl];simp only[↓sU,sD,rE,↓reduceIte,rA];rw[←hU];exact e1) ?_ ?_
  ·rw[dS rfl,←hU];exact⟨by show U.nx≤V.nx;omega,fun b hbb hw=>e4 b (by omega) hw⟩
  rw[dS rfl];simp only[↓sU,sD,rE,↓reduceIte,rA,p8,aE,aW,aF];refine⟨by omega,fun j hj=>?_,g1,fun b hbb=>by rw[e2] at hbb;cases hbb;omega,fun b hbb hw=>(e4 b (by omega) hw).trans (sQU.2 b hbb)⟩;simp only[bS,show ¬j=53 by omega,show ¬j=54 by omega,show ¬j=55 by omega,show ¬j=56 by omega,show ¬j=57 by omega,show ¬j=58 by omega,show ¬j=59 by omega,show ¬j=60 by omega,show ¬j=61 by omega,Cr]
 rintro F' S' ps hs ls ⟨rfl,nZ,hk,p61,g1,hbk,hR⟩ hlast hld;have hb':=(hR _ lb ne).trans hb;generalize hr:aD 60 F'=a' at g1 hbk;have m1:∀i,i<9→Nat.testBit 511 i=true:=by decide
 unfold aN7;simp only[List.drop_succ_cons,Ct];refine jR (v:=.undef) (S1:=⟨S'.h.set nb (some (.cells [k,p,f,a',xw,xp] false 0)),S'.nx⟩) (hlast _ m1) (fun call=>?_) ?_
 ·rw[dD];simp only[fW,p61,hr,cB,g1.cells,aK];exact xW (S:=S') hb' (by simp)
 rw[iL];refine⟨?_,?_⟩
 ·simp only[Cn,Ba,Co,Bl,Bh];exact hld _ _ _ m1
 ·simp only[cB,dR];refine hQ _ _ a' hk nZ (by simp only;rw[T.get_set,if_pos rfl]) (g1.move (Ag _) fun b hbb=>by
   have:=hbk b hbb;simp only;rw[T.get_set,if_neg (by omega)]) hbk fun b h2 h3 h4=>?_
  simp only;rw[T.get_set,if_neg h3];exact hR b h2 h4
end Go.Ev.Gl
