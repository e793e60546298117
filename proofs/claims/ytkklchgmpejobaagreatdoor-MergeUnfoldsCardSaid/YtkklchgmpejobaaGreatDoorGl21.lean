import Derived.Test.YtkklchgmpejobaaGreatDoorGl20
open Nat renaming reduceEqDiff → rE, reduceAdd → rA
set_option maxHeartbeats 16000000
set_option linter.unusedSimpArgs false
set_option linter.unusedVariables false
namespace Go.Ev.Gl
open Go.Sort
variable {fns:T cW}
theorem aMe{e:oZ}{m k v:cF}{c:eR}{F:Fr}{S:St}:evX (.mapUpd e m k v) c F S=vI (m.val F) e (k.val F) (v.val F) S:=rfl
def ClK(g:bC)(S S3:St)(gb mp kb:Nat)(nv iv:AV)(k:Nat)(A:bH)(X:St):Prop:=A.inr=false∧Same S X∧S3.nx≤X.nx∧X.h.get gb=some (.cells [.int .i64 g.players,nv,iv] false 0)∧aH 1 A.F= .ptr gb 0∧aH 3 A.F= .nilsl∧aH 4 A.F= .map mp∧aH 5 A.F= .sl kb 0 g.nodes.length g.nodes.length false∧aH 6 A.F= .int .i64 ((k:Int) - 1)∧k≤g.nodes.length∧∃ (K:List Int) (l:List (List Nat×Nat)),aCG g k K l∧X.h.get mp=some (.map (aCD l))∧X.h.get kb=some (.cells (bF K) false 0)
def SeK(g:bC)(K:List Int)(S S4:St)(gb mp kb sb m:Nat)(k:Nat)(A:bH)(X:St):Prop:=A.inr=false∧bB sb S4 X∧aH 1 A.F= .ptr gb 0∧aH 4 A.F= .map mp∧aH 5 A.F= .sl kb 0 g.nodes.length g.nodes.length false∧aH 10 A.F= .sl sb 0 m m false∧aH 59 A.F= .sl kb 0 g.nodes.length g.nodes.length false∧aH 60 A.F= .int .i64 ((g.nodes.length:Nat):Int)∧∃ (i:Nat) (v:AV) (cs:List AV) (sv:Nat→Bool),i+k=g.nodes.length∧aH 61 A.F= .int .i64 (i:Int)∧aH 3 A.F=v∧iD 1 S X v (gR (nQ g i)).length (bF (gR (nQ g i)))∧(∀c,aX v=some c→S4.nx≤c)∧X.h.get sb=some (.cells cs false 0)∧cs.length=m∧∀u,u<m→cs[u]? =some (.bool (sv u))∧(sv u=true↔∃j,j<i∧K.getD j 0=(u:Int))
def NuK(g:bC)(K:List Int)(F:List Nat)(S4:St)(kb nb m:Nat)(v:AV)(k:Nat)(A:bH)(X:St):Prop:=A.inr=false∧bB nb S4 X∧aH 3 A.F=v∧aH 5 A.F= .sl kb 0 g.nodes.length g.nodes.length false∧aH 14 A.F= .sl nb 0 m m false∧aH 87 A.F=v∧aH 88 A.F= .int .i64 ((F.length:Nat):Int)∧∃ (i:Nat) (N:List Int),i+k=F.length∧aH 89 A.F= .int .i64 (i:Int)∧N.length=m∧X.h.get nb=some (.cells (bF N) false 0)∧∀p q,p<i→F[p]? =some q→N.getD (K.getD q 0).toNat 0=(p:Int)
def CaK(g:bC)(K N:List Int)(S4:St)(kb nb cb m:Nat)(v:AV)(k:Nat)(A:bH)(X:St):Prop:=A.inr=false∧bB cb S4 X∧aH 3 A.F=v∧aH 2 A.F= .sl cb 0 g.nodes.length g.nodes.length false∧aH 14 A.F= .sl nb 0 m m false∧aH 105 A.F= .sl kb 0 g.nodes.length g.nodes.length false∧aH 106 A.F= .int .i64 ((g.nodes.length:Nat):Int)∧∃ (i:Nat) (C:List Int),i+k=g.nodes.length∧aH 107 A.F= .int .i64 (i:Int)∧C.length=g.nodes.length∧X.h.get cb=some (.cells (bF C) false 0)∧∀j,j<i→C.getD j 0=N.getD (K.getD j 0).toNat 0
theorem aIt{b n c:Nat}{o:Bool}:kJ (.sl b 0 n c o)=some (.int .i64 (n:Int)):=rfl
theorem aFx{S:St}{v:AV}{g:bC}(H:Has fns)(G:vN g)(hL:jH S)(hf:∀i,i<g.nodes.length→aMy (nodeAt g i))(hw:∀i,i<g.nodes.length→(nodeAt g i).weights.length≤1000)(hv:gE S v g):fB fns (.fn 42 [] []) [v] S fun r X=>∃a b F C,r= .tup [a,b]∧Same S X∧xC g (htL g) F C∧bI .i64 X a C∧bI .i64 X b (gR F):=by
 have hK:=iL G;have hN:=G.n2;have hv0:=hv;obtain⟨nv,iv,rfl,hn,hi⟩:=hv;refine bN H.f42 (by simp) ?_;simp only[↓aB,aA,rE,↓reduceIte,rA];refine bL ?_;refine cL (by simp only[↓aB,aA,rE,↓reduceIte];exact bE _) ?_;intro S1 s1 n1 c1;simp only[↓aB,aA,rE,↓reduceIte];refine bL ?_;refine fE aMV ?_;intro S2 s2 n2 c2;simp only[↓aB,aA,rE,↓reduceIte];have hnl:=aQ.len hn;have c1':=(s2.2 _ (show S.nx<S1.nx by omega)).trans c1;refine bL ?_;simp only[↓aB,aA,rE,↓reduceIte,aE,aD,cN c1',aQ.self hn,hnl];refine fE (jU (n:=g.nodes.length) (by simp only[↓aB,aA,rE,↓reduceIte,aG]) (by simp only[↓aB,aA,rE,↓reduceIte,aG]) (by unfold room;omega) (by unfold room;omega)) ?_;intro S3 s3 n3 c3;rw[nI] at c3;try simp only[↓aB,aA,rE,↓reduceIte]
 have g3:=(s3.2 _ (show S.nx<S2.nx by omega)).trans c1';have m3:S3.h.get S1.nx=some (.map []):=(s3.2 _ (by omega)).trans c2;have s03:=s1.trans (s2.trans s3);refine aC (aT (Q:=fun o A' X=>o= .normal∧ClK g S S3 S.nx S1.nx S2.nx nv iv 0 A' X) (aC (aF ?_)) ?_)
 ·have w0:IntKind.i64.wrap (((g.nodes.length:Nat):Int) - 1)=((g.nodes.length:Nat):Int) - 1:=wrap_i64 (by omega) (by omega);simp only[↓aB,aA,rE,↓reduceIte,aE,aD,cN g3,aQ.self hn,hnl,Ai,w0];refine aK (bG (ClK g S S3 S.nx S1.nx S2.nx nv iv) ?_ g.nodes.length _ _ ⟨rfl,s03,Ah _,g3,by simp only[↓aB,aA,rE,↓reduceIte],by simp only[↓aB,aA,rE,↓reduceIte],by simp only[↓aB,aA,rE,↓reduceIte],by simp only[↓aB,aA,rE,↓reduceIte],by simp only[↓aB,aA,rE,↓reduceIte],Ah _,_,[],⟨⟨Az ..,fun a b ha _ h _=>by omega⟩,fun a h1 h2=>by omega,fun i hi=>by simp at hi,by simp⟩,m3,c3⟩);rintro k ⟨F,inr⟩ X ⟨q0,sX,nX,gX,p1,p3,p4,p5,p6,hk,K,l,hS,mX,kX⟩;simp only at q0 p1 p3 p4 p5 p6;subst q0;refine fY ?_;simp only[↓aB,aA,rE,↓reduceIte,p6];by_cases hk0:k=0
  ·subst hk0;refine aL (by simp only[↓aB,aA,rE,↓reduceIte];exact Ce _ (Aa (by omega))) (bD ?_);exact⟨rfl,rfl,sX,nX,gX,by simp only[↓aB,aA,rE,↓reduceIte,p1],by simp only[↓aB,aA,rE,↓reduceIte,p3],by simp only[↓aB,aA,rE,↓reduceIte,p4],by simp only[↓aB,aA,rE,↓reduceIte,p5],by simp only[↓aB,aA,rE,↓reduceIte,p6],hk,K,l,hS,mX,kX⟩
  obtain⟨a,rfl⟩:∃a,k=a+1:=⟨k - 1,by omega⟩;have e6:(((a+1:Nat):Int) - 1)=(a:Int):=by omega
  rw[e6] at p6 ⊢;refine aN (by simp only[↓aB,aA,rE,↓reduceIte,Ab (show(0:Int)≤(a:Int) by omega)]) (aI ?_);try simp only[↓aB,aA,rE,↓reduceIte]
  have hal:a<g.nodes.length:=by omega
  have hx:=cM hal;obtain⟨e,b,p,i1,i2,i3,⟨na,nb,nc,rfl,x1,x2,x3⟩,i5,i6⟩:=aQ.at hn (by omega) hx;have la:cE (.ptr b p) true 6 X.h=some (.agg [.int .i64 (nodeAt g a).kind,.int .i64 (nodeAt g a).player,.int .i64 (nodeAt g a).info,na,nb,nc]):=(mC sX i2).trans i5;have iK:=iU kX (by omega) hS.ok.1;refine aC (aK (aC (aF ?_)));simp only[↓aB,aA,rE,↓reduceIte,aE,aD,p1,p5,p6,cN gX,aQ.self hn,aG,i1,la];refine aY ?_;try simp only[↓aB,aA,rE,↓reduceIte]
  have hc:∀c∈(nodeAt g a).next,0≤c∧c.toNat<K.length∧Rng (K.getD c.toNat 0):=fun c hc=>by
   obtain⟨k1,k2⟩:=sH (hK:=hK) hal hc;obtain⟨j,hj⟩:=Dj hc;obtain⟨hj1,hj2⟩:=Af.1 hj;obtain⟨_,_,u3⟩:=hK a hal j hj1;have ec:(nodeAt g a).next.getD j 0=c:=by rw[Ag,hj];rfl
   obtain⟨w,w1,w2⟩:=hS.rng c.toNat (by omega) k2;have:=(Af.1 w2).1;have:=hS.len;refine⟨by omega,by rw[hS.ok.1];exact k2,?_⟩;rw[w1];unfold Rng;omega
  refine aO (aKD H (hL.same sX) (x1.same sX) (x2.same sX) (x3.same sX) iK (hf a hal) hc (G.nxt a hal) (hw a hal) (by have:=G.pay a hal;omega)) ?_;rintro _ Y ⟨rfl,hY⟩;obtain⟨key,hkey⟩:∃key,key=oB (nodeAt g a) K:=⟨_,rfl⟩;rw[←hkey];have mY:=(hY.2 _ (show S1.nx<X.nx by omega)).trans mX;have kY:=(hY.2 _ (show S2.nx<X.nx by omega)).trans kX;have gY:=(hY.2 _ (show S.nx<X.nx by omega)).trans gX;have sY:=sX.trans hY;have nY:=Ba nX hY.1;try simp only[↓aB,aA,rE,↓reduceIte]
  have hlk:∀F:Fr,aH 40 F= .map S1.nx→aH 41 F= .str key→gT (.lookup (.p .str) (.int .i64 0) true (.t 40) (.t 41)) F Y.h=some (.tup [.int .i64 (match lkp l key with | some v=>(v:Int) | none=>0),.bool (lkp l key).isSome]):=fun F u w=>by
   rw[aLx (m:=.t 40) (x:=.t 41) mY u w];cases lkp l key<;>rfl
  refine bL ?_;simp only[↓aB,aA,rE,↓reduceIte,p4,hlk,ex0,ex1];rw[hkey] at hlk;refine aC (aT (Q:=fun o A' Z=>o= .normal∧A'.inr=false∧Same S Z∧S3.nx≤Z.nx∧Z.h.get S.nx=some (.cells [.int .i64 g.players,nv,iv] false 0)∧aH 1 A'.F= .ptr S.nx 0∧aH 3 A'.F= .nilsl∧aH 4 A'.F= .map S1.nx∧aH 5 A'.F= .sl S2.nx 0 g.nodes.length g.nodes.length false∧aH 6 A'.F= .int .i64 (a:Int)∧Z.h.get S2.nx=some (.cells (bF K) false 0)∧∃ (w:Nat) (l':List (List Nat×Nat)),aH 8 A'.F= .int .i64 (w:Int)∧aCG g a (K.set a (w:Int)) l'∧Z.h.get S1.nx=some (.map (aCD l'))) (aC (aF ?_)) ?_)
  ·cases hq:lkp l key with
   | some w=>
    simp only[↓aB,aA,rE,↓reduceIte,eC,Option.isSome_some,Bd];refine aL (by simp only[↓aB,aA,rE,↓reduceIte]) (aI ?_);rw[hkey] at hq;exact⟨rfl,rfl,sY,nY,gY,by simp only[↓aB,aA,rE,↓reduceIte,p1],by simp only[↓aB,aA,rE,↓reduceIte,p3],by simp only[↓aB,aA,rE,↓reduceIte,p4],by simp only[↓aB,aA,rE,↓reduceIte,p5],by simp only[↓aB,aA,rE,↓reduceIte,p6],kY,w,l,by simp only[↓aB,aA,rE,↓reduceIte],(hS.old hK hal hq).1,mY⟩
   | none=>
    simp only[↓aB,aA,rE,↓reduceIte,eC,Fe,Bk];have hnm:∀F:Fr,aH 47 F= .map S1.nx→gT (.lenMap (.t 47)) F Y.h=some (.int .i64 ((l.length:Nat):Int)):=fun F u=>aBJ (m:=.t 47) mY u;refine aN (by simp only[↓aB,aA,rE,↓reduceIte]) (aC (aF ?_));simp only[↓aB,aA,rE,↓reduceIte,p4,hnm];refine aF ?_;simp only[↓aB,aA,rE,↓reduceIte,p4];refine eT (v:=.undef) (fun call=>by rw[aMe];simp only[↓aB,aA,rE,↓reduceIte,p4];exact aJI mY l.length (Option.map_eq_none_iff.1 hq)) ?_;rw[hkey] at hq ⊢;simp only[↓aB,aA,rE,↓reduceIte];refine⟨⟨sY.1,fun c hc=>?_⟩,nY,?_,p1,p3,p4,p5,p6,?_,l.length,_,rfl,hS.new hK hal hq,by rw[T.get_set,if_pos rfl]⟩
    ·simp only;rw[T.get_set,if_neg (by omega)];exact sY.2 c hc
    ·rw[T.get_set,if_neg (by omega)];exact gY
    ·rw[T.get_set,if_neg (by omega)];exact kY
  clear hlk p1 p3 p4 p5 p6;rintro o ⟨F,inr⟩ Z ⟨rfl,q0,sZ,nZ,gZ,p1,p3,p4,p5,p6,kZ,w,l',p8,hS',mZ⟩;simp only at q0 p1 p3 p4 p5 p6 p8;subst q0;have ia:=eO (b:=S2.nx) (o:=false) hal;try simp only[↓aB,aA,rE,↓reduceIte]
  refine aF ?_;simp only[↓aB,aA,rE,↓reduceIte,p5,p6,p8,aG,ia];refine eT (fun call=>by simp only[↓aB,aA,rE,↓reduceIte,dN,cH,p8];exact vT (S:=Z) kZ (by rw[hS.ok.1];exact hal)) ?_;have w2:IntKind.i64.wrap ((a:Int) - 1)=(a:Int) - 1:=wrap_i64 (by omega) (by omega);simp only[↓aB,aA,rE,↓reduceIte];refine aF ?_;simp only[↓aB,aA,rE,↓reduceIte,p6,w2];refine⟨a,by omega,rfl,⟨sZ.1,fun c hc=>?_⟩,nZ,?_,by simp only[↓aB,aA,rE,↓reduceIte,p1],by simp only[↓aB,aA,rE,↓reduceIte,p3],by simp only[↓aB,aA,rE,↓reduceIte,p4],by simp only[↓aB,aA,rE,↓reduceIte,p5],by simp only[↓aB,aA,rE,↓reduceIte],by omega,_,l',hS',?_,by simp only;rw[T.get_set,if_pos rfl]⟩
  ·simp only;rw[T.get_set,if_neg (by omega)];exact sZ.2 c hc
  ·simp only;rw[T.get_set,if_neg (by omega)];exact gZ
  ·simp only;rw[T.get_set,if_neg (by omega)];exact mZ
 rintro o ⟨F,inr⟩ X ⟨rfl,q0,sX,nX,gX,p1,p3,p4,p5,p6,hk,K,l,hS,mX,kX⟩;simp only at q0 p1 p3 p4 p5 p6;subst q0;clear p6 hk c3 m3 g3 c2 c1 c1';have hll:=hS.len;have hnm:∀F:Fr,aH 56 F= .map S1.nx→gT (.lenMap (.t 56)) F X.h=some (.int .i64 ((l.length:Nat):Int)):=fun F u=>aBJ (m:=.t 56) mX u;try simp only[↓aB,aA,rE,↓reduceIte]
 refine bL ?_;simp only[↓aB,aA,rE,↓reduceIte,p4,hnm];refine fE (jU (n:=l.length) (by simp only[↓aB,aA,rE,↓reduceIte,aG]) (by simp only[↓aB,aA,rE,↓reduceIte,aG]) (by unfold room;omega) (by unfold room;omega)) ?_;intro S4 s4 n4 c4;try simp only[↓aB,aA,rE,↓reduceIte]
 have s4':=sX.trans s4;have g4:=(s4.2 _ (show S.nx<X.nx by omega)).trans gX;have m4:=(s4.2 _ (show S1.nx<X.nx by omega)).trans mX;have k4:=(s4.2 _ (show S2.nx<X.nx by omega)).trans kX;have iK:=iU k4 (by omega) hS.ok.1;have sK:=bI.self iK;refine aC (aT (Q:=fun o A' Y=>o= .normal∧SeK g K S S4 S.nx S1.nx S2.nx X.nx l.length 0 A' Y) (aC (aF ?_)) ?_)
 ·simp only[↓aB,aA,rE,↓reduceIte,p5,aIt];refine aK (bG (SeK g K S S4 S.nx S1.nx S2.nx X.nx l.length) ?_ g.nodes.length _ _ ⟨rfl,bB.refl _ _,by simp only[↓aB,aA,rE,↓reduceIte,p1],by simp only[↓aB,aA,rE,↓reduceIte,p4],by simp only[↓aB,aA,rE,↓reduceIte,p5],by simp only[↓aB,aA,rE,↓reduceIte],by simp only[↓aB,aA,rE,↓reduceIte],by simp only[↓aB,aA,rE,↓reduceIte],0,.nilsl,_,fun _=>false,by omega,by simp only[↓aB,aA,rE,↓reduceIte],by simp only[↓aB,aA,rE,↓reduceIte,p3],.inl ⟨rfl,rfl,rfl⟩,(fun c h=>by cases h),c4,by rw[repeatL_one,Az],fun u hu=>⟨by rw[repeatL_one,Dg,if_pos hu],by simp⟩⟩);clear p1 p3 p4 p5;rintro k ⟨F,inr⟩ Y ⟨q0,hY,p1,p4,p5,p10,p59,p60,i,v,cs,sv,hik,p61,p3,hg,hb,sY,hcl,hcs⟩;simp only at q0 p1 p3 p4 p5 p10 p59 p60 p61;subst q0;refine bL ?_;simp only[↓aB,aA,rE,↓reduceIte,p60,p61,qT];by_cases hlt:i<g.nodes.length;rotate_left
  ·refine aC (aL (by simp only[↓aB,aA,rE,↓reduceIte,Aa hlt]) (bD ?_));have hk:k=0:=by omega
   subst hk;exact⟨rfl,rfl,hY,by simp only[↓aB,aA,rE,↓reduceIte,p1],by simp only[↓aB,aA,rE,↓reduceIte,p4],by simp only[↓aB,aA,rE,↓reduceIte,p5],by simp only[↓aB,aA,rE,↓reduceIte,p10],by simp only[↓aB,aA,rE,↓reduceIte,p59],by simp only[↓aB,aA,rE,↓reduceIte,p60],i,v,cs,sv,hik,by simp only[↓aB,aA,rE,↓reduceIte,p61],by simp only[↓aB,aA,rE,↓reduceIte,p3],hg,hb,sY,hcl,hcs⟩
  refine aC (aN (by simp only[↓aB,aA,rE,↓reduceIte,Ab hlt]) (aI ?_));try simp only[↓aB,aA,rE,↓reduceIte]
  have nY:=hY.1;have kY:=(hY.2 _ (show S2.nx<S4.nx by omega) (by omega)).trans k4;have ia:=eO (b:=S2.nx) (o:=false) hlt;have la:=aAo kY (show i<K.length by rw[hS.ok.1];exact hlt);obtain⟨u,u1,u2⟩:=aBf hS hlt;rw[u1] at la;obtain⟨cu,su⟩:=hcs u u2;have iu:=eO (b:=X.nx) (o:=false) u2;have lu:cE (.ptr X.nx u) false 1 Y.h=some (.bool (sv u)):=fU sY cu;have hsn:=aLO hS hlt;rw[u1] at hsn;have sSY:Same S Y:=bB.same s4' hY (by omega);refine aC (aK (aC (aF ?_)));simp only[↓aB,aA,rE,↓reduceIte,p59,p61,aG,ia,la];refine bL ?_;simp only[↓aB,aA,rE,↓reduceIte,p10,aG,iu,lu,eC];by_cases hf:lI g i=true;rotate_left
  ·have e1:sv u=true:=su.2 (hsn.2 hf);refine aL (by simp only[↓aB,aA,rE,↓reduceIte,e1,Bd]) (aI ?_);try simp only[↓aB,aA,rE,↓reduceIte]
   refine aF ?_;simp only[↓aB,aA,rE,↓reduceIte,p61,dL (a:=i) (by omega)];have e2:nQ g (i+1)=nQ g i:=by rw[aEW,if_neg hf]
   refine⟨k - 1,by omega,rfl,hY,by simp only[↓aB,aA,rE,↓reduceIte,p1],by simp only[↓aB,aA,rE,↓reduceIte,p4],by simp only[↓aB,aA,rE,↓reduceIte,p5],by simp only[↓aB,aA,rE,↓reduceIte,p10],by simp only[↓aB,aA,rE,↓reduceIte,p59],by simp only[↓aB,aA,rE,↓reduceIte,p60],i+1,v,cs,sv,by omega,by simp only[↓aB,aA,rE,↓reduceIte],by simp only[↓aB,aA,rE,↓reduceIte,p3],by rw[e2];exact hg,hb,sY,hcl,fun u' hu'=>⟨(hcs u' hu').1,?_⟩⟩;rw[(hcs u' hu').2];constructor
   ·rintro⟨j,j1,j2⟩;exact⟨j,by omega,j2⟩
   ·rintro⟨j,j1,j2⟩;by_cases e:j=i
    ·subst e;have:u'=u:=by omega
     subst this;exact su.1 e1
    ·exact⟨j,by omega,j2⟩
  have e1:sv u=false:=Ch.2 fun e=>(hsn.1 (su.1 e)) hf;refine aN (by simp only[↓aB,aA,rE,↓reduceIte,e1,Bk]) (aC (aF ?_));simp only[↓aB,aA,rE,↓reduceIte,p10,aG,iu];obtain⟨Y1,hY1⟩:∃Y1:St,Y1=⟨Y.h.set X.nx (some (.cells (cs.set u (.bool true)) false 0)),Y.nx⟩:=⟨_,rfl⟩;refine eT (v:=.undef) (S1:=Y1) (fun call=>by rw[dN,hY1];simp only[↓aB,aA,rE,↓reduceIte];exact stc (S:=Y) sY (by rw[hcl];exact u2)) ?_;have y1:bB X.nx Y Y1:=by rw[hY1];exact(bB.refl _ _).put _
  have sY1:Y1.h.get X.nx=some (.cells (cs.set u (.bool true)) false 0):=by rw[hY1];simp only;rw[T.get_set,if_pos rfl]
  have nY1:Y1.nx=Y.nx:=by rw[hY1]
  clear hY1;have hg1:iD 1 S Y1 v (gR (nQ g i)).length (bF (gR (nQ g i))):=by
   rcases hg with h | ⟨b,h1,h2,h3,h4,h5⟩
   ·exact .inl h
   ·have:=hb b (by rw[h1];rfl);exact .inr ⟨b,h1,h2,by omega,(y1.2 _ h3 (by omega)).trans h4,h5⟩
  try simp only[↓aB,aA,rE,↓reduceIte]
  refine aF ?_;simp only[↓aB,aA,rE,↓reduceIte,p3];refine fE (nB (k:=.i64) (n:=(i:Int)) (by simp only[↓aB,aA,rE,↓reduceIte])) ?_;intro Y2 y2 nY2 c2;try simp only[↓aB,aA,rE,↓reduceIte]
  have sSY2:Same S Y2:=(bB.same sSY y1 (by omega)).trans y2;have hfl:=sT g i;have hnl:=fQ (nQ g i);obtain⟨v',Y3,f1,f2,f3,f4,f5⟩:=iD.push (bytes:=8) (hg1.step y2) sSY2 c2 (by unfold room;omega) (by unfold room;omega);refine eT (v:=v') (S1:=Y3) (fun call=>by rw[iY];simp only[↓aB,aA,rE,↓reduceIte,p3];exact f1) ?_;have e2:gR (nQ g (i+1))=gR (nQ g i)++ [(i:Int)]:=by
   rw[aEW,if_pos hf];unfold gR;rw[Cu];rfl
  have kk:∀c,c<S4.nx→c≠X.nx→Y3.h.get c=Y.h.get c:=fun c hc hne=>by
   rw[f5 c (by omega) (fun e=>by have:=hb c e;omega),y2.2 c (by omega),y1.2 c (by omega) hne]
  simp only[↓aB,aA,rE,↓reduceIte];refine aF ?_;simp only[↓aB,aA,rE,↓reduceIte,p61,dL (a:=i) (by omega)];refine⟨k - 1,by omega,rfl,⟨by omega,fun c hc hne=>(kk c hc hne).trans (hY.2 c hc hne)⟩,by simp only[↓aB,aA,rE,↓reduceIte,p1],by simp only[↓aB,aA,rE,↓reduceIte,p4],by simp only[↓aB,aA,rE,↓reduceIte,p5],by simp only[↓aB,aA,rE,↓reduceIte,p10],by simp only[↓aB,aA,rE,↓reduceIte,p59],by simp only[↓aB,aA,rE,↓reduceIte,p60],i+1,v',_,fun w=>if w=u then true else sv w,by omega,by simp only[↓aB,aA,rE,↓reduceIte],by simp only[↓aB,aA,rE,↓reduceIte],by rw[e2];exact f2,fun c hc=>?_,(f5 _ (by omega) (fun e=>by have:=hb _ e;omega)).trans ((y2.2 _ (by omega)).trans sY1),by rw[Be];exact hcl,fun u' hu'=>⟨?_,?_⟩⟩
  ·rw[f3] at hc;cases hc;omega
  ·show(cs.set u (.bool true))[u']? =some (.bool (if u'=u then true else sv u'));rw[Dm];by_cases e:u=u'
   ·subst e;rw[if_pos rfl,if_pos (by rw[hcl];exact u2),if_pos rfl]
   ·rw[if_neg e,if_neg (Cp e)];exact(hcs u' hu').1
  ·show(if u'=u then true else sv u')=true↔_;by_cases e:u'=u
   ·rw[if_pos e,e];exact⟨fun _=>⟨i,by omega,u1⟩,fun _=>rfl⟩
   ·rw[if_neg e,(hcs u' hu').2];constructor
    ·rintro⟨j,j1,j2⟩;exact⟨j,by omega,j2⟩
    ·rintro⟨j,j1,j2⟩;by_cases e3:j=i
     ·rw[e3,u1] at j2;exact absurd (Int.ofNat.inj j2).symm e
     ·exact⟨j,by omega,j2⟩
 clear p1 p3 p4 p5;rintro o ⟨F,inr⟩ Y ⟨rfl,q0,hY,p1,p4,p5,p10,p59,p60,i,v,cs,sv,hik,p61,p3,hg,hb,sY,hcl,hcs⟩;simp only at q0 p1 p3 p4 p5;subst q0;have hin:i=g.nodes.length:=by omega
 subst hin;clear p10 p59 p60 p61 hcs hcl hik sY;have nY:=hY.1;have gY:=(hY.2 _ (show S.nx<S4.nx by omega) (by omega)).trans g4;have mY:=(hY.2 _ (show S1.nx<S4.nx by omega) (by omega)).trans m4;have kY:=(hY.2 _ (show S2.nx<S4.nx by omega) (by omega)).trans k4;have sSY:Same S Y:=bB.same s4' hY (by omega);have pm:=hnl;rw[show bF (gR (nQ g g.nodes.length))=(nQ g g.nodes.length).map kV from aDz _,fQ] at hg;have vlt:∀c,aX v=some c→c<Y.nx:=fun c hc=>(hg.blk hc).2.1;clear hnm hnl g4 m4 k4 hY c4;have lagg:cE (.ptr S.nx 0) true 3 Y.h=some (.agg [.int .i64 g.players,nv,iv]):=fG gY;refine bL ?_;simp only[↓aB,aA,rE,↓reduceIte,p1,lagg];refine aY ?_;try simp only[↓aB,aA,rE,↓reduceIte]
 refine aO (aFc H G (hv0.same sSY)) ?_;rintro _ Z ⟨⟨ob,rfl,o1,o2,o3⟩,hZ⟩;rw[oK] at *;try simp only[↓aB,aA,rE,↓reduceIte]
 refine cD ?_;intro Z1 z1 nZ1 cZ1;try simp only[↓aB,aA,rE,↓reduceIte]
 obtain⟨Z2,hZ2⟩:∃Z2:St,Z2=⟨Z1.h.set Z.nx (some (.cells [.sl ob 0 g.nodes.length g.nodes.length false] false 0)),Z1.nx⟩:=⟨_,rfl⟩;refine eT (v:=.undef) (S1:=Z2) (fun call=>by rw[dN,hZ2];simp only[↓aB,aA,rE,↓reduceIte];exact stc (cs:=[.nilsl]) (p:=0) cZ1 (by simp)) ?_;have z2:bB Z.nx Z1 Z2:=by rw[hZ2];exact(bB.refl _ _).put _
 have hZb:Z2.h.get Z.nx=some (.cells [.sl ob 0 g.nodes.length g.nodes.length false] false 0):=by rw[hZ2];simp only;rw[T.get_set,if_pos rfl]
 have nZ2:Z2.nx=Z1.nx:=by rw[hZ2]
 clear hZ2 cZ1 lagg;have nYZ:=hZ.1;have kkZ:∀c,c<Z.nx→Z2.h.get c=Z.h.get c:=fun c hc=>(z2.2 c (by omega) (by omega)).trans (z1.2 c hc);have kkY:∀c,c<Y.nx→Z2.h.get c=Y.h.get c:=fun c hc=>(kkZ c (by omega)).trans (hZ.2 c hc);have sYZ:Same Y Z2:=⟨by omega,kkY⟩;simp only[↓aB,aA,rE,↓reduceIte];refine bL ?_;simp only[↓aB,aA,rE,↓reduceIte,p3,qP,mL];refine aY ?_;try simp only[↓aB,aA,rE,↓reduceIte,p3]
 have hpos:0<(nQ g g.nodes.length).length:=by
  have:0∈nQ g g.nodes.length:=tO.2 ⟨G.n1,pP.2 fun j hj=>by omega⟩;exact List.length_pos_of_mem this
 have hfl:=sT g g.nodes.length;refine aO (aOS H (oK g) (sSY.trans sYZ) (hg.step sYZ) hpos (fun q hq=>(tO.1 hq).1) (aAq g _) (by omega) (by omega) (by omega) hZb ((kkZ _ o2).trans o3) (fun e=>by have:=vlt _ e;omega) (fun e=>by have:=vlt _ e;omega)) ?_;rintro _ W ⟨F',hp,hs,hg',nW,kW⟩;have hFl:F'.length=(nQ g g.nodes.length).length:=hp.length_eq;have kkW:∀c,c<S4.nx→W.h.get c=Y.h.get c:=fun c hc=>(kW c (by omega) (fun e=>by have:=hb c e;omega)).trans (kkY c (by omega));have mW:=(kkW _ (show S1.nx<S4.nx by omega)).trans mY;have kWb:=(kkW _ (show S2.nx<S4.nx by omega)).trans kY;have sSW:Same S W:=⟨by have:=sSY.1;omega,fun c hc=>(kkW c (by have:=s4'.1;omega)).trans (sSY.2 c hc)⟩;have wlt:∀c,aX v=some c→c<W.nx:=fun c hc=>(hg'.blk hc).2.1;clear kkZ kkY kW hZb o3 hg sYZ;have hg2:iD 1 S W v (gR F').length (bF (gR F')):=by rw[fQ,aDz];exact hg'
 have hnm:∀F:Fr,aH 84 F= .map S1.nx→gT (.lenMap (.t 84)) F W.h=some (.int .i64 ((l.length:Nat):Int)):=fun F u=>aBJ (m:=.t 84) mW u;try simp only[↓aB,aA,rE,↓reduceIte]
 refine bL ?_;simp only[↓aB,aA,rE,↓reduceIte,p4,hnm];refine fE (jU (n:=l.length) (by simp only[↓aB,aA,rE,↓reduceIte,aG]) (by simp only[↓aB,aA,rE,↓reduceIte,aG]) (by unfold room;omega) (by unfold room;omega)) ?_;intro W1 w1 nW1 cW1;rw[nI] at cW1;try simp only[↓aB,aA,rE,↓reduceIte]
 have kW1:=(w1.2 _ (show S2.nx<W.nx by omega)).trans kWb;have isF:=hg2.is.same w1;have lnF:=isF.len;rw[fQ] at lnF;refine aC (aT (Q:=fun o A' V=>o= .normal∧NuK g K F' W1 S2.nx W.nx l.length v 0 A' V) (aC (aF ?_)) ?_)
 ·simp only[↓aB,aA,rE,↓reduceIte,p3,lnF];refine aK (bG (NuK g K F' W1 S2.nx W.nx l.length v) ?_ F'.length _ _ ⟨rfl,bB.refl _ _,by simp only[↓aB,aA,rE,↓reduceIte,p3],by simp only[↓aB,aA,rE,↓reduceIte,p5],by simp only[↓aB,aA,rE,↓reduceIte],by simp only[↓aB,aA,rE,↓reduceIte],by simp only[↓aB,aA,rE,↓reduceIte],0,_,by omega,by simp only[↓aB,aA,rE,↓reduceIte],Az ..,cW1,fun p q h=>by omega⟩);clear p1 p3 p4 p5;rintro k ⟨F,inr⟩ V ⟨q0,hV,p3,p5,p14,p87,p88,i,N,hik,p89,hNl,nV,hI⟩;simp only at q0 p3 p5 p14 p87 p88 p89;subst q0;refine bL ?_;simp only[↓aB,aA,rE,↓reduceIte,p88,p89,qT];by_cases hlt:i<F'.length;rotate_left
  ·refine aC (aL (by simp only[↓aB,aA,rE,↓reduceIte,Aa hlt]) (bD ?_));have hk:k=0:=by omega
   subst hk;exact⟨rfl,rfl,hV,by simp only[↓aB,aA,rE,↓reduceIte,p3],by simp only[↓aB,aA,rE,↓reduceIte,p5],by simp only[↓aB,aA,rE,↓reduceIte,p14],by simp only[↓aB,aA,rE,↓reduceIte,p87],by simp only[↓aB,aA,rE,↓reduceIte,p88],i,N,hik,by simp only[↓aB,aA,rE,↓reduceIte,p89],hNl,nV,hI⟩
  refine aC (aN (by simp only[↓aB,aA,rE,↓reduceIte,Ab hlt]) (aI ?_));try simp only[↓aB,aA,rE,↓reduceIte]
  obtain⟨q,hq⟩:∃q,F'[i]? =some q:=⟨_,Ad hlt⟩;obtain⟨q1,q2⟩:=aEg hp hq;obtain⟨u,u1,u2⟩:=aBf hS q1;have isV:bI .i64 V v (gR F'):=dJ isF hV.1 fun c hc=>hV.2 c (by have:=wlt c hc;omega) (by have:=wlt c hc;omega);have ia:=isV.iaddr (show i<(gR F').length by rw[fQ];exact hlt);have la:=isV.ld (show i<(gR F').length by rw[fQ];exact hlt);rw[aA1 hq] at la;have kV:=(hV.2 _ (show S2.nx<W1.nx by omega) (by omega)).trans kW1;have iq:=eO (b:=S2.nx) (o:=false) q1;have lq:=aAo kV (show q<K.length by rw[hS.ok.1];exact q1);have iu:=eO (b:=W.nx) (o:=false) u2;have hst:=aLw hK hS hp hNl hq hI;rw[u1] at lq hst;rw[Cm] at hst;refine aC (aK (aC (aF ?_)));simp only[↓aB,aA,rE,↓reduceIte,p87,p89,aG,ia,la];refine aF ?_;simp only[↓aB,aA,rE,↓reduceIte,p5,p14,aG,iq,lq,iu];refine eT (fun call=>by simp only[↓aB,aA,rE,↓reduceIte,dN,cH];exact vT (S:=V) nV (by rw[hNl];exact u2)) ?_;simp only[↓aB,aA,rE,↓reduceIte];refine aF ?_;simp only[↓aB,aA,rE,↓reduceIte,p89,dL (a:=i) (by omega)];exact⟨k - 1,by omega,rfl,hV.put _,by simp only[↓aB,aA,rE,↓reduceIte,p3],by simp only[↓aB,aA,rE,↓reduceIte,p5],by simp only[↓aB,aA,rE,↓reduceIte,p14],by simp only[↓aB,aA,rE,↓reduceIte,p87],by simp only[↓aB,aA,rE,↓reduceIte,p88],i+1,N.set u (i:Int),by omega,by simp only[↓aB,aA,rE,↓reduceIte],by rw[Be];exact hNl,by simp only;rw[T.get_set,if_pos rfl],hst⟩
 clear p1 p3 p4 p5;rintro o ⟨F,inr⟩ V ⟨rfl,q0,hV,p3,p5,p14,p87,p88,i,N,hik,p89,hNl,nV,hI⟩;simp only at q0 p3 p5 p14;subst q0;have hin:i=F'.length:=by omega
 subst hin;clear p87 p88 p89 hik;have kV:=(hV.2 _ (show S2.nx<W1.nx by omega) (by omega)).trans kW1;have isV:bI .i64 V v (gR F'):=dJ isF hV.1 fun c hc=>hV.2 c (by have:=wlt c hc;omega) (by have:=wlt c hc;omega);have sSV:Same S V:=bB.same (sSW.trans w1) hV (by have:=s4'.1;omega);have nWV:=hV.1;try simp only[↓aB,aA,rE,↓reduceIte]
 refine bL ?_;simp only[↓aB,aA,rE,↓reduceIte,p5,aIt];refine fE (jU (n:=g.nodes.length) (by simp only[↓aB,aA,rE,↓reduceIte,aG]) (by simp only[↓aB,aA,rE,↓reduceIte,aG]) (by unfold room;omega) (by unfold room;omega)) ?_;intro V1 v1 nV1 cV1;rw[nI] at cV1;try simp only[↓aB,aA,rE,↓reduceIte]
 have kV1:=(v1.2 _ (show S2.nx<V.nx by omega)).trans kV;have nV1b:=(v1.2 _ (show W.nx<V.nx by omega)).trans nV;refine aC (aT (Q:=fun o A' U=>o= .normal∧CaK g K N V1 S2.nx W.nx V.nx l.length v 0 A' U) (aC (aF ?_)) ?_)
 ·simp only[↓aB,aA,rE,↓reduceIte,p5,aIt];refine aK (bG (CaK g K N V1 S2.nx W.nx V.nx l.length v) ?_ g.nodes.length _ _ ⟨rfl,bB.refl _ _,by simp only[↓aB,aA,rE,↓reduceIte,p3],by simp only[↓aB,aA,rE,↓reduceIte],by simp only[↓aB,aA,rE,↓reduceIte,p14],by simp only[↓aB,aA,rE,↓reduceIte],by simp only[↓aB,aA,rE,↓reduceIte],0,_,by omega,by simp only[↓aB,aA,rE,↓reduceIte],Az ..,cV1,fun j h=>by omega⟩);clear p3 p5 p14;rintro k ⟨F,inr⟩ U ⟨q0,hU,p3,p2,p14,p105,p106,i,C,hik,p107,hCl,cU,hC⟩;simp only at q0 p3 p2 p14 p105 p106 p107;subst q0;refine bL ?_;simp only[↓aB,aA,rE,↓reduceIte,p106,p107,qT];by_cases hlt:i<g.nodes.length;rotate_left
  ·refine aC (aL (by simp only[↓aB,aA,rE,↓reduceIte,Aa hlt]) (bD ?_));have hk:k=0:=by omega
   subst hk;exact⟨rfl,rfl,hU,by simp only[↓aB,aA,rE,↓reduceIte,p3],by simp only[↓aB,aA,rE,↓reduceIte,p2],by simp only[↓aB,aA,rE,↓reduceIte,p14],by simp only[↓aB,aA,rE,↓reduceIte,p105],by simp only[↓aB,aA,rE,↓reduceIte,p106],i,C,hik,by simp only[↓aB,aA,rE,↓reduceIte,p107],hCl,cU,hC⟩
  refine aC (aN (by simp only[↓aB,aA,rE,↓reduceIte,Ab hlt]) (aI ?_));try simp only[↓aB,aA,rE,↓reduceIte]
  obtain⟨u,u1,u2⟩:=aBf hS hlt;have kU:=(hU.2 _ (show S2.nx<V1.nx by omega) (by omega)).trans kV1;have nU:=(hU.2 _ (show W.nx<V1.nx by omega) (by omega)).trans nV1b;have ia:=eO (b:=S2.nx) (o:=false) hlt;have la:=aAo kU (show i<K.length by rw[hS.ok.1];exact hlt);rw[u1] at la;have iu:=eO (b:=W.nx) (o:=false) u2;have lu:=aAo nU (show u<N.length by rw[hNl];exact u2);have ic:=eO (b:=V.nx) (o:=false) hlt;refine aC (aK (aC (aF ?_)));simp only[↓aB,aA,rE,↓reduceIte,p105,p107,aG,ia,la];refine aF ?_;simp only[↓aB,aA,rE,↓reduceIte,p2,p14,aG,iu,lu,ic];refine eT (fun call=>by simp only[↓aB,aA,rE,↓reduceIte,dN,cH];exact vT (S:=U) cU (by rw[hCl];exact hlt)) ?_;simp only[↓aB,aA,rE,↓reduceIte];refine aF ?_;simp only[↓aB,aA,rE,↓reduceIte,p107,dL (a:=i) (by omega)];refine⟨k - 1,by omega,rfl,hU.put _,by simp only[↓aB,aA,rE,↓reduceIte,p3],by simp only[↓aB,aA,rE,↓reduceIte,p2],by simp only[↓aB,aA,rE,↓reduceIte,p14],by simp only[↓aB,aA,rE,↓reduceIte,p105],by simp only[↓aB,aA,rE,↓reduceIte,p106],i+1,C.set i (N.getD u 0),by omega,by simp only[↓aB,aA,rE,↓reduceIte],by rw[Be];exact hCl,by simp only;rw[T.get_set,if_pos rfl],fun j hj=>?_⟩;rw[dR (by rw[hCl];exact hlt)];by_cases e:j=i
  ·rw[if_pos e,e,u1,Cm]
  ·rw[if_neg e];exact hC j (by omega)
 clear p3 p5 p14;rintro o ⟨F,inr⟩ U ⟨rfl,q0,hU,p3,p2,p14,p105,p106,i,C,hik,p107,hCl,cU,hC⟩;simp only at q0 p3 p2;subst q0;have hin:i=g.nodes.length:=by omega
 subst hin;have nU:=hU.1;have isU:bI .i64 U v (gR F'):=dJ isV (by omega) fun c hc=>by
  have:=wlt c hc;exact(hU.2 c (by omega) (by omega)).trans (v1.2 c (by omega))
 try simp only[↓aB,aA,rE,↓reduceIte]
 refine bL ?_;simp only[↓aB,aA,rE,↓reduceIte,p2,p3];refine aR ?_;simp only[↓aB,aA,rE,↓reduceIte];exact⟨_,_,F',C,rfl,bB.same (sSV.trans v1) hU sSV.1,aOF hK hS hp hs hI hCl hC,iU cU (by omega) hCl,isU⟩
end Go.Ev.Gl
namespace Go.Ev.Gl
open Go.Sort
variable {fns:T cW}
theorem aP2{S:St}{b sz:Nat}{o:Bool}{cs e:List AV}(h:S.h.get b=some (.cells cs o sz))(hl:cs.length=6)(he:e.length=6):kN (.ptr b 0) 6 e S=some (.undef,⟨S.h.set b (some (.cells e o sz)),S.nx⟩):=by
 have hput:put cs 0 e=some e:=by
  rw[put_eq,if_pos (by omega)];simp [List.drop_eq_nil_of_le (show cs.length≤e.length by omega)]
 simp only[kN,oT,h,aM,wA,hput,dZ,he];rfl
def yW(x:bO)(a b c:AV):List AV:=[.int .i64 x.kind,.int .i64 x.player,.int .i64 x.info,a,b,c]
structure aQV(S:St)(v:AV)(i:Nat)(x:bO)(na nb nc:AV):Prop where
 ex:∃b p,eJ (.slice 6) v i=some (.ptr b p)∧b<S.nx∧cE (.ptr b p) true 6 S.h=some (.agg (yW x na nb nc))
 n:bI .i64 S na x.next
 w:bI .i64 S nb x.weights
 p:bI .i64 S nc x.pay
theorem aP0{S:St}{v:AV}{g:bC}(hn:aQ 6 cC S v g.nodes){i:Nat}(hi:i<g.nodes.length):∃na nb nc,aQV S v i (nodeAt g i) na nb nc:=by
 obtain⟨e,b,p,i1,i2,i3,⟨na,nb,nc,rfl,x1,x2,x3⟩,i5,i6⟩:=aQ.at hn (by omega) (cM hi);exact⟨na,nb,nc,⟨b,p,i1,i2,i5⟩,x1,x2,x3⟩
theorem aHO{l:List AV}(h:mU l l=true):bW (.agg l) (.agg l)=true:=by
 simp only[bW,h]
theorem aBt{S:St}{x:bO}{a b c:AV}(h1:bI .i64 S a x.next)(h2:bI .i64 S b x.weights)(h3:bI .i64 S c x.pay):bW (.agg (yW x a b c)) (.agg (yW x a b c))=true:=by
 refine aHO ?_;have e1:=bI.self h1;have e2:=bI.self h2;have e3:=bI.self h3;unfold yW;simp only[mU,e1,e2,e3,aP];simp [bW,eI,aP,kG]
def AlI(g:bC)(S:St)(nv:AV)(a b:Nat)(ca cb:List AV)(k:Nat)(A:bH)(X:St):Prop:=A.inr=false∧Same S X∧S.nx+12≤X.nx∧aH 0 A.F=nv∧aH 7 A.F= .ptr (S.nx+8) 0∧aH 8 A.F= .ptr (S.nx+9) 0∧X.h.get (S.nx+8)=some (.cells ca false 0)∧X.h.get (S.nx+9)=some (.cells cb false 0)∧∃i,i+k=(nodeAt g a).next.length∧aH 9 A.F= .int .i64 (i:Int)∧∀j,j<i→EqS g (gH g a j) (gH g b j)
theorem aGH{g:bC}{nv:AV}{S0:St}(H:Has fns)(G:vN g)(hw:∀i,i<g.nodes.length→(nodeAt g i).weights.length≤1000)(hn:aQ 6 cC S0 nv g.nodes):∀a,a<g.nodes.length→∀b,b<g.nodes.length→∀S,Same S0 S→fB fns (.fn 103 [] []) [nv,.int .i64 (a:Int),.int .i64 (b:Int)] S fun r X=>Same S X∧∃β,r= .bool β∧(β=true↔EqS g a b):=sL fun a ha ih b hb S s0=>by
 have hK:=iL G;have hN:=G.n2;have hnS:=aQ.same (E:=cC) bR hn s0;obtain⟨na,nb,nc,⟨ba,pa,ia,la,da⟩,na1,na2,na3⟩:=aP0 hnS ha;obtain⟨ma,mb,mc,⟨bb,pb,ib,lb,db⟩,mb1,mb2,mb3⟩:=aP0 hnS hb;have ea:=aBt na1 na2 na3;have eb:=aBt mb1 mb2 mb3;have oa:¬S.nx≤ba:=by omega
 have obb:¬S.nx≤bb:=by omega
 refine bN H.f103 (by simp) ?_;simp only[↓aB,aA,rE,↓reduceIte,rA];refine bL ?_;simp only[↓aB,aA,rE,↓reduceIte];refine aC (fP (fun c=>S.nx≤c) ?_);intro X1 x1 hx1 nx1;simp only[↓sU,sD,rE,↓reduceIte,rA,aG,ia,ib,da,db,ea,eb,la,lb,oa,obb,An];have eal:∀ (F:Fr) (id:Nat),xL (.alloc 54 [.int .i64 0,.int .i64 0,.int .i64 0,.nilsl,.nilsl,.nilsl]) F id=some (.ptr id 0,.cells [.int .i64 0,.int .i64 0,.int .i64 0,.nilsl,.nilsl,.nilsl] false 0):=fun _ _=>rfl;rw[eal,fC];simp only[↓sU,sD,rE,↓reduceIte,rA];rw[eal,fC];have n89:¬S.nx+8=S.nx+9:=by omega
 have n98:¬S.nx+9=S.nx+8:=by omega
 obtain⟨h2,hh2⟩:∃h2,h2=(X1.h.set (S.nx+9) (some (.cells [.int .i64 0,.int .i64 0,.int .i64 0,.nilsl,.nilsl,.nilsl] false 0))).set (S.nx+8) (some (.cells [.int .i64 0,.int .i64 0,.int .i64 0,.nilsl,.nilsl,.nilsl] false 0)):=⟨_,rfl⟩;obtain⟨h3,hh3⟩:∃h3,h3=h2.set (S.nx+8) (some (.cells (yW (nodeAt g a) na nb nc) false 0)):=⟨_,rfl⟩;obtain⟨h4,hh4⟩:∃h4,h4=h3.set (S.nx+9) (some (.cells (yW (nodeAt g b) ma mb mc) false 0)):=⟨_,rfl⟩;have hfl:cA 783 [⟨9,S.nx+9,.cells [.int .i64 0,.int .i64 0,.int .i64 0,.nilsl,.nilsl,.nilsl] false 0⟩,⟨8,S.nx+8,.cells [.int .i64 0,.int .i64 0,.int .i64 0,.nilsl,.nilsl,.nilsl] false 0⟩] X1.h=([],h2):=by
  rw[xE (show Nat.testBit 783 9=true by decide),xE (show Nat.testBit 783 8=true by decide),bT,hh2]
 simp only[↓sU,sD,rE,↓reduceIte,rA];refine uN (S1:=⟨h3,X1.nx⟩) rfl ?_ ?_ ?_
 ·rw[hfl];simp only[↓sU,sD,rE,↓reduceIte,rA,bE];rw[hh3];exact aP2 (S:=⟨h2,X1.nx⟩) (cs:=[.int .i64 0,.int .i64 0,.int .i64 0,.nilsl,.nilsl,.nilsl]) (o:=false) (sz:=0) (by rw[hh2,T.get_set,if_pos rfl]) rfl rfl
 ·rw[hfl];refine⟨Ah _,fun c hc hw=>?_⟩;rw[hh3];simp only;rw[T.get_set,if_neg (by omega)]
 rw[hfl];simp only[↓sU,sD,rE,↓reduceIte,rA];refine uN (S1:=⟨h4,X1.nx⟩) rfl ?_ ?_ ?_
 ·rw[bT];simp only[↓sU,sD,rE,↓reduceIte,rA,bE];rw[hh4];exact aP2 (S:=⟨h3,X1.nx⟩) (cs:=[.int .i64 0,.int .i64 0,.int .i64 0,.nilsl,.nilsl,.nilsl]) (o:=false) (sz:=0) (by rw[hh3,T.get_set,if_neg n98,hh2,T.get_set,if_neg n98,T.get_set,if_pos rfl]) rfl rfl
 ·rw[bT];refine⟨Ah _,fun c hc hw=>?_⟩;rw[hh4];simp only;rw[T.get_set,if_neg (by omega)]
 rw[bT];simp only[↓sU,sD,rE,↓reduceIte,rA];obtain⟨Y0,hY0⟩:∃Y0:St,Y0=⟨h4,X1.nx⟩:=⟨_,rfl⟩;have g7:Y0.h.get (S.nx+8)=some (.cells [.int .i64 (nodeAt g a).kind,.int .i64 (nodeAt g a).player,.int .i64 (nodeAt g a).info,na,nb,nc] false 0):=by
  rw[hY0,hh4];simp only;rw[T.get_set,if_neg n89,hh3,T.get_set,if_pos rfl];rfl
 have g8:Y0.h.get (S.nx+9)=some (.cells [.int .i64 (nodeAt g b).kind,.int .i64 (nodeAt g b).player,.int .i64 (nodeAt g b).info,ma,mb,mc] false 0):=by
  rw[hY0,hh4];simp only;rw[T.get_set,if_pos rfl];rfl
 have nx1:X1.nx=S.nx+12:=nx1;have sY0:Same S Y0:=by
  rw[hY0];refine⟨by show S.nx≤X1.nx;omega,fun c hc=>?_⟩;rw[hh4,hh3,hh2];simp only;rw[T.get_set,if_neg (by omega),T.get_set,if_neg (by omega),T.get_set,if_neg (by omega),T.get_set,if_neg (by omega)];exact x1.2 c hc
 have nY0:Y0.nx=S.nx+12:=by rw[hY0];exact nx1
 rw[←hY0];clear hY0 hh4 hh3 hh2 hfl h4 h3 h2 hx1 nx1 x1 eal ea eb da db;have hna:=G.nxt a ha;have hnw:=hw a ha;have hnp:=G.pay a ha;refine aC (aC (aT (Q:=fun o A' Y=>o= .normal∧A'.inr=false∧Same Y0 Y∧aH 61 A'.F= .bool (decide (¬ (zH (nodeAt g a) (nodeAt g b)∧(nodeAt g a).next.length=(nodeAt g b).next.length)))∧aH 0 A'.F=nv∧aH 7 A'.F= .ptr (S.nx+8) 0∧aH 8 A'.F= .ptr (S.nx+9) 0) (aF ?_) ?_))
 ·by_cases h1:(nodeAt g a).kind=(nodeAt g b).kind;rotate_left
  ·have e:decide (¬ (zH (nodeAt g a) (nodeAt g b)∧(nodeAt g a).next.length=(nodeAt g b).next.length))=true:=Ab fun e=>h1 e.1.1;simp only[↓aB,aA,rE,↓reduceIte,aE,aD,aW,eB g7,eB g8,cO g7,cO g8,cP g7,cP g8,dD g7,dD g8,dH g7,dH g8,dE g7,dE g8,Ab (show(nodeAt g a).kind≠(nodeAt g b).kind from h1),e];exact Same.refl _
  by_cases h2:(nodeAt g a).player=(nodeAt g b).player;rotate_left
  ·have e:decide (¬ (zH (nodeAt g a) (nodeAt g b)∧(nodeAt g a).next.length=(nodeAt g b).next.length))=true:=Ab fun e=>h2 e.1.2.1;simp only[↓aB,aA,rE,↓reduceIte,aE,aD,aW,eB g7,eB g8,cO g7,cO g8,cP g7,cP g8,dD g7,dD g8,dH g7,dH g8,dE g7,dE g8,Aa (show ¬ (nodeAt g a).kind≠(nodeAt g b).kind from fun e=>e h1),Ab (show(nodeAt g a).player≠(nodeAt g b).player from h2),e];exact Same.refl _
  by_cases h3:(nodeAt g a).info=(nodeAt g b).info;rotate_left
  ·have e:decide (¬ (zH (nodeAt g a) (nodeAt g b)∧(nodeAt g a).next.length=(nodeAt g b).next.length))=true:=Ab fun e=>h3 e.1.2.2.1;simp only[↓aB,aA,rE,↓reduceIte,aE,aD,aW,eB g7,eB g8,cO g7,cO g8,cP g7,cP g8,dD g7,dD g8,dH g7,dH g8,dE g7,dE g8,Aa (show ¬ (nodeAt g a).kind≠(nodeAt g b).kind from fun e=>e h1),Aa (show ¬ (nodeAt g a).player≠(nodeAt g b).player from fun e=>e h2),Ab (show(nodeAt g a).info≠(nodeAt g b).info from h3),e];exact Same.refl _
  have d1:=Aa (show ¬ (nodeAt g a).kind≠(nodeAt g b).kind from fun e=>e h1);have d2:=Aa (show ¬ (nodeAt g a).player≠(nodeAt g b).player from fun e=>e h2);have d3:=Aa (show ¬ (nodeAt g a).info≠(nodeAt g b).info from fun e=>e h3);by_cases h4:(nodeAt g a).next.length=(nodeAt g b).next.length;rotate_left
  ·have e:decide (¬ (zH (nodeAt g a) (nodeAt g b)∧(nodeAt g a).next.length=(nodeAt g b).next.length))=true:=Ab fun e=>h4 e.2;simp only[↓aB,aA,rE,↓reduceIte,aE,aD,aW,eB g7,eB g8,cO g7,cO g8,cP g7,cP g8,dD g7,dD g8,dH g7,dH g8,dE g7,dE g8,d1,d2,d3,bI.self na1,bI.self mb1,na1.len,mb1.len,Ab (show(((nodeAt g a).next.length:Nat):Int)≠(((nodeAt g b).next.length:Nat):Int) by omega),e];exact Same.refl _
  have d4:=Aa (show ¬ (((nodeAt g a).next.length:Nat):Int)≠(((nodeAt g b).next.length:Nat):Int) by omega);simp only[↓aB,aA,rE,↓reduceIte,aE,aD,aW,eB g7,eB g8,cO g7,cO g8,cP g7,cP g8,dD g7,dD g8,dH g7,dH g8,dE g7,dE g8,d1,d2,d3,d4,bI.self na1,bI.self mb1,bI.self na2,bI.self mb2,na1.len,mb1.len];refine aY ?_;try simp only[↓aB,aA,rE,↓reduceIte]
  refine aO (wB H (na2.same sY0) (mb2.same sY0) (by omega)) ?_;rintro _ Y1 ⟨rfl,y1⟩;have g7':=(y1.2 _ (show S.nx+8<Y0.nx by omega)).trans g7;have g8':=(y1.2 _ (show S.nx+9<Y0.nx by omega)).trans g8;by_cases h5:(nodeAt g a).weights=(nodeAt g b).weights;rotate_left
  ·have e:decide (¬ (zH (nodeAt g a) (nodeAt g b)∧(nodeAt g a).next.length=(nodeAt g b).next.length))=true:=Ab fun e=>h5 e.1.2.2.2.1;simp only[↓aB,aA,rE,↓reduceIte,Aa h5,eC,Bk,e];exact y1
  simp only[↓aB,aA,rE,↓reduceIte,Ab h5,eC,Bd,aE,aD,aW,dE g7',dE g8',bI.self na3,bI.self mb3];refine aY ?_;try simp only[↓aB,aA,rE,↓reduceIte]
  refine aO (wB H (na3.same (sY0.trans y1)) (mb3.same (sY0.trans y1)) (by omega)) ?_;rintro _ Y2 ⟨rfl,y2⟩;by_cases h6:(nodeAt g a).pay=(nodeAt g b).pay;rotate_left
  ·have e:decide (¬ (zH (nodeAt g a) (nodeAt g b)∧(nodeAt g a).next.length=(nodeAt g b).next.length))=true:=Ab fun e=>h6 e.1.2.2.2.2;simp only[↓aB,aA,rE,↓reduceIte,Aa h6,eC,Bk,e];exact y1.trans y2
  have e:decide (¬ (zH (nodeAt g a) (nodeAt g b)∧(nodeAt g a).next.length=(nodeAt g b).next.length))=false:=Aa fun e=>e ⟨⟨h1,h2,h3,h5,h6⟩,h4⟩;simp only[↓aB,aA,rE,↓reduceIte,Ab h6,eC,Bd,e];exact y1.trans y2
 rintro o ⟨F,inr⟩ Y ⟨rfl,q0,yY,p61,p0,p7,p8⟩;simp only at q0 p61 p0 p7 p8;subst q0;have gY7:=(yY.2 _ (show S.nx+8<Y0.nx by omega)).trans g7;have gY8:=(yY.2 _ (show S.nx+9<Y0.nx by omega)).trans g8;have sY:=sY0.trans yY;have nY:=yY.1;clear g7 g8;have hE:=rI hK ha hb;by_cases hl:zH (nodeAt g a) (nodeAt g b)∧(nodeAt g a).next.length=(nodeAt g b).next.length;rotate_left
 ·rw[Ab hl] at p61;refine aN (by simp only[↓aB,aA,rE,↓reduceIte,p61]) (aC (aF ?_));simp only[↓aB,aA,rE,↓reduceIte];refine aR ?_;simp only[↓aB,aA,rE,↓reduceIte];refine⟨sY,false,rfl,?_⟩;constructor
  ·intro e;cases e
  ·intro e;have:=hE.1 e;exact absurd ⟨this.1,this.2.1⟩ hl
 rw[Aa (fun e=>e hl)] at p61;refine aL (by simp only[↓aB,aA,rE,↓reduceIte,p61]) (aI ?_);try simp only[↓aB,aA,rE,↓reduceIte]
 have hlen:=hl.2;refine aC (aT (Q:=fun o A' Z=>Same S Z∧(o= .normal∧(∀j,j<(nodeAt g a).next.length→EqS g (gH g a j) (gH g b j))∨o= .ret∧aH 6 A'.F= .bool false∧∃j,j<(nodeAt g a).next.length∧¬EqS g (gH g a j) (gH g b j))) (aC (aF ?_)) ?_)
 ·simp only[↓aB,aA,rE,↓reduceIte];refine aK (bG (AlI g S nv a b (yW (nodeAt g a) na nb nc) (yW (nodeAt g b) ma mb mc)) ?_ (nodeAt g a).next.length _ _ ⟨rfl,sY,by omega,by simp only[↓aB,aA,rE,↓reduceIte,p0],by simp only[↓aB,aA,rE,↓reduceIte,p7],by simp only[↓aB,aA,rE,↓reduceIte,p8],gY7,gY8,0,by omega,by simp only[↓aB,aA,rE,↓reduceIte],fun j hj=>by omega⟩);clear p0 p7 p8 gY7 gY8 p61;rintro k ⟨F,inr⟩ Z ⟨q0,sZ,nZ,p0,p7,p8,gZ7,gZ8,i,hik,p9,hI⟩;simp only at q0 p0 p7 p8 p9;subst q0;unfold yW at gZ7 gZ8;refine fY ?_;simp only[↓aB,aA,rE,↓reduceIte,p7,p9,aE,aD,aW,dD gZ7,bI.self na1,na1.len,qT];by_cases hi:i<(nodeAt g a).next.length;rotate_left
  ·refine aL (by simp only[↓aB,aA,rE,↓reduceIte,Aa hi]) (bD ?_);exact⟨sZ,.inl ⟨rfl,fun j hj=>hI j (by omega)⟩⟩
  refine aN (by simp only[↓aB,aA,rE,↓reduceIte,Ab hi]) (aI ?_);try simp only[↓aB,aA,rE,↓reduceIte]
  obtain⟨u1,u2,u3⟩:=hK a ha i hi;obtain⟨w1,w2,w3⟩:=hK b hb i (by omega);have x1:=na1.same sZ;have y1:=mb1.same sZ;have ia:=x1.iaddr hi;have la:=x1.ld hi;have ib:=y1.iaddr (show i<(nodeAt g b).next.length by omega);have lb:=y1.ld (show i<(nodeAt g b).next.length by omega);rw[u3] at la;rw[w3] at lb;have l7:S.nx+8<Z.nx:=by omega
  have l8:S.nx+9<Z.nx:=by omega
  refine aC (aK (aC (fP (fun _=>False) ?_)));intro Z1 z1 hz1 nz1;simp only[↓sU,sD,rE,↓reduceIte,rA,p0,p7,p8,p9,aE,aD,aW,dD gZ7,dD gZ8,bI.self na1,bI.self mb1,aG,ia,ib,la,lb,l7,l8,An];refine⟨aDA x1 hi,aDA y1 (by omega),?_⟩;refine bS rfl ?_;simp only[↓sU,sD,rE,↓reduceIte,rA];refine aO (ih _ u1 u2 _ w2 Z1 (s0.trans (sZ.trans z1))) ?_;rintro _ Z2 ⟨z2,β,rfl,hβ⟩;refine⟨z2,?_⟩;simp only[↓sU,sD,rE,↓reduceIte,rA,eC];have zz:=z1.trans z2;have nz:=zz.1;have gW7:=(zz.2 _ l7).trans gZ7;have gW8:=(zz.2 _ l8).trans gZ8;cases β with
  | false=>
   refine aN (by simp only[↓sU,sD,rE,↓reduceIte,rA,Bk]) (aC (aF ?_));simp only[↓sU,sD,rE,↓reduceIte,rA];refine aR ?_;simp only[↓sU,sD,rE,↓reduceIte,rA];exact⟨sZ.trans zz,.inr ⟨i,hi,fun e=>by have:=hβ.2 e;cases this⟩⟩
  | true=>
   refine aL (by simp only[↓sU,sD,rE,↓reduceIte,rA,Bd]) (aI ?_);try simp only[↓sU,sD,rE,↓reduceIte,rA]
   refine aF ?_;simp only[↓sU,sD,rE,↓reduceIte,rA,p9,dL (a:=i) (by omega)];refine⟨k - 1,by omega,rfl,sZ.trans zz,by simp only;omega,by simp only[↓sU,sD,rE,↓reduceIte,rA,p0],by simp only[↓sU,sD,rE,↓reduceIte,rA,p7],by simp only[↓sU,sD,rE,↓reduceIte,rA,p8],gW7,gW8,i+1,by omega,by simp only[↓sU,sD,rE,↓reduceIte,rA],fun j hj=>?_⟩;by_cases e:j=i
   ·rw[e];exact hβ.1 rfl
   ·exact hI j (by omega)
 rintro o ⟨F',inr⟩ Z ⟨sZ,⟨rfl,hI⟩ | ⟨rfl,p6,j,hj,hne⟩⟩
 ·try simp only[↓aB,aA,rE,↓reduceIte]
  refine bL ?_;simp only[↓aB,aA,rE,↓reduceIte];refine aR ?_;simp only[↓aB,aA,rE,↓reduceIte];exact⟨sZ,true,rfl,fun _=>hE.2 ⟨hl.1,hl.2,hI⟩,fun _=>rfl⟩
 ·simp only at p6;simp only[↓aB,aA,rE,↓reduceIte,p6];exact⟨sZ,false,rfl,(fun e=>by cases e),fun e=>absurd ((hE.1 e).2.2 j hj) hne⟩
end Go.Ev.Gl
namespace Go.Ev.Gl
open Go.Sort
variable {fns:T cW}
def aNp(g:bC)(n:Nat)(P:List Int):Prop:=P.length=g.nodes.length∧∀i,i<n→∃j:Nat,P.getD i 0=((j:Nat):Int)∧j≤i∧lI g j=true∧EqS g j i
def XfJ(g:bC)(S1:St)(nv:AV)(rb i:Nat)(P:List Int)(k:Nat)(A:bH)(X:St):Prop:=A.inr=false∧bB rb S1 X∧aH 0 A.F=nv∧aH 3 A.F= .sl rb 0 g.nodes.length g.nodes.length false∧aH 4 A.F= .int .i64 (i:Int)∧X.h.get rb=some (.cells (bF P) false 0)∧∃j,j+k=i+1∧aH 5 A.F= .int .i64 (j:Int)∧∀q,q<j→¬EqS g q i
def XfI(g:bC)(S1:St)(nv:AV)(rb:Nat)(k:Nat)(A:bH)(X:St):Prop:=A.inr=false∧bB rb S1 X∧aH 0 A.F=nv∧aH 3 A.F= .sl rb 0 g.nodes.length g.nodes.length false∧∃ (i:Nat) (P:List Int),i+k=g.nodes.length∧aH 4 A.F= .int .i64 (i:Int)∧X.h.get rb=some (.cells (bF P) false 0)∧aNp g i P
theorem aHB{S:St}{nv:AV}{g:bC}(H:Has fns)(G:vN g)(hw:∀i,i<g.nodes.length→(nodeAt g i).weights.length≤1000)(hn:aQ 6 cC S nv g.nodes):fB fns (.fn 87 [] []) [nv] S fun r X=>∃P,aCs S X r P∧Same S X∧aNp g g.nodes.length P:=by
 have hK:=iL G;have hN:=G.n2;have hnl:=aQ.len hn;refine bN H.f87 (by simp) ?_;simp only[↓aB,aA,rE,↓reduceIte,rA];refine bL ?_;simp only[↓aB,aA,rE,↓reduceIte];refine bL ?_;simp only[↓aB,aA,rE,↓reduceIte,hnl];refine fE (jU (n:=g.nodes.length) (by simp only[↓aB,aA,rE,↓reduceIte,aG]) (by simp only[↓aB,aA,rE,↓reduceIte,aG]) (by unfold room;omega) (by unfold room;omega)) ?_;intro S1 s1 n1 c1;rw[nI] at c1;try simp only[↓aB,aA,rE,↓reduceIte]
 refine aC (aT (Q:=fun o A' X=>o= .normal∧XfI g S1 nv S.nx 0 A' X) (aC (aF ?_)) ?_)
 ·simp only[↓aB,aA,rE,↓reduceIte];refine aK (bG (XfI g S1 nv S.nx) ?_ g.nodes.length _ _ ⟨rfl,bB.refl _ _,by simp only[↓aB,aA,rE,↓reduceIte],by simp only[↓aB,aA,rE,↓reduceIte],0,_,by omega,by simp only[↓aB,aA,rE,↓reduceIte],c1,Az ..,fun i hi=>by omega⟩);rintro k ⟨F,inr⟩ X ⟨q0,hX,p0,p3,i,P,hik,p4,cX,hP⟩;simp only at q0 p0 p3 p4;subst q0;refine fY ?_;simp only[↓aB,aA,rE,↓reduceIte,p0,p4,hnl,Ai,qT];by_cases hi:i<g.nodes.length;rotate_left
  ·refine aL (by simp only[↓aB,aA,rE,↓reduceIte,Aa hi]) (bD ?_);have hk:k=0:=by omega
   subst hk;exact⟨rfl,rfl,hX,by simp only[↓aB,aA,rE,↓reduceIte,p0],by simp only[↓aB,aA,rE,↓reduceIte,p3],i,P,hik,by simp only[↓aB,aA,rE,↓reduceIte,p4],cX,hP⟩
  refine aN (by simp only[↓aB,aA,rE,↓reduceIte,Ab hi]) (aI ?_);try simp only[↓aB,aA,rE,↓reduceIte]
  refine aC (aT (Q:=fun o A' Y=>o= .normal∧A'.inr=false∧bB S.nx S1 Y∧aH 0 A'.F=nv∧aH 3 A'.F= .sl S.nx 0 g.nodes.length g.nodes.length false∧aH 4 A'.F= .int .i64 (i:Int)∧∃P',Y.h.get S.nx=some (.cells (bF P') false 0)∧aNp g (i+1) P') (aK (aC (aF ?_))) ?_)
  ·simp only[↓aB,aA,rE,↓reduceIte];refine aK (bG (XfJ g S1 nv S.nx i P) ?_ (i+1) _ _ ⟨rfl,hX,by simp only[↓aB,aA,rE,↓reduceIte,p0],by simp only[↓aB,aA,rE,↓reduceIte,p3],by simp only[↓aB,aA,rE,↓reduceIte,p4],cX,0,by omega,by simp only[↓aB,aA,rE,↓reduceIte],fun q hq=>by omega⟩);clear p0 p3 p4 cX hX;rintro k ⟨F,inr⟩ Y ⟨q0,hY,p0,p3,p4,cY,j,hjk,p5,hJ⟩;simp only at q0 p0 p3 p4 p5;subst q0;have hji:j≤i:=by
    by_cases e:j≤i
    ·exact e
    ·exact absurd (aBg hK i hi) (hJ i (by omega))
   refine fY ?_;simp only[↓aB,aA,rE,↓reduceIte,p4,p5];refine aN (by simp only[↓aB,aA,rE,↓reduceIte,Ab (show(j:Int)≤(i:Int) by omega)]) (aI ?_);try simp only[↓aB,aA,rE,↓reduceIte]
   have sY:=hY.same s1 (by omega);refine aC (aK (aC (aF ?_)));simp only[↓aB,aA,rE,↓reduceIte,p0,p4,p5];refine aY ?_;try simp only[↓aB,aA,rE,↓reduceIte]
   refine aO (aGH H G hw hn j (by omega) i hi Y sY) ?_;rintro _ Z ⟨sZ,β,rfl,hβ⟩;have cZ:=(sZ.2 _ (show S.nx<Y.nx by have:=hY.1;omega)).trans cY;have hZ:=hY.trans (lJ (b:=S.nx) sZ);try simp only[↓aB,aA,rE,↓reduceIte]
   cases β with
   | false=>
    refine aL (by simp only[↓aB,aA,rE,↓reduceIte]) (aI ?_);try simp only[↓aB,aA,rE,↓reduceIte]
    refine aF ?_;simp only[↓aB,aA,rE,↓reduceIte,p5,dL (a:=j) (by omega)];refine⟨k - 1,by omega,rfl,hZ,by simp only[↓aB,aA,rE,↓reduceIte,p0],by simp only[↓aB,aA,rE,↓reduceIte,p3],by simp only[↓aB,aA,rE,↓reduceIte,p4],cZ,j+1,by omega,by simp only[↓aB,aA,rE,↓reduceIte],fun q hq=>?_⟩;by_cases e:q=j
    ·rw[e];exact fun h=>by have:=hβ.2 h;cases this
    ·exact hJ q (by omega)
   | true=>
    have ia:=eO (b:=S.nx) (o:=false) hi;refine aN (by simp only[↓aB,aA,rE,↓reduceIte]) (aC (aF ?_));simp only[↓aB,aA,rE,↓reduceIte,p3,p4,p5,aG,ia];refine eT (fun call=>by simp only[↓aB,aA,rE,↓reduceIte,dN,cH,p5];exact vT (S:=Z) cZ (by rw[hP.1];exact hi)) ?_;simp only[↓aB,aA,rE,↓reduceIte];refine bD ?_;refine⟨rfl,rfl,hZ.put _,by simp only[↓aB,aA,rE,↓reduceIte,p0],by simp only[↓aB,aA,rE,↓reduceIte,p3],by simp only[↓aB,aA,rE,↓reduceIte,p4],P.set i (j:Int),by simp only;rw[T.get_set,if_pos rfl],by rw[Be];exact hP.1,fun q hq=>?_⟩;rw[dR (by rw[hP.1];exact hi)];by_cases e:q=i
    ·rw[if_pos e,e];have h1:=hβ.1 rfl;refine⟨j,rfl,hji,pP.2 fun r hr h2=>hJ r hr ?_,h1⟩;exact oI hK r (by omega) j (by omega) i hi h2 h1
    ·rw[if_neg e];exact hP.2 q (by omega)
  clear p0 p3 p4 cX hX;rintro o ⟨F,inr⟩ Y ⟨rfl,q0,hY,p0,p3,p4,P',cY,hP'⟩;simp only at q0 p0 p3 p4;subst q0;try simp only[↓aB,aA,rE,↓reduceIte]
  refine aF ?_;simp only[↓aB,aA,rE,↓reduceIte,p4,dL (a:=i) (by omega)];exact⟨k - 1,by omega,rfl,hY,by simp only[↓aB,aA,rE,↓reduceIte,p0],by simp only[↓aB,aA,rE,↓reduceIte,p3],i+1,P',by omega,by simp only[↓aB,aA,rE,↓reduceIte],cY,hP'⟩
 rintro o ⟨F,inr⟩ X ⟨rfl,q0,hX,p0,p3,i,P,hik,p4,cX,hP⟩;simp only at q0 p3;subst q0;have hi:i=g.nodes.length:=by omega
 subst hi;have nX:=hX.1;try simp only[↓aB,aA,rE,↓reduceIte]
 refine bL ?_;simp only[↓aB,aA,rE,↓reduceIte,p3];refine aR ?_;simp only[↓aB,aA,rE,↓reduceIte];exact⟨P,⟨S.nx,by rw[hP.1],by omega,by omega,cX⟩,hX.same s1 (by omega),hP⟩
end Go.Ev.Gl
namespace Go.Ev.Gl
open Go.Sort
variable {fns:T cW}
theorem aMS{g:bC}(G:vN g):∀i,i<g.nodes.length→tJ g i≤tJ g 0:=by
 have hK:=iL G;obtain⟨L,h1,h2,h3⟩:=G.walk;intro i
 induction i using Nat.strongRecOn with
 | _ i ih=>
  intro hi;by_cases h0:i=0
  ·rw[h0];omega
  obtain⟨q,q1,_,q2⟩:=h3.pf i (by omega) (by omega);rw[Av,Av,aEM] at q2;have h4:=ih q q1 (by omega);have h5:=(aLq hK).2 q (by omega);rw[nH (by omega)] at h5;have h6:=aNP (H:=htL g) q2;rw[Cm,nH hi] at h6;omega
def vF(g:bC)(h:Int)(i:Nat)(L:List Nat):Prop:=L.Pairwise (bef (htL g))∧∀q,q∈L↔q<g.nodes.length∧lI g q=true∧(h<tJ g q∨tJ g q=h∧q<i)
theorem vF.nodup{g:bC}{h:Int}{i:Nat}{L:List Nat}(hL:vF g h i L):L.Nodup:=hL.1.imp fun {a b} hab e=>by
 subst e;exact yC hab hab
theorem vF.len{g:bC}{h:Int}{i:Nat}{L:List Nat}(hL:vF g h i L):L.length≤g.nodes.length:=by
 have:=hL.nodup.length_le_of_subset (l₂:=List.range g.nodes.length) fun q hq=>Et.2 ((hL.2 q).1 hq).1
 rwa [Fj] at this
theorem vF.add{g:bC}{h:Int}{i:Nat}{L:List Nat}(hL:vF g h i L)(hi:i<g.nodes.length)(h1:lI g i=true)(h2:tJ g i=h):vF g h (i+1) (L++ [i]):=by
 refine⟨?_,fun q=>?_⟩
 ·rw[List.pairwise_append];refine⟨hL.1,List.pairwise_singleton _ _,fun a ha b hb=>?_⟩;rw[Ca] at hb;subst hb;obtain⟨a1,a2,a3⟩:=(hL.2 a).1 ha;unfold bef;rw[nH a1,nH hi];omega
 ·rw[Bj,Ca,hL.2 q];constructor
  ·rintro(⟨a1,a2,a3⟩ | rfl)
   ·exact⟨a1,a2,by omega⟩
   ·exact⟨hi,h1,.inr ⟨h2,by omega⟩⟩
  ·rintro⟨a1,a2,a3⟩;by_cases e:q=i
   ·exact .inr e
   ·exact .inl ⟨a1,a2,by omega⟩
theorem vF.skip{g:bC}{h:Int}{i:Nat}{L:List Nat}(hL:vF g h i L)(hne:¬ (lI g i=true∧tJ g i=h)):vF g h (i+1) L:=by
 refine⟨hL.1,fun q=>?_⟩;rw[hL.2 q];constructor
 ·rintro⟨a1,a2,a3⟩;exact⟨a1,a2,by omega⟩
 ·rintro⟨a1,a2,a3⟩;refine⟨a1,a2,?_⟩;by_cases e:q=i
  ·subst e;rcases a3 with a3 | ⟨a3,_⟩
   ·exact .inl a3
   ·exact absurd ⟨a2,a3⟩ hne
  ·omega
theorem vF.next{g:bC}{h:Int}{L:List Nat}(hL:vF g h g.nodes.length L):vF g (h - 1) 0 L:=by
 refine⟨hL.1,fun q=>?_⟩;rw[hL.2 q];constructor
 ·rintro⟨a1,a2,a3⟩;exact⟨a1,a2,by omega⟩
 ·rintro⟨a1,a2,a3⟩;exact⟨a1,a2,by omega⟩
theorem vF.perm{g:bC}{L:List Nat}(hK:eQ g)(hL:vF g (-1) 0 L):L.Perm (nQ g g.nodes.length):=by
 rw[List.perm_ext_iff_of_nodup hL.nodup (aAq g _)];intro q;rw[hL.2 q,tO];constructor
 ·rintro⟨a1,a2,_⟩;exact⟨a1,a2⟩
 ·rintro⟨a1,a2⟩;have:=oF hK a1;exact⟨a1,a2,by omega⟩
theorem aK4{g:bC}(hK:eQ g){P:List Int}(hP:aNp g g.nodes.length P){i:Nat}(hi:i<g.nodes.length):P.getD i 0=(i:Int)↔lI g i=true:=by
 obtain⟨j,j1,j2,j3,j4⟩:=hP.2 i hi;constructor
 ·intro h;have:j=i:=by omega
  rw[←this];exact j3
 ·intro h;rw[j1,zF hK (by omega) hi j3 h j4]
def XcI(g:bC)(Y:St)(nv r1 r2:AV)(k:Nat)(A:bH)(X:St):Prop:=A.inr=false∧Same Y X∧aH 0 A.F=nv∧aH 4 A.F=r1∧aH 5 A.F=r2∧aH 6 A.F= .int .i64 ((k:Int) - 1)∧(k:Int)≤(g.nodes.length:Int)+1∧∃ (v:AV) (L:List Nat),aH 3 A.F=v∧vF g ((k:Int) - 1) 0 L∧iD 1 Y X v (gR L).length (bF (gR L))
def XcJ(g:bC)(Y:St)(nv r1 r2:AV)(h:Int)(k:Nat)(A:bH)(X:St):Prop:=A.inr=false∧Same Y X∧aH 0 A.F=nv∧aH 4 A.F=r1∧aH 5 A.F=r2∧aH 6 A.F= .int .i64 h∧∃ (i:Nat) (v:AV) (L:List Nat),i+k=g.nodes.length∧aH 7 A.F= .int .i64 (i:Int)∧aH 3 A.F=v∧vF g h i L∧iD 1 Y X v (gR L).length (bF (gR L))
def XcK(g:bC)(X0:St)(nv r1 v:AV)(cb:Nat)(L:List Nat)(P:List Int)(k:Nat)(A:bH)(X:St):Prop:=A.inr=false∧bB cb X0 X∧aH 0 A.F=nv∧aH 4 A.F=r1∧aH 3 A.F=v∧aH 2 A.F= .sl cb 0 g.nodes.length g.nodes.length false∧∃ (i:Nat) (C:List Int),i+k=g.nodes.length∧aH 8 A.F= .int .i64 (i:Int)∧C.length=g.nodes.length∧X.h.get cb=some (.cells (bF C) false 0)∧∀ (j:Nat),j<i→∀ (p q:Nat),L[p]? =some q→(q:Int)=P.getD j 0→C.getD j 0=(p:Int)
def XcL(g:bC)(X0:St)(nv r1 v:AV)(cb:Nat)(L:List Nat)(P:List Int)(i:Nat)(k:Nat)(A:bH)(X:St):Prop:=A.inr=false∧bB cb X0 X∧aH 0 A.F=nv∧aH 4 A.F=r1∧aH 3 A.F=v∧aH 2 A.F= .sl cb 0 g.nodes.length g.nodes.length false∧aH 8 A.F= .int .i64 (i:Int)∧∃ (a:Nat) (C:List Int),a+k=L.length∧aH 9 A.F= .int .i64 (a:Int)∧C.length=g.nodes.length∧X.h.get cb=some (.cells (bF C) false 0)∧(∀ (j:Nat),j<i→∀ (p q:Nat),L[p]? =some q→(q:Int)=P.getD j 0→C.getD j 0=(p:Int))∧∀ (p q:Nat),p<a→L[p]? =some q→(q:Int)=P.getD i 0→C.getD i 0=(p:Int)
theorem aEj{S:St}{nv:AV}{g:bC}(H:Has fns)(G:vN g)(hw:∀i,i<g.nodes.length→(nodeAt g i).weights.length≤1000)(hn:aQ 6 cC S nv g.nodes):fB fns (.fn 70 [] []) [nv] S fun r X=>∃a b F C,r= .tup [a,b]∧Same S X∧xC g (htL g) F C∧bI .i64 X a C∧bI .i64 X b (gR F):=by
 have hK:=iL G;have hN:=G.n2;have hnl:=aQ.len hn;refine bN H.f70 (by simp) ?_;simp only[↓aB,aA,rE,↓reduceIte,rA];refine bL ?_;simp only[↓aB,aA,rE,↓reduceIte];refine bL ?_;simp only[↓aB,aA,rE,↓reduceIte];refine aY ?_;try simp only[↓aB,aA,rE,↓reduceIte]
 refine aO (aHB H G hw hn) ?_;rintro r1 Y1 ⟨P,oP,y1,hP⟩;try simp only[↓aB,aA,rE,↓reduceIte]
 refine aY ?_;try simp only[↓aB,aA,rE,↓reduceIte]
 refine aO (aEu H G (aQ.same (E:=cC) bR hn y1)) ?_;rintro r2 Y ⟨oH,y2⟩;have iP:=(oP.same y2).is;have iH:=oH.is;have y12:=y1.trans y2;have pl:=hP.1;have hhl:=oK g;clear oP oH;have i0:=iH.iaddr (show 0<(htL g).length by rw[hhl];exact G.n1);have l0:=iH.ld (show 0<(htL g).length by rw[hhl];exact G.n1);rw[nH G.n1] at l0;have h0:=oF hK G.n1;obtain⟨K,hKe⟩:∃K:Nat,tJ g 0=(K:Int):=⟨(tJ g 0).toNat,by omega⟩;rw[hKe] at l0;try simp only[↓aB,aA,rE,↓reduceIte]
 refine aC (aT (Q:=fun o A' X=>o= .normal∧XcI g Y nv r1 r2 0 A' X) (aC (aF ?_)) ?_)
 ·have z0:eZ (.int .i64 0)=some 0:=rfl;simp only[↓aB,aA,rE,↓reduceIte,bI.self iP,bI.self iH,z0,i0,l0];refine aK (bG (XcI g Y nv r1 r2) ?_ (K+1) _ _ ⟨rfl,Same.refl _,by simp only[↓aB,aA,rE,↓reduceIte],by simp only[↓aB,aA,rE,↓reduceIte],by simp only[↓aB,aA,rE,↓reduceIte],by simp only[↓aB,aA,rE,↓reduceIte];congr 1;omega,by omega,.nilsl,[],by simp only[↓aB,aA,rE,↓reduceIte],⟨List.Pairwise.nil,fun q=>?_⟩,.inl ⟨rfl,rfl,rfl⟩⟩)
  ·rintro k ⟨F,inr⟩ X ⟨q0,sX,p0,p4,p5,p6,hk,v,L,p3,hL,hg⟩;simp only at q0 p0 p3 p4 p5 p6;subst q0;refine fY ?_;simp only[↓aB,aA,rE,↓reduceIte,p6];by_cases hk0:k=0
   ·subst hk0;refine aL (by simp only[↓aB,aA,rE,↓reduceIte];exact Ce _ (Aa (by omega))) (bD ?_);exact⟨rfl,rfl,sX,by simp only[↓aB,aA,rE,↓reduceIte,p0],by simp only[↓aB,aA,rE,↓reduceIte,p4],by simp only[↓aB,aA,rE,↓reduceIte,p5],by simp only[↓aB,aA,rE,↓reduceIte,p6],hk,v,L,by simp only[↓aB,aA,rE,↓reduceIte,p3],hL,hg⟩
   obtain⟨h,rfl⟩:∃h,k=h+1:=⟨k - 1,by omega⟩;have e6:(((h+1:Nat):Int) - 1)=(h:Int):=by omega
   rw[e6] at p6 hL ⊢;refine aN (by simp only[↓aB,aA,rE,↓reduceIte,Ab (show(0:Int)≤(h:Int) by omega)]) (aI ?_);try simp only[↓aB,aA,rE,↓reduceIte]
   refine aC (aT (Q:=fun o A' Z=>o= .normal∧XcJ g Y nv r1 r2 (h:Int) 0 A' Z) (aK (aC (aF ?_))) ?_)
   ·simp only[↓aB,aA,rE,↓reduceIte];refine aK (bG (XcJ g Y nv r1 r2 (h:Int)) ?_ g.nodes.length _ _ ⟨rfl,sX,by simp only[↓aB,aA,rE,↓reduceIte,p0],by simp only[↓aB,aA,rE,↓reduceIte,p4],by simp only[↓aB,aA,rE,↓reduceIte,p5],by simp only[↓aB,aA,rE,↓reduceIte,p6],0,v,L,by omega,by simp only[↓aB,aA,rE,↓reduceIte],by simp only[↓aB,aA,rE,↓reduceIte,p3],hL,hg⟩);clear p0 p3 p4 p5 p6 hg hL sX v L;rintro k ⟨F,inr⟩ X ⟨q0,sX,p0,p4,p5,p6,i,v,L,hik,p7,p3,hL,hg⟩;simp only at q0 p0 p3 p4 p5 p6 p7;subst q0;refine fY ?_;simp only[↓aB,aA,rE,↓reduceIte,p0,p7,hnl,Ai,qT];by_cases hi:i<g.nodes.length;rotate_left
    ·refine aL (by simp only[↓aB,aA,rE,↓reduceIte,Aa hi]) (bD ?_);have hk:k=0:=by omega
     subst hk;exact⟨rfl,rfl,sX,by simp only[↓aB,aA,rE,↓reduceIte,p0],by simp only[↓aB,aA,rE,↓reduceIte,p4],by simp only[↓aB,aA,rE,↓reduceIte,p5],by simp only[↓aB,aA,rE,↓reduceIte,p6],i,v,L,hik,by simp only[↓aB,aA,rE,↓reduceIte,p7],by simp only[↓aB,aA,rE,↓reduceIte,p3],hL,hg⟩
    refine aN (by simp only[↓aB,aA,rE,↓reduceIte,Ab hi]) (aI ?_);try simp only[↓aB,aA,rE,↓reduceIte]
    have iPX:=iP.same sX;have iHX:=iH.same sX;have ip:=iPX.iaddr (show i<P.length by omega);have lp:=iPX.ld (show i<P.length by omega);have ih:=iHX.iaddr (show i<(htL g).length by omega);have lh:=iHX.ld (show i<(htL g).length by omega);rw[nH hi] at lh;have hfi:=aK4 hK hP hi;have sp:=bI.self iP;have sh:=bI.self iH;refine aC (aT (Q:=fun o A' Z=>o= .normal∧A'.inr=false∧Same Y Z∧aH 0 A'.F=nv∧aH 4 A'.F=r1∧aH 5 A'.F=r2∧aH 6 A'.F= .int .i64 (h:Int)∧aH 7 A'.F= .int .i64 (i:Int)∧∃v L,aH 3 A'.F=v∧vF g (h:Int) (i+1) L∧iD 1 Y Z v (gR L).length (bF (gR L))) (aK (aC (aF ?_))) ?_)
    ·by_cases hf:lI g i=true;rotate_left
     ·have d1:=Aa (fun e=>hf (hfi.1 e));simp only[↓aB,aA,rE,↓reduceIte,p4,p5,p6,p7,sp,sh,aG,ip,lp,d1];refine aL (by simp only[↓aB,aA,rE,↓reduceIte]) (aI ?_);exact⟨rfl,rfl,sX,by simp only[↓aB,aA,rE,↓reduceIte,p0],by simp only[↓aB,aA,rE,↓reduceIte,p4],by simp only[↓aB,aA,rE,↓reduceIte,p5],by simp only[↓aB,aA,rE,↓reduceIte,p6],by simp only[↓aB,aA,rE,↓reduceIte,p7],v,L,by simp only[↓aB,aA,rE,↓reduceIte,p3],hL.skip fun e=>hf e.1,hg⟩
     have d1:=Ab (hfi.2 hf);by_cases hh:tJ g i=(h:Int);rotate_left
     ·simp only[↓aB,aA,rE,↓reduceIte,p4,p5,p6,p7,sp,sh,aG,ip,lp,ih,lh,d1,Aa hh];refine aL (by simp only[↓aB,aA,rE,↓reduceIte]) (aI ?_);exact⟨rfl,rfl,sX,by simp only[↓aB,aA,rE,↓reduceIte,p0],by simp only[↓aB,aA,rE,↓reduceIte,p4],by simp only[↓aB,aA,rE,↓reduceIte,p5],by simp only[↓aB,aA,rE,↓reduceIte,p6],by simp only[↓aB,aA,rE,↓reduceIte,p7],v,L,by simp only[↓aB,aA,rE,↓reduceIte,p3],hL.skip fun e=>hh e.2,hg⟩
     simp only[↓aB,aA,rE,↓reduceIte,p4,p5,p6,p7,sp,sh,aG,ip,lp,ih,lh,d1,Ab hh];refine aN (by simp only[↓aB,aA,rE,↓reduceIte]) (aF ?_);simp only[↓aB,aA,rE,↓reduceIte,p3,p7];refine fE (nB (k:=.i64) (n:=(i:Int)) (by simp only[↓aB,aA,rE,↓reduceIte,p7])) ?_;intro X2 x2 nX2 c2;try simp only[↓aB,aA,rE,↓reduceIte,p3]
     have hll:=hL.len;have hnl2:=fQ L;obtain⟨v',X3,f1,f2,f3,f4,f5⟩:=iD.push (bytes:=8) (hg.step x2) (sX.trans x2) c2 (by unfold room;omega) (by unfold room;omega);refine eT (v:=v') (S1:=X3) (fun call=>by rw[iY];simp only[↓aB,aA,rE,↓reduceIte,p3];exact f1) ?_;have e2:gR (L++ [i])=gR L++ [(i:Int)]:=by
      unfold gR;rw[Cu];rfl
     simp only[↓aB,aA,rE,↓reduceIte];have sX2:=sX.trans x2;refine⟨⟨by have:=sX2.1;omega,fun c hc=>?_⟩,p0,p4,p5,p6,p7,v',L++ [i],rfl,hL.add hi hf hh,by rw[e2];exact f2⟩;rw[f5 c (by have:=sX2.1;omega) (fun e=>by have:=(hg.blk e).1;omega)];exact sX2.2 c hc
    clear p0 p3 p4 p5 p6 p7 hg hL sX iPX iHX lp lh v L ip ih;rintro o ⟨F,inr⟩ X ⟨rfl,q0,sX,p0,p4,p5,p6,p7,v,L,p3,hL,hg⟩;simp only at q0 p0 p3 p4 p5 p6 p7;subst q0;try simp only[↓aB,aA,rE,↓reduceIte]
    refine aF ?_;simp only[↓aB,aA,rE,↓reduceIte,p7,dL (a:=i) (by omega)];exact⟨k - 1,by omega,rfl,sX,by simp only[↓aB,aA,rE,↓reduceIte,p0],by simp only[↓aB,aA,rE,↓reduceIte,p4],by simp only[↓aB,aA,rE,↓reduceIte,p5],by simp only[↓aB,aA,rE,↓reduceIte,p6],i+1,v,L,by omega,by simp only[↓aB,aA,rE,↓reduceIte],by simp only[↓aB,aA,rE,↓reduceIte,p3],hL,hg⟩
   clear p0 p3 p4 p5 p6 hg hL sX v L;rintro o ⟨F,inr⟩ X ⟨rfl,q0,sX,p0,p4,p5,p6,i,v,L,hik,p7,p3,hL,hg⟩;simp only at q0 p0 p3 p4 p5 p6;subst q0;have hi:i=g.nodes.length:=by omega
   subst hi;have w2:IntKind.i64.wrap ((h:Int) - 1)=(h:Int) - 1:=wrap_i64 (by omega) (by omega);try simp only[↓aB,aA,rE,↓reduceIte]
   refine aF ?_;simp only[↓aB,aA,rE,↓reduceIte,p6,w2];exact⟨h,by omega,rfl,sX,by simp only[↓aB,aA,rE,↓reduceIte,p0],by simp only[↓aB,aA,rE,↓reduceIte,p4],by simp only[↓aB,aA,rE,↓reduceIte,p5],by simp only[↓aB,aA,rE,↓reduceIte],by omega,v,L,by simp only[↓aB,aA,rE,↓reduceIte,p3],hL.next,hg⟩
  ·constructor
   ·intro h;cases h
   ·rintro⟨a1,a2,a3⟩;have:=aMS G q a1;omega
 rintro o ⟨F,inr⟩ X ⟨rfl,q0,sX,p0,p4,p5,p6,hk,v,L,p3,hL,hg⟩;simp only at q0 p0 p3 p4;subst q0;have hL:vF g (-1) 0 L:=hL;clear p5 p6 hk;have hp:=hL.perm hK;have hll:=hL.len;have vlt:∀c,aX v=some c→c<X.nx:=fun c hc=>(hg.blk hc).2.1;try simp only[↓aB,aA,rE,↓reduceIte]
 refine bL ?_;simp only[↓aB,aA,rE,↓reduceIte,p0,hnl];refine fE (jU (n:=g.nodes.length) (by simp only[↓aB,aA,rE,↓reduceIte,aG]) (by simp only[↓aB,aA,rE,↓reduceIte,aG]) (by unfold room;omega) (by unfold room;omega)) ?_;intro X1 x1 nX1 cX1;rw[nI] at cX1;try simp only[↓aB,aA,rE,↓reduceIte]
 have iP1:=iP.same (sX.trans x1);have iL1:=hg.is.same x1;have plow:∀c,aX r1=some c→c<X.nx:=fun c hc=>Ae (dP iP hc) sX.1;refine aC (aT (Q:=fun o A' U=>o= .normal∧XcK g X1 nv r1 v X.nx L P 0 A' U) (aC (aF ?_)) ?_)
 ·simp only[↓aB,aA,rE,↓reduceIte];refine aK (bG (XcK g X1 nv r1 v X.nx L P) ?_ g.nodes.length _ _ ⟨rfl,bB.refl _ _,by simp only[↓aB,aA,rE,↓reduceIte,p0],by simp only[↓aB,aA,rE,↓reduceIte,p4],by simp only[↓aB,aA,rE,↓reduceIte,p3],by simp only[↓aB,aA,rE,↓reduceIte],0,_,by omega,by simp only[↓aB,aA,rE,↓reduceIte],Az ..,cX1,fun j h=>by omega⟩);clear p0 p3 p4;rintro k ⟨F,inr⟩ U ⟨q0,hU,p0,p4,p3,p2,i,C,hik,p8,hCl,cU,hC⟩;simp only at q0 p0 p2 p3 p4 p8;subst q0;refine fY ?_;simp only[↓aB,aA,rE,↓reduceIte,p0,p8,hnl,Ai,qT];by_cases hi:i<g.nodes.length;rotate_left
  ·refine aL (by simp only[↓aB,aA,rE,↓reduceIte,Aa hi]) (bD ?_);have hk:k=0:=by omega
   subst hk;exact⟨rfl,rfl,hU,by simp only[↓aB,aA,rE,↓reduceIte,p0],by simp only[↓aB,aA,rE,↓reduceIte,p4],by simp only[↓aB,aA,rE,↓reduceIte,p3],by simp only[↓aB,aA,rE,↓reduceIte,p2],i,C,hik,by simp only[↓aB,aA,rE,↓reduceIte,p8],hCl,cU,hC⟩
  refine aN (by simp only[↓aB,aA,rE,↓reduceIte,Ab hi]) (aI ?_);try simp only[↓aB,aA,rE,↓reduceIte]
  refine aC (aT (Q:=fun o A' Z=>o= .normal∧XcL g X1 nv r1 v X.nx L P i 0 A' Z) (aK (aC (aF ?_))) ?_)
  ·simp only[↓aB,aA,rE,↓reduceIte];refine aK (bG (XcL g X1 nv r1 v X.nx L P i) ?_ L.length _ _ ⟨rfl,hU,by simp only[↓aB,aA,rE,↓reduceIte,p0],by simp only[↓aB,aA,rE,↓reduceIte,p4],by simp only[↓aB,aA,rE,↓reduceIte,p3],by simp only[↓aB,aA,rE,↓reduceIte,p2],by simp only[↓aB,aA,rE,↓reduceIte,p8],0,C,by omega,by simp only[↓aB,aA,rE,↓reduceIte],hCl,cU,hC,fun p q h=>by omega⟩);clear p0 p2 p3 p4 p8 hU cU hC hCl C;rintro k ⟨F,inr⟩ U ⟨q0,hU,p0,p4,p3,p2,p8,a,C,hak,p9,hCl,cU,hC,hI⟩;simp only at q0 p0 p2 p3 p4 p8 p9;subst q0;have iPU:bI .i64 U r1 P:=dJ iP1 hU.1 fun c hc=>hU.2 c (by have:=plow c hc;omega) (by have:=plow c hc;omega);have iLU:bI .i64 U v (gR L):=dJ iL1 hU.1 fun c hc=>hU.2 c (by have:=vlt c hc;omega) (by have:=vlt c hc;omega);have ll:=iLU.len;rw[fQ] at ll;refine fY ?_;simp only[↓aB,aA,rE,↓reduceIte,p3,p9,ll,Ai,qT];by_cases ha:a<L.length;rotate_left
   ·refine aL (by simp only[↓aB,aA,rE,↓reduceIte,Aa ha]) (bD ?_);have hk:k=0:=by omega
    subst hk;exact⟨rfl,rfl,hU,by simp only[↓aB,aA,rE,↓reduceIte,p0],by simp only[↓aB,aA,rE,↓reduceIte,p4],by simp only[↓aB,aA,rE,↓reduceIte,p3],by simp only[↓aB,aA,rE,↓reduceIte,p2],by simp only[↓aB,aA,rE,↓reduceIte,p8],a,C,hak,by simp only[↓aB,aA,rE,↓reduceIte,p9],hCl,cU,hC,hI⟩
   refine aN (by simp only[↓aB,aA,rE,↓reduceIte,Ab ha]) (aI ?_);try simp only[↓aB,aA,rE,↓reduceIte]
   obtain⟨q,hq⟩:∃q,L[a]? =some q:=⟨_,Ad ha⟩;have ia:=iLU.iaddr (show a<(gR L).length by rw[fQ];exact ha);have la:=iLU.ld (show a<(gR L).length by rw[fQ];exact ha);rw[aA1 hq] at la;have ip:=iPU.iaddr (show i<P.length by omega);have lp:=iPU.ld (show i<P.length by omega);have sp:=bI.self iP;have sv:=bI.self iLU;have ic:=eO (b:=X.nx) (o:=false) hi;have nd:=hL.nodup;have once:∀ (p q':Nat),p≠a→L[p]? =some q'→(q:Int)≠(q':Int):=fun p q' hpa hp2 e=>by
    have e:q=q':=Int.ofNat.inj e;subst e;obtain⟨b1,b2⟩:=Af.1 hp2;obtain⟨b3,b4⟩:=Af.1 hq;rcases Nat.lt_or_gt_of_ne hpa with h | h
    ·exact(Da.1 nd p a b1 b3 h) (b2.trans b4.symm)
    ·exact(Da.1 nd a p b3 b1 h) (b4.trans b2.symm)
   refine aC (aT (Q:=fun o A' Z=>o= .normal∧A'.inr=false∧bB X.nx X1 Z∧aH 0 A'.F=nv∧aH 4 A'.F=r1∧aH 3 A'.F=v∧aH 2 A'.F= .sl X.nx 0 g.nodes.length g.nodes.length false∧aH 8 A'.F= .int .i64 (i:Int)∧aH 9 A'.F= .int .i64 (a:Int)∧∃C,C.length=g.nodes.length∧Z.h.get X.nx=some (.cells (bF C) false 0)∧(∀ (j:Nat),j<i→∀ (p q:Nat),L[p]? =some q→(q:Int)=P.getD j 0→C.getD j 0=(p:Int))∧∀ (p q:Nat),p<a+1→L[p]? =some q→(q:Int)=P.getD i 0→C.getD i 0=(p:Int)) (aK (aC (qV ?_))) ?_)
   ·simp only[↓sU,sD,rE,↓reduceIte,rA,p3,p4,p8,p9,sp,sv,aG,ia,la,ip,lp];by_cases he:(q:Int)=P.getD i 0;rotate_left
    ·refine aL (by simp only[↓sU,sD,rE,↓reduceIte,rA,Aa he]) (aI ?_);refine⟨rfl,rfl,hU.nx _,by simp only[↓sU,sD,rE,↓reduceIte,rA,p0],by simp only[↓sU,sD,rE,↓reduceIte,rA,p4],by simp only[↓sU,sD,rE,↓reduceIte,rA,p3],by simp only[↓sU,sD,rE,↓reduceIte,rA,p2],by simp only[↓sU,sD,rE,↓reduceIte,rA,p8],by simp only[↓sU,sD,rE,↓reduceIte,rA,p9],C,hCl,cU,hC,fun p q' hpa hp2 h3=>?_⟩;by_cases e:p=a
     ·subst e;rw[hq] at hp2;cases hp2;exact absurd h3 he
     ·exact hI p q' (by omega) hp2 h3
    ·refine aN (by simp only[↓sU,sD,rE,↓reduceIte,rA,Ab he]) (aF ?_);simp only[↓sU,sD,rE,↓reduceIte,rA,p2,p8,p9,aG,ic];refine eT (fun call=>by simp only[↓sU,sD,rE,↓reduceIte,rA,dN,cH,p9];exact vT (S:=⟨U.h,U.nx+9⟩) cU (by rw[hCl];exact hi)) ?_;simp only[↓sU,sD,rE,↓reduceIte,rA];refine⟨(hU.nx _).put _,p0,p4,p3,p2,p8,p9,C.set i (a:Int),by rw[Be];exact hCl,by rw[T.get_set,if_pos rfl],fun j hj p q' h1 h2=>?_,fun p q' hpa hp2 h3=>?_⟩
     ·rw[dR (by rw[hCl];exact hi),if_neg (by omega)];exact hC j hj p q' h1 h2
     ·rw[dR (by rw[hCl];exact hi),if_pos rfl];by_cases e:p=a
      ·rw[e]
      ·exact absurd (he.trans h3.symm) (once p q' e hp2)
   clear p0 p2 p3 p4 p8 p9 hU cU hC hCl hI C iPU iLU ll ia la ip lp sv;rintro o ⟨F,inr⟩ U ⟨rfl,q0,hU,p0,p4,p3,p2,p8,p9,C,hCl,cU,hC,hI⟩;simp only at q0 p0 p2 p3 p4 p8 p9;subst q0;try simp only[↓aB,aA,rE,↓reduceIte]
   refine aF ?_;simp only[↓aB,aA,rE,↓reduceIte,p9,dL (a:=a) (by omega)];exact⟨k - 1,by omega,rfl,hU,by simp only[↓aB,aA,rE,↓reduceIte,p0],by simp only[↓aB,aA,rE,↓reduceIte,p4],by simp only[↓aB,aA,rE,↓reduceIte,p3],by simp only[↓aB,aA,rE,↓reduceIte,p2],by simp only[↓aB,aA,rE,↓reduceIte,p8],a+1,C,by omega,by simp only[↓aB,aA,rE,↓reduceIte],hCl,cU,hC,hI⟩
  clear p0 p2 p3 p4 p8 hU cU hC hCl C;rintro o ⟨F,inr⟩ U ⟨rfl,q0,hU,p0,p4,p3,p2,p8,a,C,hak,p9,hCl,cU,hC,hI⟩;simp only at q0 p0 p2 p3 p4 p8;subst q0;try simp only[↓aB,aA,rE,↓reduceIte]
  refine aF ?_;simp only[↓aB,aA,rE,↓reduceIte,p8,dL (a:=i) (by omega)];refine⟨k - 1,by omega,rfl,hU,by simp only[↓aB,aA,rE,↓reduceIte,p0],by simp only[↓aB,aA,rE,↓reduceIte,p4],by simp only[↓aB,aA,rE,↓reduceIte,p3],by simp only[↓aB,aA,rE,↓reduceIte,p2],i+1,C,by omega,by simp only[↓aB,aA,rE,↓reduceIte],hCl,cU,fun j hj p q h1 h2=>?_⟩;by_cases e:j=i
  ·subst e;exact hI p q (by have:=(Af.1 h1).1;omega) h1 h2
  ·exact hC j (by omega) p q h1 h2
 clear p0 p3 p4;rintro o ⟨F,inr⟩ U ⟨rfl,q0,hU,p0,p4,p3,p2,i,C,hik,p8,hCl,cU,hC⟩;simp only at q0 p3 p2;subst q0;have hi:i=g.nodes.length:=by omega
 subst hi;have nU:=hU.1;have iLU:bI .i64 U v (gR L):=dJ iL1 hU.1 fun c hc=>hU.2 c (by have:=vlt c hc;omega) (by have:=vlt c hc;omega);try simp only[↓aB,aA,rE,↓reduceIte]
 refine bL ?_;simp only[↓aB,aA,rE,↓reduceIte,p2,p3];refine aR ?_;simp only[↓aB,aA,rE,↓reduceIte];have sQU:Same S U:=bB.same ((y12.trans sX).trans x1) hU (by have:=(y12.trans sX).1;omega);refine⟨_,_,L,C,rfl,sQU,⟨hp,hL.1,hCl,fun j hj=>?_⟩,iU cU (by omega) hCl,iLU⟩;obtain⟨f,f1,f2,f3,f4⟩:=hP.2 j hj;have hm:f∈L:=hp.mem_iff.2 (tO.2 ⟨by omega,f3⟩);obtain⟨p,hpf⟩:=Dj hm;exact⟨p,f,hpf,hC j hj p f hpf f1.symm,f4⟩
end Go.Ev.Gl
namespace Go.Ev.Gl
open Go.Sort
variable {fns:T cW}
def tE(g:bC)(C:List Int)(q:Nat):bO:={nodeAt g q with next:=(nodeAt g q).next.map fun c=>C.getD c.toNat 0}
def aA4(g:bC)(F:List Nat)(C:List Int):bC:=⟨g.players,F.map (tE g C),g.infos⟩
theorem aAu{g:bC}(h:fH g=0):∀i,i<g.nodes.length→aMy (nodeAt g i)∧(nodeAt g i).weights.length≤1000:=by
 have G:=aK8 h;have hN:=G.good.n2;have hI:=G.good.ni;have hp:=G.prs;unfold fH at h;split at h
 ·cases h
 split at h
 ·rename_i h1;exact absurd h h1
 rename_i hE;have hE:=Decidable.not_not.1 hE;intro i hi;have hx:iA g.players g.infos.length (nodeAt g i)=0:=iW hE _ (Ao (cM hi));have hk:=G.knd i hi;have hnx:=G.good.nxt i hi;generalize nodeAt g i=x at *;have any:∀ {lo hi:Int} {l:List Int},¬gO lo hi l→∀w∈l,lo≤w∧w≤hi:=fun {lo hi l} ha w hw=>by
  have:¬ (w<lo∨hi<w):=fun h=>ha ⟨w,hw,h⟩;omega
 have nil:∀ {l:List Int},¬ (0:Int)<((l.length:Nat):Int)→l= []:=fun {l} h=>Cg.1 (by omega);unfold iA at hx;split at hx
 ·rename_i k1;split at hx
  ·cases hx
  rename_i hb;split at hx
  ·cases hx
  rename_i ha;unfold mS at hb;have e1:x.pay= []:=nil (by omega);refine⟨⟨by unfold Rng;omega,by unfold Rng;omega,by unfold Rng;omega,fun w hw=>by have:=any ha w hw;unfold Rng;omega,(fun w hw=>by rw[e1] at hw;cases hw)⟩,by omega⟩
 split at hx
 ·rename_i k2;split at hx
  ·cases hx
  rename_i hb;split at hx
  ·cases hx
  unfold xP at hb;have e1:x.pay= []:=nil (by omega);have e2:x.weights= []:=nil (by omega);refine⟨⟨by unfold Rng;omega,by unfold Rng;omega,by unfold Rng;omega,(fun w hw=>by rw[e2] at hw;cases hw),(fun w hw=>by rw[e1] at hw;cases hw)⟩,by rw[e2];simp⟩
 split at hx
 ·rename_i k3;split at hx
  ·cases hx
  rename_i hb;split at hx
  ·cases hx
  rename_i ha;unfold oG at hb;have e2:x.weights= []:=nil (by omega);refine⟨⟨by unfold Rng;omega,by unfold Rng;omega,by unfold Rng;omega,(fun w hw=>by rw[e2] at hw;cases hw),fun w hw=>by have:=any ha w hw;unfold Rng;omega⟩,by rw[e2];simp⟩
 ·cases hx
theorem aIN{k:Nat}{α:Type}{E:St→List AV→α→Prop}{S:St}{l:List α}(h:aQ k E S .nilsl l):l= []:=by
 rcases h with⟨h,_⟩ | ⟨b,off,cap,o,cs,h,_⟩
 ·exact h
 ·cases h
theorem aK2{k:Nat}{α:Type}{E:St→List AV→α→Prop}{S:St}{v:AV}{l:List α}(h:aQ k E S v l)(hv:v≠ .nilsl):eY .eql (.p .slice) v .nilsl=some (.bool false):=by
 rcases h with⟨_,rfl | rfl⟩ | ⟨b,off,cap,o,cs,rfl,_⟩
 ·exact absurd rfl hv
 ·rfl
 ·rfl
theorem qX{S:St}{v:AV}{l:List Int}(H:Has fns)(h:bI .i64 S v l)(hl:l.length≤10000000):fB fns (.fn 40 [] []) [v] S fun r X=>bI .i64 X r l∧Same S X∧(∀c,aX r=some c→S.nx≤c)∧∀c,aX r=some c→Wr X c:=by
 refine bN H.f40 (by simp) ?_;simp only[↓sU,sD,rE,↓reduceIte,rA];refine bL ?_;simp only[↓sU,sD,rE,↓reduceIte,rA];by_cases hv:v= .nilsl
 ·subst hv;have hl0:=aIN (toG h);subst hl0;have he:eY .eql (.p .slice) .nilsl .nilsl=some (.bool true):=rfl;refine fY ?_;simp only[↓sU,sD,rE,↓reduceIte,rA,he];refine aN (by simp only[↓sU,sD,rE,↓reduceIte,rA]) (aC (aF ?_));simp only[↓sU,sD,rE,↓reduceIte,rA];refine aR ?_;simp only[↓sU,sD,rE,↓reduceIte,rA];exact⟨.inl ⟨rfl,.inl rfl⟩,Same.refl S,fun c hc=>(by cases hc),fun c hc=>(by cases hc)⟩
 ·have he:=aK2 (toG h) hv;refine fY ?_;simp only[↓sU,sD,rE,↓reduceIte,rA,he];refine aL (by simp only[↓sU,sD,rE,↓reduceIte,rA]) (aI ?_);try simp only[↓sU,sD,rE,↓reduceIte,rA]
  refine bL ?_;refine fE oN ?_;intro S1 s1 n1 g1;simp only[↓aB,aA,rE,↓reduceIte,rA];obtain⟨r,S2,e,hr,s2,kr,wr⟩:=yA (bytes:=8) (E:=aHt) (l:=l) tA Nat.one_pos g1 (by omega) (toG (h.same s1)) (by unfold room;omega) (by unfold room;omega);refine eT (fun call=>by simp only[↓aB,aA,rE,↓reduceIte,rA,iY];exact e) ?_;simp only[↓aB,aA,rE,↓reduceIte,rA];refine aR ?_;simp only[↓aB,aA,rE,↓reduceIte,rA];exact⟨ofG hr,s1.trans s2,fun c hc=>by rcases kr c hc with h | h<;>omega,wr⟩
theorem aCy{S:St}{v:AV}{l:List zA}(H:Has fns)(h:aQ 2 dI S v l)(hl:l.length * 16≤140737488355328):fB fns (.fn 49 [] []) [v] S fun r X=>aQ 2 dI X r l∧Same S X∧∀c,aX r=some c→S.nx≤c:=by
 refine bN H.f49 (by simp) ?_;simp only[↓sU,sD,rE,↓reduceIte,rA];refine bL ?_;simp only[↓sU,sD,rE,↓reduceIte,rA];by_cases hv:v= .nilsl
 ·subst hv;have hl0:=aIN h;subst hl0;have he:eY .eql (.p .slice) .nilsl .nilsl=some (.bool true):=rfl;refine fY ?_;simp only[↓sU,sD,rE,↓reduceIte,rA,he];refine aN (by simp only[↓sU,sD,rE,↓reduceIte,rA]) (aC (aF ?_));simp only[↓sU,sD,rE,↓reduceIte,rA];refine aR ?_;simp only[↓sU,sD,rE,↓reduceIte,rA];exact⟨.inl ⟨rfl,.inl rfl⟩,Same.refl S,fun c hc=>(by cases hc)⟩
 ·have he:=aK2 h hv;refine fY ?_;simp only[↓sU,sD,rE,↓reduceIte,rA,he];refine aL (by simp only[↓sU,sD,rE,↓reduceIte,rA]) (aI ?_);try simp only[↓sU,sD,rE,↓reduceIte,rA]
  refine bL ?_;refine fE oN ?_;intro S1 s1 n1 g1;simp only[↓aB,aA,rE,↓reduceIte,rA];obtain⟨r,S2,e,hr,s2,kr⟩:=aIg (k:=2) (bytes:=16) (E:=dI) (l:=l) cR (by decide) g1 (by omega) (aQ.same (E:=dI) cR h s1) (by unfold room;omega) (by unfold room;omega);refine eT (fun call=>by simp only[↓aB,aA,rE,↓reduceIte,rA,iY];exact e) ?_;simp only[↓aB,aA,rE,↓reduceIte,rA];refine aR ?_;simp only[↓aB,aA,rE,↓reduceIte,rA];exact⟨hr,s1.trans s2,fun c hc=>by rcases kr c hc with h | h<;>omega⟩
end Go.Ev.Gl
namespace Go.Ev.Gl
open Go.Sort
variable {fns:T cW}
theorem aNF{W:St}{F:Fr}{inr:Bool}{nb:Nat}{k p f:AV}{xa xw xp:AV}{l2 l3:List Int}{Q:Out→bH→St→Prop}(H:Has fns)(p8:aH 8 F= .ptr nb 0)(hb:W.h.get nb=some (.cells [k,p,f,xa,xw,xp] false 0))(lb:nb<W.nx)(h2:bI .i64 W xw l2)(h3:bI .i64 W xp l3)(b2:l2.length≤10000000)(b3:l3.length≤10000000)
  (hQ:∀F' Z r2 r3,(∀j,j<33→aH j F'=aH j F)→bB nb W Z→Z.h.get nb=some (.cells [k,p,f,.nilsl,r2,r3] false 0)→bI .i64 Z r2 l2→bI .i64 Z r3 l3→(∀c,(aX r2=some c∨aX r3=some c)→W.nx≤c)→(∀c,(aX r2=some c∨aX r3=some c)→Wr Z c)→Q .normal ⟨F',inr⟩ Z):nO fns (.drw aNg) ⟨F,inr⟩ W Q:=by
 have s2:=bI.self h2;have s3:=bI.self h3;refine aAQ (W:=fun _=>False) (R:=fun F' X' ps=>ps= []∧Same W X'∧(∀j,j<33→aH j F'=aH j F)∧aH 39 F'= .ptr nb (0+4)∧bI .i64 X' (aH 35 F') l2∧bI .i64 X' (aH 38 F') l3∧(∀c,(aX (aH 35 F')=some c∨aX (aH 38 F')=some c)→W.nx≤c)∧(∀c,(aX (aH 35 F')=some c∨aX (aH 38 F')=some c)→Wr X' c)) 7 rfl (by decide) ?_ ?_
 ·intro S1 x1 hS1 nS1;unfold aNg;simp only[Bf,Bi];simp only[↓sU,sD,rE,↓reduceIte,rA,p8,aE,aW,aD,dH hb,lb,An,s2];refine bS rfl ?_;simp only[↓sU,sD,rE,↓reduceIte,rA];refine aO (qX H (h2.same x1) b2) ?_;rintro r2 Y ⟨i2,y,k2,w2⟩;refine⟨y,?_⟩;try simp only[↓sU,sD,rE,↓reduceIte,rA,p8,aE,aW,aD,dE hb,lb,An,s3]
  refine bS rfl ?_;simp only[↓sU,sD,rE,↓reduceIte,rA];refine aO (qX H (h3.same (x1.trans y)) b3) ?_;rintro r3 Z ⟨i3,z,k3,w3⟩;refine⟨z,?_⟩;have n1:=x1.1;have n2:=y.1;try simp only[↓sU,sD,rE,↓reduceIte,rA,p8,aE,aW,aD]
  refine⟨x1.trans (y.trans z),fun j hj=>?_,i2.same z,i3,fun c hc=>?_,fun c hc=>?_⟩
  ·simp only[bQ,show ¬j=33 by omega,show ¬j=34 by omega,show ¬j=35 by omega,show ¬j=36 by omega,show ¬j=37 by omega,show ¬j=38 by omega,show ¬j=39 by omega,Bw]
  ·rcases hc with hc | hc
   ·have:=k2 c hc;omega
   ·have:=k3 c hc;omega
  ·rcases hc with hc | hc
   ·exact(w2 c hc).eq (z.2 c (dP i2 hc))
   ·exact w3 c hc
 rintro F' S' ps hs ls ⟨rfl,sZ,hk,p39,i2,i3,hbk,hwr⟩ hlast hld;have p8':aH 8 F'= .ptr nb 0:=(hk 8 (by omega)).trans p8;have hb':=(sZ.2 _ lb).trans hb;generalize hr2:aH 35 F'=r2 at i2 hbk hwr;generalize hr3:aH 38 F'=r3 at i3 hbk hwr;have m1:∀i,i<7→Nat.testBit 127 i=true:=by decide
 unfold aNg;simp only[List.drop_succ_cons,Cn];refine qB (v:=.undef) (S1:=⟨S'.h.set nb (some (.cells [k,p,f,xa,r2,xp] false 0)),S'.nx⟩) (hlast _ m1) (fun call=>?_) ?_
 ·rw[dN];simp only[fV,p39,hr2,bT,bI.cells i2,aM];exact stc (S:=S') hb' (by simp)
 simp only[oY,eS,aE,aD,aW,aU,fV,bT,fF,bQ,p8',rE,↓reduceIte,rA];refine qB (v:=.undef) (S1:=⟨(S'.h.set nb (some (.cells [k,p,f,xa,r2,xp] false 0))).set nb (some (.cells [k,p,f,xa,r2,r3] false 0)),S'.nx⟩) (show Nat.testBit 511 7=true by decide) (fun call=>?_) ?_
 ·rw[dN];simp only[fV,bQ,rE,↓reduceIte,hr3,bT,bI.cells i3,aM];exact stc (cs:=[k,p,f,xa,r2,xp]) (p:=5) (S:=⟨S'.h.set nb (some (.cells [k,p,f,xa,r2,xp] false 0)),S'.nx⟩) (by simp only;rw[T.get_set,if_pos rfl]) (by simp)
 simp only[oY,eS,aE,aD,aW,aU,fV,bT,fF,bQ,p8',rE,↓reduceIte,rA];refine qB (v:=.undef) (S1:=⟨((S'.h.set nb (some (.cells [k,p,f,xa,r2,xp] false 0))).set nb (some (.cells [k,p,f,xa,r2,r3] false 0))).set nb (some (.cells [k,p,f,.nilsl,r2,r3] false 0)),S'.nx⟩) (show Nat.testBit 2047 9=true by decide) (fun call=>?_) ?_
 ·rw[dN];simp only[fV,aJk,bQ,rE,↓reduceIte,bT];exact stc (cs:=[k,p,f,xa,r2,r3]) (p:=3) (w:=.nilsl) (S:=⟨(S'.h.set nb (some (.cells [k,p,f,xa,r2,xp] false 0))).set nb (some (.cells [k,p,f,xa,r2,r3] false 0)),S'.nx⟩) (by simp only;rw[T.get_set,if_pos rfl]) (by simp)
 rw[jP];refine⟨?_,?_⟩
 ·simp only[Cy,Bl,Eb,Bo,Bp];exact hld _ _ _ m1
 ·simp only[bT,fF];have hne:∀ {v:AV} {l:List Int},bI .i64 S' v l→(∀c,aX v=some c→W.nx≤c)→bI .i64 ⟨((S'.h.set nb (some (.cells [k,p,f,xa,r2,xp] false 0))).set nb (some (.cells [k,p,f,xa,r2,r3] false 0))).set nb (some (.cells [k,p,f,.nilsl,r2,r3] false 0)),S'.nx⟩ v l:=fun {v l} h hc=>dJ h (Ah _) fun c hcc=>by
   have:=hc c hcc;simp only;rw[T.get_set,if_neg (by omega),T.get_set,if_neg (by omega),T.get_set,if_neg (by omega)]
  refine hQ _ _ r2 r3 (fun j hj=>?_) ⟨sZ.1,fun c hc hn=>?_⟩ (by simp only;rw[T.get_set,if_pos rfl]) (hne i2 fun c hc=>hbk c (.inl hc)) (hne i3 fun c hc=>hbk c (.inr hc)) hbk (fun c hc=>(hwr c hc).eq (by have:=hbk c hc;simp only;rw[T.get_set,if_neg (by omega),T.get_set,if_neg (by omega),T.get_set,if_neg (by omega)]))
  ·rw[bQ,if_neg (by omega),bQ,if_neg (by omega)];exact hk j hj
  ·simp only;rw[T.get_set,if_neg hn,T.get_set,if_neg hn,T.get_set,if_neg hn];exact sZ.2 c hc
theorem aMB{S0 S:St}{F:Fr}{inr:Bool}{nb:Nat}{k p f:AV}{a xw xp cv:AV}{l C:List Int}{c:Int}{Q:Out→bH→St→Prop}(p8:aH 8 F= .ptr nb 0)(p3:aH 3 F=cv)(p10:aH 10 F= .int .i64 c)(hb:S.h.get nb=some (.cells [k,p,f,a,xw,xp] false 0))(lb:nb<S.nx)(hC:bI .i64 S cv C)(h0:0≤c)(h1:c.toNat<C.length)(ha:iD 1 S0 S a l.length (bF l))(hS:Same S0 S)(ne:aX a≠some nb)(neC:∀b,aX cv=some b→aX a≠some b)(hl:l.length≤100000)
  (hQ:∀F' Z a',(∀j,j<53→aH j F'=aH j F)→S.nx≤Z.nx→Z.h.get nb=some (.cells [k,p,f,a',xw,xp] false 0)→iD 1 S0 Z a' (l++ [C.getD c.toNat 0]).length (bF (l++ [C.getD c.toNat 0]))→(∀b,aX a'=some b→S.nx≤b)→(∀b,b<S.nx→b≠nb→aX a≠some b→Z.h.get b=S.h.get b)→Q .normal ⟨F',inr⟩ Z):nO fns (.drw aND) ⟨F,inr⟩ S Q:=by
 have sa:=ha.self;have sC:=bI.self hC;have ic:=hC.iaddr h1;have lc:=hC.ld h1;have hnc:=nF .i64 h0;have oldC:aHY (fun b=>aX a=some b) S.nx (aAY cv c.toNat):=by
  rcases hC with⟨e,_⟩ | ⟨b,off,cap,o,cs,rfl,_,hlt,_⟩
  ·rw[e] at h1;simp at h1
  ·exact⟨_,_,rfl,hlt,neC b rfl⟩
 refine aAQ (W:=fun b=>aX a=some b) (R:=fun F' X' ps=>ps= []∧S.nx≤X'.nx∧(∀j,j<53→aH j F'=aH j F)∧aH 61 F'= .ptr nb (0+3)∧iD 1 S0 X' (aH 60 F') (l++ [C.getD c.toNat 0]).length (bF (l++ [C.getD c.toNat 0]))∧(∀b,aX (aH 60 F')=some b→S.nx≤b)∧∀b,b<S.nx→aX a≠some b→X'.h.get b=S.h.get b) 9 rfl (by decide) ?_ ?_
 ·intro S1 x1 hS1 nS1;unfold aND;simp only[Bf,Bi];simp only[↓sU,sD,rE,↓reduceIte,rA,p8,p3,p10,aE,aW,aD,dD hb,lb,ne,An,sa,sC,hnc,ic,lc];refine⟨oldC,?_⟩;rw[nB (k:=.i64) (n:=C.getD c.toNat 0) (by simp only[↓sU,sD,rE,↓reduceIte,rA]),fC];have nS1:S1.nx=S.nx+10:=nS1;obtain⟨U,hU⟩:∃U:St,U=⟨S1.h.set (S.nx+6) (some (.cells [.int .i64 (C.getD c.toNat 0)] false 0)),S1.nx⟩:=⟨_,rfl⟩;have sQU:Same S U:=by rw[hU];exact⟨x1.1,fun b hbb=>by simp only;rw[T.get_set,if_neg (by omega)];exact x1.2 b hbb⟩
  have gU:U.h.get (S.nx+6)=some (.cells [.int .i64 (C.getD c.toNat 0)] false 0):=by rw[hU];simp only;rw[T.get_set,if_pos rfl]
  have nU:U.nx=S.nx+10:=by rw[hU];exact nS1
  obtain⟨a',V,e1,g1,e2,e3,e4⟩:=iD.push (bytes:=8) (ha.step sQU) (hS.trans sQU) gU (by unfold room;omega) (by unfold room;omega);simp only[↓sU,sD,rE,↓reduceIte,rA];refine lN rfl (by rw[cJ rfl];simp only[↓sU,sD,rE,↓reduceIte,rA];rw[←hU];exact e1) ?_ ?_
  ·rw[cJ rfl,←hU];exact⟨by show U.nx≤V.nx;omega,fun b hbb hw=>e4 b (by omega) hw⟩
  rw[cJ rfl];simp only[↓sU,sD,rE,↓reduceIte,rA,p8,aE,aW,aD];refine⟨by omega,fun j hj=>?_,g1,fun b hbb=>by rw[e2] at hbb;cases hbb;omega,fun b hbb hw=>(e4 b (by omega) hw).trans (sQU.2 b hbb)⟩;simp only[bQ,show ¬j=53 by omega,show ¬j=54 by omega,show ¬j=55 by omega,show ¬j=56 by omega,show ¬j=57 by omega,show ¬j=58 by omega,show ¬j=59 by omega,show ¬j=60 by omega,show ¬j=61 by omega,Bw]
 rintro F' S' ps hs ls ⟨rfl,nZ,hk,p61,g1,hbk,hR⟩ hlast hld;have hb':=(hR _ lb ne).trans hb;generalize hr:aH 60 F'=a' at g1 hbk;have m1:∀i,i<9→Nat.testBit 511 i=true:=by decide
 unfold aND;simp only[List.drop_succ_cons,Cn];refine qB (v:=.undef) (S1:=⟨S'.h.set nb (some (.cells [k,p,f,a',xw,xp] false 0)),S'.nx⟩) (hlast _ m1) (fun call=>?_) ?_
 ·rw[dN];simp only[fV,p61,hr,bT,g1.cells,aM];exact stc (S:=S') hb' (by simp)
 rw[jP];refine⟨?_,?_⟩
 ·simp only[Cy,Bl,Eb,Bo,Bp];exact hld _ _ _ m1
 ·simp only[bT,fF];refine hQ _ _ a' hk nZ (by simp only;rw[T.get_set,if_pos rfl]) (g1.move (Ah _) fun b hbb=>by
   have:=hbk b hbb;simp only;rw[T.get_set,if_neg (by omega)]) hbk fun b h2 h3 h4=>?_
  simp only;rw[T.get_set,if_neg h3];exact hR b h2 h4
end Go.Ev.Gl
