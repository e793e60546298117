import Derived.Test.YtkklchgmpejobaaGreatDoorGl20
open Nat renaming reduceEqDiff → rE, reduceAdd → rA
set_option maxHeartbeats 16000000
set_option linter.unusedSimpArgs false
set_option linter.unusedVariables false
namespace Go.Ev.Gl
open Go.Sort
variable {fns:T cW}
theorem aM0{e:oR}{m k v:cL}{c:eS}{F:Fr}{S:St}:zY (.mapUpd e m k v) c F S=tO (m.val F) e (k.val F) (v.val F) S:=rfl
def ClK(g:bJ)(S S3:St)(gb mp kb:Nat)(nv iv:AV)(k:Nat)(A:bQ)(X:St):Prop:=A.inr=false∧Same S X∧S3.nx≤X.nx∧X.h.get gb=some (.cells [.int .i64 g.players,nv,iv] false 0)∧aD 1 A.F= .ptr gb 0∧aD 3 A.F= .nilsl∧aD 4 A.F= .map mp∧aD 5 A.F= .sl kb 0 g.nodes.length g.nodes.length false∧aD 6 A.F= .int .i64 ((k:Int) - 1)∧k≤g.nodes.length∧∃ (K:List Int) (l:List (List Nat×Nat)),aCo g k K l∧X.h.get mp=some (.map (aCq l))∧X.h.get kb=some (.cells (bG K) false 0)
def SeK(g:bJ)(K:List Int)(S S4:St)(gb mp kb sb m:Nat)(k:Nat)(A:bQ)(X:St):Prop:=A.inr=false∧bH sb S4 X∧aD 1 A.F= .ptr gb 0∧aD 4 A.F= .map mp∧aD 5 A.F= .sl kb 0 g.nodes.length g.nodes.length false∧aD 10 A.F= .sl sb 0 m m false∧aD 59 A.F= .sl kb 0 g.nodes.length g.nodes.length false∧aD 60 A.F= .int .i64 ((g.nodes.length:Nat):Int)∧∃ (i:Nat) (v:AV) (cs:List AV) (sv:Nat→Bool),i+k=g.nodes.length∧aD 61 A.F= .int .i64 (i:Int)∧aD 3 A.F=v∧iD 1 S X v (oT (mI g i)).length (bG (oT (mI g i)))∧(∀c,aU v=some c→S4.nx≤c)∧X.h.get sb=some (.cells cs false 0)∧cs.length=m∧∀u,u<m→cs[u]? =some (.bool (sv u))∧(sv u=true↔∃j,j<i∧K.getD j 0=(u:Int))
def NuK(g:bJ)(K:List Int)(F:List Nat)(S4:St)(kb nb m:Nat)(v:AV)(k:Nat)(A:bQ)(X:St):Prop:=A.inr=false∧bH nb S4 X∧aD 3 A.F=v∧aD 5 A.F= .sl kb 0 g.nodes.length g.nodes.length false∧aD 14 A.F= .sl nb 0 m m false∧aD 87 A.F=v∧aD 88 A.F= .int .i64 ((F.length:Nat):Int)∧∃ (i:Nat) (N:List Int),i+k=F.length∧aD 89 A.F= .int .i64 (i:Int)∧N.length=m∧X.h.get nb=some (.cells (bG N) false 0)∧∀p q,p<i→F[p]? =some q→N.getD (K.getD q 0).toNat 0=(p:Int)
def CaK(g:bJ)(K N:List Int)(S4:St)(kb nb cb m:Nat)(v:AV)(k:Nat)(A:bQ)(X:St):Prop:=A.inr=false∧bH cb S4 X∧aD 3 A.F=v∧aD 2 A.F= .sl cb 0 g.nodes.length g.nodes.length false∧aD 14 A.F= .sl nb 0 m m false∧aD 105 A.F= .sl kb 0 g.nodes.length g.nodes.length false∧aD 106 A.F= .int .i64 ((g.nodes.length:Nat):Int)∧∃ (i:Nat) (C:List Int),i+k=g.nodes.length∧aD 107 A.F= .int .i64 (i:Int)∧C.length=g.nodes.length∧X.h.get cb=some (.cells (bG C) false 0)∧∀j,j<i→C.getD j 0=N.getD (K.getD j 0).toNat 0
theorem aIk{b n c:Nat}{o:Bool}:jU (.sl b 0 n c o)=some (.int .i64 (n:Int)):=rfl
theorem aAI{S:St}{v:AV}{g:bJ}(H:Has fns)(G:yC g)(hL:iO S)(hf:∀i,i<g.nodes.length→aNK (nodeAt g i))(hw:∀i,i<g.nodes.length→(nodeAt g i).weights.length≤1000)(hv:mA S v g):fR fns (.fn 42 [] []) [v] S fun r X=>∃a b F C,r= .tup [a,b]∧Same S X∧iV g (htL g) F C∧bT .i64 X a C∧bT .i64 X b (oT F):=by
 have hK:=jJ G;have hN:=G.n2;have hv0:=hv;obtain⟨nv,iv,rfl,hn,hi⟩:=hv;refine cD H.f42 (by simp) ?_;simp only[↓aA,aB,rE,↓reduceIte,rA];refine cC ?_;refine dR (by simp only[↓aA,aB,rE,↓reduceIte];exact bK _) ?_;intro S1 s1 n1 c1;simp only[↓aA,aB,rE,↓reduceIte];refine cC ?_;refine gH aNj ?_;intro S2 s2 n2 c2;simp only[↓aA,aB,rE,↓reduceIte];have hnl:=aY.len hn;have c1':=(s2.2 _ (show S.nx<S1.nx by omega)).trans c1;refine cC ?_;simp only[↓aA,aB,rE,↓reduceIte,aE,aF,fG c1',aY.self hn,hnl];refine gH (oP (n:=g.nodes.length) (by simp only[↓aA,aB,rE,↓reduceIte,aH]) (by simp only[↓aA,aB,rE,↓reduceIte,aH]) (by unfold room;omega) (by unfold room;omega)) ?_;intro S3 s3 n3 c3;rw[uW] at c3;try simp only[↓aA,aB,rE,↓reduceIte]
 have g3:=(s3.2 _ (show S.nx<S2.nx by omega)).trans c1';have m3:S3.h.get S1.nx=some (.map []):=(s3.2 _ (by omega)).trans c2;have s03:=s1.trans (s2.trans s3);refine aC (bF (Q:=fun o A' X=>o= .normal∧ClK g S S3 S.nx S1.nx S2.nx nv iv 0 A' X) (aC (aG ?_)) ?_)
 ·have w0:IntKind.i64.wrap (((g.nodes.length:Nat):Int) - 1)=((g.nodes.length:Nat):Int) - 1:=wrap_i64 (by omega) (by omega);simp only[↓aA,aB,rE,↓reduceIte,aE,aF,fG g3,aY.self hn,hnl,Al,w0];refine aO (cA (ClK g S S3 S.nx S1.nx S2.nx nv iv) ?_ g.nodes.length _ _ ⟨rfl,s03,Af _,g3,by simp only[↓aA,aB,rE,↓reduceIte],by simp only[↓aA,aB,rE,↓reduceIte],by simp only[↓aA,aB,rE,↓reduceIte],by simp only[↓aA,aB,rE,↓reduceIte],by simp only[↓aA,aB,rE,↓reduceIte],Af _,_,[],⟨⟨Bd ..,fun a b ha _ h _=>by omega⟩,fun a h1 h2=>by omega,fun i hi=>by simp at hi,by simp⟩,m3,c3⟩);rintro k ⟨F,inr⟩ X ⟨q0,sX,nX,gX,p1,p3,p4,p5,p6,hk,K,l,hS,mX,kX⟩;simp only at q0 p1 p3 p4 p5 p6;subst q0;refine iU ?_;simp only[↓aA,aB,rE,↓reduceIte,p6];by_cases hk0:k=0
  ·subst hk0;refine aP (by simp only[↓aA,aB,rE,↓reduceIte];exact Ci _ (Aa (by omega))) (bL ?_);exact⟨rfl,rfl,sX,nX,gX,by simp only[↓aA,aB,rE,↓reduceIte,p1],by simp only[↓aA,aB,rE,↓reduceIte,p3],by simp only[↓aA,aB,rE,↓reduceIte,p4],by simp only[↓aA,aB,rE,↓reduceIte,p5],by simp only[↓aA,aB,rE,↓reduceIte,p6],hk,K,l,hS,mX,kX⟩
  obtain⟨a,rfl⟩:∃a,k=a+1:=⟨k - 1,by omega⟩;have e6:(((a+1:Nat):Int) - 1)=(a:Int):=by omega
  rw[e6] at p6 ⊢;refine aS (by simp only[↓aA,aB,rE,↓reduceIte,Ac (show(0:Int)≤(a:Int) by omega)]) (aM ?_);try simp only[↓aA,aB,rE,↓reduceIte]
  have hal:a<g.nodes.length:=by omega
  have hx:=dK hal;obtain⟨e,b,p,i1,i2,i3,⟨na,nb,nc,rfl,x1,x2,x3⟩,i5,i6⟩:=aY.at hn (by omega) hx;have la:dB (.ptr b p) true 6 X.h=some (.agg [.int .i64 (nodeAt g a).kind,.int .i64 (nodeAt g a).player,.int .i64 (nodeAt g a).info,na,nb,nc]):=(pS sX i2).trans i5;have iK:=lB kX (by omega) hS.ok.1;refine aC (aO (aC (aG ?_)));simp only[↓aA,aB,rE,↓reduceIte,aE,aF,p1,p5,p6,fG gX,aY.self hn,aH,i1,la];refine bB ?_;try simp only[↓aA,aB,rE,↓reduceIte]
  have hc:∀c∈(nodeAt g a).next,0≤c∧c.toNat<K.length∧Rng (K.getD c.toNat 0):=fun c hc=>by
   obtain⟨k1,k2⟩:=lD (hK:=hK) hal hc;obtain⟨j,hj⟩:=Ep hc;obtain⟨hj1,hj2⟩:=Ae.1 hj;obtain⟨_,_,u3⟩:=hK a hal j hj1;have ec:(nodeAt g a).next.getD j 0=c:=by rw[Ag,hj];rfl
   obtain⟨w,w1,w2⟩:=hS.rng c.toNat (by omega) k2;have:=(Ae.1 w2).1;have:=hS.len;refine⟨by omega,by rw[hS.ok.1];exact k2,?_⟩;rw[w1];unfold Rng;omega
  refine aN (aKt H (hL.same sX) (x1.same sX) (x2.same sX) (x3.same sX) iK (hf a hal) hc (G.nxt a hal) (hw a hal) (by have:=G.pay a hal;omega)) ?_;rintro _ Y ⟨rfl,hY⟩;obtain⟨key,hkey⟩:∃key,key=oD (nodeAt g a) K:=⟨_,rfl⟩;rw[←hkey];have mY:=(hY.2 _ (show S1.nx<X.nx by omega)).trans mX;have kY:=(hY.2 _ (show S2.nx<X.nx by omega)).trans kX;have gY:=(hY.2 _ (show S.nx<X.nx by omega)).trans gX;have sY:=sX.trans hY;have nY:=Az nX hY.1;try simp only[↓aA,aB,rE,↓reduceIte]
  have hlk:∀F:Fr,aD 40 F= .map S1.nx→aD 41 F= .str key→iG (.lookup (.p .str) (.int .i64 0) true (.t 40) (.t 41)) F Y.h=some (.tup [.int .i64 (match lkp l key with | some v=>(v:Int) | none=>0),.bool (lkp l key).isSome]):=fun F u w=>by
   rw[aMU (m:=.t 40) (x:=.t 41) mY u w];cases lkp l key<;>rfl
  refine cC ?_;simp only[↓aA,aB,rE,↓reduceIte,p4,hlk,ex0,ex1];rw[hkey] at hlk;refine aC (bF (Q:=fun o A' Z=>o= .normal∧A'.inr=false∧Same S Z∧S3.nx≤Z.nx∧Z.h.get S.nx=some (.cells [.int .i64 g.players,nv,iv] false 0)∧aD 1 A'.F= .ptr S.nx 0∧aD 3 A'.F= .nilsl∧aD 4 A'.F= .map S1.nx∧aD 5 A'.F= .sl S2.nx 0 g.nodes.length g.nodes.length false∧aD 6 A'.F= .int .i64 (a:Int)∧Z.h.get S2.nx=some (.cells (bG K) false 0)∧∃ (w:Nat) (l':List (List Nat×Nat)),aD 8 A'.F= .int .i64 (w:Int)∧aCo g a (K.set a (w:Int)) l'∧Z.h.get S1.nx=some (.map (aCq l'))) (aC (aG ?_)) ?_)
  ·cases hq:lkp l key with
   | some w=>
    simp only[↓aA,aB,rE,↓reduceIte,fB,Option.isSome_some,Bn];refine aP (by simp only[↓aA,aB,rE,↓reduceIte]) (aM ?_);rw[hkey] at hq;exact⟨rfl,rfl,sY,nY,gY,by simp only[↓aA,aB,rE,↓reduceIte,p1],by simp only[↓aA,aB,rE,↓reduceIte,p3],by simp only[↓aA,aB,rE,↓reduceIte,p4],by simp only[↓aA,aB,rE,↓reduceIte,p5],by simp only[↓aA,aB,rE,↓reduceIte,p6],kY,w,l,by simp only[↓aA,aB,rE,↓reduceIte],(hS.old hK hal hq).1,mY⟩
   | none=>
    simp only[↓aA,aB,rE,↓reduceIte,fB,Fg,Bq];have hnm:∀F:Fr,aD 47 F= .map S1.nx→iG (.lenMap (.t 47)) F Y.h=some (.int .i64 ((l.length:Nat):Int)):=fun F u=>aBx (m:=.t 47) mY u;refine aS (by simp only[↓aA,aB,rE,↓reduceIte]) (aC (aG ?_));simp only[↓aA,aB,rE,↓reduceIte,p4,hnm];refine aG ?_;simp only[↓aA,aB,rE,↓reduceIte,p4];refine eR (v:=.undef) (fun call=>by rw[aM0];simp only[↓aA,aB,rE,↓reduceIte,p4];exact aKW mY l.length (Option.map_eq_none_iff.1 hq)) ?_;rw[hkey] at hq ⊢;simp only[↓aA,aB,rE,↓reduceIte];refine⟨⟨sY.1,fun c hc=>?_⟩,nY,?_,p1,p3,p4,p5,p6,?_,l.length,_,rfl,hS.new hK hal hq,by rw[T.get_set,if_pos rfl]⟩
    ·simp only;rw[T.get_set,if_neg (by omega)];exact sY.2 c hc
    ·rw[T.get_set,if_neg (by omega)];exact gY
    ·rw[T.get_set,if_neg (by omega)];exact kY
  clear hlk p1 p3 p4 p5 p6;rintro o ⟨F,inr⟩ Z ⟨rfl,q0,sZ,nZ,gZ,p1,p3,p4,p5,p6,kZ,w,l',p8,hS',mZ⟩;simp only at q0 p1 p3 p4 p5 p6 p8;subst q0;have ia:=iE (b:=S2.nx) (o:=false) hal;try simp only[↓aA,aB,rE,↓reduceIte]
  refine aG ?_;simp only[↓aA,aB,rE,↓reduceIte,p5,p6,p8,aH,ia];refine eR (fun call=>by simp only[↓aA,aB,rE,↓reduceIte,dD,cO,p8];exact aBH (S:=Z) kZ (by rw[hS.ok.1];exact hal)) ?_;have w2:IntKind.i64.wrap ((a:Int) - 1)=(a:Int) - 1:=wrap_i64 (by omega) (by omega);simp only[↓aA,aB,rE,↓reduceIte];refine aG ?_;simp only[↓aA,aB,rE,↓reduceIte,p6,w2];refine⟨a,by omega,rfl,⟨sZ.1,fun c hc=>?_⟩,nZ,?_,by simp only[↓aA,aB,rE,↓reduceIte,p1],by simp only[↓aA,aB,rE,↓reduceIte,p3],by simp only[↓aA,aB,rE,↓reduceIte,p4],by simp only[↓aA,aB,rE,↓reduceIte,p5],by simp only[↓aA,aB,rE,↓reduceIte],by omega,_,l',hS',?_,by simp only;rw[T.get_set,if_pos rfl]⟩
  ·simp only;rw[T.get_set,if_neg (by omega)];exact sZ.2 c hc
  ·simp only;rw[T.get_set,if_neg (by omega)];exact gZ
  ·simp only;rw[T.get_set,if_neg (by omega)];exact mZ
 rintro o ⟨F,inr⟩ X ⟨rfl,q0,sX,nX,gX,p1,p3,p4,p5,p6,hk,K,l,hS,mX,kX⟩;simp only at q0 p1 p3 p4 p5 p6;subst q0;clear p6 hk c3 m3 g3 c2 c1 c1';have hll:=hS.len;have hnm:∀F:Fr,aD 56 F= .map S1.nx→iG (.lenMap (.t 56)) F X.h=some (.int .i64 ((l.length:Nat):Int)):=fun F u=>aBx (m:=.t 56) mX u;try simp only[↓aA,aB,rE,↓reduceIte]
 refine cC ?_;simp only[↓aA,aB,rE,↓reduceIte,p4,hnm];refine gH (oP (n:=l.length) (by simp only[↓aA,aB,rE,↓reduceIte,aH]) (by simp only[↓aA,aB,rE,↓reduceIte,aH]) (by unfold room;omega) (by unfold room;omega)) ?_;intro S4 s4 n4 c4;try simp only[↓aA,aB,rE,↓reduceIte]
 have s4':=sX.trans s4;have g4:=(s4.2 _ (show S.nx<X.nx by omega)).trans gX;have m4:=(s4.2 _ (show S1.nx<X.nx by omega)).trans mX;have k4:=(s4.2 _ (show S2.nx<X.nx by omega)).trans kX;have iK:=lB k4 (by omega) hS.ok.1;have sK:=bT.self iK;refine aC (bF (Q:=fun o A' Y=>o= .normal∧SeK g K S S4 S.nx S1.nx S2.nx X.nx l.length 0 A' Y) (aC (aG ?_)) ?_)
 ·simp only[↓aA,aB,rE,↓reduceIte,p5,aIk];refine aO (cA (SeK g K S S4 S.nx S1.nx S2.nx X.nx l.length) ?_ g.nodes.length _ _ ⟨rfl,bH.refl _ _,by simp only[↓aA,aB,rE,↓reduceIte,p1],by simp only[↓aA,aB,rE,↓reduceIte,p4],by simp only[↓aA,aB,rE,↓reduceIte,p5],by simp only[↓aA,aB,rE,↓reduceIte],by simp only[↓aA,aB,rE,↓reduceIte],by simp only[↓aA,aB,rE,↓reduceIte],0,.nilsl,_,fun _=>false,by omega,by simp only[↓aA,aB,rE,↓reduceIte],by simp only[↓aA,aB,rE,↓reduceIte,p3],.inl ⟨rfl,rfl,rfl⟩,(fun c h=>by cases h),c4,by rw[repeatL_one,Bd],fun u hu=>⟨by rw[repeatL_one,Dj,if_pos hu],by simp⟩⟩);clear p1 p3 p4 p5;rintro k ⟨F,inr⟩ Y ⟨q0,hY,p1,p4,p5,p10,p59,p60,i,v,cs,sv,hik,p61,p3,hg,hb,sY,hcl,hcs⟩;simp only at q0 p1 p3 p4 p5 p10 p59 p60 p61;subst q0;refine cC ?_;simp only[↓aA,aB,rE,↓reduceIte,p60,p61,wL];by_cases hlt:i<g.nodes.length;rotate_left
  ·refine aC (aP (by simp only[↓aA,aB,rE,↓reduceIte,Aa hlt]) (bL ?_));have hk:k=0:=by omega
   subst hk;exact⟨rfl,rfl,hY,by simp only[↓aA,aB,rE,↓reduceIte,p1],by simp only[↓aA,aB,rE,↓reduceIte,p4],by simp only[↓aA,aB,rE,↓reduceIte,p5],by simp only[↓aA,aB,rE,↓reduceIte,p10],by simp only[↓aA,aB,rE,↓reduceIte,p59],by simp only[↓aA,aB,rE,↓reduceIte,p60],i,v,cs,sv,hik,by simp only[↓aA,aB,rE,↓reduceIte,p61],by simp only[↓aA,aB,rE,↓reduceIte,p3],hg,hb,sY,hcl,hcs⟩
  refine aC (aS (by simp only[↓aA,aB,rE,↓reduceIte,Ac hlt]) (aM ?_));try simp only[↓aA,aB,rE,↓reduceIte]
  have nY:=hY.1;have kY:=(hY.2 _ (show S2.nx<S4.nx by omega) (by omega)).trans k4;have ia:=iE (b:=S2.nx) (o:=false) hlt;have la:=aEc kY (show i<K.length by rw[hS.ok.1];exact hlt);obtain⟨u,u1,u2⟩:=aAB hS hlt;rw[u1] at la;obtain⟨cu,su⟩:=hcs u u2;have iu:=iE (b:=X.nx) (o:=false) u2;have lu:dB (.ptr X.nx u) false 1 Y.h=some (.bool (sv u)):=cT sY cu;have hsn:=aME hS hlt;rw[u1] at hsn;have sSY:Same S Y:=bH.same s4' hY (by omega);refine aC (aO (aC (aG ?_)));simp only[↓aA,aB,rE,↓reduceIte,p59,p61,aH,ia,la];refine cC ?_;simp only[↓aA,aB,rE,↓reduceIte,p10,aH,iu,lu,fB];by_cases hf:oG g i=true;rotate_left
  ·have e1:sv u=true:=su.2 (hsn.2 hf);refine aP (by simp only[↓aA,aB,rE,↓reduceIte,e1,Bn]) (aM ?_);try simp only[↓aA,aB,rE,↓reduceIte]
   refine aG ?_;simp only[↓aA,aB,rE,↓reduceIte,p61,eH (a:=i) (by omega)];have e2:mI g (i+1)=mI g i:=by rw[aEQ,if_neg hf]
   refine⟨k - 1,by omega,rfl,hY,by simp only[↓aA,aB,rE,↓reduceIte,p1],by simp only[↓aA,aB,rE,↓reduceIte,p4],by simp only[↓aA,aB,rE,↓reduceIte,p5],by simp only[↓aA,aB,rE,↓reduceIte,p10],by simp only[↓aA,aB,rE,↓reduceIte,p59],by simp only[↓aA,aB,rE,↓reduceIte,p60],i+1,v,cs,sv,by omega,by simp only[↓aA,aB,rE,↓reduceIte],by simp only[↓aA,aB,rE,↓reduceIte,p3],by rw[e2];exact hg,hb,sY,hcl,fun u' hu'=>⟨(hcs u' hu').1,?_⟩⟩;rw[(hcs u' hu').2];constructor
   ·rintro⟨j,j1,j2⟩;exact⟨j,by omega,j2⟩
   ·rintro⟨j,j1,j2⟩;by_cases e:j=i
    ·subst e;have:u'=u:=by omega
     subst this;exact su.1 e1
    ·exact⟨j,by omega,j2⟩
  have e1:sv u=false:=Bs.2 fun e=>(hsn.1 (su.1 e)) hf;refine aS (by simp only[↓aA,aB,rE,↓reduceIte,e1,Bq]) (aC (aG ?_));simp only[↓aA,aB,rE,↓reduceIte,p10,aH,iu];obtain⟨Y1,hY1⟩:∃Y1:St,Y1=⟨Y.h.set X.nx (some (.cells (cs.set u (.bool true)) false 0)),Y.nx⟩:=⟨_,rfl⟩;refine eR (v:=.undef) (S1:=Y1) (fun call=>by rw[dD,hY1];simp only[↓aA,aB,rE,↓reduceIte];exact yA (S:=Y) sY (by rw[hcl];exact u2)) ?_;have y1:bH X.nx Y Y1:=by rw[hY1];exact(bH.refl _ _).put _
  have sY1:Y1.h.get X.nx=some (.cells (cs.set u (.bool true)) false 0):=by rw[hY1];simp only;rw[T.get_set,if_pos rfl]
  have nY1:Y1.nx=Y.nx:=by rw[hY1]
  clear hY1;have hg1:iD 1 S Y1 v (oT (mI g i)).length (bG (oT (mI g i))):=by
   rcases hg with h | ⟨b,h1,h2,h3,h4,h5⟩
   ·exact .inl h
   ·have:=hb b (by rw[h1];rfl);exact .inr ⟨b,h1,h2,by omega,(y1.2 _ h3 (by omega)).trans h4,h5⟩
  try simp only[↓aA,aB,rE,↓reduceIte]
  refine aG ?_;simp only[↓aA,aB,rE,↓reduceIte,p3];refine gH (lL (k:=.i64) (n:=(i:Int)) (by simp only[↓aA,aB,rE,↓reduceIte])) ?_;intro Y2 y2 nY2 c2;try simp only[↓aA,aB,rE,↓reduceIte]
  have sSY2:Same S Y2:=(bH.same sSY y1 (by omega)).trans y2;have hfl:=oI g i;have hnl:=nD (mI g i);obtain⟨v',Y3,f1,f2,f3,f4,f5⟩:=iD.push (bytes:=8) (hg1.step y2) sSY2 c2 (by unfold room;omega) (by unfold room;omega);refine eR (v:=v') (S1:=Y3) (fun call=>by rw[fS];simp only[↓aA,aB,rE,↓reduceIte,p3];exact f1) ?_;have e2:oT (mI g (i+1))=oT (mI g i)++ [(i:Int)]:=by
   rw[aEQ,if_pos hf];unfold oT;rw[Dz];rfl
  have kk:∀c,c<S4.nx→c≠X.nx→Y3.h.get c=Y.h.get c:=fun c hc hne=>by
   rw[f5 c (by omega) (fun e=>by have:=hb c e;omega),y2.2 c (by omega),y1.2 c (by omega) hne]
  simp only[↓aA,aB,rE,↓reduceIte];refine aG ?_;simp only[↓aA,aB,rE,↓reduceIte,p61,eH (a:=i) (by omega)];refine⟨k - 1,by omega,rfl,⟨by omega,fun c hc hne=>(kk c hc hne).trans (hY.2 c hc hne)⟩,by simp only[↓aA,aB,rE,↓reduceIte,p1],by simp only[↓aA,aB,rE,↓reduceIte,p4],by simp only[↓aA,aB,rE,↓reduceIte,p5],by simp only[↓aA,aB,rE,↓reduceIte,p10],by simp only[↓aA,aB,rE,↓reduceIte,p59],by simp only[↓aA,aB,rE,↓reduceIte,p60],i+1,v',_,fun w=>if w=u then true else sv w,by omega,by simp only[↓aA,aB,rE,↓reduceIte],by simp only[↓aA,aB,rE,↓reduceIte],by rw[e2];exact f2,fun c hc=>?_,(f5 _ (by omega) (fun e=>by have:=hb _ e;omega)).trans ((y2.2 _ (by omega)).trans sY1),by rw[Bi];exact hcl,fun u' hu'=>⟨?_,?_⟩⟩
  ·rw[f3] at hc;cases hc;omega
  ·show(cs.set u (.bool true))[u']? =some (.bool (if u'=u then true else sv u'));rw[Ee];by_cases e:u=u'
   ·subst e;rw[if_pos rfl,if_pos (by rw[hcl];exact u2),if_pos rfl]
   ·rw[if_neg e,if_neg (Cr e)];exact(hcs u' hu').1
  ·show(if u'=u then true else sv u')=true↔_;by_cases e:u'=u
   ·rw[if_pos e,e];exact⟨fun _=>⟨i,by omega,u1⟩,fun _=>rfl⟩
   ·rw[if_neg e,(hcs u' hu').2];constructor
    ·rintro⟨j,j1,j2⟩;exact⟨j,by omega,j2⟩
    ·rintro⟨j,j1,j2⟩;by_cases e3:j=i
     ·rw[e3,u1] at j2;exact absurd (Int.ofNat.inj j2).symm e
     ·exact⟨j,by omega,j2⟩
 clear p1 p3 p4 p5;rintro o ⟨F,inr⟩ Y ⟨rfl,q0,hY,p1,p4,p5,p10,p59,p60,i,v,cs,sv,hik,p61,p3,hg,hb,sY,hcl,hcs⟩;simp only at q0 p1 p3 p4 p5;subst q0;have hin:i=g.nodes.length:=by omega
 subst hin;clear p10 p59 p60 p61 hcs hcl hik sY;have nY:=hY.1;have gY:=(hY.2 _ (show S.nx<S4.nx by omega) (by omega)).trans g4;have mY:=(hY.2 _ (show S1.nx<S4.nx by omega) (by omega)).trans m4;have kY:=(hY.2 _ (show S2.nx<S4.nx by omega) (by omega)).trans k4;have sSY:Same S Y:=bH.same s4' hY (by omega);have pm:=hnl;rw[show bG (oT (mI g g.nodes.length))=(mI g g.nodes.length).map kV from aCS _,nD] at hg;have vlt:∀c,aU v=some c→c<Y.nx:=fun c hc=>(hg.blk hc).2.1;clear hnm hnl g4 m4 k4 hY c4;have lagg:dB (.ptr S.nx 0) true 3 Y.h=some (.agg [.int .i64 g.players,nv,iv]):=jG gY;refine cC ?_;simp only[↓aA,aB,rE,↓reduceIte,p1,lagg];refine bB ?_;try simp only[↓aA,aB,rE,↓reduceIte]
 refine aN (aE7 H G (hv0.same sSY)) ?_;rintro _ Z ⟨⟨ob,rfl,o1,o2,o3⟩,hZ⟩;rw[xR] at *;try simp only[↓aA,aB,rE,↓reduceIte]
 refine cS ?_;intro Z1 z1 nZ1 cZ1;try simp only[↓aA,aB,rE,↓reduceIte]
 obtain⟨Z2,hZ2⟩:∃Z2:St,Z2=⟨Z1.h.set Z.nx (some (.cells [.sl ob 0 g.nodes.length g.nodes.length false] false 0)),Z1.nx⟩:=⟨_,rfl⟩;refine eR (v:=.undef) (S1:=Z2) (fun call=>by rw[dD,hZ2];simp only[↓aA,aB,rE,↓reduceIte];exact yA (cs:=[.nilsl]) (p:=0) cZ1 (by simp)) ?_;have z2:bH Z.nx Z1 Z2:=by rw[hZ2];exact(bH.refl _ _).put _
 have hZb:Z2.h.get Z.nx=some (.cells [.sl ob 0 g.nodes.length g.nodes.length false] false 0):=by rw[hZ2];simp only;rw[T.get_set,if_pos rfl]
 have nZ2:Z2.nx=Z1.nx:=by rw[hZ2]
 clear hZ2 cZ1 lagg;have nYZ:=hZ.1;have kkZ:∀c,c<Z.nx→Z2.h.get c=Z.h.get c:=fun c hc=>(z2.2 c (by omega) (by omega)).trans (z1.2 c hc);have kkY:∀c,c<Y.nx→Z2.h.get c=Y.h.get c:=fun c hc=>(kkZ c (by omega)).trans (hZ.2 c hc);have sYZ:Same Y Z2:=⟨by omega,kkY⟩;simp only[↓aA,aB,rE,↓reduceIte];refine cC ?_;simp only[↓aA,aB,rE,↓reduceIte,p3,pV,mD];refine bB ?_;try simp only[↓aA,aB,rE,↓reduceIte,p3]
 have hpos:0<(mI g g.nodes.length).length:=by
  have:0∈mI g g.nodes.length:=aAi.2 ⟨G.n1,tE.2 fun j hj=>by omega⟩;exact List.length_pos_of_mem this
 have hfl:=oI g g.nodes.length;refine aN (aPk H (xR g) (sSY.trans sYZ) (hg.step sYZ) hpos (fun q hq=>(aAi.1 hq).1) (aDo g _) (by omega) (by omega) (by omega) hZb ((kkZ _ o2).trans o3) (fun e=>by have:=vlt _ e;omega) (fun e=>by have:=vlt _ e;omega)) ?_;rintro _ W ⟨F',hp,hs,hg',nW,kW⟩;have hFl:F'.length=(mI g g.nodes.length).length:=hp.length_eq;have kkW:∀c,c<S4.nx→W.h.get c=Y.h.get c:=fun c hc=>(kW c (by omega) (fun e=>by have:=hb c e;omega)).trans (kkY c (by omega));have mW:=(kkW _ (show S1.nx<S4.nx by omega)).trans mY;have kWb:=(kkW _ (show S2.nx<S4.nx by omega)).trans kY;have sSW:Same S W:=⟨by have:=sSY.1;omega,fun c hc=>(kkW c (by have:=s4'.1;omega)).trans (sSY.2 c hc)⟩;have wlt:∀c,aU v=some c→c<W.nx:=fun c hc=>(hg'.blk hc).2.1;clear kkZ kkY kW hZb o3 hg sYZ;have hg2:iD 1 S W v (oT F').length (bG (oT F')):=by rw[nD,aCS];exact hg'
 have hnm:∀F:Fr,aD 84 F= .map S1.nx→iG (.lenMap (.t 84)) F W.h=some (.int .i64 ((l.length:Nat):Int)):=fun F u=>aBx (m:=.t 84) mW u;try simp only[↓aA,aB,rE,↓reduceIte]
 refine cC ?_;simp only[↓aA,aB,rE,↓reduceIte,p4,hnm];refine gH (oP (n:=l.length) (by simp only[↓aA,aB,rE,↓reduceIte,aH]) (by simp only[↓aA,aB,rE,↓reduceIte,aH]) (by unfold room;omega) (by unfold room;omega)) ?_;intro W1 w1 nW1 cW1;rw[uW] at cW1;try simp only[↓aA,aB,rE,↓reduceIte]
 have kW1:=(w1.2 _ (show S2.nx<W.nx by omega)).trans kWb;have isF:=hg2.is.same w1;have lnF:=isF.len;rw[nD] at lnF;refine aC (bF (Q:=fun o A' V=>o= .normal∧NuK g K F' W1 S2.nx W.nx l.length v 0 A' V) (aC (aG ?_)) ?_)
 ·simp only[↓aA,aB,rE,↓reduceIte,p3,lnF];refine aO (cA (NuK g K F' W1 S2.nx W.nx l.length v) ?_ F'.length _ _ ⟨rfl,bH.refl _ _,by simp only[↓aA,aB,rE,↓reduceIte,p3],by simp only[↓aA,aB,rE,↓reduceIte,p5],by simp only[↓aA,aB,rE,↓reduceIte],by simp only[↓aA,aB,rE,↓reduceIte],by simp only[↓aA,aB,rE,↓reduceIte],0,_,by omega,by simp only[↓aA,aB,rE,↓reduceIte],Bd ..,cW1,fun p q h=>by omega⟩);clear p1 p3 p4 p5;rintro k ⟨F,inr⟩ V ⟨q0,hV,p3,p5,p14,p87,p88,i,N,hik,p89,hNl,nV,hI⟩;simp only at q0 p3 p5 p14 p87 p88 p89;subst q0;refine cC ?_;simp only[↓aA,aB,rE,↓reduceIte,p88,p89,wL];by_cases hlt:i<F'.length;rotate_left
  ·refine aC (aP (by simp only[↓aA,aB,rE,↓reduceIte,Aa hlt]) (bL ?_));have hk:k=0:=by omega
   subst hk;exact⟨rfl,rfl,hV,by simp only[↓aA,aB,rE,↓reduceIte,p3],by simp only[↓aA,aB,rE,↓reduceIte,p5],by simp only[↓aA,aB,rE,↓reduceIte,p14],by simp only[↓aA,aB,rE,↓reduceIte,p87],by simp only[↓aA,aB,rE,↓reduceIte,p88],i,N,hik,by simp only[↓aA,aB,rE,↓reduceIte,p89],hNl,nV,hI⟩
  refine aC (aS (by simp only[↓aA,aB,rE,↓reduceIte,Ac hlt]) (aM ?_));try simp only[↓aA,aB,rE,↓reduceIte]
  obtain⟨q,hq⟩:∃q,F'[i]? =some q:=⟨_,Ad hlt⟩;obtain⟨q1,q2⟩:=aDb hp hq;obtain⟨u,u1,u2⟩:=aAB hS q1;have isV:bT .i64 V v (oT F'):=fJ isF hV.1 fun c hc=>hV.2 c (by have:=wlt c hc;omega) (by have:=wlt c hc;omega);have ia:=isV.iaddr (show i<(oT F').length by rw[nD];exact hlt);have la:=isV.ld (show i<(oT F').length by rw[nD];exact hlt);rw[aGD hq] at la;have kV:=(hV.2 _ (show S2.nx<W1.nx by omega) (by omega)).trans kW1;have iq:=iE (b:=S2.nx) (o:=false) q1;have lq:=aEc kV (show q<K.length by rw[hS.ok.1];exact q1);have iu:=iE (b:=W.nx) (o:=false) u2;have hst:=aM4 hK hS hp hNl hq hI;rw[u1] at lq hst;rw[Db] at hst;refine aC (aO (aC (aG ?_)));simp only[↓aA,aB,rE,↓reduceIte,p87,p89,aH,ia,la];refine aG ?_;simp only[↓aA,aB,rE,↓reduceIte,p5,p14,aH,iq,lq,iu];refine eR (fun call=>by simp only[↓aA,aB,rE,↓reduceIte,dD,cO];exact aBH (S:=V) nV (by rw[hNl];exact u2)) ?_;simp only[↓aA,aB,rE,↓reduceIte];refine aG ?_;simp only[↓aA,aB,rE,↓reduceIte,p89,eH (a:=i) (by omega)];exact⟨k - 1,by omega,rfl,hV.put _,by simp only[↓aA,aB,rE,↓reduceIte,p3],by simp only[↓aA,aB,rE,↓reduceIte,p5],by simp only[↓aA,aB,rE,↓reduceIte,p14],by simp only[↓aA,aB,rE,↓reduceIte,p87],by simp only[↓aA,aB,rE,↓reduceIte,p88],i+1,N.set u (i:Int),by omega,by simp only[↓aA,aB,rE,↓reduceIte],by rw[Bi];exact hNl,by simp only;rw[T.get_set,if_pos rfl],hst⟩
 clear p1 p3 p4 p5;rintro o ⟨F,inr⟩ V ⟨rfl,q0,hV,p3,p5,p14,p87,p88,i,N,hik,p89,hNl,nV,hI⟩;simp only at q0 p3 p5 p14;subst q0;have hin:i=F'.length:=by omega
 subst hin;clear p87 p88 p89 hik;have kV:=(hV.2 _ (show S2.nx<W1.nx by omega) (by omega)).trans kW1;have isV:bT .i64 V v (oT F'):=fJ isF hV.1 fun c hc=>hV.2 c (by have:=wlt c hc;omega) (by have:=wlt c hc;omega);have sSV:Same S V:=bH.same (sSW.trans w1) hV (by have:=s4'.1;omega);have nWV:=hV.1;try simp only[↓aA,aB,rE,↓reduceIte]
 refine cC ?_;simp only[↓aA,aB,rE,↓reduceIte,p5,aIk];refine gH (oP (n:=g.nodes.length) (by simp only[↓aA,aB,rE,↓reduceIte,aH]) (by simp only[↓aA,aB,rE,↓reduceIte,aH]) (by unfold room;omega) (by unfold room;omega)) ?_;intro V1 v1 nV1 cV1;rw[uW] at cV1;try simp only[↓aA,aB,rE,↓reduceIte]
 have kV1:=(v1.2 _ (show S2.nx<V.nx by omega)).trans kV;have nV1b:=(v1.2 _ (show W.nx<V.nx by omega)).trans nV;refine aC (bF (Q:=fun o A' U=>o= .normal∧CaK g K N V1 S2.nx W.nx V.nx l.length v 0 A' U) (aC (aG ?_)) ?_)
 ·simp only[↓aA,aB,rE,↓reduceIte,p5,aIk];refine aO (cA (CaK g K N V1 S2.nx W.nx V.nx l.length v) ?_ g.nodes.length _ _ ⟨rfl,bH.refl _ _,by simp only[↓aA,aB,rE,↓reduceIte,p3],by simp only[↓aA,aB,rE,↓reduceIte],by simp only[↓aA,aB,rE,↓reduceIte,p14],by simp only[↓aA,aB,rE,↓reduceIte],by simp only[↓aA,aB,rE,↓reduceIte],0,_,by omega,by simp only[↓aA,aB,rE,↓reduceIte],Bd ..,cV1,fun j h=>by omega⟩);clear p3 p5 p14;rintro k ⟨F,inr⟩ U ⟨q0,hU,p3,p2,p14,p105,p106,i,C,hik,p107,hCl,cU,hC⟩;simp only at q0 p3 p2 p14 p105 p106 p107;subst q0;refine cC ?_;simp only[↓aA,aB,rE,↓reduceIte,p106,p107,wL];by_cases hlt:i<g.nodes.length;rotate_left
  ·refine aC (aP (by simp only[↓aA,aB,rE,↓reduceIte,Aa hlt]) (bL ?_));have hk:k=0:=by omega
   subst hk;exact⟨rfl,rfl,hU,by simp only[↓aA,aB,rE,↓reduceIte,p3],by simp only[↓aA,aB,rE,↓reduceIte,p2],by simp only[↓aA,aB,rE,↓reduceIte,p14],by simp only[↓aA,aB,rE,↓reduceIte,p105],by simp only[↓aA,aB,rE,↓reduceIte,p106],i,C,hik,by simp only[↓aA,aB,rE,↓reduceIte,p107],hCl,cU,hC⟩
  refine aC (aS (by simp only[↓aA,aB,rE,↓reduceIte,Ac hlt]) (aM ?_));try simp only[↓aA,aB,rE,↓reduceIte]
  obtain⟨u,u1,u2⟩:=aAB hS hlt;have kU:=(hU.2 _ (show S2.nx<V1.nx by omega) (by omega)).trans kV1;have nU:=(hU.2 _ (show W.nx<V1.nx by omega) (by omega)).trans nV1b;have ia:=iE (b:=S2.nx) (o:=false) hlt;have la:=aEc kU (show i<K.length by rw[hS.ok.1];exact hlt);rw[u1] at la;have iu:=iE (b:=W.nx) (o:=false) u2;have lu:=aEc nU (show u<N.length by rw[hNl];exact u2);have ic:=iE (b:=V.nx) (o:=false) hlt;refine aC (aO (aC (aG ?_)));simp only[↓aA,aB,rE,↓reduceIte,p105,p107,aH,ia,la];refine aG ?_;simp only[↓aA,aB,rE,↓reduceIte,p2,p14,aH,iu,lu,ic];refine eR (fun call=>by simp only[↓aA,aB,rE,↓reduceIte,dD,cO];exact aBH (S:=U) cU (by rw[hCl];exact hlt)) ?_;simp only[↓aA,aB,rE,↓reduceIte];refine aG ?_;simp only[↓aA,aB,rE,↓reduceIte,p107,eH (a:=i) (by omega)];refine⟨k - 1,by omega,rfl,hU.put _,by simp only[↓aA,aB,rE,↓reduceIte,p3],by simp only[↓aA,aB,rE,↓reduceIte,p2],by simp only[↓aA,aB,rE,↓reduceIte,p14],by simp only[↓aA,aB,rE,↓reduceIte,p105],by simp only[↓aA,aB,rE,↓reduceIte,p106],i+1,C.set i (N.getD u 0),by omega,by simp only[↓aA,aB,rE,↓reduceIte],by rw[Bi];exact hCl,by simp only;rw[T.get_set,if_pos rfl],fun j hj=>?_⟩;rw[fP (by rw[hCl];exact hlt)];by_cases e:j=i
  ·rw[if_pos e,e,u1,Db]
  ·rw[if_neg e];exact hC j (by omega)
 clear p3 p5 p14;rintro o ⟨F,inr⟩ U ⟨rfl,q0,hU,p3,p2,p14,p105,p106,i,C,hik,p107,hCl,cU,hC⟩;simp only at q0 p3 p2;subst q0;have hin:i=g.nodes.length:=by omega
 subst hin;have nU:=hU.1;have isU:bT .i64 U v (oT F'):=fJ isV (by omega) fun c hc=>by
  have:=wlt c hc;exact(hU.2 c (by omega) (by omega)).trans (v1.2 c (by omega))
 try simp only[↓aA,aB,rE,↓reduceIte]
 refine cC ?_;simp only[↓aA,aB,rE,↓reduceIte,p2,p3];refine aT ?_;simp only[↓aA,aB,rE,↓reduceIte];exact⟨_,_,F',C,rfl,bH.same (sSV.trans v1) hU sSV.1,aPd hK hS hp hs hI hCl hC,lB cU (by omega) hCl,isU⟩
end Go.Ev.Gl
namespace Go.Ev.Gl
open Go.Sort
variable {fns:T cW}
theorem aP8{S:St}{b sz:Nat}{o:Bool}{cs e:List AV}(h:S.h.get b=some (.cells cs o sz))(hl:cs.length=6)(he:e.length=6):jS (.ptr b 0) 6 e S=some (.undef,⟨S.h.set b (some (.cells e o sz)),S.nx⟩):=by
 have hput:put cs 0 e=some e:=by
  rw[put_eq,if_pos (by omega)];simp [List.drop_eq_nil_of_le (show cs.length≤e.length by omega)]
 simp only[jS,oU,h,aK,vX,hput,dL,he];rfl
def aAn(x:bP)(a b c:AV):List AV:=[.int .i64 x.kind,.int .i64 x.player,.int .i64 x.info,a,b,c]
structure aQ4(S:St)(v:AV)(i:Nat)(x:bP)(na nb nc:AV):Prop where
 ex:∃b p,eI (.slice 6) v i=some (.ptr b p)∧b<S.nx∧dB (.ptr b p) true 6 S.h=some (.agg (aAn x na nb nc))
 n:bT .i64 S na x.next
 w:bT .i64 S nb x.weights
 p:bT .i64 S nc x.pay
theorem aQE{S:St}{v:AV}{g:bJ}(hn:aY 6 dJ S v g.nodes){i:Nat}(hi:i<g.nodes.length):∃na nb nc,aQ4 S v i (nodeAt g i) na nb nc:=by
 obtain⟨e,b,p,i1,i2,i3,⟨na,nb,nc,rfl,x1,x2,x3⟩,i5,i6⟩:=aY.at hn (by omega) (dK hi);exact⟨na,nb,nc,⟨b,p,i1,i2,i5⟩,x1,x2,x3⟩
theorem aH9{l:List AV}(h:mK l l=true):cJ (.agg l) (.agg l)=true:=by
 simp only[cJ,h]
theorem aEV{S:St}{x:bP}{a b c:AV}(h1:bT .i64 S a x.next)(h2:bT .i64 S b x.weights)(h3:bT .i64 S c x.pay):cJ (.agg (aAn x a b c)) (.agg (aAn x a b c))=true:=by
 refine aH9 ?_;have e1:=bT.self h1;have e2:=bT.self h2;have e3:=bT.self h3;unfold aAn;simp only[mK,e1,e2,e3,aL];simp [cJ,eG,aL,kG]
def AlI(g:bJ)(S:St)(nv:AV)(a b:Nat)(ca cb:List AV)(k:Nat)(A:bQ)(X:St):Prop:=A.inr=false∧Same S X∧S.nx+12≤X.nx∧aD 0 A.F=nv∧aD 7 A.F= .ptr (S.nx+8) 0∧aD 8 A.F= .ptr (S.nx+9) 0∧X.h.get (S.nx+8)=some (.cells ca false 0)∧X.h.get (S.nx+9)=some (.cells cb false 0)∧∃i,i+k=(nodeAt g a).next.length∧aD 9 A.F= .int .i64 (i:Int)∧∀j,j<i→EqS g (iI g a j) (iI g b j)
end Go.Ev.Gl
namespace Go.Ev.Gl
open Go.Sort
variable {fns:T cW}
end Go.Ev.Gl
namespace Go.Ev.Gl
open Go.Sort
variable {fns:T cW}
end Go.Ev.Gl
namespace Go.Ev.Gl
open Go.Sort
variable {fns:T cW}
def iL(g:bJ)(C:List Int)(q:Nat):bP:={nodeAt g q with next:=(nodeAt g q).next.map fun c=>C.getD c.toNat 0}
def fN(g:bJ)(F:List Nat)(C:List Int):bJ:=⟨g.players,F.map (iL g C),g.infos⟩
theorem qA{g:bJ}(h:gG g=0):∀i,i<g.nodes.length→aNK (nodeAt g i)∧(nodeAt g i).weights.length≤1000:=by
 have G:=aK2 h;have hN:=G.good.n2;have hI:=G.good.ni;have hp:=G.prs;unfold gG at h;split at h
 ·cases h
 split at h
 ·rename_i h1;exact absurd h h1
 rename_i hE;have hE:=Decidable.not_not.1 hE;intro i hi;have hx:iP g.players g.infos.length (nodeAt g i)=0:=jR hE _ (Ar (dK hi));have hk:=G.knd i hi;have hnx:=G.good.nxt i hi;generalize nodeAt g i=x at *;have any:∀ {lo hi:Int} {l:List Int},¬jB lo hi l→∀w∈l,lo≤w∧w≤hi:=fun {lo hi l} ha w hw=>by
  have:¬ (w<lo∨hi<w):=fun h=>ha ⟨w,hw,h⟩;omega
 have nil:∀ {l:List Int},¬ (0:Int)<((l.length:Nat):Int)→l= []:=fun {l} h=>Cc.1 (by omega);unfold iP at hx;split at hx
 ·rename_i k1;split at hx
  ·cases hx
  rename_i hb;split at hx
  ·cases hx
  rename_i ha;unfold tK at hb;have e1:x.pay= []:=nil (by omega);refine⟨⟨by unfold Rng;omega,by unfold Rng;omega,by unfold Rng;omega,fun w hw=>by have:=any ha w hw;unfold Rng;omega,(fun w hw=>by rw[e1] at hw;cases hw)⟩,by omega⟩
 split at hx
 ·rename_i k2;split at hx
  ·cases hx
  rename_i hb;split at hx
  ·cases hx
  unfold xY at hb;have e1:x.pay= []:=nil (by omega);have e2:x.weights= []:=nil (by omega);refine⟨⟨by unfold Rng;omega,by unfold Rng;omega,by unfold Rng;omega,(fun w hw=>by rw[e2] at hw;cases hw),(fun w hw=>by rw[e1] at hw;cases hw)⟩,by rw[e2];simp⟩
 split at hx
 ·rename_i k3;split at hx
  ·cases hx
  rename_i hb;split at hx
  ·cases hx
  rename_i ha;unfold tR at hb;have e2:x.weights= []:=nil (by omega);refine⟨⟨by unfold Rng;omega,by unfold Rng;omega,by unfold Rng;omega,(fun w hw=>by rw[e2] at hw;cases hw),fun w hw=>by have:=any ha w hw;unfold Rng;omega⟩,by rw[e2];simp⟩
 ·cases hx
theorem aJs{k:Nat}{α:Type}{E:St→List AV→α→Prop}{S:St}{l:List α}(h:aY k E S .nilsl l):l= []:=by
 rcases h with⟨h,_⟩ | ⟨b,off,cap,o,cs,h,_⟩
 ·exact h
 ·cases h
theorem aMk{k:Nat}{α:Type}{E:St→List AV→α→Prop}{S:St}{v:AV}{l:List α}(h:aY k E S v l)(hv:v≠ .nilsl):eX .eql (.p .slice) v .nilsl=some (.bool false):=by
 rcases h with⟨_,rfl | rfl⟩ | ⟨b,off,cap,o,cs,rfl,_⟩
 ·exact absurd rfl hv
 ·rfl
 ·rfl
theorem rC{S:St}{v:AV}{l:List Int}(H:Has fns)(h:bT .i64 S v l)(hl:l.length≤10000000):fR fns (.fn 40 [] []) [v] S fun r X=>bT .i64 X r l∧Same S X∧(∀c,aU r=some c→S.nx≤c)∧∀c,aU r=some c→Wr X c:=by
 refine cD H.f40 (by simp) ?_;simp only[↓sU,sD,rE,↓reduceIte,rA];refine cC ?_;simp only[↓sU,sD,rE,↓reduceIte,rA];by_cases hv:v= .nilsl
 ·subst hv;have hl0:=aJs (toG h);subst hl0;have he:eX .eql (.p .slice) .nilsl .nilsl=some (.bool true):=rfl;refine iU ?_;simp only[↓sU,sD,rE,↓reduceIte,rA,he];refine aS (by simp only[↓sU,sD,rE,↓reduceIte,rA]) (aC (aG ?_));simp only[↓sU,sD,rE,↓reduceIte,rA];refine aT ?_;simp only[↓sU,sD,rE,↓reduceIte,rA];exact⟨.inl ⟨rfl,.inl rfl⟩,Same.refl S,fun c hc=>(by cases hc),fun c hc=>(by cases hc)⟩
 ·have he:=aMk (toG h) hv;refine iU ?_;simp only[↓sU,sD,rE,↓reduceIte,rA,he];refine aP (by simp only[↓sU,sD,rE,↓reduceIte,rA]) (aM ?_);try simp only[↓sU,sD,rE,↓reduceIte,rA]
  refine cC ?_;refine gH aDQ ?_;intro S1 s1 n1 g1;simp only[↓aA,aB,rE,↓reduceIte,rA];obtain⟨r,S2,e,hr,s2,kr,wr⟩:=aI0 (bytes:=8) (E:=aNA) (l:=l) aKy Nat.one_pos g1 (by omega) (toG (h.same s1)) (by unfold room;omega) (by unfold room;omega);refine eR (fun call=>by simp only[↓aA,aB,rE,↓reduceIte,rA,fS];exact e) ?_;simp only[↓aA,aB,rE,↓reduceIte,rA];refine aT ?_;simp only[↓aA,aB,rE,↓reduceIte,rA];exact⟨ofG hr,s1.trans s2,fun c hc=>by rcases kr c hc with h | h<;>omega,wr⟩
theorem aB0{S:St}{v:AV}{l:List mT}(H:Has fns)(h:aY 2 fM S v l)(hl:l.length * 16≤140737488355328):fR fns (.fn 49 [] []) [v] S fun r X=>aY 2 fM X r l∧Same S X∧∀c,aU r=some c→S.nx≤c:=by
 refine cD H.f49 (by simp) ?_;simp only[↓sU,sD,rE,↓reduceIte,rA];refine cC ?_;simp only[↓sU,sD,rE,↓reduceIte,rA];by_cases hv:v= .nilsl
 ·subst hv;have hl0:=aJs h;subst hl0;have he:eX .eql (.p .slice) .nilsl .nilsl=some (.bool true):=rfl;refine iU ?_;simp only[↓sU,sD,rE,↓reduceIte,rA,he];refine aS (by simp only[↓sU,sD,rE,↓reduceIte,rA]) (aC (aG ?_));simp only[↓sU,sD,rE,↓reduceIte,rA];refine aT ?_;simp only[↓sU,sD,rE,↓reduceIte,rA];exact⟨.inl ⟨rfl,.inl rfl⟩,Same.refl S,fun c hc=>(by cases hc)⟩
 ·have he:=aMk h hv;refine iU ?_;simp only[↓sU,sD,rE,↓reduceIte,rA,he];refine aP (by simp only[↓sU,sD,rE,↓reduceIte,rA]) (aM ?_);try simp only[↓sU,sD,rE,↓reduceIte,rA]
  refine cC ?_;refine gH aDQ ?_;intro S1 s1 n1 g1;simp only[↓aA,aB,rE,↓reduceIte,rA];obtain⟨r,S2,e,hr,s2,kr⟩:=aPy (k:=2) (bytes:=16) (E:=fM) (l:=l) eZ (by decide) g1 (by omega) (aY.same (E:=fM) eZ h s1) (by unfold room;omega) (by unfold room;omega);refine eR (fun call=>by simp only[↓aA,aB,rE,↓reduceIte,rA,fS];exact e) ?_;simp only[↓aA,aB,rE,↓reduceIte,rA];refine aT ?_;simp only[↓aA,aB,rE,↓reduceIte,rA];exact⟨hr,s1.trans s2,fun c hc=>by rcases kr c hc with h | h<;>omega⟩
end Go.Ev.Gl
namespace Go.Ev.Gl
open Go.Sort
variable {fns:T cW}
theorem aOy{W:St}{F:Fr}{inr:Bool}{nb:Nat}{k p f:AV}{xa xw xp:AV}{l2 l3:List Int}{Q:Out→bQ→St→Prop}(H:Has fns)(p8:aD 8 F= .ptr nb 0)(hb:W.h.get nb=some (.cells [k,p,f,xa,xw,xp] false 0))(lb:nb<W.nx)(h2:bT .i64 W xw l2)(h3:bT .i64 W xp l3)(b2:l2.length≤10000000)(b3:l3.length≤10000000)
  (hQ:∀F' Z r2 r3,(∀j,j<33→aD j F'=aD j F)→bH nb W Z→Z.h.get nb=some (.cells [k,p,f,.nilsl,r2,r3] false 0)→bT .i64 Z r2 l2→bT .i64 Z r3 l3→(∀c,(aU r2=some c∨aU r3=some c)→W.nx≤c)→(∀c,(aU r2=some c∨aU r3=some c)→Wr Z c)→Q .normal ⟨F',inr⟩ Z):mF fns (.drw aNY) ⟨F,inr⟩ W Q:=by
 have s2:=bT.self h2;have s3:=bT.self h3;refine aD3 (W:=fun _=>False) (R:=fun F' X' ps=>ps= []∧Same W X'∧(∀j,j<33→aD j F'=aD j F)∧aD 39 F'= .ptr nb (0+4)∧bT .i64 X' (aD 35 F') l2∧bT .i64 X' (aD 38 F') l3∧(∀c,(aU (aD 35 F')=some c∨aU (aD 38 F')=some c)→W.nx≤c)∧(∀c,(aU (aD 35 F')=some c∨aU (aD 38 F')=some c)→Wr X' c)) 7 rfl (by decide) ?_ ?_
 ·intro S1 x1 hS1 nS1;unfold aNY;simp only[Bk,Br];simp only[↓sU,sD,rE,↓reduceIte,rA,p8,aE,aW,aF,fZ hb,lb,Ap,s2];refine cH rfl ?_;simp only[↓sU,sD,rE,↓reduceIte,rA];refine aN (rC H (h2.same x1) b2) ?_;rintro r2 Y ⟨i2,y,k2,w2⟩;refine⟨y,?_⟩;try simp only[↓sU,sD,rE,↓reduceIte,rA,p8,aE,aW,aF,fV hb,lb,Ap,s3]
  refine cH rfl ?_;simp only[↓sU,sD,rE,↓reduceIte,rA];refine aN (rC H (h3.same (x1.trans y)) b3) ?_;rintro r3 Z ⟨i3,z,k3,w3⟩;refine⟨z,?_⟩;have n1:=x1.1;have n2:=y.1;try simp only[↓sU,sD,rE,↓reduceIte,rA,p8,aE,aW,aF]
  refine⟨x1.trans (y.trans z),fun j hj=>?_,i2.same z,i3,fun c hc=>?_,fun c hc=>?_⟩
  ·simp only[bU,show ¬j=33 by omega,show ¬j=34 by omega,show ¬j=35 by omega,show ¬j=36 by omega,show ¬j=37 by omega,show ¬j=38 by omega,show ¬j=39 by omega,Co]
  ·rcases hc with hc | hc
   ·have:=k2 c hc;omega
   ·have:=k3 c hc;omega
  ·rcases hc with hc | hc
   ·exact(w2 c hc).eq (z.2 c (dN i2 hc))
   ·exact w3 c hc
 rintro F' S' ps hs ls ⟨rfl,sZ,hk,p39,i2,i3,hbk,hwr⟩ hlast hld;have p8':aD 8 F'= .ptr nb 0:=(hk 8 (by omega)).trans p8;have hb':=(sZ.2 _ lb).trans hb;generalize hr2:aD 35 F'=r2 at i2 hbk hwr;generalize hr3:aD 38 F'=r3 at i3 hbk hwr;have m1:∀i,i<7→Nat.testBit 127 i=true:=by decide
 unfold aNY;simp only[List.drop_succ_cons,Cq];refine jL (v:=.undef) (S1:=⟨S'.h.set nb (some (.cells [k,p,f,xa,r2,xp] false 0)),S'.nx⟩) (hlast _ m1) (fun call=>?_) ?_
 ·rw[dD];simp only[fU,p39,hr2,bR,bT.cells i2,aK];exact yA (S:=S') hb' (by simp)
 simp only[mS,dY,aE,aF,aW,aR,fU,bR,dV,bU,p8',rE,↓reduceIte,rA];refine jL (v:=.undef) (S1:=⟨(S'.h.set nb (some (.cells [k,p,f,xa,r2,xp] false 0))).set nb (some (.cells [k,p,f,xa,r2,r3] false 0)),S'.nx⟩) (show Nat.testBit 511 7=true by decide) (fun call=>?_) ?_
 ·rw[dD];simp only[fU,bU,rE,↓reduceIte,hr3,bR,bT.cells i3,aK];exact yA (cs:=[k,p,f,xa,r2,xp]) (p:=5) (S:=⟨S'.h.set nb (some (.cells [k,p,f,xa,r2,xp] false 0)),S'.nx⟩) (by simp only;rw[T.get_set,if_pos rfl]) (by simp)
 simp only[mS,dY,aE,aF,aW,aR,fU,bR,dV,bU,p8',rE,↓reduceIte,rA];refine jL (v:=.undef) (S1:=⟨((S'.h.set nb (some (.cells [k,p,f,xa,r2,xp] false 0))).set nb (some (.cells [k,p,f,xa,r2,r3] false 0))).set nb (some (.cells [k,p,f,.nilsl,r2,r3] false 0)),S'.nx⟩) (show Nat.testBit 2047 9=true by decide) (fun call=>?_) ?_
 ·rw[dD];simp only[fU,aEC,bU,rE,↓reduceIte,bR];exact yA (cs:=[k,p,f,xa,r2,r3]) (p:=3) (w:=.nilsl) (S:=⟨(S'.h.set nb (some (.cells [k,p,f,xa,r2,xp] false 0))).set nb (some (.cells [k,p,f,xa,r2,r3] false 0)),S'.nx⟩) (by simp only;rw[T.get_set,if_pos rfl]) (by simp)
 rw[iH];refine⟨?_,?_⟩
 ·simp only[Cl,Aw,Cm,Bl,Bh];exact hld _ _ _ m1
 ·simp only[bR,dV];have hne:∀ {v:AV} {l:List Int},bT .i64 S' v l→(∀c,aU v=some c→W.nx≤c)→bT .i64 ⟨((S'.h.set nb (some (.cells [k,p,f,xa,r2,xp] false 0))).set nb (some (.cells [k,p,f,xa,r2,r3] false 0))).set nb (some (.cells [k,p,f,.nilsl,r2,r3] false 0)),S'.nx⟩ v l:=fun {v l} h hc=>fJ h (Af _) fun c hcc=>by
   have:=hc c hcc;simp only;rw[T.get_set,if_neg (by omega),T.get_set,if_neg (by omega),T.get_set,if_neg (by omega)]
  refine hQ _ _ r2 r3 (fun j hj=>?_) ⟨sZ.1,fun c hc hn=>?_⟩ (by simp only;rw[T.get_set,if_pos rfl]) (hne i2 fun c hc=>hbk c (.inl hc)) (hne i3 fun c hc=>hbk c (.inr hc)) hbk (fun c hc=>(hwr c hc).eq (by have:=hbk c hc;simp only;rw[T.get_set,if_neg (by omega),T.get_set,if_neg (by omega),T.get_set,if_neg (by omega)]))
  ·rw[bU,if_neg (by omega),bU,if_neg (by omega)];exact hk j hj
  ·simp only;rw[T.get_set,if_neg hn,T.get_set,if_neg hn,T.get_set,if_neg hn];exact sZ.2 c hc
theorem aNS{S0 S:St}{F:Fr}{inr:Bool}{nb:Nat}{k p f:AV}{a xw xp cv:AV}{l C:List Int}{c:Int}{Q:Out→bQ→St→Prop}(p8:aD 8 F= .ptr nb 0)(p3:aD 3 F=cv)(p10:aD 10 F= .int .i64 c)(hb:S.h.get nb=some (.cells [k,p,f,a,xw,xp] false 0))(lb:nb<S.nx)(hC:bT .i64 S cv C)(h0:0≤c)(h1:c.toNat<C.length)(ha:iD 1 S0 S a l.length (bG l))(hS:Same S0 S)(ne:aU a≠some nb)(neC:∀b,aU cv=some b→aU a≠some b)(hl:l.length≤100000)
  (hQ:∀F' Z a',(∀j,j<53→aD j F'=aD j F)→S.nx≤Z.nx→Z.h.get nb=some (.cells [k,p,f,a',xw,xp] false 0)→iD 1 S0 Z a' (l++ [C.getD c.toNat 0]).length (bG (l++ [C.getD c.toNat 0]))→(∀b,aU a'=some b→S.nx≤b)→(∀b,b<S.nx→b≠nb→aU a≠some b→Z.h.get b=S.h.get b)→Q .normal ⟨F',inr⟩ Z):mF fns (.drw aOq) ⟨F,inr⟩ S Q:=by
 have sa:=ha.self;have sC:=bT.self hC;have ic:=hC.iaddr h1;have lc:=hC.ld h1;have hnc:=pH .i64 h0;have oldC:aJy (fun b=>aU a=some b) S.nx (aCe cv c.toNat):=by
  rcases hC with⟨e,_⟩ | ⟨b,off,cap,o,cs,rfl,_,hlt,_⟩
  ·rw[e] at h1;simp at h1
  ·exact⟨_,_,rfl,hlt,neC b rfl⟩
 refine aD3 (W:=fun b=>aU a=some b) (R:=fun F' X' ps=>ps= []∧S.nx≤X'.nx∧(∀j,j<53→aD j F'=aD j F)∧aD 61 F'= .ptr nb (0+3)∧iD 1 S0 X' (aD 60 F') (l++ [C.getD c.toNat 0]).length (bG (l++ [C.getD c.toNat 0]))∧(∀b,aU (aD 60 F')=some b→S.nx≤b)∧∀b,b<S.nx→aU a≠some b→X'.h.get b=S.h.get b) 9 rfl (by decide) ?_ ?_
 ·intro S1 x1 hS1 nS1;unfold aOq;simp only[Bk,Br];simp only[↓sU,sD,rE,↓reduceIte,rA,p8,p3,p10,aE,aW,aF,fK hb,lb,ne,Ap,sa,sC,hnc,ic,lc];refine⟨oldC,?_⟩;rw[lL (k:=.i64) (n:=C.getD c.toNat 0) (by simp only[↓sU,sD,rE,↓reduceIte,rA]),iY];have nS1:S1.nx=S.nx+10:=nS1;obtain⟨U,hU⟩:∃U:St,U=⟨S1.h.set (S.nx+6) (some (.cells [.int .i64 (C.getD c.toNat 0)] false 0)),S1.nx⟩:=⟨_,rfl⟩;have sQU:Same S U:=by rw[hU];exact⟨x1.1,fun b hbb=>by simp only;rw[T.get_set,if_neg (by omega)];exact x1.2 b hbb⟩
  have gU:U.h.get (S.nx+6)=some (.cells [.int .i64 (C.getD c.toNat 0)] false 0):=by rw[hU];simp only;rw[T.get_set,if_pos rfl]
  have nU:U.nx=S.nx+10:=by rw[hU];exact nS1
  obtain⟨a',V,e1,g1,e2,e3,e4⟩:=iD.push (bytes:=8) (ha.step sQU) (hS.trans sQU) gU (by unfold room;omega) (by unfold room;omega);simp only[↓sU,sD,rE,↓reduceIte,rA];refine aHm rfl (by rw[dT rfl];simp only[↓sU,sD,rE,↓reduceIte,rA];rw[←hU];exact e1) ?_ ?_
  ·rw[dT rfl,←hU];exact⟨by show U.nx≤V.nx;omega,fun b hbb hw=>e4 b (by omega) hw⟩
  rw[dT rfl];simp only[↓sU,sD,rE,↓reduceIte,rA,p8,aE,aW,aF];refine⟨by omega,fun j hj=>?_,g1,fun b hbb=>by rw[e2] at hbb;cases hbb;omega,fun b hbb hw=>(e4 b (by omega) hw).trans (sQU.2 b hbb)⟩;simp only[bU,show ¬j=53 by omega,show ¬j=54 by omega,show ¬j=55 by omega,show ¬j=56 by omega,show ¬j=57 by omega,show ¬j=58 by omega,show ¬j=59 by omega,show ¬j=60 by omega,show ¬j=61 by omega,Co]
 rintro F' S' ps hs ls ⟨rfl,nZ,hk,p61,g1,hbk,hR⟩ hlast hld;have hb':=(hR _ lb ne).trans hb;generalize hr:aD 60 F'=a' at g1 hbk;have m1:∀i,i<9→Nat.testBit 511 i=true:=by decide
 unfold aOq;simp only[List.drop_succ_cons,Cq];refine jL (v:=.undef) (S1:=⟨S'.h.set nb (some (.cells [k,p,f,a',xw,xp] false 0)),S'.nx⟩) (hlast _ m1) (fun call=>?_) ?_
 ·rw[dD];simp only[fU,p61,hr,bR,g1.cells,aK];exact yA (S:=S') hb' (by simp)
 rw[iH];refine⟨?_,?_⟩
 ·simp only[Cl,Aw,Cm,Bl,Bh];exact hld _ _ _ m1
 ·simp only[bR,dV];refine hQ _ _ a' hk nZ (by simp only;rw[T.get_set,if_pos rfl]) (g1.move (Af _) fun b hbb=>by
   have:=hbk b hbb;simp only;rw[T.get_set,if_neg (by omega)]) hbk fun b h2 h3 h4=>?_
  simp only;rw[T.get_set,if_neg h3];exact hR b h2 h4
end Go.Ev.Gl
