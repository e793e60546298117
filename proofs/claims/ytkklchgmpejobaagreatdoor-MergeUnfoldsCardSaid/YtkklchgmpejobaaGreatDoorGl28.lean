import Derived.Test.YtkklchgmpejobaaGreatDoorGl27
open Nat renaming reduceEqDiff → rE, reduceAdd → rA
set_option maxHeartbeats 16000000
set_option linter.unusedSimpArgs false
set_option linter.unusedVariables false
namespace Go.Ev.Gl
variable {fns:T cW}
def XkU(h:bC)(S0 X:St)(m:UyS)(f v gb xb:Nat)(nv iv xa xw xp:AV)(k:Nat)(A:bH)(W:St):Prop:=A.inr=false∧∃j m' vv l2,j+k=(nodeAt h v).next.length∧m'.l=m.l++({nodeAt h v with next:=(gQ (oV h f) ((nodeAt h v).next.take j) (m.l.length+1)).1},vv)::l2∧l2.map (·.1)=(gQ (oV h f) ((nodeAt h v).next.take j) (m.l.length+1)).2∧yZ S0 W m'∧yN m X m' W∧Same S0 W∧W.h.get gb=some (.cells [.int .i64 h.players,nv,iv] false 0)∧(PV m' gb∧gb<W.nx)∧W.h.get xb=some (.cells [.int .i64 (nodeAt h v).kind,.int .i64 (nodeAt h v).player,.int .i64 (nodeAt h v).info,xa,xw,xp] false 0)∧(PV m' xb∧xb<W.nx)∧aH 2 A.F=m'.na∧aH 3 A.F= .ptr gb 0∧aH 7 A.F= .ptr xb 0∧aH 8 A.F= .int .i64 ((m.l.length:Nat):Int)∧aH 9 A.F= .int .i64 (j:Int)
theorem yR{h:bC}{S0:St}{nv iv:AV}(H:Has fns)(hK:eQ h)(hT:tZ h)(hn:aQ 6 cC S0 nv h.nodes)(hi:aQ 2 dI S0 iv h.infos):∀ {f v:Nat} {X:St} {m:UyS},v<h.nodes.length→h.nodes.length - v≤f→yZ S0 X m→Same S0 X→m.l.length+jC h v≤100000→
  fB fns (.fn 51 [] []) [.agg [.int .i64 h.players,nv,iv],.int .i64 (v:Int),m.na] X fun r X'=>∃m' l2,r=m'.na∧m'.l=m.l++l2∧l2.map (·.1)=oV h f v m.l.length∧yZ S0 X' m'∧yN m X m' X'
 | 0,v,_,_,hv,hf,_,_,_=>by omega
 | f+1,v,X,m,hv,hf,hV,hS,hsz=>by
  have ih:=@yR h S0 nv iv H hK hT hn hi f;have hcp:=aIQ hK hv;obtain⟨_,tw,tp⟩:=hT.2 _ (Ao (cM hv));refine bN H.f51 (by simp) ?_;simp only[↓aB,aA,rE,↓reduceIte,rA];refine bL ?_;refine cL (cs:=[.int .i64 h.players,nv,iv]) (by simp only[↓aB,aA,rE,↓reduceIte,rA];exact bE _) ?_;intro X1 x1 n1 c1;simp only[↓aB,aA,rE,↓reduceIte,rA];obtain⟨e,b,q,i1,i2,i3,⟨xa,xw,xp,rfl,k1,k2,k3⟩,i5,i6⟩:=aQ.at hn (by decide) (cM hv);have sX1:=hS.trans x1;have ld:=(mC sX1 i2).trans i5;refine bL ?_;simp only[↓aB,aA,rE,↓reduceIte,rA,aE,aD,cN c1,aQ.self hn,aG,i1,ld];refine cD ?_;intro X2 x2 n2 c2;try simp only[↓aB,aA,rE,↓reduceIte,rA]
  refine eF (b:=X1.nx) (by simp only[↓aB,aA,rE,↓reduceIte,rA]) (by simp only[↓aB,aA,rE,↓reduceIte,rA];exact bE _) c2 rfl rfl ?_;intro X3 x3 n3 c3;simp only[↓aB,aA,rE,↓reduceIte,rA];have s13:Same X1 X3:=x3.same x2 (Ah _);have sX3:=x1.trans s13;have g3:=(s13.2 _ (show X.nx<X1.nx by omega)).trans c1;have V3:=hV.same sX3;have sS3:=hS.trans sX3;have lna:=hV.nod.len;refine bL ?_;simp only[↓aB,aA,rE,↓reduceIte,rA,lna];have fx:PV m X1.nx:=hV.fresh (by omega);have fg:PV m X.nx:=hV.fresh (Ah _);refine aC (aLV (x:=nodeAt h v) V3 sS3.1 (by omega) (by simp only[↓aB,aA,rE,↓reduceIte,rA]) (by simp only[↓aB,aA,rE,↓reduceIte,rA]) c3 (by omega) fx (k2.same sS3) (k3.same sS3) tw tp ?_);intro F1 Y v' hk1 p2 hY KY;have q3:=(hk1 3 (by omega) (by omega)).trans (show _=AV.ptr X.nx 0 by simp only[↓aB,aA,rE,↓reduceIte,rA]);have q7:=(hk1 7 (by omega) (by omega)).trans (show _=AV.ptr X1.nx 0 by simp only[↓aB,aA,rE,↓reduceIte,rA]);have q8:=(hk1 8 (by omega) (by omega)).trans (show _=AV.int .i64 ((m.l.length:Nat):Int) by simp only[↓aB,aA,rE,↓reduceIte,rA]);have kg:=KY.2 X.nx (by omega) fg;have kx:=KY.2 X1.nx (by omega) fx;have SY:=V3.same0 KY sS3;try simp only[↓aB,aA,rE,↓reduceIte,rA]
  refine aC (aT (Q:=fun o A' W=>o= .normal∧XkU h S0 X m f v X.nx X1.nx nv iv xa xw xp 0 A' W) (aC (aF ?_)) ?_)
  ·simp only[↓aB,aA,rE,↓reduceIte,rA];refine aK (bG (XkU h S0 X m f v X.nx X1.nx nv iv xa xw xp) ?_ (nodeAt h v).next.length _ _ ⟨rfl,0,_,.nilsl,[],by omega,by rw[Bi];rfl,by rw[Bi];rfl,hY,(yN.same sX3).trans KY,SY,kg.1.trans g3,⟨kg.2,Ae (by omega) KY.1⟩,kx.1.trans c3,⟨kx.2,Ae (by omega) KY.1⟩,by simp only[↓aB,aA,rE,↓reduceIte,rA,p2],by simp only[↓aB,aA,rE,↓reduceIte,rA,q3],by simp only[↓aB,aA,rE,↓reduceIte,rA,q7],by simp only[↓aB,aA,rE,↓reduceIte,rA,q8],by simp only[↓aB,aA,rE,↓reduceIte,rA];try rfl⟩);clear hY KY SY kg kx q3 q7 q8 p2 hk1 V3 sS3 g3 c3 s13 sX3 x3 x2 c2 ld;rintro k ⟨F,inr⟩ W ⟨q0,j,m',vv,l2,hjk,e1,e2,hW,KW,SW,gW,⟨pg,lg⟩,xW,⟨px,lx⟩,p2,p3,p7,p8,p9⟩;simp only at q0 p2 p3 p7 p8 p9;subst q0;refine fY ?_;simp only[↓aB,aA,rE,↓reduceIte,rA,p7,p9,aE,aD,dD xW,bI.self k1,k1.len,Ai,qT];by_cases hj:j<(nodeAt h v).next.length;rotate_left
   ·refine aL (by simp only[↓aB,aA,rE,↓reduceIte,rA,Aa hj]) (bD ?_);obtain rfl:k=0:=by omega
    exact⟨rfl,rfl,j,m',vv,l2,hjk,e1,e2,hW,KW,SW,gW,⟨pg,lg⟩,xW,⟨px,lx⟩,by refine⟨?_,?_,?_,?_,?_⟩<;>simp only[↓aB,aA,rE,↓reduceIte,rA,p2,p3,p7,p8,p9]⟩
   refine aN (by simp only[↓aB,aA,rE,↓reduceIte,rA,Ab hj]) (aI ?_);try simp only[↓aB,aA,rE,↓reduceIte,rA]
   obtain⟨u1,u2,u3⟩:=hK v hv j hj;have htk:(nodeAt h v).next.take (j+1)=(nodeAt h v).next.take j++ [((gH h v j:Nat):Int)]:=by rw[tF hj,u3]
   have kk:=zS (u:=oV h f) (l:=(nodeAt h v).next.take j) (k:=((gH h v j:Nat):Int)) (i:=m.l.length+1);rw[←htk,Cm] at kk;have hl2:l2.length+1=pF h v j:=by
    have h1:l2.length=(gQ (oV h f) ((nodeAt h v).next.take j) (m.l.length+1)).2.length:=by rw[←e2,Ax]
    rw[h1,vH (w:=aEy h f) fun v i=>aAS];unfold pF;rw[uT fun c hc=>?_,Fm];obtain⟨c1,c2⟩:=sH (hK:=hK) hv (Cz hc);exact uA hK c2 (by omega) (by omega)
   have hb2:(gQ (oV h f) ((nodeAt h v).next.take j) (m.l.length+1)).2.length=l2.length:=by rw[←e2,Ax]
   have hb1:(gQ (oV h f) ((nodeAt h v).next.take j) (m.l.length+1)).1.length≤100000:=by
    rw[aAj,Bs];omega
   have hml:m'.l.length=m.l.length+1+l2.length:=by rw[e1,Al,Am];omega
   have hps:=yK (h:=h) hj;rw[u3,Cm] at hps;have hpl:=aJa (h:=h) (v:=v) (j:=j+1);rw[tV hK hv] at hpl;generalize hKB:gQ (oV h f) ((nodeAt h v).next.take j) (m.l.length+1)=KB at *;have hat:m'.l[m.l.length]? =some ({nodeAt h v with next:=KB.1},vv):=by rw[e1,Bh (Ah _),De];rfl
   obtain⟨nb,o,r1,r2,r3,r4,hG⟩:=hW.row_at hat;have lnW:=hW.nod.len;refine aC (aK (aC (aF ?_)));simp only[↓aB,aA,rE,↓reduceIte,rA,p2,p8,aG,r1,aE,aD,r4,lnW];refine fE (nB (k:=.i64) (n:=((m'.l.length:Nat):Int)) (by simp only[↓aB,aA,rE,↓reduceIte,rA])) ?_;intro W1 w1 o1 d1;try simp only[↓aB,aA,rE,↓reduceIte,rA]
   have rowlt:=fun {c} (hc:aX vv=some c)=>hW.row_of hat hc;obtain⟨rv,W2,f1,f2,f3,f4,f5⟩:=iD.push (bytes:=8) (hG.step w1) (SW.trans w1) d1 (by unfold room;show KB.1.length+1≤_;omega) (by unfold room;show(KB.1.length+1) * 8≤_;omega);refine eT (v:=rv) (S1:=W2) (fun call=>by rw[iY];simp only[↓aB,aA,rE,↓reduceIte,rA];exact f1) ?_;obtain⟨bb,pp,W3,z1,z2,z3,z4,z5,hW3,K3⟩:=hW.row (v':=rv) (w:=((m'.l.length:Nat):Int)) (X':=W2) hat (by have:=w1.1;omega) (fun c hc hne=>(f5 c (by have:=w1.1;omega) hne).trans (w1.2 c hc)) f2 fun c hc=>by rw[f3] at hc;cases hc;exact w1.1
   rw[r1] at z1;cases z1;have hrc:rv.cells=some [rv]:=iD.cells f2;simp only[↓aB,aA,rE,↓reduceIte,rA,p2,p8,aG,r1,aE,aD];refine eT (v:=.undef) (S1:=W3) (fun call=>by rw[dN];simp only[↓aB,aA,rE,↓reduceIte,rA,hrc,aM];exact z4) ?_;simp only[↓aB,aA,rE,↓reduceIte,rA];have SW3:=hW.same0 K3 SW;have kg3:=K3.2 _ lg pg;have kx3:=K3.2 _ lx px;have lg3:=Ae lg K3.1;have lx3:=Ae lx K3.1;have gW3:=kg3.1.trans gW;have xW3:=kx3.1.trans xW;have iaj:=k1.iaddr hj;obtain⟨cb,co,hp1,cl⟩:=bI.place k1 hj;rw[hp1] at iaj;have laj:=(k1.same SW3).ld hj;rw[u3,hp1] at laj;have cl3:cb<W3.nx:=Ae cl SW3.1;have pc3:PV (vS m' m.l.length {nodeAt h v with next:=KB.1} ((m'.l.length:Nat):Int) rv) cb:=hW3.low cl;have lagg:cE (.ptr X.nx 0) true 3 W3.h=some (.agg [.int .i64 h.players,nv,iv]):=fG gW3;have sagg:bW (.agg [.int .i64 h.players,nv,iv]) (.agg [.int .i64 h.players,nv,iv])=true:=kS (dG ..) (aQ.self hn) (aQ.self hi);have nn:∀ {p:Prop},p→¬ ¬p:=fun hp h=>h hp;have ska:=bI.self k1;have lset:(vS m' m.l.length {nodeAt h v with next:=KB.1} ((m'.l.length:Nat):Int) rv).l.length=m'.l.length:=by unfold vS;simp
   refine fP (fun c=>¬PV (vS m' m.l.length {nodeAt h v with next:=KB.1} ((m'.l.length:Nat):Int) rv) c) ?_;intro W4 w4 hW4 nW4;simp only[↓sU,sD,rE,↓reduceIte,rA,p2,p3,p7,p9,aE,aW,aD,lagg,dD xW3,aG,iaj,laj,lg3,lx3,cl3,nn kg3.2,nn kx3.2,nn pc3,An,sagg,ska];have ih':=ih (m:=vS m' m.l.length {nodeAt h v with next:=KB.1} ((m'.l.length:Nat):Int) rv) u2 (by omega) (hW3.same w4) (SW3.trans w4) (by rw[lset];omega);refine aDh rfl ?_;simp only[↓sU,sD,rE,↓reduceIte,rA];refine aO ih' ?_;rintro _ W5 ⟨m2,l3,rfl,a1,a2,hW5,K5⟩;have K35:=(yN.same w4).trans K5;refine⟨⟨K5.1,fun c hc hp=>?_⟩,?_⟩
   ·exact(K5.2 c (by have:=w4.1;omega) (Classical.not_not.1 hp)).1
   try simp only[↓sU,sD,rE,↓reduceIte,rA]
   have kg5:=K35.2 _ lg3 kg3.2;have kx5:=K35.2 _ lx3 kx3.2;rw[lset] at a2;have a1':m2.l=m.l++({nodeAt h v with next:=KB.1++ [((m'.l.length:Nat):Int)]},rv)::(l2++l3):=by
    rw[a1];unfold vS;simp only;rw[hml,e1,List.set_append_right _ _ (Ah _),De,Bl];rfl
   refine aF ?_;simp only[↓sU,sD,rE,↓reduceIte,rA,p9,dL (a:=j) (by omega)];refine⟨k - 1,by omega,rfl,j+1,m2,rv,l2++l3,by omega,?_,?_,hW5,(KW.trans K3).trans K35,hW3.same0 K35 SW3,kg5.1.trans gW3,⟨kg5.2,Ae lg3 K35.1⟩,kx5.1.trans xW3,⟨kx5.2,Ae lx3 K35.1⟩,by refine⟨?_,?_,?_,?_,?_⟩<;>simp only[↓sU,sD,rE,↓reduceIte,rA,p3,p7,p8]⟩
   ·rw[kk,a1',hml,hb2]
   ·rw[kk,Cu,e2,a2,hml,hb2]
  rintro o ⟨F,inr⟩ W ⟨rfl,q0,j,m',vv,l2,hjk,e1,e2,hW,KW,SW,gW, -,xW, -,p2, -⟩;simp only at q0 p2;subst q0;obtain rfl:j=(nodeAt h v).next.length:=by omega
  rw[Bt] at e1 e2;try simp only[↓aB,aA,rE,↓reduceIte,rA]
  refine bL ?_;simp only[↓aB,aA,rE,↓reduceIte,rA,p2];refine aR ?_;simp only[↓aB,aA,rE,↓reduceIte,rA];refine⟨m',_,rfl,e1,?_,hW,KW⟩;rw[Cw,e2];rfl
theorem aMA{a b:Nat}:mnU 2001 (jI a+jI b)=jI (a+b):=by
 unfold mnU jI;split<;>split<;>split<;>split<;>omega
noncomputable def aPQ:List AO:=[mt 32 3,
mt 33 4,
mt 34 3,
mt 35 4,
om 36 12 (.iaddr (.slice 1) (.t 34) (.t 35)),
om 37 28 (ld 36),
mt 38 3,
oq 39 (.faddr 1 (.t 1)),
om 40 128 (ld 39),
mt 41 4,
om 42 896 (.iaddr (.slice 6) (.t 40) (.t 41)),
om 43 1920 (.faddr 3 (.t 42)),
om 44 3968 (ld 43),
mt 45 5,
om 46 16256 (.iaddr (.slice 1) (.t 44) (.t 45)),
om 47 32640 (ld 46),
om 48 65472 (.iaddr (.slice 1) (.t 38) (.t 47)),
om 49 131008 (ld 48),
om 50 262140 (bi .add (.t 37) (.t 49)),
om 51 524284 (.minmax false [(ci 2001),(.t 50)]),
om 52 1048575 (.iaddr (.slice 1) (.t 32) (.t 33))]
def XzI(h:bC)(S2:St)(gb sb:Nat)(k:Nat)(A:bH)(X:St):Prop:=A.inr=false∧bB sb S2 X∧aH 1 A.F= .ptr gb 0∧aH 3 A.F= .sl sb 0 h.nodes.length h.nodes.length false∧aH 4 A.F= .int .i64 ((k:Int) - 1)∧k≤h.nodes.length∧∃M:List Int,M.length=h.nodes.length∧(∀q,k≤q→q<h.nodes.length→M.getD q 0=jI (jC h q))∧X.h.get sb=some (.cells (bF M) false 0)
def XzJ(h:bC)(S2:St)(gb sb a:Nat)(k:Nat)(A:bH)(X:St):Prop:=A.inr=false∧bB sb S2 X∧aH 1 A.F= .ptr gb 0∧aH 3 A.F= .sl sb 0 h.nodes.length h.nodes.length false∧aH 4 A.F= .int .i64 (a:Int)∧∃ (j:Nat) (M:List Int),j+k=(nodeAt h a).next.length∧aH 5 A.F= .int .i64 (j:Int)∧M.length=h.nodes.length∧(∀q,a<q→q<h.nodes.length→M.getD q 0=jI (jC h q))∧M.getD a 0=jI (pF h a j)∧X.h.get sb=some (.cells (bF M) false 0)
theorem aHu{S:St}{nv iv:AV}{h:bC}(H:Has fns)(hL:jB h)(hn:aQ 6 cC S nv h.nodes)(hN:h.nodes.length≤100000)(hB:∀i,i<h.nodes.length→(nodeAt h i).next.length≤140737488355328):fB fns (.fn 50 [] []) [.agg [.int .i64 h.players,nv,iv]] S fun r X=>(∃M:List Int,bI .i64 X r M∧0<M.length∧M.getD 0 0=jI (jC h 0))∧Same S X:=by
 have hK:=hL.2.1;have h0:=hL.1;have hnl:=aQ.len hn;have sn:=aQ.self hn;refine bN H.f50 (by simp) ?_;simp only[↓aB,aA,rE,↓reduceIte,rA];refine bL ?_;refine cL (by simp only[↓aB,aA,rE,↓reduceIte];exact bE _) ?_;intro S1 s1 n1 c1;simp only[↓aB,aA,rE,↓reduceIte];refine bL ?_;simp only[↓aB,aA,rE,↓reduceIte,aE,aD,cN c1,sn,hnl];refine fE (jU (n:=h.nodes.length) (by simp only[↓aB,aA,rE,↓reduceIte,aG]) (by simp only[↓aB,aA,rE,↓reduceIte,aG]) (by unfold room;omega) (by unfold room;omega)) ?_;intro S2 s2 n2 c2;rw[nI] at c2;try simp only[↓aB,aA,rE,↓reduceIte]
 have c1':=(s2.2 _ (show S.nx<S1.nx by omega)).trans c1;have s12:=s1.trans s2;refine aC (aT (Q:=fun o A' X=>o= .normal∧XzI h S2 S.nx S1.nx 0 A' X) (aC (aF ?_)) ?_)
 ·have w0:IntKind.i64.wrap (((h.nodes.length:Nat):Int) - 1)=((h.nodes.length:Nat):Int) - 1:=wrap_i64 (by omega) (by omega);simp only[↓aB,aA,rE,↓reduceIte,aE,aD,cN c1',sn,hnl,w0];refine aK (bG (XzI h S2 S.nx S1.nx) ?_ h.nodes.length _ _ ⟨rfl,bB.refl _ _,by simp only[↓aB,aA,rE,↓reduceIte],by simp only[↓aB,aA,rE,↓reduceIte],by simp only[↓aB,aA,rE,↓reduceIte],Ah _,_,Az ..,fun q h1 h2=>by omega,c2⟩);rintro k ⟨F,inr⟩ X ⟨q0,hX,p1,p3,p4,hk,M,hl,hM,hc⟩;simp only at q0 p1 p3 p4;subst q0;refine fY ?_;simp only[↓aB,aA,rE,↓reduceIte,p4];by_cases hk0:k=0
  ·subst hk0;refine aL (by simp only[↓aB,aA,rE,↓reduceIte];exact Ce _ (Aa (by omega))) (bD ?_);exact⟨rfl,rfl,hX,by simp only[↓aB,aA,rE,↓reduceIte,p1],by simp only[↓aB,aA,rE,↓reduceIte,p3],by simp only[↓aB,aA,rE,↓reduceIte,p4],hk,M,hl,hM,hc⟩
  obtain⟨a,rfl⟩:∃a,k=a+1:=⟨k - 1,by omega⟩;have e4:(((a+1:Nat):Int) - 1)=(a:Int):=by omega
  rw[e4] at p4 ⊢;refine aN (by simp only[↓aB,aA,rE,↓reduceIte,Ab (show(0:Int)≤(a:Int) by omega)]) (aI ?_);try simp only[↓aB,aA,rE,↓reduceIte]
  have hal:a<h.nodes.length:=by omega
  obtain⟨e,b,p,i1,i2,i3,⟨na,nb,nc,rfl,x1,x2,x3⟩,i5,i6⟩:=aQ.at hn (by omega) (cM hal);have ira:=eO (b:=S1.nx) (o:=false) hal;have hnx:=hB a hal;have sx1:=bI.self x1;refine aC (aT (Q:=fun o A' Y=>o= .normal∧XzJ h S2 S.nx S1.nx a 0 A' Y) (aK (aC (aF ?_))) ?_)
  ·simp only[↓aB,aA,rE,↓reduceIte,p3,p4,aG,ira];refine eT (fun call=>by simp only[↓aB,aA,rE,↓reduceIte,dN,cH];exact vT (S:=X) hc (show a<M.length by omega)) ?_;simp only[↓aB,aA,rE,↓reduceIte];obtain⟨X1,hX1⟩:∃X1:St,X1=⟨X.h.set S1.nx (some (.cells (bF (M.set a 1)) false 0)),X.nx⟩:=⟨_,rfl⟩;rw[←hX1];have hc1:X1.h.get S1.nx=some (.cells (bF (M.set a 1)) false 0):=by rw[hX1];simp only;rw[T.get_set,if_pos rfl]
   have hS1:bB S1.nx S2 X1:=by rw[hX1];exact hX.put _
   clear hX1;refine bL ?_;simp only[↓aB,aA,rE,↓reduceIte];refine aK (bG (XzJ h S2 S.nx S1.nx a) ?_ (nodeAt h a).next.length _ _ ⟨rfl,hS1,by simp only[↓aB,aA,rE,↓reduceIte,p1],by simp only[↓aB,aA,rE,↓reduceIte,p3],by simp only[↓aB,aA,rE,↓reduceIte,p4],0,_,by omega,by simp only[↓aB,aA,rE,↓reduceIte];try rfl,by rw[Be];exact hl,fun q h1 h2=>?_,?_,hc1⟩);rotate_left
   ·rw[dR (by omega),if_neg (by omega)];exact hM q (by omega) h2
   ·rw[dR (by omega),if_pos rfl];rfl
   clear hX p1 p3 p4 hM hc hl hc1 hS1;rintro k ⟨F,inr⟩ Y ⟨q0,hY,p1,p3,p4,j,M,hjk,p5,hl,hM,hP,hc⟩;simp only at q0 p1 p3 p4 p5;subst q0;have sY:=hY.same s12 (by omega);have gY:=(hY.2 _ (show S.nx<S2.nx by omega) (by omega)).trans c1';have lgY:S.nx<Y.nx:=by have:=hY.1;omega
   have l3:cE (.ptr b (p+3)) false 1 Y.h=some na:=(mC sY i2).trans (i6 3 na rfl);refine fY ?_;simp only[↓aB,aA,rE,↓reduceIte,p1,p4,p5,aE,aD,cN gY,sn,aG,i1,l3,sx1,x1.len,Ai,qT];by_cases hj:j<(nodeAt h a).next.length;rotate_left
   ·refine aL (by simp only[↓aB,aA,rE,↓reduceIte,Aa hj]) (bD ?_);obtain rfl:k=0:=by omega
    exact⟨rfl,rfl,hY,by simp only[↓aB,aA,rE,↓reduceIte,p1],by simp only[↓aB,aA,rE,↓reduceIte,p3],by simp only[↓aB,aA,rE,↓reduceIte,p4],j,M,hjk,by simp only[↓aB,aA,rE,↓reduceIte,p5],hl,hM,hP,hc⟩
   refine aN (by simp only[↓aB,aA,rE,↓reduceIte,Ab hj]) (aI ?_);try simp only[↓aB,aA,rE,↓reduceIte]
   obtain⟨k1,k2,k3⟩:=hK a hal j hj;have iaj:=x1.iaddr hj;have laj:=(x1.same sY).ld hj;have hps:=yK (h:=h) hj;rw[k3] at laj hps;rw[Cm] at hps;have irc:=eO (b:=S1.nx) (o:=false) k2;have lra:=aAo hc (show a<M.length by omega);have lrc:=aAo hc (show gH h a j<M.length by omega);rw[hP] at lra;rw[hM _ k1 k2] at lrc;have b1:=aFj (pF h a j);have b2:=aFj (jC h (gH h a j));have w1:IntKind.i64.wrap (jI (pF h a j)+jI (jC h (gH h a j)))=jI (pF h a j)+jI (jC h (gH h a j)):=wrap_i64 (by omega) (by omega);refine aC (aK (tS (pre:=aPQ) (K:=21) (m:=2097151) (n:=1) (x:=.t 52) (v:=.t 51) rfl rfl rfl rfl ?_));unfold aPQ;simp only[↓sU,sD,rE,↓reduceIte,rA,p1,p3,p4,p5,aG,aE,aW,aD,cN gY,sn,i1,l3,sx1,iaj,laj,ira,irc,lra,lrc,w1,aLr,aE2,gF,kI,aIZ,aMA];simp only[cH,aM];rw[←hps];refine⟨_,vT (S:=⟨Y.h,Y.nx+22⟩) hc (by omega),?_⟩;refine aF ?_;simp only[↓sU,sD,rE,↓reduceIte,rA,p5,dL (a:=j) (by omega)];refine⟨k - 1,by omega,rfl,(hY.nx 22).put _,by simp only[↓sU,sD,rE,↓reduceIte,rA,p1],by simp only[↓sU,sD,rE,↓reduceIte,rA,p3],by simp only[↓sU,sD,rE,↓reduceIte,rA,p4],j+1,M.set a (jI (pF h a (j+1))),by omega,by simp only[↓sU,sD,rE,↓reduceIte,rA],by rw[Be];exact hl,fun q h1 h2=>?_,?_,by simp only;rw[T.get_set,if_pos rfl]⟩
   ·rw[dR (by omega),if_neg (by omega)];exact hM q h1 h2
   ·rw[dR (by omega),if_pos rfl]
  clear hX p1 p3 p4 hM hc hl M;rintro o ⟨F,inr⟩ Y ⟨rfl,q0,hY,p1,p3,p4,j,M,hjk,p5,hl,hM,hP,hc⟩;simp only at q0 p1 p3 p4;subst q0;obtain rfl:j=(nodeAt h a).next.length:=by omega
  rw[tV hK hal] at hP;have w2:IntKind.i64.wrap ((a:Int) - 1)=(a:Int) - 1:=wrap_i64 (by omega) (by omega);try simp only[↓aB,aA,rE,↓reduceIte]
  refine aF ?_;simp only[↓aB,aA,rE,↓reduceIte,p4,w2];refine⟨a,by omega,rfl,hY,by simp only[↓aB,aA,rE,↓reduceIte,p1],by simp only[↓aB,aA,rE,↓reduceIte,p3],by simp only[↓aB,aA,rE,↓reduceIte],by omega,M,hl,fun q h1 h2=>?_,hc⟩;by_cases e:q=a
  ·rw[e];exact hP
  ·exact hM q (by omega) h2
 rintro o ⟨F,inr⟩ X ⟨rfl,q0,hX,p1,p3,p4,hk,M,hl,hM,hc⟩;simp only at q0 p3;subst q0;have hiX:=iU hc (by have:=hX.1;omega) hl;try simp only[↓aB,aA,rE,↓reduceIte]
 refine bL ?_;simp only[↓aB,aA,rE,↓reduceIte,p3];refine aR ?_;simp only[↓aB,aA,rE,↓reduceIte];exact⟨⟨M,hiX,by omega,hM 0 (Ah _) h0⟩,hX.same s12 (by omega)⟩
end Go.Ev.Gl
