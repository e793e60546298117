import Derived.Test.YtkklchgmpejobaaGreatDoorGl29
open Nat renaming reduceEqDiff → rE, reduceAdd → rA
set_option maxHeartbeats 16000000
set_option linter.unusedSimpArgs false
set_option linter.unusedVariables false
namespace Go.Ev.Gl
variable {fns:T cW}
def aBl(i:Nat):List Int→List Int→List Int
 | M,[]=>M
 | M,c::l=>aBl i (M.set c.toNat (IntKind.i64.wrap (M.getD c.toNat 0+M.getD i 0))) l
def wC(h:bC):Nat→List Int
 | 0=>(List.replicate h.nodes.length 0).set 0 1
 | i+1=>aBl i (wC h i) (nodeAt h i).next
theorem aBy{i:Nat}:∀ {l:List Int} {M:List Int} {c:Int},aBl i M (l++ [c])=(aBl i M l).set c.toNat (IntKind.i64.wrap ((aBl i M l).getD c.toNat 0+(aBl i M l).getD i 0))
 | [],_,_=>rfl
 | _::l,_,_=>by
  show aBl i _ (l++ [_])=_;rw[aBy];rfl
theorem aA6{i:Nat}:∀ {l:List Int} {M:List Int},(aBl i M l).length=M.length
 | [],_=>rfl
 | _::l,_=>by
  show(aBl i _ l).length=_;rw[aA6,Be]
theorem tC{h:bC}:∀ {n:Nat},(wC h n).length=h.nodes.length
 | 0=>by unfold wC;rw[Be,Az]
 | n+1=>by unfold wC;rw[aA6,tC]
theorem aJj{h:bC}(he:nC h=0):jB h:=by
 by_cases hl:jB h
 ·exact hl
 ·rw[pQ hl] at he;cases he
noncomputable def aP6:List AO:=[mt 36 5,
mt 37 9,
om 38 3 (.iaddr (.slice 1) (.t 36) (.t 37)),
om 39 7 (ld 38),
mt 40 5,
mt 41 6,
om 42 48 (.iaddr (.slice 1) (.t 40) (.t 41)),
om 43 112 (ld 42),
om 44 255 (bi .add (.t 39) (.t 43)),
om 45 511 (.iaddr (.slice 1) (.t 36) (.t 37))]
noncomputable def aPW:List AO:=[mt 47 5,
mt 48 8,
mt 49 5,
mt 50 8,
om 51 12 (.iaddr (.slice 1) (.t 49) (.t 50)),
om 52 28 (ld 51),
mt 53 5,
mt 54 6,
om 55 192 (.iaddr (.slice 1) (.t 53) (.t 54)),
om 56 448 (ld 55),
om 57 1020 (bi .add (.t 52) (.t 56)),
om 58 2047 (.iaddr (.slice 1) (.t 47) (.t 48))]
def PtI(h:bC)(S2:St)(nv:AV)(pb:Nat)(k:Nat)(A:bH)(X:St):Prop:=A.inr=false∧bB pb S2 X∧aH 5 A.F= .sl pb 0 h.nodes.length h.nodes.length false∧aH 22 A.F=nv∧aH 23 A.F= .int .i64 ((h.nodes.length:Nat):Int)∧∃i:Nat,i+k=h.nodes.length∧aH 24 A.F= .int .i64 (i:Int)∧X.h.get pb=some (.cells (bF (wC h i)) false 0)
def PtJ(h:bC)(S2:St)(nv na:AV)(pb i:Nat)(k:Nat)(A:bH)(X:St):Prop:=A.inr=false∧bB pb S2 X∧aH 5 A.F= .sl pb 0 h.nodes.length h.nodes.length false∧aH 6 A.F= .int .i64 (i:Int)∧aH 22 A.F=nv∧aH 23 A.F= .int .i64 ((h.nodes.length:Nat):Int)∧aH 24 A.F= .int .i64 (i:Int)∧aH 30 A.F=na∧aH 31 A.F= .int .i64 (((nodeAt h i).next.length:Nat):Int)∧∃j:Nat,j+k=(nodeAt h i).next.length∧aH 32 A.F= .int .i64 (j:Int)∧X.h.get pb=some (.cells (bF (aBl i (wC h i) ((nodeAt h i).next.take j))) false 0)
theorem aIh{S:St}{v:AV}{h:bC}(H:Has fns)(hv:gE S v h)(hT:tZ h)(hN:h.nodes.length≤100000)(h10:jH S):fB fns (.fn 17 [] []) [v] S fun r X=>(∃pv,r= .tup [pv,.int .i64 (nC h)]∧bI .i64 X pv (if nC h=0 then wC h h.nodes.length else []))∧Same S X:=by
 have hv0:=hv;obtain⟨nv,iv,rfl,hn,hi⟩:=hv;have hnl:=aQ.len hn;have sn:=aQ.self hn;refine bN H.f17 (by simp) ?_;simp only[↓aB,aA,rE,↓reduceIte,rA];refine bL ?_;refine cL (by simp only[↓aB,aA,rE,↓reduceIte];exact bE _) ?_;intro S1 s1 n1 c1;simp only[↓aB,aA,rE,↓reduceIte,rA];have lagg:cE (.ptr S.nx 0) true 3 S1.h=some (.agg [.int .i64 h.players,nv,iv]):=fG c1;refine fY ?_;simp only[↓aB,aA,rE,↓reduceIte,rA,lagg];refine aY ?_;simp only[↓aB,aA,rE,↓reduceIte,rA];refine aO (aCq H (hv0.same s1) hT hN (h10.same s1)) ?_;rintro _ Y ⟨rfl,y⟩;have sY:=s1.trans y;have gY:=(y.2 _ (show S.nx<S1.nx by omega)).trans c1;have nY:=y.1;try simp only[↓aB,aA,rE,↓reduceIte,rA]
 refine bL ?_;simp only[↓aB,aA,rE,↓reduceIte,rA];by_cases he:nC h=0;rotate_left
 ·refine aN (by simp only[↓aB,aA,rE,↓reduceIte,rA];exact Ce _ (Ab he)) (aC (aF ?_));simp only[↓aB,aA,rE,↓reduceIte,rA];refine aR ?_;simp only[↓aB,aA,rE,↓reduceIte,rA];exact⟨⟨_,rfl,by rw[if_neg he];exact .inl ⟨rfl,.inl rfl⟩⟩,sY⟩
 have hL:=aJj he;have hK:=hL.2.1;have h0:=hL.1;refine aL (by simp only[↓aB,aA,rE,↓reduceIte,rA];exact Ce _ (Aa fun e=>e he)) (aI ?_);try simp only[↓aB,aA,rE,↓reduceIte,rA]
 refine bL ?_;simp only[↓aB,aA,rE,↓reduceIte,rA,aE,aD,cN gY,sn,hnl];refine fE (jU (n:=h.nodes.length) (by simp only[↓aB,aA,rE,↓reduceIte,aG]) (by simp only[↓aB,aA,rE,↓reduceIte,aG]) (by unfold room;omega) (by unfold room;omega)) ?_;intro Y2 y2 m2 c2;rw[nI] at c2;try simp only[↓aB,aA,rE,↓reduceIte,rA]
 have nz:eZ (.int .i64 0)=some 0:=rfl;have ir0:=eO (b:=Y.nx) (o:=false) h0;refine bL ?_;simp only[↓aB,aA,rE,↓reduceIte,rA,nz,ir0];refine eT (fun call=>by simp only[↓aB,aA,rE,↓reduceIte,rA,dN,cH];exact vT (S:=Y2) c2 (by rw[Az];exact h0)) ?_;obtain⟨S2,hS2⟩:∃S2:St,S2=⟨Y2.h.set Y.nx (some (.cells (bF ((List.replicate h.nodes.length 0).set 0 1)) false 0)),Y2.nx⟩:=⟨_,rfl⟩;rw[←hS2];have g2:S2.h.get Y.nx=some (.cells (bF (wC h 0)) false 0):=by rw[hS2];simp only;rw[T.get_set,if_pos rfl];rfl
 have s2:Same Y S2:=by rw[hS2];exact y2.put (Ah _) _
 have n2:S2.nx=Y2.nx:=by rw[hS2]
 clear hS2;have sS2:=sY.trans s2;have gg2:=(s2.2 _ (show S.nx<Y.nx by omega)).trans gY;simp only[↓aB,aA,rE,↓reduceIte,rA];refine aC (aT (Q:=fun o A' X=>o= .normal∧PtI h S2 nv Y.nx 0 A' X) (aC (aF ?_)) ?_)
 ·simp only[↓aB,aA,rE,↓reduceIte,rA,aE,aD,cN gg2,sn,hnl];refine aK (bG (PtI h S2 nv Y.nx) ?_ h.nodes.length _ _ ⟨rfl,bB.refl _ _,by simp only[↓aB,aA,rE,↓reduceIte,rA],by simp only[↓aB,aA,rE,↓reduceIte,rA],by simp only[↓aB,aA,rE,↓reduceIte,rA],0,by omega,by simp only[↓aB,aA,rE,↓reduceIte,rA];try rfl,g2⟩);rintro k ⟨F,inr⟩ X ⟨q0,hX,p5,p22,p23,i,hik,p24,hc⟩;simp only at q0 p5 p22 p23 p24;subst q0;refine bL ?_;simp only[↓aB,aA,rE,↓reduceIte,p23,p24,qT];by_cases hlt:i<h.nodes.length;rotate_left
  ·refine aC (aL (by simp only[↓aB,aA,rE,↓reduceIte,Aa hlt]) (bD ?_));obtain rfl:k=0:=by omega
   exact⟨rfl,rfl,hX,by simp only[↓aB,aA,rE,↓reduceIte,p5],by simp only[↓aB,aA,rE,↓reduceIte,p22],by simp only[↓aB,aA,rE,↓reduceIte,p23],i,hik,by simp only[↓aB,aA,rE,↓reduceIte,p24],hc⟩
  refine aC (aN (by simp only[↓aB,aA,rE,↓reduceIte,Ab hlt]) (aI ?_));try simp only[↓aB,aA,rE,↓reduceIte]
  have sX:=bB.same sS2 hX (by have:=sY.1;omega);obtain⟨e,b,p,i1,i2,i3,⟨na,nb,nc,rfl,x1,x2,x3⟩,i5,i6⟩:=aQ.at hn (by omega) (cM hlt);have l3:=(mC sX i2).trans i5;have xa:=bI.self x1;have ira:=eO (b:=Y.nx) (o:=false) hlt;have tn:=(hT.2 _ (Ao (cM hlt))).1;refine aC (aT (Q:=fun o A' Z=>o= .normal∧PtJ h S2 nv na Y.nx i 0 A' Z) (aK (aC (aF ?_))) ?_)
  ·simp only[↓aB,aA,rE,↓reduceIte,rA,p22,p24,aG,i1,l3];refine cD ?_;intro X1 t1 k1 d1;simp only[↓aB,aA,rE,↓reduceIte,rA];refine eF (b:=X.nx) (by simp only[↓aB,aA,rE,↓reduceIte]) (by simp only[↓aB,aA,rE,↓reduceIte];exact bE _) d1 rfl rfl ?_;intro X2 t2 k2 d2;simp only[↓aB,aA,rE,↓reduceIte,rA];have sXX:Same X X2:=t2.same t1 (Ah _);have lpX:Y.nx<X.nx:=by have:=hX.1;omega
   have hX2:bB Y.nx S2 X2:=⟨Ba hX.1 sXX.1,fun c hc hne=>(sXX.2 c (Ae hc hX.1)).trans (hX.2 c hc hne)⟩;have hc2:=(sXX.2 _ lpX).trans hc;refine bL ?_;simp only[↓aB,aA,rE,↓reduceIte,rA,aE,aD,dD d2,xa,x1.len,Ai];refine aK (bG (PtJ h S2 nv na Y.nx i) ?_ (nodeAt h i).next.length _ _ ⟨rfl,hX2,by simp only[↓aB,aA,rE,↓reduceIte,rA,p5],by simp only[↓aB,aA,rE,↓reduceIte,rA],by simp only[↓aB,aA,rE,↓reduceIte,rA,p22],by simp only[↓aB,aA,rE,↓reduceIte,rA,p23],by simp only[↓aB,aA,rE,↓reduceIte,rA,p24],by simp only[↓aB,aA,rE,↓reduceIte,rA],by simp only[↓aB,aA,rE,↓reduceIte,rA],0,by omega,by simp only[↓aB,aA,rE,↓reduceIte,rA];try rfl,by rw[Bi];exact hc2⟩);clear p5 p22 p23 p24 hc hc2 hX hX2 d2 d1 t1 t2 sX l3 sXX;rintro k ⟨F,inr⟩ Z ⟨q0,hZ,p5,p6,p22,p23,p24,p30,p31,j,hjk,p32,hc⟩;simp only at q0 p5 p6 p22 p23 p24 p30 p31 p32;subst q0;refine bL ?_;simp only[↓aB,aA,rE,↓reduceIte,rA,p31,p32,qT];by_cases hj:j<(nodeAt h i).next.length;rotate_left
   ·refine aC (aL (by simp only[↓aB,aA,rE,↓reduceIte,rA,Aa hj]) (bD ?_));obtain rfl:k=0:=by omega
    exact⟨rfl,rfl,hZ,by simp only[↓aB,aA,rE,↓reduceIte,rA,p5],by simp only[↓aB,aA,rE,↓reduceIte,rA,p6],by simp only[↓aB,aA,rE,↓reduceIte,rA,p22],by simp only[↓aB,aA,rE,↓reduceIte,rA,p23],by simp only[↓aB,aA,rE,↓reduceIte,rA,p24],by simp only[↓aB,aA,rE,↓reduceIte,rA,p30],by simp only[↓aB,aA,rE,↓reduceIte,rA,p31],j,hjk,by simp only[↓aB,aA,rE,↓reduceIte,rA,p32],hc⟩
   refine aC (aN (by simp only[↓aB,aA,rE,↓reduceIte,rA,Ab hj]) (aI ?_));try simp only[↓aB,aA,rE,↓reduceIte,rA]
   obtain⟨k1,k2,k3⟩:=hK i hlt j hj;have sZ:=bB.same sS2 hZ (by have:=sY.1;omega);have iaj:=x1.iaddr hj;have laj:=(x1.same sZ).ld hj;have hsn:=aBy (i:=i) (l:=(nodeAt h i).next.take j) (M:=wC h i) (c:=(nodeAt h i).next.getD j 0);rw[←tF hj,k3,Cm] at hsn;rw[k3] at laj;have hlen:(aBl i (wC h i) ((nodeAt h i).next.take j)).length=h.nodes.length:=by rw[aA6,tC]
   have irc:=eO (b:=Y.nx) (o:=false) k2;have lra:=aAo hc (show i<_ by rw[hlen];exact hlt);have lrc:=aAo hc (show gH h i j<_ by rw[hlen];exact k2);refine aC (aK (aC (aF ?_)));simp only[↓aB,aA,rE,↓reduceIte,rA,p30,p32,aG,iaj,laj];refine tS (pre:=aP6) (K:=10) (m:=1023) (n:=1) (x:=.t 45) (v:=.t 44) rfl rfl rfl rfl ?_;unfold aP6;simp only[↓sU,sD,rE,↓reduceIte,rA,p5,p6,aG,ira,irc,lra,lrc];simp only[cH,aM];refine⟨_,vT (S:=⟨Z.h,Z.nx+11⟩) hc (by rw[hlen];exact k2),?_⟩;refine aF ?_;simp only[↓sU,sD,rE,↓reduceIte,rA,p32,dL (a:=j) (by omega)];exact⟨k - 1,by omega,rfl,(hZ.nx 11).put _,by simp only[↓sU,sD,rE,↓reduceIte,rA,p5],by simp only[↓sU,sD,rE,↓reduceIte,rA,p6],by simp only[↓sU,sD,rE,↓reduceIte,rA,p22],by simp only[↓sU,sD,rE,↓reduceIte,rA,p23],by simp only[↓sU,sD,rE,↓reduceIte,rA,p24],by simp only[↓sU,sD,rE,↓reduceIte,rA,p30],by simp only[↓sU,sD,rE,↓reduceIte,rA,p31],j+1,by omega,by simp only[↓sU,sD,rE,↓reduceIte,rA],by simp only;rw[T.get_set,if_pos rfl,hsn]⟩
  clear p5 p22 p23 p24 hc hX;rintro o ⟨F,inr⟩ Z ⟨rfl,q0,hZ,p5,p6,p22,p23,p24,p30,p31,j,hjk,p32,hc⟩;simp only at q0 p5 p22 p23 p24;subst q0;obtain rfl:j=(nodeAt h i).next.length:=by omega
  rw[Bt] at hc;try simp only[↓aB,aA,rE,↓reduceIte,rA]
  refine aF ?_;simp only[↓aB,aA,rE,↓reduceIte,rA,p24,dL (a:=i) (by omega)];exact⟨k - 1,by omega,rfl,hZ,by simp only[↓aB,aA,rE,↓reduceIte,rA,p5],by simp only[↓aB,aA,rE,↓reduceIte,rA,p22],by simp only[↓aB,aA,rE,↓reduceIte,rA,p23],i+1,by omega,by simp only[↓aB,aA,rE,↓reduceIte,rA],hc⟩
 rintro o ⟨F,inr⟩ X ⟨rfl,q0,hX,p5,p22,p23,i,hik,p24,hc⟩;simp only at q0 p5;subst q0;obtain rfl:i=h.nodes.length:=by omega
 have hiX:=iU hc (by have:=hX.1;omega) tC;try simp only[↓aB,aA,rE,↓reduceIte,rA]
 refine bL ?_;simp only[↓aB,aA,rE,↓reduceIte,rA,p5];refine aR ?_;simp only[↓aB,aA,rE,↓reduceIte,rA];exact⟨⟨_,by rw[he],by rw[if_pos he];exact hiX⟩,bB.same sS2 hX (by have:=sY.1;omega)⟩
theorem aEC{S:St}{v:AV}{h:bC}(H:Has fns)(hv:gE S v h)(hT:tZ h)(hN:h.nodes.length≤100000):fB fns (.fn 21 [] []) [v] S fun r X=>r= .int .i64 (nC h)∧Same S X:=by
 have hv0:=hv;obtain⟨nv,iv,rfl,hn,hi⟩:=hv;refine bN H.f21 (by simp) ?_;simp only[↓aB,aA,rE,↓reduceIte,rA];refine bL ?_;refine cL (by simp only[↓aB,aA,rE,↓reduceIte];exact bE _) ?_;intro S1 s1 n1 c1;simp only[↓aB,aA,rE,↓reduceIte,rA];have lagg:cE (.ptr S.nx 0) true 3 S1.h=some (.agg [.int .i64 h.players,nv,iv]):=fG c1;refine bL ?_;simp only[↓aB,aA,rE,↓reduceIte,rA,lagg];refine aY ?_;simp only[↓aB,aA,rE,↓reduceIte,rA];refine aO (xQ H (hv0.same s1) hT hN) ?_;rintro _ X ⟨gv,rfl,sX,hg⟩;obtain⟨a,b,rfl,_⟩:=hg X (Ah _) fun _ _ _=>rfl;simp only[↓aB,aA,rE,↓reduceIte,rA,ex0,ex1];refine cD ?_;intro X1 t1 m1 d1;try simp only[↓aB,aA,rE,↓reduceIte,rA]
 refine eF (b:=X.nx) (cs':=[.int .i64 (mH h).players,a,b]) (by simp only[↓aB,aA,rE,↓reduceIte,rA]) (by simp only[↓aB,aA,rE,↓reduceIte,rA];exact bE _) d1 rfl rfl ?_;intro X2 t2 m2 d2;simp only[↓aB,aA,rE,↓reduceIte,rA];refine bL ?_;simp only[↓aB,aA,rE,↓reduceIte,rA];refine aR ?_;simp only[↓aB,aA,rE,↓reduceIte,rA];exact(s1.trans sX).trans (t2.same t1 (Ah _))
theorem aGj{S:St}{v:AV}{h:bC}(H:Has fns)(hv:gE S v h)(hT:tZ h)(hN:h.nodes.length≤100000):fB fns (.fn 16 [] []) [v] S fun r X=>r= .tup [.int .i64 (((mH h).nodes.length:Nat):Int),.int .i64 (nC h)]∧Same S X:=by
 have hv0:=hv;obtain⟨nv,iv,rfl,hn,hi⟩:=hv;refine bN H.f16 (by simp) ?_;simp only[↓aB,aA,rE,↓reduceIte,rA];refine bL ?_;refine cL (by simp only[↓aB,aA,rE,↓reduceIte];exact bE _) ?_;intro S1 s1 n1 c1;simp only[↓aB,aA,rE,↓reduceIte,rA];have lagg:cE (.ptr S.nx 0) true 3 S1.h=some (.agg [.int .i64 h.players,nv,iv]):=fG c1;refine bL ?_;simp only[↓aB,aA,rE,↓reduceIte,rA,lagg];refine aY ?_;simp only[↓aB,aA,rE,↓reduceIte,rA];refine aO (xQ H (hv0.same s1) hT hN) ?_;rintro _ X ⟨gv,rfl,sX,hg⟩;obtain⟨a,b,rfl,ha,hb⟩:=hg X (Ah _) fun _ _ _=>rfl;simp only[↓aB,aA,rE,↓reduceIte,rA,ex0,ex1];refine cD ?_;intro X1 t1 m1 d1;try simp only[↓aB,aA,rE,↓reduceIte,rA]
 refine eF (b:=X.nx) (cs':=[.int .i64 (mH h).players,a,b]) (by simp only[↓aB,aA,rE,↓reduceIte,rA]) (by simp only[↓aB,aA,rE,↓reduceIte,rA];exact bE _) d1 rfl rfl ?_;intro X2 t2 m2 d2;simp only[↓aB,aA,rE,↓reduceIte,rA];refine bL ?_;simp only[↓aB,aA,rE,↓reduceIte,rA,aE,aD,cN d2,aQ.len ha];refine aR ?_;simp only[↓aB,aA,rE,↓reduceIte,rA];exact(s1.trans sX).trans (t2.same t1 (Ah _))
theorem aIj{S:St}{v:AV}{h:bC}(H:Has fns)(hv:gE S v h)(hT:tZ h)(hN:h.nodes.length≤100000)(h10:jH S):fB fns (.fn 15 [] []) [v] S fun r X=>r= .tup [.int .i64 (((mH h).nodes.length:Nat):Int),.int .i64 (nC h)]∧Same S X:=by
 have hv0:=hv;obtain⟨nv,iv,rfl,hn,hi⟩:=hv;refine bN H.f15 (by simp) ?_;simp only[↓aB,aA,rE,↓reduceIte,rA];refine bL ?_;refine cL (by simp only[↓aB,aA,rE,↓reduceIte];exact bE _) ?_;intro S1 s1 n1 c1;simp only[↓aB,aA,rE,↓reduceIte,rA];have lagg:cE (.ptr S.nx 0) true 3 S1.h=some (.agg [.int .i64 h.players,nv,iv]):=fG c1;refine bL ?_;simp only[↓aB,aA,rE,↓reduceIte,rA,lagg];refine aY ?_;simp only[↓aB,aA,rE,↓reduceIte,rA];refine aO (uM H (hv0.same s1) hT hN (h10.same s1)) ?_;rintro _ X ⟨gv,rfl,sX,hg⟩;obtain⟨a,b,rfl,ha,hb⟩:=hg X (Ah _) fun _ _ _=>rfl;simp only[↓aB,aA,rE,↓reduceIte,rA,ex0,ex1];refine cD ?_;intro X1 t1 m1 d1;try simp only[↓aB,aA,rE,↓reduceIte,rA]
 refine eF (b:=X.nx) (cs':=[.int .i64 (mH h).players,a,b]) (by simp only[↓aB,aA,rE,↓reduceIte,rA]) (by simp only[↓aB,aA,rE,↓reduceIte,rA];exact bE _) d1 rfl rfl ?_;intro X2 t2 m2 d2;simp only[↓aB,aA,rE,↓reduceIte,rA];refine bL ?_;simp only[↓aB,aA,rE,↓reduceIte,rA,aE,aD,cN d2,aQ.len ha];refine aR ?_;simp only[↓aB,aA,rE,↓reduceIte,rA];exact(s1.trans sX).trans (t2.same t1 (Ah _))
theorem aEl{S:St}{v:AV}{h:bC}(H:Has fns)(hv:gE S v h)(hT:tZ h)(hN:h.nodes.length≤100000):fB fns (.fn 20 [] []) [v] S fun r X=>∃gv,r= .tup [gv,.int .i64 (nC h)]∧Same S X∧gE X gv (mH h):=by
 have hv0:=hv;obtain⟨nv,iv,rfl,hn,hi⟩:=hv;refine bN H.f20 (by simp) ?_;simp only[↓aB,aA,rE,↓reduceIte,rA];refine bL ?_;refine cL (by simp only[↓aB,aA,rE,↓reduceIte];exact bE _) ?_;intro S1 s1 n1 c1;refine cD ?_;intro S2 s2 n2 c2;simp only[↓aB,aA,rE,↓reduceIte,rA];have s12:=s1.trans s2;have g2:=(s2.2 _ (show S.nx<S1.nx by omega)).trans c1;have lagg:cE (.ptr S.nx 0) true 3 S2.h=some (.agg [.int .i64 h.players,nv,iv]):=fG g2;refine bL ?_;simp only[↓aB,aA,rE,↓reduceIte,rA,lagg];refine aY ?_;simp only[↓aB,aA,rE,↓reduceIte,rA];refine aO (xQ H (hv0.same s12) hT hN) ?_;rintro _ X ⟨gv,rfl,sX,hg⟩;obtain⟨a,b,rfl,_⟩:=hg X (Ah _) fun _ _ _=>rfl;have gX:=(sX.2 _ (show S1.nx<S2.nx by omega)).trans c2;simp only[↓aB,aA,rE,↓reduceIte,rA,ex0,ex1];refine eF (b:=S1.nx) (cs':=[.int .i64 (mH h).players,a,b]) (by simp only[↓aB,aA,rE,↓reduceIte,rA]) (by simp only[↓aB,aA,rE,↓reduceIte,rA];exact bE _) gX rfl rfl ?_;intro X2 t2 m2 d2;simp only[↓aB,aA,rE,↓reduceIte,rA];refine aR ?_;simp only[↓aB,aA,rE,↓reduceIte,rA,fD,ld3 d2];exact⟨_,rfl,t2.same (s12.trans sX) (by omega),hg X2 t2.1 fun c h1 h2=>t2.2 c h2 (by omega)⟩
def XyI(h:bC)(S2:St)(gb pb:Nat)(k:Nat)(A:bH)(X:St):Prop:=A.inr=false∧bB pb S2 X∧aH 1 A.F= .ptr gb 0∧aH 5 A.F= .sl pb 0 h.nodes.length h.nodes.length false∧∃i:Nat,i+k=h.nodes.length∧aH 6 A.F= .int .i64 (i:Int)∧X.h.get pb=some (.cells (bF (wC h i)) false 0)
def XyJ(h:bC)(S2:St)(gb pb i:Nat)(k:Nat)(A:bH)(X:St):Prop:=A.inr=false∧bB pb S2 X∧aH 1 A.F= .ptr gb 0∧aH 5 A.F= .sl pb 0 h.nodes.length h.nodes.length false∧aH 6 A.F= .int .i64 (i:Int)∧∃j:Nat,j+k=(nodeAt h i).next.length∧aH 7 A.F= .int .i64 (j:Int)∧X.h.get pb=some (.cells (bF (aBl i (wC h i) ((nodeAt h i).next.take j))) false 0)
theorem aHv{S:St}{v:AV}{h:bC}(H:Has fns)(hv:gE S v h)(hT:tZ h)(hN:h.nodes.length≤100000):fB fns (.fn 18 [] []) [v] S fun r X=>(∃pv,r= .tup [pv,.int .i64 (nC h)]∧bI .i64 X pv (if nC h=0 then wC h h.nodes.length else []))∧Same S X:=by
 have hv0:=hv;obtain⟨nv,iv,rfl,hn,hi⟩:=hv;have hnl:=aQ.len hn;have sn:=aQ.self hn;refine bN H.f18 (by simp) ?_;simp only[↓aB,aA,rE,↓reduceIte,rA];refine bL ?_;refine cL (by simp only[↓aB,aA,rE,↓reduceIte];exact bE _) ?_;intro S1 s1 n1 c1;simp only[↓aB,aA,rE,↓reduceIte,rA];have lagg:cE (.ptr S.nx 0) true 3 S1.h=some (.agg [.int .i64 h.players,nv,iv]):=fG c1;refine fY ?_;simp only[↓aB,aA,rE,↓reduceIte,rA,lagg];refine aY ?_;simp only[↓aB,aA,rE,↓reduceIte,rA];refine aO (aEC H (hv0.same s1) hT hN) ?_;rintro _ Y ⟨rfl,y⟩;have sY:=s1.trans y;have gY:=(y.2 _ (show S.nx<S1.nx by omega)).trans c1;have nY:=y.1;try simp only[↓aB,aA,rE,↓reduceIte,rA]
 refine bL ?_;simp only[↓aB,aA,rE,↓reduceIte,rA];by_cases he:nC h=0;rotate_left
 ·refine aN (by simp only[↓aB,aA,rE,↓reduceIte,rA];exact Ce _ (Ab he)) (aC (aF ?_));simp only[↓aB,aA,rE,↓reduceIte,rA];refine aR ?_;simp only[↓aB,aA,rE,↓reduceIte,rA];exact⟨⟨_,rfl,by rw[if_neg he];exact .inl ⟨rfl,.inl rfl⟩⟩,sY⟩
 have hL:=aJj he;have hK:=hL.2.1;have h0:=hL.1;refine aL (by simp only[↓aB,aA,rE,↓reduceIte,rA];exact Ce _ (Aa fun e=>e he)) (aI ?_);try simp only[↓aB,aA,rE,↓reduceIte,rA]
 refine bL ?_;simp only[↓aB,aA,rE,↓reduceIte,rA,aE,aD,cN gY,sn,hnl];refine fE (jU (n:=h.nodes.length) (by simp only[↓aB,aA,rE,↓reduceIte,aG]) (by simp only[↓aB,aA,rE,↓reduceIte,aG]) (by unfold room;omega) (by unfold room;omega)) ?_;intro Y2 y2 m2 c2;rw[nI] at c2;try simp only[↓aB,aA,rE,↓reduceIte,rA]
 have nz:eZ (.int .i64 0)=some 0:=rfl;have ir0:=eO (b:=Y.nx) (o:=false) h0;refine bL ?_;simp only[↓aB,aA,rE,↓reduceIte,rA,nz,ir0];refine eT (fun call=>by simp only[↓aB,aA,rE,↓reduceIte,rA,dN,cH];exact vT (S:=Y2) c2 (by rw[Az];exact h0)) ?_;obtain⟨S2,hS2⟩:∃S2:St,S2=⟨Y2.h.set Y.nx (some (.cells (bF ((List.replicate h.nodes.length 0).set 0 1)) false 0)),Y2.nx⟩:=⟨_,rfl⟩;rw[←hS2];have g2:S2.h.get Y.nx=some (.cells (bF (wC h 0)) false 0):=by rw[hS2];simp only;rw[T.get_set,if_pos rfl];rfl
 have s2:Same Y S2:=by rw[hS2];exact y2.put (Ah _) _
 have n2:S2.nx=Y2.nx:=by rw[hS2]
 clear hS2;have sS2:=sY.trans s2;have gg2:=(s2.2 _ (show S.nx<Y.nx by omega)).trans gY;simp only[↓aB,aA,rE,↓reduceIte,rA];refine aC (aT (Q:=fun o A' X=>o= .normal∧XyI h S2 S.nx Y.nx 0 A' X) (aC (aF ?_)) ?_)
 ·simp only[↓aB,aA,rE,↓reduceIte,rA];refine aK (bG (XyI h S2 S.nx Y.nx) ?_ h.nodes.length _ _ ⟨rfl,bB.refl _ _,by simp only[↓aB,aA,rE,↓reduceIte,rA],by simp only[↓aB,aA,rE,↓reduceIte,rA],0,by omega,by simp only[↓aB,aA,rE,↓reduceIte,rA];try rfl,g2⟩);rintro k ⟨F,inr⟩ X ⟨q0,hX,p1,p5,i,hik,p6,hc⟩;simp only at q0 p1 p5 p6;subst q0;have sX:=bB.same sS2 hX (by have:=sY.1;omega);have gX:=(hX.2 _ (by omega) (by omega)).trans gg2;refine fY ?_;simp only[↓aB,aA,rE,↓reduceIte,rA,p1,p6,aE,aD,cN gX,sn,hnl,qT];by_cases hlt:i<h.nodes.length;rotate_left
  ·refine aL (by simp only[↓aB,aA,rE,↓reduceIte,rA,Aa hlt]) (bD ?_);obtain rfl:k=0:=by omega
   exact⟨rfl,rfl,hX,by simp only[↓aB,aA,rE,↓reduceIte,rA,p1],by simp only[↓aB,aA,rE,↓reduceIte,rA,p5],i,hik,by simp only[↓aB,aA,rE,↓reduceIte,rA,p6],hc⟩
  refine aN (by simp only[↓aB,aA,rE,↓reduceIte,rA,Ab hlt]) (aI ?_);try simp only[↓aB,aA,rE,↓reduceIte,rA]
  obtain⟨e,b,p,i1,i2,i3,⟨na,nb,nc,rfl,x1,x2,x3⟩,i5,i6⟩:=aQ.at hn (by omega) (cM hlt);have xa:=bI.self x1;have ira:=eO (b:=Y.nx) (o:=false) hlt;have tn:=(hT.2 _ (Ao (cM hlt))).1;refine aC (aT (Q:=fun o A' Z=>o= .normal∧XyJ h S2 S.nx Y.nx i 0 A' Z) (aK (aC (aF ?_))) ?_)
  ·simp only[↓aB,aA,rE,↓reduceIte,rA];refine aK (bG (XyJ h S2 S.nx Y.nx i) ?_ (nodeAt h i).next.length _ _ ⟨rfl,hX,by simp only[↓aB,aA,rE,↓reduceIte,rA,p1],by simp only[↓aB,aA,rE,↓reduceIte,rA,p5],by simp only[↓aB,aA,rE,↓reduceIte,rA,p6],0,by omega,by simp only[↓aB,aA,rE,↓reduceIte,rA];try rfl,by rw[Bi];exact hc⟩);clear p1 p5 p6 hc hX sX gX;rintro k ⟨F,inr⟩ Z ⟨q0,hZ,p1,p5,p6,j,hjk,p7,hc⟩;simp only at q0 p1 p5 p6 p7;subst q0;have sZ:=bB.same sS2 hZ (by have:=sY.1;omega);have gZ:=(hZ.2 _ (by omega) (by omega)).trans gg2;have l3:cE (.ptr b (p+3)) false 1 Z.h=some na:=(mC sZ i2).trans (i6 3 na rfl);refine fY ?_;simp only[↓aB,aA,rE,↓reduceIte,rA,p1,p6,p7,aE,aD,cN gZ,sn,aG,i1,l3,xa,x1.len,Ai,qT];by_cases hj:j<(nodeAt h i).next.length;rotate_left
   ·refine aL (by simp only[↓aB,aA,rE,↓reduceIte,rA,Aa hj]) (bD ?_);obtain rfl:k=0:=by omega
    exact⟨rfl,rfl,hZ,by simp only[↓aB,aA,rE,↓reduceIte,rA,p1],by simp only[↓aB,aA,rE,↓reduceIte,rA,p5],by simp only[↓aB,aA,rE,↓reduceIte,rA,p6],j,hjk,by simp only[↓aB,aA,rE,↓reduceIte,rA,p7],hc⟩
   refine aN (by simp only[↓aB,aA,rE,↓reduceIte,rA,Ab hj]) (aI ?_);try simp only[↓aB,aA,rE,↓reduceIte,rA]
   obtain⟨k1,k2,k3⟩:=hK i hlt j hj;have iaj:=x1.iaddr hj;have laj:=(x1.same sZ).ld hj;have hsn:=aBy (i:=i) (l:=(nodeAt h i).next.take j) (M:=wC h i) (c:=(nodeAt h i).next.getD j 0);rw[←tF hj,k3,Cm] at hsn;rw[k3] at laj;have hlen:(aBl i (wC h i) ((nodeAt h i).next.take j)).length=h.nodes.length:=by rw[aA6,tC]
   have irc:=eO (b:=Y.nx) (o:=false) k2;have lra:=aAo hc (show i<_ by rw[hlen];exact hlt);have lrc:=aAo hc (show gH h i j<_ by rw[hlen];exact k2);refine aC (aK (aC (aF ?_)));simp only[↓aB,aA,rE,↓reduceIte,rA,p1,p6,p7,aE,aD,cN gZ,sn,aG,i1,l3,xa,iaj,laj];refine tS (pre:=aPW) (K:=12) (m:=4095) (n:=1) (x:=.t 58) (v:=.t 57) rfl rfl rfl rfl ?_;unfold aPW;simp only[↓sU,sD,rE,↓reduceIte,rA,p5,p6,aG,ira,irc,lra,lrc];simp only[cH,aM];refine⟨_,vT (S:=⟨Z.h,Z.nx+13⟩) hc (by rw[hlen];exact k2),?_⟩;refine aF ?_;simp only[↓sU,sD,rE,↓reduceIte,rA,p7,dL (a:=j) (by omega)];exact⟨k - 1,by omega,rfl,(hZ.nx 13).put _,by simp only[↓sU,sD,rE,↓reduceIte,rA,p1],by simp only[↓sU,sD,rE,↓reduceIte,rA,p5],by simp only[↓sU,sD,rE,↓reduceIte,rA,p6],j+1,by omega,by simp only[↓sU,sD,rE,↓reduceIte,rA],by simp only;rw[T.get_set,if_pos rfl,hsn]⟩
  clear p1 p5 p6 hc hX;rintro o ⟨F,inr⟩ Z ⟨rfl,q0,hZ,p1,p5,p6,j,hjk,p7,hc⟩;simp only at q0 p1 p5 p6;subst q0;obtain rfl:j=(nodeAt h i).next.length:=by omega
  rw[Bt] at hc;try simp only[↓aB,aA,rE,↓reduceIte,rA]
  refine aF ?_;simp only[↓aB,aA,rE,↓reduceIte,rA,p6,dL (a:=i) (by omega)];exact⟨k - 1,by omega,rfl,hZ,by simp only[↓aB,aA,rE,↓reduceIte,rA,p1],by simp only[↓aB,aA,rE,↓reduceIte,rA,p5],i+1,by omega,by simp only[↓aB,aA,rE,↓reduceIte,rA],hc⟩
 rintro o ⟨F,inr⟩ X ⟨rfl,q0,hX,p1,p5,i,hik,p6,hc⟩;simp only at q0 p5;subst q0;obtain rfl:i=h.nodes.length:=by omega
 have hiX:=iU hc (by have:=hX.1;omega) tC;try simp only[↓aB,aA,rE,↓reduceIte,rA]
 refine bL ?_;simp only[↓aB,aA,rE,↓reduceIte,rA,p5];refine aR ?_;simp only[↓aB,aA,rE,↓reduceIte,rA];exact⟨⟨_,by rw[he],by rw[if_pos he];exact hiX⟩,bB.same sS2 hX (by have:=sY.1;omega)⟩
theorem aJA{h:bC}(he:nC h=0):fH (fR h)=0∧aDJ h:=by
 by_cases hl:jB h
 ·by_cases hs:jC h 0≤2000
  ·by_cases hf:fH (fR h)=0∧aDJ h
   ·exact hf
   ·rw[aBb hl hs hf] at he;cases he
  ·rw[aB1 hl hs] at he;cases he
 ·rw[pQ hl] at he;cases he
theorem aJz(h:bC):tZ (mH h)∧(mH h).nodes.length≤100000:=by
 by_cases he:nC h=0
 ·have hf:=(aJA he).1;have ho:mH h=fR h:=by unfold mH;rw[if_pos he]
  rw[ho];exact⟨aKl hf,by have:=(xU hf).n2;omega⟩
 ·have ho:mH h=⟨0,[],[]⟩:=by unfold mH;rw[if_neg he]
  rw[ho];exact⟨⟨by simp,fun x hx=>(by cases hx)⟩,by simp⟩
theorem aNw(h:bC)(hN:h.nodes.length≤100000):(if nC h=0 then wC h h.nodes.length else []).length≤10000000:=by
 split
 ·rw[tC];omega
 ·simp
theorem aFg{S:St}{nv iv:AV}{g:bC}(H:Has fns)(hAw:∀X,Same S X→fB fns (.fn 6 [] []) [] X fun r S'=>r= .bool true∧Same X S')(hL:jH S)(hn:aQ 6 cC S nv g.nodes)(hi:aQ 2 dI S iv g.infos)(hT:tZ g):
  fB fns (.fn 4 [] []) [.agg [.int .i64 g.players,nv,iv]] S fun r S'=>r= .bool true∧Same S S':=by
 have dT:∀i:Decidable True,@decide True i=true:=fun i=>@Ab True i trivial;have hg0:gE S (.agg [.int .i64 g.players,nv,iv]) g:=⟨nv,iv,rfl,hn,hi⟩;refine bN H.f4 (by simp) ?_;simp only[↓aB,aA,rE,↓reduceIte,rA];refine bL ?_;refine cL (cs:=[.int .i64 g.players,nv,iv]) rfl ?_;intro S1 s1 n1 c1;try simp only[↓aB,aA,rE,↓reduceIte]
 refine fY ?_;try simp only[↓aB,aA,rE,↓reduceIte]
 refine aY ?_;try simp only[↓aB,aA,rE,↓reduceIte]
 refine aO (hAw S1 s1) ?_;rintro _ S2 ⟨rfl,s2⟩;have c2:=(s2.2 _ (show S.nx<S1.nx by omega)).trans c1;have s12:=s1.trans s2;have nS2:=s2.1;try simp only[↓aB,aA,rE,↓reduceIte,eC,Bd]
 refine aL (by simp only[↓aB,aA,rE,↓reduceIte]) (aI ?_);try simp only[↓aB,aA,rE,↓reduceIte]
 refine fY ?_;simp only[↓aB,aA,rE,↓reduceIte,aE,aD,cN c2,aQ.self hn,aQ.len hn];by_cases hN:(30:Int)<((g.nodes.length:Nat):Int)
 ·refine aN (by simp only[↓aB,aA,rE,↓reduceIte,Ab hN]) (aC (aF ?_));simp only[↓aB,aA,rE,↓reduceIte];refine aR ?_;simp only[↓aB,aA,rE,↓reduceIte];exact s12
 refine aL (by simp only[↓aB,aA,rE,↓reduceIte,Aa hN]) (aI ?_);try simp only[↓aB,aA,rE,↓reduceIte]
 have hln:g.nodes.length≤100000:=by omega
 have l2:cE (.ptr S.nx 0) true 3 S2.h=some (.agg [.int .i64 g.players,nv,iv]):=fG c2;refine bL ?_;simp only[↓aB,aA,rE,↓reduceIte,rA,l2];refine aY ?_;simp only[↓aB,aA,rE,↓reduceIte,rA];refine aO (aIj H (hg0.same s12) hT hln (hL.same s12)) ?_;rintro _ S3 ⟨rfl,s3⟩;have s13:=s12.trans s3;have c3:=(s3.2 _ (show S.nx<S2.nx by omega)).trans c2;have nS3:=s3.1;have l3:cE (.ptr S.nx 0) true 3 S3.h=some (.agg [.int .i64 g.players,nv,iv]):=fG c3;simp only[↓aB,aA,rE,↓reduceIte,rA,ex0,ex1];refine bL ?_;simp only[↓aB,aA,rE,↓reduceIte,rA,l3];refine aY ?_;simp only[↓aB,aA,rE,↓reduceIte,rA];refine aO (aGj H (hg0.same s13) hT hln) ?_;rintro _ S4 ⟨rfl,s4⟩;have s14:=s13.trans s4;have c4:=(s4.2 _ (show S.nx<S3.nx by omega)).trans c3;have nS4:=s4.1;have l4:cE (.ptr S.nx 0) true 3 S4.h=some (.agg [.int .i64 g.players,nv,iv]):=fG c4;simp only[↓aB,aA,rE,↓reduceIte,rA,ex0,ex1];refine bL ?_;simp only[↓aB,aA,rE,↓reduceIte,rA,l4];refine aY ?_;simp only[↓aB,aA,rE,↓reduceIte,rA];refine aO (aIh H (hg0.same s14) hT hln (hL.same s14)) ?_;rintro _ S5 ⟨⟨pv,rfl,ip⟩,s5⟩;have s15:=s14.trans s5;have c5:=(s5.2 _ (show S.nx<S4.nx by omega)).trans c4;have nS5:=s5.1;have l5:cE (.ptr S.nx 0) true 3 S5.h=some (.agg [.int .i64 g.players,nv,iv]):=fG c5;simp only[↓aB,aA,rE,↓reduceIte,rA,ex0,ex1];refine bL ?_;simp only[↓aB,aA,rE,↓reduceIte,rA,l5];refine aY ?_;simp only[↓aB,aA,rE,↓reduceIte,rA];refine aO (aHv H (hg0.same s15) hT hln) ?_;rintro _ S6 ⟨⟨qv,rfl,iq⟩,s6⟩;have s16:=s15.trans s6;have c6:=(s6.2 _ (show S.nx<S5.nx by omega)).trans c5;have nS6:=s6.1;have l6:cE (.ptr S.nx 0) true 3 S6.h=some (.agg [.int .i64 g.players,nv,iv]):=fG c6;simp only[↓aB,aA,rE,↓reduceIte,rA,ex0,ex1];refine bL ?_;simp only[↓aB,aA,rE,↓reduceIte,rA,l6];refine aY ?_;simp only[↓aB,aA,rE,↓reduceIte,rA];refine aO (uM H (hg0.same s16) hT hln (hL.same s16)) ?_;rintro _ S7 ⟨uv,rfl,s7,hu⟩;obtain⟨un,ui,rfl,u1,u2⟩:=hu S7 (Ah _) fun _ _ _=>rfl;have s17:=s16.trans s7;have c7:=(s7.2 _ (show S.nx<S6.nx by omega)).trans c6;have nS7:=s7.1;simp only[↓aB,aA,rE,↓reduceIte,rA,ex0,ex1];refine cD ?_;intro T1 t1 m1 d1;try simp only[↓aB,aA,rE,↓reduceIte,rA]
 refine eF (b:=S7.nx) (cs':=[.int .i64 (mH g).players,un,ui]) (by simp only[↓aB,aA,rE,↓reduceIte,rA]) (by simp only[↓aB,aA,rE,↓reduceIte,rA];exact bE _) d1 rfl rfl ?_;intro T2 t2 m2 d2;simp only[↓aB,aA,rE,↓reduceIte,rA];have t12:Same S7 T2:=t2.same t1 (Ah _);have s1T:=s17.trans t12;have cT:=(t12.2 _ (show S.nx<S7.nx by omega)).trans c7;have lT:cE (.ptr S.nx 0) true 3 T2.h=some (.agg [.int .i64 g.players,nv,iv]):=fG cT;refine bL ?_;simp only[↓aB,aA,rE,↓reduceIte,rA,lT];refine aY ?_;simp only[↓aB,aA,rE,↓reduceIte,rA];refine aO (aEl H (hg0.same s1T) hT hln) ?_;rintro _ T3 ⟨wv,rfl,t3,hw⟩;obtain⟨wn,wi,rfl,w1,w2⟩:=hw;have nT3:=t3.1;simp only[↓aB,aA,rE,↓reduceIte,rA,ex0,ex1];refine cD ?_;intro T4 t4 m4 d4;try simp only[↓aB,aA,rE,↓reduceIte,rA]
 refine eF (b:=T3.nx) (cs':=[.int .i64 (mH g).players,wn,wi]) (by simp only[↓aB,aA,rE,↓reduceIte,rA]) (by simp only[↓aB,aA,rE,↓reduceIte,rA];exact bE _) d4 rfl rfl ?_;intro T5 t5 m5 d5;simp only[↓aB,aA,rE,↓reduceIte,rA];have t35:Same T3 T5:=t5.same t4 (Ah _);have t25:=t3.trans t35;have sT5:=s1T.trans t25;have cT5:=(t25.2 _ (show S.nx<T2.nx by omega)).trans cT;have uT5:=(t25.2 _ (show S7.nx<T2.nx by omega)).trans d2;have lA:cE (.ptr S.nx 0) true 3 T5.h=some (.agg [.int .i64 g.players,nv,iv]):=fG cT5;have lU:cE (.ptr S7.nx 0) true 3 T5.h=some (.agg [.int .i64 (mH g).players,un,ui]):=fG uT5;have lW:cE (.ptr T3.nx 0) true 3 T5.h=some (.agg [.int .i64 (mH g).players,wn,wi]):=fG d5;have sA:bW (.agg [.int .i64 g.players,nv,iv]) (.agg [.int .i64 g.players,nv,iv])=true:=kS (dG ..) (aQ.self hn) (aQ.self hi);have sUg:bW (.agg [.int .i64 (mH g).players,un,ui]) (.agg [.int .i64 (mH g).players,un,ui])=true:=kS (dG ..) (aQ.self u1) (aQ.self u2);have sWg:bW (.agg [.int .i64 (mH g).players,wn,wi]) (.agg [.int .i64 (mH g).players,wn,wi])=true:=kS (dG ..) (aQ.self w1) (aQ.self w2);have n2T:=t25.1;have k1:S.nx<T5.nx:=by omega
 have k2:S7.nx<T5.nx:=by omega
 have k3:T3.nx<T5.nx:=by omega
 obtain⟨tmU,lnU⟩:=aJz g;refine aC (fP (fun _=>False) ?_);intro R1 r1 hR1 nR1;simp only[↓sU,sD,rE,↓reduceIte,rA,lA,k1,An,sA];refine bS rfl ?_;simp only[↓sU,sD,rE,↓reduceIte,rA];have e1:=sT5.trans r1;refine aO (aCq H (hg0.same e1) hT hln (hL.same e1)) ?_;rintro _ R2 ⟨rfl,r2⟩;refine⟨r2,?_⟩;have e2:=e1.trans r2;simp only[↓sU,sD,rE,↓reduceIte,rA,lA,k1,An,sA];refine bS rfl ?_;simp only[↓sU,sD,rE,↓reduceIte,rA];refine aO (aEC H (hg0.same e2) hT hln) ?_;rintro _ R3 ⟨rfl,r3⟩;refine⟨r3,?_⟩;have f3:=(r1.trans r2).trans r3;simp only[↓sU,sD,rE,↓reduceIte,rA,dT];refine bS rfl ?_;simp only[↓sU,sD,rE,↓reduceIte,rA];have s5T:Same S5 R3:=(((s6.trans s7).trans t12).trans t25).trans f3;have s6T:Same S6 R3:=((s7.trans t12).trans t25).trans f3;refine aO (wB H (ip.same s5T) (iq.same s6T) (aNw g hln)) ?_;rintro _ R4 ⟨rfl,r4⟩;refine⟨r4,?_⟩;simp only[↓sU,sD,rE,↓reduceIte,rA,dT,lU,lW,k2,k3,An,sUg,sWg];refine bS rfl ?_;simp only[↓sU,sD,rE,↓reduceIte,rA];have f4:=f3.trans r4;have u4:Same S7 R4:=(t12.trans t25).trans f4;have w4:Same T3 R4:=t35.trans f4;refine aO (aDa H (aQ.same (E:=cC) bR u1 u4) (aQ.same (E:=dI) cR u2 u4) (aQ.same (E:=cC) bR w1 w4) (aQ.same (E:=dI) cR w2 w4) tmU lnU) ?_;rintro _ R5 ⟨rfl,r5⟩;refine⟨r5,?_⟩;simp only[↓sU,sD,rE,↓reduceIte,rA,dT];refine aR ?_;simp only[↓sU,sD,rE,↓reduceIte,rA];exact(sT5.trans f4).trans r5
end Go.Ev.Gl
