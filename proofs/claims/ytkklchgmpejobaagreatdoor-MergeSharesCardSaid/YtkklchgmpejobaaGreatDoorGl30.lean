import Derived.Test.YtkklchgmpejobaaGreatDoorGl29
open Nat renaming reduceEqDiff → rE, reduceAdd → rA
set_option maxHeartbeats 16000000
set_option linter.unusedSimpArgs false
set_option linter.unusedVariables false
namespace Go.Ev.Gl
variable {fns:T cW}
def aBE(i:Nat):List Int→List Int→List Int
 | M,[]=>M
 | M,c::l=>aBE i (M.set c.toNat (IntKind.i64.wrap (M.getD c.toNat 0+M.getD i 0))) l
def aBg(h:bJ):Nat→List Int
 | 0=>(List.replicate h.nodes.length 0).set 0 1
 | i+1=>aBE i (aBg h i) (nodeAt h i).next
theorem aEr{i:Nat}:∀ {l:List Int} {M:List Int} {c:Int},aBE i M (l++ [c])=(aBE i M l).set c.toNat (IntKind.i64.wrap ((aBE i M l).getD c.toNat 0+(aBE i M l).getD i 0))
 | [],_,_=>rfl
 | _::l,_,_=>by
  show aBE i _ (l++ [_])=_;rw[aEr];rfl
theorem aDp{i:Nat}:∀ {l:List Int} {M:List Int},(aBE i M l).length=M.length
 | [],_=>rfl
 | _::l,_=>by
  show(aBE i _ l).length=_;rw[aDp,Bi]
theorem oH{h:bJ}:∀ {n:Nat},(aBg h n).length=h.nodes.length
 | 0=>by unfold aBg;rw[Bi,Bd]
 | n+1=>by unfold aBg;rw[aDp,oH]
theorem aOt{h:bJ}(he:uC h=0):oF h:=by
 by_cases hl:oF h
 ·exact hl
 ·rw[aEy hl] at he;cases he
noncomputable def aQQ:List AO:=[mt 36 5,
mt 37 9,
om 38 3 (.iaddr (.slice 1) (.t 36) (.t 37)),
om 39 7 (ld 38),
mt 40 5,
mt 41 6,
om 42 48 (.iaddr (.slice 1) (.t 40) (.t 41)),
om 43 112 (ld 42),
om 44 255 (bi .add (.t 39) (.t 43)),
om 45 511 (.iaddr (.slice 1) (.t 36) (.t 37))]
def PtI(h:bJ)(S2:St)(nv:AV)(pb:Nat)(k:Nat)(A:bQ)(X:St):Prop:=A.inr=false∧bH pb S2 X∧aD 5 A.F= .sl pb 0 h.nodes.length h.nodes.length false∧aD 22 A.F=nv∧aD 23 A.F= .int .i64 ((h.nodes.length:Nat):Int)∧∃i:Nat,i+k=h.nodes.length∧aD 24 A.F= .int .i64 (i:Int)∧X.h.get pb=some (.cells (bG (aBg h i)) false 0)
def PtJ(h:bJ)(S2:St)(nv na:AV)(pb i:Nat)(k:Nat)(A:bQ)(X:St):Prop:=A.inr=false∧bH pb S2 X∧aD 5 A.F= .sl pb 0 h.nodes.length h.nodes.length false∧aD 6 A.F= .int .i64 (i:Int)∧aD 22 A.F=nv∧aD 23 A.F= .int .i64 ((h.nodes.length:Nat):Int)∧aD 24 A.F= .int .i64 (i:Int)∧aD 30 A.F=na∧aD 31 A.F= .int .i64 (((nodeAt h i).next.length:Nat):Int)∧∃j:Nat,j+k=(nodeAt h i).next.length∧aD 32 A.F= .int .i64 (j:Int)∧X.h.get pb=some (.cells (bG (aBE i (aBg h i) ((nodeAt h i).next.take j))) false 0)
theorem aHN{S:St}{v:AV}{h:bJ}(H:Has fns)(hv:mA S v h)(hT:aH4 h)(hN:h.nodes.length≤100000)(h10:iO S):fR fns (.fn 17 [] []) [v] S fun r X=>(∃pv,r= .tup [pv,.int .i64 (uC h)]∧bT .i64 X pv (if uC h=0 then aBg h h.nodes.length else []))∧Same S X:=by
 have hv0:=hv;obtain⟨nv,iv,rfl,hn,hi⟩:=hv;have hnl:=aY.len hn;have sn:=aY.self hn;refine cD H.f17 (by simp) ?_;simp only[↓aA,aB,rE,↓reduceIte,rA];refine cC ?_;refine dR (by simp only[↓aA,aB,rE,↓reduceIte];exact bK _) ?_;intro S1 s1 n1 c1;simp only[↓aA,aB,rE,↓reduceIte,rA];have lagg:dB (.ptr S.nx 0) true 3 S1.h=some (.agg [.int .i64 h.players,nv,iv]):=jG c1;refine iU ?_;simp only[↓aA,aB,rE,↓reduceIte,rA,lagg];refine bB ?_;simp only[↓aA,aB,rE,↓reduceIte,rA];refine aN (aGn H (hv0.same s1) hT hN (h10.same s1)) ?_;rintro _ Y ⟨rfl,y⟩;have sY:=s1.trans y;have gY:=(y.2 _ (show S.nx<S1.nx by omega)).trans c1;have nY:=y.1;try simp only[↓aA,aB,rE,↓reduceIte,rA]
 refine cC ?_;simp only[↓aA,aB,rE,↓reduceIte,rA];by_cases he:uC h=0;rotate_left
 ·refine aS (by simp only[↓aA,aB,rE,↓reduceIte,rA];exact Ci _ (Ac he)) (aC (aG ?_));simp only[↓aA,aB,rE,↓reduceIte,rA];refine aT ?_;simp only[↓aA,aB,rE,↓reduceIte,rA];exact⟨⟨_,rfl,by rw[if_neg he];exact .inl ⟨rfl,.inl rfl⟩⟩,sY⟩
 have hL:=aOt he;have hK:=hL.2.1;have h0:=hL.1;refine aP (by simp only[↓aA,aB,rE,↓reduceIte,rA];exact Ci _ (Aa fun e=>e he)) (aM ?_);try simp only[↓aA,aB,rE,↓reduceIte,rA]
 refine cC ?_;simp only[↓aA,aB,rE,↓reduceIte,rA,aE,aF,fG gY,sn,hnl];refine gH (oP (n:=h.nodes.length) (by simp only[↓aA,aB,rE,↓reduceIte,aH]) (by simp only[↓aA,aB,rE,↓reduceIte,aH]) (by unfold room;omega) (by unfold room;omega)) ?_;intro Y2 y2 m2 c2;rw[uW] at c2;try simp only[↓aA,aB,rE,↓reduceIte,rA]
 have nz:eY (.int .i64 0)=some 0:=rfl;have ir0:=iE (b:=Y.nx) (o:=false) h0;refine cC ?_;simp only[↓aA,aB,rE,↓reduceIte,rA,nz,ir0];refine eR (fun call=>by simp only[↓aA,aB,rE,↓reduceIte,rA,dD,cO];exact aBH (S:=Y2) c2 (by rw[Bd];exact h0)) ?_;obtain⟨S2,hS2⟩:∃S2:St,S2=⟨Y2.h.set Y.nx (some (.cells (bG ((List.replicate h.nodes.length 0).set 0 1)) false 0)),Y2.nx⟩:=⟨_,rfl⟩;rw[←hS2];have g2:S2.h.get Y.nx=some (.cells (bG (aBg h 0)) false 0):=by rw[hS2];simp only;rw[T.get_set,if_pos rfl];rfl
 have s2:Same Y S2:=by rw[hS2];exact y2.put (Af _) _
 have n2:S2.nx=Y2.nx:=by rw[hS2]
 clear hS2;have sS2:=sY.trans s2;have gg2:=(s2.2 _ (show S.nx<Y.nx by omega)).trans gY;simp only[↓aA,aB,rE,↓reduceIte,rA];refine aC (bF (Q:=fun o A' X=>o= .normal∧PtI h S2 nv Y.nx 0 A' X) (aC (aG ?_)) ?_)
 ·simp only[↓aA,aB,rE,↓reduceIte,rA,aE,aF,fG gg2,sn,hnl];refine aO (cA (PtI h S2 nv Y.nx) ?_ h.nodes.length _ _ ⟨rfl,bH.refl _ _,by simp only[↓aA,aB,rE,↓reduceIte,rA],by simp only[↓aA,aB,rE,↓reduceIte,rA],by simp only[↓aA,aB,rE,↓reduceIte,rA],0,by omega,by simp only[↓aA,aB,rE,↓reduceIte,rA];try rfl,g2⟩);rintro k ⟨F,inr⟩ X ⟨q0,hX,p5,p22,p23,i,hik,p24,hc⟩;simp only at q0 p5 p22 p23 p24;subst q0;refine cC ?_;simp only[↓aA,aB,rE,↓reduceIte,p23,p24,wL];by_cases hlt:i<h.nodes.length;rotate_left
  ·refine aC (aP (by simp only[↓aA,aB,rE,↓reduceIte,Aa hlt]) (bL ?_));obtain rfl:k=0:=by omega
   exact⟨rfl,rfl,hX,by simp only[↓aA,aB,rE,↓reduceIte,p5],by simp only[↓aA,aB,rE,↓reduceIte,p22],by simp only[↓aA,aB,rE,↓reduceIte,p23],i,hik,by simp only[↓aA,aB,rE,↓reduceIte,p24],hc⟩
  refine aC (aS (by simp only[↓aA,aB,rE,↓reduceIte,Ac hlt]) (aM ?_));try simp only[↓aA,aB,rE,↓reduceIte]
  have sX:=bH.same sS2 hX (by have:=sY.1;omega);obtain⟨e,b,p,i1,i2,i3,⟨na,nb,nc,rfl,x1,x2,x3⟩,i5,i6⟩:=aY.at hn (by omega) (dK hlt);have l3:=(pS sX i2).trans i5;have xa:=bT.self x1;have ira:=iE (b:=Y.nx) (o:=false) hlt;have tn:=(hT.2 _ (Ar (dK hlt))).1;refine aC (bF (Q:=fun o A' Z=>o= .normal∧PtJ h S2 nv na Y.nx i 0 A' Z) (aO (aC (aG ?_))) ?_)
  ·simp only[↓aA,aB,rE,↓reduceIte,rA,p22,p24,aH,i1,l3];refine cS ?_;intro X1 t1 k1 d1;simp only[↓aA,aB,rE,↓reduceIte,rA];refine fA (b:=X.nx) (by simp only[↓aA,aB,rE,↓reduceIte]) (by simp only[↓aA,aB,rE,↓reduceIte];exact bK _) d1 rfl rfl ?_;intro X2 t2 k2 d2;simp only[↓aA,aB,rE,↓reduceIte,rA];have sXX:Same X X2:=t2.same t1 (Af _);have lpX:Y.nx<X.nx:=by have:=hX.1;omega
   have hX2:bH Y.nx S2 X2:=⟨Az hX.1 sXX.1,fun c hc hne=>(sXX.2 c (Ah hc hX.1)).trans (hX.2 c hc hne)⟩;have hc2:=(sXX.2 _ lpX).trans hc;refine cC ?_;simp only[↓aA,aB,rE,↓reduceIte,rA,aE,aF,fK d2,xa,x1.len,Al];refine aO (cA (PtJ h S2 nv na Y.nx i) ?_ (nodeAt h i).next.length _ _ ⟨rfl,hX2,by simp only[↓aA,aB,rE,↓reduceIte,rA,p5],by simp only[↓aA,aB,rE,↓reduceIte,rA],by simp only[↓aA,aB,rE,↓reduceIte,rA,p22],by simp only[↓aA,aB,rE,↓reduceIte,rA,p23],by simp only[↓aA,aB,rE,↓reduceIte,rA,p24],by simp only[↓aA,aB,rE,↓reduceIte,rA],by simp only[↓aA,aB,rE,↓reduceIte,rA],0,by omega,by simp only[↓aA,aB,rE,↓reduceIte,rA];try rfl,by rw[Br];exact hc2⟩);clear p5 p22 p23 p24 hc hc2 hX hX2 d2 d1 t1 t2 sX l3 sXX;rintro k ⟨F,inr⟩ Z ⟨q0,hZ,p5,p6,p22,p23,p24,p30,p31,j,hjk,p32,hc⟩;simp only at q0 p5 p6 p22 p23 p24 p30 p31 p32;subst q0;refine cC ?_;simp only[↓aA,aB,rE,↓reduceIte,rA,p31,p32,wL];by_cases hj:j<(nodeAt h i).next.length;rotate_left
   ·refine aC (aP (by simp only[↓aA,aB,rE,↓reduceIte,rA,Aa hj]) (bL ?_));obtain rfl:k=0:=by omega
    exact⟨rfl,rfl,hZ,by simp only[↓aA,aB,rE,↓reduceIte,rA,p5],by simp only[↓aA,aB,rE,↓reduceIte,rA,p6],by simp only[↓aA,aB,rE,↓reduceIte,rA,p22],by simp only[↓aA,aB,rE,↓reduceIte,rA,p23],by simp only[↓aA,aB,rE,↓reduceIte,rA,p24],by simp only[↓aA,aB,rE,↓reduceIte,rA,p30],by simp only[↓aA,aB,rE,↓reduceIte,rA,p31],j,hjk,by simp only[↓aA,aB,rE,↓reduceIte,rA,p32],hc⟩
   refine aC (aS (by simp only[↓aA,aB,rE,↓reduceIte,rA,Ac hj]) (aM ?_));try simp only[↓aA,aB,rE,↓reduceIte,rA]
   obtain⟨k1,k2,k3⟩:=hK i hlt j hj;have sZ:=bH.same sS2 hZ (by have:=sY.1;omega);have iaj:=x1.iaddr hj;have laj:=(x1.same sZ).ld hj;have hsn:=aEr (i:=i) (l:=(nodeAt h i).next.take j) (M:=aBg h i) (c:=(nodeAt h i).next.getD j 0);rw[←aAD hj,k3,Db] at hsn;rw[k3] at laj;have hlen:(aBE i (aBg h i) ((nodeAt h i).next.take j)).length=h.nodes.length:=by rw[aDp,oH]
   have irc:=iE (b:=Y.nx) (o:=false) k2;have lra:=aEc hc (show i<_ by rw[hlen];exact hlt);have lrc:=aEc hc (show iI h i j<_ by rw[hlen];exact k2);refine aC (aO (aC (aG ?_)));simp only[↓aA,aB,rE,↓reduceIte,rA,p30,p32,aH,iaj,laj];refine qP (pre:=aQQ) (K:=10) (m:=1023) (n:=1) (x:=.t 45) (v:=.t 44) rfl rfl rfl rfl ?_;unfold aQQ;simp only[↓sU,sD,rE,↓reduceIte,rA,p5,p6,aH,ira,irc,lra,lrc];simp only[cO,aK];refine⟨_,aBH (S:=⟨Z.h,Z.nx+11⟩) hc (by rw[hlen];exact k2),?_⟩;refine aG ?_;simp only[↓sU,sD,rE,↓reduceIte,rA,p32,eH (a:=j) (by omega)];exact⟨k - 1,by omega,rfl,(hZ.nx 11).put _,by simp only[↓sU,sD,rE,↓reduceIte,rA,p5],by simp only[↓sU,sD,rE,↓reduceIte,rA,p6],by simp only[↓sU,sD,rE,↓reduceIte,rA,p22],by simp only[↓sU,sD,rE,↓reduceIte,rA,p23],by simp only[↓sU,sD,rE,↓reduceIte,rA,p24],by simp only[↓sU,sD,rE,↓reduceIte,rA,p30],by simp only[↓sU,sD,rE,↓reduceIte,rA,p31],j+1,by omega,by simp only[↓sU,sD,rE,↓reduceIte,rA],by simp only;rw[T.get_set,if_pos rfl,hsn]⟩
  clear p5 p22 p23 p24 hc hX;rintro o ⟨F,inr⟩ Z ⟨rfl,q0,hZ,p5,p6,p22,p23,p24,p30,p31,j,hjk,p32,hc⟩;simp only at q0 p5 p22 p23 p24;subst q0;obtain rfl:j=(nodeAt h i).next.length:=by omega
  rw[Cg] at hc;try simp only[↓aA,aB,rE,↓reduceIte,rA]
  refine aG ?_;simp only[↓aA,aB,rE,↓reduceIte,rA,p24,eH (a:=i) (by omega)];exact⟨k - 1,by omega,rfl,hZ,by simp only[↓aA,aB,rE,↓reduceIte,rA,p5],by simp only[↓aA,aB,rE,↓reduceIte,rA,p22],by simp only[↓aA,aB,rE,↓reduceIte,rA,p23],i+1,by omega,by simp only[↓aA,aB,rE,↓reduceIte,rA],hc⟩
 rintro o ⟨F,inr⟩ X ⟨rfl,q0,hX,p5,p22,p23,i,hik,p24,hc⟩;simp only at q0 p5;subst q0;obtain rfl:i=h.nodes.length:=by omega
 have hiX:=lB hc (by have:=hX.1;omega) oH;try simp only[↓aA,aB,rE,↓reduceIte,rA]
 refine cC ?_;simp only[↓aA,aB,rE,↓reduceIte,rA,p5];refine aT ?_;simp only[↓aA,aB,rE,↓reduceIte,rA];exact⟨⟨_,by rw[he],by rw[if_pos he];exact hiX⟩,bH.same sS2 hX (by have:=sY.1;omega)⟩
theorem aHE{S:St}{v:AV}{h:bJ}(H:Has fns)(hv:mA S v h)(hT:aH4 h)(hN:h.nodes.length≤100000)(h10:iO S):fR fns (.fn 15 [] []) [v] S fun r X=>r= .tup [.int .i64 (((aEf h).nodes.length:Nat):Int),.int .i64 (uC h)]∧Same S X:=by
 have hv0:=hv;obtain⟨nv,iv,rfl,hn,hi⟩:=hv;refine cD H.f15 (by simp) ?_;simp only[↓aA,aB,rE,↓reduceIte,rA];refine cC ?_;refine dR (by simp only[↓aA,aB,rE,↓reduceIte];exact bK _) ?_;intro S1 s1 n1 c1;simp only[↓aA,aB,rE,↓reduceIte,rA];have lagg:dB (.ptr S.nx 0) true 3 S1.h=some (.agg [.int .i64 h.players,nv,iv]):=jG c1;refine cC ?_;simp only[↓aA,aB,rE,↓reduceIte,rA,lagg];refine bB ?_;simp only[↓aA,aB,rE,↓reduceIte,rA];refine aN (aAK H (hv0.same s1) hT hN (h10.same s1)) ?_;rintro _ X ⟨gv,rfl,sX,hg⟩;obtain⟨a,b,rfl,ha,hb⟩:=hg X (Af _) fun _ _ _=>rfl;simp only[↓aA,aB,rE,↓reduceIte,rA,ex0,ex1];refine cS ?_;intro X1 t1 m1 d1;try simp only[↓aA,aB,rE,↓reduceIte,rA]
 refine fA (b:=X.nx) (cs':=[.int .i64 (aEf h).players,a,b]) (by simp only[↓aA,aB,rE,↓reduceIte,rA]) (by simp only[↓aA,aB,rE,↓reduceIte,rA];exact bK _) d1 rfl rfl ?_;intro X2 t2 m2 d2;simp only[↓aA,aB,rE,↓reduceIte,rA];refine cC ?_;simp only[↓aA,aB,rE,↓reduceIte,rA,aE,aF,fG d2,aY.len ha];refine aT ?_;simp only[↓aA,aB,rE,↓reduceIte,rA];exact(s1.trans sX).trans (t2.same t1 (Af _))
end Go.Ev.Gl
