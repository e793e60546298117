import Derived.Test.YtoojnpjgnnpllaaGl27
open Nat renaming reduceEqDiff -> rE, reduceAdd -> rA
set_option maxHeartbeats 0
set_option linter.unusedSimpArgs false
set_option linter.unusedVariables false
namespace Go.Ev.Gl
variable {fns:T dY}
def aQ8(S Y:St)(g:aS)(L:a9)(ov fv mv nv av:AV)(gb q:Nat)(out0:ba)(k:Nat)(A:bG)(X:St):Prop:=A.inr=false/\oY ov Y X/\∃ (s:Nat) (out:ba) (fl:Bool),s+k=g.bj.length/\fY 1 S X ov out.length (aU out)/\aDQ (dU g g.bj.length) (L.map (pmL g)) out0 out fl q (dU g s)/\PaF ov fv mv nv av gb q fl A.F/\aD 15 A.F= .int .i64 (s:Int)
theorem aP2{S Y X0:St}{g:aS}{L:a9}{m:ba}{ov fv mv nv av:AV}{F0:Fr}{gb q:Nat}{out0 out1:ba}{fl:Bool}(G:dE g)(hL:∀m∈L,eX g m)(hq:q<L.length)(hm:L.getD q []=m)(hI:∀Z,oY ov Y Z->bI .i64 Z nv (de g m))(hA:∀Z,oY ov Y Z->aE 1 iD Z av (df g m))(hF:∀Z,oY ov Y Z->bI .i64 Z fv (pK g))(hN:dU g g.bj.length<=1000000)
  (hX:oY ov Y X0) (ho:fY 1 S X0 ov out1.length (aU out1)) (hD:aDQ (dU g g.bj.length) (L.map (pmL g)) out0 out1 fl q 0) (hP:PaF ov fv mv nv av gb q fl F0) (p15:aD 15 F0= .int .i64 ((0:Nat):Int)):
  iM fns aRM ⟨F0,false⟩ X0 fun o A' X=>o= .normal/\aQ8 S Y g L ov fv mv nv av gb q out0 0 A' X:=by
 refine aK (bH (aQ8 S Y g L ov fv mv nv av gb q out0) ?_ g.bj.length _ _ ⟨rfl,hX,0,out1,fl,ar,ho,hD,hP,p15⟩);clear hP p15 hD ho hX;rintro k ⟨F,inr⟩ X ⟨q0,hX,s,out,fl,hsk,ho,hD,⟨p1,p2,p4,p5,p9,p10,p11,p13⟩,p15⟩;simp only at q0 p1 p2 p4 p5 p9 p10 p11 p13 p15;subst q0;have hNI:=G.ni;have hIl:(de g m).length=g.bj.length:=by unfold de;rw[Aj,Ay]
 refine fC ?_;refine dr p11 p15 ((hI X hX).len) @Ah hIl ?_;by_cases hlt:s<g.bj.length;rotate_left
 ·refine aM (by simp only[↓sU,sD,rE,↓reduceIte,rA,Aa (show ¬ (s:Int)<(g.bj.length:Int) by omega)]) (bJ ?_);refine ae ?_;obtain rfl:k=0:=by omega
  exact⟨rfl,hX,s,out,fl,hsk,ho,hD,(by refine⟨?_,?_,?_,?_,?_,?_,?_,?_⟩<;>simp only[↓sU,sD,rE,↓reduceIte,rA,p1,p2,p4,p5,p9,p10,p11,p13]),ah p15⟩
 refine aN (by simp only[↓sU,sD,rE,↓reduceIte,rA,Ac (show(s:Int)<(g.bj.length:Int) by omega)]) (aI ?_);try refine ae ?_
 have w1:=dh s
 refine aA (aK (aA (aJ ?_)));refine ae ?_;refine aX (aPU (S:=S) (Y:=Y) (g:=g) (L:=L) (m:=m) (ov:=ov) (fv:=fv) (mv:=mv) (nv:=nv) (av:=av) (gb:=gb) (q:=q) (s:=s) (out0:=out0) (out1:=out) (fl:=fl) G hL hq hm hlt hI hA hF hN hX ho hD (by refine⟨?_,?_,?_,?_,?_,?_,?_,?_⟩<;>simp only[↓sU,sD,rE,↓reduceIte,rA,p1,p2,p4,p5,p9,p10,p11,p13]) (ah p15) (ag)) ?_;clear p1 p2 p4 p5 p9 p10 p11 p13 p15;rintro o ⟨F,inr⟩ X1 ⟨rfl,q0,hX1,a,out1,fl1,hak,ho1,hD1,⟨p1,p2,p4,p5,p9,p10,p11,p13⟩,p15,_⟩;simp only at q0 p1 p2 p4 p5 p9 p10 p11 p13 p15;subst q0;obtain rfl:a=cG g s:=by omega
 try refine ae ?_
 refine aJ (dn p15 w1 ?_);exact⟨k - 1,ar,rfl,hX1,s+1,out1,fl1,ar,ho1,hD1,(by refine⟨?_,?_,?_,?_,?_,?_,?_,?_⟩<;>simp only[↓sU,sD,rE,↓reduceIte,rA,p1,p2,p4,p5,p9,p10,p11,p13]),af⟩
def PbF(ov fv mv:AV)(gb:Nat)(fl:Bool)(F:Fr):Prop:=aD 1 F=mv/\aD 2 F= .ptr gb 0/\aD 4 F=ov/\aD 5 F=fv/\aD 9 F= .bool fl
def aRN(S B:St)(g:aS)(L:a9)(ov fv mv:AV)(gb:Nat)(out0:ba)(k:Nat)(A:bG)(X:St):Prop:=A.inr=false/\oY ov B X/\∃ (q:Nat) (out:ba) (fl:Bool),q+k=L.length/\fY 1 S X ov out.length (aU out)/\aDQ (dU g g.bj.length) (L.map (pmL g)) out0 out fl q 0/\PbF ov fv mv gb fl A.F/\aD 10 A.F= .int .i64 (q:Int)
structure PaB(S B:St)(g:aS)(L:a9)(ov fv nv iv mv:AV)(gb:Nat):Prop where
 s:Same S B
 n:aE 6 bX S nv g.bh
 i:aE 2 bP S iv g.bj
 m:aE 1 iD S mv L
 f:bI .i64 B fv (pK g)
 fo:∀c,aZ fv=some c->aZ ov≠some c
 gg:B.h.get gb=some (.cells [.int .i64 g.bo,nv,iv] false 0)
 lg:gb<B.nx
 go:aZ ov≠some gb
 ob:∀c,aZ ov=some c->S.nx<=c/\c<B.nx
theorem PaB.sx{S B X:St}{g:aS}{L:a9}{ov fv nv iv mv:AV}{gb:Nat}(h:PaB S B g L ov fv nv iv mv gb)(hX:oY ov B X):Same S X:=⟨Al h.s.1 hX.1,fun c hc=>(hX.2 c (Ae hc h.s.1) fun e=>by have:=(h.ob c e).1;omega).trans (h.s.2 c hc)⟩
theorem aPu{S B X0:St}{g:aS}{L:a9}{ov fv nv iv mv:AV}{F0:Fr}{gb:Nat}{out0:ba}(H:Has fns)(hf0:cT g=0)(hL:∀m∈L,eX g m)(hLn:L.length<=16)(hB:PaB S B g L ov fv nv iv mv gb)(hN:dU g g.bj.length<=1000000)
  (hX:oY ov B X0) (ho:fY 1 S X0 ov out0.length (aU out0)) (hU:wH (dU g g.bj.length) (iI (dU g g.bj.length) (L.map (pmL g))) out0) (hP:PbF ov fv mv gb false F0) (p10:aD 10 F0= .int .i64 ((0:Nat):Int)):
  iM fns aRw ⟨F0,false⟩ X0 fun o A' X=>o= .normal/\aRN S B g L ov fv mv gb out0 0 A' X:=by
 have G:=gF hf0;refine aK (bH (aRN S B g L ov fv mv gb out0) ?_ L.length _ _ ⟨rfl,hX,0,out0,false,ar,ho,⟨hU,.inr ⟨rfl,rfl,fun q' x' _ hc=>ar⟩⟩,hP,p10⟩);clear hP p10 ho hX;rintro k ⟨F,inr⟩ X ⟨q0,hX,q,out,fl,hqk,ho,hD,⟨p1,p2,p4,p5,p9⟩,p10⟩;simp only at q0 p1 p2 p4 p5 p9 p10;subst q0;have sX:=hB.sx hX;have hmX:=aE.same (E:=iD) cm hB.m sX;refine fC (dq p1 p10 hmX.len @Ah ?_);by_cases hlt:q<L.length;rotate_left
 ·refine aM (by simp only[↓sU,sD,rE,↓reduceIte,rA,Aa (show ¬ (q:Int)<(L.length:Int) by omega)]) (bJ ?_);refine ae ?_;obtain rfl:k=0:=by omega
  exact⟨rfl,hX,q,out,fl,hqk,ho,hD,(by refine⟨?_,?_,?_,?_,?_⟩<;>simp only[↓sU,sD,rE,↓reduceIte,rA,p1,p2,p4,p5,p9]),ah p10⟩
 refine aN (by simp only[↓sU,sD,rE,↓reduceIte,rA,Ac (show(q:Int)<(L.length:Int) by omega)]) (aI ?_);try refine ae ?_
 have w1:=dh q
 have⟨xb,xq,a,xi,xs,xlb,xl⟩:=pQ hmX hlt;have xl1:=xl X (dk X);have gX:=(hX.2 _ hB.lg hB.go).trans hB.gg;have lgX:=Ae hB.lg hX.1;have snv:=aE.self hB.n;have siv:=aE.self hB.i;have sg:cE (.agg [.int .i64 g.bo,nv,iv]) (.agg [.int .i64 g.bo,nv,iv])=true:=uK (dH ..) snv siv;have smv:=aE.self hB.m;have sa:=bI.self xs;have hmem:L.getD q []∈L:=by rw[Ad,Ab hlt];exact Bo hlt
 have AM:=hL _ hmem;refine aA (aK (aA (kJ (fun _=>False) ?_)));simp only[↓sU,sD,rE,↓reduceIte,rA,p1,p2,p10,eJ gX,lgX,Ak,sg,aH,xi,xl1,xlb,sa];obtain⟨X1,hX1⟩:∃X1:St,X1=⟨X.h,X.nx+11⟩:=⟨_,rfl⟩;have nX1:X1.nx=X.nx+11:=by rw[hX1]
 have sX1:Same X X1:=by rw[hX1];exact Same.nx X 11
 rw[<-hX1];have sSX1:=sX.trans sX1;refine cU rfl ?_;refine ae ?_;refine aW (aGp H hf0 (aE.same (E:=bX) bL hB.n sSX1) (aE.same (E:=bP) bK hB.i sSX1) (xs.same sX1) AM) ?_;rintro _ X2 ⟨s2,nv',rfl,snv',hI2⟩;refine⟨s2,?_⟩;refine dp @rN @sA @bF ?_;have sX2:=sX1.trans s2;have gX2:=(sX2.2 _ lgX).trans gX;have lgX2:=Ae lgX sX2.1;have xl2:=xl X2 sX2;have xlb2:=Ae xlb sX2.1;refine aA (kJ (fun _=>False) ?_);simp only[↓sU,sD,rE,↓reduceIte,rA,p1,p2,p10,eJ gX2,lgX2,Ak,sg,aH,xi,xl2,xlb2,sa,smv];obtain⟨X3,hX3⟩:∃X3:St,X3=⟨X2.h,X2.nx+11⟩:=⟨_,rfl⟩;have sX3:Same X2 X3:=by rw[hX3];exact Same.nx X2 11
 rw[<-hX3];have s03:=sX2.trans sX3;have sSX3:=sX.trans s03;refine cU rfl ?_;refine ae ?_;refine aW (aEx H hf0 (aE.same (E:=bX) bL hB.n sSX3) (aE.same (E:=bP) bK hB.i sSX3) (xs.same s03) AM) ?_;rintro _ X4 ⟨s4,av',rfl,sav',hA4⟩;refine⟨s4,?_⟩;refine dp @rN @sA @bF ?_;have s24:=sX3.trans s4;have s04:=sX2.trans s24;have obX:∀c,aZ ov=some c->c<X.nx:=fun c hc=>Ae (hB.ob c hc).2 hX.1;have hX4:oY ov B X4:=hX.trans (Same.butO s04);have hoX4:fY 1 S X4 ov out.length (aU out):=ho.move s04.1 fun c hc=>s04.2 c (obX c hc);refine bO (ae ?_);refine aX (aP2 (S:=S) (Y:=X4) (g:=g) (L:=L) (m:=L.getD q []) (ov:=ov) (fv:=fv) (mv:=mv) (nv:=nv') (av:=av') (gb:=gb) (q:=q) (out0:=out0) (out1:=out) (fl:=fl) G hL hlt rfl (fun Z hZ=>hI2 Z (Al s24.1 hZ.1) fun c h1 h2=>(hZ.2 c (Ae h2 s24.1) fun e=>by have:=obX c e;omega).trans (s24.2 c h2)) (fun Z hZ=>hA4 Z hZ.1 fun c h1 h2=>hZ.2 c h2 fun e=>by have:=obX c e;have:=s03.1;omega) (fun Z hZ=>eT hB.f (Al hX4.1 hZ.1) fun c hc=>((hX4.trans hZ).2 c (eU hB.f hc) (hB.fo c hc))) hN (oY.refl _ _) hoX4 hD (by refine⟨?_,?_,?_,?_,?_,?_,?_,?_⟩<;>simp only[↓sU,sD,rE,↓reduceIte,rA,p1,p2,p4,p5,p9,p10]) (ag)) ?_;clear p1 p2 p4 p5 p9 p10;rintro o ⟨F,inr⟩ X5 ⟨rfl,q0,hX5,a,out1,fl1,hak,ho1,hD1,⟨p1,p2,p4,p5,p9,p10,_,_⟩,_⟩;simp only at q0 p1 p2 p4 p5 p9 p10;subst q0;obtain rfl:a=g.bj.length:=by omega
 try refine ae ?_
 refine aJ (dn p10 w1 ?_);exact⟨k - 1,ar,rfl,hX4.trans hX5,q+1,out1,fl1,ar,ho1,hD1.next,(by refine⟨?_,?_,?_,?_,?_⟩<;>simp only[↓sU,sD,rE,↓reduceIte,rA,p1,p2,p4,p5,p9]),af⟩
def aRP(S B:St)(g:aS)(L:a9)(ov fv mv:AV)(gb:Nat)(k:Nat)(A:bG)(X:St):Prop:=A.inr=false/\oY ov B X/\∃ (out:ba) (fl:Bool),fY 1 S X ov out.length (aU out)/\wH (dU g g.bj.length) (iI (dU g g.bj.length) (L.map (pmL g))) out/\((fl=true/\k=yW out+1)\/(fl=false/\k=0/\lD (dU g g.bj.length) (iI (dU g g.bj.length) (L.map (pmL g))) out))/\PbF ov fv mv gb fl A.F
theorem aPZ{S B:St}{g:aS}{L:a9}{ov fv nv iv mv:AV}{F0:Fr}{gb:Nat}{out0:ba}(H:Has fns)(hf0:cT g=0)(hL:∀m∈L,eX g m)(hLn:L.length<=16)(hB:PaB S B g L ov fv nv iv mv gb)(hN:dU g g.bj.length<=1000000)
  (ho:fY 1 S B ov out0.length (aU out0)) (hU:wH (dU g g.bj.length) (iI (dU g g.bj.length) (L.map (pmL g))) out0) (hP:PbF ov fv mv gb true F0):
  iM fns aRb ⟨F0,false⟩ B fun o A' X=>o= .normal/\∃out,oY ov B X/\fY 1 S X ov out.length (aU out)/\lD (dU g g.bj.length) (iI (dU g g.bj.length) (L.map (pmL g))) out/\aD 4 A'.F=ov/\aD 5 A'.F=fv:=by
 refine aX (Q:=fun o A' X=>o= .normal/\aRP S B g L ov fv mv gb 0 A' X/\aD 9 A'.F= .bool false) (aK (bH (aRP S B g L ov fv mv gb) ?_ (yW out0+1) _ _ ⟨rfl,oY.refl _ _,out0,true,ho,hU,.inl ⟨rfl,rfl⟩,hP⟩)) ?_
 ·clear hP ho hU;rintro k ⟨F,inr⟩ X ⟨q0,hX,out,fl,ho,hU,hfl,⟨p1,p2,p4,p5,p9⟩⟩;simp only at q0 p1 p2 p4 p5 p9;subst q0;refine fC (dm p9 ?_);rcases hfl with⟨rfl,hk⟩ | ⟨rfl,hk,hO⟩
  rotate_left
  ·subst hk;refine aM (af) (bJ ?_);refine ae ?_;exact⟨⟨rfl,hX,out,false,ho,hU,.inr ⟨rfl,rfl,hO⟩,(by refine⟨?_,?_,?_,?_,?_⟩<;>simp only[↓sU,sD,rE,↓reduceIte,rA,p1,p2,p4,p5,p9])⟩,ah p9⟩
  refine aN (af) (aI ?_);try refine ae ?_
  refine aK (aA (aJ ?_));refine ae ?_;refine bO (ae ?_);refine aX (aPu (S:=S) (B:=B) (g:=g) (L:=L) (ov:=ov) (fv:=fv) (nv:=nv) (iv:=iv) (mv:=mv) (gb:=gb) (out0:=out) H hf0 hL hLn hB hN hX ho hU (by refine⟨?_,?_,?_,?_,?_⟩<;>simp only[↓sU,sD,rE,↓reduceIte,rA,p1,p2,p4,p5]) (ag)) ?_;clear p1 p2 p4 p5 p9;rintro o ⟨F,inr⟩ X1 ⟨rfl,q0,hX1,q,out1,fl1,hq,ho1,hD,hZ,_⟩;simp only at q0;subst q0;obtain rfl:q=L.length:=by omega
  try refine ae ?_
  rcases hD.2 with⟨h1,h2⟩ | ⟨h1,h2,h3⟩
  ·subst h1;exact⟨yW out1+1,ar,rfl,hX1,out1,true,ho1,hD.1,.inl ⟨rfl,rfl⟩,hZ⟩
  ·subst h1 h2;exact⟨0,ar,rfl,hX1,out1,false,ho1,hD.1,.inr ⟨rfl,rfl,aE0 hD.1 fun q x hx hq=>h3 q x hx (.inl (by rw[Aj] at hq;exact hq))⟩,hZ⟩
 rintro o ⟨F,inr⟩ X ⟨rfl,⟨q0,hX,out,fl,ho,hU,hfl,⟨p1,p2,p4,p5,p9⟩⟩,p9'⟩;simp only at p4 p5 p9 p9';rcases hfl with⟨_,hk⟩ | ⟨_,_,hO⟩
 ·omega
 ·exact⟨rfl,out,hX,ho,hO,p4,p5⟩
def aRK(S1:St)(g:aS)(nv iv mv:AV)(gb:Nat)(k:Nat)(A:bG)(X:St):Prop:=A.inr=false/\Same S1 X/\∃ (i:Nat) (v:AV),i+k=g.bj.length/\fY 1 S1 X v ((pK g).take i).length (aU ((pK g).take i))/\aD 1 A.F=mv/\aD 2 A.F= .ptr gb 0/\aD 4 A.F= .bw/\aD 5 A.F=v/\aD 6 A.F= .int .i64 ((dU g i:Nat):Int)/\aD 7 A.F= .int .i64 (i:Int)
def aQM(S2:St)(n:Nat)(mv fv:AV)(gb:Nat)(k:Nat)(A:bG)(X:St):Prop:=A.inr=false/\Same S2 X/\∃ (x:Nat) (v:AV),x+k=n/\fY 1 S2 X v ((List.range x).map fun k:Nat=>(k:Int)).length (aU ((List.range x).map fun k:Nat=>(k:Int)))/\aD 1 A.F=mv/\aD 2 A.F= .ptr gb 0/\aD 4 A.F=v/\aD 5 A.F=fv/\aD 6 A.F= .int .i64 (n:Int)/\aD 8 A.F= .int .i64 (x:Int)
theorem rO{g:aS}(G:dE g):∀ {s:Nat},s<=g.bj.length->dU g s<=1000 * s
 | 0,_=>Ag _
 | s+1,h=>by
  have h1:=rO G (s:=s) ar;have h2:cG g s<=1000:=by
   rw[qQ G ar];exact G.nxt _ (G.fst s ar).1
  show dU g s+cG g s<=_;omega
theorem aG7{S:St}{nv iv mv:AV}{g:aS}{L:a9}(H:Has fns)(hf0:cT g=0)(hL:∀m∈L,eX g m)(hLn:L.length<=16)(hn:aE 6 bX S nv g.bh)(hi:aE 2 bP S iv g.bj)(hm:aE 1 iD S mv L):
  fZ fns (.fn 140 [] []) [.agg [.int .i64 g.bo,nv,iv],mv] S fun r S'=>Same S S'/\∃ov fv o,r= .tup [ov,fv]/\bI .i64 S' ov o/\bI .i64 S' fv (pK g)/\lD (dU g g.bj.length) (iI (dU g g.bj.length) (L.map (pmL g))) o:=by
 have G:=gF hf0;have hNI:=G.ni;have hN:=rO G (Ag _);have hol:(pK g).length=g.bj.length:=by unfold pK;rw[Aj,Ay]
 refine cF H.f140 (by simp) ?_;refine am ?_;refine bO ?_;refine cI (by refine am ?_;exact aY _) ?_;intro S1 s1 n1 g1;refine am ?_;refine bO (am ?_);have lgb:S.nx<S1.nx:=by omega
 refine aA (aX (Q:=fun o A' X=>o= .normal/\aRK S1 g nv iv mv S.nx 0 A' X) (aA (aJ ?_)) ?_)
 ·refine ae ?_;refine aK (bH (aRK S1 g nv iv mv S.nx) ?_ g.bj.length _ _ ⟨rfl,dk _,0,.bw,ar,.inl ⟨rfl,rfl,rfl⟩,af,af,af,af,ag,ag⟩);rintro k ⟨F,inr⟩ X ⟨q0,hX,i,v,hik,hg,p1,p2,p4,p5,p6,p7⟩;simp only at q0 p1 p2 p4 p5 p6 p7;subst q0;have gX:=(hX.2 _ lgb).trans g1;have hiX:=aE.same (E:=bP) bK hi (s1.trans hX);refine fC (du p2 p7 @aC @aB (fH gX) hi.len @Ah ?_);by_cases hlt:i<g.bj.length;rotate_left
  ·refine aM (by simp only[↓sU,sD,rE,↓reduceIte,rA,Aa (show ¬ (i:Int)<(g.bj.length:Int) by omega)]) (bJ ?_);refine ae ?_;obtain rfl:k=0:=by omega
   exact⟨rfl,hX,i,v,hik,hg,by refine⟨?_,?_,?_,?_,?_,?_⟩<;>simp only[↓sU,sD,rE,↓reduceIte,rA,p1,p2,p4,p5,p6,p7]⟩
  refine aN (by simp only[↓sU,sD,rE,↓reduceIte,rA,Ac (show(i:Int)<(g.bj.length:Int) by omega)]) (aI ?_);try refine ae ?_
  have w1:=dh i
  have hb:=rO G (s:=i) ar;have hb1:=rO G (s:=i+1) ar;have hacs:=pT G hlt;have hae:=qQ G hlt;have hoff:dU g (i+1)=dU g i+cG g i:=rfl;have w2:IntKind.i64.wrap (((dU g i:Nat):Int)+(cd g (i:Int)).bt)=((dU g (i+1):Nat):Int):=by rw[hacs,wrap_i64 ar ar];omega
  have hjl:((pK g).take i).length=i:=by rw[Ca,hol];omega
  have htk:(pK g).take (i+1)=(pK g).take i++ [((dU g i:Nat):Int)]:=by
   rw[Bn,<-aA8 hlt,Ad,Ab ar];rfl
  have he1:=fun(F:Fr) (id:Nat) (h:aD 27 F= .int .i64 ((dU g i:Nat):Int))=>nQ (t:=3) (z:=.int .i64 0) (x:=.t 27) (F:=F) (id:=id) (k:=.i64) (n:=((dU g i:Nat):Int)) h;refine aA (aK (aA (aJ ?_)));refine dy p5 p6 ?_;refine fN (he1 _ _ (ap)) ?_;intro U u1 u2 u3;try refine am ?_
  have⟨v',V,eA,gA,bA,nA,kA⟩:=fY.push (bytes:=8) (S0:=⟨U.h,S1.nx⟩) (S:=U) (t:=X.nx) (w:=((dU g i:Nat):Int)) (hg.step u1) ⟨by show S1.nx<=U.nx;have:=hX.1;omega,fun _ _=>rfl⟩ u3 (by rw[hjl];unfold room;omega) (by rw[hjl];unfold room;omega);rw[<-htk] at gA;have hXV:Same S1 V:=⟨au hX.1,fun c hc=>(kA c (au hX.1) fun e=>by have:=(hg.blk e).1;omega).trans ((u1.2 c (au hX.1)).trans (hX.2 c hc))⟩;have gV:=(hXV.2 _ lgb).trans g1;obtain⟨_,ib,iq,i1,i2,_,rfl,_,i3⟩:=aE.at (aE.same (E:=bP) bK hi (s1.trans hXV)) ay (pJ hlt);have i4:=i3 1 _ rfl;refine fI (fun call=>by refine dx @gO ?_;exact eA) ?_;refine am ?_;refine aJ ?_;simp only[↓sU,sD,rE,↓reduceIte,rA,p2,p6,p7,aC,aB,fH gV,aH,i1,i4,w2];refine aJ (dn p7 w1 ?_);exact⟨k - 1,ar,rfl,hXV,i+1,v',ar,by exact gA,by refine⟨?_,?_,?_,?_,?_,?_⟩<;>simp only[↓sU,sD,rE,↓reduceIte,rA,p1,p2,p4]⟩
 rintro o ⟨F,inr⟩ S2 ⟨rfl,q0,hX,i,fv,hik,hg,p1,p2,p4,p5,p6,p7⟩;simp only at q0 p1 p2 p4 p5 p6;subst q0;obtain rfl:i=g.bj.length:=by omega
 rw[Bb (by rw[hol];exact Ag _)] at hg;have g2:=(hX.2 _ lgb).trans g1;try refine ae ?_
 refine aA (aX (Q:=fun o A' X=>o= .normal/\aQM S2 (dU g g.bj.length) mv fv S.nx 0 A' X) (aA (aJ ?_)) ?_)
 ·refine ae ?_;refine aK (bH (aQM S2 (dU g g.bj.length) mv fv S.nx) ?_ (dU g g.bj.length) _ _ ⟨rfl,dk _,0,.bw,ar,.inl ⟨rfl,rfl,rfl⟩,ah p1,ah p2,ah p4,ah p5,ah p6,ag⟩);clear p1 p2 p4 p5 p6 p7;rintro k ⟨F,inr⟩ X ⟨q0,hX2,x,v,hxk,hgx,p1,p2,p4,p5,p6,p8⟩;simp only at q0 p1 p2 p4 p5 p6 p8;subst q0;refine fC (dn p6 p8 ?_);by_cases hlt:x<dU g g.bj.length;rotate_left
  ·refine aM (by simp only[↓sU,sD,rE,↓reduceIte,rA,Aa (show ¬ (x:Int)<((dU g g.bj.length:Nat):Int) by omega)]) (bJ ?_);refine ae ?_;obtain rfl:k=0:=by omega
   exact⟨rfl,hX2,x,v,hxk,hgx,by refine⟨?_,?_,?_,?_,?_,?_⟩<;>simp only[↓sU,sD,rE,↓reduceIte,rA,p1,p2,p4,p5,p6,p8]⟩
  refine aN (by simp only[↓sU,sD,rE,↓reduceIte,rA,Ac (show(x:Int)<((dU g g.bj.length:Nat):Int) by omega)]) (aI ?_);try refine ae ?_
  have w1:=dh x
  have hxl:((List.range x).map fun k:Nat=>(k:Int)).length=x:=by rw[Aj,Ay]
  have htk:((List.range (x+1)).map fun k:Nat=>(k:Int))=((List.range x).map fun k:Nat=>(k:Int))++ [(x:Int)]:=by
   rw[List.range_succ,Dz];rfl
  have he1:=fun(F:Fr) (id:Nat) (h:aD 44 F= .int .i64 (x:Int))=>nQ (t:=3) (z:=.int .i64 0) (x:=.t 44) (F:=F) (id:=id) (k:=.i64) (n:=(x:Int)) h;refine aA (aK (aJ ?_));refine dy p4 p8 ?_;refine fN (he1 _ _ (ap)) ?_;intro U u1 u2 u3;try refine am ?_
  have⟨v',V,eA,gA,bA,nA,kA⟩:=fY.push (bytes:=8) (S0:=⟨U.h,S2.nx⟩) (S:=U) (t:=X.nx) (w:=(x:Int)) (hgx.step u1) ⟨by show S2.nx<=U.nx;have:=hX2.1;omega,fun _ _=>rfl⟩ u3 (by rw[hxl];unfold room;omega) (by rw[hxl];unfold room;omega);rw[<-htk] at gA;have hXV:Same S2 V:=⟨au hX2.1,fun c hc=>(kA c (au hX2.1) fun e=>by have:=(hgx.blk e).1;omega).trans ((u1.2 c (au hX2.1)).trans (hX2.2 c hc))⟩;refine fI (fun call=>by refine dx @gO ?_;exact eA) ?_;refine am ?_;refine aJ (dn p8 w1 ?_);exact⟨k - 1,ar,rfl,hXV,x+1,v',ar,by exact gA,by refine⟨?_,?_,?_,?_,?_,?_⟩<;>simp only[↓sU,sD,rE,↓reduceIte,rA,p1,p2,p5,p6]⟩
 clear p1 p2 p4 p5 p6 p7;rintro o ⟨F,inr⟩ B ⟨rfl,q0,hX2,x,ov,hxk,hgo,p1,p2,p4,p5,p6,_⟩;simp only at q0 p1 p2 p4 p5 p6;subst q0;obtain rfl:x=dU g g.bj.length:=by omega
 have s2B:=hX.trans hX2;have lS2:=s1.trans hX;try refine ae ?_
 have hgo':fY 1 S B ov ((List.range (dU g g.bj.length)).map fun k:Nat=>(k:Int)).length (aU ((List.range (dU g g.bj.length)).map fun k:Nat=>(k:Int))):=hgo.low lS2.1;have hPB:PaB S B g L ov fv nv iv mv S.nx:=⟨s1.trans s2B,hn,hi,hm,hg.is.same hX2,fun c hc e=>by have:=(hg.blk hc).2.1;have:=(hgo.blk e).1;omega,(s2B.2 _ lgb).trans g1,au s2B.1,fun e=>by have:=(hgo.blk e).1;have:=hX.1;omega,fun c hc=>⟨by have:=(hgo.blk hc).1;have:=lS2.1;omega,(hgo.blk hc).2.1⟩⟩;refine aA (aX (Q:=fun o A' X=>o= .normal/\∃out,oY ov B X/\fY 1 S X ov out.length (aU out)/\lD (dU g g.bj.length) (iI (dU g g.bj.length) (L.map (pmL g))) out/\aD 4 A'.F=ov/\aD 5 A'.F=fv) (aA (aJ ?_)) ?_)
 ·refine ae ?_;exact aPZ (S:=S) (B:=B) (g:=g) (L:=L) (ov:=ov) (fv:=fv) (nv:=nv) (iv:=iv) (mv:=mv) (gb:=S.nx) H hf0 hL hLn hPB ar hgo' aDf (by refine⟨?_,?_,?_,?_,?_⟩<;>simp only[↓sU,sD,rE,↓reduceIte,rA,p1,p2,p4,p5])
 clear p1 p2 p4 p5 p6;rintro o ⟨F,inr⟩ X ⟨rfl,out,hBX,hgX,hO,p4,p5⟩;simp only at p4 p5;try refine ae ?_
 refine bO (dn p4 p5 ?_);refine aP (ae ?_);exact⟨hPB.sx hBX,ov,fv,out,rfl,hgX.is,eT hPB.f hBX.1 fun c hc=>hBX.2 c (eU hPB.f hc) (hPB.fo c hc),hO⟩
theorem aNh{ops:List AO}{W P:Nat->Prop}{g:aS}{S0 X:St}{F:Fr}{inr:Bool}{gb jb:Nat}{m:LyS}{pv nv iv ps x3 x4 x5:AV}{r:Nat}{Q:Out->bG->St->Prop}(he:ops=aPi++aPO)(hL:qC W P g S0 X m)(hS:S0.nx<=X.nx)(p4:aD 4 F= .ptr jb 0)(p5:aD 5 F= .ptr gb 0)(p14:aD 14 F= .int .i64 (r:Int))
  (gg:X.h.get gb=some (.cells [pv,nv,iv] false 0)) (gj:X.h.get jb=some (.cells [ps,m.na,m.ia,x3,x4,x5] false 0)) (lg:gb<X.nx) (hjb:W jb) (hi:aE 2 bP X iv g.bj) (hr:r<g.bj.length) (hv:m.da.length<=100000)
  (hQ:∀F' Z ia',(∀j,j<65->aD j F'=aD j F)->qC W P g S0 Z {m with ia:=ia',da:=m.da++ [r]}->gL W m X {m with ia:=ia',da:=m.da++ [r]} Z->Z.h.get jb=some (.cells [ps,m.na,ia',x3,x4,x5] false 0)->(∀c,c<X.nx->W c->c≠jb->Z.h.get c=X.h.get c)->Q .normal ⟨F',inr⟩ Z):iM fns (.drw ops) ⟨F,inr⟩ X Q:=by
 have hlen:ops.length=17:=by rw[he];rfl
 have ljb:jb<X.nx:=(hL.wg jb hjb).2;have sia:=hL.inf.self;have siv:=aE.self hi;obtain⟨_,qb,qq,i1,lqb,_,rfl,i3,_⟩:=aE.at hi ay (pJ hr);have hs2:cE (.agg [.int .i64 (cd g (r:Int)).player,.int .i64 (cd g (r:Int)).bt]) (.agg [.int .i64 (cd g (r:Int)).player,.int .i64 (cd g (r:Int)).bt])=true:=aB8 (dH ..) (dH ..);refine aDJ 4094 (W:=fun _=>False) (K:=12) (R:=fun F' Z ps=>ps= [⟨11,X.nx+11,.cells [.int .i64 (cd g (r:Int)).player,.int .i64 (cd g (r:Int)).bt] false 0⟩]/\Z.h=X.h/\Z.nx=X.nx+17/\(∀j,j<65->aD j F'=aD j F)/\aD 65 F'= .ptr jb 0/\aD 70 F'=m.ia/\aD 76 F'= .sl (X.nx+11) 0 1 1 false) he rfl rfl rfl (fun X1 x1 hh1 nn1=>?_) ?_
 ·have he1:=fun(F:Fr) (id:Nat) (h:aD 75 F= .agg [.int .i64 (cd g (r:Int)).player,.int .i64 (cd g (r:Int)).bt])=>aI1 (t:=48) (z0:=.int .i64 0) (z1:=.int .i64 0) (x:=.t 75) (F:=F) (id:=id) h;unfold aPi;simp only[↓sU,sD,rE,↓reduceIte,rA,p4,p5,p14,bN,cD,bM,aC,aQ,aB,cV gj,fH gg,sia,siv,lg,ljb,lqb,Ak,aH,i1,i3,hs2,he1];refine⟨hh1,by rw[nn1,hlen],fun j hj=>?_⟩
  repeat rw[if_neg ar]
 rintro F' S' ps' hs' ls ⟨rfl,hZ,nZ,hk,p65,pA,pB⟩ hlast hld;obtain⟨U,hU⟩:∃U:St,U=⟨S'.h.set (X.nx+11) (some (.cells [.int .i64 (cd g (r:Int)).player,.int .i64 (cd g (r:Int)).bt] false 0)),S'.nx⟩:=⟨_,rfl⟩;have nU:U.nx=X.nx+17:=by rw[hU];exact nZ
 have sUx:Same X U:=⟨ar,fun c hc=>by rw[hU];simp only;rw[di,if_neg ar,hZ]⟩;have gU:U.h.get (X.nx+11)=some (.cells [.int .i64 (cd g (r:Int)).player,.int .i64 (cd g (r:Int)).bt] false 0):=by rw[hU];simp only;rw[di,if_pos rfl]
 have hLU:=hL.same sUx;have⟨v',V,eA,aV,nV,kV,bV⟩:=hLU.inf.push (bytes:=16) (x:=.sl (X.nx+11) 0 1 1 false) (a:=cd g (r:Int)) ay ar rfl (aNk gU rfl) rfl (show aNF [.int .i64 (cd g (r:Int)).player,.int .i64 (cd g (r:Int)).bt] (cd g (r:Int)) from rfl) (by rw[Aj];unfold room;omega) (by rw[Aj];unfold room;omega);have⟨kP,kM⟩:=hLU.pushI nV kV bV aV;have gjV:V.h.get jb=some (.cells [ps,m.na,m.ia,x3,x4,x5] false 0):=(kV jb ar fun e=>hLU.d2 jb e hjb).trans ((sUx.2 jb ljb).trans gj);unfold aPO;refine jZ (v:=v') (S1:=V) hlast (fun call=>?_) ?_
 ·rw[cP (show Nat.testBit 4094 11=true by decide),gO];simp only[fE,pA,pB];rw[<-hU];exact eA
 rw[cP (show Nat.testBit 4094 11=true by decide)];simp only[lM,eC,bN,bM,cD,aC,aB,aQ,aL,bB,fE,bF,eF,bS,p65,rE,↓reduceIte,rA];have gAc:v'.cells=some [v']:=aV.cells;refine jZ (v:=.undef) (S1:=⟨V.h.set jb (some (.cells [ps,m.na,v',x3,x4,x5] false 0)),V.nx⟩) (show Nat.testBit 65535 12=true by decide) (fun call=>?_) ?_
 ·rw[dS];simp only[fE,bS,rE,↓reduceIte,bF,gAc,aL];exact stc (cs:=[ps,m.na,m.ia,x3,x4,x5]) (p:=2) (S:=V) gjV (by simp)
 rw[gG];refine⟨?_,?_⟩
 ·simp only[Bz,Cj,Dw,Ck,Cg];exact hld _ _
 ·simp only[bF,eF];have kS:∀c,c≠jb->(V.h.set jb (some (.cells [ps,m.na,v',x3,x4,x5] false 0))).get c=V.h.get c:=fun c hc=>by rw[di,if_neg hc]
  refine hQ _ _ v' (fun j hj=>?_) (kP.local (Ag _) fun c _ hc _=>kS c fun e=>hc (by rw[e];exact hjb)) (((gL.same sUx).trans kM).trans (.off (Ag _) fun c _ hp=>kS c fun e=>hp.1 (by rw[e];exact hjb))) fk fun c hc hw hne=>?_
  ·simp only[bS];rw[if_neg ar,if_neg ar,if_neg ar,if_neg ar];exact hk j hj
  ·simp only;rw[kS c hne];exact(kV c ar fun e=>hLU.d2 c e hw).trans (sUx.2 c hc)
theorem aOl{ops:List AO}{W P:Nat->Prop}{g:aS}{S0 X:St}{F:Fr}{inr:Bool}{yb jb:Nat}{m:LyS}{a:dP}{rw' rp ps x3 x4 x5:AV}{Q:Out->bG->St->Prop}(he:ops=aPE++aO8)(hL:qC W P g S0 X m)(hS:S0.nx<=X.nx)(p4:aD 4 F= .ptr jb 0)(p12:aD 12 F= .ptr yb 0)
  (gy:X.h.get yb=some (.cells [.int .i64 a.kind,.int .i64 a.player,.int .i64 a.info,.bw,rw',rp] false 0)) (gj:X.h.get jb=some (.cells [ps,m.na,m.ia,x3,x4,x5] false 0)) (lyb:yb<X.nx) (hjb:W jb) (iw:bI .i64 X rw' a.weights) (ip:bI .i64 X rp a.pay) (hwp:∀c,(aZ rw'=some c\/aZ rp=some c)->pI W m c/\P c) (ha:a.next= []) (hv:m.l.length<=100000)
  (hQ:∀F' Z na',(∀j,j<121->aD j F'=aD j F)->qC W P g S0 Z {m with na:=na',l:=m.l++ [(a,.bw)]}->gL W m X {m with na:=na',l:=m.l++ [(a,.bw)]} Z->Z.h.get jb=some (.cells [ps,na',m.ia,x3,x4,x5] false 0)->(∀c,c<X.nx->W c->c≠jb->Z.h.get c=X.h.get c)->Q .normal ⟨F',inr⟩ Z):iM fns (.drw ops) ⟨F,inr⟩ X Q:=by
 have hlen:ops.length=13:=by rw[he];rfl
 have ljb:jb<X.nx:=(hL.wg jb hjb).2;have sna:=hL.nod.self;have sx:=wS (k:=.i64) (x0:=a.kind) (x1:=a.player) (x2:=a.info) (show cE .bw .bw=true from rfl) (bI.self iw) (bI.self ip);have lyy:=jM (n:=6) gy rfl;refine aDJ 254 (W:=fun _=>False) (K:=8) (R:=fun F' Z ps=>ps= [⟨7,X.nx+7,.cells [.int .i64 a.kind,.int .i64 a.player,.int .i64 a.info,.bw,rw',rp] false 0⟩]/\Z.h=X.h/\Z.nx=X.nx+13/\(∀j,j<121->aD j F'=aD j F)/\aD 121 F'= .ptr jb 0/\aD 126 F'=m.na/\aD 128 F'= .sl (X.nx+7) 0 1 1 false) he rfl rfl rfl (fun X1 x1 hh1 nn1=>?_) ?_
 ·have he1:=fun(F:Fr) (id:Nat) (h:aD 127 F= .agg [.int .i64 a.kind,.int .i64 a.player,.int .i64 a.info,.bw,rw',rp])=>aMp (t:=64) (z0:=.int .i64 0) (z1:=.int .i64 0) (z2:=.int .i64 0) (z3:=.bw) (z4:=.bw) (z5:=.bw) (x:=.t 127) (F:=F) (id:=id) h;unfold aPE;simp only[↓sU,sD,rE,↓reduceIte,rA,p4,p12,bN,cD,bM,aC,aQ,aB,dK gj,lyy,sna,sx,lyb,ljb,Ak,he1];refine⟨hh1,by rw[nn1,hlen],fun j hj=>?_⟩
  repeat rw[if_neg ar]
 rintro F' S' ps' hs' ls ⟨rfl,hZ,nZ,hk,p121,pA,pB⟩ hlast hld;obtain⟨U,hU⟩:∃U:St,U=⟨S'.h.set (X.nx+7) (some (.cells [.int .i64 a.kind,.int .i64 a.player,.int .i64 a.info,.bw,rw',rp] false 0)),S'.nx⟩:=⟨_,rfl⟩;have nU:U.nx=X.nx+13:=by rw[hU];exact nZ
 have sUx:Same X U:=⟨ar,fun c hc=>by rw[hU];simp only;rw[di,if_neg ar,hZ]⟩;have gU:U.h.get (X.nx+7)=some (.cells [.int .i64 a.kind,.int .i64 a.player,.int .i64 a.info,.bw,rw',rp] false 0):=by rw[hU];simp only;rw[di,if_pos rfl]
 have hLU:=hL.same sUx;have⟨v',V,eA,aV,nV,kV,bV⟩:=hLU.nod.push (bytes:=96) (x:=.sl (X.nx+7) 0 1 1 false) (a:=(a,AV.bw)) ay ar rfl (aNk gU rfl) rfl ⟨rw',rp,rfl,.inl ⟨rfl,by rw[ha];rfl,by rw[ha];rfl⟩,iw.same sUx,ip.same sUx,hwp⟩ ax ax;have⟨kP,kM⟩:=hLU.pushN nV kV bV aV;have gjV:V.h.get jb=some (.cells [ps,m.na,m.ia,x3,x4,x5] false 0):=(kV jb ar fun e=>(hLU.d1 jb e).1 hjb).trans ((sUx.2 jb ljb).trans gj);unfold aO8;refine jZ (v:=v') (S1:=V) hlast (fun call=>?_) ?_
 ·rw[cP (show Nat.testBit 254 7=true by decide),gO];simp only[fE,pA,pB];rw[<-hU];exact eA
 rw[cP (show Nat.testBit 254 7=true by decide)];simp only[lM,eC,bN,bM,cD,aC,aB,aQ,aL,bB,fE,bF,eF,bS,p121,rE,↓reduceIte,rA];have gAc:v'.cells=some [v']:=aV.cells;refine jZ (v:=.undef) (S1:=⟨V.h.set jb (some (.cells [ps,v',m.ia,x3,x4,x5] false 0)),V.nx⟩) (show Nat.testBit 4095 8=true by decide) (fun call=>?_) ?_
 ·rw[dS];simp only[fE,bS,rE,↓reduceIte,bF,gAc,aL];exact stc (cs:=[ps,m.na,m.ia,x3,x4,x5]) (p:=1) (S:=V) gjV (by simp)
 rw[gG];refine⟨?_,?_⟩
 ·simp only[Bz,Cj,Dw,Ck,Cg];exact hld _ _
 ·simp only[bF,eF];have kS:∀c,c≠jb->(V.h.set jb (some (.cells [ps,v',m.ia,x3,x4,x5] false 0))).get c=V.h.get c:=fun c hc=>by rw[di,if_neg hc]
  refine hQ _ _ v' (fun j hj=>?_) (kP.local (Ag _) fun c _ hc _=>kS c fun e=>hc (by rw[e];exact hjb)) (((gL.same sUx).trans kM).trans (.off (Ag _) fun c _ hp=>kS c fun e=>hp.1 (by rw[e];exact hjb))) fk fun c hc hw hne=>?_
  ·simp only[bS];rw[if_neg ar,if_neg ar,if_neg ar,if_neg ar];exact hk j hj
  ·simp only;rw[kS c hne];exact(kV c ar fun e=>(hLU.d1 c e).1 hw).trans (sUx.2 c hc)
theorem aN7{W P:Nat->Prop}{g:aS}{S0 X:St}{F:Fr}{inr:Bool}{jb i:Nat}{m:LyS}{a:dP}{v ps x3 x4 x5:AV}{ops:List AO}{Q:Out->bG->St->Prop}(he:ops=aOw++aNx)(hL:qC W P g S0 X m)(hS:S0.nx<=X.nx)(hi:m.l[i]? =some (a,v))(ha:a.next.length<=100000)(p4:aD 4 F= .ptr jb 0)(p11:aD 11 F= .int .i64 (i:Int))
  (gj:X.h.get jb=some (.cells [ps,m.na,m.ia,x3,x4,x5] false 0)) (hjb:W jb)
  (hQ:∀F' Z v',(∀j,j<139->aD j F'=aD j F)->qC W P g S0 Z {m with l:=m.l.set i ({a with next:=a.next++ [(m.l.length:Int)]},v')}->gL W m X {m with l:=m.l.set i ({a with next:=a.next++ [(m.l.length:Int)]},v')} Z->(∀c,c<X.nx->W c->Z.h.get c=X.h.get c)->Q .normal ⟨F',inr⟩ Z):iM fns (.drw ops) ⟨F,inr⟩ X Q:=by
 subst he;obtain⟨w,hw⟩:∃w:Int,w=(m.l.length:Int):=⟨_,rfl⟩;have ljb:jb<X.nx:=(hL.wg jb hjb).2;have sna:=hL.nod.self;have hnl:=hL.nod.len;rw[<-hw] at hnl;rw[<-hw] at hQ;have⟨b,p,k1,k2,k3,k4,hG⟩:=hL.row_at hi;have hrow:=fun {c} (hc:aZ v=some c)=>hL.row_of hi hc;have n1:aZ v≠some jb:=fun e=>(hrow e).2.1 hjb;have nb:aZ v≠some b:=fun e=>(hrow e).2.2.1 k2;have srv:=hG.self;have he1:=fun(F:Fr) (id:Nat) (h:aD 159 F= .int .i64 w)=>nQ (t:=3) (z:=.int .i64 0) (x:=.t 159) (F:=F) (id:=id) (k:=.i64) (n:=w) h;refine nI (W:=fun c=>aZ v=some c) (pre:=aOw) (suf:=aNx) (K:=25) (R:=fun F' V ps=>ps= []/\(∀j,j<139->aD j F'=aD j F)/\aD 163 F'= .ptr b (p+3)/\∃rv',aD 161 F'=rv'/\X.nx<=V.nx/\(∀c,c<X.nx->aZ v≠some c->V.h.get c=X.h.get c)/\fY 1 S0 V rv' (a.next++ [w]).length (aU (a.next++ [w]))/\∃b',aZ rv'=some b'/\X.nx<=b'/\b'<V.nx) rfl rfl rfl (fun X1 x1 hh1 nn1=>?_) ?_
 ·unfold aOw;simp only[↓sU,sD,rE,↓reduceIte,rA,p4,p11,bN,cD,bM,aC,aQ,aB,dK gj,hnl,k1,k4,ljb,k3,n1,nb,Ak,sna,srv,aH,he1];have hf1:cJ 4194240 [⟨21,X.nx+21,.cells [.int .i64 w] false 0⟩] X1.h=([],X1.h.set (X.nx+21) (some (.cells [.int .i64 w] false 0))):=cP (m:=4194240) rfl;have nX1:X.nx+26<=X1.nx:=by rw[nn1];exact Ag _
  obtain⟨U,hU⟩:∃U:St,U=⟨X1.h.set (X.nx+21) (some (.cells [.int .i64 w] false 0)),X1.nx⟩:=⟨_,rfl⟩;have nU:U.nx=X1.nx:=by rw[hU]
  have kU:∀c,c<X.nx->U.h.get c=X.h.get c:=fun c hc=>by rw[hU];simp only;rw[di,if_neg ar,hh1]
  have sUu:Same X U:=⟨ar,kU⟩;have gU:U.h.get (X.nx+21)=some (.cells [.int .i64 w] false 0):=by rw[hU];simp only;rw[di,if_pos rfl]
  have hGU:=hG.step sUu;have⟨rv',V,eA,gA,bA,nA,rA⟩:=fY.push (bytes:=8) (S0:=⟨U.h,S0.nx⟩) (S:=U) (t:=X.nx+21) (w:=w) hGU ⟨by show S0.nx<=U.nx;omega,fun _ _=>rfl⟩ gU ax ax;refine lQ (r:=rv') (S1:=V) rfl ?_ ?_ ?_
  ·refine ae ?_;rw[hf1,<-hU];exact eA
  ·rw[hf1,<-hU];exact⟨ar,fun c hc hcm=>rA c ar hcm⟩
  rw[hf1];refine dt @aH k1 @aC @aQ @aB @Ak ?_;refine⟨fun j hj=>?_,rv',rfl,ar,fun c hc hcm=>(rA c ar hcm).trans (kU c hc),by exact gA,U.nx,bA,ar,ar⟩
  repeat rw[if_neg ar]
 ·rintro F' V ps' hs' ls ⟨rfl,hk,p163,rv',p161,nV,kV,gV,b',hb1,hb2,hb3⟩ hlast hld;have m1:∀i,i<25->Nat.testBit 33554431 i=true:=by decide
  have hrc:rv'.cells=some [rv']:=fY.cells gV;have⟨bb,pp,Z,z1,z2,z3,z4,z5,z6,z7,z8⟩:=hL.row (v':=rv') (w:=w) (X':=V) hi nV kV gV fun c hc=>by rw[hb1] at hc;cases hc;exact hb2
  rw[k1] at z1;cases z1;unfold aNx;refine jZ (v:=.undef) (S1:=Z) (hlast _ m1) (fun call=>?_) ?_
  ·rw[dS];simp only[fE,p163,p161,bF,hrc,aL];exact z4
  rw[gG];refine⟨?_,?_⟩
  ·simp only[Bz];exact hld _ _ _ m1
  ·simp only[bF,eF];refine hQ _ _ rv' hk z7 z8 fun c hc hwc=>?_;rw[z6 c fun e=>(hL.d1 b k2).1 (by rw[<-e];exact hwc)];exact kV c hc fun e=>(hrow e).2.1 hwc
theorem aMP{S S':St}{b:Nat}{r:AV}{l:ba}(lb:b<S'.nx)(hb:S'.h.get b=some (.cells [] false 0))(h:(l= []/\r= .sl b 0 0 0 false/\S'=S)\/(fY 1 S S' r l.length (aU l)/\l≠ [])):bI .i64 S' r l/\r.cells=some [r]/\∀c,aZ r=some c->c=b\/S.nx<=c:=by
 rcases h with⟨rfl,rfl,rfl⟩ | ⟨h,_⟩
 ·exact⟨.inr ⟨b,0,0,false,[],rfl,Ag _,lb,by unfold cK;rw[hb];rfl,fun i x hi=>by simp at hi⟩,rfl,fun c hc=>by cases hc;exact .inl rfl⟩
 ·exact⟨h.is,h.cells,fun c hc=>.inr (h.blk hc).1⟩
def YnR(W:St)(F:Fr)(k p:AV)(lw lp:ba)(F':Fr)(Z:St)(ps:List iQ):Prop:=ps= [⟨13,W.nx+13,.cells [.int .i64 0,.int .i64 0,.int .i64 0,.bw,.bw,.bw] false 0⟩]/\Same W Z/\W.nx+15<=Z.nx/\(∀j,j<35->j≠12->aD j F'=aD j F)/\aD 12 F'= .ptr (W.nx+13) 0/\∃r1 r2,aD 47 F'= .agg [k,p,.int .i64 0,.bw,r1,r2]/\bI .i64 Z r1 lw/\bI .i64 Z r2 lp/\∀c,(aZ r1=some c\/aZ r2=some c)->W.nx<=c/\c≠W.nx+13
theorem aNQ{W Y:St}{F:Fr}{xb:Nat}{k p:Int}{f xa xw xp:AV}{lw lp:ba}(p10:aD 10 F= .ptr xb 0)(hb:W.h.get xb=some (.cells [.int .i64 k,.int .i64 p,f,xa,xw,xp] false 0))(lb:xb<W.nx)(h2:bI .i64 W xw lw)(h3:bI .i64 W xp lp)(b2:lw.length<=100000)(b3:lp.length<=100000)
  (hY:Same W Y) (nY:Y.nx=W.nx+15):fF fns (fun _=>False) W.h W.nx ynP 0 F Y [] none (YnR W F (.int .i64 k) (.int .i64 p) lw lp):=by
 have s2:=bI.self h2;have s3:=bI.self h3;unfold ynP;simp only[↓sU,sD,rE,↓reduceIte,rA,p10,aC,aQ,aB,eK hb,dK hb,dF hb,lb,Ak,s2,rG];obtain⟨U1,hU1⟩:∃U:St,U=⟨Y.h.set (W.nx+4) (some (.cells [] false 0)),Y.nx⟩:=⟨_,rfl⟩;have sU1:Same W U1:=by rw[hU1];exact⟨hY.1,fun c hc=>by simp only;rw[di,if_neg ar];exact hY.2 c hc⟩
 have gU1:U1.h.get (W.nx+4)=some (.cells [] false 0):=by rw[hU1];simp only;rw[di,if_pos rfl]
 have nU1:U1.nx=W.nx+15:=by rw[hU1];exact nY
 have⟨r1,V1,e1,v1,q1⟩:=aAD gU1 (h2.same sU1) b2;have gV1:=(v1.2 _ ar).trans gU1;have⟨i1,c1,k1⟩:=aMP (au v1.1) gV1 q1;refine lQ rfl (by rw[cP rfl];refine ae ?_;rw[<-hU1];exact e1) ?_ ?_
 ·rw[cP rfl,<-hU1];exact⟨v1.1,fun c hc _=>v1.2 c ar⟩
 rw[cP rfl];have sV1:=sU1.trans v1;simp only[↓sU,sD,rE,↓reduceIte,rA,p10,aC,aQ,aB,dZ hb,lb,Ak,s3,rG];obtain⟨U2,hU2⟩:∃U:St,U=⟨V1.h.set (W.nx+8) (some (.cells [] false 0)),V1.nx⟩:=⟨_,rfl⟩;have sU2:Same W U2:=by rw[hU2];exact⟨sV1.1,fun c hc=>by simp only;rw[di,if_neg ar];exact sV1.2 c hc⟩
 have gU2:U2.h.get (W.nx+8)=some (.cells [] false 0):=by rw[hU2];simp only;rw[di,if_pos rfl]
 have nU2:U2.nx=V1.nx:=by rw[hU2]
 have nV1:=v1.1;have i1U:bI .i64 U2 r1 lw:=eT i1 ar fun c hc=>by
  rw[hU2];simp only;rw[di,if_neg (by rcases k1 c hc with h | h<;>omega)]
 have⟨r2,V2,e2,v2,q2⟩:=aAD gU2 (h3.same sU2) b3;have gV2:=(v2.2 _ ar).trans gU2;have⟨i2,c2,k2⟩:=aMP (au v2.1) gV2 q2;refine lQ rfl (by rw[cP rfl];refine ae ?_;rw[<-hU2];exact e2) ?_ ?_
 ·rw[cP rfl,<-hU2];exact⟨v2.1,fun c hc _=>v2.2 c ar⟩
 rw[cP rfl];have nV2:=v2.1;have hB:∀ (F:Fr) (h:Ev.T AB),aD 36 F= .int .i64 k->aD 38 F= .int .i64 p->aD 42 F=r1->aD 46 F=r2->gM (.build [.int .i64 0,.int .i64 0,.int .i64 0,.bw,.bw,.bw] [(0,1,.t 36),(1,1,.t 38),(4,1,.t 42),(5,1,.t 46)]) F h=some (.agg [.int .i64 k,.int .i64 p,.int .i64 0,.bw,r1,r2]):=fun F h h1 h2 h3 h4=>by
  show(bC (eQ _ (eH F [(0,1,.t 36),(1,1,.t 38),(4,1,.t 42),(5,1,.t 46)])) fun cs=>some (AV.agg cs))=_;simp only[eH,show(cO.t 36).val F= .int .i64 k from h1,show(cO.t 38).val F= .int .i64 p from h2,show(cO.t 42).val F=r1 from h3,show(cO.t 46).val F=r2 from h4,eQ,cR,c1,c2,aL];rfl
 refine dp hB @iW @oS ?_;refine⟨rfl,sU2.trans v2,ar,fun j hj hj2=>?_,af,r1,r2,af,i1U.same v2,i2,fun c hc=>?_⟩
 ·simp only[bS]
  repeat rw[if_neg ar]
 ·rcases hc with hc | hc
  ·rcases k1 c hc with h | h<;>omega
  ·rcases k2 c hc with h | h<;>omega
theorem aP4{ops:List AO}{W:St}{F:Fr}{inr:Bool}{xb:Nat}{k p:Int}{f xa xw xp:AV}{lw lp:ba}{Q:Out->bG->St->Prop}(he:ops=ynP++ynX)(p10:aD 10 F= .ptr xb 0)(hb:W.h.get xb=some (.cells [.int .i64 k,.int .i64 p,f,xa,xw,xp] false 0))(lb:xb<W.nx)(h2:bI .i64 W xw lw)(h3:bI .i64 W xp lp)(b2:lw.length<=100000)(b3:lp.length<=100000)
  (hQ:∀F' Z r1 r2 yb,(∀j,j<35->j≠12->aD j F'=aD j F)->aD 12 F'= .ptr yb 0->Same W Z->W.nx<=yb->yb<Z.nx->Z.h.get yb=some (.cells [.int .i64 k,.int .i64 p,.int .i64 0,.bw,r1,r2] false 0)->bI .i64 Z r1 lw->bI .i64 Z r2 lp->(∀c,(aZ r1=some c\/aZ r2=some c)->W.nx<=c/\c≠yb)->Q .normal ⟨F',inr⟩ Z):iM fns (.drw ops) ⟨F,inr⟩ W Q:=by
 have hlen:ops.length=15:=by rw[he];rfl
 refine nI (K:=14) (R:=YnR W F (.int .i64 k) (.int .i64 p) lw lp) he rfl rfl (fun S1 s h n=>aNQ p10 hb lb h2 h3 b2 b3 s (by rw[n,hlen])) ?_;rintro F' S' ps hs ls ⟨rfl,sZ,nZ,hk,p12,r1,r2,p47,i1,i2,hbk⟩ hlast hld;have m1:∀i,i<14->Nat.testBit 16383 i=true:=by decide
 unfold ynX;refine jZ (v:=.undef) (S1:=⟨(S'.h.set (W.nx+13) (some (.cells [.int .i64 0,.int .i64 0,.int .i64 0,.bw,.bw,.bw] false 0))).set (W.nx+13) (some (.cells [.int .i64 k,.int .i64 p,.int .i64 0,.bw,r1,r2] false 0)),S'.nx⟩) (hlast _ m1) (fun call=>?_) ?_
 ·rw[cP (show Nat.testBit 16383 13=true by decide),dS];simp only[fE,p12,p47,aY,aL];exact kH (S:=⟨S'.h.set (W.nx+13) (some (.cells [.int .i64 0,.int .i64 0,.int .i64 0,.bw,.bw,.bw] false 0)),S'.nx⟩) (n:=6) fk rfl rfl
 rw[cP (show Nat.testBit 16383 13=true by decide)];rw[gG];refine⟨?_,?_⟩
 ·simp only[Bz];exact hld _ _ _ m1
 ·simp only[bF,eF];have kS:∀c,c≠W.nx+13->((S'.h.set (W.nx+13) (some (.cells [.int .i64 0,.int .i64 0,.int .i64 0,.bw,.bw,.bw] false 0))).set (W.nx+13) (some (.cells [.int .i64 k,.int .i64 p,.int .i64 0,.bw,r1,r2] false 0))).get c=S'.h.get c:=fun c hc=>by rw[di,if_neg hc,di,if_neg hc]
  refine hQ _ _ r1 r2 (W.nx+13) hk p12 ⟨sZ.1,fun c hc=>(kS c ar).trans (sZ.2 c hc)⟩ ar (by show W.nx+13<S'.nx;omega) fk (eT i1 (Ag _) fun c hc=>kS c (hbk c (.inl hc)).2) (eT i2 (Ag _) fun c hc=>kS c (hbk c (.inr hc)).2) fun c hc=>hbk c hc
theorem aPz{ops:List AO}{X:St}{F:Fr}{inr:Bool}{gb kb kq:Nat}{pv nv iv v13 fv ov jv:AV}{j:Nat}{c:Int}{Q:Out->bG->St->Prop}(he:ops=clP++clX)(p5:aD 5 F= .ptr gb 0)(p13:aD 13 F=v13)(p16:aD 16 F= .int .i64 (j:Int))(p2:aD 2 F=fv)(p3:aD 3 F=ov)(p4:aD 4 F=jv)(gg:X.h.get gb=some (.cells [pv,nv,iv] false 0))(lg:gb<X.nx)(sg:cE (.agg [pv,nv,iv]) (.agg [pv,nv,iv])=true)(i1:dO (.slice 1) v13 j=some (.ptr kb kq))(lk:kb<X.nx)(i3:dT (.ptr kb kq) false 1 X.h=some (.int .i64 c))
  (hc:fZ fns (.fn 141 [] []) [.agg [pv,nv,iv],.int .i64 c,fv,ov,jv] ⟨X.h,X.nx+9⟩ fun _ Z=>∀F',(∀j,j<164->aD j F'=aD j F)->Q .normal ⟨F',inr⟩ Z):iM fns (.drw ops) ⟨F,inr⟩ X Q:=by
 have hlen:ops.length=9:=by rw[he];rfl
 refine nI (W:=fun _=>False) (K:=8) (R:=fun F' Z ps=>ps= []/\Z=⟨X.h,X.nx+9⟩/\(∀j,j<164->aD j F'=aD j F)/\aD 164 F'= .agg [pv,nv,iv]/\aD 168 F'= .int .i64 c/\aD 169 F'=fv/\aD 170 F'=ov/\aD 171 F'=jv) he rfl rfl (fun X1 x1 hh1 nn1=>?_) ?_
 ·unfold clP;simp only[↓sU,sD,rE,↓reduceIte,rA,p2,p3,p4,p5,p13,p16,eJ gg,lg,lk,sg,Ak,aH,i1,i3];refine⟨by rw[<-hh1,<-hlen,<-nn1],fun j hj=>?_⟩
  repeat rw[if_neg ar]
 rintro F' S' ps hs' ls ⟨rfl,rfl,hk,q1,q2,q3,q4,q5⟩ hlast hld;have m1:∀i,i<8->Nat.testBit 255 i=true:=by decide
 unfold clX;refine xQ (hlast _ m1) ?_;refine dt q1 q2 q3 q4 q5 @bF ?_;refine aW hc ?_;intro v Z hQ;rw[gG];refine⟨?_,?_⟩
 ·simp only[Bz];exact hld _ _ _ m1
 ·simp only[bF];exact hQ _ fun j hj=>by rw[bS,if_neg ar];exact hk j hj
def ofL(n:Nat)(da:bg):ba:=(List.range n).map fun r=>if r∈da then((da.idxOf r+1:Nat):Int) else 0
theorem pC{n:Nat}{da:bg}:(ofL n da).length=n:=by unfold ofL;rw[Aj,Ay]
theorem aBY{n r:Nat}{da:bg}(h:r<n):(ofL n da).getD r 0=if r∈da then((da.idxOf r+1:Nat):Int) else 0:=by
 unfold ofL;rw[Ad,Am,Bf h];rfl
theorem aLR{n r:Nat}{da:bg}(h:r<n)(hr:r∉da):ofL n (da++ [r])=(ofL n da).set r ((da.length+1:Nat):Int):=by
 refine oP (by rw[Aq,pC,pC]) fun j hj=>?_;rw[pC] at hj;rw[gJ (by rw[pC];exact h),aBY hj,aBY hj,List.idxOf_append];by_cases e:j=r
 ·subst e;rw[if_pos rfl,if_pos (by simp),if_neg hr];simp
 ·rw[if_neg e];by_cases hq:j∈da
  ·rw[if_pos hq,if_pos (by simp [hq]),if_pos hq]
  ·simp [hq,e]
structure XC where
 (jb ob qb:Nat) (ps x3 nv iv fv av:AV)
def XC.W(C:XC)(c:Nat):Prop:=c=C.jb\/c=C.ob\/c=C.qb
structure pR(C:XC)(P:Nat->Prop)(g:aS)(S0 X:St)(m:LyS)(pl:ba):Prop where
 b:qC C.W P g S0 X m
 gj:X.h.get C.jb=some (.cells [C.ps,m.na,m.ia,C.x3,C.av,.sl C.qb 0 g.bh.length g.bh.length false] false 0)
 go:X.h.get C.ob=some (.cells (aU (ofL g.bj.length m.da)) false 0)
 gq:X.h.get C.qb=some (.cells (aU pl) false 0)
 n1:C.jb≠C.ob/\C.jb≠C.qb/\C.ob≠C.qb
 pll:pl.length=g.bh.length
 s:Same S0 X
section
variable {C:XC}{P P':Nat->Prop}{g:aS}{S0 X X':St}{m m':LyS}{pl:ba}
theorem XC.wj:C.W C.jb:=.inl rfl
theorem XC.wo:C.W C.ob:=.inr (.inl rfl)
theorem XC.wq:C.W C.qb:=.inr (.inr rfl)
theorem pR.same(h:pR C P g S0 X m pl)(hs:Same X X'):pR C P g S0 X' m pl:=
 have w:=h.b.wg
 ⟨h.b.same hs,(hs.2 _ (w _ XC.wj).2).trans h.gj,(hs.2 _ (w _ XC.wo).2).trans h.go,(hs.2 _ (w _ XC.wq).2).trans h.gq,h.n1,h.pll,h.s.trans hs⟩
theorem pR.but{xb:Nat}(h:pR C P g S0 X m pl)(hx:pI C.W m xb)(hp:¬P xb)(hc:S0.nx<=xb)(hs:bT xb X X'):pR C P g S0 X' m pl:=by
 have w:=h.b.wg;have hw:∀ {c},C.W c->c≠xb:=fun hw e=>hx.1 (by rw[<-e];exact hw);have l0:=h.s.1;have k:∀c,c<X.nx->c≠xb->X'.h.get c=X.h.get c:=fun c hl hn=>hs.2 c hl hn;exact⟨h.b.local hs.1 fun c hl _ hpc=>k c hl fun e=>hp (by rw[<-e];exact hpc (by rw[e];exact hx)),(k _ (w _ XC.wj).2 (hw XC.wj)).trans h.gj,(k _ (w _ XC.wo).2 (hw XC.wo)).trans h.go,(k _ (w _ XC.wq).2 (hw XC.wq)).trans h.gq,h.n1,h.pll,⟨Al l0 hs.1,fun c hl=>(k c ar ar).trans (h.s.2 c hl)⟩⟩
theorem pR.mono(h:pR C P g S0 X m pl)(hP:∀c,c<X.nx->P c->P' c):pR C P' g S0 X m pl:=
 ⟨h.b.mono hP,h.gj,h.go,h.gq,h.n1,h.pll,h.s⟩
end
def aQQ(X1:St)(cb n:Nat)(row next:ba)(x2 x3 x4 x5 x10 x11 x12 x13:AV)(k:Nat)(A:bG)(Y:St):Prop:=A.inr=false/\bT cb X1 Y/\∃a,a+k=n/\Y.h.get cb=some (.cells (aU (pL row next a)) true 1)/\aD 2 A.F=x2/\aD 3 A.F=x3/\aD 4 A.F=x4/\aD 5 A.F=x5/\aD 10 A.F=x10/\aD 11 A.F=x11/\aD 12 A.F=x12/\aD 13 A.F=x13/\aD 15 A.F= .int .i64 (a:Int)
theorem aQq{S0 X1:St}{F0:Fr}{jb xb cb s:Nat}{j0 j1 j2 j3 av j5 xa xw xp vk vp x2 x3 x5 x11 x12:AV}{act:a9}{next:ba}(h0:Same S0 X1)(hcb:S0.nx<=cb)(hcl:cb<X1.nx)(hjb:jb≠cb)(hxb:xb≠cb)(ljb:jb<X1.nx)(lxb:xb<X1.nx)(ha:aE 1 iD S0 av act)(hn:bI .i64 S0 xa next)(hnl:next.length<=100000)(hs:s<act.length)(hrl:(act.getD s []).length=next.length)(hrow:∀a,a<next.length->∃b:Nat,(act.getD s []).getD a 0=(b:Int)/\b<next.length)
  (gj:X1.h.get jb=some (.cells [j0,j1,j2,j3,av,j5] false 0)) (gx:X1.h.get xb=some (.cells [vk,vp,.int .i64 (s:Int),xa,xw,xp] false 0)) (gc:X1.h.get cb=some (.cells (aU next) true 1)) (p2:aD 2 F0=x2) (p3:aD 3 F0=x3) (p4:aD 4 F0= .ptr jb 0) (p5:aD 5 F0=x5) (p10:aD 10 F0= .ptr xb 0) (p11:aD 11 F0=x11) (p12:aD 12 F0=x12) (p13:aD 13 F0= .sl cb 0 next.length next.length true) (p15:aD 15 F0= .int .i64 ((0:Nat):Int)):
  iM fns qk7 ⟨F0,false⟩ X1 fun o A' Y=>o= .normal/\aQQ X1 cb next.length (act.getD s []) next x2 x3 (.ptr jb 0) x5 (.ptr xb 0) x11 x12 (.sl cb 0 next.length next.length true) 0 A' Y:=by
 refine aK (bH (aQQ X1 cb next.length (act.getD s []) next x2 x3 (.ptr jb 0) x5 (.ptr xb 0) x11 x12 (.sl cb 0 next.length next.length true)) ?_ next.length _ _ ⟨rfl,bT.refl _ _,0,ar,gc,p2,p3,p4,p5,p10,p11,p12,p13,p15⟩);clear p2 p3 p4 p5 p10 p11 p12 p13 p15;rintro k ⟨F,inr⟩ X ⟨q0,sX,a,hak,gX,p2,p3,p4,p5,p10,p11,p12,p13,p15⟩;simp only at q0 p2 p3 p4 p5 p10 p11 p12 p13 p15;subst q0;have gxX:=(sX.2 _ lxb hxb).trans gx;have gjX:=(sX.2 _ ljb hjb).trans gj;have s0X:Same S0 X:=⟨Al h0.1 sX.1,fun c hc=>(sX.2 c (Ae hc h0.1) ar).trans (h0.2 c hc)⟩;refine fC (du p10 p15 @aC @aB (dC gxX) hn.len @Ah ?_);by_cases hlt:a<next.length;rotate_left
 ·refine aM (by simp only[↓sU,sD,rE,↓reduceIte,rA,Aa (show ¬ (a:Int)<(next.length:Int) by omega)]) (bJ ?_);refine ae ?_;obtain rfl:k=0:=by omega
  exact⟨rfl,sX,a,hak,gX,by refine⟨?_,?_,?_,?_,?_,?_,?_,?_,?_⟩<;>simp only[↓sU,sD,rE,↓reduceIte,rA,p2,p3,p4,p5,p10,p11,p12,p13,p15]⟩
 refine aN (by simp only[↓sU,sD,rE,↓reduceIte,rA,Ac (show(a:Int)<(next.length:Int) by omega)]) (aI ?_);try refine ae ?_
 have w1:=dh a
 have⟨b,hb,hbl⟩:=hrow a hlt;have⟨qb,qq,i1,li,i3⟩:=jB hn hlt;rw[<-iA s0X li] at i3;have⟨rb,rq,ra,r1,r2,r3,r4⟩:=pQ ha hs;have r4:=r4 X s0X;have⟨ub,uq,u1,lu,u3⟩:=jB r2 (i:=a) ar;rw[hb] at u3;rw[<-iA s0X lu] at u3;have hia:=dR (b:=cb) (o:=true) hbl;have l0X:=s0X.1;have lnX:=sX.1;have lj':jb<X.nx:=Ae ljb lnX;have lx':xb<X.nx:=Ae lxb lnX;have lr':rb<X.nx:=by omega
 have lu':ub<X.nx:=by omega
 have lq':qb<X.nx:=by omega
 have nr:rb≠cb:=by omega
 have nu:ub≠cb:=by omega
 have nq:qb≠cb:=by omega
 have sav:=aE.self ha;have sra:=bI.self r2;have sxa:=bI.self hn;refine aA (aK (gS (fun c=>c=cb) ?_));intro S1 s1;simp only[↓sU,sD,rE,↓reduceIte,rA,p4,p10,p13,p15,bN,cD,bM,aC,aQ,aB,dF gjX,cV gxX,dC gxX,aH,r1,r4,u1,u3,i1,i3,hia,lj',lx',lr',lu',lq',hjb,hxb,nr,nu,nq,Ak,sav,sra,sxa];refine uF (p:=b) (w:=next.getD a 0) (P:=pL (act.getD s []) next a) rfl (af) (af) (by rw[s1.2 _ ar];exact gX) (by rw[sI];exact hbl) rfl ?_;intro S2 s2 n2 c2;refine dm @bF ?_;refine aJ (dn p15 w1 ?_);refine⟨k - 1,ar,rfl,⟨by show X1.nx<=S2.nx;have:=s1.1;have:=s2.1;omega,fun c hc hne=>(s2.2 c (au s1.1) hne).trans ((s1.2 c ar).trans (sX.2 c hc hne))⟩,a+1,ar,?_,by refine⟨?_,?_,?_,?_,?_,?_,?_,?_,?_⟩<;>simp only[↓sU,sD,rE,↓reduceIte,rA,p2,p3,p4,p5,p10,p11,p12,p13]⟩;show S2.h.get cb=some (AB.cells (aU ((pL (act.getD s []) next a).set ((act.getD s []).getD a 0).toNat (next.getD a 0))) true 1);rw[hb];exact c2
def LxT(C:XC)(g:aS)(gb:Nat)(F:Fr):Prop:=aD 2 F=C.fv/\aD 3 F= .sl C.ob 0 g.bj.length g.bj.length false/\aD 4 F= .ptr C.jb 0/\aD 5 F= .ptr gb 0
def HdX(C:XC)(P:Nat->Prop)(g:aS)(S0 Xe Xs:St)(m:LyS)(pl first row next:ba)(s gb yb:Nat)(k p r1 r2 v13 x11:AV)(o:Out)(A:bG)(Z:St):Prop:=o= .normal/\A.inr=false/\∃m',pR C P g S0 Z m' pl/\m'.l=m.l/\m'.da=(kR m.da (first.getD s 0).toNat).1/\gL C.W m Xe m' Z/\(Xs.nx<=Z.nx/\∀c,c<Xs.nx->pI C.W m c->c≠yb->aZ v13≠some c->Z.h.get c=Xs.h.get c)/\Z.h.get yb=some (.cells [k,p,.int .i64 ((kR m.da (first.getD s 0).toNat).2:Int),.bw,r1,r2] false 0)/\pI C.W m' yb/\yb<Z.nx/\Z.h.get gb=some (.cells [C.ps,C.nv,C.iv] false 0)/\pI C.W m' gb/\gb<Z.nx/\bI .i64 Z v13 (pL row next next.length)/\(∀c,aZ v13=some c->pI C.W m' c)/\(∀c,(aZ r1=some c\/aZ r2=some c)->pI C.W m' c)/\LxT C g gb A.F/\aD 11 A.F=x11/\aD 12 A.F= .ptr yb 0/\aD 13 A.F=v13
theorem aPB{C:XC}{P:Nat->Prop}{g:aS}{S0 Xe X:St}{m:LyS}{pl first:ba}{act:a9}{F:Fr}{s gb xb yb cb:Nat}{k p xa xw xp r1 r2 x11:AV}{next:ba}(hS:pR C P g S0 X m pl)(hPy:¬P yb)(hPc:¬P cb)(hXe:gL C.W m Xe m X)(hey:Xe.nx<=yb)(hec:Xe.nx<=cb)(hcb:S0.nx<=cb)(hyb:S0.nx<=yb)(nyc:yb≠cb)(nxc:xb≠cb)(nxy:xb≠yb)(ngc:gb≠cb)(ngy:gb≠yb)(pgb:pI C.W m gb)(pxb:pI C.W m xb)(pyb:pI C.W m yb)(pcb:pI C.W m cb)(lgb:gb<X.nx)(lxb:xb<X.nx)(lyb:yb<X.nx)(lcb:cb<X.nx)
  (hr12:∀c,(aZ r1=some c\/aZ r2=some c)->pI C.W m c/\c<X.nx)
  (ha:aE 1 iD S0 C.av act) (hf:bI .i64 S0 C.fv first) (hi:aE 2 bP S0 C.iv g.bj) (hn:bI .i64 S0 xa next) (hnl:next.length<=100000) (hs:s<act.length) (hs':s<first.length) (hrl:(act.getD s []).length=next.length) (hrow:∀a,a<next.length->∃b:Nat,(act.getD s []).getD a 0=(b:Int)/\b<next.length) (hfr:∃r:Nat,first.getD s 0=(r:Int)/\r<g.bj.length) (hreps:m.da.length<=100000)
  (gx:X.h.get xb=some (.cells [k,p,.int .i64 (s:Int),xa,xw,xp] false 0)) (gy:X.h.get yb=some (.cells [k,p,.int .i64 0,.bw,r1,r2] false 0)) (gg:X.h.get gb=some (.cells [C.ps,C.nv,C.iv] false 0)) (gc:X.h.get cb=some (.cells (aU next) true 1)) (hT:LxT C g gb F) (p10:aD 10 F= .ptr xb 0) (p11:aD 11 F=x11) (p12:aD 12 F= .ptr yb 0) (p13:aD 13 F= .sl cb 0 next.length next.length true):
  iM fns aQC ⟨F,false⟩ X (HdX C P g S0 Xe X m pl first (act.getD s []) next s gb yb k p r1 r2 (.sl cb 0 next.length next.length true) x11):=by
 have⟨p2,p3,p4,p5⟩:=hT;have⟨r,hr,hrl'⟩:=hfr;have hrt:(first.getD s 0).toNat=r:=by omega
 have⟨fb,fq,f1,lfb,f3⟩:=jB hf hs';rw[hr] at f3;rw[<-iA hS.s lfb] at f3;have⟨d1,d2,d3⟩:=hS.n1;have wg:=hS.b.wg;have hio:=dR (b:=C.ob) (o:=false) hrl';have ldo:=uI hS.go (show r<(ofL g.bj.length m.da).length by rw[pC];exact hrl');rw[aBY hrl'] at ldo;refine bO (dw p2 p10 @aC @aB (cV gx) @aH f1 f3 ?_);refine aA (aX (Q:=fun o A' Z=>o= .normal/\A'.inr=false/\∃m',pR C P g S0 Z m' pl/\m'.l=m.l/\m'.da=(kR m.da r).1/\gL C.W m X m' Z/\aD 2 A'.F=C.fv/\aD 3 A'.F= .sl C.ob 0 g.bj.length g.bj.length false/\aD 4 A'.F= .ptr C.jb 0/\aD 5 A'.F= .ptr gb 0/\aD 10 A'.F= .ptr xb 0/\aD 11 A'.F=x11/\aD 12 A'.F= .ptr yb 0/\aD 13 A'.F= .sl cb 0 next.length next.length true/\aD 14 A'.F= .int .i64 (r:Int)) (aA (aJ ?_)) ?_)
 ·refine dq p3 @aH hio ldo ?_;by_cases e:r∈m.da
  ·rw[if_pos e];refine aM (by simp only[↓sU,sD,rE,↓reduceIte,rA,Aa (show ¬ ((m.da.idxOf r+1:Nat):Int)=0 by omega)]) (aI ?_);exact⟨rfl,rfl,m,hS,rfl,by unfold kR;rw[if_pos e],.refl,by refine⟨?_,?_,?_,?_,?_,?_,?_,?_,?_⟩<;>simp only[↓sU,sD,rE,↓reduceIte,rA,p2,p3,p4,p5,p10,p11,p12,p13]⟩
  ·rw[if_neg e];refine aN (by simp only[↓sU,sD,rE,↓reduceIte,rA];try first | rfl | trivial) ?_;refine aA (aNh (W:=C.W) (P:=P) (g:=g) (S0:=S0) (X:=X) (gb:=gb) (jb:=C.jb) (m:=m) (r:=r) rfl hS.b hS.s.1 (ah p4) (ah p5) (af) gg hS.gj lgb XC.wj (aE.same (E:=bP) bK hi hS.s) hrl' hreps ?_);intro F' Z ia' hk hbZ KZ gjZ kZ;have g2:=hk 2 ar;have g3:=hk 3 ar;have g4:=hk 4 ar;have g5:=hk 5 ar;have g10:=hk 10 ar;have g11:=hk 11 ar;have g12:=hk 12 ar;have g13:=hk 13 ar;have g14:=hk 14 ar;simp only[↓sU,sD,rE,↓reduceIte,rA,p2,p3,p4,p5,p10,p11,p12,p13] at g2 g3 g4 g5 g10 g11 g12 g13 g14;have goZ:=(kZ C.ob (wg _ XC.wo).2 XC.wo (Bt d1)).trans hS.go;have gqZ:=(kZ C.qb (wg _ XC.wq).2 XC.wq (Bt d2)).trans hS.gq;have hil:=hbZ.inf.len;rw[Aj,Ao,Bl] at hil;try refine ae ?_
   refine aJ ?_;simp only[↓sU,sD,rE,↓reduceIte,rA,g3,g4,g14,bN,bM,aC,aB,cV gjZ,hil,aH,hio];refine fI (fun call=>by refine dn @dS @cR ?_;exact sM (S:=Z) goZ (by rw[pC];exact hrl')) ?_;refine ae ?_;have lV:∀c,c≠C.ob->(Z.h.set C.ob (some (.cells (aU ((ofL g.bj.length m.da).set r ((m.da.length+1:Nat):Int))) false 0))).get c=Z.h.get c:=fun c hc=>by rw[di,if_neg hc]
   refine⟨{m with ia:=ia',da:=m.da++ [r]},⟨hbZ.local (Ag _) fun c _ hw _=>lV c fun e=>hw (by rw[e];exact XC.wo),(lV _ d1).trans gjZ,?_,(lV _ (Bt d3)).trans gqZ,hS.n1,hS.pll,?_⟩,rfl,by unfold kR;rw[if_neg e],KZ.trans (.off (Ag _) fun c _ hp=>lV c fun e=>hp.1 (by rw[e];exact XC.wo)),by refine⟨?_,?_,?_,?_,?_,?_,?_,?_,?_⟩<;>simp only[↓sU,sD,rE,↓reduceIte,rA,g2,g3,g4,g5,g10,g11,g12,g13,g14]⟩
   ·try simp only
    rw[di,if_pos rfl,aLR hrl' e]
   ·have h1:=hS.b.same0 KZ hS.s;exact⟨h1.1,fun c hc=>(lV c (by have:=(wg _ XC.wo).1;omega)).trans (h1.2 c hc)⟩
 clear p2 p3 p4 p5 p10 p11 p12 p13;rintro o ⟨F1,inr⟩ Z ⟨rfl,q0,m',hZ,e1,e2,KZ,p2,p3,p4,p5,p10,p11,p12,p13,p14⟩;simp only at q0 p2 p3 p4 p5 p10 p11 p12 p13 p14;subst q0;have⟨gxZ,pxZ⟩:=KZ.2 xb lxb pxb;have⟨gyZ,pyZ⟩:=KZ.2 yb lyb pyb;have⟨ggZ,pgZ⟩:=KZ.2 gb lgb pgb;have⟨gcZ,pcZ⟩:=KZ.2 cb lcb pcb;rw[gx] at gxZ;rw[gy] at gyZ;rw[gg] at ggZ;rw[gc] at gcZ;have lZ:=KZ.1;have hin:r∈m'.da:=by rw[e2];exact aEw.1
 have hidx:((m'.da.idxOf r:Nat):Int)=((kR m.da r).2:Int):=by
  rw[e2];unfold kR;split
  ·rfl
  ·rename_i h;rw[List.idxOf_append,if_neg h];simp
 have ldo':=uI hZ.go (show r<(ofL g.bj.length m'.da).length by rw[pC];exact hrl');rw[aBY hrl',if_pos hin] at ldo';have hbd:m'.da.idxOf r<200000:=by
  have h1:=List.idxOf_lt_length_iff.2 hin;have h2:=aH1 (da:=m.da) (r:=r);rw[<-e2] at h2;omega
 have w0:IntKind.i64.wrap (((m'.da.idxOf r+1:Nat):Int) - 1)=((m'.da.idxOf r:Nat):Int):=by rw[wrap_i64 ar ar];omega
 refine bO ?_;simp only[↓sU,sD,rE,↓reduceIte,rA,p3,p12,p14,aH,hio,ldo',w0,aC,aB];refine fI (v:=.undef) (S1:=⟨Z.h.set yb (some (.cells [k,p,.int .i64 ((m'.da.idxOf r:Nat):Int),.bw,r1,r2] false 0)),Z.nx⟩) (fun call=>?_) ?_
 ·refine dn @dS @cR ?_;exact stc (cs:=[k,p,.int .i64 0,.bw,r1,r2]) (p:=2) (S:=Z) gyZ (by simp)
 refine ae ?_;rw[hidx];obtain⟨V,hV⟩:∃V:St,V=⟨Z.h.set yb (some (.cells [k,p,.int .i64 ((kR m.da r).2:Int),.bw,r1,r2] false 0)),Z.nx⟩:=⟨_,rfl⟩;rw[<-hV];have nV:V.nx=Z.nx:=by rw[hV]
 have sZV:bT yb Z V:=by rw[hV];exact(bT.refl yb Z).put _
 have hLV:=hZ.but pyZ hPy hyb sZV;have gyV:V.h.get yb=some (.cells [k,p,.int .i64 ((kR m.da r).2:Int),.bw,r1,r2] false 0):=by rw[hV];simp only;rw[di,if_pos rfl]
 have gxV:=(sZV.2 _ ar nxy).trans gxZ;have ggV:=(sZV.2 _ ar ngy).trans ggZ;have gcV:=(sZV.2 _ ar (Bt nyc)).trans gcZ;refine bO (ae ?_);have njc:C.jb≠cb:=fun e=>pcZ.1 (by rw[<-e];exact XC.wj);refine aX (aQq (S0:=S0) (jb:=C.jb) (xb:=xb) (cb:=cb) (s:=s) (xa:=xa) (xw:=xw) (xp:=xp) (vk:=k) (vp:=p) (x2:=C.fv) (x3:=.sl C.ob 0 g.bj.length g.bj.length false) (x5:=.ptr gb 0) (x11:=x11) (x12:=.ptr yb 0) (act:=act) hLV.s hcb ar njc nxc (by have:=(hLV.b.wg _ XC.wj).2;exact this) ar ha hn hnl hs hrl hrow hLV.gj gxV gcV (ah p2) (ah p3) (ah p4) (ah p5) (ah p10) (ah p11) (ah p12) (ah p13) (ag)) ?_;rintro o A' Y ⟨rfl,q0,sY,a,hak,gcY,q2,q3,q4,q5,q10,q11,q12,q13,q15⟩;obtain rfl:a=next.length:=by omega
 have hLY:=hLV.but pcZ hPc hcb sY;have lY:=sY.1;have kall:∀c,c<Z.nx->c≠yb->c≠cb->Y.h.get c=Z.h.get c:=fun c hc h1 h2=>(sY.2 c ar h2).trans (sZV.2 c hc h1);have hv13:fY 1 Xe Y (.sl cb 0 next.length next.length true) (pL (act.getD s []) next next.length).length (aU (pL (act.getD s []) next next.length)):=.inr ⟨cb,by rw[sI],hec,ar,gcY,by rw[nF,Cr]⟩;have KT:=hXe.trans KZ;rw[<-hrt] at e2;refine⟨rfl,q0,m',hLY,e1,e2,⟨au KT.1,fun c hc hp=>⟨(kall c (au KT.1) ar ar).trans (KT.2 c hc hp).1,(KT.2 c hc hp).2⟩⟩,⟨ar,fun c hc hp h1 h2=>(kall c ar h1 (fun e=>h2 (by rw[e];rfl))).trans (KZ.2 c hc hp).1⟩,?_,pyZ,ar,(sY.2 _ ar ngc).trans ggV,pgZ,ar,hv13.is,fun c hc=>by cases hc;exact pcZ,fun c hc=>(KZ.2 c (hr12 c hc).2 (hr12 c hc).1).2,⟨q2,q3,q4,q5⟩,q11,q12,q13⟩;rw[hrt];exact(sY.2 _ ar nyc).trans gyV
end Go.Ev.Gl
