import Derived.Test.YtoojnpjgnnpllaaGl27
open Nat renaming reduceEqDiff → rE, reduceAdd → rA
set_option maxHeartbeats 16000000
set_option linter.unusedSimpArgs false
set_option linter.unusedVariables false
namespace Go.Ev.Gl
variable {fns:T eG}
def aOZ(S Y:St)(g:aR)(L:List (List Int))(ov fv mv nv av:AV)(gb q:Nat)(out0:List Int)(k:Nat)(A:bH)(X:St):Prop:=A.inr=false∧nC ov Y X∧∃ (s:Nat) (out:List Int) (fl:Bool),s+k=g.infos.length∧fP 1 S X ov out.length (aP out)∧aCr (dO g g.infos.length) (L.map (pmL g)) out0 out fl q (dO g s)∧PaF ov fv mv nv av gb q fl A.F∧aB 15 A.F= .int .i64 (s:Int)
theorem aN0{S Y X0:St}{g:aR}{L:List (List Int)}{m:List Int}{ov fv mv nv av:AV}{F0:Fr}{gb q:Nat}{out0 out1:List Int}{fl:Bool}(G:dL g)(hL:∀m∈L,fH g m)(hq:q<L.length)(hm:L.getD q []=m)(hI:∀Z,nC ov Y Z→bK .i64 Z nv (imgI g m))(hA:∀Z,nC ov Y Z→aH 1 iX Z av (imgA g m))(hF:∀Z,nC ov Y Z→bK .i64 Z fv (oM g))(hN:dO g g.infos.length≤1000000)
  (hX:nC ov Y X0) (ho:fP 1 S X0 ov out1.length (aP out1)) (hD:aCr (dO g g.infos.length) (L.map (pmL g)) out0 out1 fl q 0) (hP:PaF ov fv mv nv av gb q fl F0) (p15:aB 15 F0= .int .i64 ((0:Nat):Int)):
  iH fns aPh ⟨F0,false⟩ X0 fun o A' X=>o= .normal∧aOZ S Y g L ov fv mv nv av gb q out0 0 A' X:=by
 refine aL (bL (aOZ S Y g L ov fv mv nv av gb q out0) ?_ g.infos.length _ _ ⟨rfl,hX,0,out1,fl,by omega,ho,hD,hP,p15⟩);clear hP p15 hD ho hX;rintro k ⟨F,inr⟩ X ⟨q0,hX,s,out,fl,hsk,ho,hD,⟨p1,p2,p4,p5,p9,p10,p11,p13⟩,p15⟩;simp only at q0 p1 p2 p4 p5 p9 p10 p11 p13 p15;subst q0;have hNI:=G.ni;have hIl:(imgI g m).length=g.infos.length:=by unfold imgI;rw[Aj,Bk]
 refine gC ?_;simp only[↓sU,sD,rE,↓reduceIte,rA,p11,p15,(hI X hX).len,Ag,hIl];by_cases hlt:s<g.infos.length;rotate_left
 ·refine aN (by simp only[↓sU,sD,rE,↓reduceIte,rA,Aa (show ¬ (s:Int)<((g.infos.length:Nat):Int) by omega)]) (bM ?_);simp only[↓sU,sD,rE,↓reduceIte,rA];obtain rfl:k=0:=by omega
  exact⟨rfl,hX,s,out,fl,hsk,ho,hD,(by refine⟨?_,?_,?_,?_,?_,?_,?_,?_⟩<;>simp only[↓sU,sD,rE,↓reduceIte,rA,p1,p2,p4,p5,p9,p10,p11,p13]),by simp only[↓sU,sD,rE,↓reduceIte,rA,p15]⟩
 refine aO (by simp only[↓sU,sD,rE,↓reduceIte,rA,Ac (show(s:Int)<((g.infos.length:Nat):Int) by omega)]) (aI ?_);try simp only[↓sU,sD,rE,↓reduceIte,rA]
 have w1:IntKind.i64.wrap ((s:Int)+1)=((s+1:Nat):Int):=by rw[wrap_i64 (by omega) (by omega)];omega
 refine aA (aL (aA (aJ ?_)));simp only[↓sU,sD,rE,↓reduceIte,rA];refine aY (aNn (S:=S) (Y:=Y) (g:=g) (L:=L) (m:=m) (ov:=ov) (fv:=fv) (mv:=mv) (nv:=nv) (av:=av) (gb:=gb) (q:=q) (s:=s) (out0:=out0) (out1:=out) (fl:=fl) G hL hq hm hlt hI hA hF hN hX ho hD (by refine⟨?_,?_,?_,?_,?_,?_,?_,?_⟩<;>simp only[↓sU,sD,rE,↓reduceIte,rA,p1,p2,p4,p5,p9,p10,p11,p13]) (by simp only[↓sU,sD,rE,↓reduceIte,rA,p15]) (by simp only[↓sU,sD,rE,↓reduceIte,rA];try rfl)) ?_;clear p1 p2 p4 p5 p9 p10 p11 p13 p15;rintro o ⟨F,inr⟩ X1 ⟨rfl,q0,hX1,a,out1,fl1,hak,ho1,hD1,⟨p1,p2,p4,p5,p9,p10,p11,p13⟩,p15,_⟩;simp only at q0 p1 p2 p4 p5 p9 p10 p11 p13 p15;subst q0;obtain rfl:a=cR g s:=by omega
 try simp only[↓sU,sD,rE,↓reduceIte,rA]
 refine aJ ?_;simp only[↓sU,sD,rE,↓reduceIte,rA,p15,w1];exact⟨k - 1,by omega,rfl,hX1,s+1,out1,fl1,by omega,ho1,hD1,(by refine⟨?_,?_,?_,?_,?_,?_,?_,?_⟩<;>simp only[↓sU,sD,rE,↓reduceIte,rA,p1,p2,p4,p5,p9,p10,p11,p13]),by simp only[↓sU,sD,rE,↓reduceIte,rA]⟩
def PbF(ov fv mv:AV)(gb:Nat)(fl:Bool)(F:Fr):Prop:=aB 1 F=mv∧aB 2 F= .ptr gb 0∧aB 4 F=ov∧aB 5 F=fv∧aB 9 F= .bool fl
def aPq(S B:St)(g:aR)(L:List (List Int))(ov fv mv:AV)(gb:Nat)(out0:List Int)(k:Nat)(A:bH)(X:St):Prop:=A.inr=false∧nC ov B X∧∃ (q:Nat) (out:List Int) (fl:Bool),q+k=L.length∧fP 1 S X ov out.length (aP out)∧aCr (dO g g.infos.length) (L.map (pmL g)) out0 out fl q 0∧PbF ov fv mv gb fl A.F∧aB 10 A.F= .int .i64 (q:Int)
structure PaB(S B:St)(g:aR)(L:List (List Int))(ov fv nv iv mv:AV)(gb:Nat):Prop where
 s:Same S B
 n:aH 6 bP S nv g.nodes
 i:aH 2 cA S iv g.infos
 m:aH 1 iX S mv L
 f:bK .i64 B fv (oM g)
 fo:∀c,bD fv=some c→bD ov≠some c
 gg:B.h.get gb=some (.cells [.int .i64 g.players,nv,iv] false 0)
 lg:gb<B.nx
 go:bD ov≠some gb
 ob:∀c,bD ov=some c→S.nx≤c∧c<B.nx
theorem PaB.sx{S B X:St}{g:aR}{L:List (List Int)}{ov fv nv iv mv:AV}{gb:Nat}(h:PaB S B g L ov fv nv iv mv gb)(hX:nC ov B X):Same S X:=⟨Ak h.s.1 hX.1,fun c hc=>(hX.2 c (Ae hc h.s.1) fun e=>by have:=(h.ob c e).1;omega).trans (h.s.2 c hc)⟩
theorem aNh{S B X0:St}{g:aR}{L:List (List Int)}{ov fv nv iv mv:AV}{F0:Fr}{gb:Nat}{out0:List Int}(H:Has fns)(hf0:cP g=0)(hL:∀m∈L,fH g m)(hLn:L.length≤16)(hB:PaB S B g L ov fv nv iv mv gb)(hN:dO g g.infos.length≤1000000)
  (hX:nC ov B X0) (ho:fP 1 S X0 ov out0.length (aP out0)) (hU:uM (dO g g.infos.length) (gJ (dO g g.infos.length) (L.map (pmL g))) out0) (hP:PbF ov fv mv gb false F0) (p10:aB 10 F0= .int .i64 ((0:Nat):Int)):
  iH fns aPo ⟨F0,false⟩ X0 fun o A' X=>o= .normal∧aPq S B g L ov fv mv gb out0 0 A' X:=by
 have G:=iK hf0;refine aL (bL (aPq S B g L ov fv mv gb out0) ?_ L.length _ _ ⟨rfl,hX,0,out0,false,by omega,ho,⟨hU,.inr ⟨rfl,rfl,fun q' x' _ hc=>by omega⟩⟩,hP,p10⟩);clear hP p10 ho hX;rintro k ⟨F,inr⟩ X ⟨q0,hX,q,out,fl,hqk,ho,hD,⟨p1,p2,p4,p5,p9⟩,p10⟩;simp only at q0 p1 p2 p4 p5 p9 p10;subst q0;have sX:=hB.sx hX;have hmX:=aH.same (E:=iX) firm_sl hB.m sX;refine gC ?_;simp only[↓sU,sD,rE,↓reduceIte,rA,p1,p10,hmX.len,Ag];by_cases hlt:q<L.length;rotate_left
 ·refine aN (by simp only[↓sU,sD,rE,↓reduceIte,rA,Aa (show ¬ (q:Int)<((L.length:Nat):Int) by omega)]) (bM ?_);simp only[↓sU,sD,rE,↓reduceIte,rA];obtain rfl:k=0:=by omega
  exact⟨rfl,hX,q,out,fl,hqk,ho,hD,(by refine⟨?_,?_,?_,?_,?_⟩<;>simp only[↓sU,sD,rE,↓reduceIte,rA,p1,p2,p4,p5,p9]),by simp only[↓sU,sD,rE,↓reduceIte,rA,p10]⟩
 refine aO (by simp only[↓sU,sD,rE,↓reduceIte,rA,Ac (show(q:Int)<((L.length:Nat):Int) by omega)]) (aI ?_);try simp only[↓sU,sD,rE,↓reduceIte,rA]
 have w1:IntKind.i64.wrap ((q:Int)+1)=((q+1:Nat):Int):=by rw[wrap_i64 (by omega) (by omega)];omega
 obtain⟨xb,xq,a,xi,xs,xlb,xl⟩:=oN hmX hlt;have xl1:=xl X (Same.refl X);have gX:=(hX.2 _ hB.lg hB.go).trans hB.gg;have lgX:=Ae hB.lg hX.1;have snv:=aH.self hB.n;have siv:=aH.self hB.i;have sg:cC (.agg [.int .i64 g.players,nv,iv]) (.agg [.int .i64 g.players,nv,iv])=true:=sF (cS ..) snv siv;have smv:=aH.self hB.m;have sa:=bK.self xs;have hmem:L.getD q []∈L:=by rw[Ad,Ab hlt];exact Bo hlt
 have AM:=hL _ hmem;refine aA (aL (aA (jN (fun _=>False) ?_)));simp only[↓sU,sD,rE,↓reduceIte,rA,p1,p2,p10,fR gX,lgX,Al,sg,aG,xi,xl1,xlb,sa];obtain⟨X1,hX1⟩:∃X1:St,X1=⟨X.h,X.nx+11⟩:=⟨_,rfl⟩;have nX1:X1.nx=X.nx+11:=by rw[hX1]
 have sX1:Same X X1:=by rw[hX1];exact Same.nx X 11
 rw[←hX1];have sSX1:=sX.trans sX1;refine dS rfl ?_;simp only[↓sU,sD,rE,↓reduceIte,rA];refine aX (aFn H hf0 (aH.same (E:=bP) bF hB.n sSX1) (aH.same (E:=cA) bO hB.i sSX1) (xs.same sX1) AM) ?_;rintro _ X2 ⟨s2,nv',rfl,snv',hI2⟩;refine⟨s2,?_⟩;simp only[↓sU,sD,rE,↓reduceIte,rA,uW,vE,bE];have sX2:=sX1.trans s2;have gX2:=(sX2.2 _ lgX).trans gX;have lgX2:=Ae lgX sX2.1;have xl2:=xl X2 sX2;have xlb2:=Ae xlb sX2.1;refine aA (jN (fun _=>False) ?_);simp only[↓sU,sD,rE,↓reduceIte,rA,p1,p2,p10,fR gX2,lgX2,Al,sg,aG,xi,xl2,xlb2,sa,smv];obtain⟨X3,hX3⟩:∃X3:St,X3=⟨X2.h,X2.nx+11⟩:=⟨_,rfl⟩;have sX3:Same X2 X3:=by rw[hX3];exact Same.nx X2 11
 rw[←hX3];have s03:=sX2.trans sX3;have sSX3:=sX.trans s03;refine dS rfl ?_;simp only[↓sU,sD,rE,↓reduceIte,rA];refine aX (aCo H hf0 (aH.same (E:=bP) bF hB.n sSX3) (aH.same (E:=cA) bO hB.i sSX3) (xs.same s03) AM) ?_;rintro _ X4 ⟨s4,av',rfl,sav',hA4⟩;refine⟨s4,?_⟩;simp only[↓sU,sD,rE,↓reduceIte,rA,uW,vE,bE];have s24:=sX3.trans s4;have s04:=sX2.trans s24;have obX:∀c,bD ov=some c→c<X.nx:=fun c hc=>Ae (hB.ob c hc).2 hX.1;have hX4:nC ov B X4:=hX.trans (Same.butO s04);have hoX4:fP 1 S X4 ov out.length (aP out):=ho.move s04.1 fun c hc=>s04.2 c (obX c hc);refine bQ ?_;simp only[↓sU,sD,rE,↓reduceIte,rA];refine aY (aN0 (S:=S) (Y:=X4) (g:=g) (L:=L) (m:=L.getD q []) (ov:=ov) (fv:=fv) (mv:=mv) (nv:=nv') (av:=av') (gb:=gb) (q:=q) (out0:=out0) (out1:=out) (fl:=fl) G hL hlt rfl (fun Z hZ=>hI2 Z (Ak s24.1 hZ.1) fun c h1 h2=>(hZ.2 c (Ae h2 s24.1) fun e=>by have:=obX c e;omega).trans (s24.2 c h2)) (fun Z hZ=>hA4 Z hZ.1 fun c h1 h2=>hZ.2 c h2 fun e=>by have:=obX c e;have:=s03.1;omega) (fun Z hZ=>eO hB.f (Ak hX4.1 hZ.1) fun c hc=>((hX4.trans hZ).2 c (fE hB.f hc) (hB.fo c hc))) hN (nC.refl _ _) hoX4 hD (by refine⟨?_,?_,?_,?_,?_,?_,?_,?_⟩<;>simp only[↓sU,sD,rE,↓reduceIte,rA,p1,p2,p4,p5,p9,p10]) (by simp only[↓sU,sD,rE,↓reduceIte,rA];try rfl)) ?_;clear p1 p2 p4 p5 p9 p10;rintro o ⟨F,inr⟩ X5 ⟨rfl,q0,hX5,a,out1,fl1,hak,ho1,hD1,⟨p1,p2,p4,p5,p9,p10,_,_⟩,_⟩;simp only at q0 p1 p2 p4 p5 p9 p10;subst q0;obtain rfl:a=g.infos.length:=by omega
 try simp only[↓sU,sD,rE,↓reduceIte,rA]
 refine aJ ?_;simp only[↓sU,sD,rE,↓reduceIte,rA,p10,w1];exact⟨k - 1,by omega,rfl,hX4.trans hX5,q+1,out1,fl1,by omega,ho1,hD1.next,(by refine⟨?_,?_,?_,?_,?_⟩<;>simp only[↓sU,sD,rE,↓reduceIte,rA,p1,p2,p4,p5,p9]),by simp only[↓sU,sD,rE,↓reduceIte,rA]⟩
def aPd(S B:St)(g:aR)(L:List (List Int))(ov fv mv:AV)(gb:Nat)(k:Nat)(A:bH)(X:St):Prop:=A.inr=false∧nC ov B X∧∃ (out:List Int) (fl:Bool),fP 1 S X ov out.length (aP out)∧uM (dO g g.infos.length) (gJ (dO g g.infos.length) (L.map (pmL g))) out∧((fl=true∧k=wY out+1)∨(fl=false∧k=0∧kT (dO g g.infos.length) (gJ (dO g g.infos.length) (L.map (pmL g))) out))∧PbF ov fv mv gb fl A.F
theorem aNG{S B:St}{g:aR}{L:List (List Int)}{ov fv nv iv mv:AV}{F0:Fr}{gb:Nat}{out0:List Int}(H:Has fns)(hf0:cP g=0)(hL:∀m∈L,fH g m)(hLn:L.length≤16)(hB:PaB S B g L ov fv nv iv mv gb)(hN:dO g g.infos.length≤1000000)
  (ho:fP 1 S B ov out0.length (aP out0)) (hU:uM (dO g g.infos.length) (gJ (dO g g.infos.length) (L.map (pmL g))) out0) (hP:PbF ov fv mv gb true F0):
  iH fns aO5 ⟨F0,false⟩ B fun o A' X=>o= .normal∧∃out,nC ov B X∧fP 1 S X ov out.length (aP out)∧kT (dO g g.infos.length) (gJ (dO g g.infos.length) (L.map (pmL g))) out∧aB 4 A'.F=ov∧aB 5 A'.F=fv:=by
 refine aY (Q:=fun o A' X=>o= .normal∧aPd S B g L ov fv mv gb 0 A' X∧aB 9 A'.F= .bool false) (aL (bL (aPd S B g L ov fv mv gb) ?_ (wY out0+1) _ _ ⟨rfl,nC.refl _ _,out0,true,ho,hU,.inl ⟨rfl,rfl⟩,hP⟩)) ?_
 ·clear hP ho hU;rintro k ⟨F,inr⟩ X ⟨q0,hX,out,fl,ho,hU,hfl,⟨p1,p2,p4,p5,p9⟩⟩;simp only at q0 p1 p2 p4 p5 p9;subst q0;refine gC ?_;simp only[↓sU,sD,rE,↓reduceIte,rA,p9];rcases hfl with⟨rfl,hk⟩ | ⟨rfl,hk,hO⟩
  rotate_left
  ·subst hk;refine aN (by simp only[↓sU,sD,rE,↓reduceIte,rA]) (bM ?_);simp only[↓sU,sD,rE,↓reduceIte,rA];exact⟨⟨rfl,hX,out,false,ho,hU,.inr ⟨rfl,rfl,hO⟩,(by refine⟨?_,?_,?_,?_,?_⟩<;>simp only[↓sU,sD,rE,↓reduceIte,rA,p1,p2,p4,p5,p9])⟩,by simp only[↓sU,sD,rE,↓reduceIte,rA,p9]⟩
  refine aO (by simp only[↓sU,sD,rE,↓reduceIte,rA]) (aI ?_);try simp only[↓sU,sD,rE,↓reduceIte,rA]
  refine aL (aA (aJ ?_));simp only[↓sU,sD,rE,↓reduceIte,rA];refine bQ ?_;simp only[↓sU,sD,rE,↓reduceIte,rA];refine aY (aNh (S:=S) (B:=B) (g:=g) (L:=L) (ov:=ov) (fv:=fv) (nv:=nv) (iv:=iv) (mv:=mv) (gb:=gb) (out0:=out) H hf0 hL hLn hB hN hX ho hU (by refine⟨?_,?_,?_,?_,?_⟩<;>simp only[↓sU,sD,rE,↓reduceIte,rA,p1,p2,p4,p5]) (by simp only[↓sU,sD,rE,↓reduceIte,rA];try rfl)) ?_;clear p1 p2 p4 p5 p9;rintro o ⟨F,inr⟩ X1 ⟨rfl,q0,hX1,q,out1,fl1,hq,ho1,hD,hZ,_⟩;simp only at q0;subst q0;obtain rfl:q=L.length:=by omega
  try simp only[↓sU,sD,rE,↓reduceIte,rA]
  rcases hD.2 with⟨h1,h2⟩ | ⟨h1,h2,h3⟩
  ·subst h1;exact⟨wY out1+1,by omega,rfl,hX1,out1,true,ho1,hD.1,.inl ⟨rfl,rfl⟩,hZ⟩
  ·subst h1 h2;exact⟨0,by omega,rfl,hX1,out1,false,ho1,hD.1,.inr ⟨rfl,rfl,aEo hD.1 fun q x hx hq=>h3 q x hx (.inl (by rw[Aj] at hq;exact hq))⟩,hZ⟩
 rintro o ⟨F,inr⟩ X ⟨rfl,⟨q0,hX,out,fl,ho,hU,hfl,⟨p1,p2,p4,p5,p9⟩⟩,p9'⟩;simp only at p4 p5 p9 p9';rcases hfl with⟨_,hk⟩ | ⟨_,_,hO⟩
 ·omega
 ·exact⟨rfl,out,hX,ho,hO,p4,p5⟩
def aOR(S1:St)(g:aR)(nv iv mv:AV)(gb:Nat)(k:Nat)(A:bH)(X:St):Prop:=A.inr=false∧Same S1 X∧∃ (i:Nat) (v:AV),i+k=g.infos.length∧fP 1 S1 X v ((oM g).take i).length (aP ((oM g).take i))∧aB 1 A.F=mv∧aB 2 A.F= .ptr gb 0∧aB 4 A.F= .nilsl∧aB 5 A.F=v∧aB 6 A.F= .int .i64 ((dO g i:Nat):Int)∧aB 7 A.F= .int .i64 (i:Int)
def aOL(S2:St)(n:Nat)(mv fv:AV)(gb:Nat)(k:Nat)(A:bH)(X:St):Prop:=A.inr=false∧Same S2 X∧∃ (x:Nat) (v:AV),x+k=n∧fP 1 S2 X v ((List.range x).map fun k:Nat=>(k:Int)).length (aP ((List.range x).map fun k:Nat=>(k:Int)))∧aB 1 A.F=mv∧aB 2 A.F= .ptr gb 0∧aB 4 A.F=v∧aB 5 A.F=fv∧aB 6 A.F= .int .i64 (n:Int)∧aB 8 A.F= .int .i64 (x:Int)
theorem pS{g:aR}(G:dL g):∀ {s:Nat},s≤g.infos.length→dO g s≤1000 * s
 | 0,_=>Ah _
 | s+1,h=>by
  have h1:=pS G (s:=s) (by omega);have h2:cR g s≤1000:=by
   rw[oZ G (by omega)];exact G.nxt _ (G.fst s (by omega)).1
  show dO g s+cR g s≤_;omega
theorem aFG{S:St}{nv iv mv:AV}{g:aR}{L:List (List Int)}(H:Has fns)(hf0:cP g=0)(hL:∀m∈L,fH g m)(hLn:L.length≤16)(hn:aH 6 bP S nv g.nodes)(hi:aH 2 cA S iv g.infos)(hm:aH 1 iX S mv L):
  gH fns (.fn 140 [] []) [.agg [.int .i64 g.players,nv,iv],mv] S fun r S'=>Same S S'∧∃ov fv o,r= .tup [ov,fv]∧bK .i64 S' ov o∧bK .i64 S' fv (oM g)∧kT (dO g g.infos.length) (gJ (dO g g.infos.length) (L.map (pmL g))) o:=by
 have G:=iK hf0;have hNI:=G.ni;have hN:=pS G (Ah _);have hol:(oM g).length=g.infos.length:=by unfold oM;rw[Aj,Bk]
 refine cI H.f140 (by simp) ?_;simp only[↓aF,aE,rE,↓reduceIte,rA];refine bQ ?_;refine cM (by simp only[↓aF,aE,rE,↓reduceIte,rA];exact bB _) ?_;intro S1 s1 n1 g1;simp only[↓aF,aE,rE,↓reduceIte,rA];refine bQ ?_;simp only[↓aF,aE,rE,↓reduceIte,rA];have lgb:S.nx<S1.nx:=by omega
 refine aA (aY (Q:=fun o A' X=>o= .normal∧aOR S1 g nv iv mv S.nx 0 A' X) (aA (aJ ?_)) ?_)
 ·simp only[↓sU,sD,rE,↓reduceIte,rA];refine aL (bL (aOR S1 g nv iv mv S.nx) ?_ g.infos.length _ _ ⟨rfl,Same.refl _,0,.nilsl,by omega,.inl ⟨rfl,rfl,rfl⟩,by simp only[↓sU,sD,rE,↓reduceIte,rA],by simp only[↓sU,sD,rE,↓reduceIte,rA],by simp only[↓sU,sD,rE,↓reduceIte,rA],by simp only[↓sU,sD,rE,↓reduceIte,rA],by simp only[↓sU,sD,rE,↓reduceIte,rA];try rfl,by simp only[↓sU,sD,rE,↓reduceIte,rA];try rfl⟩);rintro k ⟨F,inr⟩ X ⟨q0,hX,i,v,hik,hg,p1,p2,p4,p5,p6,p7⟩;simp only at q0 p1 p2 p4 p5 p6 p7;subst q0;have gX:=(hX.2 _ lgb).trans g1;have hiX:=aH.same (E:=cA) bO hi (s1.trans hX);refine gC ?_;simp only[↓sU,sD,rE,↓reduceIte,rA,p2,p7,aC,aD,gG gX,hi.len,Ag];by_cases hlt:i<g.infos.length;rotate_left
  ·refine aN (by simp only[↓sU,sD,rE,↓reduceIte,rA,Aa (show ¬ (i:Int)<((g.infos.length:Nat):Int) by omega)]) (bM ?_);simp only[↓sU,sD,rE,↓reduceIte,rA];obtain rfl:k=0:=by omega
   exact⟨rfl,hX,i,v,hik,hg,by refine⟨?_,?_,?_,?_,?_,?_⟩<;>simp only[↓sU,sD,rE,↓reduceIte,rA,p1,p2,p4,p5,p6,p7]⟩
  refine aO (by simp only[↓sU,sD,rE,↓reduceIte,rA,Ac (show(i:Int)<((g.infos.length:Nat):Int) by omega)]) (aI ?_);try simp only[↓sU,sD,rE,↓reduceIte,rA]
  have w1:IntKind.i64.wrap ((i:Int)+1)=((i+1:Nat):Int):=by rw[wrap_i64 (by omega) (by omega)];omega
  have hb:=pS G (s:=i) (by omega);have hb1:=pS G (s:=i+1) (by omega);have hacs:=pW G hlt;have hae:=oZ G hlt;have hoff:dO g (i+1)=dO g i+cR g i:=rfl;have w2:IntKind.i64.wrap (((dO g i:Nat):Int)+(infoAt g (i:Int)).actions)=((dO g (i+1):Nat):Int):=by rw[hacs,wrap_i64 (by omega) (by omega)];omega
  have hjl:((oM g).take i).length=i:=by rw[Ce,hol];omega
  have htk:(oM g).take (i+1)=(oM g).take i++ [((dO g i:Nat):Int)]:=by
   rw[Bp,←zT hlt,Ad,Ab (by omega)];rfl
  have he1:=fun(F:Fr) (id:Nat) (h:aB 27 F= .int .i64 ((dO g i:Nat):Int))=>mH (t:=3) (z:=.int .i64 0) (x:=.t 27) (F:=F) (id:=id) (k:=.i64) (n:=((dO g i:Nat):Int)) h;refine aA (aL (aA (aJ ?_)));simp only[↓aF,aE,rE,↓reduceIte,rA,p5,p6];refine gM (he1 _ _ (by simp only[↓aF,aE,rE,↓reduceIte,rA])) ?_;intro U u1 u2 u3;try simp only[↓aF,aE,rE,↓reduceIte,rA]
  obtain⟨v',V,eA,gA,bA,nA,kA⟩:=fP.push (bytes:=8) (S0:=⟨U.h,S1.nx⟩) (S:=U) (t:=X.nx) (w:=((dO g i:Nat):Int)) (hg.step u1) ⟨by show S1.nx≤U.nx;have:=hX.1;omega,fun _ _=>rfl⟩ u3 (by rw[hjl];unfold room;omega) (by rw[hjl];unfold room;omega);rw[←htk] at gA;have hXV:Same S1 V:=⟨by have:=hX.1;omega,fun c hc=>(kA c (by have:=hX.1;omega) fun e=>by have:=(hg.blk e).1;omega).trans ((u1.2 c (by have:=hX.1;omega)).trans (hX.2 c hc))⟩;have gV:=(hXV.2 _ lgb).trans g1;obtain⟨_,ib,iq,i1,i2,_,rfl,_,i3⟩:=aH.at (aH.same (E:=cA) bO hi (s1.trans hXV)) (by decide) (oJ hlt);have i4:=i3 1 _ rfl;refine fJ (fun call=>by simp only[↓aF,aE,rE,↓reduceIte,rA,iG];exact eA) ?_;simp only[↓aF,aE,rE,↓reduceIte,rA];refine aJ ?_;simp only[↓sU,sD,rE,↓reduceIte,rA,p2,p6,p7,aC,aD,gG gV,aG,i1,i4,w2];refine aJ ?_;simp only[↓sU,sD,rE,↓reduceIte,rA,p7,w1];exact⟨k - 1,by omega,rfl,hXV,i+1,v',by omega,by exact gA,by refine⟨?_,?_,?_,?_,?_,?_⟩<;>simp only[↓sU,sD,rE,↓reduceIte,rA,p1,p2,p4]⟩
 rintro o ⟨F,inr⟩ S2 ⟨rfl,q0,hX,i,fv,hik,hg,p1,p2,p4,p5,p6,p7⟩;simp only at q0 p1 p2 p4 p5 p6;subst q0;obtain rfl:i=g.infos.length:=by omega
 rw[Bb (by rw[hol];exact Ah _)] at hg;have g2:=(hX.2 _ lgb).trans g1;try simp only[↓sU,sD,rE,↓reduceIte,rA]
 refine aA (aY (Q:=fun o A' X=>o= .normal∧aOL S2 (dO g g.infos.length) mv fv S.nx 0 A' X) (aA (aJ ?_)) ?_)
 ·simp only[↓sU,sD,rE,↓reduceIte,rA];refine aL (bL (aOL S2 (dO g g.infos.length) mv fv S.nx) ?_ (dO g g.infos.length) _ _ ⟨rfl,Same.refl _,0,.nilsl,by omega,.inl ⟨rfl,rfl,rfl⟩,by simp only[↓sU,sD,rE,↓reduceIte,rA,p1],by simp only[↓sU,sD,rE,↓reduceIte,rA,p2],by simp only[↓sU,sD,rE,↓reduceIte,rA,p4],by simp only[↓sU,sD,rE,↓reduceIte,rA,p5],by simp only[↓sU,sD,rE,↓reduceIte,rA,p6],by simp only[↓sU,sD,rE,↓reduceIte,rA];try rfl⟩);clear p1 p2 p4 p5 p6 p7;rintro k ⟨F,inr⟩ X ⟨q0,hX2,x,v,hxk,hgx,p1,p2,p4,p5,p6,p8⟩;simp only at q0 p1 p2 p4 p5 p6 p8;subst q0;refine gC ?_;simp only[↓sU,sD,rE,↓reduceIte,rA,p6,p8];by_cases hlt:x<dO g g.infos.length;rotate_left
  ·refine aN (by simp only[↓sU,sD,rE,↓reduceIte,rA,Aa (show ¬ (x:Int)<((dO g g.infos.length:Nat):Int) by omega)]) (bM ?_);simp only[↓sU,sD,rE,↓reduceIte,rA];obtain rfl:k=0:=by omega
   exact⟨rfl,hX2,x,v,hxk,hgx,by refine⟨?_,?_,?_,?_,?_,?_⟩<;>simp only[↓sU,sD,rE,↓reduceIte,rA,p1,p2,p4,p5,p6,p8]⟩
  refine aO (by simp only[↓sU,sD,rE,↓reduceIte,rA,Ac (show(x:Int)<((dO g g.infos.length:Nat):Int) by omega)]) (aI ?_);try simp only[↓sU,sD,rE,↓reduceIte,rA]
  have w1:IntKind.i64.wrap ((x:Int)+1)=((x+1:Nat):Int):=by rw[wrap_i64 (by omega) (by omega)];omega
  have hxl:((List.range x).map fun k:Nat=>(k:Int)).length=x:=by rw[Aj,Bk]
  have htk:((List.range (x+1)).map fun k:Nat=>(k:Int))=((List.range x).map fun k:Nat=>(k:Int))++ [(x:Int)]:=by
   rw[List.range_succ,Dx];rfl
  have he1:=fun(F:Fr) (id:Nat) (h:aB 44 F= .int .i64 (x:Int))=>mH (t:=3) (z:=.int .i64 0) (x:=.t 44) (F:=F) (id:=id) (k:=.i64) (n:=(x:Int)) h;refine aA (aL (aJ ?_));simp only[↓aF,aE,rE,↓reduceIte,rA,p4,p8];refine gM (he1 _ _ (by simp only[↓aF,aE,rE,↓reduceIte,rA])) ?_;intro U u1 u2 u3;try simp only[↓aF,aE,rE,↓reduceIte,rA]
  obtain⟨v',V,eA,gA,bA,nA,kA⟩:=fP.push (bytes:=8) (S0:=⟨U.h,S2.nx⟩) (S:=U) (t:=X.nx) (w:=(x:Int)) (hgx.step u1) ⟨by show S2.nx≤U.nx;have:=hX2.1;omega,fun _ _=>rfl⟩ u3 (by rw[hxl];unfold room;omega) (by rw[hxl];unfold room;omega);rw[←htk] at gA;have hXV:Same S2 V:=⟨by have:=hX2.1;omega,fun c hc=>(kA c (by have:=hX2.1;omega) fun e=>by have:=(hgx.blk e).1;omega).trans ((u1.2 c (by have:=hX2.1;omega)).trans (hX2.2 c hc))⟩;refine fJ (fun call=>by simp only[↓aF,aE,rE,↓reduceIte,rA,iG];exact eA) ?_;simp only[↓aF,aE,rE,↓reduceIte,rA];refine aJ ?_;simp only[↓sU,sD,rE,↓reduceIte,rA,p8,w1];exact⟨k - 1,by omega,rfl,hXV,x+1,v',by omega,by exact gA,by refine⟨?_,?_,?_,?_,?_,?_⟩<;>simp only[↓sU,sD,rE,↓reduceIte,rA,p1,p2,p5,p6]⟩
 clear p1 p2 p4 p5 p6 p7;rintro o ⟨F,inr⟩ B ⟨rfl,q0,hX2,x,ov,hxk,hgo,p1,p2,p4,p5,p6,_⟩;simp only at q0 p1 p2 p4 p5 p6;subst q0;obtain rfl:x=dO g g.infos.length:=by omega
 have s2B:=hX.trans hX2;have lS2:=s1.trans hX;try simp only[↓sU,sD,rE,↓reduceIte,rA]
 have hgo':fP 1 S B ov ((List.range (dO g g.infos.length)).map fun k:Nat=>(k:Int)).length (aP ((List.range (dO g g.infos.length)).map fun k:Nat=>(k:Int))):=hgo.low lS2.1;have hPB:PaB S B g L ov fv nv iv mv S.nx:=⟨s1.trans s2B,hn,hi,hm,hg.is.same hX2,fun c hc e=>by have:=(hg.blk hc).2.1;have:=(hgo.blk e).1;omega,(s2B.2 _ lgb).trans g1,by have:=s2B.1;omega,fun e=>by have:=(hgo.blk e).1;have:=hX.1;omega,fun c hc=>⟨by have:=(hgo.blk hc).1;have:=lS2.1;omega,(hgo.blk hc).2.1⟩⟩;refine aA (aY (Q:=fun o A' X=>o= .normal∧∃out,nC ov B X∧fP 1 S X ov out.length (aP out)∧kT (dO g g.infos.length) (gJ (dO g g.infos.length) (L.map (pmL g))) out∧aB 4 A'.F=ov∧aB 5 A'.F=fv) (aA (aJ ?_)) ?_)
 ·simp only[↓sU,sD,rE,↓reduceIte,rA];exact aNG (S:=S) (B:=B) (g:=g) (L:=L) (ov:=ov) (fv:=fv) (nv:=nv) (iv:=iv) (mv:=mv) (gb:=S.nx) H hf0 hL hLn hPB (by omega) hgo' aDJ (by refine⟨?_,?_,?_,?_,?_⟩<;>simp only[↓sU,sD,rE,↓reduceIte,rA,p1,p2,p4,p5])
 clear p1 p2 p4 p5 p6;rintro o ⟨F,inr⟩ X ⟨rfl,out,hBX,hgX,hO,p4,p5⟩;simp only at p4 p5;try simp only[↓sU,sD,rE,↓reduceIte,rA]
 refine bQ ?_;simp only[↓sU,sD,rE,↓reduceIte,rA,p4,p5];refine aS ?_;simp only[↓sU,sD,rE,↓reduceIte,rA];exact⟨hPB.sx hBX,ov,fv,out,rfl,hgX.is,eO hPB.f hBX.1 fun c hc=>hBX.2 c (fE hPB.f hc) (hPB.fo c hc),hO⟩
theorem aLk{ops:List AO}{W P:Nat→Prop}{g:aR}{S0 X:St}{F:Fr}{inr:Bool}{gb jb:Nat}{m:LyS}{pv nv iv ps x3 x4 x5:AV}{r:Nat}{Q:Out→bH→St→Prop}(he:ops=aNB++aN3)(hL:oV W P g S0 X m)(hS:S0.nx≤X.nx)(p4:aB 4 F= .ptr jb 0)(p5:aB 5 F= .ptr gb 0)(p14:aB 14 F= .int .i64 (r:Int))
  (gg:X.h.get gb=some (.cells [pv,nv,iv] false 0)) (gj:X.h.get jb=some (.cells [ps,m.na,m.ia,x3,x4,x5] false 0)) (lg:gb<X.nx) (hjb:W jb) (hi:aH 2 cA X iv g.infos) (hr:r<g.infos.length) (hv:m.reps.length≤100000)
  (hQ:∀F' Z ia',(∀j,j<65→aB j F'=aB j F)→oV W P g S0 Z {m with ia:=ia',reps:=m.reps++ [r]}→fY W m X {m with ia:=ia',reps:=m.reps++ [r]} Z→Z.h.get jb=some (.cells [ps,m.na,ia',x3,x4,x5] false 0)→(∀c,c<X.nx→W c→c≠jb→Z.h.get c=X.h.get c)→Q .normal ⟨F',inr⟩ Z):iH fns (.drw ops) ⟨F,inr⟩ X Q:=by
 have hlen:ops.length=17:=by rw[he];rfl
 have ljb:jb<X.nx:=(hL.wg jb hjb).2;have sia:=hL.inf.self;have siv:=aH.self hi;obtain⟨_,qb,qq,i1,lqb,_,rfl,i3,_⟩:=aH.at hi (by decide) (oJ hr);have hs2:cC (.agg [.int .i64 (infoAt g (r:Int)).player,.int .i64 (infoAt g (r:Int)).actions]) (.agg [.int .i64 (infoAt g (r:Int)).player,.int .i64 (infoAt g (r:Int)).actions])=true:=wJ (cS ..) (cS ..);refine aCv 4094 (W:=fun _=>False) (K:=12) (R:=fun F' Z ps=>ps= [⟨11,X.nx+11,.cells [.int .i64 (infoAt g (r:Int)).player,.int .i64 (infoAt g (r:Int)).actions] false 0⟩]∧Z.h=X.h∧Z.nx=X.nx+17∧(∀j,j<65→aB j F'=aB j F)∧aB 65 F'= .ptr jb 0∧aB 70 F'=m.ia∧aB 76 F'= .sl (X.nx+11) 0 1 1 false) he rfl rfl rfl (fun X1 x1 hh1 nn1=>?_) ?_
 ·have he1:=fun(F:Fr) (id:Nat) (h:aB 75 F= .agg [.int .i64 (infoAt g (r:Int)).player,.int .i64 (infoAt g (r:Int)).actions])=>aHM (t:=48) (z0:=.int .i64 0) (z1:=.int .i64 0) (x:=.t 75) (F:=F) (id:=id) h;unfold aNB;simp only[↓sU,sD,rE,↓reduceIte,rA,p4,p5,p14,bJ,bX,bI,aC,aU,aD,cQ gj,gG gg,sia,siv,lg,ljb,lqb,Al,aG,i1,i3,hs2,he1];refine⟨hh1,by rw[nn1,hlen],fun j hj=>?_⟩
  repeat rw[if_neg (by omega)]
 rintro F' S' ps' hs' ls ⟨rfl,hZ,nZ,hk,p65,pA,pB⟩ hlast hld;obtain⟨U,hU⟩:∃U:St,U=⟨S'.h.set (X.nx+11) (some (.cells [.int .i64 (infoAt g (r:Int)).player,.int .i64 (infoAt g (r:Int)).actions] false 0)),S'.nx⟩:=⟨_,rfl⟩;have nU:U.nx=X.nx+17:=by rw[hU];exact nZ
 have sUx:Same X U:=⟨by omega,fun c hc=>by rw[hU];simp only;rw[T.get_set,if_neg (by omega),hZ]⟩;have gU:U.h.get (X.nx+11)=some (.cells [.int .i64 (infoAt g (r:Int)).player,.int .i64 (infoAt g (r:Int)).actions] false 0):=by rw[hU];simp only;rw[T.get_set,if_pos rfl]
 have hLU:=hL.same sUx;obtain⟨v',V,eA,aV,nV,kV,bV⟩:=hLU.inf.push (bytes:=16) (x:=.sl (X.nx+11) 0 1 1 false) (a:=infoAt g (r:Int)) (by decide) (by omega) rfl (aLt gU rfl) rfl (show aMs [.int .i64 (infoAt g (r:Int)).player,.int .i64 (infoAt g (r:Int)).actions] (infoAt g (r:Int)) from rfl) (by rw[Aj];unfold room;omega) (by rw[Aj];unfold room;omega);obtain⟨kP,kM⟩:=hLU.pushI nV kV bV aV;have gjV:V.h.get jb=some (.cells [ps,m.na,m.ia,x3,x4,x5] false 0):=(kV jb (by omega) fun e=>hLU.d2 jb e hjb).trans ((sUx.2 jb ljb).trans gj);unfold aN3;refine jP (v:=v') (S1:=V) hlast (fun call=>?_) ?_
 ·rw[dF (show Nat.testBit 4094 11=true by decide),iG];simp only[fD,pA,pB];rw[←hU];exact eA
 rw[dF (show Nat.testBit 4094 11=true by decide)];simp only[lA,dW,bJ,bI,bX,aC,aD,aU,aK,aW,fD,bE,eF,cE,p65,rE,↓reduceIte,rA];have gAc:v'.cells=some [v']:=aV.cells;refine jP (v:=.undef) (S1:=⟨V.h.set jb (some (.cells [ps,m.na,v',x3,x4,x5] false 0)),V.nx⟩) (show Nat.testBit 65535 12=true by decide) (fun call=>?_) ?_
 ·rw[dN];simp only[fD,cE,rE,↓reduceIte,bE,gAc,aK];exact stc (cs:=[ps,m.na,m.ia,x3,x4,x5]) (p:=2) (S:=V) gjV (by simp)
 rw[fZ];refine⟨?_,?_⟩
 ·simp only[Bz,Cd,Di,Cf,Cc];exact hld _ _
 ·simp only[bE,eF];have kS:∀c,c≠jb→(V.h.set jb (some (.cells [ps,m.na,v',x3,x4,x5] false 0))).get c=V.h.get c:=fun c hc=>by rw[T.get_set,if_neg hc]
  refine hQ _ _ v' (fun j hj=>?_) (kP.local (Ah _) fun c _ hc _=>kS c fun e=>hc (by rw[e];exact hjb)) (((fY.same sUx).trans kM).trans (.off (Ah _) fun c _ hp=>kS c fun e=>hp.1 (by rw[e];exact hjb))) (by simp only;rw[T.get_set,if_pos rfl]) fun c hc hw hne=>?_
  ·simp only[cE];rw[if_neg (by omega),if_neg (by omega),if_neg (by omega),if_neg (by omega)];exact hk j hj
  ·simp only;rw[kS c hne];exact(kV c (by omega) fun e=>hLU.d2 c e hw).trans (sUx.2 c hc)
theorem aLs{ops:List AO}{W P:Nat→Prop}{g:aR}{S0 X:St}{F:Fr}{inr:Bool}{yb jb:Nat}{m:LyS}{a:dG}{rw' rp ps x3 x4 x5:AV}{Q:Out→bH→St→Prop}(he:ops=aNu++aNC)(hL:oV W P g S0 X m)(hS:S0.nx≤X.nx)(p4:aB 4 F= .ptr jb 0)(p12:aB 12 F= .ptr yb 0)
  (gy:X.h.get yb=some (.cells [.int .i64 a.kind,.int .i64 a.player,.int .i64 a.info,.nilsl,rw',rp] false 0)) (gj:X.h.get jb=some (.cells [ps,m.na,m.ia,x3,x4,x5] false 0)) (lyb:yb<X.nx) (hjb:W jb) (iw:bK .i64 X rw' a.weights) (ip:bK .i64 X rp a.pay) (hwp:∀c,(bD rw'=some c∨bD rp=some c)→oK W m c∧P c) (ha:a.next= []) (hv:m.l.length≤100000)
  (hQ:∀F' Z na',(∀j,j<121→aB j F'=aB j F)→oV W P g S0 Z {m with na:=na',l:=m.l++ [(a,.nilsl)]}→fY W m X {m with na:=na',l:=m.l++ [(a,.nilsl)]} Z→Z.h.get jb=some (.cells [ps,na',m.ia,x3,x4,x5] false 0)→(∀c,c<X.nx→W c→c≠jb→Z.h.get c=X.h.get c)→Q .normal ⟨F',inr⟩ Z):iH fns (.drw ops) ⟨F,inr⟩ X Q:=by
 have hlen:ops.length=13:=by rw[he];rfl
 have ljb:jb<X.nx:=(hL.wg jb hjb).2;have sna:=hL.nod.self;have sx:=vI (k:=.i64) (x0:=a.kind) (x1:=a.player) (x2:=a.info) (show cC .nilsl .nilsl=true from rfl) (bK.self iw) (bK.self ip);have lyy:=iA (n:=6) gy rfl;refine aCv 254 (W:=fun _=>False) (K:=8) (R:=fun F' Z ps=>ps= [⟨7,X.nx+7,.cells [.int .i64 a.kind,.int .i64 a.player,.int .i64 a.info,.nilsl,rw',rp] false 0⟩]∧Z.h=X.h∧Z.nx=X.nx+13∧(∀j,j<121→aB j F'=aB j F)∧aB 121 F'= .ptr jb 0∧aB 126 F'=m.na∧aB 128 F'= .sl (X.nx+7) 0 1 1 false) he rfl rfl rfl (fun X1 x1 hh1 nn1=>?_) ?_
 ·have he1:=fun(F:Fr) (id:Nat) (h:aB 127 F= .agg [.int .i64 a.kind,.int .i64 a.player,.int .i64 a.info,.nilsl,rw',rp])=>aKS (t:=64) (z0:=.int .i64 0) (z1:=.int .i64 0) (z2:=.int .i64 0) (z3:=.nilsl) (z4:=.nilsl) (z5:=.nilsl) (x:=.t 127) (F:=F) (id:=id) h;unfold aNu;simp only[↓sU,sD,rE,↓reduceIte,rA,p4,p12,bJ,bX,bI,aC,aU,aD,dE gj,lyy,sna,sx,lyb,ljb,Al,he1];refine⟨hh1,by rw[nn1,hlen],fun j hj=>?_⟩
  repeat rw[if_neg (by omega)]
 rintro F' S' ps' hs' ls ⟨rfl,hZ,nZ,hk,p121,pA,pB⟩ hlast hld;obtain⟨U,hU⟩:∃U:St,U=⟨S'.h.set (X.nx+7) (some (.cells [.int .i64 a.kind,.int .i64 a.player,.int .i64 a.info,.nilsl,rw',rp] false 0)),S'.nx⟩:=⟨_,rfl⟩;have nU:U.nx=X.nx+13:=by rw[hU];exact nZ
 have sUx:Same X U:=⟨by omega,fun c hc=>by rw[hU];simp only;rw[T.get_set,if_neg (by omega),hZ]⟩;have gU:U.h.get (X.nx+7)=some (.cells [.int .i64 a.kind,.int .i64 a.player,.int .i64 a.info,.nilsl,rw',rp] false 0):=by rw[hU];simp only;rw[T.get_set,if_pos rfl]
 have hLU:=hL.same sUx;obtain⟨v',V,eA,aV,nV,kV,bV⟩:=hLU.nod.push (bytes:=96) (x:=.sl (X.nx+7) 0 1 1 false) (a:=(a,AV.nilsl)) (by decide) (by omega) rfl (aLt gU rfl) rfl ⟨rw',rp,rfl,.inl ⟨rfl,by rw[ha];rfl,by rw[ha];rfl⟩,iw.same sUx,ip.same sUx,hwp⟩ (by unfold room;omega) (by unfold room;omega);obtain⟨kP,kM⟩:=hLU.pushN nV kV bV aV;have gjV:V.h.get jb=some (.cells [ps,m.na,m.ia,x3,x4,x5] false 0):=(kV jb (by omega) fun e=>(hLU.d1 jb e).1 hjb).trans ((sUx.2 jb ljb).trans gj);unfold aNC;refine jP (v:=v') (S1:=V) hlast (fun call=>?_) ?_
 ·rw[dF (show Nat.testBit 254 7=true by decide),iG];simp only[fD,pA,pB];rw[←hU];exact eA
 rw[dF (show Nat.testBit 254 7=true by decide)];simp only[lA,dW,bJ,bI,bX,aC,aD,aU,aK,aW,fD,bE,eF,cE,p121,rE,↓reduceIte,rA];have gAc:v'.cells=some [v']:=aV.cells;refine jP (v:=.undef) (S1:=⟨V.h.set jb (some (.cells [ps,v',m.ia,x3,x4,x5] false 0)),V.nx⟩) (show Nat.testBit 4095 8=true by decide) (fun call=>?_) ?_
 ·rw[dN];simp only[fD,cE,rE,↓reduceIte,bE,gAc,aK];exact stc (cs:=[ps,m.na,m.ia,x3,x4,x5]) (p:=1) (S:=V) gjV (by simp)
 rw[fZ];refine⟨?_,?_⟩
 ·simp only[Bz,Cd,Di,Cf,Cc];exact hld _ _
 ·simp only[bE,eF];have kS:∀c,c≠jb→(V.h.set jb (some (.cells [ps,v',m.ia,x3,x4,x5] false 0))).get c=V.h.get c:=fun c hc=>by rw[T.get_set,if_neg hc]
  refine hQ _ _ v' (fun j hj=>?_) (kP.local (Ah _) fun c _ hc _=>kS c fun e=>hc (by rw[e];exact hjb)) (((fY.same sUx).trans kM).trans (.off (Ah _) fun c _ hp=>kS c fun e=>hp.1 (by rw[e];exact hjb))) (by simp only;rw[T.get_set,if_pos rfl]) fun c hc hw hne=>?_
  ·simp only[cE];rw[if_neg (by omega),if_neg (by omega),if_neg (by omega),if_neg (by omega)];exact hk j hj
  ·simp only;rw[kS c hne];exact(kV c (by omega) fun e=>(hLU.d1 c e).1 hw).trans (sUx.2 c hc)
theorem aLq{W P:Nat→Prop}{g:aR}{S0 X:St}{F:Fr}{inr:Bool}{jb i:Nat}{m:LyS}{a:dG}{v ps x3 x4 x5:AV}{ops:List AO}{Q:Out→bH→St→Prop}(he:ops=aLY++aLJ)(hL:oV W P g S0 X m)(hS:S0.nx≤X.nx)(hi:m.l[i]? =some (a,v))(ha:a.next.length≤100000)(p4:aB 4 F= .ptr jb 0)(p11:aB 11 F= .int .i64 (i:Int))
  (gj:X.h.get jb=some (.cells [ps,m.na,m.ia,x3,x4,x5] false 0)) (hjb:W jb)
  (hQ:∀F' Z v',(∀j,j<139→aB j F'=aB j F)→oV W P g S0 Z {m with l:=m.l.set i ({a with next:=a.next++ [((m.l.length:Nat):Int)]},v')}→fY W m X {m with l:=m.l.set i ({a with next:=a.next++ [((m.l.length:Nat):Int)]},v')} Z→(∀c,c<X.nx→W c→Z.h.get c=X.h.get c)→Q .normal ⟨F',inr⟩ Z):iH fns (.drw ops) ⟨F,inr⟩ X Q:=by
 subst he;obtain⟨w,hw⟩:∃w:Int,w=((m.l.length:Nat):Int):=⟨_,rfl⟩;have ljb:jb<X.nx:=(hL.wg jb hjb).2;have sna:=hL.nod.self;have hnl:=hL.nod.len;rw[←hw] at hnl;rw[←hw] at hQ;obtain⟨b,p,k1,k2,k3,k4,hG⟩:=hL.row_at hi;have hrow:=fun {c} (hc:bD v=some c)=>hL.row_of hi hc;have n1:bD v≠some jb:=fun e=>(hrow e).2.1 hjb;have nb:bD v≠some b:=fun e=>(hrow e).2.2.1 k2;have srv:=hG.self;have he1:=fun(F:Fr) (id:Nat) (h:aB 159 F= .int .i64 w)=>mH (t:=3) (z:=.int .i64 0) (x:=.t 159) (F:=F) (id:=id) (k:=.i64) (n:=w) h;refine nQ (W:=fun c=>bD v=some c) (pre:=aLY) (suf:=aLJ) (K:=25) (R:=fun F' V ps=>ps= []∧(∀j,j<139→aB j F'=aB j F)∧aB 163 F'= .ptr b (p+3)∧∃rv',aB 161 F'=rv'∧X.nx≤V.nx∧(∀c,c<X.nx→bD v≠some c→V.h.get c=X.h.get c)∧fP 1 S0 V rv' (a.next++ [w]).length (aP (a.next++ [w]))∧∃b',bD rv'=some b'∧X.nx≤b'∧b'<V.nx) rfl rfl rfl (fun X1 x1 hh1 nn1=>?_) ?_
 ·unfold aLY;simp only[↓sU,sD,rE,↓reduceIte,rA,p4,p11,bJ,bX,bI,aC,aU,aD,dE gj,hnl,k1,k4,ljb,k3,n1,nb,Al,sna,srv,aG,he1];have hf1:cF 4194240 [⟨21,X.nx+21,.cells [.int .i64 w] false 0⟩] X1.h=([],X1.h.set (X.nx+21) (some (.cells [.int .i64 w] false 0))):=dF (m:=4194240) rfl;have nX1:X.nx+26≤X1.nx:=by rw[nn1];exact Ah _
  obtain⟨U,hU⟩:∃U:St,U=⟨X1.h.set (X.nx+21) (some (.cells [.int .i64 w] false 0)),X1.nx⟩:=⟨_,rfl⟩;have nU:U.nx=X1.nx:=by rw[hU]
  have kU:∀c,c<X.nx→U.h.get c=X.h.get c:=fun c hc=>by rw[hU];simp only;rw[T.get_set,if_neg (by omega),hh1]
  have sUu:Same X U:=⟨by omega,kU⟩;have gU:U.h.get (X.nx+21)=some (.cells [.int .i64 w] false 0):=by rw[hU];simp only;rw[T.get_set,if_pos rfl]
  have hGU:=hG.step sUu;obtain⟨rv',V,eA,gA,bA,nA,rA⟩:=fP.push (bytes:=8) (S0:=⟨U.h,S0.nx⟩) (S:=U) (t:=X.nx+21) (w:=w) hGU ⟨by show S0.nx≤U.nx;omega,fun _ _=>rfl⟩ gU (by unfold room;omega) (by unfold room;omega);refine qF (r:=rv') (S1:=V) rfl ?_ ?_ ?_
  ·simp only[↓sU,sD,rE,↓reduceIte,rA];rw[hf1,←hU];exact eA
  ·rw[hf1,←hU];exact⟨by omega,fun c hc hcm=>rA c (by omega) hcm⟩
  rw[hf1];simp only[↓sU,sD,rE,↓reduceIte,rA,aG,k1,aC,aU,aD,Al];refine⟨fun j hj=>?_,rv',rfl,by omega,fun c hc hcm=>(rA c (by omega) hcm).trans (kU c hc),by exact gA,U.nx,bA,by omega,by omega⟩
  repeat rw[if_neg (by omega)]
 ·rintro F' V ps' hs' ls ⟨rfl,hk,p163,rv',p161,nV,kV,gV,b',hb1,hb2,hb3⟩ hlast hld;have m1:∀i,i<25→Nat.testBit 33554431 i=true:=by decide
  have hrc:rv'.cells=some [rv']:=fP.cells gV;obtain⟨bb,pp,Z,z1,z2,z3,z4,z5,z6,z7,z8⟩:=hL.row (v':=rv') (w:=w) (X':=V) hi nV kV gV fun c hc=>by rw[hb1] at hc;cases hc;exact hb2
  rw[k1] at z1;cases z1;unfold aLJ;refine jP (v:=.undef) (S1:=Z) (hlast _ m1) (fun call=>?_) ?_
  ·rw[dN];simp only[fD,p163,p161,bE,hrc,aK];exact z4
  rw[fZ];refine⟨?_,?_⟩
  ·simp only[Bz];exact hld _ _ _ m1
  ·simp only[bE,eF];refine hQ _ _ rv' hk z7 z8 fun c hc hwc=>?_;rw[z6 c fun e=>(hL.d1 b k2).1 (by rw[←e];exact hwc)];exact kV c hc fun e=>(hrow e).2.1 hwc
theorem aJP{S S':St}{b:Nat}{r:AV}{l:List Int}(lb:b<S'.nx)(hb:S'.h.get b=some (.cells [] false 0))(h:(l= []∧r= .sl b 0 0 0 false∧S'=S)∨(fP 1 S S' r l.length (aP l)∧l≠ [])):bK .i64 S' r l∧r.cells=some [r]∧∀c,bD r=some c→c=b∨S.nx≤c:=by
 rcases h with⟨rfl,rfl,rfl⟩ | ⟨h,_⟩
 ·exact⟨.inr ⟨b,0,0,false,[],rfl,Ah _,lb,by unfold cN;rw[hb];rfl,fun i x hi=>by simp at hi⟩,rfl,fun c hc=>by cases hc;exact .inl rfl⟩
 ·exact⟨h.is,h.cells,fun c hc=>.inr (h.blk hc).1⟩
def YnR(W:St)(F:Fr)(k p:AV)(lw lp:List Int)(F':Fr)(Z:St)(ps:List iJ):Prop:=ps= [⟨13,W.nx+13,.cells [.int .i64 0,.int .i64 0,.int .i64 0,.nilsl,.nilsl,.nilsl] false 0⟩]∧Same W Z∧W.nx+15≤Z.nx∧(∀j,j<35→j≠12→aB j F'=aB j F)∧aB 12 F'= .ptr (W.nx+13) 0∧∃r1 r2,aB 47 F'= .agg [k,p,.int .i64 0,.nilsl,r1,r2]∧bK .i64 Z r1 lw∧bK .i64 Z r2 lp∧∀c,(bD r1=some c∨bD r2=some c)→W.nx≤c∧c≠W.nx+13
theorem aMr{W Y:St}{F:Fr}{xb:Nat}{k p:Int}{f xa xw xp:AV}{lw lp:List Int}(p10:aB 10 F= .ptr xb 0)(hb:W.h.get xb=some (.cells [.int .i64 k,.int .i64 p,f,xa,xw,xp] false 0))(lb:xb<W.nx)(h2:bK .i64 W xw lw)(h3:bK .i64 W xp lp)(b2:lw.length≤100000)(b3:lp.length≤100000)
  (hY:Same W Y) (nY:Y.nx=W.nx+15):fK fns (fun _=>False) W.h W.nx ynP 0 F Y [] none (YnR W F (.int .i64 k) (.int .i64 p) lw lp):=by
 have s2:=bK.self h2;have s3:=bK.self h3;unfold ynP;simp only[↓sU,sD,rE,↓reduceIte,rA,p10,aC,aU,aD,eC hb,dE hb,dC hb,lb,Al,s2,aAc];obtain⟨U1,hU1⟩:∃U:St,U=⟨Y.h.set (W.nx+4) (some (.cells [] false 0)),Y.nx⟩:=⟨_,rfl⟩;have sU1:Same W U1:=by rw[hU1];exact⟨hY.1,fun c hc=>by simp only;rw[T.get_set,if_neg (by omega)];exact hY.2 c hc⟩
 have gU1:U1.h.get (W.nx+4)=some (.cells [] false 0):=by rw[hU1];simp only;rw[T.get_set,if_pos rfl]
 have nU1:U1.nx=W.nx+15:=by rw[hU1];exact nY
 obtain⟨r1,V1,e1,v1,q1⟩:=zW gU1 (h2.same sU1) b2;have gV1:=(v1.2 _ (by omega)).trans gU1;obtain⟨i1,c1,k1⟩:=aJP (by have:=v1.1;omega) gV1 q1;refine qF rfl (by rw[dF rfl];simp only[↓sU,sD,rE,↓reduceIte,rA];rw[←hU1];exact e1) ?_ ?_
 ·rw[dF rfl,←hU1];exact⟨v1.1,fun c hc _=>v1.2 c (by omega)⟩
 rw[dF rfl];have sV1:=sU1.trans v1;simp only[↓sU,sD,rE,↓reduceIte,rA,p10,aC,aU,aD,dM hb,lb,Al,s3,aAc];obtain⟨U2,hU2⟩:∃U:St,U=⟨V1.h.set (W.nx+8) (some (.cells [] false 0)),V1.nx⟩:=⟨_,rfl⟩;have sU2:Same W U2:=by rw[hU2];exact⟨sV1.1,fun c hc=>by simp only;rw[T.get_set,if_neg (by omega)];exact sV1.2 c hc⟩
 have gU2:U2.h.get (W.nx+8)=some (.cells [] false 0):=by rw[hU2];simp only;rw[T.get_set,if_pos rfl]
 have nU2:U2.nx=V1.nx:=by rw[hU2]
 have nV1:=v1.1;have i1U:bK .i64 U2 r1 lw:=eO i1 (by omega) fun c hc=>by
  rw[hU2];simp only;rw[T.get_set,if_neg (by rcases k1 c hc with h | h<;>omega)]
 obtain⟨r2,V2,e2,v2,q2⟩:=zW gU2 (h3.same sU2) b3;have gV2:=(v2.2 _ (by omega)).trans gU2;obtain⟨i2,c2,k2⟩:=aJP (by have:=v2.1;omega) gV2 q2;refine qF rfl (by rw[dF rfl];simp only[↓sU,sD,rE,↓reduceIte,rA];rw[←hU2];exact e2) ?_ ?_
 ·rw[dF rfl,←hU2];exact⟨v2.1,fun c hc _=>v2.2 c (by omega)⟩
 rw[dF rfl];have nV2:=v2.1;have hB:∀ (F:Fr) (h:Ev.T AB),aB 36 F= .int .i64 k→aB 38 F= .int .i64 p→aB 42 F=r1→aB 46 F=r2→fV (.build [.int .i64 0,.int .i64 0,.int .i64 0,.nilsl,.nilsl,.nilsl] [(0,1,.t 36),(1,1,.t 38),(4,1,.t 42),(5,1,.t 46)]) F h=some (.agg [.int .i64 k,.int .i64 p,.int .i64 0,.nilsl,r1,r2]):=fun F h h1 h2 h3 h4=>by
  show(aZ (eS _ (eB F [(0,1,.t 36),(1,1,.t 38),(4,1,.t 42),(5,1,.t 46)])) fun cs=>some (AV.agg cs))=_;simp only[eB,show(cL.t 36).val F= .int .i64 k from h1,show(cL.t 38).val F= .int .i64 p from h2,show(cL.t 42).val F=r1 from h3,show(cL.t 46).val F=r2 from h4,eS,cO,c1,c2,aK];rfl
 simp only[↓sU,sD,rE,↓reduceIte,rA,hB,kK,nP];refine⟨rfl,sU2.trans v2,by omega,fun j hj hj2=>?_,by simp only[↓sU,sD,rE,↓reduceIte,rA],r1,r2,by simp only[↓sU,sD,rE,↓reduceIte,rA],i1U.same v2,i2,fun c hc=>?_⟩
 ·simp only[cE]
  repeat rw[if_neg (by omega)]
 ·rcases hc with hc | hc
  ·rcases k1 c hc with h | h<;>omega
  ·rcases k2 c hc with h | h<;>omega
theorem aNX{ops:List AO}{W:St}{F:Fr}{inr:Bool}{xb:Nat}{k p:Int}{f xa xw xp:AV}{lw lp:List Int}{Q:Out→bH→St→Prop}(he:ops=ynP++ynX)(p10:aB 10 F= .ptr xb 0)(hb:W.h.get xb=some (.cells [.int .i64 k,.int .i64 p,f,xa,xw,xp] false 0))(lb:xb<W.nx)(h2:bK .i64 W xw lw)(h3:bK .i64 W xp lp)(b2:lw.length≤100000)(b3:lp.length≤100000)
  (hQ:∀F' Z r1 r2 yb,(∀j,j<35→j≠12→aB j F'=aB j F)→aB 12 F'= .ptr yb 0→Same W Z→W.nx≤yb→yb<Z.nx→Z.h.get yb=some (.cells [.int .i64 k,.int .i64 p,.int .i64 0,.nilsl,r1,r2] false 0)→bK .i64 Z r1 lw→bK .i64 Z r2 lp→(∀c,(bD r1=some c∨bD r2=some c)→W.nx≤c∧c≠yb)→Q .normal ⟨F',inr⟩ Z):iH fns (.drw ops) ⟨F,inr⟩ W Q:=by
 have hlen:ops.length=15:=by rw[he];rfl
 refine nQ (K:=14) (R:=YnR W F (.int .i64 k) (.int .i64 p) lw lp) he rfl rfl (fun S1 s h n=>aMr p10 hb lb h2 h3 b2 b3 s (by rw[n,hlen])) ?_;rintro F' S' ps hs ls ⟨rfl,sZ,nZ,hk,p12,r1,r2,p47,i1,i2,hbk⟩ hlast hld;have m1:∀i,i<14→Nat.testBit 16383 i=true:=by decide
 unfold ynX;refine jP (v:=.undef) (S1:=⟨(S'.h.set (W.nx+13) (some (.cells [.int .i64 0,.int .i64 0,.int .i64 0,.nilsl,.nilsl,.nilsl] false 0))).set (W.nx+13) (some (.cells [.int .i64 k,.int .i64 p,.int .i64 0,.nilsl,r1,r2] false 0)),S'.nx⟩) (hlast _ m1) (fun call=>?_) ?_
 ·rw[dF (show Nat.testBit 16383 13=true by decide),dN];simp only[fD,p12,p47,bB,aK];exact kD (S:=⟨S'.h.set (W.nx+13) (some (.cells [.int .i64 0,.int .i64 0,.int .i64 0,.nilsl,.nilsl,.nilsl] false 0)),S'.nx⟩) (n:=6) (by simp only;rw[T.get_set,if_pos rfl]) rfl rfl
 rw[dF (show Nat.testBit 16383 13=true by decide)];rw[fZ];refine⟨?_,?_⟩
 ·simp only[Bz];exact hld _ _ _ m1
 ·simp only[bE,eF];have kS:∀c,c≠W.nx+13→((S'.h.set (W.nx+13) (some (.cells [.int .i64 0,.int .i64 0,.int .i64 0,.nilsl,.nilsl,.nilsl] false 0))).set (W.nx+13) (some (.cells [.int .i64 k,.int .i64 p,.int .i64 0,.nilsl,r1,r2] false 0))).get c=S'.h.get c:=fun c hc=>by rw[T.get_set,if_neg hc,T.get_set,if_neg hc]
  refine hQ _ _ r1 r2 (W.nx+13) hk p12 ⟨sZ.1,fun c hc=>(kS c (by omega)).trans (sZ.2 c hc)⟩ (by omega) (by show W.nx+13<S'.nx;omega) (by simp only;rw[T.get_set,if_pos rfl]) (eO i1 (Ah _) fun c hc=>kS c (hbk c (.inl hc)).2) (eO i2 (Ah _) fun c hc=>kS c (hbk c (.inr hc)).2) fun c hc=>hbk c hc
theorem aMZ{ops:List AO}{X:St}{F:Fr}{inr:Bool}{gb kb kq:Nat}{pv nv iv v13 fv ov jv:AV}{j:Nat}{c:Int}{Q:Out→bH→St→Prop}(he:ops=clP++clX)(p5:aB 5 F= .ptr gb 0)(p13:aB 13 F=v13)(p16:aB 16 F= .int .i64 (j:Int))(p2:aB 2 F=fv)(p3:aB 3 F=ov)(p4:aB 4 F=jv)(gg:X.h.get gb=some (.cells [pv,nv,iv] false 0))(lg:gb<X.nx)(sg:cC (.agg [pv,nv,iv]) (.agg [pv,nv,iv])=true)(i1:eU (.slice 1) v13 j=some (.ptr kb kq))(lk:kb<X.nx)(i3:eH (.ptr kb kq) false 1 X.h=some (.int .i64 c))
  (hc:gH fns (.fn 141 [] []) [.agg [pv,nv,iv],.int .i64 c,fv,ov,jv] ⟨X.h,X.nx+9⟩ fun _ Z=>∀F',(∀j,j<164→aB j F'=aB j F)→Q .normal ⟨F',inr⟩ Z):iH fns (.drw ops) ⟨F,inr⟩ X Q:=by
 have hlen:ops.length=9:=by rw[he];rfl
 refine nQ (W:=fun _=>False) (K:=8) (R:=fun F' Z ps=>ps= []∧Z=⟨X.h,X.nx+9⟩∧(∀j,j<164→aB j F'=aB j F)∧aB 164 F'= .agg [pv,nv,iv]∧aB 168 F'= .int .i64 c∧aB 169 F'=fv∧aB 170 F'=ov∧aB 171 F'=jv) he rfl rfl (fun X1 x1 hh1 nn1=>?_) ?_
 ·unfold clP;simp only[↓sU,sD,rE,↓reduceIte,rA,p2,p3,p4,p5,p13,p16,fR gg,lg,lk,sg,Al,aG,i1,i3];refine⟨by rw[←hh1,←hlen,←nn1],fun j hj=>?_⟩
  repeat rw[if_neg (by omega)]
 rintro F' S' ps hs' ls ⟨rfl,rfl,hk,q1,q2,q3,q4,q5⟩ hlast hld;have m1:∀i,i<8→Nat.testBit 255 i=true:=by decide
 unfold clX;refine vG (hlast _ m1) ?_;simp only[↓sU,sD,rE,↓reduceIte,rA,q1,q2,q3,q4,q5,bE];refine aX hc ?_;intro v Z hQ;rw[fZ];refine⟨?_,?_⟩
 ·simp only[Bz];exact hld _ _ _ m1
 ·simp only[bE];exact hQ _ fun j hj=>by rw[cE,if_neg (by omega)];exact hk j hj
def ofL(n:Nat)(reps:List Nat):List Int:=(List.range n).map fun r=>if r∈reps then((reps.idxOf r+1:Nat):Int) else 0
theorem oB{n:Nat}{reps:List Nat}:(ofL n reps).length=n:=by unfold ofL;rw[Aj,Bk]
theorem aAB{n r:Nat}{reps:List Nat}(h:r<n):(ofL n reps).getD r 0=if r∈reps then((reps.idxOf r+1:Nat):Int) else 0:=by
 unfold ofL;rw[Ad,Aq,Bl h];rfl
theorem aKe{n r:Nat}{reps:List Nat}(h:r<n)(hr:r∉reps):ofL n (reps++ [r])=(ofL n reps).set r ((reps.length+1:Nat):Int):=by
 refine nF (by rw[Ap,oB,oB]) fun j hj=>?_;rw[oB] at hj;rw[fX (by rw[oB];exact h),aAB hj,aAB hj,List.idxOf_append];by_cases e:j=r
 ·subst e;rw[if_pos rfl,if_pos (by simp),if_neg hr];simp
 ·rw[if_neg e];by_cases hq:j∈reps
  ·rw[if_pos hq,if_pos (by simp [hq]),if_pos hq]
  ·simp [hq,e]
structure XC where
 (jb ob qb:Nat) (ps x3 nv iv fv av:AV)
def XC.W(C:XC)(c:Nat):Prop:=c=C.jb∨c=C.ob∨c=C.qb
structure oF(C:XC)(P:Nat→Prop)(g:aR)(S0 X:St)(m:LyS)(pl:List Int):Prop where
 b:oV C.W P g S0 X m
 gj:X.h.get C.jb=some (.cells [C.ps,m.na,m.ia,C.x3,C.av,.sl C.qb 0 g.nodes.length g.nodes.length false] false 0)
 go:X.h.get C.ob=some (.cells (aP (ofL g.infos.length m.reps)) false 0)
 gq:X.h.get C.qb=some (.cells (aP pl) false 0)
 n1:C.jb≠C.ob∧C.jb≠C.qb∧C.ob≠C.qb
 pll:pl.length=g.nodes.length
 s:Same S0 X
section
variable {C:XC}{P P':Nat→Prop}{g:aR}{S0 X X':St}{m m':LyS}{pl:List Int}
theorem XC.wj:C.W C.jb:=.inl rfl
theorem XC.wo:C.W C.ob:=.inr (.inl rfl)
theorem XC.wq:C.W C.qb:=.inr (.inr rfl)
theorem oF.same(h:oF C P g S0 X m pl)(hs:Same X X'):oF C P g S0 X' m pl:=
 have w:=h.b.wg
 ⟨h.b.same hs,(hs.2 _ (w _ XC.wj).2).trans h.gj,(hs.2 _ (w _ XC.wo).2).trans h.go,(hs.2 _ (w _ XC.wq).2).trans h.gq,h.n1,h.pll,h.s.trans hs⟩
theorem oF.but{xb:Nat}(h:oF C P g S0 X m pl)(hx:oK C.W m xb)(hp:¬P xb)(hc:S0.nx≤xb)(hs:bS xb X X'):oF C P g S0 X' m pl:=by
 have w:=h.b.wg;have hw:∀ {c},C.W c→c≠xb:=fun hw e=>hx.1 (by rw[←e];exact hw);have l0:=h.s.1;have k:∀c,c<X.nx→c≠xb→X'.h.get c=X.h.get c:=fun c hl hn=>hs.2 c hl hn;exact⟨h.b.local hs.1 fun c hl _ hpc=>k c hl fun e=>hp (by rw[←e];exact hpc (by rw[e];exact hx)),(k _ (w _ XC.wj).2 (hw XC.wj)).trans h.gj,(k _ (w _ XC.wo).2 (hw XC.wo)).trans h.go,(k _ (w _ XC.wq).2 (hw XC.wq)).trans h.gq,h.n1,h.pll,⟨Ak l0 hs.1,fun c hl=>(k c (by omega) (by omega)).trans (h.s.2 c hl)⟩⟩
theorem oF.mono(h:oF C P g S0 X m pl)(hP:∀c,c<X.nx→P c→P' c):oF C P' g S0 X m pl:=
 ⟨h.b.mono hP,h.gj,h.go,h.gq,h.n1,h.pll,h.s⟩
end
def aOu(X1:St)(cb n:Nat)(row next:List Int)(x2 x3 x4 x5 x10 x11 x12 x13:AV)(k:Nat)(A:bH)(Y:St):Prop:=A.inr=false∧bS cb X1 Y∧∃a,a+k=n∧Y.h.get cb=some (.cells (aP (oE row next a)) true 1)∧aB 2 A.F=x2∧aB 3 A.F=x3∧aB 4 A.F=x4∧aB 5 A.F=x5∧aB 10 A.F=x10∧aB 11 A.F=x11∧aB 12 A.F=x12∧aB 13 A.F=x13∧aB 15 A.F= .int .i64 (a:Int)
theorem aNw{S0 X1:St}{F0:Fr}{jb xb cb s:Nat}{j0 j1 j2 j3 av j5 xa xw xp vk vp x2 x3 x5 x11 x12:AV}{act:List (List Int)}{next:List Int}(h0:Same S0 X1)(hcb:S0.nx≤cb)(hcl:cb<X1.nx)(hjb:jb≠cb)(hxb:xb≠cb)(ljb:jb<X1.nx)(lxb:xb<X1.nx)(ha:aH 1 iX S0 av act)(hn:bK .i64 S0 xa next)(hnl:next.length≤100000)(hs:s<act.length)(hrl:(act.getD s []).length=next.length)(hrow:∀a,a<next.length→∃b:Nat,(act.getD s []).getD a 0=(b:Int)∧b<next.length)
  (gj:X1.h.get jb=some (.cells [j0,j1,j2,j3,av,j5] false 0)) (gx:X1.h.get xb=some (.cells [vk,vp,.int .i64 (s:Int),xa,xw,xp] false 0)) (gc:X1.h.get cb=some (.cells (aP next) true 1)) (p2:aB 2 F0=x2) (p3:aB 3 F0=x3) (p4:aB 4 F0= .ptr jb 0) (p5:aB 5 F0=x5) (p10:aB 10 F0= .ptr xb 0) (p11:aB 11 F0=x11) (p12:aB 12 F0=x12) (p13:aB 13 F0= .sl cb 0 next.length next.length true) (p15:aB 15 F0= .int .i64 ((0:Nat):Int)):
  iH fns qk7 ⟨F0,false⟩ X1 fun o A' Y=>o= .normal∧aOu X1 cb next.length (act.getD s []) next x2 x3 (.ptr jb 0) x5 (.ptr xb 0) x11 x12 (.sl cb 0 next.length next.length true) 0 A' Y:=by
 refine aL (bL (aOu X1 cb next.length (act.getD s []) next x2 x3 (.ptr jb 0) x5 (.ptr xb 0) x11 x12 (.sl cb 0 next.length next.length true)) ?_ next.length _ _ ⟨rfl,bS.refl _ _,0,by omega,gc,p2,p3,p4,p5,p10,p11,p12,p13,p15⟩);clear p2 p3 p4 p5 p10 p11 p12 p13 p15;rintro k ⟨F,inr⟩ X ⟨q0,sX,a,hak,gX,p2,p3,p4,p5,p10,p11,p12,p13,p15⟩;simp only at q0 p2 p3 p4 p5 p10 p11 p12 p13 p15;subst q0;have gxX:=(sX.2 _ lxb hxb).trans gx;have gjX:=(sX.2 _ ljb hjb).trans gj;have s0X:Same S0 X:=⟨Ak h0.1 sX.1,fun c hc=>(sX.2 c (Ae hc h0.1) (by omega)).trans (h0.2 c hc)⟩;refine gC ?_;simp only[↓sU,sD,rE,↓reduceIte,rA,p10,p15,aC,aD,cT gxX,hn.len,Ag];by_cases hlt:a<next.length;rotate_left
 ·refine aN (by simp only[↓sU,sD,rE,↓reduceIte,rA,Aa (show ¬ (a:Int)<((next.length:Nat):Int) by omega)]) (bM ?_);simp only[↓sU,sD,rE,↓reduceIte,rA];obtain rfl:k=0:=by omega
  exact⟨rfl,sX,a,hak,gX,by refine⟨?_,?_,?_,?_,?_,?_,?_,?_,?_⟩<;>simp only[↓sU,sD,rE,↓reduceIte,rA,p2,p3,p4,p5,p10,p11,p12,p13,p15]⟩
 refine aO (by simp only[↓sU,sD,rE,↓reduceIte,rA,Ac (show(a:Int)<((next.length:Nat):Int) by omega)]) (aI ?_);try simp only[↓sU,sD,rE,↓reduceIte,rA]
 have w1:IntKind.i64.wrap ((a:Int)+1)=((a+1:Nat):Int):=by rw[wrap_i64 (by omega) (by omega)];omega
 obtain⟨b,hb,hbl⟩:=hrow a hlt;obtain⟨qb,qq,i1,li,i3⟩:=iQ hn hlt;rw[←jJ s0X li] at i3;obtain⟨rb,rq,ra,r1,r2,r3,r4⟩:=oN ha hs;have r4:=r4 X s0X;obtain⟨ub,uq,u1,lu,u3⟩:=iQ r2 (i:=a) (by omega);rw[hb] at u3;rw[←jJ s0X lu] at u3;have hia:=dT (b:=cb) (o:=true) hbl;have l0X:=s0X.1;have lnX:=sX.1;have lj':jb<X.nx:=Ae ljb lnX;have lx':xb<X.nx:=Ae lxb lnX;have lr':rb<X.nx:=by omega
 have lu':ub<X.nx:=by omega
 have lq':qb<X.nx:=by omega
 have nr:rb≠cb:=by omega
 have nu:ub≠cb:=by omega
 have nq:qb≠cb:=by omega
 have sav:=aH.self ha;have sra:=bK.self r2;have sxa:=bK.self hn;refine aA (aL (iE (fun c=>c=cb) ?_));intro S1 s1;simp only[↓sU,sD,rE,↓reduceIte,rA,p4,p10,p13,p15,bJ,bX,bI,aC,aU,aD,dC gjX,cQ gxX,cT gxX,aG,r1,r4,u1,u3,i1,i3,hia,lj',lx',lr',lu',lq',hjb,hxb,nr,nu,nq,Al,sav,sra,sxa];refine tG (p:=b) (w:=next.getD a 0) (P:=oE (act.getD s []) next a) rfl (by simp only[↓sU,sD,rE,↓reduceIte,rA]) (by simp only[↓sU,sD,rE,↓reduceIte,rA]) (by rw[s1.2 _ (by omega)];exact gX) (by rw[pU];exact hbl) rfl ?_;intro S2 s2 n2 c2;simp only[↓sU,sD,rE,↓reduceIte,rA,bE];refine aJ ?_;simp only[↓sU,sD,rE,↓reduceIte,rA,p15,w1];refine⟨k - 1,by omega,rfl,⟨by show X1.nx≤S2.nx;have:=s1.1;have:=s2.1;omega,fun c hc hne=>(s2.2 c (by have:=s1.1;omega) hne).trans ((s1.2 c (by omega)).trans (sX.2 c hc hne))⟩,a+1,by omega,?_,by refine⟨?_,?_,?_,?_,?_,?_,?_,?_,?_⟩<;>simp only[↓sU,sD,rE,↓reduceIte,rA,p2,p3,p4,p5,p10,p11,p12,p13]⟩;show S2.h.get cb=some (AB.cells (aP ((oE (act.getD s []) next a).set ((act.getD s []).getD a 0).toNat (next.getD a 0))) true 1);rw[hb];exact c2
def LxT(C:XC)(g:aR)(gb:Nat)(F:Fr):Prop:=aB 2 F=C.fv∧aB 3 F= .sl C.ob 0 g.infos.length g.infos.length false∧aB 4 F= .ptr C.jb 0∧aB 5 F= .ptr gb 0
def HdX(C:XC)(P:Nat→Prop)(g:aR)(S0 Xe Xs:St)(m:LyS)(pl first row next:List Int)(s gb yb:Nat)(k p r1 r2 v13 x11:AV)(o:Out)(A:bH)(Z:St):Prop:=o= .normal∧A.inr=false∧∃m',oF C P g S0 Z m' pl∧m'.l=m.l∧m'.reps=(lC m.reps (first.getD s 0).toNat).1∧fY C.W m Xe m' Z∧(Xs.nx≤Z.nx∧∀c,c<Xs.nx→oK C.W m c→c≠yb→bD v13≠some c→Z.h.get c=Xs.h.get c)∧Z.h.get yb=some (.cells [k,p,.int .i64 ((lC m.reps (first.getD s 0).toNat).2:Int),.nilsl,r1,r2] false 0)∧oK C.W m' yb∧yb<Z.nx∧Z.h.get gb=some (.cells [C.ps,C.nv,C.iv] false 0)∧oK C.W m' gb∧gb<Z.nx∧bK .i64 Z v13 (oE row next next.length)∧(∀c,bD v13=some c→oK C.W m' c)∧(∀c,(bD r1=some c∨bD r2=some c)→oK C.W m' c)∧LxT C g gb A.F∧aB 11 A.F=x11∧aB 12 A.F= .ptr yb 0∧aB 13 A.F=v13
theorem aNZ{C:XC}{P:Nat→Prop}{g:aR}{S0 Xe X:St}{m:LyS}{pl first:List Int}{act:List (List Int)}{F:Fr}{s gb xb yb cb:Nat}{k p xa xw xp r1 r2 x11:AV}{next:List Int}(hS:oF C P g S0 X m pl)(hPy:¬P yb)(hPc:¬P cb)(hXe:fY C.W m Xe m X)(hey:Xe.nx≤yb)(hec:Xe.nx≤cb)(hcb:S0.nx≤cb)(hyb:S0.nx≤yb)(nyc:yb≠cb)(nxc:xb≠cb)(nxy:xb≠yb)(ngc:gb≠cb)(ngy:gb≠yb)(pgb:oK C.W m gb)(pxb:oK C.W m xb)(pyb:oK C.W m yb)(pcb:oK C.W m cb)(lgb:gb<X.nx)(lxb:xb<X.nx)(lyb:yb<X.nx)(lcb:cb<X.nx)
  (hr12:∀c,(bD r1=some c∨bD r2=some c)→oK C.W m c∧c<X.nx)
  (ha:aH 1 iX S0 C.av act) (hf:bK .i64 S0 C.fv first) (hi:aH 2 cA S0 C.iv g.infos) (hn:bK .i64 S0 xa next) (hnl:next.length≤100000) (hs:s<act.length) (hs':s<first.length) (hrl:(act.getD s []).length=next.length) (hrow:∀a,a<next.length→∃b:Nat,(act.getD s []).getD a 0=(b:Int)∧b<next.length) (hfr:∃r:Nat,first.getD s 0=(r:Int)∧r<g.infos.length) (hreps:m.reps.length≤100000)
  (gx:X.h.get xb=some (.cells [k,p,.int .i64 (s:Int),xa,xw,xp] false 0)) (gy:X.h.get yb=some (.cells [k,p,.int .i64 0,.nilsl,r1,r2] false 0)) (gg:X.h.get gb=some (.cells [C.ps,C.nv,C.iv] false 0)) (gc:X.h.get cb=some (.cells (aP next) true 1)) (hT:LxT C g gb F) (p10:aB 10 F= .ptr xb 0) (p11:aB 11 F=x11) (p12:aB 12 F= .ptr yb 0) (p13:aB 13 F= .sl cb 0 next.length next.length true):
  iH fns aPp ⟨F,false⟩ X (HdX C P g S0 Xe X m pl first (act.getD s []) next s gb yb k p r1 r2 (.sl cb 0 next.length next.length true) x11):=by
 obtain⟨p2,p3,p4,p5⟩:=hT;obtain⟨r,hr,hrl'⟩:=hfr;have hrt:(first.getD s 0).toNat=r:=by omega
 obtain⟨fb,fq,f1,lfb,f3⟩:=iQ hf hs';rw[hr] at f3;rw[←jJ hS.s lfb] at f3;obtain⟨d1,d2,d3⟩:=hS.n1;have wg:=hS.b.wg;have hio:=dT (b:=C.ob) (o:=false) hrl';have ldo:=sR hS.go (show r<(ofL g.infos.length m.reps).length by rw[oB];exact hrl');rw[aAB hrl'] at ldo;refine bQ ?_;simp only[↓sU,sD,rE,↓reduceIte,rA,p2,p10,aC,aD,cQ gx,aG,f1,f3];refine aA (aY (Q:=fun o A' Z=>o= .normal∧A'.inr=false∧∃m',oF C P g S0 Z m' pl∧m'.l=m.l∧m'.reps=(lC m.reps r).1∧fY C.W m X m' Z∧aB 2 A'.F=C.fv∧aB 3 A'.F= .sl C.ob 0 g.infos.length g.infos.length false∧aB 4 A'.F= .ptr C.jb 0∧aB 5 A'.F= .ptr gb 0∧aB 10 A'.F= .ptr xb 0∧aB 11 A'.F=x11∧aB 12 A'.F= .ptr yb 0∧aB 13 A'.F= .sl cb 0 next.length next.length true∧aB 14 A'.F= .int .i64 (r:Int)) (aA (aJ ?_)) ?_)
 ·simp only[↓sU,sD,rE,↓reduceIte,rA,p3,aG,hio,ldo];by_cases e:r∈m.reps
  ·rw[if_pos e];refine aN (by simp only[↓sU,sD,rE,↓reduceIte,rA,Aa (show ¬ ((m.reps.idxOf r+1:Nat):Int)=0 by omega)]) (aI ?_);exact⟨rfl,rfl,m,hS,rfl,by unfold lC;rw[if_pos e],.refl,by refine⟨?_,?_,?_,?_,?_,?_,?_,?_,?_⟩<;>simp only[↓sU,sD,rE,↓reduceIte,rA,p2,p3,p4,p5,p10,p11,p12,p13]⟩
  ·rw[if_neg e];refine aO (by simp only[↓sU,sD,rE,↓reduceIte,rA];try first | rfl | trivial) ?_;refine aA (aLk (W:=C.W) (P:=P) (g:=g) (S0:=S0) (X:=X) (gb:=gb) (jb:=C.jb) (m:=m) (r:=r) rfl hS.b hS.s.1 (by simp only[↓sU,sD,rE,↓reduceIte,rA,p4]) (by simp only[↓sU,sD,rE,↓reduceIte,rA,p5]) (by simp only[↓sU,sD,rE,↓reduceIte,rA]) gg hS.gj lgb XC.wj (aH.same (E:=cA) bO hi hS.s) hrl' hreps ?_);intro F' Z ia' hk hbZ KZ gjZ kZ;have g2:=hk 2 (by omega);have g3:=hk 3 (by omega);have g4:=hk 4 (by omega);have g5:=hk 5 (by omega);have g10:=hk 10 (by omega);have g11:=hk 11 (by omega);have g12:=hk 12 (by omega);have g13:=hk 13 (by omega);have g14:=hk 14 (by omega);simp only[↓sU,sD,rE,↓reduceIte,rA,p2,p3,p4,p5,p10,p11,p12,p13] at g2 g3 g4 g5 g10 g11 g12 g13 g14;have goZ:=(kZ C.ob (wg _ XC.wo).2 XC.wo (Bq d1)).trans hS.go;have gqZ:=(kZ C.qb (wg _ XC.wq).2 XC.wq (Bq d2)).trans hS.gq;have hil:=hbZ.inf.len;rw[Aj,Am,Bi] at hil;try simp only[↓sU,sD,rE,↓reduceIte,rA]
   refine aJ ?_;simp only[↓sU,sD,rE,↓reduceIte,rA,g3,g4,g14,bJ,bI,aC,aD,cQ gjZ,hil,aG,hio];refine fJ (fun call=>by simp only[↓sU,sD,rE,↓reduceIte,rA,dN,cO];exact qL (S:=Z) goZ (by rw[oB];exact hrl')) ?_;simp only[↓sU,sD,rE,↓reduceIte,rA];have lV:∀c,c≠C.ob→(Z.h.set C.ob (some (.cells (aP ((ofL g.infos.length m.reps).set r ((m.reps.length+1:Nat):Int))) false 0))).get c=Z.h.get c:=fun c hc=>by rw[T.get_set,if_neg hc]
   refine⟨{m with ia:=ia',reps:=m.reps++ [r]},⟨hbZ.local (Ah _) fun c _ hw _=>lV c fun e=>hw (by rw[e];exact XC.wo),(lV _ d1).trans gjZ,?_,(lV _ (Bq d3)).trans gqZ,hS.n1,hS.pll,?_⟩,rfl,by unfold lC;rw[if_neg e],KZ.trans (.off (Ah _) fun c _ hp=>lV c fun e=>hp.1 (by rw[e];exact XC.wo)),by refine⟨?_,?_,?_,?_,?_,?_,?_,?_,?_⟩<;>simp only[↓sU,sD,rE,↓reduceIte,rA,g2,g3,g4,g5,g10,g11,g12,g13,g14]⟩
   ·try simp only
    rw[T.get_set,if_pos rfl,aKe hrl' e]
   ·have h1:=hS.b.same0 KZ hS.s;exact⟨h1.1,fun c hc=>(lV c (by have:=(wg _ XC.wo).1;omega)).trans (h1.2 c hc)⟩
 clear p2 p3 p4 p5 p10 p11 p12 p13;rintro o ⟨F1,inr⟩ Z ⟨rfl,q0,m',hZ,e1,e2,KZ,p2,p3,p4,p5,p10,p11,p12,p13,p14⟩;simp only at q0 p2 p3 p4 p5 p10 p11 p12 p13 p14;subst q0;obtain⟨gxZ,pxZ⟩:=KZ.2 xb lxb pxb;obtain⟨gyZ,pyZ⟩:=KZ.2 yb lyb pyb;obtain⟨ggZ,pgZ⟩:=KZ.2 gb lgb pgb;obtain⟨gcZ,pcZ⟩:=KZ.2 cb lcb pcb;rw[gx] at gxZ;rw[gy] at gyZ;rw[gg] at ggZ;rw[gc] at gcZ;have lZ:=KZ.1;have hin:r∈m'.reps:=by rw[e2];exact aC7.1
 have hidx:((m'.reps.idxOf r:Nat):Int)=((lC m.reps r).2:Int):=by
  rw[e2];unfold lC;split
  ·rfl
  ·rename_i h;rw[List.idxOf_append,if_neg h];simp
 have ldo':=sR hZ.go (show r<(ofL g.infos.length m'.reps).length by rw[oB];exact hrl');rw[aAB hrl',if_pos hin] at ldo';have hbd:m'.reps.idxOf r<200000:=by
  have h1:=List.idxOf_lt_length_iff.2 hin;have h2:=aFW (reps:=m.reps) (r:=r);rw[←e2] at h2;omega
 have w0:IntKind.i64.wrap (((m'.reps.idxOf r+1:Nat):Int) - 1)=((m'.reps.idxOf r:Nat):Int):=by rw[wrap_i64 (by omega) (by omega)];omega
 refine bQ ?_;simp only[↓sU,sD,rE,↓reduceIte,rA,p3,p12,p14,aG,hio,ldo',w0,aC,aD];refine fJ (v:=.undef) (S1:=⟨Z.h.set yb (some (.cells [k,p,.int .i64 ((m'.reps.idxOf r:Nat):Int),.nilsl,r1,r2] false 0)),Z.nx⟩) (fun call=>?_) ?_
 ·simp only[↓sU,sD,rE,↓reduceIte,rA,dN,cO];exact stc (cs:=[k,p,.int .i64 0,.nilsl,r1,r2]) (p:=2) (S:=Z) gyZ (by simp)
 simp only[↓sU,sD,rE,↓reduceIte,rA];rw[hidx];obtain⟨V,hV⟩:∃V:St,V=⟨Z.h.set yb (some (.cells [k,p,.int .i64 ((lC m.reps r).2:Int),.nilsl,r1,r2] false 0)),Z.nx⟩:=⟨_,rfl⟩;rw[←hV];have nV:V.nx=Z.nx:=by rw[hV]
 have sZV:bS yb Z V:=by rw[hV];exact(bS.refl yb Z).put _
 have hLV:=hZ.but pyZ hPy hyb sZV;have gyV:V.h.get yb=some (.cells [k,p,.int .i64 ((lC m.reps r).2:Int),.nilsl,r1,r2] false 0):=by rw[hV];simp only;rw[T.get_set,if_pos rfl]
 have gxV:=(sZV.2 _ (by omega) nxy).trans gxZ;have ggV:=(sZV.2 _ (by omega) ngy).trans ggZ;have gcV:=(sZV.2 _ (by omega) (Bq nyc)).trans gcZ;refine bQ ?_;simp only[↓sU,sD,rE,↓reduceIte,rA];have njc:C.jb≠cb:=fun e=>pcZ.1 (by rw[←e];exact XC.wj);refine aY (aNw (S0:=S0) (jb:=C.jb) (xb:=xb) (cb:=cb) (s:=s) (xa:=xa) (xw:=xw) (xp:=xp) (vk:=k) (vp:=p) (x2:=C.fv) (x3:=.sl C.ob 0 g.infos.length g.infos.length false) (x5:=.ptr gb 0) (x11:=x11) (x12:=.ptr yb 0) (act:=act) hLV.s hcb (by omega) njc nxc (by have:=(hLV.b.wg _ XC.wj).2;exact this) (by omega) ha hn hnl hs hrl hrow hLV.gj gxV gcV (by simp only[↓sU,sD,rE,↓reduceIte,rA,p2]) (by simp only[↓sU,sD,rE,↓reduceIte,rA,p3]) (by simp only[↓sU,sD,rE,↓reduceIte,rA,p4]) (by simp only[↓sU,sD,rE,↓reduceIte,rA,p5]) (by simp only[↓sU,sD,rE,↓reduceIte,rA,p10]) (by simp only[↓sU,sD,rE,↓reduceIte,rA,p11]) (by simp only[↓sU,sD,rE,↓reduceIte,rA,p12]) (by simp only[↓sU,sD,rE,↓reduceIte,rA,p13]) (by simp only[↓sU,sD,rE,↓reduceIte,rA];try rfl)) ?_;rintro o A' Y ⟨rfl,q0,sY,a,hak,gcY,q2,q3,q4,q5,q10,q11,q12,q13,q15⟩;obtain rfl:a=next.length:=by omega
 have hLY:=hLV.but pcZ hPc hcb sY;have lY:=sY.1;have kall:∀c,c<Z.nx→c≠yb→c≠cb→Y.h.get c=Z.h.get c:=fun c hc h1 h2=>(sY.2 c (by omega) h2).trans (sZV.2 c hc h1);have hv13:fP 1 Xe Y (.sl cb 0 next.length next.length true) (oE (act.getD s []) next next.length).length (aP (oE (act.getD s []) next next.length)):=.inr ⟨cb,by rw[pU],hec,by omega,gcY,by rw[mI,Dh]⟩;have KT:=hXe.trans KZ;rw[←hrt] at e2;refine⟨rfl,q0,m',hLY,e1,e2,⟨by have:=KT.1;omega,fun c hc hp=>⟨(kall c (by have:=KT.1;omega) (by omega) (by omega)).trans (KT.2 c hc hp).1,(KT.2 c hc hp).2⟩⟩,⟨by omega,fun c hc hp h1 h2=>(kall c (by omega) h1 (fun e=>h2 (by rw[e];rfl))).trans (KZ.2 c hc hp).1⟩,?_,pyZ,by omega,(sY.2 _ (by omega) ngc).trans ggV,pgZ,by omega,hv13.is,fun c hc=>by cases hc;exact pcZ,fun c hc=>(KZ.2 c (hr12 c hc).2 (hr12 c hc).1).2,⟨q2,q3,q4,q5⟩,q11,q12,q13⟩;rw[hrt];exact(sY.2 _ (by omega) nyc).trans gyV
end Go.Ev.Gl
