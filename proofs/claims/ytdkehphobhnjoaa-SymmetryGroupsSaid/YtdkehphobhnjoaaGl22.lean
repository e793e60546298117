import Derived.Test.YtdkehphobhnjoaaGl21
open Nat renaming reduceEqDiff → rE, reduceAdd → rA
set_option maxHeartbeats 16000000
set_option linter.unusedSimpArgs false
set_option linter.unusedVariables false
namespace Go.Ev.Gl
variable {fns:T dE}
theorem lW{S:St}{v:AV}{L:List (List Int)}{i:Nat}(h:aN 1 kJ S v L)(hi:i<L.length):∃b q a,eU (.slice 1) v i=some (.ptr b q)∧bN .i64 S a (L.getD i [])∧b<S.nx∧∀X,Same S X→dT (.ptr b q) false 1 X.h=some a:=by
 obtain⟨_,b,q,h1,h2,_,⟨a,rfl,h3⟩,_,h4⟩:=aN.at h (by decide) (aCi hi);have h5:=h4 0 a rfl;rw[Bj] at h5;exact⟨b,q,a,h1,h3,h2,fun X hX=>by rw[jO hX h2];exact h5⟩
def aOP(S:St)(nv iv mv:AV)(g:aW)(L:List (List Int))(k:Nat)(A:bH)(X:St):Prop:=A.inr=false∧Same S X∧S.nx<X.nx∧X.h.get S.nx=some (.cells [.int .i64 g.players,nv,iv] false 0)∧∃j:Nat,j+k=L.length∧iQ g L=iQ g (L.drop j)∧aD 1 A.F=mv∧aD 2 A.F= .ptr S.nx 0∧aD 6 A.F= .int .i64 (j:Int)
theorem aAq{S:St}{nv iv mv:AV}{g:aW}{L:List (List Int)}(H:Has fns)(hn:aN 6 bT S nv g.nodes)(hi:aN 2 cV S iv g.infos)(hln:g.nodes.length≤100000)(hm:aN 1 kJ S mv L):
  fA fns (.fn 32 [] []) [.agg [.int .i64 g.players,nv,iv],mv] S fun r S'=>r= .int .i64 (fR g L)∧Same S S':=by
 have snv:=aN.self hn;have siv:=aN.self hi;refine bP H.f32 (by simp) ?_;simp only[↓sU,sD,rE,↓reduceIte,rA];refine bE ?_;refine dG (by simp only[↓sU,sD,rE,↓reduceIte,rA];exact bJ _) ?_;intro S1 s1 n1 g1;simp only[↓sU,sD,rE,↓reduceIte,rA];refine eG ?_;simp only[↓sU,sD,rE,↓reduceIte,rA,gG g1];refine aY ?_;simp only[↓sU,sD,rE,↓reduceIte,rA];refine aP (aBQ H (aN.same (E:=bT) bI hn s1) (aN.same (E:=cV) cE hi s1) hln) ?_;rintro _ S2 ⟨rfl,s2⟩;try simp only[↓sU,sD,rE,↓reduceIte,rA]
 have s12:=s1.trans s2;refine bE ?_;simp only[↓sU,sD,rE,↓reduceIte,rA];by_cases h0:cM g=0;rotate_left
 ·have hE:fR g L=cM g:=by unfold fR;rw[if_pos h0]
  rw[hE];refine aM (by simp only[↓sU,sD,rE,↓reduceIte,rA,Ab (show cM g≠0 from h0)]) ?_;refine bE ?_;simp only[↓sU,sD,rE,↓reduceIte,rA];refine aO ?_;simp only[↓sU,sD,rE,↓reduceIte,rA];exact s12
 refine aK (by simp only[↓sU,sD,rE,↓reduceIte,rA,Aa (show ¬cM g≠0 from fun h=>h h0)]) (aI ?_);try simp only[↓sU,sD,rE,↓reduceIte,rA]
 refine eG ?_;simp only[↓sU,sD,rE,↓reduceIte,rA,(aN.same (E:=kJ) firm_sl hm s12).len,Ag];by_cases h16:16<L.length
 ·have hE:fR g L=4:=by unfold fR;rw[if_neg (fun h=>h h0),if_pos h16]
  rw[hE];refine aM (by simp only[↓sU,sD,rE,↓reduceIte,rA,Ab (show((L.length:Nat):Int)>16 by omega)]) ?_;refine bE ?_;simp only[↓sU,sD,rE,↓reduceIte,rA];refine aO ?_;simp only[↓sU,sD,rE,↓reduceIte,rA];exact s12
 have hE:fR g L=iQ g L:=by unfold fR;rw[if_neg (fun h=>h h0),if_neg h16]
 rw[hE];refine aK (by simp only[↓sU,sD,rE,↓reduceIte,rA,Aa (show ¬ ((L.length:Nat):Int)>16 by omega)]) (aI ?_);try simp only[↓sU,sD,rE,↓reduceIte,rA]
 have G:=kA h0;have m2:=s2.1;have hg2:S2.h.get S.nx=some (.cells [.int .i64 g.players,nv,iv] false 0):=(s2.2 _ (by omega)).trans g1;refine aA (aS (Q:=fun o A' X=>(o= .normal∧Same S X∧iQ g L=0)∨(o= .ret∧Same S X∧aD 4 A'.F= .int .i64 (iQ g L))) (aA (aF ?_)) ?_)
 ·simp only[↓sU,sD,rE,↓reduceIte,rA];refine aJ (bB (aOP S nv iv mv g L) ?_ L.length _ _ ⟨rfl,s12,by omega,hg2,0,by omega,rfl,by simp only[↓sU,sD,rE,↓reduceIte,rA],by simp only[↓sU,sD,rE,↓reduceIte,rA],by simp only[↓sU,sD,rE,↓reduceIte,rA];try rfl⟩);clear hg2;rintro k ⟨F,inr⟩ X ⟨q0,hX,lgX,gX,j,hjk,hEj,p1,p2,p6⟩;simp only at q0 p1 p2 p6;subst q0;refine eG ?_;simp only[↓sU,sD,rE,↓reduceIte,rA,p1,p6,(aN.same (E:=kJ) firm_sl hm hX).len,Ag];by_cases hlt:j<L.length;rotate_left
  ·refine aK (by simp only[↓sU,sD,rE,↓reduceIte,rA,Aa (show ¬ (j:Int)<((L.length:Nat):Int) by omega)]) (aU ?_);simp only[↓sU,sD,rE,↓reduceIte,rA];obtain rfl:j=L.length:=by omega
   rw[List.drop_length] at hEj;exact .inl ⟨hX,hEj⟩
  refine aM (by simp only[↓sU,sD,rE,↓reduceIte,rA,Ab (show(j:Int)<((L.length:Nat):Int) by omega)]) (aI ?_);try simp only[↓sU,sD,rE,↓reduceIte,rA]
  have w1:IntKind.i64.wrap ((j:Int)+1)=((j+1:Nat):Int):=by rw[wrap_i64 (by omega) (by omega)];omega
  obtain⟨xb,xq,a,xi,xs,xlt,xl⟩:=lW hm hlt;have xl:=xl X hX;have sa:=bN.self xs;have hxb:xb<X.nx:=Ae xlt hX.1;have himd:=aBK (g:=g) hlt;have hims:=aB2 (g:=g) hlt;generalize L.getD j []=m at *;have l3:=gG gX;have sag:cB (.agg [.int .i64 g.players,nv,iv]) (.agg [.int .i64 g.players,nv,iv])=true:=by
   simp only[cB,jP,snv,siv,eH,iK,Fg,aQ,beq_self_eq_true]
  refine aA (aJ (aA (cR (fun _=>False) ?_)));intro X0 x0;simp only[↓sU,sD,rE,↓reduceIte,rA,p1,p2,p6,l3,lgX,Aq,sag,aE,xi,xl,sa,hxb];refine bX rfl ?_;simp only[↓sU,sD,rE,↓reduceIte,rA];refine aP (aAL (ok:=fT g m) H (aN.same (E:=bT) bI hn (hX.trans x0)) (xs.same (hX.trans x0)) hln (fun h1 h2 _ S' hS'=>aP (uE H (aN.same (E:=bT) bI hn ((hX.trans x0).trans hS')) (aN.same (E:=cV) cE hi ((hX.trans x0).trans hS')) (xs.same ((hX.trans x0).trans hS')) G ⟨h1,h2⟩) fun r S'' h=>by
   obtain⟨e1,a,b,t,e2,e3,_⟩:=h;exact⟨e1,a,b,t,e2,e3⟩)) ?_
  rintro _ X1 ⟨rfl,x1⟩;refine⟨x1,?_⟩;try simp only[↓sU,sD,rE,↓reduceIte,rA]
  have sX1:=(hX.trans x0).trans x1;have gX1:=((x0.trans x1).2 _ lgX).trans gX;have lgX1:S.nx<X1.nx:=Ae lgX (x0.trans x1).1;refine bE ?_;simp only[↓sU,sD,rE,↓reduceIte,rA];by_cases hm0:iL g.nodes.length m (fT g m)=0;rotate_left
  ·rw[hims hm0] at hEj;refine aM (by simp only[↓sU,sD,rE,↓reduceIte,rA,Ab (show iL g.nodes.length m (fT g m)≠0 from hm0)]) ?_;refine bE ?_;simp only[↓sU,sD,rE,↓reduceIte,rA];refine aO ?_;exact .inr ⟨rfl,sX1,by simp only[↓sU,sD,rE,↓reduceIte,rA,hEj]⟩
  refine aK (by simp only[↓sU,sD,rE,↓reduceIte,rA,Aa (show ¬iL g.nodes.length m (fT g m)≠0 from fun h=>h hm0)]) (aI ?_);try simp only[↓sU,sD,rE,↓reduceIte,rA]
  refine aF ?_;simp only[↓sU,sD,rE,↓reduceIte,rA,p6,w1];exact⟨k - 1,by omega,rfl,sX1,lgX1,gX1,j+1,by omega,by rw[hEj];exact himd hm0,by refine⟨?_,?_,?_⟩<;>simp only[↓sU,sD,rE,↓reduceIte,rA,p1,p2]⟩
 rintro o ⟨F,inr⟩ X (⟨rfl,hX,he0⟩ | ⟨rfl,hX,p4⟩)
 ·try simp only[↓sU,sD,rE,↓reduceIte,rA]
  refine bE ?_;simp only[↓sU,sD,rE,↓reduceIte,rA];refine aO ?_;simp only[↓sU,sD,rE,↓reduceIte,rA,he0];exact hX
 ·simp only at p4;simp only[↓sU,sD,rE,↓reduceIte,rA,p4];exact hX
def aN7(S:St)(nv iv mv:AV)(g:aW)(L:List (List Int))(k:Nat)(A:bH)(X:St):Prop:=A.inr=false∧Same S X∧S.nx<X.nx∧X.h.get S.nx=some (.cells [.int .i64 g.players,nv,iv] false 0)∧∃ (j:Nat) (v:AV) (cs:List AV),j+k=L.length∧jZ 1 S X v j cs∧vO S X v cs ((L.take j).map (imgI g))∧aD 1 A.F=mv∧aD 2 A.F= .ptr S.nx 0∧aD 8 A.F=v∧aD 9 A.F= .int .i64 (j:Int)
theorem aD7{S:St}{nv iv mv:AV}{g:aW}{L:List (List Int)}(H:Has fns)(hn:aN 6 bT S nv g.nodes)(hi:aN 2 cV S iv g.infos)(hln:g.nodes.length≤100000)(hm:aN 1 kJ S mv L):
  fA fns (.fn 9 [] []) [.agg [.int .i64 g.players,nv,iv],mv] S fun r S'=>Same S S'∧∃x y,r= .tup [x,y,.int .i64 (fR g L)]∧(fR g L≠0→x= .nilsl∧y= .nilsl)∧(fR g L=0→∃a b,gF S S' x a∧gF S S' y b∧aLk g L a b):=by
 have snv:=aN.self hn;have siv:=aN.self hi;have sag:cB (.agg [.int .i64 g.players,nv,iv]) (.agg [.int .i64 g.players,nv,iv])=true:=by
  simp only[cB,jP,snv,siv,eH,iK,Fg,aQ,beq_self_eq_true]
 refine bP H.f9 (by simp) ?_;simp only[↓sU,sD,rE,↓reduceIte,rA];refine bE ?_;refine dG (by simp only[↓sU,sD,rE,↓reduceIte,rA];exact bJ _) ?_;intro S1 s1 n1 g1;simp only[↓sU,sD,rE,↓reduceIte,rA];refine eG ?_;simp only[↓sU,sD,rE,↓reduceIte,rA,gG g1];refine aY ?_;simp only[↓sU,sD,rE,↓reduceIte,rA];refine aP (aAq H (aN.same (E:=bT) bI hn s1) (aN.same (E:=cV) cE hi s1) hln (aN.same (E:=kJ) firm_sl hm s1)) ?_;rintro _ S2 ⟨rfl,s2⟩;try simp only[↓sU,sD,rE,↓reduceIte,rA]
 have s12:=s1.trans s2;refine bE ?_;simp only[↓sU,sD,rE,↓reduceIte,rA];by_cases h0:fR g L=0;rotate_left
 ·refine aM (by simp only[↓sU,sD,rE,↓reduceIte,rA,Ab (show fR g L≠0 from h0)]) ?_;refine bE ?_;simp only[↓sU,sD,rE,↓reduceIte,rA];refine aO ?_;simp only[↓sU,sD,rE,↓reduceIte,rA];exact⟨s12,.nilsl,.nilsl,rfl,fun _=>⟨rfl,rfl⟩,fun h=>absurd h h0⟩
 refine aK (by simp only[↓sU,sD,rE,↓reduceIte,rA,Aa (show ¬fR g L≠0 from fun h=>h h0)]) (aI ?_);try simp only[↓sU,sD,rE,↓reduceIte,rA]
 obtain⟨hf,h16,he0⟩:=mY h0;have hAll:∀m∈L,nK g m:=fun m hm=>kF (lO he0 m hm);obtain⟨hin1,hin2⟩:=aF2 hf hAll;have G:=kA hf;have m2:=s2.1;have hg2:S2.h.get S.nx=some (.cells [.int .i64 g.players,nv,iv] false 0):=(s2.2 _ (by omega)).trans g1;refine bE ?_;simp only[↓sU,sD,rE,↓reduceIte,rA];refine aA (aS (Q:=fun o A' X=>o= .normal∧aN7 S nv iv mv g L 0 A' X) (aA (aF ?_)) ?_)
 ·simp only[↓sU,sD,rE,↓reduceIte,rA];refine aJ (bB (aN7 S nv iv mv g L) ?_ L.length _ _ ⟨rfl,s12,by omega,hg2,0,.nilsl,[],by omega,.inl ⟨rfl,rfl,rfl⟩,⟨rfl,fun j hj=>absurd hj (Ce j)⟩,by simp only[↓sU,sD,rE,↓reduceIte,rA],by simp only[↓sU,sD,rE,↓reduceIte,rA],by simp only[↓sU,sD,rE,↓reduceIte,rA],by simp only[↓sU,sD,rE,↓reduceIte,rA];try rfl⟩);clear hg2;rintro k ⟨F,inr⟩ X ⟨q0,hX,lgX,gX,j,v,cs,hjk,hG,hR,p1,p2,p8,p9⟩;simp only at q0 p1 p2 p8 p9;subst q0;refine eG ?_;simp only[↓sU,sD,rE,↓reduceIte,rA,p1,p9,(aN.same (E:=kJ) firm_sl hm hX).len,Ag];by_cases hlt:j<L.length;rotate_left
  ·refine aK (by simp only[↓sU,sD,rE,↓reduceIte,rA,Aa (show ¬ (j:Int)<((L.length:Nat):Int) by omega)]) (aU ?_);simp only[↓sU,sD,rE,↓reduceIte,rA];obtain rfl:k=0:=by omega
   exact⟨rfl,hX,lgX,gX,j,v,cs,hjk,hG,hR,by refine⟨?_,?_,?_,?_⟩<;>simp only[↓sU,sD,rE,↓reduceIte,rA,p1,p2,p8,p9]⟩
  refine aM (by simp only[↓sU,sD,rE,↓reduceIte,rA,Ab (show(j:Int)<((L.length:Nat):Int) by omega)]) (aI ?_);try simp only[↓sU,sD,rE,↓reduceIte,rA]
  have w1:IntKind.i64.wrap ((j:Int)+1)=((j+1:Nat):Int):=by rw[wrap_i64 (by omega) (by omega)];omega
  obtain⟨xb,xq,a,xi,xs,xlt,xl⟩:=lW hm hlt;have xl:=xl X hX;have sa:=bN.self xs;have hxb:xb<X.nx:=Ae xlt hX.1;have hmem:L.getD j []∈L:=by rw[Ad,Ac hlt];exact Bh hlt
  have htk:L.take (j+1)=L.take j++ [L.getD j []]:=by
   rw[Bi,Ac hlt,Ad,Ac hlt];rfl
  generalize L.getD j []=m at *;have AM:=hAll m hmem;have l3:=gG gX;refine aA (aJ (aA (cR (fun _=>False) ?_)));intro X0 x0;simp only[↓sU,sD,rE,↓reduceIte,rA,p1,p2,p9,l3,lgX,Aq,sag,aE,xi,xl,sa,hxb];refine bX rfl ?_;simp only[↓sU,sD,rE,↓reduceIte,rA];refine aP (uE H (aN.same (E:=bT) bI hn (hX.trans x0)) (aN.same (E:=cV) cE hi (hX.trans x0)) (xs.same (hX.trans x0)) G AM.M) ?_;rintro _ X1 ⟨x1,ra,rb,t,rfl,ht,hxi⟩;obtain⟨hra,_⟩:=hxi (ht.2 AM.A);refine⟨x1,?_⟩;simp only[↓sU,sD,rE,↓reduceIte,rA,ex0,ex1,ex2];have hil:(imgI g m).length=g.infos.length:=by simp [imgI]
  rw[←hil] at hra;have hrs:=hra.is;have x01:=x0.trans x1;have sX1:=hX.trans x01;have gX1:=(x01.2 _ lgX).trans gX;have lgX1:S.nx<X1.nx:=Ae lgX x01.1;have hrb:∀c,cL ra=some c→X.nx≤c:=fun c hc=>Ay x0.1 (hra.blk hc).1;refine aF ?_;simp only[↓aC,aB,rE,↓reduceIte,rA,p8];refine fX (oP hrs (by simp only[↓aC,aB,rE,↓reduceIte,rA])) ?_;intro X4 x4 m4 c4;have sX4:=sX1.trans x4;have x04:=x01.trans x4;obtain⟨v',X5,eA,e1,e2,e3,e4⟩:=(hG.step x04).push1 (bytes:=24) (t:=X1.nx) sX4 c4 (by unfold room;omega) (by unfold room;omega);simp only[↓aC,aB,rE,↓reduceIte,rA,p8];refine fD (fun call=>by simp only[↓aC,aB,rE,↓reduceIte,rA,mL];exact eA) ?_;simp only[↓sU,sD,rE,↓reduceIte,rA];refine aF ?_;simp only[↓sU,sD,rE,↓reduceIte,rA,p9,w1];have hvb:∀c,cL v=some c→S.nx≤c∧c<X.nx:=fun c hc=>⟨(hG.blk hc).1,(hG.blk hc).2.1⟩;have hgoff:cL v≠some S.nx:=hG.off gX;have n4:=x04.1;have hk5:∀c,c<X.nx→cL v≠some c→X5.h.get c=X.h.get c:=fun c hc hne=>(e4 c (by omega) hne).trans (x04.2 c hc);refine⟨k - 1,by omega,rfl,⟨by omega,fun c hc=>?_⟩,by omega,(hk5 _ lgX hgoff).trans gX,j+1,v',_,by omega,e1,?_,by refine⟨?_,?_,?_,?_⟩<;>simp only[↓sU,sD,rE,↓reduceIte,rA,p1,p2]⟩
  ·rw[hk5 c (Ae hc hX.1) fun e=>by have:=(hvb c e).1;omega];exact hX.2 c hc
  ·rw[htk,Ej,List.map_singleton];refine hR.push hX.1 (by omega) (fun c hc _ hne=>hk5 c hc hne) (lT (hrs.same x4) (by omega) fun c hc=>e4 c ?_ ?_) (fun c hc=>⟨hrb c hc,?_⟩) fun c hc=>?_
   ·exact aB8 (hrs.same x4) hc
   ·intro e;have:=(hvb c e).2;have:=hrb c hc;omega
   ·rw[e2];intro e;cases e;have:=aB8 hrs hc;have h4:X1.nx≤X4.nx:=x4.1;omega
   ·rw[e2] at hc;cases hc;omega
 rintro o ⟨F,inr⟩ X ⟨rfl,q0,hX,lgX,gX,j,v,cs,hjk,hG,hR,p1,p2,p8,_⟩;simp only at q0 p1 p2 p8;subst q0;obtain rfl:j=L.length:=by omega
 rw[Ea] at hR;have hrows:=hR.is hG (Bc ..).symm;have lnv:=aN.len hn;have liv:=aN.len hi;have hN2:=G.n2;have hNI:=G.ni;try simp only[↓sU,sD,rE,↓reduceIte,rA]
 refine aA (cR (fun _=>False) ?_);intro X0 x0;simp only[↓sU,sD,rE,↓reduceIte,rA,p1,p2,p8,aH,aX,aG,eF gX,lgX,Aq,snv,lnv,Ag];refine bX rfl ?_;simp only[↓sU,sD,rE,↓reduceIte,rA];refine aP (aBX (n:=g.nodes.length) H (by omega) (aN.same (E:=kJ) firm_sl hm (hX.trans x0)) (by omega) hin1) ?_;rintro oa Y1 ⟨y1,a,ha,hoa⟩;refine⟨y1,?_⟩;simp only[↓sU,sD,rE,↓reduceIte,rA,p1,p2,p8,aH,aX,aG,lB gX,lgX,Aq,siv,liv,Ag];refine bX rfl ?_;simp only[↓sU,sD,rE,↓reduceIte,rA];refine aP (aBX (n:=g.infos.length) H (by omega) (aN.same (E:=kJ) firm_sl hrows (x0.trans y1)) (by rw[Bc];omega) hin2) ?_;rintro ob Y2 ⟨y2,b,hb,hob⟩;refine⟨y2,?_⟩;try simp only[↓sU,sD,rE,↓reduceIte,rA]
 refine aO ?_;simp only[↓sU,sD,rE,↓reduceIte,rA];have sfin:=((hX.trans x0).trans y1).trans y2;have low:∀ {S0 S1 X:St} {v:AV} {l:List Int},gF S1 X v l→S0.nx≤S1.nx→gF S0 X v l:=fun h hs=>by
  obtain⟨b,h1,h2,h3,h4⟩:=h;exact⟨b,h1,Ay hs h2,h3,h4⟩
 exact⟨sfin,oa,ob,by rw[h0],fun h=>absurd h0 h,fun _=>⟨a,b,low (ha.same y2) (hX.trans x0).1,low hb ((hX.trans x0).trans y1).1,hoa,hob⟩⟩
abbrev K2:=Nat×Nat
def xT{K V:Type} [DecidableEq K](k:K):List (K×V)→Nat→Option (Nat×V)
 | [],_=>none
 | (k',v)::l,i=>if k=k' then some (i,v) else xT k l (i+1)
section
variable {K V:Type} [DecidableEq K]{l:List (K×V)}{k k':K}{v:V}
end
def aIg{K V:Type}(ek:K→AV)(ev:V→AV)(l:List (K×V)):List (AV×AV):=l.map fun p=>(ek p.1,ev p.2)
section
variable {K V:Type} [DecidableEq K]{ek:K→AV}{ev:V→AV}{sk:nZ}
theorem aCf(he:∀a b,eqv sk (ek a) (ek b)=some (decide (a=b))){k:K}:∀ {l:List (K×V)} {i:Nat},nO sk (ek k) (aIg ek ev l) i=some ((xT k l i).map fun p=>(p.1,ev p.2))
 | [],i=>rfl
 | (k',v)::l,i=>by
  show(aZ (eqv sk (ek k) (ek k')) fun b=>bL b (some (some (i,ev v))) (nO sk (ek k) (aIg ek ev l) (Nat.succ i)))=_;rw[he,aT];show _=some ((if k=k' then some (i,v) else xT k l (i+1)).map fun p=>(p.1,ev p.2));by_cases e:k=k'
  ·rw[Ab e,aQ,if_pos e];rfl
  ·rw[Aa e,aV,if_neg e];exact aCf he
theorem aAv(he:∀a b,eqv sk (ek a) (ek b)=some (decide (a=b))){k:K}{l:List (K×V)}:mJ sk (ek k) (aIg ek ev l)=some ((xT k l 0).map fun p=>(p.1,ev p.2)):=by
 unfold mJ;rw[he,aT];exact aCf he
end
section
variable {u:K2→Option K2}{E:K2→K2→Prop}{k a o r r' x:K2}
end
section
variable {g:aW}{L:List (List Int)}{m:List Int}{first:List Int}{act act':List (List Int)}
end
theorem lN{l:List Int}{i:Nat}(h:i<l.length):l[i]? =some (l.getD i 0):=by rw[Ad,Ac h];rfl
theorem tZ{S:St}{v:AV}{l:List Int}{i:Nat}(h:bN .i64 S v l)(hi:i<l.length):∃b q,eU (.slice 1) v i=some (.ptr b q)∧b<S.nx∧dT (.ptr b q) false 1 S.h=some (.int .i64 (l.getD i 0)):=by
 obtain⟨e,b,q,h1,h2,_,h3,_,h4⟩:=aN.at (toG h) (by decide) (lN hi);have h3:e= [.int .i64 (l.getD i 0)]:=h3;subst h3;have h5:=h4 0 _ rfl;rw[Bj] at h5;exact⟨b,q,h1,h2,h5⟩
end Go.Ev.Gl
