import Derived.Test.YtoojnpjgnnpllaaGl23
open Nat renaming reduceEqDiff → rE, reduceAdd → rA
set_option maxHeartbeats 16000000
set_option linter.unusedSimpArgs false
set_option linter.unusedVariables false
namespace Go.Ev.Gl
variable {fns:T eG}
theorem oN{S:St}{v:AV}{L:List (List Int)}{i:Nat}(h:aH 1 iX S v L)(hi:i<L.length):∃b q a,eU (.slice 1) v i=some (.ptr b q)∧bK .i64 S a (L.getD i [])∧b<S.nx∧∀X,Same S X→eH (.ptr b q) false 1 X.h=some a:=by
 obtain⟨_,b,q,h1,h2,_,⟨a,rfl,h3⟩,_,h4⟩:=aH.at h (by decide) (zY hi);have h5:=h4 0 a rfl;rw[Br] at h5;exact⟨b,q,a,h1,h3,h2,fun X hX=>by rw[jJ hX h2];exact h5⟩
def aQM(S:St)(nv iv mv:AV)(g:aR)(L:List (List Int))(k:Nat)(A:bH)(X:St):Prop:=A.inr=false∧Same S X∧S.nx<X.nx∧X.h.get S.nx=some (.cells [.int .i64 g.players,nv,iv] false 0)∧∃j:Nat,j+k=L.length∧jW g L=jW g (L.drop j)∧aB 1 A.F=mv∧aB 2 A.F= .ptr S.nx 0∧aB 6 A.F= .int .i64 (j:Int)
theorem aFB{S:St}{nv iv mv:AV}{g:aR}{L:List (List Int)}(H:Has fns)(hn:aH 6 bP S nv g.nodes)(hi:aH 2 cA S iv g.infos)(hln:g.nodes.length≤100000)(hm:aH 1 iX S mv L):
  gH fns (.fn 100 [] []) [.agg [.int .i64 g.players,nv,iv],mv] S fun r S'=>r= .int .i64 (jI g L)∧Same S S':=by
 have snv:=aH.self hn;have siv:=aH.self hi;refine cI H.f100 (by simp) ?_;simp only[↓sU,sD,rE,↓reduceIte,rA];refine bQ ?_;refine cM (by simp only[↓sU,sD,rE,↓reduceIte,rA];exact bB _) ?_;intro S1 s1 n1 g1;simp only[↓sU,sD,rE,↓reduceIte,rA];refine gC ?_;simp only[↓sU,sD,rE,↓reduceIte,rA,fR g1];refine bG ?_;simp only[↓sU,sD,rE,↓reduceIte,rA];refine aX (aCV H (aH.same (E:=bP) bF hn s1) (aH.same (E:=cA) bO hi s1) hln) ?_;rintro _ S2 ⟨rfl,s2⟩;try simp only[↓sU,sD,rE,↓reduceIte,rA]
 have s12:=s1.trans s2;refine bQ ?_;simp only[↓sU,sD,rE,↓reduceIte,rA];by_cases h0:cP g=0;rotate_left
 ·have hE:jI g L=cP g:=by unfold jI;rw[if_pos h0]
  rw[hE];refine aO (by simp only[↓sU,sD,rE,↓reduceIte,rA,Ac (show cP g≠0 from h0)]) ?_;refine bQ ?_;simp only[↓sU,sD,rE,↓reduceIte,rA];refine aS ?_;simp only[↓sU,sD,rE,↓reduceIte,rA];exact s12
 refine aN (by simp only[↓sU,sD,rE,↓reduceIte,rA,Aa (show ¬cP g≠0 from fun h=>h h0)]) (aI ?_);try simp only[↓sU,sD,rE,↓reduceIte,rA]
 refine gC ?_;simp only[↓sU,sD,rE,↓reduceIte,rA,(aH.same (E:=iX) firm_sl hm s12).len,Ag];by_cases h16:16<L.length
 ·have hE:jI g L=4:=by unfold jI;rw[if_neg (fun h=>h h0),if_pos h16]
  rw[hE];refine aO (by simp only[↓sU,sD,rE,↓reduceIte,rA,Ac (show((L.length:Nat):Int)>16 by omega)]) ?_;refine bQ ?_;simp only[↓sU,sD,rE,↓reduceIte,rA];refine aS ?_;simp only[↓sU,sD,rE,↓reduceIte,rA];exact s12
 have hE:jI g L=jW g L:=by unfold jI;rw[if_neg (fun h=>h h0),if_neg h16]
 rw[hE];refine aN (by simp only[↓sU,sD,rE,↓reduceIte,rA,Aa (show ¬ ((L.length:Nat):Int)>16 by omega)]) (aI ?_);try simp only[↓sU,sD,rE,↓reduceIte,rA]
 have G:=iK h0;have m2:=s2.1;have hg2:S2.h.get S.nx=some (.cells [.int .i64 g.players,nv,iv] false 0):=(s2.2 _ (by omega)).trans g1;refine aA (aY (Q:=fun o A' X=>(o= .normal∧Same S X∧jW g L=0)∨(o= .ret∧Same S X∧aB 4 A'.F= .int .i64 (jW g L))) (aA (aJ ?_)) ?_)
 ·simp only[↓sU,sD,rE,↓reduceIte,rA];refine aL (bL (aQM S nv iv mv g L) ?_ L.length _ _ ⟨rfl,s12,by omega,hg2,0,by omega,rfl,by simp only[↓sU,sD,rE,↓reduceIte,rA],by simp only[↓sU,sD,rE,↓reduceIte,rA],by simp only[↓sU,sD,rE,↓reduceIte,rA];try rfl⟩);clear hg2;rintro k ⟨F,inr⟩ X ⟨q0,hX,lgX,gX,j,hjk,hEj,p1,p2,p6⟩;simp only at q0 p1 p2 p6;subst q0;refine gC ?_;simp only[↓sU,sD,rE,↓reduceIte,rA,p1,p6,(aH.same (E:=iX) firm_sl hm hX).len,Ag];by_cases hlt:j<L.length;rotate_left
  ·refine aN (by simp only[↓sU,sD,rE,↓reduceIte,rA,Aa (show ¬ (j:Int)<((L.length:Nat):Int) by omega)]) (bM ?_);simp only[↓sU,sD,rE,↓reduceIte,rA];obtain rfl:j=L.length:=by omega
   rw[List.drop_length] at hEj;exact .inl ⟨hX,hEj⟩
  refine aO (by simp only[↓sU,sD,rE,↓reduceIte,rA,Ac (show(j:Int)<((L.length:Nat):Int) by omega)]) (aI ?_);try simp only[↓sU,sD,rE,↓reduceIte,rA]
  have w1:IntKind.i64.wrap ((j:Int)+1)=((j+1:Nat):Int):=by rw[wrap_i64 (by omega) (by omega)];omega
  obtain⟨xb,xq,a,xi,xs,xlt,xl⟩:=oN hm hlt;have xl:=xl X hX;have sa:=bK.self xs;have hxb:xb<X.nx:=Ae xlt hX.1;have himd:=aDt (g:=g) hlt;have hims:=aDG (g:=g) hlt;generalize L.getD j []=m at *;have l3:=fR gX;have sag:cC (.agg [.int .i64 g.players,nv,iv]) (.agg [.int .i64 g.players,nv,iv])=true:=by
   simp only[cC,kB,snv,siv,fC,iL,decide_true,aQ,Eb]
  refine aA (aL (aA (iE (fun _=>False) ?_)));intro X0 x0;simp only[↓sU,sD,rE,↓reduceIte,rA,p1,p2,p6,l3,lgX,Al,sag,aG,xi,xl,sa,hxb];refine dS rfl ?_;simp only[↓sU,sD,rE,↓reduceIte,rA];refine aX (aBj (ok:=iC g m) H (aH.same (E:=bP) bF hn (hX.trans x0)) (xs.same (hX.trans x0)) hln (fun h1 h2 _ S' hS'=>aX (uZ H (aH.same (E:=bP) bF hn ((hX.trans x0).trans hS')) (aH.same (E:=cA) bO hi ((hX.trans x0).trans hS')) (xs.same ((hX.trans x0).trans hS')) G ⟨h1,h2⟩) fun r S'' h=>by
   obtain⟨e1,a,b,t,e2,e3,_⟩:=h;exact⟨e1,a,b,t,e2,e3⟩)) ?_
  rintro _ X1 ⟨rfl,x1⟩;refine⟨x1,?_⟩;try simp only[↓sU,sD,rE,↓reduceIte,rA]
  have sX1:=(hX.trans x0).trans x1;have gX1:=((x0.trans x1).2 _ lgX).trans gX;have lgX1:S.nx<X1.nx:=Ae lgX (x0.trans x1).1;refine bQ ?_;simp only[↓sU,sD,rE,↓reduceIte,rA];by_cases hm0:iN g.nodes.length m (iC g m)=0;rotate_left
  ·rw[hims hm0] at hEj;refine aO (by simp only[↓sU,sD,rE,↓reduceIte,rA,Ac (show iN g.nodes.length m (iC g m)≠0 from hm0)]) ?_;refine bQ ?_;simp only[↓sU,sD,rE,↓reduceIte,rA];refine aS ?_;exact .inr ⟨rfl,sX1,by simp only[↓sU,sD,rE,↓reduceIte,rA,hEj]⟩
  refine aN (by simp only[↓sU,sD,rE,↓reduceIte,rA,Aa (show ¬iN g.nodes.length m (iC g m)≠0 from fun h=>h hm0)]) (aI ?_);try simp only[↓sU,sD,rE,↓reduceIte,rA]
  refine aJ ?_;simp only[↓sU,sD,rE,↓reduceIte,rA,p6,w1];exact⟨k - 1,by omega,rfl,sX1,lgX1,gX1,j+1,by omega,by rw[hEj];exact himd hm0,by refine⟨?_,?_,?_⟩<;>simp only[↓sU,sD,rE,↓reduceIte,rA,p1,p2]⟩
 rintro o ⟨F,inr⟩ X (⟨rfl,hX,he0⟩ | ⟨rfl,hX,p4⟩)
 ·try simp only[↓sU,sD,rE,↓reduceIte,rA]
  refine bQ ?_;simp only[↓sU,sD,rE,↓reduceIte,rA];refine aS ?_;simp only[↓sU,sD,rE,↓reduceIte,rA,he0];exact hX
 ·simp only at p4;simp only[↓sU,sD,rE,↓reduceIte,rA,p4];exact hX
def aO4(S:St)(nv iv mv:AV)(g:aR)(L:List (List Int))(k:Nat)(A:bH)(X:St):Prop:=A.inr=false∧Same S X∧S.nx<X.nx∧X.h.get S.nx=some (.cells [.int .i64 g.players,nv,iv] false 0)∧∃ (j:Nat) (v:AV) (cs:List AV),j+k=L.length∧fP 1 S X v j cs∧oL S X v cs ((L.take j).map (imgI g))∧aB 1 A.F=mv∧aB 2 A.F= .ptr S.nx 0∧aB 8 A.F=v∧aB 9 A.F= .int .i64 (j:Int)
theorem aFo{S:St}{nv iv mv:AV}{g:aR}{L:List (List Int)}(H:Has fns)(hn:aH 6 bP S nv g.nodes)(hi:aH 2 cA S iv g.infos)(hln:g.nodes.length≤100000)(hm:aH 1 iX S mv L):
  gH fns (.fn 52 [] []) [.agg [.int .i64 g.players,nv,iv],mv] S fun r S'=>Same S S'∧∃x y,r= .tup [x,y,.int .i64 (jI g L)]∧(jI g L≠0→x= .nilsl∧y= .nilsl)∧(jI g L=0→∃a b,mX S S' x a∧mX S S' y b∧aO9 g L a b):=by
 have snv:=aH.self hn;have siv:=aH.self hi;have sag:cC (.agg [.int .i64 g.players,nv,iv]) (.agg [.int .i64 g.players,nv,iv])=true:=by
  simp only[cC,kB,snv,siv,fC,iL,decide_true,aQ,Eb]
 refine cI H.f52 (by simp) ?_;simp only[↓sU,sD,rE,↓reduceIte,rA];refine bQ ?_;refine cM (by simp only[↓sU,sD,rE,↓reduceIte,rA];exact bB _) ?_;intro S1 s1 n1 g1;simp only[↓sU,sD,rE,↓reduceIte,rA];refine gC ?_;simp only[↓sU,sD,rE,↓reduceIte,rA,fR g1];refine bG ?_;simp only[↓sU,sD,rE,↓reduceIte,rA];refine aX (aFB H (aH.same (E:=bP) bF hn s1) (aH.same (E:=cA) bO hi s1) hln (aH.same (E:=iX) firm_sl hm s1)) ?_;rintro _ S2 ⟨rfl,s2⟩;try simp only[↓sU,sD,rE,↓reduceIte,rA]
 have s12:=s1.trans s2;refine bQ ?_;simp only[↓sU,sD,rE,↓reduceIte,rA];by_cases h0:jI g L=0;rotate_left
 ·refine aO (by simp only[↓sU,sD,rE,↓reduceIte,rA,Ac (show jI g L≠0 from h0)]) ?_;refine bQ ?_;simp only[↓sU,sD,rE,↓reduceIte,rA];refine aS ?_;simp only[↓sU,sD,rE,↓reduceIte,rA];exact⟨s12,.nilsl,.nilsl,rfl,fun _=>⟨rfl,rfl⟩,fun h=>absurd h h0⟩
 refine aN (by simp only[↓sU,sD,rE,↓reduceIte,rA,Aa (show ¬jI g L≠0 from fun h=>h h0)]) (aI ?_);try simp only[↓sU,sD,rE,↓reduceIte,rA]
 obtain⟨hf,h16,he0⟩:=sE h0;have hAll:∀m∈L,fH g m:=fun m hm=>nI (nG he0 m hm);obtain⟨hin1,hin2⟩:=aG2 hf hAll;have G:=iK hf;have m2:=s2.1;have hg2:S2.h.get S.nx=some (.cells [.int .i64 g.players,nv,iv] false 0):=(s2.2 _ (by omega)).trans g1;refine bQ ?_;simp only[↓sU,sD,rE,↓reduceIte,rA];refine aA (aY (Q:=fun o A' X=>o= .normal∧aO4 S nv iv mv g L 0 A' X) (aA (aJ ?_)) ?_)
 ·simp only[↓sU,sD,rE,↓reduceIte,rA];refine aL (bL (aO4 S nv iv mv g L) ?_ L.length _ _ ⟨rfl,s12,by omega,hg2,0,.nilsl,[],by omega,.inl ⟨rfl,rfl,rfl⟩,⟨rfl,fun j hj=>absurd hj (Bs j)⟩,by simp only[↓sU,sD,rE,↓reduceIte,rA],by simp only[↓sU,sD,rE,↓reduceIte,rA],by simp only[↓sU,sD,rE,↓reduceIte,rA],by simp only[↓sU,sD,rE,↓reduceIte,rA];try rfl⟩);clear hg2;rintro k ⟨F,inr⟩ X ⟨q0,hX,lgX,gX,j,v,cs,hjk,hG,hR,p1,p2,p8,p9⟩;simp only at q0 p1 p2 p8 p9;subst q0;refine gC ?_;simp only[↓sU,sD,rE,↓reduceIte,rA,p1,p9,(aH.same (E:=iX) firm_sl hm hX).len,Ag];by_cases hlt:j<L.length;rotate_left
  ·refine aN (by simp only[↓sU,sD,rE,↓reduceIte,rA,Aa (show ¬ (j:Int)<((L.length:Nat):Int) by omega)]) (bM ?_);simp only[↓sU,sD,rE,↓reduceIte,rA];obtain rfl:k=0:=by omega
   exact⟨rfl,hX,lgX,gX,j,v,cs,hjk,hG,hR,by refine⟨?_,?_,?_,?_⟩<;>simp only[↓sU,sD,rE,↓reduceIte,rA,p1,p2,p8,p9]⟩
  refine aO (by simp only[↓sU,sD,rE,↓reduceIte,rA,Ac (show(j:Int)<((L.length:Nat):Int) by omega)]) (aI ?_);try simp only[↓sU,sD,rE,↓reduceIte,rA]
  have w1:IntKind.i64.wrap ((j:Int)+1)=((j+1:Nat):Int):=by rw[wrap_i64 (by omega) (by omega)];omega
  obtain⟨xb,xq,a,xi,xs,xlt,xl⟩:=oN hm hlt;have xl:=xl X hX;have sa:=bK.self xs;have hxb:xb<X.nx:=Ae xlt hX.1;have hmem:L.getD j []∈L:=by rw[Ad,Ab hlt];exact Bo hlt
  have htk:L.take (j+1)=L.take j++ [L.getD j []]:=by
   rw[Bp,Ab hlt,Ad,Ab hlt];rfl
  generalize L.getD j []=m at *;have AM:=hAll m hmem;have l3:=fR gX;refine aA (aL (aA (iE (fun _=>False) ?_)));intro X0 x0;simp only[↓sU,sD,rE,↓reduceIte,rA,p1,p2,p9,l3,lgX,Al,sag,aG,xi,xl,sa,hxb];refine dS rfl ?_;simp only[↓sU,sD,rE,↓reduceIte,rA];refine aX (uZ H (aH.same (E:=bP) bF hn (hX.trans x0)) (aH.same (E:=cA) bO hi (hX.trans x0)) (xs.same (hX.trans x0)) G AM.M) ?_;rintro _ X1 ⟨x1,ra,rb,t,rfl,ht,hxi⟩;obtain⟨hra,_⟩:=hxi (ht.2 AM.A);refine⟨x1,?_⟩;simp only[↓sU,sD,rE,↓reduceIte,rA,uW,vE,ex2];have hil:(imgI g m).length=g.infos.length:=by simp [imgI]
  rw[←hil] at hra;have hrs:=hra.is;have x01:=x0.trans x1;have sX1:=hX.trans x01;have gX1:=(x01.2 _ lgX).trans gX;have lgX1:S.nx<X1.nx:=Ae lgX x01.1;have hrb:∀c,bD ra=some c→X.nx≤c:=fun c hc=>Ak x0.1 (hra.blk hc).1;refine aJ ?_;simp only[↓aF,aE,rE,↓reduceIte,rA,p8];refine gM (aBX hrs (by simp only[↓aF,aE,rE,↓reduceIte,rA])) ?_;intro X4 x4 m4 c4;have sX4:=sX1.trans x4;have x04:=x01.trans x4;obtain⟨v',X5,eA,e1,e2,e3,e4⟩:=(hG.step x04).push1 (bytes:=24) (t:=X1.nx) sX4 c4 (by unfold room;omega) (by unfold room;omega);simp only[↓aF,aE,rE,↓reduceIte,rA,p8];refine fJ (fun call=>by simp only[↓aF,aE,rE,↓reduceIte,rA,iG];exact eA) ?_;simp only[↓sU,sD,rE,↓reduceIte,rA];refine aJ ?_;simp only[↓sU,sD,rE,↓reduceIte,rA,p9,w1];have hvb:∀c,bD v=some c→S.nx≤c∧c<X.nx:=fun c hc=>⟨(hG.blk hc).1,(hG.blk hc).2.1⟩;have hgoff:bD v≠some S.nx:=hG.off gX;have n4:=x04.1;have hk5:∀c,c<X.nx→bD v≠some c→X5.h.get c=X.h.get c:=fun c hc hne=>(e4 c (by omega) hne).trans (x04.2 c hc);refine⟨k - 1,by omega,rfl,⟨by omega,fun c hc=>?_⟩,by omega,(hk5 _ lgX hgoff).trans gX,j+1,v',_,by omega,e1,?_,by refine⟨?_,?_,?_,?_⟩<;>simp only[↓sU,sD,rE,↓reduceIte,rA,p1,p2]⟩
  ·rw[hk5 c (Ae hc hX.1) fun e=>by have:=(hvb c e).1;omega];exact hX.2 c hc
  ·rw[htk,Dx,List.map_singleton];refine hR.push hX.1 (by omega) (fun c hc _ hne=>hk5 c hc hne) (eO (hrs.same x4) (by omega) fun c hc=>e4 c ?_ ?_) (fun c hc=>⟨hrb c hc,?_⟩) fun c hc=>?_
   ·exact fE (hrs.same x4) hc
   ·intro e;have:=(hvb c e).2;have:=hrb c hc;omega
   ·rw[e2];intro e;cases e;have:=fE hrs hc;have h4:X1.nx≤X4.nx:=x4.1;omega
   ·rw[e2] at hc;cases hc;omega
 rintro o ⟨F,inr⟩ X ⟨rfl,q0,hX,lgX,gX,j,v,cs,hjk,hG,hR,p1,p2,p8,_⟩;simp only at q0 p1 p2 p8;subst q0;obtain rfl:j=L.length:=by omega
 rw[List.take_length] at hR;have hrows:=hR.is hG (Aj ..).symm;have lnv:=aH.len hn;have liv:=aH.len hi;have hN2:=G.n2;have hNI:=G.ni;try simp only[↓sU,sD,rE,↓reduceIte,rA]
 refine aA (iE (fun _=>False) ?_);intro X0 x0;simp only[↓sU,sD,rE,↓reduceIte,rA,p1,p2,p8,aC,aU,aD,eY gX,lgX,Al,snv,lnv,Ag];refine dS rfl ?_;simp only[↓sU,sD,rE,↓reduceIte,rA];refine aX (aCT (n:=g.nodes.length) H (by omega) (aH.same (E:=iX) firm_sl hm (hX.trans x0)) (by omega) hin1) ?_;rintro oa Y1 ⟨y1,a,ha,hoa⟩;refine⟨y1,?_⟩;simp only[↓sU,sD,rE,↓reduceIte,rA,p1,p2,p8,aC,aU,aD,gG gX,lgX,Al,siv,liv,Ag];refine dS rfl ?_;simp only[↓sU,sD,rE,↓reduceIte,rA];refine aX (aCT (n:=g.infos.length) H (by omega) (aH.same (E:=iX) firm_sl hrows (x0.trans y1)) (by rw[Aj];omega) hin2) ?_;rintro ob Y2 ⟨y2,b,hb,hob⟩;refine⟨y2,?_⟩;try simp only[↓sU,sD,rE,↓reduceIte,rA]
 refine aS ?_;simp only[↓sU,sD,rE,↓reduceIte,rA];have sfin:=((hX.trans x0).trans y1).trans y2;have low:∀ {S0 S1 X:St} {v:AV} {l:List Int},mX S1 X v l→S0.nx≤S1.nx→mX S0 X v l:=fun h hs=>by
  obtain⟨b,h1,h2,h3,h4⟩:=h;exact⟨b,h1,Ak hs h2,h3,h4⟩
 exact⟨sfin,oa,ob,by rw[h0],fun h=>absurd h0 h,fun _=>⟨a,b,low (ha.same y2) (hX.trans x0).1,low hb ((hX.trans x0).trans y1).1,hoa,hob⟩⟩
abbrev K2:=Nat×Nat
def mJ{K V:Type} [DecidableEq K](k:K):List (K×V)→Nat→Option (Nat×V)
 | [],_=>none
 | (k',v)::l,i=>if k=k' then some (i,v) else mJ k l (i+1)
def lkp{K V:Type} [DecidableEq K](l:List (K×V))(k:K):Option V:=(mJ k l 0).map (·.2)
def aI9{K V:Type} [DecidableEq K](l:List (K×V))(k:K)(v:V):List (K×V):=match mJ k l 0 with
 | some (i,_)=>l.set i (k,v)
 | none=>l++ [(k,v)]
section
variable {K V:Type} [DecidableEq K]{l:List (K×V)}{k k':K}{v:V}
theorem vJ:∀ {l:List (K×V)} {i:Nat},mJ k l (i+1)=(mJ k l i).map fun p=>(p.1+1,p.2)
 | [],i=>rfl
 | (k',v)::l,i=>by
  show(if k=k' then some (i+1,v) else mJ k l (i+1+1))=(if k=k' then some (i,v) else mJ k l (i+1)).map _;by_cases e:k=k'
  ·rw[if_pos e,if_pos e];rfl
  ·rw[if_neg e,if_neg e,vJ]
theorem qD{p:K×V}:lkp (p::l) k=if k=p.1 then some p.2 else lkp l k:=by
 obtain⟨a,b⟩:=p;unfold lkp;show(if k=a then some (0,b) else mJ k l (0+1)).map _=_;by_cases e:k=a
 ·rw[if_pos e,if_pos e];rfl
 ·rw[if_neg e,if_neg e,vJ,Option.map_map];rfl
theorem aKq:lkp (l++ [(k,v)]) k'=match lkp l k' with | some w=>some w | none=>if k'=k then some v else none:=by
 induction l with
 | nil=>
  show lkp [(k,v)] k'=_;rw[qD];rfl
 | cons p l ih=>
  show lkp (p::(l++ [(k,v)])) k'=_;rw[qD,qD,ih];by_cases e:k'=p.1
  ·rw[if_pos e,if_pos e]
  ·rw[if_neg e,if_neg e]
theorem aC3:∀ {l:List (K×V)} {i:Nat} {w:V},mJ k l 0=some (i,w)→i<l.length∧∀k',lkp (l.set i (k,v)) k'=if k'=k then some v else lkp l k'
 | [],i,w,h=>by cases h
 | (a,b)::l,i,w,h=>by
  have h:(if k=a then some (0,b) else mJ k l (0+1))=some (i,w):=h;by_cases e:k=a
  ·rw[if_pos e] at h;cases h;refine⟨Nat.succ_pos _,fun k'=>?_⟩;show lkp ((k,v)::l) k'=_;rw[qD,qD];by_cases e2:k'=k
   ·rw[if_pos e2,if_pos e2]
   ·rw[if_neg e2,if_neg e2,if_neg (by rw[←e];exact e2)]
  ·rw[if_neg e,vJ] at h;obtain⟨⟨j,w'⟩,h1,h2⟩:=Aw.1 h;cases h2;obtain⟨h3,h4⟩:=aC3 h1;refine⟨Nat.succ_lt_succ h3,fun k'=>?_⟩;show lkp ((a,b)::l.set j (k,v)) k'=_;rw[qD,qD,h4];by_cases e2:k'=a
   ·have:k'≠k:=fun e3=>e (e3 ▸ e2);rw[if_pos e2,if_pos e2,if_neg this]
   ·rw[if_neg e2,if_neg e2]
theorem aHc(h:mJ k l 0=none):lkp l k=none:=by unfold lkp;rw[h];rfl
theorem aL7:lkp (aI9 l k v) k'=if k'=k then some v else lkp l k':=by
 unfold aI9;cases h:mJ k l 0 with
 | none=>
  show lkp (l++ [(k,v)]) k'=_;rw[aKq];by_cases e:k'=k
  ·rw[if_pos e,e,aHc h,if_pos rfl]
  ·rw[if_neg e,if_neg e];cases lkp l k'<;>rfl
 | some p=>
  obtain⟨i,w⟩:=p;exact(aC3 h).2 k'
end
def jD(k:K2):AV:=.agg [.int .i64 (k.1:Int),.int .i64 (k.2:Int)]
def xW{K V:Type}(ek:K→AV)(ev:V→AV)(l:List (K×V)):List (AV×AV):=l.map fun p=>(ek p.1,ev p.2)
def skK:sC:=.struct [(0,.int),(1,.int)]
theorem aIg(a b:K2):eqv skK (jD a) (jD b)=some (decide (a=b)):=by
 obtain⟨a1,a2⟩:=a;obtain⟨b1,b2⟩:=b;show bN true (bN true (eqs [(0,.int),(1,.int)] [.int .i64 (a1:Int),.int .i64 (a2:Int)] [.int .i64 (b1:Int),.int .i64 (b2:Int)]) none) none=_;rw[aQ,aQ];have e1:vZ .int (.int .i64 (a1:Int)) (.int .i64 (b1:Int))=some (decide (a1=b1)):=by
  show bN (keq .i64 .i64) (some (ieq (a1:Int) (b1:Int))) none=_;rw[fC,aQ,iL];by_cases e:a1=b1
  ·rw[Ac e,e,Eb]
  ·rw[Aa e,beq_eq_false_iff_ne.2 (by omega)]
 have e2:vZ .int (.int .i64 (a2:Int)) (.int .i64 (b2:Int))=some (decide (a2=b2)):=by
  show bN (keq .i64 .i64) (some (ieq (a2:Int) (b2:Int))) none=_;rw[fC,aQ,iL];by_cases e:a2=b2
  ·rw[Ac e,e,Eb]
  ·rw[Aa e,beq_eq_false_iff_ne.2 (by omega)]
 show(match vZ .int (.int .i64 (a1:Int)) (.int .i64 (b1:Int)) with | some true=>(match vZ .int (.int .i64 (a2:Int)) (.int .i64 (b2:Int)) with | some true=>some true | some false=>some false | none=>none) | some false=>some false | none=>none)=_;rw[e1,e2];by_cases h1:a1=b1
 ·by_cases h2:a2=b2
  ·subst h1 h2;simp
  ·simp [h1,h2]
 ·simp [h1]
section
variable {K V:Type} [DecidableEq K]{ek:K→AV}{ev:V→AV}{sk:sC}
theorem aB8(he:∀a b,eqv sk (ek a) (ek b)=some (decide (a=b))){k:K}:∀ {l:List (K×V)} {i:Nat},qC sk (ek k) (xW ek ev l) i=some ((mJ k l i).map fun p=>(p.1,ev p.2))
 | [],i=>rfl
 | (k',v)::l,i=>by
  show(aZ (eqv sk (ek k) (ek k')) fun b=>bN b (some (some (i,ev v))) (qC sk (ek k) (xW ek ev l) (Nat.succ i)))=_;rw[he,aK];show _=some ((if k=k' then some (i,v) else mJ k l (i+1)).map fun p=>(p.1,ev p.2));by_cases e:k=k'
  ·rw[Ac e,aQ,if_pos e];rfl
  ·rw[Aa e,aW,if_neg e];exact aB8 he
theorem uV(he:∀a b,eqv sk (ek a) (ek b)=some (decide (a=b))){k:K}{l:List (K×V)}:mQ sk (ek k) (xW ek ev l)=some ((mJ k l 0).map fun p=>(p.1,ev p.2)):=by
 unfold mQ;rw[he,aK];exact aB8 he
def aC5(ek:K→AV)(ev:V→AV)(h:Ev.T AB)(b:Nat)(f:K→Option V):Prop:=∃l,h.get b=some (.map (xW ek ev l))∧∀k,lkp l k=f k
def nJ(f:K→Option V)(k:K)(v:V):K→Option V:=fun k'=>if k'=k then some v else f k'
theorem aHW(he:∀a b,eqv sk (ek a) (ek b)=some (decide (a=b))){h:Ev.T AB}{b:Nat}{f:K→Option V}(hm:aC5 ek ev h b f){k:K}{z:AV}{m x:cL}{F:Fr}(h1:m.val F= .map b)(h2:x.val F=ek k):fV (.lookup sk z true m x) F h=some (match f k with | some v=>.tup [ev v,.bool true] | none=>.tup [z,.bool false]):=by
 obtain⟨l,hl,hf⟩:=hm;show(aZ (sO h (m.val F)) fun es=>aZ (mQ sk (x.val F) es) fun r=>mG r z true)=_;rw[h1,h2];show(aZ (aZ (h.get b) rH) fun es=>aZ (mQ sk (ek k) es) fun r=>mG r z true)=_;rw[hl,aK];show aZ (some (xW ek ev l)) _=_;rw[aK,uV he,aK,←hf k];unfold lkp;cases mJ k l 0 with
 | none=>rfl
 | some p=>rfl
theorem aFQ(he:∀a b,eqv sk (ek a) (ek b)=some (decide (a=b))){h:Ev.T AB}{b:Nat}{f:K→Option V}(hm:aC5 ek ev h b f){k:K}{z:AV}{m x:cL}{F:Fr}{v:V}(h1:m.val F= .map b)(h2:x.val F=ek k)(h3:f k=some v):fV (.lookup sk z false m x) F h=some (ev v):=by
 obtain⟨l,hl,hf⟩:=hm;show(aZ (sO h (m.val F)) fun es=>aZ (mQ sk (x.val F) es) fun r=>mG r z false)=_;rw[h1,h2];show(aZ (aZ (h.get b) rH) fun es=>aZ (mQ sk (ek k) es) fun r=>mG r z false)=_;rw[hl,aK];show aZ (some (xW ek ev l)) _=_;have e:=hf k;rw[h3] at e;unfold lkp at e;rw[aK,uV he,aK];cases hq:mJ k l 0 with
 | none=>rw[hq] at e;cases e
 | some p=>
  rw[hq] at e;obtain⟨i,w⟩:=p;cases e;rfl
end
theorem zM{α:Type}{x:α}:∀ {l:List α} {i:Nat},oO (fun _=>x) l i=l.set i x
 | [],i=>rfl
 | y::l,0=>rfl
 | y::l,i+1=>by
  show bN (Nat.beq (i+1) 0) (x::l) (y::oO (fun _=>x) l (i+1 - 1))=y::l.set i x;rw[show Nat.beq (i+1) 0=false from rfl,aW,Es,zM]
theorem aGR{K V:Type} [DecidableEq K]{ek:K→AV}{ev:V→AV}{sk:sC}(he:∀a b,eqv sk (ek a) (ek b)=some (decide (a=b))){S:St}{b:Nat}{f:K→Option V}(hm:aC5 ek ev S.h b f)(k:K)(v:V):∃X,pD (.map b) sk (ek k) (ev v) S=some (.undef,X)∧X.nx=S.nx∧(∀c,c≠b→X.h.get c=S.h.get c)∧aC5 ek ev X.h b (nJ f k v):=by
 obtain⟨l,hl,hf⟩:=hm;have e:xP ((mJ k l 0).map fun p=>(p.1,ev p.2)) (xW ek ev l) (ek k) (ev v)=xW ek ev (aI9 l k v):=by
  unfold aI9;cases mJ k l 0 with
  | none=>
   show wU (xW ek ev l) [(ek k,ev v)]=_;rw[fS];unfold xW;rw[Dx];rfl
  | some p=>
   show oO (fun _=>(ek k,ev v)) (xW ek ev l) p.1=xW ek ev (l.set p.1 (k,v));rw[zM];unfold xW;rw[List.map_set]
 refine⟨⟨S.h.set b (some (.map (xW ek ev (aI9 l k v)))),S.nx⟩,?_,rfl,fun c hc=>by simp only;rw[T.get_set,if_neg hc],aI9 l k v,by simp only;rw[T.get_set,if_pos rfl],fun k'=>?_⟩
 ·show(aZ (aZ (S.h.get b) rH) fun es=>aZ (mQ sk (ek k) es) fun r=>some (AV.undef,(⟨S.h.set b (some (.map (xP r es (ek k) (ev v)))),S.nx⟩:St)))=_;rw[hl,aK];show aZ (some (xW ek ev l)) _=_;rw[aK,uV he,aK,e]
 ·rw[aL7,hf];rfl
abbrev aBO{V:Type}(ev:V→AV)(h:Ev.T AB)(b:Nat)(f:K2→Option V):Prop:=aC5 jD ev h b f
theorem aIm{V:Type}{ev:V→AV}{h:Ev.T AB}{b:Nat}{f:K2→Option V}(hm:aBO ev h b f){k:K2}{z:AV}{m x:cL}{F:Fr}(h1:m.val F= .map b)(h2:x.val F=jD k):fV (.lookup (.struct [(0,.int),(1,.int)]) z true m x) F h=some (match f k with | some v=>.tup [ev v,.bool true] | none=>.tup [z,.bool false]):=aHW aIg hm h1 h2
theorem aDH{V:Type}{ev:V→AV}{S:St}{b:Nat}{f:K2→Option V}(hm:aBO ev S.h b f)(k:K2)(v:V):∃X,pD (.map b) (.struct [(0,.int),(1,.int)]) (jD k) (ev v) S=some (.undef,X)∧X.nx=S.nx∧(∀c,c≠b→X.h.get c=S.h.get c)∧aBO ev X.h b (nJ f k v):=aGR aIg hm k v
inductive iB{α:Type}(E:α→α→Prop):α→α→Prop where
 | edge {x y:α}:E x y→iB E x y
 | refl (x:α):iB E x x
 | symm {x y:α}:iB E x y→iB E y x
 | trans {x y z:α}:iB E x y→iB E y z→iB E x z
inductive dP(u:K2→Option K2):K2→K2→Prop where
 | root {k:K2} (h:u k=none):dP u k k
 | step {k a r:K2} (h:u k=some a) (h2:dP u a r):dP u k r
structure UpK(u:K2→Option K2)(E:K2→K2→Prop):Prop where
 rk:∃rk:K2→Nat,∀k a,u k=some a→rk a<rk k
 con:∀k a,u k=some a→iB E k a
section
variable {u:K2→Option K2}{E:K2→K2→Prop}{k a o r r' x:K2}
theorem UpK.ex(h:UpK u E):∀k,∃r,dP u k r:=by
 obtain⟨rk,hrk⟩:=h.rk;have key:∀n k,rk k=n→∃r,dP u k r:=fun n=>by
  induction n using Nat.strongRecOn with
  | _ n ih=>
   intro k hk;cases e:u k with
   | none=>exact⟨k,.root e⟩
   | some a=>
    obtain⟨r,hr⟩:=ih (rk a) (by have:=hrk k a e;omega) a rfl;exact⟨r,.step e hr⟩
 exact fun k=>key _ k rfl
theorem dP.uni(h:dP u k r):∀ {r'},dP u k r'→r=r':=by
 induction h with
 | root e=>
  intro r' h';cases h' with
  | root _=>rfl
  | step e' _=>rw[e] at e';cases e'
 | step e _ ih=>
  intro r' h';cases h' with
  | root e'=>rw[e'] at e;cases e
  | step e' h2=>
   rw[e] at e';cases e';exact ih h2
theorem dP.none(h:dP u k r):u r=none:=by
 induction h with
 | root e=>exact e
 | step _ _ ih=>exact ih
theorem dP.next(h:dP u k r)(e:u k=some a):dP u a r:=by
 cases h with
 | root e'=>rw[e] at e';cases e'
 | step e' h2=>rw[e] at e';cases e';exact h2
theorem UpK.conr(h:UpK u E)(hr:dP u k r):iB E k r:=by
 induction hr with
 | root e=>exact .refl _
 | step e _ ih=>exact .trans (h.con _ _ e) ih
theorem UpK.half(h:UpK u E)(e1:u k=some a)(e2:u a=some o):UpK (nJ u k o) E∧∀x r,dP u x r→dP (nJ u k o) x r:=by
 obtain⟨rk,hrk⟩:=h.rk;have h1:=hrk k a e1;have h2:=hrk a o e2;have hu:∀x y,nJ u k o x=some y→(x=k∧y=o)∨(x≠k∧u x=some y):=fun x y hx=>by
  unfold nJ at hx;split at hx
  ·rename_i e;cases hx;exact .inl ⟨e,rfl⟩
  ·rename_i e;exact .inr ⟨e,hx⟩
 refine⟨⟨⟨rk,fun x y hx=>?_⟩,fun x y hx=>?_⟩,fun x r hr=>?_⟩
 ·rcases hu x y hx with⟨rfl,rfl⟩ | ⟨_,e⟩
  ·omega
  ·exact hrk x y e
 ·rcases hu x y hx with⟨rfl,rfl⟩ | ⟨_,e⟩
  ·exact .trans (h.con _ _ e1) (h.con _ _ e2)
  ·exact h.con x y e
 ·have key:∀n x,rk x=n→dP u x r→dP (nJ u k o) x r:=fun n=>by
   induction n using Nat.strongRecOn with
   | _ n ih=>
    intro x hx hr;by_cases e:x=k
    ·subst e;refine .step (a:=o) (by unfold nJ;rw[if_pos rfl]) (ih (rk o) (by omega) o rfl ((hr.next e1).next e2))
    ·cases hr with
     | root e'=>exact .root (by unfold nJ;rw[if_neg e];exact e')
     | step e' h'=>exact .step (by unfold nJ;rw[if_neg e];exact e') (ih _ (by have:=hrk _ _ e';omega) _ rfl h')
  exact key _ x rfl hr
open Classical in
theorem UpK.join(h:UpK u E){ra rb:K2}(ha:u ra=none)(hb:u rb=none)(hne:ra≠rb)(hc:iB E ra rb):UpK (nJ u ra rb) E∧∀x r,dP u x r→dP (nJ u ra rb) x (if r=ra then rb else r):=by
 obtain⟨rk,hrk⟩:=h.rk;have hu:∀x y,nJ u ra rb x=some y→(x=ra∧y=rb)∨(x≠ra∧u x=some y):=fun x y hx=>by
  unfold nJ at hx;split at hx
  ·rename_i e;cases hx;exact .inl ⟨e,rfl⟩
  ·rename_i e;exact .inr ⟨e,hx⟩
 refine⟨⟨⟨fun x=>if dP u x ra then rk x+(rk rb+1) else rk x,fun x y hx=>?_⟩,fun x y hx=>?_⟩,fun x r hr=>?_⟩
 ·show(if dP u y ra then rk y+(rk rb+1) else rk y)<if dP u x ra then rk x+(rk rb+1) else rk x;rcases hu x y hx with⟨rfl,rfl⟩ | ⟨_,e⟩
  ·rw[if_neg (fun h'=>hne (dP.uni h' (.root hb))),if_pos (.root ha)];omega
  ·have:=hrk x y e;by_cases h':dP u x ra
   ·rw[if_pos h',if_pos (h'.next e)];omega
   ·rw[if_neg h',if_neg (fun h2=>h' (.step e h2))];exact this
 ·rcases hu x y hx with⟨rfl,rfl⟩ | ⟨_,e⟩
  ·exact hc
  ·exact h.con x y e
 ·induction hr with
  | root e=>
   rename_i x;by_cases ex:x=ra
   ·rw[if_pos ex,ex];exact .step (by unfold nJ;rw[if_pos rfl]) (.root (by unfold nJ;rw[if_neg (Bq hne)];exact hb))
   ·rw[if_neg ex];exact .root (by unfold nJ;rw[if_neg ex];exact e)
  | step e _ ih=>
   rename_i x a r _;have ex:x≠ra:=fun h'=>by rw[h',ha] at e;cases e
   exact .step (by unfold nJ;rw[if_neg ex];exact e) ih
def jB(u:K2→Option K2)(x y:K2):Prop:=∃r,dP u x r∧dP u y r
theorem jB.trans{y z:K2}(h1:jB u x y)(h2:jB u y z):jB u x z:=by
 obtain⟨r,a,b⟩:=h1;obtain⟨s,c,d⟩:=h2;rw[←b.uni c] at d;exact⟨r,a,d⟩
theorem jB.conn(h:UpK u E){y:K2}(hs:jB u x y):iB E x y:=by
 obtain⟨r,a,b⟩:=hs;exact .trans (h.conr a) (.symm (h.conr b))
theorem aD5(h:UpK u E)(hE:∀x y,E x y→jB u x y){y:K2}(hc:iB E x y):jB u x y:=by
 induction hc with
 | edge e=>exact hE _ _ e
 | refl x=>obtain⟨r,hr⟩:=h.ex x;exact⟨r,hr,hr⟩
 | symm _ ih=>obtain⟨r,a,b⟩:=ih;exact⟨r,b,a⟩
 | trans _ _ i1 i2=>exact i1.trans i2
end
theorem aHT{W:Nat→Prop}{h0:Ev.T AB}{base:Nat}{d:Option Nat}{mm i:Nat}{l:List AO}{F:Fr}{S:St}{ps:List iJ}{last:Option Nat}{Q:Fr→St→List iJ→Prop}{sk:sC}{m k v:cL}{S1:St}(h:kQ last mm=true)(he:pD (m.val F) sk (k.val F) (v.val F) ⟨(cF mm ps S.h).2,S.nx⟩=some (.undef,S1))(ho:aGS W base ⟨(cF mm ps S.h).2,S.nx⟩ S1)(hr:fK fns W h0 base l (i+1) (cK d F .undef) S1 (cF mm ps S.h).1 (some i) Q):fK fns W h0 base (⟨d,.x (.mapUpd sk m k v),none,mm⟩::l) i F S ps last Q:=by
 unfold fK;rw[if_pos (show eM none F=true from rfl)];exact⟨h,_,S1,fun call=>he,ho,hr⟩
theorem wD{b:Nat}:cC (.map b) (.map b)=true:=by
 show Nat.beq b b=true;exact Nat.beq_refl b
theorem tM{k:K2}:cC (jD k) (jD k)=true:=by
 unfold jD;simp only[cC,kB,fC,iL,Eb,aQ]
theorem nR(k:K2):(jD k).cells=some [.int .i64 (k.1:Int),.int .i64 (k.2:Int)]:=rfl
def wV(h:Ev.T AB)(b:Nat)(k:K2):Prop:=h.get b=some (.cells [.int .i64 (k.1:Int),.int .i64 (k.2:Int)] false 0)
theorem kH{h:Ev.T AB}{b:Nat}{k:K2}(hb:wV h b k):eH (.ptr b 0) true 2 h=some (jD k):=aK0 hb
structure mN(S:St)(ub mb:Nat)(u:K2→Option K2):Prop where
 hu:S.h.get ub=some (.cells [.map mb] false 0)
 m:aBO jD S.h mb u
 lu:ub<S.nx
 lm:mb<S.nx
 ne:ub≠mb
theorem mN.off{S X:St}{ub mb:Nat}{u:K2→Option K2}(h:mN S ub mb u)(hn:S.nx≤X.nx)(hk:∀c,c<S.nx→X.h.get c=S.h.get c):mN X ub mb u:=by
 obtain⟨l,h1,h2⟩:=h.m;exact⟨(hk _ h.lu).trans h.hu,⟨l,(hk _ h.lm).trans h1,h2⟩,Ae h.lu hn,Ae h.lm hn,h.ne⟩
theorem mN.same{S X:St}{ub mb:Nat}{u:K2→Option K2}(h:mN S ub mb u)(hs:Same S X):mN X ub mb u:=h.off hs.1 hs.2
theorem mN.off2{S X:St}{ub mb:Nat}{u:K2→Option K2}(h:mN S ub mb u)(hn:S.nx≤X.nx)(h1:X.h.get ub=S.h.get ub)(h2:X.h.get mb=S.h.get mb):mN X ub mb u:=by
 obtain⟨l,h3,h4⟩:=h.m;exact⟨h1.trans h.hu,⟨l,h2.trans h3,h4⟩,Ae h.lu hn,Ae h.lm hn,h.ne⟩
theorem aFd{h:Ev.T AB}{ub mb:Nat}(hu:h.get ub=some (.cells [.map mb] false 0)):eH (.ptr ub (0+0)) false 1 h=some (.map mb):=ldc hu rfl
def lkV(o:Option K2):AV:=match o with | some v=>.tup [jD v,.bool true] | none=>.tup [jD (0,0),.bool false]
theorem aFL(o:Option K2):cC (lkV o) (lkV o)=true:=by
 cases o with
 | none=>
  show cC (.tup [jD (0,0),.bool false]) (.tup [jD (0,0),.bool false])=true;have:=tM (k:=(0,0));simp only[cC,kB,this,aQ];rfl
 | some v=>
  show cC (.tup [jD v,.bool true]) (.tup [jD v,.bool true])=true;have:=tM (k:=v);simp only[cC,kB,this,aQ];rfl
theorem aKm(o:Option K2):∃k:K2,lkV o= .tup [jD k,.bool o.isSome]∧∀v,o=some v→k=v:=by
 cases o with
 | none=>exact⟨(0,0),rfl,fun v h=>by cases h⟩
 | some v=>exact⟨v,rfl,fun w h=>by cases h;rfl⟩
theorem aKB{h:Ev.T AB}{mb:Nat}{u:K2→Option K2}(hm:aBO jD h mb u){k:K2}{m x:cL}{F:Fr}(h1:m.val F= .map mb)(h2:x.val F=jD k):fV (.lookup (.struct [(0,.int),(1,.int)]) (.agg [.int .i64 0,.int .i64 0]) true m x) F h=some (lkV (u k)):=(aIm hm h1 h2).trans (by unfold lkV;cases u k<;>rfl)
def FkI(S:St)(ub mb kb rb:Nat)(E:K2→K2→Prop)(u0:K2→Option K2)(k0:K2)(rk:K2→Nat)(n:Nat)(A:bH)(X:St):Prop:=A.inr=false∧bS mb S X∧kb<X.nx∧rb<X.nx∧(∃a b,X.h.get rb=some (.cells [a,b] false 0))∧∃ (k:K2) (u:K2→Option K2),rk k=n∧wV X.h kb k∧mN X ub mb u∧UpK u E∧(∀x a,u x=some a→rk a<rk x)∧(∀x r,dP u0 x r→dP u x r)∧(∀r,dP u0 k0 r→dP u k r)∧aB 0 A.F= .ptr ub 0∧aB 3 A.F= .ptr kb 0∧aB 4 A.F= .ptr rb 0
theorem UpK.half_rk{u:K2→Option K2}{rk:K2→Nat}(h:∀x a,u x=some a→rk a<rk x){k a o:K2}(e1:u k=some a)(e2:u a=some o):∀x y,nJ u k o x=some y→rk y<rk x:=fun x y hx=>by
 unfold nJ at hx;split at hx
 ·rename_i e;cases hx;subst e;have h1:=h x a e1;have h2:=h a o e2;omega
 ·exact h x y hx
theorem yH{S:St}{ub mb:Nat}{E:K2→K2→Prop}{u0:K2→Option K2}{k0 r0:K2}(H:Has fns)(hU:mN S ub mb u0)(hup:UpK u0 E)(hr:dP u0 k0 r0):
  gH fns (.fn 138 [] []) [.ptr ub 0,jD k0] S fun r S'=>r=jD r0∧bS mb S S'∧∃u,mN S' ub mb u∧UpK u E∧∀x r,dP u0 x r→dP u x r:=by
 obtain⟨rk,hrk⟩:=hup.rk;refine cI H.f138 (by simp) ?_;simp only[↓aF,aE,rE,↓reduceIte,rA];refine bQ ?_;refine cM (by simp only[↓aF,aE,rE,↓reduceIte,rA];exact nR _) ?_;intro S1 s1 n1 g1;try simp only[↓aF,aE,rE,↓reduceIte,rA]
 refine cH ?_;intro S2 s2 n2 g2;try simp only[↓sU,sD,rE,↓reduceIte,rA]
 have s12:=s1.trans s2;have hu2:=hU.same s12;have hlu:=hU.lu;have hlm:=hU.lm;refine aL (bL (FkI S ub mb S.nx S1.nx E u0 k0 rk) ?_ (rk k0) _ _ ⟨rfl,⟨s12.1,fun c hc _=>s12.2 c hc⟩,by omega,by omega,⟨_,_,g2⟩,k0,u0,rfl,(s2.2 _ (by omega)).trans g1,hu2,hup,hrk,fun _ _ h=>h,fun _ h=>h,by refine⟨?_,?_,?_⟩<;>simp only[↓sU,sD,rE,↓reduceIte,rA]⟩);clear g1 g2 s12 hu2 hrk;rintro n ⟨F,inr⟩ X ⟨q0,hX,lk,lr,⟨ra,rb',hrb⟩,k,u,hn,hk,hu,hup',hrk,hro,hrt,p0,p3,p4⟩;simp only at q0 p0 p3 p4;subst q0;have hr1:=hrt r0 hr;have hld:=aFd hu.hu;have hkl:=kH hk;have hlu':=hu.lu;have hlm':=hu.lm;have hne:=hu.ne;have fin:∀Z:St,bS mb S Z→bS mb S Z:=fun _ h=>h;refine aL (aA (jN (fun _=>False) ?_));have slk:=aFL (u k);obtain⟨kv,ek,ekv⟩:=aKm (u k);rw[ek] at slk;have hlk1:∀F:Fr,aB 13 F= .map mb→aB 14 F=jD k→fV (.lookup (.struct [(0,.int),(1,.int)]) (.agg [.int .i64 0,.int .i64 0]) true (.t 13) (.t 14)) F X.h=some (.tup [jD kv,.bool (u k).isSome]):=fun F a b=>by
  rw[←ek];exact aKB hu.m a b
 have hol1:∀F:Fr,aB 13 F= .map mb→aAr (fun _=>False) X.nx (.lookup (.struct [(0,.int),(1,.int)]) (.agg [.int .i64 0,.int .i64 0]) true (.t 13) (.t 14)) F:=fun F a=>vQ a hlm' (fun h=>h);have il:dI (.lookup (.struct [(0,.int),(1,.int)]) (.agg [.int .i64 0,.int .i64 0]) true (.t 13) (.t 14))=true:=rfl;simp only[↓sU,sD,rE,↓reduceIte,rA,p0,p3,bJ,bX,bI,aC,aU,aD,hld,wD,hlu',hkl,tM,lk,Al,hlk1,hol1,il,slk,uW,vE,nP];obtain⟨X1,eX1⟩:∃X1:St,X1=⟨(X.h.set (X.nx+9) (some (.cells [.int .i64 0,.int .i64 0] false 0))).set (X.nx+9) (some (.cells [.int .i64 (kv.1:Int),.int .i64 (kv.2:Int)] false 0)),X.nx+12⟩:=⟨_,rfl⟩;have hf1:cF 767 [⟨9,X.nx+9,.cells [.int .i64 0,.int .i64 0] false 0⟩] X.h=([],X.h.set (X.nx+9) (some (.cells [.int .i64 0,.int .i64 0] false 0))):=dF (m:=767) rfl;have nX1:X1.nx=X.nx+12:=by rw[eX1]
 have sX1:Same X X1:=by
  rw[eX1];exact⟨Av _ _,fun c hc=>by simp only;rw[T.get_set,if_neg (by omega),T.get_set,if_neg (by omega)]⟩
 have cX1:wV X1.h (X.nx+9) kv:=by
  rw[eX1];show T.get _ _=_;rw[T.get_set,if_pos rfl]
 refine rG (S1:=X1) rfl ?_ ?_ ?_
 ·simp only[↓sU,sD,rE,↓reduceIte,rA,hf1,nR];rw[eX1];exact kD (S:=⟨X.h.set (X.nx+9) (some (.cells [.int .i64 0,.int .i64 0] false 0)),X.nx+12⟩) (by simp only;rw[T.get_set,if_pos rfl]) rfl rfl
 ·rw[hf1,eX1];exact⟨Ah _,fun c hc _=>by simp only;rw[T.get_set,if_neg (by omega)]⟩
 rw[hf1];simp only[↓sU,sD,rE,↓reduceIte,rA];clear hlk1 hol1 il slk hf1 eX1;have hu1:=hu.same sX1;have hk1:wV X1.h S.nx k:=(sX1.2 _ lk).trans hk;have hkl1:=kH hk1;have lk1:S.nx<X1.nx:=by omega
 have lr1:S1.nx<X1.nx:=by omega
 have hrb1:=(sX1.2 _ lr).trans hrb;have sbX1:bS mb S X1:=hX.trans ⟨sX1.1,fun c hc _=>sX1.2 c hc⟩;refine gC ?_;simp only[↓sU,sD,rE,↓reduceIte,rA,gE];cases hcase:u k with
 | none=>
  have hk0:k=r0:=dP.uni (.root hcase) hr1;refine aO (by simp only[↓sU,sD,rE,↓reduceIte,rA];first | rfl | trivial) ?_;refine bQ ?_;simp only[↓sU,sD,rE,↓reduceIte,rA,p3,hkl1];refine fJ (fun call=>by simp only[↓sU,sD,rE,↓reduceIte,rA,dN,p4,nR];exact kD hrb1 rfl rfl) ?_;simp only[↓sU,sD,rE,↓reduceIte,rA];refine aS ?_;have ld2:eH (.ptr S1.nx 0) true 2 (X1.h.set S1.nx (some (.cells [.int .i64 (k.1:Int),.int .i64 (k.2:Int)] false 0)))=some (jD k):=kH (by show T.get _ _=_;rw[T.get_set,if_pos rfl]);simp only[↓sU,sD,rE,↓reduceIte,rA,dK,p4,ld2];refine⟨by rw[hk0],⟨Ak hX.1 sX1.1,fun c hc hcm=>?_⟩,u,hu1.off2 (Ah _) (by simp only;rw[T.get_set,if_neg (by omega)]) (by simp only;rw[T.get_set,if_neg (by omega)]),hup',hro⟩;simp only;rw[T.get_set,if_neg (by omega)];exact sbX1.2 c hc hcm
 | some kk=>
  obtain rfl:=ekv kk hcase;refine aN (by simp only[↓sU,sD,rE,↓reduceIte,rA];first | rfl | trivial) (aI ?_);try simp only[↓sU,sD,rE,↓reduceIte,rA]
  have hrk1:=hrk k kv hcase;have hld1:=aFd hu1.hu;have hlu1:=hu1.lu;have hlm1:=hu1.lm;have hvl:=kH cX1;have lv1:X.nx+9<X1.nx:=by omega
  refine aA (aA (jN (fun _=>False) ?_));have slk:=aFL (u kv);obtain⟨ko,ek2,eko⟩:=aKm (u kv);rw[ek2] at slk;have hlk1:∀F:Fr,aB 25 F= .map mb→aB 26 F=jD kv→fV (.lookup (.struct [(0,.int),(1,.int)]) (.agg [.int .i64 0,.int .i64 0]) true (.t 25) (.t 26)) F X1.h=some (.tup [jD ko,.bool (u kv).isSome]):=fun F a b=>by
   rw[←ek2];exact aKB hu1.m a b
  have hol1:∀F:Fr,aB 25 F= .map mb→aAr (fun _=>False) X1.nx (.lookup (.struct [(0,.int),(1,.int)]) (.agg [.int .i64 0,.int .i64 0]) true (.t 25) (.t 26)) F:=fun F a=>vQ a hlm1 (fun h=>h);have il:dI (.lookup (.struct [(0,.int),(1,.int)]) (.agg [.int .i64 0,.int .i64 0]) true (.t 25) (.t 26))=true:=rfl;simp only[↓sU,sD,rE,↓reduceIte,rA,p0,bJ,bX,bI,aC,aU,aD,hld1,wD,hlu1,hvl,tM,lv1,Al,hlk1,hol1,il,slk,uW,vE,nP];obtain⟨X2,eX2⟩:∃X2:St,X2=⟨(X1.h.set (X1.nx+9) (some (.cells [.int .i64 0,.int .i64 0] false 0))).set (X1.nx+9) (some (.cells [.int .i64 (ko.1:Int),.int .i64 (ko.2:Int)] false 0)),X1.nx+12⟩:=⟨_,rfl⟩;have hf1:cF 767 [⟨9,X1.nx+9,.cells [.int .i64 0,.int .i64 0] false 0⟩] X1.h=([],X1.h.set (X1.nx+9) (some (.cells [.int .i64 0,.int .i64 0] false 0))):=dF (m:=767) rfl;have nX2:X2.nx=X1.nx+12:=by rw[eX2]
  have sX2:Same X1 X2:=by
   rw[eX2];exact⟨Av _ _,fun c hc=>by simp only;rw[T.get_set,if_neg (by omega),T.get_set,if_neg (by omega)]⟩
  have cX2:wV X2.h (X1.nx+9) ko:=by
   rw[eX2];show T.get _ _=_;rw[T.get_set,if_pos rfl]
  refine rG (S1:=X2) rfl ?_ ?_ ?_
  ·simp only[↓sU,sD,rE,↓reduceIte,rA,hf1,nR];rw[eX2];exact kD (S:=⟨X1.h.set (X1.nx+9) (some (.cells [.int .i64 0,.int .i64 0] false 0)),X1.nx+12⟩) (by simp only;rw[T.get_set,if_pos rfl]) rfl rfl
  ·rw[hf1,eX2];exact⟨Ah _,fun c hc _=>by simp only;rw[T.get_set,if_neg (by omega)]⟩
  rw[hf1];simp only[↓sU,sD,rE,↓reduceIte,rA];clear hlk1 hol1 il slk hf1 eX2;have hu2:=hu1.same sX2;have hk2:wV X2.h S.nx k:=(sX2.2 _ lk1).trans hk1;have hv2:wV X2.h (X.nx+9) kv:=(sX2.2 _ lv1).trans cX1;have hrb2:=(sX2.2 _ lr1).trans hrb1;have hkl2:=kH hk2;have hol2:=kH cX2;have hld2:=aFd hu2.hu;have hlu2:=hu2.lu;have hlm2:=hu2.lm;have lk2:S.nx<X2.nx:=by omega
  have lo2:X1.nx+9<X2.nx:=by omega
  have sbX2:bS mb S X2:=sbX1.trans ⟨sX2.1,fun c hc _=>sX2.2 c hc⟩;refine bQ ?_;simp only[↓sU,sD,rE,↓reduceIte,rA];refine aY (Q:=fun o A' Z=>o= .normal∧A'.inr=false∧X2.nx≤Z.nx∧(∀c,c<X2.nx→c≠mb→Z.h.get c=X2.h.get c)∧aB 0 A'.F= .ptr ub 0∧aB 3 A'.F= .ptr S.nx 0∧aB 4 A'.F= .ptr S1.nx 0∧aB 5 A'.F= .ptr (X.nx+9) 0∧∃u',mN Z ub mb u'∧UpK u' E∧(∀x a,u' x=some a→rk a<rk x)∧∀x r,dP u x r→dP u' x r) ?_ ?_
  ·cases hc2:u kv with
   | none=>
    refine aN (by simp only[↓sU,sD,rE,↓reduceIte,rA];first | rfl | trivial) (aI ?_);simp only[↓sU,sD,rE,↓reduceIte,rA,p0,p3,p4];exact⟨Ah _,fun _ _ _=>by trivial,u,hu2,hup',hrk,fun _ _ h=>h⟩
   | some kk=>
    obtain rfl:=eko kk hc2;obtain⟨Z,eZ,nZ,kZ,mZ⟩:=aDH (S:=⟨X2.h,X2.nx+7⟩) hu2.m k ko;obtain⟨hh1,hh2⟩:=hup'.half hcase hc2;refine aO (by simp only[↓sU,sD,rE,↓reduceIte,rA];first | rfl | trivial) ?_;refine jN (fun c=>c=mb) ?_;have hne2:=hu2.ne;have nk:S.nx≠mb:=by omega
    have no:X1.nx+9≠mb:=by omega
    simp only[↓sU,sD,rE,↓reduceIte,rA,p0,p3,bJ,bX,bI,aC,aU,aD,hld2,wD,hlu2,hne2,hkl2,hol2,tM,lk2,lo2,nk,no,Al];refine aHT (S1:=Z) rfl ?_ ?_ ?_
    ·simp only[↓sU,sD,rE,↓reduceIte,rA];exact eZ
    ·exact⟨by rw[nZ];exact Ah _,fun c hc hcm=>kZ c hcm⟩
    simp only[↓sU,sD,rE,↓reduceIte,rA,p0,p3,p4];refine⟨by rw[nZ];exact Av _ _,fun c hc hcm=>kZ c hcm,nJ u k ko,⟨(kZ _ hne2).trans hu2.hu,mZ,Ae hlu2 (by rw[nZ];exact Av _ _),Ae hlm2 (by rw[nZ];exact Av _ _),hne2⟩,hh1,UpK.half_rk hrk hcase hc2,hh2⟩
  clear p0 p3 p4;rintro o ⟨F,inr⟩ Z ⟨rfl,q0,nZ,kZ,p0,p3,p4,p5,u',hu3,hup3,hrk3,hro3⟩;simp only at q0 p0 p3 p4 p5;subst q0;have hv3:=kH (h:=Z.h) ((kZ _ (by omega) (by omega)).trans hv2);have hk3:wV Z.h S.nx k:=(kZ _ lk2 (by omega)).trans hk2;try simp only[↓sU,sD,rE,↓reduceIte,rA]
  refine aJ ?_;simp only[↓sU,sD,rE,↓reduceIte,rA,p5,hv3];refine fJ (fun call=>by simp only[↓sU,sD,rE,↓reduceIte,rA,dN,p3,nR];exact kD hk3 rfl rfl) ?_;simp only[↓sU,sD,rE,↓reduceIte,rA];refine⟨rk kv,by omega,rfl,⟨by simp only;have:=sbX2.1;omega,fun c hc hcm=>?_⟩,by simp only;omega,by simp only;omega,⟨ra,rb',?_⟩,kv,u',rfl,?_,hu3.off2 (Ah _) (by simp only;rw[T.get_set,if_neg (by omega)]) (by simp only;rw[T.get_set,if_neg (by omega)]),hup3,hrk3,fun x r h=>hro3 x r (hro x r h),fun r h=>hro3 _ _ ((hrt r h).next hcase),by refine⟨?_,?_,?_⟩<;>simp only[↓sU,sD,rE,↓reduceIte,rA,p0,p3,p4]⟩
  ·simp only;rw[T.get_set,if_neg (by omega),kZ c (by have:=sbX2.1;omega) hcm];exact sbX2.2 c hc hcm
  ·simp only;rw[T.get_set,if_neg (by omega),kZ _ (by omega) (by omega)];exact hrb2
  ·show T.get _ _=_;rw[T.get_set,if_pos rfl]
theorem aIO(a b:K2):pO .neq (.struct [(0,.int),(1,.int)]) (jD a) (jD b)=some (.bool (decide (a≠b))):=by
 show(aZ (eqv skK (jD a) (jD b)) fun b=>some (AV.bool (bN b false true)))=_;rw[aIg,aK];by_cases h:a=b
 ·rw[Ac h,aQ,Aa (fun h'=>h' h)]
 ·rw[Aa h,aW,Ac h]
theorem aHE{S:St}{ub mb:Nat}{E:K2→K2→Prop}{u0:K2→Option K2}{a b:K2}(H:Has fns)(hU:mN S ub mb u0)(hup:UpK u0 E)(hc:iB E a b):
  gH fns (.fn 137 [] []) [.ptr ub 0,jD a,jD b] S fun _ S'=>bS mb S S'∧∃u,mN S' ub mb u∧UpK u E∧(∀x y,jB u0 x y→jB u x y)∧jB u a b:=by
 obtain⟨r1,hr1⟩:=hup.ex a;obtain⟨r2,hr2⟩:=hup.ex b;refine cI H.f137 (by simp) ?_;simp only[↓aF,aE,rE,↓reduceIte,rA];refine bQ ?_;refine cM (by simp only[↓aF,aE,rE,↓reduceIte,rA];exact nR _) ?_;intro S1 s1 n1 g1;simp only[↓aF,aE,rE,↓reduceIte,rA];refine cM (by simp only[↓aF,aE,rE,↓reduceIte,rA];exact nR _) ?_;intro S2 s2 n2 g2;try simp only[↓sU,sD,rE,↓reduceIte,rA]
 have s12:=s1.trans s2;have hu2:=hU.same s12;have hlu:=hU.lu;have hlm:=hU.lm;have c4:wV S2.h S.nx a:=(s2.2 _ (by omega)).trans g1;have c5:wV S2.h S1.nx b:=g2;have l4:=kH c4;have l5:=kH c5;have lt4:S.nx<S2.nx:=by omega
 have lt5:S1.nx<S2.nx:=by omega
 have n4:S.nx≠mb:=by omega
 have n5:S1.nx≠mb:=by omega
 clear g1 g2;refine aA (nQ (W:=fun c=>c=mb) (pre:=jnP) (suf:=jnX) (K:=6) (R:=fun F' Z ps=>ps= []∧S2.nx≤Z.nx∧bS mb S2 Z∧(∃u,mN Z ub mb u∧UpK u E∧∀x r,dP u0 x r→dP u x r)∧aB 8 F'=jD r1∧aB 11 F'=jD r2∧aB 0 F'= .ptr ub 0∧aB 4 F'= .ptr S.nx 0∧aB 5 F'= .ptr S1.nx 0) rfl rfl rfl (fun X1 x1 hh1 nn1=>?_) ?_)
 ·unfold jnP;simp only[↓sU,sD,rE,↓reduceIte,rA,l4,tM,lt4,n4,Al];refine yM rfl ?_;simp only[↓sU,sD,rE,↓reduceIte,rA];refine aX (yH H (hu2.same x1) hup hr1) ?_;rintro _ Y1 ⟨rfl,y1,u1,hu1,hup1,hro1⟩;refine⟨⟨y1.1,fun c hc hne=>y1.2 c (Ae hc x1.1) hne⟩,?_⟩;simp only[↓sU,sD,rE,↓reduceIte,rA,l5,tM,lt5,n5,Al];refine yM rfl ?_;simp only[↓sU,sD,rE,↓reduceIte,rA];refine aX (yH H hu1 hup1 (hro1 _ _ hr2)) ?_;rintro _ Y2 ⟨rfl,y2,u2,hu2',hup2,hro2⟩;refine⟨⟨y2.1,fun c hc hne=>y2.2 c (Ae (Ae hc x1.1) y1.1) hne⟩,?_⟩;simp only[↓sU,sD,rE,↓reduceIte,rA];exact⟨Ak x1.1 (Ak y1.1 y2.1),(bS.trans ⟨x1.1,fun c hc _=>x1.2 c hc⟩ y1).trans y2,u2,hu2',hup2,fun x r h=>hro2 _ _ (hro1 _ _ h)⟩
 rintro F' S' ps hs ls ⟨rfl,nZ,sZ,⟨u,hu,hup',hro⟩,p8,p11,p0,p4,p5⟩ hlast hld;have m1:∀i,i<6→Nat.testBit 63 i=true:=by decide
 have d4:wV S'.h S.nx a:=(sZ.2 _ lt4 n4).trans c4;have d5:wV S'.h S1.nx b:=(sZ.2 _ lt5 n5).trans c5;have hne45:S1.nx≠S.nx:=by omega
 unfold jnX;refine jP (v:=.undef) (S1:=⟨S'.h.set S.nx (some (.cells [.int .i64 (r1.1:Int),.int .i64 (r1.2:Int)] false 0)),S'.nx⟩) (hlast _ m1) (fun call=>?_) ?_
 ·rw[dN];simp only[fD,p4,p8,bE,nR,aK];exact kD (S:=S') d4 rfl rfl
 simp only[bE,eF];refine jP (v:=.undef) (S1:=⟨(S'.h.set S.nx (some (.cells [.int .i64 (r1.1:Int),.int .i64 (r1.2:Int)] false 0))).set S1.nx (some (.cells [.int .i64 (r2.1:Int),.int .i64 (r2.2:Int)] false 0)),S'.nx⟩) (show Nat.testBit 127 6=true by decide) (fun call=>?_) ?_
 ·rw[dN];simp only[fD,p5,p11,bE,nR,aK];exact kD (S:=⟨S'.h.set S.nx (some (.cells [.int .i64 (r1.1:Int),.int .i64 (r1.2:Int)] false 0)),S'.nx⟩) (by simp only;rw[T.get_set,if_neg hne45];exact d5) rfl rfl
 rw[fZ];refine⟨?_,?_⟩
 ·simp only[Bz,Cd,Di,Cf,Cc];exact hld _ _ _ m1
 simp only[bE,eF];obtain⟨Z,eZ⟩:∃Z:St,Z=⟨(S'.h.set S.nx (some (.cells [.int .i64 (r1.1:Int),.int .i64 (r1.2:Int)] false 0))).set S1.nx (some (.cells [.int .i64 (r2.1:Int),.int .i64 (r2.2:Int)] false 0)),S'.nx⟩:=⟨_,rfl⟩;have nZ':Z.nx=S'.nx:=by rw[eZ]
 have kZ:∀c,c≠S.nx→c≠S1.nx→Z.h.get c=S'.h.get c:=fun c h1 h2=>by rw[eZ];simp only;rw[T.get_set,if_neg h2,T.get_set,if_neg h1]
 have z4:wV Z.h S.nx r1:=by rw[eZ];show T.get _ _=_;rw[T.get_set,if_neg (Bq hne45),T.get_set,if_pos rfl]
 have z5:wV Z.h S1.nx r2:=by rw[eZ];show T.get _ _=_;rw[T.get_set,if_pos rfl]
 rw[←eZ];have huZ:mN Z ub mb u:=hu.off2 (by omega) (kZ _ (by omega) (by omega)) (kZ _ (by omega) (by omega));have sSZ:bS mb S Z:=⟨by have:=sZ.1;omega,fun c hc hcm=>by rw[kZ c (by omega) (by omega),sZ.2 c (by omega) hcm];exact s12.2 c hc⟩;have hr1':=hro _ _ hr1;have hr2':=hro _ _ hr2;have hsm:∀x y,jB u0 x y→jB u x y:=fun x y ⟨r,h1,h2⟩=>⟨r,hro _ _ h1,hro _ _ h2⟩;have lz4:=kH z4;have lz5:=kH z5;clear eZ;try simp only[↓sU,sD,rE,↓reduceIte,rA]
 refine bQ ?_;simp only[↓sU,sD,rE,↓reduceIte,rA,p4,p5,lz4,lz5,aIO];by_cases hne:r1=r2
 ·refine aN (by simp only[↓sU,sD,rE,↓reduceIte,rA,Aa (show ¬r1≠r2 from fun h=>h hne)]) (aI ?_);try simp only[↓sU,sD,rE,↓reduceIte,rA]
  exact⟨_,rfl,sSZ,u,huZ,hup',hsm,r1,hr1',by rw[hne];exact hr2'⟩
 ·have hcr:iB E r1 r2:=.trans (.symm (hup'.conr hr1')) (.trans hc (hup'.conr hr2'));obtain⟨j1,j2⟩:=hup'.join hr1'.none hr2'.none hne hcr;obtain⟨V,eV,nV,kV,mV⟩:=aDH (S:=⟨Z.h,Z.nx+7⟩) huZ.m r1 r2;have hldz:=aFd huZ.hu;have hluz:=huZ.lu;have hlmz:=huZ.lm;have hnez:=huZ.ne;have lt4z:S.nx<Z.nx:=by have:=sZ.1;omega
  have lt5z:S1.nx<Z.nx:=by have:=sZ.1;omega
  refine aO (by simp only[↓sU,sD,rE,↓reduceIte,rA,Ac (show r1≠r2 from hne)]) ?_;refine jN (fun c=>c=mb) ?_;simp only[↓sU,sD,rE,↓reduceIte,rA,p0,p4,p5,bJ,bX,bI,aC,aU,aD,hldz,wD,hluz,hnez,lz4,lz5,tM,lt4z,lt5z,n4,n5,Al];refine aHT (S1:=V) rfl ?_ ?_ ?_
  ·simp only[↓sU,sD,rE,↓reduceIte,rA];exact eV
  ·exact⟨by rw[nV];exact Ah _,fun c hc hcm=>kV c hcm⟩
  simp only[↓sU,sD,rE,↓reduceIte,rA];refine⟨_,rfl,⟨Ak sSZ.1 (by rw[nV];exact Av _ _),fun c hc hcm=>(kV c hcm).trans (sSZ.2 c hc hcm)⟩,nJ u r1 r2,⟨(kV _ hnez).trans huZ.hu,mV,Ae hluz (by rw[nV];exact Av _ _),Ae hlmz (by rw[nV];exact Av _ _),hnez⟩,j1,fun x y hxy=>?_,r2,?_,?_⟩
  ·obtain⟨r,h1,h2⟩:=hsm x y hxy;exact⟨_,j2 _ _ h1,j2 _ _ h2⟩
  ·have:=j2 _ _ hr1'
   rwa [if_pos rfl] at this
  ·have:=j2 _ _ hr2'
   rwa [if_neg (Bq hne)] at this
theorem xG{S:St}{iv:AV}(H:Has fns)(hc:iv.cells=some [iv]):gH fns (.fn 107 [] []) [iv] S fun r X=>Same S X∧∃b,r= .fn 147 [] [.ptr b 0]∧S.nx≤b∧b<X.nx∧X.h.get b=some (.cells [iv] false 0):=by
 refine cI H.f107 (by simp) ?_;simp only[↓sU,sD,rE,↓reduceIte,rA];refine bQ ?_;refine cM (cs:=[iv]) (by simp only[↓sU,sD,rE,↓reduceIte,rA];exact hc) ?_;intro S1 s1 n1 g1;simp only[↓sU,sD,rE,↓reduceIte,rA];refine bQ ?_;simp only[↓sU,sD,rE,↓reduceIte,rA,zK];refine aS ?_;simp only[↓sU,sD,rE,↓reduceIte,rA];exact⟨s1,S.nx,rfl,Ah _,by omega,g1⟩
def cR(g:aR)(s:Nat):Nat:=(infoAt g (s:Int)).actions.toNat
def aQl(J:Nat→Nat→St→Prop)(X:St)(ac bd:AC)(p q:Nat)(F0:Fr)(iv:AV)(n:Nat)(k:Nat)(A:bH)(Y:St):Prop:=A.inr=false∧∃s,s+k=n∧J s 0 Y∧Y.h.get X.nx=some (.loop .ready none F0 [p,q] ac bd)∧aB 0 A.F= .yld X.nx∧aB 6 A.F=iv∧aB 7 A.F= .int .i64 (n:Int)∧aB 8 A.F= .int .i64 (s:Int)
def aOp(J:Nat→Nat→St→Prop)(X:St)(ac bd:AC)(p q:Nat)(F0:Fr)(iv:AV)(n s m:Nat)(k:Nat)(A:bH)(Y:St):Prop:=A.inr=false∧∃a,a+k=m∧J s a Y∧Y.h.get X.nx=some (.loop .ready none F0 [p,q] ac bd)∧aB 0 A.F= .yld X.nx∧aB 3 A.F= .int .i64 (s:Int)∧aB 6 A.F=iv∧aB 7 A.F= .int .i64 (n:Int)∧aB 8 A.F= .int .i64 (s:Int)∧aB 14 A.F= .int .i64 (m:Int)∧aB 15 A.F= .int .i64 (a:Int)
theorem aBq{S X:St}{f:cL}{p q b:Nat}{ac bd:AC}{A:bH}{g:aR}{iv:AV}{J:Nat→Nat→St→Prop}{R:St→Prop}{Q:Out→bH→St→Prop}(H:Has fns)(hi:A.inr=false)(hf:f.val A.F= .fn 147 [] [.ptr b 0])(hv:aH 2 cA S iv g.infos)(hll:g.infos.length≤10000)(hac:∀s,s<g.infos.length→0≤(infoAt g (s:Int)).actions∧(infoAt g (s:Int)).actions≤10000)(hb:X.h.get b=some (.cells [iv] false 0))(hbl:b<X.nx)
  (hJ:∀s a Y,J s a Y→Same S Y∧X.nx<Y.nx)
  (hJs:∀s a Y Y',J s a Y→Y.nx≤Y'.nx→(∀c,c<Y.nx→c≠X.nx→Y'.h.get c=Y.h.get c)→J s a Y')
  (hRs:∀Y Y',R Y→Y.nx≤Y'.nx→(∀c,c<Y.nx→c≠X.nx→Y'.h.get c=Y.h.get c)→R Y')
  (J0:∀Y,X.nx<Y.nx→(∀c,c<X.nx→Y.h.get c=X.h.get c)→J 0 0 Y)
  (hrow:∀s Y,s<g.infos.length→J s (cR g s) Y→J (s+1) 0 Y)
  (hbody:∀s a Y,s<g.infos.length→a<cR g s→J s a Y→iH fns ac ⟨cK (some q) (cK (some p) A.F (.int .i64 (s:Int))) (.int .i64 (a:Int)),true⟩ Y fun o A1 Y1=>o= .normal∧Y1=Y∧∀bl,iH fns bd A1 ⟨Y.h.set X.nx bl,Y.nx⟩ fun o _ Y2=>Y2.h.get X.nx=bl∧Y.nx≤Y2.nx∧((o= .normal∧J s (a+1) Y2)∨(o= .ret∧R Y2)))
  (hend:∀Y,J g.infos.length 0 Y→Q .normal A Y) (hret:∀Y,R Y→Q .ret A Y):iH fns (.rng f [p,q] ac bd) A X Q:=by
 have set_ne:∀ (Y:St) (bl:Option AB) (c:Nat),c≠X.nx→(Y.h.set X.nx bl).get c=Y.h.get c:=fun Y bl c h=>by rw[T.get_set,if_neg h]
 refine aL4 hi hf ?_;generalize hX0:(⟨X.h.set X.nx (some (.loop .ready none A.F [p,q] ac bd)),X.nx+1⟩:St)=X0;have e0:X0.h.get X.nx=some (.loop .ready none A.F [p,q] ac bd):=by rw[←hX0];simp only;rw[T.get_set,if_pos rfl]
 have e1:∀c,c≠X.nx→X0.h.get c=X.h.get c:=fun c hc=>by rw[←hX0];exact set_ne X _ c hc
 have e2:X0.nx=X.nx+1:=by rw[←hX0]
 have hJ0:J 0 0 X0:=J0 X0 (by omega) (fun c hc=>e1 c (by omega));have hb0:X0.h.get b=some (.cells [iv] false 0):=(e1 b (by omega)).trans hb;have ldb:=eE (p:=0) hb0 rfl;clear hX0;refine cI H.f147 (by simp) ?_;simp only[↓sU,sD,rE,↓reduceIte,rA];refine bQ ?_;simp only[↓sU,sD,rE,↓reduceIte,rA,ldb,hv.len,Ag];have fin1:∀Y:St,J g.infos.length 0 Y→Y.h.get X.nx=some (.loop .ready none A.F [p,q] ac bd)→∃st pend fr ps2 as2 bd2 c,Y.h.get X.nx=some (.loop st pend fr ps2 as2 bd2)∧st≠ .busy∧aIT pend=some c∧iH fns c A ⟨Y.h.set X.nx (some (.loop .exhausted pend fr ps2 as2 bd2)),Y.nx⟩ Q:=fun Y h1 h2=>
  ⟨_,_,_,_,_,_,.skip,h2,(by intro h;cases h),rfl,aI (hend _ (hJs _ _ _ _ h1 (Ah _) (fun c _ hc=>set_ne Y _ c hc)))⟩
 have fin2:∀Y:St,R Y→Y.h.get X.nx=some (.loop .done (some .ret) A.F [p,q] ac bd)→∃st pend fr ps2 as2 bd2 c,Y.h.get X.nx=some (.loop st pend fr ps2 as2 bd2)∧st≠ .busy∧aIT pend=some c∧iH fns c A ⟨Y.h.set X.nx (some (.loop .exhausted pend fr ps2 as2 bd2)),Y.nx⟩ Q:=fun Y h1 h2=>
  ⟨_,_,_,_,_,_,.ret,h2,(by intro h;cases h),rfl,aS (hret _ (hRs _ _ h1 (Ah _) (fun c _ hc=>set_ne Y _ c hc)))⟩
 refine aY (Q:=fun o A' Y=>(o= .normal∧J g.infos.length 0 Y∧Y.h.get X.nx=some (.loop .ready none A.F [p,q] ac bd))∨(o= .ret∧R Y∧Y.h.get X.nx=some (.loop .done (some .ret) A.F [p,q] ac bd))) (aL (bL (aQl J X ac bd p q A.F iv g.infos.length) ?_ g.infos.length _ _ ⟨rfl,0,by omega,hJ0,e0,by simp only[↓sU,sD,rE,↓reduceIte,rA],by simp only[↓sU,sD,rE,↓reduceIte,rA],by simp only[↓sU,sD,rE,↓reduceIte,rA];try rfl,by simp only[↓sU,sD,rE,↓reduceIte,rA];try rfl⟩)) ?_;rotate_left
 ·rintro o ⟨F,inr⟩ Y (⟨rfl,h1,h2⟩ | ⟨rfl,h1,h2⟩)
  ·try simp only[↓sU,sD,rE,↓reduceIte,rA]
   exact⟨_,rfl,fin1 Y h1 h2⟩
  ·try simp only[↓sU,sD,rE,↓reduceIte,rA]
   exact fin2 Y h1 h2
 clear hJ0 e0 e1 e2 hb0 ldb fin1 fin2;rintro k ⟨F,inr⟩ Y ⟨q0,s,hsk,hJY,hl,p0,p6,p7,p8⟩;simp only at q0 p0 p6 p7 p8;subst q0;obtain⟨sY,lY⟩:=hJ _ _ _ hJY;refine bQ ?_;simp only[↓sU,sD,rE,↓reduceIte,rA,p7,p8];by_cases hlt:s<g.infos.length;rotate_left
 ·refine aA (aN (by simp only[↓sU,sD,rE,↓reduceIte,rA,Aa (show ¬ (s:Int)<((g.infos.length:Nat):Int) by omega)]) (bM ?_));simp only[↓sU,sD,rE,↓reduceIte,rA];obtain rfl:s=g.infos.length:=by omega
  exact .inl ⟨hJY,hl⟩
 refine aA (aO (by simp only[↓sU,sD,rE,↓reduceIte,rA,Ac (show(s:Int)<((g.infos.length:Nat):Int) by omega)]) (aI ?_));try simp only[↓sU,sD,rE,↓reduceIte,rA]
 obtain⟨e,br,qr,hia,lbr,_,he,hag,_⟩:=aH.at hv (by decide) (Ab hlt);have he:e= [.int .i64 g.infos[s].player,.int .i64 g.infos[s].actions]:=he;subst he;rw[←jJ sY lbr] at hag;have ei:infoAt g (s:Int)=g.infos[s]:=by
  unfold infoAt;rw[Ba,Ad,Ab hlt];rfl
 obtain⟨ac0,ac1⟩:=hac s hlt;have hact:g.infos[s].actions=((cR g s:Nat):Int):=by unfold cR;rw[←ei];omega
 have hm:cR g s≤10000:=by unfold cR;omega
 have w1:IntKind.i64.wrap ((s:Int)+1)=((s+1:Nat):Int):=by rw[wrap_i64 (by omega) (by omega)];omega
 refine aA (aL (aA (aJ ?_)));simp only[↓aF,aE,rE,↓reduceIte,rA,p6,p8,aG,hia,hag];refine cH ?_;intro W1 v1 k1 h1;try simp only[↓aF,aE,rE,↓reduceIte,rA]
 refine dB (b:=Y.nx) (by simp only[↓aF,aE,rE,↓reduceIte,rA]) (by simp only[↓aF,aE,rE,↓reduceIte,rA];exact bB _) h1 rfl rfl ?_;intro W v2 k2 h2;simp only[↓aF,aE,rE,↓reduceIte,rA];have sW:Same Y W:=v2.same v1 (Ah _);have hJW:=hJs _ _ _ W hJY sW.1 fun c hc _=>sW.2 c hc;have hlW:=(sW.2 _ lY).trans hl;clear v1 v2 h1 k1;refine bQ ?_;simp only[↓sU,sD,rE,↓reduceIte,rA,aC,aD,aH8 h2,hact];refine aY (Q:=fun o A' Z=>(o= .normal∧aOp J X ac bd p q A.F iv g.infos.length s (cR g s) 0 A' Z)∨(o= .ret∧R Z∧Z.h.get X.nx=some (.loop .done (some .ret) A.F [p,q] ac bd))) (aL (bL (aOp J X ac bd p q A.F iv g.infos.length s (cR g s)) ?_ (cR g s) _ _ ⟨rfl,0,by omega,hJW,hlW,by simp only[↓sU,sD,rE,↓reduceIte,rA,p0],by simp only[↓sU,sD,rE,↓reduceIte,rA],by simp only[↓sU,sD,rE,↓reduceIte,rA,p6],by simp only[↓sU,sD,rE,↓reduceIte,rA,p7],by simp only[↓sU,sD,rE,↓reduceIte,rA,p8],by simp only[↓sU,sD,rE,↓reduceIte,rA],by simp only[↓sU,sD,rE,↓reduceIte,rA];try rfl⟩)) ?_;rotate_left
 ·clear p0 p6 p7 p8;rintro o ⟨F,inr⟩ Z (⟨rfl,q0,a,ha,hJZ,hlZ,p0,p3,p6,p7,p8,_,_⟩ | ⟨rfl,h1,h2⟩)
  ·simp only at q0 p0 p6 p7 p8;subst q0;obtain rfl:a=cR g s:=by omega
   try simp only[↓sU,sD,rE,↓reduceIte,rA]
   refine aJ ?_;simp only[↓sU,sD,rE,↓reduceIte,rA,p8,w1];exact⟨k - 1,by omega,rfl,s+1,by omega,hrow s Z hlt hJZ,hlZ,by refine⟨?_,?_,?_,?_⟩<;>simp only[↓sU,sD,rE,↓reduceIte,rA,p0,p6,p7]⟩
  ·try simp only[↓sU,sD,rE,↓reduceIte,rA]
   exact .inr ⟨h1,h2⟩
 clear p0 p6 p7 p8 h2 hJW hlW hJY hl sY lY sW k2;rintro k' ⟨F,inr⟩ Z ⟨q0,a,hak,hJZ,hlZ,p0,p3,p6,p7,p8,p14,p15⟩;simp only at q0 p0 p3 p6 p7 p8 p14 p15;subst q0;refine bQ ?_;simp only[↓sU,sD,rE,↓reduceIte,rA,p14,p15];by_cases hat:a<cR g s;rotate_left
 ·refine aA (aN (by simp only[↓sU,sD,rE,↓reduceIte,rA,Aa (show ¬ (a:Int)<((cR g s:Nat):Int) by omega)]) (bM ?_));simp only[↓sU,sD,rE,↓reduceIte,rA];obtain rfl:k'=0:=by omega
  exact .inl ⟨rfl,a,hak,hJZ,hlZ,by refine⟨?_,?_,?_,?_,?_,?_,?_⟩<;>simp only[↓sU,sD,rE,↓reduceIte,rA,p0,p3,p6,p7,p8,p14,p15]⟩
 refine aA (aO (by simp only[↓sU,sD,rE,↓reduceIte,rA,Ac (show(a:Int)<((cR g s:Nat):Int) by omega)]) (aI ?_));try simp only[↓sU,sD,rE,↓reduceIte,rA]
 have w2:IntKind.i64.wrap ((a:Int)+1)=((a+1:Nat):Int):=by rw[wrap_i64 (by omega) (by omega)];omega
 refine aA (aL (aA (aJ ?_)));simp only[↓sU,sD,rE,↓reduceIte,rA,p15];refine bQ ?_;simp only[↓sU,sD,rE,↓reduceIte,rA,p0,p3];refine bG ?_;simp only[↓sU,sD,rE,↓reduceIte,rA];refine aX (Q:=fun r V=>(r= .bool true∧J s (a+1) V∧V.h.get X.nx=some (.loop .ready none A.F [p,q] ac bd))∨(r= .bool false∧R V∧V.h.get X.nx=some (.loop .done (some .ret) A.F [p,q] ac bd))) (aLp hlZ rfl (aY (hbody s a Z hlt hat hJZ) ?_)) ?_
 ·rintro o A1 Y1 ⟨rfl,rfl,hb1⟩;refine⟨rfl,none,A.F,[p,q],ac,hlZ,aY (hb1 _) ?_⟩;rintro o A2 Y2 ⟨g2,n2,h2⟩;refine⟨none,A.F,[p,q],ac,bd,g2,?_⟩;rcases h2 with⟨rfl,h2⟩ | ⟨rfl,h2⟩
  ·exact .inl ⟨rfl,.inl ⟨rfl,hJs _ _ _ _ h2 (Ah _) (fun c _ hc=>set_ne Y2 _ c hc),by simp only;rw[T.get_set,if_pos rfl]⟩⟩
  ·exact .inr ⟨(by intro h;cases h),.inr ⟨rfl,hRs _ _ h2 (Ah _) (fun c _ hc=>set_ne Y2 _ c hc),by simp only;rw[T.get_set,if_pos rfl]⟩⟩
 ·rintro r V (⟨rfl,h1,h2⟩ | ⟨rfl,h1,h2⟩)
  ·simp only[↓sU,sD,rE,↓reduceIte,rA,gE,Cz];refine aN (by simp only[↓sU,sD,rE,↓reduceIte,rA]) (aI ?_);try simp only[↓sU,sD,rE,↓reduceIte,rA]
   refine aJ ?_;simp only[↓sU,sD,rE,↓reduceIte,rA,p15,w2];exact⟨k' - 1,by omega,rfl,a+1,by omega,h1,h2,by refine⟨?_,?_,?_,?_,?_,?_,?_⟩<;>simp only[↓sU,sD,rE,↓reduceIte,rA,p0,p3,p6,p7,p8,p14]⟩
  ·simp only[↓sU,sD,rE,↓reduceIte,rA,gE,Ee];refine aO (by simp only[↓sU,sD,rE,↓reduceIte,rA]) (aS ?_);simp only[↓sU,sD,rE,↓reduceIte,rA];exact .inr ⟨h1,h2⟩
end Go.Ev.Gl
