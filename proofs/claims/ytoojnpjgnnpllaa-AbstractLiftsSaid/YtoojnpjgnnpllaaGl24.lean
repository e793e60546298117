import Derived.Test.YtoojnpjgnnpllaaGl23
open Nat renaming reduceEqDiff -> rE, reduceAdd -> rA
set_option maxHeartbeats 0
set_option linter.unusedSimpArgs false
set_option linter.unusedVariables false
namespace Go.Ev.Gl
variable {fns:T dY}
theorem pQ{S:St}{v:AV}{L:a9}{i:Nat}(h:aE 1 iD S v L)(hi:i<L.length):∃b q a,dO (.slice 1) v i=some (.ptr b q)/\bI .i64 S a (L.getD i [])/\b<S.nx/\∀X,Same S X->dT (.ptr b q) false 1 X.h=some a:=by
 obtain⟨_,b,q,h1,h2,_,⟨a,rfl,h3⟩,_,h4⟩:=aE.at h ay (aA6 hi);have h5:=h4 0 a rfl;rw[Br] at h5;exact⟨b,q,a,h1,h3,h2,fun X hX=>by rw[iA hX h2];exact h5⟩
def aTl(S:St)(nv iv mv:AV)(g:aS)(L:a9)(k:Nat)(A:bG)(X:St):Prop:=A.inr=false/\Same S X/\S.nx<X.nx/\X.h.get S.nx=some (.cells [.int .i64 g.bo,nv,iv] false 0)/\∃j:Nat,j+k=L.length/\kQ g L=kQ g (L.drop j)/\aD 1 A.F=mv/\aD 2 A.F= .ptr S.nx 0/\aD 6 A.F= .int .i64 (j:Int)
theorem aHS{S:St}{nv iv mv:AV}{g:aS}{L:a9}(H:Has fns)(hn:aE 6 bX S nv g.bh)(hi:aE 2 bP S iv g.bj)(hln:g.bh.length<=100000)(hm:aE 1 iD S mv L):
  fZ fns (.fn 100 [] []) [.agg [.int .i64 g.bo,nv,iv],mv] S fun r S'=>r= .int .i64 (jH g L)/\Same S S':=by
 have snv:=aE.self hn;have siv:=aE.self hi;refine cF H.f100 (by simp) ?_;refine ae ?_;refine bO ?_;refine cI (by refine ae ?_;exact aY _) ?_;intro S1 s1 n1 g1;refine ae ?_;refine fC (dm (eJ g1) ?_);refine bD (ae ?_);refine aW (aEe H (aE.same (E:=bX) bL hn s1) (aE.same (E:=bP) bK hi s1) hln) ?_;rintro _ S2 ⟨rfl,s2⟩;try refine ae ?_
 have s12:=s1.trans s2;refine bO (ae ?_);by_cases h0:cT g=0;rotate_left
 ·have hE:jH g L=cT g:=by unfold jH;rw[if_pos h0]
  rw[hE];refine aN (by simp only[↓sU,sD,rE,↓reduceIte,rA,Ac (show cT g≠0 from h0)]) ?_;refine bO (ae ?_);refine aP (ae ?_);exact s12
 refine aM (by simp only[↓sU,sD,rE,↓reduceIte,rA,Aa (show ¬cT g≠0 from fun h=>h h0)]) (aI ?_);try refine ae ?_
 refine fC ?_;refine dn ((aE.same (E:=iD) cm hm s12).len) @Ah ?_;by_cases h16:16<L.length
 ·have hE:jH g L=4:=by unfold jH;rw[if_neg (fun h=>h h0),if_pos h16]
  rw[hE];refine aN (by simp only[↓sU,sD,rE,↓reduceIte,rA,Ac (show(L.length:Int)>16 by omega)]) ?_;refine bO (ae ?_);refine aP (ae ?_);exact s12
 have hE:jH g L=kQ g L:=by unfold jH;rw[if_neg (fun h=>h h0),if_neg h16]
 rw[hE];refine aM (by simp only[↓sU,sD,rE,↓reduceIte,rA,Aa (show ¬ (L.length:Int)>16 by omega)]) (aI ?_);try refine ae ?_
 have G:=gF h0;have m2:=s2.1;have hg2:S2.h.get S.nx=some (.cells [.int .i64 g.bo,nv,iv] false 0):=(s2.2 _ ar).trans g1;refine aA (aX (Q:=fun o A' X=>(o= .normal/\Same S X/\kQ g L=0)\/(o= .ret/\Same S X/\aD 4 A'.F= .int .i64 (kQ g L))) (aA (aJ ?_)) ?_)
 ·refine ae ?_;refine aK (bH (aTl S nv iv mv g L) ?_ L.length _ _ ⟨rfl,s12,ar,hg2,0,ar,rfl,af,af,ag⟩);clear hg2;rintro k ⟨F,inr⟩ X ⟨q0,hX,lgX,gX,j,hjk,hEj,p1,p2,p6⟩;simp only at q0 p1 p2 p6;subst q0;refine fC ?_;refine dq p1 p6 ((aE.same (E:=iD) cm hm hX).len) @Ah ?_;by_cases hlt:j<L.length;rotate_left
  ·refine aM (by simp only[↓sU,sD,rE,↓reduceIte,rA,Aa (show ¬ (j:Int)<(L.length:Int) by omega)]) (bJ ?_);refine ae ?_;obtain rfl:j=L.length:=by omega
   rw[List.drop_length] at hEj;exact .inl ⟨hX,hEj⟩
  refine aN (by simp only[↓sU,sD,rE,↓reduceIte,rA,Ac (show(j:Int)<(L.length:Int) by omega)]) (aI ?_);try refine ae ?_
  have w1:=dh j
  have⟨xb,xq,a,xi,xs,xlt,xl⟩:=pQ hm hlt;have xl:=xl X hX;have sa:=bI.self xs;have hxb:xb<X.nx:=Ae xlt hX.1;have himd:=aD8 (g:=g) hlt;have hims:=aDM (g:=g) hlt;generalize L.getD j []=m at *;have l3:=eJ gX;have sag:cE (.agg [.int .i64 g.bo,nv,iv]) (.agg [.int .i64 g.bo,nv,iv])=true:=by
   simp only[cE,jR,snv,siv,fL,jP,decide_true,aR,Dk]
  refine aA (aK (aA (gS (fun _=>False) ?_)));intro X0 x0;simp only[↓sU,sD,rE,↓reduceIte,rA,p1,p2,p6,l3,lgX,Ak,sag,aH,xi,xl,sa,hxb];refine cU rfl ?_;refine ae ?_;refine aW (aCx (ok:=iR g m) H (aE.same (E:=bX) bL hn (hX.trans x0)) (xs.same (hX.trans x0)) hln (fun h1 h2 _ S' hS'=>aW (xR H (aE.same (E:=bX) bL hn ((hX.trans x0).trans hS')) (aE.same (E:=bP) bK hi ((hX.trans x0).trans hS')) (xs.same ((hX.trans x0).trans hS')) G ⟨h1,h2⟩) fun r S'' h=>by
   have⟨e1,a,b,t,e2,e3,_⟩:=h;exact⟨e1,a,b,t,e2,e3⟩)) ?_
  rintro _ X1 ⟨rfl,x1⟩;refine⟨x1,?_⟩;try refine ae ?_
  have sX1:=(hX.trans x0).trans x1;have gX1:=((x0.trans x1).2 _ lgX).trans gX;have lgX1:S.nx<X1.nx:=Ae lgX (x0.trans x1).1;refine bO (ae ?_);by_cases hm0:jE g.bh.length m (iR g m)=0;rotate_left
  ·rw[hims hm0] at hEj;refine aN (by simp only[↓sU,sD,rE,↓reduceIte,rA,Ac (show jE g.bh.length m (iR g m)≠0 from hm0)]) ?_;refine bO (ae ?_);refine aP ?_;exact .inr ⟨rfl,sX1,ah hEj⟩
  refine aM (by simp only[↓sU,sD,rE,↓reduceIte,rA,Aa (show ¬jE g.bh.length m (iR g m)≠0 from fun h=>h hm0)]) (aI ?_);try refine ae ?_
  refine aJ (dn p6 w1 ?_);exact⟨k - 1,ar,rfl,sX1,lgX1,gX1,j+1,ar,by rw[hEj];exact himd hm0,by refine⟨?_,?_,?_⟩<;>simp only[↓sU,sD,rE,↓reduceIte,rA,p1,p2]⟩
 rintro o ⟨F,inr⟩ X (⟨rfl,hX,he0⟩ | ⟨rfl,hX,p4⟩)
 ·try refine ae ?_
  refine bO (ae ?_);refine aP (dm he0 ?_);exact hX
 ·simp only at p4;refine dm p4 ?_;exact hX
def aR8(S:St)(nv iv mv:AV)(g:aS)(L:a9)(k:Nat)(A:bG)(X:St):Prop:=A.inr=false/\Same S X/\S.nx<X.nx/\X.h.get S.nx=some (.cells [.int .i64 g.bo,nv,iv] false 0)/\∃ (j:Nat) (v:AV) (cs:bf),j+k=L.length/\fY 1 S X v j cs/\pO S X v cs ((L.take j).map (de g))/\aD 1 A.F=mv/\aD 2 A.F= .ptr S.nx 0/\aD 8 A.F=v/\aD 9 A.F= .int .i64 (j:Int)
theorem aGc{S:St}{nv iv mv:AV}{g:aS}{L:a9}(H:Has fns)(hn:aE 6 bX S nv g.bh)(hi:aE 2 bP S iv g.bj)(hln:g.bh.length<=100000)(hm:aE 1 iD S mv L):
  fZ fns (.fn 52 [] []) [.agg [.int .i64 g.bo,nv,iv],mv] S fun r S'=>Same S S'/\∃x y,r= .tup [x,y,.int .i64 (jH g L)]/\(jH g L≠0->x= .bw/\y= .bw)/\(jH g L=0->∃a b,oH S S' x a/\oH S S' y b/\aRc g L a b):=by
 have snv:=aE.self hn;have siv:=aE.self hi;have sag:cE (.agg [.int .i64 g.bo,nv,iv]) (.agg [.int .i64 g.bo,nv,iv])=true:=by
  simp only[cE,jR,snv,siv,fL,jP,decide_true,aR,Dk]
 refine cF H.f52 (by simp) ?_;refine ae ?_;refine bO ?_;refine cI (by refine ae ?_;exact aY _) ?_;intro S1 s1 n1 g1;refine ae ?_;refine fC (dm (eJ g1) ?_);refine bD (ae ?_);refine aW (aHS H (aE.same (E:=bX) bL hn s1) (aE.same (E:=bP) bK hi s1) hln (aE.same (E:=iD) cm hm s1)) ?_;rintro _ S2 ⟨rfl,s2⟩;try refine ae ?_
 have s12:=s1.trans s2;refine bO (ae ?_);by_cases h0:jH g L=0;rotate_left
 ·refine aN (by simp only[↓sU,sD,rE,↓reduceIte,rA,Ac (show jH g L≠0 from h0)]) ?_;refine bO (ae ?_);refine aP (ae ?_);exact⟨s12,.bw,.bw,rfl,fun _=>⟨rfl,rfl⟩,fun h=>absurd h h0⟩
 refine aM (by simp only[↓sU,sD,rE,↓reduceIte,rA,Aa (show ¬jH g L≠0 from fun h=>h h0)]) (aI ?_);try refine ae ?_
 have⟨hf,h16,he0⟩:=iS h0;have hAll:∀m∈L,eX g m:=fun m hm=>gR (iC he0 m hm);have⟨hin1,hin2⟩:=aIi hf hAll;have G:=gF hf;have m2:=s2.1;have hg2:S2.h.get S.nx=some (.cells [.int .i64 g.bo,nv,iv] false 0):=(s2.2 _ ar).trans g1;refine bO (ae ?_);refine aA (aX (Q:=fun o A' X=>o= .normal/\aR8 S nv iv mv g L 0 A' X) (aA (aJ ?_)) ?_)
 ·refine ae ?_;refine aK (bH (aR8 S nv iv mv g L) ?_ L.length _ _ ⟨rfl,s12,ar,hg2,0,.bw,[],ar,.inl ⟨rfl,rfl,rfl⟩,⟨rfl,fun j hj=>absurd hj (Bm j)⟩,af,af,af,ag⟩);clear hg2;rintro k ⟨F,inr⟩ X ⟨q0,hX,lgX,gX,j,v,cs,hjk,hG,hR,p1,p2,p8,p9⟩;simp only at q0 p1 p2 p8 p9;subst q0;refine fC ?_;refine dq p1 p9 ((aE.same (E:=iD) cm hm hX).len) @Ah ?_;by_cases hlt:j<L.length;rotate_left
  ·refine aM (by simp only[↓sU,sD,rE,↓reduceIte,rA,Aa (show ¬ (j:Int)<(L.length:Int) by omega)]) (bJ ?_);refine ae ?_;obtain rfl:k=0:=by omega
   exact⟨rfl,hX,lgX,gX,j,v,cs,hjk,hG,hR,by refine⟨?_,?_,?_,?_⟩<;>simp only[↓sU,sD,rE,↓reduceIte,rA,p1,p2,p8,p9]⟩
  refine aN (by simp only[↓sU,sD,rE,↓reduceIte,rA,Ac (show(j:Int)<(L.length:Int) by omega)]) (aI ?_);try refine ae ?_
  have w1:=dh j
  have⟨xb,xq,a,xi,xs,xlt,xl⟩:=pQ hm hlt;have xl:=xl X hX;have sa:=bI.self xs;have hxb:xb<X.nx:=Ae xlt hX.1;have hmem:L.getD j []∈L:=by rw[Ad,Ab hlt];exact Bo hlt
  have htk:L.take (j+1)=L.take j++ [L.getD j []]:=by
   rw[Bn,Ab hlt,Ad,Ab hlt];rfl
  generalize L.getD j []=m at *;have AM:=hAll m hmem;have l3:=eJ gX;refine aA (aK (aA (gS (fun _=>False) ?_)));intro X0 x0;simp only[↓sU,sD,rE,↓reduceIte,rA,p1,p2,p9,l3,lgX,Ak,sag,aH,xi,xl,sa,hxb];refine cU rfl ?_;refine ae ?_;refine aW (xR H (aE.same (E:=bX) bL hn (hX.trans x0)) (aE.same (E:=bP) bK hi (hX.trans x0)) (xs.same (hX.trans x0)) G AM.M) ?_;rintro _ X1 ⟨x1,ra,rb,t,rfl,ht,hxi⟩;have⟨hra,_⟩:=hxi (ht.2 AM.A);refine⟨x1,?_⟩;refine dp @rN @sA @ex2 ?_;have hil:(de g m).length=g.bj.length:=by simp [de]
  rw[<-hil] at hra;have hrs:=hra.is;have x01:=x0.trans x1;have sX1:=hX.trans x01;have gX1:=(x01.2 _ lgX).trans gX;have lgX1:S.nx<X1.nx:=Ae lgX x01.1;have hrb:∀c,aZ ra=some c->X.nx<=c:=fun c hc=>Al x0.1 (hra.blk hc).1;refine aJ (dx p8 ?_);refine fN (aCY hrs (ap)) ?_;intro X4 x4 m4 c4;have sX4:=sX1.trans x4;have x04:=x01.trans x4;have⟨v',X5,eA,e1,e2,e3,e4⟩:=(hG.step x04).push1 (bytes:=24) (t:=X1.nx) sX4 c4 ax ax;refine dx p8 ?_;refine fI (fun call=>by refine dx @gO ?_;exact eA) ?_;refine ae ?_;refine aJ (dn p9 w1 ?_);have hvb:∀c,aZ v=some c->S.nx<=c/\c<X.nx:=fun c hc=>⟨(hG.blk hc).1,(hG.blk hc).2.1⟩;have hgoff:aZ v≠some S.nx:=hG.off gX;have n4:=x04.1;have hk5:∀c,c<X.nx->aZ v≠some c->X5.h.get c=X.h.get c:=fun c hc hne=>(e4 c ar hne).trans (x04.2 c hc);refine⟨k - 1,ar,rfl,⟨ar,fun c hc=>?_⟩,ar,(hk5 _ lgX hgoff).trans gX,j+1,v',_,ar,e1,?_,by refine⟨?_,?_,?_,?_⟩<;>simp only[↓sU,sD,rE,↓reduceIte,rA,p1,p2]⟩
  ·rw[hk5 c (Ae hc hX.1) fun e=>by have:=(hvb c e).1;omega];exact hX.2 c hc
  ·rw[htk,Dz,List.map_singleton];refine hR.push hX.1 ar (fun c hc _ hne=>hk5 c hc hne) (eT (hrs.same x4) ar fun c hc=>e4 c ?_ ?_) (fun c hc=>⟨hrb c hc,?_⟩) fun c hc=>?_
   ·exact eU (hrs.same x4) hc
   ·intro e;have:=(hvb c e).2;have:=hrb c hc;omega
   ·rw[e2];intro e;cases e;have:=eU hrs hc;have h4:X1.nx<=X4.nx:=x4.1;omega
   ·rw[e2] at hc;cases hc;omega
 rintro o ⟨F,inr⟩ X ⟨rfl,q0,hX,lgX,gX,j,v,cs,hjk,hG,hR,p1,p2,p8,_⟩;simp only at q0 p1 p2 p8;subst q0;obtain rfl:j=L.length:=by omega
 rw[List.take_length] at hR;have hrows:=hR.is hG (Aj ..).symm;have lnv:=aE.len hn;have liv:=aE.len hi;have hN2:=G.n2;have hNI:=G.ni;try refine ae ?_
 refine aA (gS (fun _=>False) ?_);intro X0 x0;simp only[↓sU,sD,rE,↓reduceIte,rA,p1,p2,p8,aC,aQ,aB,fR gX,lgX,Ak,snv,lnv,Ah];refine cU rfl ?_;refine ae ?_;refine aW (aDS (n:=g.bh.length) H ar (aE.same (E:=iD) cm hm (hX.trans x0)) ar hin1) ?_;rintro oa Y1 ⟨y1,a,ha,hoa⟩;refine⟨y1,?_⟩;simp only[↓sU,sD,rE,↓reduceIte,rA,p1,p2,p8,aC,aQ,aB,fH gX,lgX,Ak,siv,liv,Ah];refine cU rfl ?_;refine ae ?_;refine aW (aDS (n:=g.bj.length) H ar (aE.same (E:=iD) cm hrows (x0.trans y1)) (by rw[Aj];omega) hin2) ?_;rintro ob Y2 ⟨y2,b,hb,hob⟩;refine⟨y2,?_⟩;try refine ae ?_
 refine aP (ae ?_);have sfin:=((hX.trans x0).trans y1).trans y2;have low:∀ {S0 S1 X:St} {v:AV} {l:ba},oH S1 X v l->S0.nx<=S1.nx->oH S0 X v l:=fun h hs=>by
  have⟨b,h1,h2,h3,h4⟩:=h;exact⟨b,h1,Al hs h2,h3,h4⟩
 exact⟨sfin,oa,ob,by rw[h0],fun h=>absurd h0 h,fun _=>⟨a,b,low (ha.same y2) (hX.trans x0).1,low hb ((hX.trans x0).trans y1).1,hoa,hob⟩⟩
abbrev K2:=Nat×Nat
def oB{K V:Type} [DecidableEq K](k:K):List (K×V)->Nat->Option (Nat×V)
 | [],_=>none
 | (k',v)::l,i=>if k=k' then some (i,v) else oB k l (i+1)
def lkp{K V:Type} [DecidableEq K](l:List (K×V))(k:K):Option V:=(oB k l 0).map (·.2)
def aK4{K V:Type} [DecidableEq K](l:List (K×V))(k:K)(v:V):List (K×V):=match oB k l 0 with
 | some (i,_)=>l.set i (k,v)
 | none=>l++ [(k,v)]
section
variable {K V:Type} [DecidableEq K]{l:List (K×V)}{k k':K}{v:V}
theorem xK:∀ {l:List (K×V)} {i:Nat},oB k l (i+1)=(oB k l i).map fun p=>(p.1+1,p.2)
 | [],i=>rfl
 | (k',v)::l,i=>by
  show(if k=k' then some (i+1,v) else oB k l (i+1+1))=(if k=k' then some (i,v) else oB k l (i+1)).map _;by_cases e:k=k'
  ·rw[if_pos e,if_pos e];rfl
  ·rw[if_neg e,if_neg e,xK]
theorem rU{p:K×V}:lkp (p::l) k=if k=p.1 then some p.2 else lkp l k:=by
 have⟨a,b⟩:=p;unfold lkp;show(if k=a then some (0,b) else oB k l (0+1)).map _=_;by_cases e:k=a
 ·rw[if_pos e,if_pos e];rfl
 ·rw[if_neg e,if_neg e,xK,Option.map_map];rfl
theorem aMh:lkp (l++ [(k,v)]) k'=match lkp l k' with | some w=>some w | none=>if k'=k then some v else none:=by
 induction l with
 | nil=>
  show lkp [(k,v)] k'=_;rw[rU];rfl
 | cons p l ih=>
  show lkp (p::(l++ [(k,v)])) k'=_;rw[rU,rU,ih];by_cases e:k'=p.1
  ·rw[if_pos e,if_pos e]
  ·rw[if_neg e,if_neg e]
theorem aD3:∀ {l:List (K×V)} {i:Nat} {w:V},oB k l 0=some (i,w)->i<l.length/\∀k',lkp (l.set i (k,v)) k'=if k'=k then some v else lkp l k'
 | [],i,w,h=>by cases h
 | (a,b)::l,i,w,h=>by
  have h:(if k=a then some (0,b) else oB k l (0+1))=some (i,w):=h;by_cases e:k=a
  ·rw[if_pos e] at h;cases h;refine⟨Nat.succ_pos _,fun k'=>?_⟩;show lkp ((k,v)::l) k'=_;rw[rU,rU];by_cases e2:k'=k
   ·rw[if_pos e2,if_pos e2]
   ·rw[if_neg e2,if_neg e2,if_neg (by rw[<-e];exact e2)]
  ·rw[if_neg e,xK] at h;have⟨⟨j,w'⟩,h1,h2⟩:=Aw.1 h;cases h2;have⟨h3,h4⟩:=aD3 h1;refine⟨Nat.succ_lt_succ h3,fun k'=>?_⟩;show lkp ((a,b)::l.set j (k,v)) k'=_;rw[rU,rU,h4];by_cases e2:k'=a
   ·have:k'≠k:=fun e3=>e (e3 ▸ e2);rw[if_pos e2,if_pos e2,if_neg this]
   ·rw[if_neg e2,if_neg e2]
theorem aIm(h:oB k l 0=none):lkp l k=none:=by unfold lkp;rw[h];rfl
theorem aNj:lkp (aK4 l k v) k'=if k'=k then some v else lkp l k':=by
 unfold aK4;cases h:oB k l 0 with
 | none=>
  show lkp (l++ [(k,v)]) k'=_;rw[aMh];by_cases e:k'=k
  ·rw[if_pos e,e,aIm h,if_pos rfl]
  ·rw[if_neg e,if_neg e];cases lkp l k'<;>rfl
 | some p=>
  have⟨i,w⟩:=p;exact(aD3 h).2 k'
end
def jY(k:K2):AV:=.agg [.int .i64 (k.1:Int),.int .i64 (k.2:Int)]
def aAB{K V:Type}(ek:K->AV)(ev:V->AV)(l:List (K×V)):List (AV×AV):=l.map fun p=>(ek p.1,ev p.2)
def skK:tZ:=.struct [(0,.int),(1,.int)]
theorem aJv(a b:K2):eqv skK (jY a) (jY b)=some (decide (a=b)):=by
 have⟨a1,a2⟩:=a;have⟨b1,b2⟩:=b;show bQ true (bQ true (eqs [(0,.int),(1,.int)] [.int .i64 (a1:Int),.int .i64 (a2:Int)] [.int .i64 (b1:Int),.int .i64 (b2:Int)]) none) none=_;rw[aR,aR];have e1:yP .int (.int .i64 (a1:Int)) (.int .i64 (b1:Int))=some (decide (a1=b1)):=by
  show bQ (keq .i64 .i64) (some (ieq (a1:Int) (b1:Int))) none=_;rw[fL,aR,jP];by_cases e:a1=b1
  ·rw[Ac e,e,Dk]
  ·rw[Aa e,beq_eq_false_iff_ne.2 ar]
 have e2:yP .int (.int .i64 (a2:Int)) (.int .i64 (b2:Int))=some (decide (a2=b2)):=by
  show bQ (keq .i64 .i64) (some (ieq (a2:Int) (b2:Int))) none=_;rw[fL,aR,jP];by_cases e:a2=b2
  ·rw[Ac e,e,Dk]
  ·rw[Aa e,beq_eq_false_iff_ne.2 ar]
 show(match yP .int (.int .i64 (a1:Int)) (.int .i64 (b1:Int)) with | some true=>(match yP .int (.int .i64 (a2:Int)) (.int .i64 (b2:Int)) with | some true=>some true | some false=>some false | none=>none) | some false=>some false | none=>none)=_;rw[e1,e2];by_cases h1:a1=b1
 ·by_cases h2:a2=b2
  ·subst h1 h2;simp
  ·simp [h1,h2]
 ·simp [h1]
section
variable {K V:Type} [DecidableEq K]{ek:K->AV}{ev:V->AV}{sk:tZ}
theorem aEl(he:∀a b,eqv sk (ek a) (ek b)=some (decide (a=b))){k:K}:∀ {l:List (K×V)} {i:Nat},sF sk (ek k) (aAB ek ev l) i=some ((oB k l i).map fun p=>(p.1,ev p.2))
 | [],i=>rfl
 | (k',v)::l,i=>by
  show(bC (eqv sk (ek k) (ek k')) fun b=>bQ b (some (some (i,ev v))) (sF sk (ek k) (aAB ek ev l) (Nat.succ i)))=_;rw[he,aL];show _=some ((if k=k' then some (i,v) else oB k l (i+1)).map fun p=>(p.1,ev p.2));by_cases e:k=k'
  ·rw[Ac e,aR,if_pos e];rfl
  ·rw[Aa e,bB,if_neg e];exact aEl he
theorem xB(he:∀a b,eqv sk (ek a) (ek b)=some (decide (a=b))){k:K}{l:List (K×V)}:nK sk (ek k) (aAB ek ev l)=some ((oB k l 0).map fun p=>(p.1,ev p.2)):=by
 unfold nK;rw[he,aL];exact aEl he
def aD6(ek:K->AV)(ev:V->AV)(h:Ev.T AB)(b:Nat)(f:K->Option V):Prop:=∃l,h.get b=some (.map (aAB ek ev l))/\∀k,lkp l k=f k
def oK(f:K->Option V)(k:K)(v:V):K->Option V:=fun k'=>if k'=k then some v else f k'
theorem aJr(he:∀a b,eqv sk (ek a) (ek b)=some (decide (a=b))){h:Ev.T AB}{b:Nat}{f:K->Option V}(hm:aD6 ek ev h b f){k:K}{z:AV}{m x:cO}{F:Fr}(h1:m.val F= .map b)(h2:x.val F=ek k):gM (.lookup sk z true m x) F h=some (match f k with | some v=>.tup [ev v,.bool true] | none=>.tup [z,.bool false]):=by
 have⟨l,hl,hf⟩:=hm;show(bC (uE h (m.val F)) fun es=>bC (nK sk (x.val F) es) fun r=>nM r z true)=_;rw[h1,h2];show(bC (bC (h.get b) tQ) fun es=>bC (nK sk (ek k) es) fun r=>nM r z true)=_;rw[hl,aL];show bC (some (aAB ek ev l)) _=_;rw[aL,xB he,aL,<-hf k];unfold lkp;cases oB k l 0 with
 | none=>rfl
 | some p=>rfl
theorem aHv(he:∀a b,eqv sk (ek a) (ek b)=some (decide (a=b))){h:Ev.T AB}{b:Nat}{f:K->Option V}(hm:aD6 ek ev h b f){k:K}{z:AV}{m x:cO}{F:Fr}{v:V}(h1:m.val F= .map b)(h2:x.val F=ek k)(h3:f k=some v):gM (.lookup sk z false m x) F h=some (ev v):=by
 have⟨l,hl,hf⟩:=hm;show(bC (uE h (m.val F)) fun es=>bC (nK sk (x.val F) es) fun r=>nM r z false)=_;rw[h1,h2];show(bC (bC (h.get b) tQ) fun es=>bC (nK sk (ek k) es) fun r=>nM r z false)=_;rw[hl,aL];show bC (some (aAB ek ev l)) _=_;have e:=hf k;rw[h3] at e;unfold lkp at e;rw[aL,xB he,aL];cases hq:oB k l 0 with
 | none=>rw[hq] at e;cases e
 | some p=>
  rw[hq] at e;have⟨i,w⟩:=p;cases e;rfl
end
theorem aA7{α:Type}{x:α}:∀ {l:List α} {i:Nat},pU (fun _=>x) l i=l.set i x
 | [],i=>rfl
 | y::l,0=>rfl
 | y::l,i+1=>by
  show bQ (Nat.beq (i+1) 0) (x::l) (y::pU (fun _=>x) l (i+1 - 1))=y::l.set i x;rw[show Nat.beq (i+1) 0=false from rfl,bB,Fc,aA7]
theorem aG2{K V:Type} [DecidableEq K]{ek:K->AV}{ev:V->AV}{sk:tZ}(he:∀a b,eqv sk (ek a) (ek b)=some (decide (a=b))){S:St}{b:Nat}{f:K->Option V}(hm:aD6 ek ev S.h b f)(k:K)(v:V):∃X,qK (.map b) sk (ek k) (ev v) S=some (.undef,X)/\X.nx=S.nx/\(∀c,c≠b->X.h.get c=S.h.get c)/\aD6 ek ev X.h b (oK f k v):=by
 have⟨l,hl,hf⟩:=hm;have e:zO ((oB k l 0).map fun p=>(p.1,ev p.2)) (aAB ek ev l) (ek k) (ev v)=aAB ek ev (aK4 l k v):=by
  unfold aK4;cases oB k l 0 with
  | none=>
   show yA (aAB ek ev l) [(ek k,ev v)]=_;rw[gE];unfold aAB;rw[Dz];rfl
  | some p=>
   show pU (fun _=>(ek k,ev v)) (aAB ek ev l) p.1=aAB ek ev (l.set p.1 (k,v));rw[aA7];unfold aAB;rw[List.map_set]
 refine⟨⟨S.h.set b (some (.map (aAB ek ev (aK4 l k v)))),S.nx⟩,?_,rfl,fun c hc=>by simp only;rw[di,if_neg hc],aK4 l k v,fk,fun k'=>?_⟩
 ·show(bC (bC (S.h.get b) tQ) fun es=>bC (nK sk (ek k) es) fun r=>some (AV.undef,(⟨S.h.set b (some (.map (zO r es (ek k) (ev v)))),S.nx⟩:St)))=_;rw[hl,aL];show bC (some (aAB ek ev l)) _=_;rw[aL,xB he,aL,e]
 ·rw[aNj,hf];rfl
abbrev aCF{V:Type}(ev:V->AV)(h:Ev.T AB)(b:Nat)(f:K2->Option V):Prop:=aD6 jY ev h b f
theorem aJE{V:Type}{ev:V->AV}{h:Ev.T AB}{b:Nat}{f:K2->Option V}(hm:aCF ev h b f){k:K2}{z:AV}{m x:cO}{F:Fr}(h1:m.val F= .map b)(h2:x.val F=jY k):gM (.lookup (.struct [(0,.int),(1,.int)]) z true m x) F h=some (match f k with | some v=>.tup [ev v,.bool true] | none=>.tup [z,.bool false]):=aJr aJv hm h1 h2
theorem aEh{V:Type}{ev:V->AV}{S:St}{b:Nat}{f:K2->Option V}(hm:aCF ev S.h b f)(k:K2)(v:V):∃X,qK (.map b) (.struct [(0,.int),(1,.int)]) (jY k) (ev v) S=some (.undef,X)/\X.nx=S.nx/\(∀c,c≠b->X.h.get c=S.h.get c)/\aCF ev X.h b (oK f k v):=aG2 aJv hm k v
inductive iO{α:Type}(E:α->α->Prop):α->α->Prop where
 | edge {x y:α}:E x y->iO E x y
 | refl (x:α):iO E x x
 | symm {x y:α}:iO E x y->iO E y x
 | trans {x y z:α}:iO E x y->iO E y z->iO E x z
inductive dW(u:K2->Option K2):K2->K2->Prop where
 | root {k:K2} (h:u k=none):dW u k k
 | step {k a r:K2} (h:u k=some a) (h2:dW u a r):dW u k r
structure UpK(u:K2->Option K2)(E:K2->K2->Prop):Prop where
 rk:∃rk:K2->Nat,∀k a,u k=some a->rk a<rk k
 con:∀k a,u k=some a->iO E k a
section
variable {u:K2->Option K2}{E:K2->K2->Prop}{k a o r r' x:K2}
theorem UpK.ex(h:UpK u E):∀k,∃r,dW u k r:=by
 have⟨rk,hrk⟩:=h.rk;have key:∀n k,rk k=n->∃r,dW u k r:=fun n=>by
  induction n using Nat.strongRecOn with
  | _ n ih=>
   intro k hk;cases e:u k with
   | none=>exact⟨k,.root e⟩
   | some a=>
    have⟨r,hr⟩:=ih (rk a) (by have:=hrk k a e;omega) a rfl;exact⟨r,.step e hr⟩
 exact fun k=>key _ k rfl
theorem dW.uni(h:dW u k r):∀ {r'},dW u k r'->r=r':=by
 induction h with
 | root e=>
  intro r' h';cases h' with
  | root _=>rfl
  | step e' _=>rw[e] at e';cases e'
 | step e _ ih=>
  intro r' h';cases h' with
  | root e'=>rw[e'] at e;cases e
  | step e' h2=>
   rw[e] at e';cases e';exact ih h2
theorem dW.none(h:dW u k r):u r=none:=by
 induction h with
 | root e=>exact e
 | step _ _ ih=>exact ih
theorem dW.next(h:dW u k r)(e:u k=some a):dW u a r:=by
 cases h with
 | root e'=>rw[e] at e';cases e'
 | step e' h2=>rw[e] at e';cases e';exact h2
theorem UpK.conr(h:UpK u E)(hr:dW u k r):iO E k r:=by
 induction hr with
 | root e=>exact .refl _
 | step e _ ih=>exact .trans (h.con _ _ e) ih
theorem UpK.half(h:UpK u E)(e1:u k=some a)(e2:u a=some o):UpK (oK u k o) E/\∀x r,dW u x r->dW (oK u k o) x r:=by
 have⟨rk,hrk⟩:=h.rk;have h1:=hrk k a e1;have h2:=hrk a o e2;have hu:∀x y,oK u k o x=some y->(x=k/\y=o)\/(x≠k/\u x=some y):=fun x y hx=>by
  unfold oK at hx;split at hx
  ·rename_i e;cases hx;exact .inl ⟨e,rfl⟩
  ·rename_i e;exact .inr ⟨e,hx⟩
 refine⟨⟨⟨rk,fun x y hx=>?_⟩,fun x y hx=>?_⟩,fun x r hr=>?_⟩
 ·rcases hu x y hx with⟨rfl,rfl⟩ | ⟨_,e⟩
  ·omega
  ·exact hrk x y e
 ·rcases hu x y hx with⟨rfl,rfl⟩ | ⟨_,e⟩
  ·exact .trans (h.con _ _ e1) (h.con _ _ e2)
  ·exact h.con x y e
 ·have key:∀n x,rk x=n->dW u x r->dW (oK u k o) x r:=fun n=>by
   induction n using Nat.strongRecOn with
   | _ n ih=>
    intro x hx hr;by_cases e:x=k
    ·subst e;refine .step (a:=o) (by unfold oK;rw[if_pos rfl]) (ih (rk o) ar o rfl ((hr.next e1).next e2))
    ·cases hr with
     | root e'=>exact .root (by unfold oK;rw[if_neg e];exact e')
     | step e' h'=>exact .step (by unfold oK;rw[if_neg e];exact e') (ih _ (by have:=hrk _ _ e';omega) _ rfl h')
  exact key _ x rfl hr
open Classical in
theorem UpK.join(h:UpK u E){ra rb:K2}(ha:u ra=none)(hb:u rb=none)(hne:ra≠rb)(hc:iO E ra rb):UpK (oK u ra rb) E/\∀x r,dW u x r->dW (oK u ra rb) x (if r=ra then rb else r):=by
 have⟨rk,hrk⟩:=h.rk;have hu:∀x y,oK u ra rb x=some y->(x=ra/\y=rb)\/(x≠ra/\u x=some y):=fun x y hx=>by
  unfold oK at hx;split at hx
  ·rename_i e;cases hx;exact .inl ⟨e,rfl⟩
  ·rename_i e;exact .inr ⟨e,hx⟩
 refine⟨⟨⟨fun x=>if dW u x ra then rk x+(rk rb+1) else rk x,fun x y hx=>?_⟩,fun x y hx=>?_⟩,fun x r hr=>?_⟩
 ·show(if dW u y ra then rk y+(rk rb+1) else rk y)<if dW u x ra then rk x+(rk rb+1) else rk x;rcases hu x y hx with⟨rfl,rfl⟩ | ⟨_,e⟩
  ·rw[if_neg (fun h'=>hne (dW.uni h' (.root hb))),if_pos (.root ha)];omega
  ·have:=hrk x y e;by_cases h':dW u x ra
   ·rw[if_pos h',if_pos (h'.next e)];omega
   ·rw[if_neg h',if_neg (fun h2=>h' (.step e h2))];exact this
 ·rcases hu x y hx with⟨rfl,rfl⟩ | ⟨_,e⟩
  ·exact hc
  ·exact h.con x y e
 ·induction hr with
  | root e=>
   rename_i x;by_cases ex:x=ra
   ·rw[if_pos ex,ex];exact .step (by unfold oK;rw[if_pos rfl]) (.root (by unfold oK;rw[if_neg (Bt hne)];exact hb))
   ·rw[if_neg ex];exact .root (by unfold oK;rw[if_neg ex];exact e)
  | step e _ ih=>
   rename_i x a r _;have ex:x≠ra:=fun h'=>by rw[h',ha] at e;cases e
   exact .step (by unfold oK;rw[if_neg ex];exact e) ih
def jW(u:K2->Option K2)(x y:K2):Prop:=∃r,dW u x r/\dW u y r
theorem jW.trans{y z:K2}(h1:jW u x y)(h2:jW u y z):jW u x z:=by
 have⟨r,a,b⟩:=h1;have⟨s,c,d⟩:=h2;rw[<-b.uni c] at d;exact⟨r,a,d⟩
theorem jW.conn(h:UpK u E){y:K2}(hs:jW u x y):iO E x y:=by
 have⟨r,a,b⟩:=hs;exact .trans (h.conr a) (.symm (h.conr b))
theorem aFk(h:UpK u E)(hE:∀x y,E x y->jW u x y){y:K2}(hc:iO E x y):jW u x y:=by
 induction hc with
 | edge e=>exact hE _ _ e
 | refl x=>have⟨r,hr⟩:=h.ex x;exact⟨r,hr,hr⟩
 | symm _ ih=>have⟨r,a,b⟩:=ih;exact⟨r,b,a⟩
 | trans _ _ i1 i2=>exact i1.trans i2
end
theorem aJz{W:Nat->Prop}{h0:Ev.T AB}{base:Nat}{d:Option Nat}{mm i:Nat}{l:List AO}{F:Fr}{S:St}{ps:List iQ}{last:Option Nat}{Q:Fr->St->List iQ->Prop}{sk:tZ}{m k v:cO}{S1:St}(h:jQ last mm=true)(he:qK (m.val F) sk (k.val F) (v.val F) ⟨(cJ mm ps S.h).2,S.nx⟩=some (.undef,S1))(ho:aGF W base ⟨(cJ mm ps S.h).2,S.nx⟩ S1)(hr:fF fns W h0 base l (i+1) (cM d F .undef) S1 (cJ mm ps S.h).1 (some i) Q):fF fns W h0 base (⟨d,.x (.mapUpd sk m k v),none,mm⟩::l) i F S ps last Q:=by
 unfold fF;rw[if_pos (show eS none F=true from rfl)];exact⟨h,_,S1,fun call=>he,ho,hr⟩
theorem xE{b:Nat}:cE (.map b) (.map b)=true:=by
 show Nat.beq b b=true;exact Nat.beq_refl b
theorem vF{k:K2}:cE (jY k) (jY k)=true:=by
 unfold jY;simp only[cE,jR,fL,jP,Dk,aR]
theorem pG(k:K2):(jY k).cells=some [.int .i64 (k.1:Int),.int .i64 (k.2:Int)]:=rfl
def yV(h:Ev.T AB)(b:Nat)(k:K2):Prop:=h.get b=some (.cells [.int .i64 (k.1:Int),.int .i64 (k.2:Int)] false 0)
theorem lH{h:Ev.T AB}{b:Nat}{k:K2}(hb:yV h b k):dT (.ptr b 0) true 2 h=some (jY k):=aDO hb
structure nJ(S:St)(ub mb:Nat)(u:K2->Option K2):Prop where
 hu:S.h.get ub=some (.cells [.map mb] false 0)
 m:aCF jY S.h mb u
 lu:ub<S.nx
 lm:mb<S.nx
 ne:ub≠mb
theorem nJ.off{S X:St}{ub mb:Nat}{u:K2->Option K2}(h:nJ S ub mb u)(hn:S.nx<=X.nx)(hk:∀c,c<S.nx->X.h.get c=S.h.get c):nJ X ub mb u:=by
 have⟨l,h1,h2⟩:=h.m;exact⟨(hk _ h.lu).trans h.hu,⟨l,(hk _ h.lm).trans h1,h2⟩,Ae h.lu hn,Ae h.lm hn,h.ne⟩
theorem nJ.same{S X:St}{ub mb:Nat}{u:K2->Option K2}(h:nJ S ub mb u)(hs:Same S X):nJ X ub mb u:=h.off hs.1 hs.2
theorem nJ.off2{S X:St}{ub mb:Nat}{u:K2->Option K2}(h:nJ S ub mb u)(hn:S.nx<=X.nx)(h1:X.h.get ub=S.h.get ub)(h2:X.h.get mb=S.h.get mb):nJ X ub mb u:=by
 have⟨l,h3,h4⟩:=h.m;exact⟨h1.trans h.hu,⟨l,h2.trans h3,h4⟩,Ae h.lu hn,Ae h.lm hn,h.ne⟩
theorem aGo{h:Ev.T AB}{ub mb:Nat}(hu:h.get ub=some (.cells [.map mb] false 0)):dT (.ptr ub (0+0)) false 1 h=some (.map mb):=ldc hu rfl
def lkV(o:Option K2):AV:=match o with | some v=>.tup [jY v,.bool true] | none=>.tup [jY (0,0),.bool false]
theorem aGK(o:Option K2):cE (lkV o) (lkV o)=true:=by
 cases o with
 | none=>
  show cE (.tup [jY (0,0),.bool false]) (.tup [jY (0,0),.bool false])=true;have:=vF (k:=(0,0));simp only[cE,jR,this,aR];rfl
 | some v=>
  show cE (.tup [jY v,.bool true]) (.tup [jY v,.bool true])=true;have:=vF (k:=v);simp only[cE,jR,this,aR];rfl
theorem aL9(o:Option K2):∃k:K2,lkV o= .tup [jY k,.bool o.isSome]/\∀v,o=some v->k=v:=by
 cases o with
 | none=>exact⟨(0,0),rfl,fun v h=>by cases h⟩
 | some v=>exact⟨v,rfl,fun w h=>by cases h;rfl⟩
theorem aMo{h:Ev.T AB}{mb:Nat}{u:K2->Option K2}(hm:aCF jY h mb u){k:K2}{m x:cO}{F:Fr}(h1:m.val F= .map mb)(h2:x.val F=jY k):gM (.lookup (.struct [(0,.int),(1,.int)]) (.agg [.int .i64 0,.int .i64 0]) true m x) F h=some (lkV (u k)):=(aJE hm h1 h2).trans (by unfold lkV;cases u k<;>rfl)
def FkI(S:St)(ub mb kb rb:Nat)(E:K2->K2->Prop)(u0:K2->Option K2)(k0:K2)(rk:K2->Nat)(n:Nat)(A:bG)(X:St):Prop:=A.inr=false/\bT mb S X/\kb<X.nx/\rb<X.nx/\(∃a b,X.h.get rb=some (.cells [a,b] false 0))/\∃ (k:K2) (u:K2->Option K2),rk k=n/\yV X.h kb k/\nJ X ub mb u/\UpK u E/\(∀x a,u x=some a->rk a<rk x)/\(∀x r,dW u0 x r->dW u x r)/\(∀r,dW u0 k0 r->dW u k r)/\aD 0 A.F= .ptr ub 0/\aD 3 A.F= .ptr kb 0/\aD 4 A.F= .ptr rb 0
theorem UpK.half_rk{u:K2->Option K2}{rk:K2->Nat}(h:∀x a,u x=some a->rk a<rk x){k a o:K2}(e1:u k=some a)(e2:u a=some o):∀x y,oK u k o x=some y->rk y<rk x:=fun x y hx=>by
 unfold oK at hx;split at hx
 ·rename_i e;cases hx;subst e;have h1:=h x a e1;have h2:=h a o e2;omega
 ·exact h x y hx
theorem zN{S:St}{ub mb:Nat}{E:K2->K2->Prop}{u0:K2->Option K2}{k0 r0:K2}(H:Has fns)(hU:nJ S ub mb u0)(hup:UpK u0 E)(hr:dW u0 k0 r0):
  fZ fns (.fn 138 [] []) [.ptr ub 0,jY k0] S fun r S'=>r=jY r0/\bT mb S S'/\∃u,nJ S' ub mb u/\UpK u E/\∀x r,dW u0 x r->dW u x r:=by
 have⟨rk,hrk⟩:=hup.rk;refine cF H.f138 (by simp) ?_;refine am ?_;refine bO ?_;refine cI (by refine am ?_;exact pG _) ?_;intro S1 s1 n1 g1;try refine am ?_
 refine cA ?_;intro S2 s2 n2 g2;try refine ae ?_
 have s12:=s1.trans s2;have hu2:=hU.same s12;have hlu:=hU.lu;have hlm:=hU.lm;refine aK (bH (FkI S ub mb S.nx S1.nx E u0 k0 rk) ?_ (rk k0) _ _ ⟨rfl,⟨s12.1,fun c hc _=>s12.2 c hc⟩,ar,ar,⟨_,_,g2⟩,k0,u0,rfl,(s2.2 _ ar).trans g1,hu2,hup,hrk,fun _ _ h=>h,fun _ h=>h,by refine⟨?_,?_,?_⟩<;>simp only[↓sU,sD,rE,↓reduceIte,rA]⟩);clear g1 g2 s12 hu2 hrk;rintro n ⟨F,inr⟩ X ⟨q0,hX,lk,lr,⟨ra,rb',hrb⟩,k,u,hn,hk,hu,hup',hrk,hro,hrt,p0,p3,p4⟩;simp only at q0 p0 p3 p4;subst q0;have hr1:=hrt r0 hr;have hld:=aGo hu.hu;have hkl:=lH hk;have hlu':=hu.lu;have hlm':=hu.lm;have hne:=hu.ne;have fin:∀Z:St,bT mb S Z->bT mb S Z:=fun _ h=>h;refine aK (aA (kJ (fun _=>False) ?_));have slk:=aGK (u k);have⟨kv,ek,ekv⟩:=aL9 (u k);rw[ek] at slk;have hlk1:∀F:Fr,aD 13 F= .map mb->aD 14 F=jY k->gM (.lookup (.struct [(0,.int),(1,.int)]) (.agg [.int .i64 0,.int .i64 0]) true (.t 13) (.t 14)) F X.h=some (.tup [jY kv,.bool (u k).isSome]):=fun F a b=>by
  rw[<-ek];exact aMo hu.m a b
 have hol1:∀F:Fr,aD 13 F= .map mb->aBz (fun _=>False) X.nx (.lookup (.struct [(0,.int),(1,.int)]) (.agg [.int .i64 0,.int .i64 0]) true (.t 13) (.t 14)) F:=fun F a=>xT a hlm' (fun h=>h);have il:dN (.lookup (.struct [(0,.int),(1,.int)]) (.agg [.int .i64 0,.int .i64 0]) true (.t 13) (.t 14))=true:=rfl;simp only[↓sU,sD,rE,↓reduceIte,rA,p0,p3,bN,cD,bM,aC,aQ,aB,hld,xE,hlu',hkl,vF,lk,Ak,hlk1,hol1,il,slk,rN,sA,oS];obtain⟨X1,eX1⟩:∃X1:St,X1=⟨(X.h.set (X.nx+9) (some (.cells [.int .i64 0,.int .i64 0] false 0))).set (X.nx+9) (some (.cells [.int .i64 (kv.1:Int),.int .i64 (kv.2:Int)] false 0)),X.nx+12⟩:=⟨_,rfl⟩;have hf1:cJ 767 [⟨9,X.nx+9,.cells [.int .i64 0,.int .i64 0] false 0⟩] X.h=([],X.h.set (X.nx+9) (some (.cells [.int .i64 0,.int .i64 0] false 0))):=cP (m:=767) rfl;have nX1:X1.nx=X.nx+12:=by rw[eX1]
 have sX1:Same X X1:=by
  rw[eX1];exact⟨Ba _ _,fun c hc=>by simp only;rw[di,if_neg ar,di,if_neg ar]⟩
 have cX1:yV X1.h (X.nx+9) kv:=by
  rw[eX1];show T.get _ _=_;rw[di,if_pos rfl]
 refine pD (S1:=X1) rfl ?_ ?_ ?_
 ·refine dn hf1 @pG ?_;rw[eX1];exact kH (S:=⟨X.h.set (X.nx+9) (some (.cells [.int .i64 0,.int .i64 0] false 0)),X.nx+12⟩) fk rfl rfl
 ·rw[hf1,eX1];exact⟨Ag _,fun c hc _=>by simp only;rw[di,if_neg ar]⟩
 rw[hf1];simp only[↓sU,sD,rE,↓reduceIte,rA];clear hlk1 hol1 il slk hf1 eX1;have hu1:=hu.same sX1;have hk1:yV X1.h S.nx k:=(sX1.2 _ lk).trans hk;have hkl1:=lH hk1;have lk1:S.nx<X1.nx:=by omega
 have lr1:S1.nx<X1.nx:=by omega
 have hrb1:=(sX1.2 _ lr).trans hrb;have sbX1:bT mb S X1:=hX.trans ⟨sX1.1,fun c hc _=>sX1.2 c hc⟩;refine fC (dm @eM ?_);cases hcase:u k with
 | none=>
  have hk0:k=r0:=dW.uni (.root hcase) hr1;refine aN (by simp only[↓sU,sD,rE,↓reduceIte,rA];first | rfl | trivial) ?_;refine bO (dn p3 hkl1 ?_);refine fI (fun call=>by refine dp @dS p4 @pG ?_;exact kH hrb1 rfl rfl) ?_;refine ae ?_;refine aP ?_;have ld2:dT (.ptr S1.nx 0) true 2 (X1.h.set S1.nx (some (.cells [.int .i64 (k.1:Int),.int .i64 (k.2:Int)] false 0)))=some (jY k):=lH (by show T.get _ _=_;rw[di,if_pos rfl]);refine dp @dJ p4 ld2 ?_;refine⟨by rw[hk0],⟨Al hX.1 sX1.1,fun c hc hcm=>?_⟩,u,hu1.off2 (Ag _) (by simp only;rw[di,if_neg ar]) (by simp only;rw[di,if_neg ar]),hup',hro⟩;simp only;rw[di,if_neg ar];exact sbX1.2 c hc hcm
 | some kk=>
  obtain rfl:=ekv kk hcase;refine aM (by simp only[↓sU,sD,rE,↓reduceIte,rA];first | rfl | trivial) (aI ?_);try refine ae ?_
  have hrk1:=hrk k kv hcase;have hld1:=aGo hu1.hu;have hlu1:=hu1.lu;have hlm1:=hu1.lm;have hvl:=lH cX1;have lv1:X.nx+9<X1.nx:=by omega
  refine aA (aA (kJ (fun _=>False) ?_));have slk:=aGK (u kv);have⟨ko,ek2,eko⟩:=aL9 (u kv);rw[ek2] at slk;have hlk1:∀F:Fr,aD 25 F= .map mb->aD 26 F=jY kv->gM (.lookup (.struct [(0,.int),(1,.int)]) (.agg [.int .i64 0,.int .i64 0]) true (.t 25) (.t 26)) F X1.h=some (.tup [jY ko,.bool (u kv).isSome]):=fun F a b=>by
   rw[<-ek2];exact aMo hu1.m a b
  have hol1:∀F:Fr,aD 25 F= .map mb->aBz (fun _=>False) X1.nx (.lookup (.struct [(0,.int),(1,.int)]) (.agg [.int .i64 0,.int .i64 0]) true (.t 25) (.t 26)) F:=fun F a=>xT a hlm1 (fun h=>h);have il:dN (.lookup (.struct [(0,.int),(1,.int)]) (.agg [.int .i64 0,.int .i64 0]) true (.t 25) (.t 26))=true:=rfl;simp only[↓sU,sD,rE,↓reduceIte,rA,p0,bN,cD,bM,aC,aQ,aB,hld1,xE,hlu1,hvl,vF,lv1,Ak,hlk1,hol1,il,slk,rN,sA,oS];obtain⟨X2,eX2⟩:∃X2:St,X2=⟨(X1.h.set (X1.nx+9) (some (.cells [.int .i64 0,.int .i64 0] false 0))).set (X1.nx+9) (some (.cells [.int .i64 (ko.1:Int),.int .i64 (ko.2:Int)] false 0)),X1.nx+12⟩:=⟨_,rfl⟩;have hf1:cJ 767 [⟨9,X1.nx+9,.cells [.int .i64 0,.int .i64 0] false 0⟩] X1.h=([],X1.h.set (X1.nx+9) (some (.cells [.int .i64 0,.int .i64 0] false 0))):=cP (m:=767) rfl;have nX2:X2.nx=X1.nx+12:=by rw[eX2]
  have sX2:Same X1 X2:=by
   rw[eX2];exact⟨Ba _ _,fun c hc=>by simp only;rw[di,if_neg ar,di,if_neg ar]⟩
  have cX2:yV X2.h (X1.nx+9) ko:=by
   rw[eX2];show T.get _ _=_;rw[di,if_pos rfl]
  refine pD (S1:=X2) rfl ?_ ?_ ?_
  ·refine dn hf1 @pG ?_;rw[eX2];exact kH (S:=⟨X1.h.set (X1.nx+9) (some (.cells [.int .i64 0,.int .i64 0] false 0)),X1.nx+12⟩) fk rfl rfl
  ·rw[hf1,eX2];exact⟨Ag _,fun c hc _=>by simp only;rw[di,if_neg ar]⟩
  rw[hf1];simp only[↓sU,sD,rE,↓reduceIte,rA];clear hlk1 hol1 il slk hf1 eX2;have hu2:=hu1.same sX2;have hk2:yV X2.h S.nx k:=(sX2.2 _ lk1).trans hk1;have hv2:yV X2.h (X.nx+9) kv:=(sX2.2 _ lv1).trans cX1;have hrb2:=(sX2.2 _ lr1).trans hrb1;have hkl2:=lH hk2;have hol2:=lH cX2;have hld2:=aGo hu2.hu;have hlu2:=hu2.lu;have hlm2:=hu2.lm;have lk2:S.nx<X2.nx:=by omega
  have lo2:X1.nx+9<X2.nx:=by omega
  have sbX2:bT mb S X2:=sbX1.trans ⟨sX2.1,fun c hc _=>sX2.2 c hc⟩;refine bO (ae ?_);refine aX (Q:=fun o A' Z=>o= .normal/\A'.inr=false/\X2.nx<=Z.nx/\(∀c,c<X2.nx->c≠mb->Z.h.get c=X2.h.get c)/\aD 0 A'.F= .ptr ub 0/\aD 3 A'.F= .ptr S.nx 0/\aD 4 A'.F= .ptr S1.nx 0/\aD 5 A'.F= .ptr (X.nx+9) 0/\∃u',nJ Z ub mb u'/\UpK u' E/\(∀x a,u' x=some a->rk a<rk x)/\∀x r,dW u x r->dW u' x r) ?_ ?_
  ·cases hc2:u kv with
   | none=>
    refine aM (by simp only[↓sU,sD,rE,↓reduceIte,rA];first | rfl | trivial) (aI ?_);refine dp p0 p3 p4 ?_;exact⟨Ag _,fun _ _ _=>by trivial,u,hu2,hup',hrk,fun _ _ h=>h⟩
   | some kk=>
    obtain rfl:=eko kk hc2;have⟨Z,eZ,nZ,kZ,mZ⟩:=aEh (S:=⟨X2.h,X2.nx+7⟩) hu2.m k ko;have⟨hh1,hh2⟩:=hup'.half hcase hc2;refine aN (by simp only[↓sU,sD,rE,↓reduceIte,rA];first | rfl | trivial) ?_;refine kJ (fun c=>c=mb) ?_;have hne2:=hu2.ne;have nk:S.nx≠mb:=by omega
    have no:X1.nx+9≠mb:=by omega
    simp only[↓sU,sD,rE,↓reduceIte,rA,p0,p3,bN,cD,bM,aC,aQ,aB,hld2,xE,hlu2,hne2,hkl2,hol2,vF,lk2,lo2,nk,no,Ak];refine aJz (S1:=Z) rfl ?_ ?_ ?_
    ·refine ae ?_;exact eZ
    ·exact⟨by rw[nZ];exact Ag _,fun c hc hcm=>kZ c hcm⟩
    refine dp p0 p3 p4 ?_;refine⟨by rw[nZ];exact Ba _ _,fun c hc hcm=>kZ c hcm,oK u k ko,⟨(kZ _ hne2).trans hu2.hu,mZ,Ae hlu2 (by rw[nZ];exact Ba _ _),Ae hlm2 (by rw[nZ];exact Ba _ _),hne2⟩,hh1,UpK.half_rk hrk hcase hc2,hh2⟩
  clear p0 p3 p4;rintro o ⟨F,inr⟩ Z ⟨rfl,q0,nZ,kZ,p0,p3,p4,p5,u',hu3,hup3,hrk3,hro3⟩;simp only at q0 p0 p3 p4 p5;subst q0;have hv3:=lH (h:=Z.h) ((kZ _ ar ar).trans hv2);have hk3:yV Z.h S.nx k:=(kZ _ lk2 ar).trans hk2;try refine ae ?_
  refine aJ (dn p5 hv3 ?_);refine fI (fun call=>by refine dp @dS p3 @pG ?_;exact kH hk3 rfl rfl) ?_;refine ae ?_;refine⟨rk kv,ar,rfl,⟨by simp only;have:=sbX2.1;omega,fun c hc hcm=>?_⟩,by simp only;omega,by simp only;omega,⟨ra,rb',?_⟩,kv,u',rfl,?_,hu3.off2 (Ag _) (by simp only;rw[di,if_neg ar]) (by simp only;rw[di,if_neg ar]),hup3,hrk3,fun x r h=>hro3 x r (hro x r h),fun r h=>hro3 _ _ ((hrt r h).next hcase),by refine⟨?_,?_,?_⟩<;>simp only[↓sU,sD,rE,↓reduceIte,rA,p0,p3,p4]⟩
  ·simp only;rw[di,if_neg ar,kZ c (au sbX2.1) hcm];exact sbX2.2 c hc hcm
  ·simp only;rw[di,if_neg ar,kZ _ ar ar];exact hrb2
  ·show T.get _ _=_;rw[di,if_pos rfl]
theorem aKO(a b:K2):pV .neq (.struct [(0,.int),(1,.int)]) (jY a) (jY b)=some (.bool (decide (a≠b))):=by
 show(bC (eqv skK (jY a) (jY b)) fun b=>some (AV.bool (bQ b false true)))=_;rw[aJv,aL];by_cases h:a=b
 ·rw[Ac h,aR,Aa (fun h'=>h' h)]
 ·rw[Aa h,bB,Ac h]
theorem aIS{S:St}{ub mb:Nat}{E:K2->K2->Prop}{u0:K2->Option K2}{a b:K2}(H:Has fns)(hU:nJ S ub mb u0)(hup:UpK u0 E)(hc:iO E a b):
  fZ fns (.fn 137 [] []) [.ptr ub 0,jY a,jY b] S fun _ S'=>bT mb S S'/\∃u,nJ S' ub mb u/\UpK u E/\(∀x y,jW u0 x y->jW u x y)/\jW u a b:=by
 have⟨r1,hr1⟩:=hup.ex a;have⟨r2,hr2⟩:=hup.ex b;refine cF H.f137 (by simp) ?_;refine am ?_;refine bO ?_;refine cI (by refine am ?_;exact pG _) ?_;intro S1 s1 n1 g1;refine am ?_;refine cI (by refine am ?_;exact pG _) ?_;intro S2 s2 n2 g2;try refine ae ?_
 have s12:=s1.trans s2;have hu2:=hU.same s12;have hlu:=hU.lu;have hlm:=hU.lm;have c4:yV S2.h S.nx a:=(s2.2 _ ar).trans g1;have c5:yV S2.h S1.nx b:=g2;have l4:=lH c4;have l5:=lH c5;have lt4:S.nx<S2.nx:=by omega
 have lt5:S1.nx<S2.nx:=by omega
 have n4:S.nx≠mb:=by omega
 have n5:S1.nx≠mb:=by omega
 clear g1 g2;refine aA (nI (W:=fun c=>c=mb) (pre:=jnP) (suf:=jnX) (K:=6) (R:=fun F' Z ps=>ps= []/\S2.nx<=Z.nx/\bT mb S2 Z/\(∃u,nJ Z ub mb u/\UpK u E/\∀x r,dW u0 x r->dW u x r)/\aD 8 F'=jY r1/\aD 11 F'=jY r2/\aD 0 F'= .ptr ub 0/\aD 4 F'= .ptr S.nx 0/\aD 5 F'= .ptr S1.nx 0) rfl rfl rfl (fun X1 x1 hh1 nn1=>?_) ?_)
 ·unfold jnP;refine dr l4 @vF lt4 n4 @Ak ?_;refine aAg rfl ?_;refine ae ?_;refine aW (zN H (hu2.same x1) hup hr1) ?_;rintro _ Y1 ⟨rfl,y1,u1,hu1,hup1,hro1⟩;refine⟨⟨y1.1,fun c hc hne=>y1.2 c (Ae hc x1.1) hne⟩,?_⟩;refine dr l5 @vF lt5 n5 @Ak ?_;refine aAg rfl ?_;refine ae ?_;refine aW (zN H hu1 hup1 (hro1 _ _ hr2)) ?_;rintro _ Y2 ⟨rfl,y2,u2,hu2',hup2,hro2⟩;refine⟨⟨y2.1,fun c hc hne=>y2.2 c (Ae (Ae hc x1.1) y1.1) hne⟩,?_⟩;refine ae ?_;exact⟨Al x1.1 (Al y1.1 y2.1),(bT.trans ⟨x1.1,fun c hc _=>x1.2 c hc⟩ y1).trans y2,u2,hu2',hup2,fun x r h=>hro2 _ _ (hro1 _ _ h)⟩
 rintro F' S' ps hs ls ⟨rfl,nZ,sZ,⟨u,hu,hup',hro⟩,p8,p11,p0,p4,p5⟩ hlast hld;have m1:∀i,i<6->Nat.testBit 63 i=true:=by decide
 have d4:yV S'.h S.nx a:=(sZ.2 _ lt4 n4).trans c4;have d5:yV S'.h S1.nx b:=(sZ.2 _ lt5 n5).trans c5;have hne45:S1.nx≠S.nx:=by omega
 unfold jnX;refine jZ (v:=.undef) (S1:=⟨S'.h.set S.nx (some (.cells [.int .i64 (r1.1:Int),.int .i64 (r1.2:Int)] false 0)),S'.nx⟩) (hlast _ m1) (fun call=>?_) ?_
 ·rw[dS];simp only[fE,p4,p8,bF,pG,aL];exact kH (S:=S') d4 rfl rfl
 simp only[bF,eF];refine jZ (v:=.undef) (S1:=⟨(S'.h.set S.nx (some (.cells [.int .i64 (r1.1:Int),.int .i64 (r1.2:Int)] false 0))).set S1.nx (some (.cells [.int .i64 (r2.1:Int),.int .i64 (r2.2:Int)] false 0)),S'.nx⟩) (show Nat.testBit 127 6=true by decide) (fun call=>?_) ?_
 ·rw[dS];simp only[fE,p5,p11,bF,pG,aL];exact kH (S:=⟨S'.h.set S.nx (some (.cells [.int .i64 (r1.1:Int),.int .i64 (r1.2:Int)] false 0)),S'.nx⟩) (by simp only;rw[di,if_neg hne45];exact d5) rfl rfl
 rw[gG];refine⟨?_,?_⟩
 ·simp only[Bz,Cj,Dw,Ck,Cg];exact hld _ _ _ m1
 simp only[bF,eF];obtain⟨Z,eZ⟩:∃Z:St,Z=⟨(S'.h.set S.nx (some (.cells [.int .i64 (r1.1:Int),.int .i64 (r1.2:Int)] false 0))).set S1.nx (some (.cells [.int .i64 (r2.1:Int),.int .i64 (r2.2:Int)] false 0)),S'.nx⟩:=⟨_,rfl⟩;have nZ':Z.nx=S'.nx:=by rw[eZ]
 have kZ:∀c,c≠S.nx->c≠S1.nx->Z.h.get c=S'.h.get c:=fun c h1 h2=>by rw[eZ];simp only;rw[di,if_neg h2,di,if_neg h1]
 have z4:yV Z.h S.nx r1:=by rw[eZ];show T.get _ _=_;rw[di,if_neg (Bt hne45),di,if_pos rfl]
 have z5:yV Z.h S1.nx r2:=by rw[eZ];show T.get _ _=_;rw[di,if_pos rfl]
 rw[<-eZ];have huZ:nJ Z ub mb u:=hu.off2 ar (kZ _ ar ar) (kZ _ ar ar);have sSZ:bT mb S Z:=⟨au sZ.1,fun c hc hcm=>by rw[kZ c ar ar,sZ.2 c ar hcm];exact s12.2 c hc⟩;have hr1':=hro _ _ hr1;have hr2':=hro _ _ hr2;have hsm:∀x y,jW u0 x y->jW u x y:=fun x y ⟨r,h1,h2⟩=>⟨r,hro _ _ h1,hro _ _ h2⟩;have lz4:=lH z4;have lz5:=lH z5;clear eZ;try refine ae ?_
 refine bO (dr p4 p5 lz4 lz5 @aKO ?_);by_cases hne:r1=r2
 ·refine aM (by simp only[↓sU,sD,rE,↓reduceIte,rA,Aa (show ¬r1≠r2 from fun h=>h hne)]) (aI ?_);try refine ae ?_
  exact⟨_,rfl,sSZ,u,huZ,hup',hsm,r1,hr1',by rw[hne];exact hr2'⟩
 ·have hcr:iO E r1 r2:=.trans (.symm (hup'.conr hr1')) (.trans hc (hup'.conr hr2'));have⟨j1,j2⟩:=hup'.join hr1'.none hr2'.none hne hcr;have⟨V,eV,nV,kV,mV⟩:=aEh (S:=⟨Z.h,Z.nx+7⟩) huZ.m r1 r2;have hldz:=aGo huZ.hu;have hluz:=huZ.lu;have hlmz:=huZ.lm;have hnez:=huZ.ne;have lt4z:S.nx<Z.nx:=by have:=sZ.1;omega
  have lt5z:S1.nx<Z.nx:=by have:=sZ.1;omega
  refine aN (by simp only[↓sU,sD,rE,↓reduceIte,rA,Ac (show r1≠r2 from hne)]) ?_;refine kJ (fun c=>c=mb) ?_;simp only[↓sU,sD,rE,↓reduceIte,rA,p0,p4,p5,bN,cD,bM,aC,aQ,aB,hldz,xE,hluz,hnez,lz4,lz5,vF,lt4z,lt5z,n4,n5,Ak];refine aJz (S1:=V) rfl ?_ ?_ ?_
  ·refine ae ?_;exact eV
  ·exact⟨by rw[nV];exact Ag _,fun c hc hcm=>kV c hcm⟩
  refine ae ?_;refine⟨_,rfl,⟨Al sSZ.1 (by rw[nV];exact Ba _ _),fun c hc hcm=>(kV c hcm).trans (sSZ.2 c hc hcm)⟩,oK u r1 r2,⟨(kV _ hnez).trans huZ.hu,mV,Ae hluz (by rw[nV];exact Ba _ _),Ae hlmz (by rw[nV];exact Ba _ _),hnez⟩,j1,fun x y hxy=>?_,r2,?_,?_⟩
  ·have⟨r,h1,h2⟩:=hsm x y hxy;exact⟨_,j2 _ _ h1,j2 _ _ h2⟩
  ·have:=j2 _ _ hr1'
   rwa [if_pos rfl] at this
  ·have:=j2 _ _ hr2'
   rwa [if_neg (Bt hne)] at this
theorem lT{S:St}{iv:AV}(H:Has fns)(hc:iv.cells=some [iv]):fZ fns (.fn 107 [] []) [iv] S fun r X=>Same S X/\∃b,r= .fn 147 [] [.ptr b 0]/\S.nx<=b/\b<X.nx/\X.h.get b=some (.cells [iv] false 0):=by
 refine cF H.f107 (by simp) ?_;refine ae ?_;refine bO ?_;refine cI (cs:=[iv]) (by refine ae ?_;exact hc) ?_;intro S1 s1 n1 g1;refine ae ?_;refine bO (dm @aA3 ?_);refine aP (ae ?_);exact⟨s1,S.nx,rfl,Ag _,ar,g1⟩
def cG(g:aS)(s:Nat):Nat:=(cd g (s:Int)).bt.toNat
def aTj(J:Nat->Nat->St->Prop)(X:St)(ac bd:AC)(p q:Nat)(F0:Fr)(iv:AV)(n:Nat)(k:Nat)(A:bG)(Y:St):Prop:=A.inr=false/\∃s,s+k=n/\J s 0 Y/\Y.h.get X.nx=some (.loop .ready none F0 [p,q] ac bd)/\aD 0 A.F= .yld X.nx/\aD 6 A.F=iv/\aD 7 A.F= .int .i64 (n:Int)/\aD 8 A.F= .int .i64 (s:Int)
def aRn(J:Nat->Nat->St->Prop)(X:St)(ac bd:AC)(p q:Nat)(F0:Fr)(iv:AV)(n s m:Nat)(k:Nat)(A:bG)(Y:St):Prop:=A.inr=false/\∃a,a+k=m/\J s a Y/\Y.h.get X.nx=some (.loop .ready none F0 [p,q] ac bd)/\aD 0 A.F= .yld X.nx/\aD 3 A.F= .int .i64 (s:Int)/\aD 6 A.F=iv/\aD 7 A.F= .int .i64 (n:Int)/\aD 8 A.F= .int .i64 (s:Int)/\aD 14 A.F= .int .i64 (m:Int)/\aD 15 A.F= .int .i64 (a:Int)
theorem tJ{S X:St}{f:cO}{p q b:Nat}{ac bd:AC}{A:bG}{g:aS}{iv:AV}{J:Nat->Nat->St->Prop}{R:St->Prop}{Q:Out->bG->St->Prop}(H:Has fns)(hi:A.inr=false)(hf:f.val A.F= .fn 147 [] [.ptr b 0])(hv:aE 2 bP S iv g.bj)(hll:g.bj.length<=10000)(hac:∀s,s<g.bj.length->0<=(cd g (s:Int)).bt/\(cd g (s:Int)).bt<=10000)(hb:X.h.get b=some (.cells [iv] false 0))(hbl:b<X.nx)
  (hJ:∀s a Y,J s a Y->Same S Y/\X.nx<Y.nx)
  (hJs:∀s a Y Y',J s a Y->Y.nx<=Y'.nx->(∀c,c<Y.nx->c≠X.nx->Y'.h.get c=Y.h.get c)->J s a Y')
  (hRs:∀Y Y',R Y->Y.nx<=Y'.nx->(∀c,c<Y.nx->c≠X.nx->Y'.h.get c=Y.h.get c)->R Y')
  (J0:∀Y,X.nx<Y.nx->(∀c,c<X.nx->Y.h.get c=X.h.get c)->J 0 0 Y)
  (hrow:∀s Y,s<g.bj.length->J s (cG g s) Y->J (s+1) 0 Y)
  (hbody:∀s a Y,s<g.bj.length->a<cG g s->J s a Y->iM fns ac ⟨cM (some q) (cM (some p) A.F (.int .i64 (s:Int))) (.int .i64 (a:Int)),true⟩ Y fun o A1 Y1=>o= .normal/\Y1=Y/\∀bl,iM fns bd A1 ⟨Y.h.set X.nx bl,Y.nx⟩ fun o _ Y2=>Y2.h.get X.nx=bl/\Y.nx<=Y2.nx/\((o= .normal/\J s (a+1) Y2)\/(o= .ret/\R Y2)))
  (hend:∀Y,J g.bj.length 0 Y->Q .normal A Y) (hret:∀Y,R Y->Q .ret A Y):iM fns (.rng f [p,q] ac bd) A X Q:=by
 have set_ne:∀ (Y:St) (bl:Option AB) (c:Nat),c≠X.nx->(Y.h.set X.nx bl).get c=Y.h.get c:=fun Y bl c h=>by rw[di,if_neg h]
 refine aNf hi hf ?_;generalize hX0:(⟨X.h.set X.nx (some (.loop .ready none A.F [p,q] ac bd)),X.nx+1⟩:St)=X0;have e0:X0.h.get X.nx=some (.loop .ready none A.F [p,q] ac bd):=by rw[<-hX0];simp only;rw[di,if_pos rfl]
 have e1:∀c,c≠X.nx->X0.h.get c=X.h.get c:=fun c hc=>by rw[<-hX0];exact set_ne X _ c hc
 have e2:X0.nx=X.nx+1:=by rw[<-hX0]
 have hJ0:J 0 0 X0:=J0 X0 ar (fun c hc=>e1 c ar);have hb0:X0.h.get b=some (.cells [iv] false 0):=(e1 b ar).trans hb;have ldb:=dI (p:=0) hb0 rfl;clear hX0;refine cF H.f147 (by simp) ?_;refine ae ?_;refine bO (dp ldb hv.len @Ah ?_);have fin1:∀Y:St,J g.bj.length 0 Y->Y.h.get X.nx=some (.loop .ready none A.F [p,q] ac bd)->∃st pend fr ps2 as2 bd2 c,Y.h.get X.nx=some (.loop st pend fr ps2 as2 bd2)/\st≠ .busy/\aK5 pend=some c/\iM fns c A ⟨Y.h.set X.nx (some (.loop .exhausted pend fr ps2 as2 bd2)),Y.nx⟩ Q:=fun Y h1 h2=>
  ⟨_,_,_,_,_,_,.skip,h2,(by intro h;cases h),rfl,aI (hend _ (hJs _ _ _ _ h1 (Ag _) (fun c _ hc=>set_ne Y _ c hc)))⟩
 have fin2:∀Y:St,R Y->Y.h.get X.nx=some (.loop .done (some .ret) A.F [p,q] ac bd)->∃st pend fr ps2 as2 bd2 c,Y.h.get X.nx=some (.loop st pend fr ps2 as2 bd2)/\st≠ .busy/\aK5 pend=some c/\iM fns c A ⟨Y.h.set X.nx (some (.loop .exhausted pend fr ps2 as2 bd2)),Y.nx⟩ Q:=fun Y h1 h2=>
  ⟨_,_,_,_,_,_,.ret,h2,(by intro h;cases h),rfl,aP (hret _ (hRs _ _ h1 (Ag _) (fun c _ hc=>set_ne Y _ c hc)))⟩
 refine aX (Q:=fun o A' Y=>(o= .normal/\J g.bj.length 0 Y/\Y.h.get X.nx=some (.loop .ready none A.F [p,q] ac bd))\/(o= .ret/\R Y/\Y.h.get X.nx=some (.loop .done (some .ret) A.F [p,q] ac bd))) (aK (bH (aTj J X ac bd p q A.F iv g.bj.length) ?_ g.bj.length _ _ ⟨rfl,0,ar,hJ0,e0,af,af,ag,ag⟩)) ?_;rotate_left
 ·rintro o ⟨F,inr⟩ Y (⟨rfl,h1,h2⟩ | ⟨rfl,h1,h2⟩)
  ·try refine ae ?_
   exact⟨_,rfl,fin1 Y h1 h2⟩
  ·try refine ae ?_
   exact fin2 Y h1 h2
 clear hJ0 e0 e1 e2 hb0 ldb fin1 fin2;rintro k ⟨F,inr⟩ Y ⟨q0,s,hsk,hJY,hl,p0,p6,p7,p8⟩;simp only at q0 p0 p6 p7 p8;subst q0;have⟨sY,lY⟩:=hJ _ _ _ hJY;refine bO (dn p7 p8 ?_);by_cases hlt:s<g.bj.length;rotate_left
 ·refine aA (aM (by simp only[↓sU,sD,rE,↓reduceIte,rA,Aa (show ¬ (s:Int)<(g.bj.length:Int) by omega)]) (bJ ?_));refine ae ?_;obtain rfl:s=g.bj.length:=by omega
  exact .inl ⟨hJY,hl⟩
 refine aA (aN (by simp only[↓sU,sD,rE,↓reduceIte,rA,Ac (show(s:Int)<(g.bj.length:Int) by omega)]) (aI ?_));try refine ae ?_
 have⟨e,br,qr,hia,lbr,_,he,hag,_⟩:=aE.at hv ay (Ab hlt);have he:e= [.int .i64 g.bj[s].player,.int .i64 g.bj[s].bt]:=he;subst he;rw[<-iA sY lbr] at hag;have ei:cd g (s:Int)=g.bj[s]:=by
  unfold cd;rw[Az,Ad,Ab hlt];rfl
 have⟨ac0,ac1⟩:=hac s hlt;have hact:g.bj[s].bt=((cG g s:Nat):Int):=by unfold cG;rw[<-ei];omega
 have hm:cG g s<=10000:=by unfold cG;omega
 have w1:=dh s
 refine aA (aK (aA (aJ ?_)));refine ef p6 p8 @aH hia hag ?_;refine cA ?_;intro W1 v1 k1 h1;try refine am ?_
 refine cQ (b:=Y.nx) (ap) (by refine am ?_;exact aY _) h1 rfl rfl ?_;intro W v2 k2 h2;refine am ?_;have sW:Same Y W:=v2.same v1 (Ag _);have hJW:=hJs _ _ _ W hJY sW.1 fun c hc _=>sW.2 c hc;have hlW:=(sW.2 _ lY).trans hl;clear v1 v2 h1 k1;refine bO (dq @aC @aB (aFm h2) hact ?_);refine aX (Q:=fun o A' Z=>(o= .normal/\aRn J X ac bd p q A.F iv g.bj.length s (cG g s) 0 A' Z)\/(o= .ret/\R Z/\Z.h.get X.nx=some (.loop .done (some .ret) A.F [p,q] ac bd))) (aK (bH (aRn J X ac bd p q A.F iv g.bj.length s (cG g s)) ?_ (cG g s) _ _ ⟨rfl,0,ar,hJW,hlW,ah p0,af,ah p6,ah p7,ah p8,af,ag⟩)) ?_;rotate_left
 ·clear p0 p6 p7 p8;rintro o ⟨F,inr⟩ Z (⟨rfl,q0,a,ha,hJZ,hlZ,p0,p3,p6,p7,p8,_,_⟩ | ⟨rfl,h1,h2⟩)
  ·simp only at q0 p0 p6 p7 p8;subst q0;obtain rfl:a=cG g s:=by omega
   try refine ae ?_
   refine aJ (dn p8 w1 ?_);exact⟨k - 1,ar,rfl,s+1,ar,hrow s Z hlt hJZ,hlZ,by refine⟨?_,?_,?_,?_⟩<;>simp only[↓sU,sD,rE,↓reduceIte,rA,p0,p6,p7]⟩
  ·try refine ae ?_
   exact .inr ⟨h1,h2⟩
 clear p0 p6 p7 p8 h2 hJW hlW hJY hl sY lY sW k2;rintro k' ⟨F,inr⟩ Z ⟨q0,a,hak,hJZ,hlZ,p0,p3,p6,p7,p8,p14,p15⟩;simp only at q0 p0 p3 p6 p7 p8 p14 p15;subst q0;refine bO (dn p14 p15 ?_);by_cases hat:a<cG g s;rotate_left
 ·refine aA (aM (by simp only[↓sU,sD,rE,↓reduceIte,rA,Aa (show ¬ (a:Int)<((cG g s:Nat):Int) by omega)]) (bJ ?_));refine ae ?_;obtain rfl:k'=0:=by omega
  exact .inl ⟨rfl,a,hak,hJZ,hlZ,by refine⟨?_,?_,?_,?_,?_,?_,?_⟩<;>simp only[↓sU,sD,rE,↓reduceIte,rA,p0,p3,p6,p7,p8,p14,p15]⟩
 refine aA (aN (by simp only[↓sU,sD,rE,↓reduceIte,rA,Ac (show(a:Int)<((cG g s:Nat):Int) by omega)]) (aI ?_));try refine ae ?_
 have w2:=dh a
 refine aA (aK (aA (aJ ?_)));refine dm p15 ?_;refine bO (dn p0 p3 ?_);refine bD (ae ?_);refine aW (Q:=fun r V=>(r= .bool true/\J s (a+1) V/\V.h.get X.nx=some (.loop .ready none A.F [p,q] ac bd))\/(r= .bool false/\R V/\V.h.get X.nx=some (.loop .done (some .ret) A.F [p,q] ac bd))) (aNW hlZ rfl (aX (hbody s a Z hlt hat hJZ) ?_)) ?_
 ·rintro o A1 Y1 ⟨rfl,rfl,hb1⟩;refine⟨rfl,none,A.F,[p,q],ac,hlZ,aX (hb1 _) ?_⟩;rintro o A2 Y2 ⟨g2,n2,h2⟩;refine⟨none,A.F,[p,q],ac,bd,g2,?_⟩;rcases h2 with⟨rfl,h2⟩ | ⟨rfl,h2⟩
  ·exact .inl ⟨rfl,.inl ⟨rfl,hJs _ _ _ _ h2 (Ag _) (fun c _ hc=>set_ne Y2 _ c hc),fk⟩⟩
  ·exact .inr ⟨(by intro h;cases h),.inr ⟨rfl,hRs _ _ h2 (Ag _) (fun c _ hc=>set_ne Y2 _ c hc),fk⟩⟩
 ·rintro r V (⟨rfl,h1,h2⟩ | ⟨rfl,h1,h2⟩)
  ·refine dn @eM @Cc ?_;refine aM (af) (aI ?_);try refine ae ?_
   refine aJ (dn p15 w2 ?_);exact⟨k' - 1,ar,rfl,a+1,ar,h1,h2,by refine⟨?_,?_,?_,?_,?_,?_,?_⟩<;>simp only[↓sU,sD,rE,↓reduceIte,rA,p0,p3,p6,p7,p8,p14]⟩
  ·refine dn @eM @Ci ?_;refine aN (af) (aP ?_);refine ae ?_;exact .inr ⟨h1,h2⟩
end Go.Ev.Gl
