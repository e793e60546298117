import Derived.Test.YtdkehphobhnjoaaGl27
open Nat renaming reduceEqDiff → rE, reduceAdd → rA
set_option maxHeartbeats 16000000
set_option linter.unusedSimpArgs false
set_option linter.unusedVariables false
namespace Go.Ev.Gl
variable {fns:T dE}
theorem aEd{i:Int}:∀ {L:List cC} {T:List cC} {a:Nat},T.drop a=L→∀ (l:List Nat),l.Pairwise (· < ·)→(∀x∈l,a≤x∧∃t,T[x]? =some t∧t.1=i)→(∀x t,a≤x→T[x]? =some t→t.1=i→x∈l)→(l.map (cW T)).sum=lE i L a
 | [],T,a,hd,l,_,hl,_=>by
  cases l with
  | nil=>rfl
  | cons x l=>
   obtain⟨h1,t,h2,_⟩:=hl x (Bt ..);have:=(Ai.1 h2).1;have h3:=Ey List.length hd;rw[Da] at h3;simp only[Bu] at h3;omega
 | t::L,T,a,hd,l,hp,hl,hall=>by
  have hlen:a<T.length:=by
   have h3:=Ey List.length hd;rw[Da,Au] at h3;omega
  have e:=Br hlen;rw[hd] at e;injection e with e1 e2;have ht:T[a]? =some t:=by rw[Ac hlen,e1]
  show _=(if t.1=i then(t.2.2+1 - (a:Int)).toNat else 0)+lE i L (a+1);by_cases hti:t.1=i
  ·rw[if_pos hti];have ham:=hall a t (Ah _) ht hti;cases l with
   | nil=>cases ham
   | cons x l=>
    have hp':=Cu.1 hp;have hxa:x=a:=by
     have h1:=(hl x (Bt ..)).1;rcases Bg.1 ham with h | h
     ·exact h.symm
     ·have:=hp'.1 a h;omega
    subst hxa;have ih:=aEd (i:=i) (T:=T) (a:=x+1) (L:=L) e2.symm l hp'.2 (fun y hy=>⟨hp'.1 y hy,(hl y (Bn _ hy)).2⟩) fun y u hy hu hui=>by
     rcases Bg.1 (hall y u (by omega) hu hui) with h | h
     ·omega
     ·exact h
    have es:cW T x=(t.2.2+1 - (x:Int)).toNat:=by unfold cW;rw[ht]
    rw[Dp,List.sum_cons,ih,es]
  ·rw[if_neg hti,An];have hna:∀y∈l,a+1≤y:=fun y hy=>by
    obtain⟨h1,u,h2,h3⟩:=hl y hy;rcases Bx a y with h | h
    ·exact h
    ·obtain rfl:y=a:=by omega
     rw[ht] at h2;cases h2;exact absurd h3 hti
   exact aEd (i:=i) (T:=T) (a:=a+1) (L:=L) e2.symm l hp (fun y hy=>⟨hna y hy,(hl y hy).2⟩) fun y u hy hu hui=>hall y u (by omega) hu hui
theorem size_eq{T:List cC}{g:aW}(hT:eK g=some T)(hl:T.length=g.nodes.length){i:Nat}(hi:i<g.nodes.length):cW T i=1+(((nodeAt g i).next.map Int.toNat).map (cW T)).sum:=by
 have hw:eE g.nodes.length (dB g) (g.nodes.length+1) 0 (-1) 0=some T:=hT;have k:=mS (by decide) hw;have hf:=iC hw;have hnx:∀i,dB g (0+i)=(nodeAt g i).next:=fun i=>by rw[An];exact fO g i
 obtain⟨e1,_⟩:=uX k (show i<T.length by omega);have hinc:=hf.inc i (by omega);rw[hnx] at hinc;have hcf:=hf.cf i (by omega);rw[hnx] at hcf;have hpw:((nodeAt g i).next.map Int.toNat).Pairwise (· < ·):=by
  rw[List.pairwise_map];refine List.Pairwise.imp_of_mem (fun {a b} ha hb h=>?_) hinc;have:=hcf a ha;have:=hcf b hb;omega
 rw[e1];congr 1;refine(aEd (i:=(i:Int)) (T:=T) (a:=0) (L:=T) rfl _ hpw (fun x hx=>?_) fun x t _ hx ht=>?_).symm
 ·obtain⟨y,hy,rfl⟩:=Cy.1 hx;obtain⟨_,h2,h3⟩:=hcf y hy;refine⟨Cj _,?_⟩;unfold gP at h3;rw[Fc,Ap] at h3;obtain⟨t,a,b⟩:=h3;exact⟨t,a,by rw[b];omega⟩
 ·have hxl:=(Ai.1 hx).1;have hpx:gP T x=some t.1:=by unfold gP;rw[hx];rfl
  rcases Eb x with h | h
  ·subst h;have:=hf.root;rw[hpx] at this;injection this with this;omega
  ·obtain⟨q,h1,h2,h3⟩:=hf.pf x h hxl;rw[hpx] at h2;injection h2 with h2;obtain rfl:q=i:=by omega
   rw[hnx] at h3;exact Cy.2 ⟨_,h3,by omega⟩
def aNO(S:St)(nv iv:AV)(g:aW)(T:List cC)(i:Nat)(k:Nat)(A:bH)(X:St):Prop:=A.inr=false∧Same S X∧S.nx<X.nx∧X.h.get S.nx=some (.cells [.int .i64 g.players,nv,iv] false 0)∧∃q:Nat,q+k=(nodeAt g i).next.length∧aD 1 A.F= .int .i64 (i:Int)∧aD 2 A.F= .ptr S.nx 0∧aD 5 A.F= .int .i64 ((1+(((nodeAt g i).next.take q).map fun c=>cW T c.toNat).sum:Nat):Int)∧aD 6 A.F= .int .i64 (q:Int)
theorem aB1{nv iv:AV}{g:aW}{T:List cC}(H:Has fns)(hf:cM g=0)(hT:eK g=some T)(hTl:T.length=g.nodes.length)(hln:g.nodes.length≤1000):∀ (m:Nat) {S:St} {i:Nat},i<g.nodes.length→g.nodes.length≤m+i→aN 6 bT S nv g.nodes→aN 2 cV S iv g.infos→fA fns (.fn 27 [] []) [.agg [.int .i64 g.players,nv,iv],.int .i64 (i:Int)] S fun r S'=>r= .int .i64 ((cW T i:Nat):Int)∧Same S S':=by
 intro m
 induction m with
 | zero=>intro S i h1 h2;omega
 | succ m ih=>
  intro S i hi hm hn hii;have G:=kA hf;have snv:=aN.self hn;have siv:=aN.self hii;have sag:cB (.agg [.int .i64 g.players,nv,iv]) (.agg [.int .i64 g.players,nv,iv])=true:=by
   simp only[cB,jP,snv,siv,eH,iK,Fg,aQ,beq_self_eq_true]
  have hse:=size_eq hT hTl hi;rw[List.map_map] at hse;have hse:cW T i=1+((nodeAt g i).next.map fun c=>cW T c.toNat).sum:=hse;have hle:=(uX (mS (by decide) (show eE g.nodes.length (dB g) (g.nodes.length+1) 0 (-1) 0=some T from hT)) (show i<T.length by omega)).2.1;have hpar:∀q,((((nodeAt g i).next.take q).map fun c=>cW T c.toNat).sum)≤((nodeAt g i).next.map fun c=>cW T c.toNat).sum:=fun q=>by
   conv=>rhs;rw[←Cq q (nodeAt g i).next]
   rw[Ej,List.sum_append];omega
  obtain⟨_,bx,qx,hiax,hbx,_,⟨xa,xw,xp,rfl,hxa,hxw,hxp⟩,_,hfx⟩:=aN.at hn (by decide) (eC hi);have hl3:=hfx 3 xa rfl;refine bP H.f27 (by simp) ?_;simp only[↓sU,sD,rE,↓reduceIte,rA];refine bE ?_;refine dG (by simp only[↓sU,sD,rE,↓reduceIte,rA];exact bJ _) ?_;intro S1 s1 n1 g1;simp only[↓sU,sD,rE,↓reduceIte,rA];refine bE ?_;simp only[↓sU,sD,rE,↓reduceIte,rA];refine aA (aS (Q:=fun o A' X=>o= .normal∧aNO S nv iv g T i 0 A' X) (aA (aF ?_)) ?_)
  ·simp only[↓sU,sD,rE,↓reduceIte,rA];refine aJ (bB (aNO S nv iv g T i) ?_ (nodeAt g i).next.length _ _ ⟨rfl,s1,by omega,g1,0,by omega,by simp only[↓sU,sD,rE,↓reduceIte,rA],by simp only[↓sU,sD,rE,↓reduceIte,rA],by simp only[↓sU,sD,rE,↓reduceIte,rA];try rfl,by simp only[↓sU,sD,rE,↓reduceIte,rA];try rfl⟩);rintro k ⟨F,inr⟩ X ⟨q0,hX,lX,gX,q,hqk,p1,p2,p5,p6⟩;simp only at q0 p1 p2 p5 p6;subst q0;have lX3:=hl3;rw[←jO hX hbx] at lX3;have hxaX:=hxa.same hX;refine eG ?_;simp only[↓sU,sD,rE,↓reduceIte,rA,p1,p2,p6,aH,aG,eF gX,aE,hiax,lX3,hxaX.len,Ag];by_cases hlt:q<(nodeAt g i).next.length;rotate_left
   ·refine aK (by simp only[↓sU,sD,rE,↓reduceIte,rA,Aa (show ¬ (q:Int)<(((nodeAt g i).next.length:Nat):Int) by omega)]) (aU ?_);simp only[↓sU,sD,rE,↓reduceIte,rA];obtain rfl:k=0:=by omega
    exact⟨rfl,hX,lX,gX,q,hqk,by refine⟨?_,?_,?_,?_⟩<;>simp only[↓sU,sD,rE,↓reduceIte,rA,p1,p2,p5,p6]⟩
   refine aM (by simp only[↓sU,sD,rE,↓reduceIte,rA,Ab (show(q:Int)<(((nodeAt g i).next.length:Nat):Int) by omega)]) (aI ?_);try simp only[↓sU,sD,rE,↓reduceIte,rA]
   have hN1:=G.nxt i hi;have w1:IntKind.i64.wrap ((q:Int)+1)=((q+1:Nat):Int):=by rw[wrap_i64 (by omega) (by omega)];omega
   obtain⟨cb,cq,ci,cl1,cl⟩:=tZ hxaX hlt;obtain⟨k1,k2⟩:=G.kids i hi q hlt;have hcn:(nodeAt g i).next.getD q 0=(((nodeAt g i).next.getD q 0).toNat:Int):=by omega
   have hbX:bx<X.nx:=Ae hbx hX.1;have sxa:=bN.self hxa;have l3:=gG gX;have l31:=eF gX;refine aA (aJ (cR (fun _=>False) ?_));intro X0 x0;simp only[↓sU,sD,rE,↓reduceIte,rA,p1,p2,p5,p6,aH,aX,aG,l3,l31,lX,Aq,sag,snv,aE,hiax,lX3,hbX,sxa,ci,cl,cl1];refine bX rfl ?_;simp only[↓sU,sD,rE,↓reduceIte,rA];rw[hcn];refine aP (ih (by omega) (by omega) (aN.same (E:=bT) bI hn (hX.trans x0)) (aN.same (E:=cV) cE hii (hX.trans x0))) ?_;rintro _ X1 ⟨rfl,x1⟩;refine⟨x1,?_⟩;have hps:=hpar (q+1);have htk:((((nodeAt g i).next.take (q+1)).map fun c=>cW T c.toNat).sum)=((((nodeAt g i).next.take q).map fun c=>cW T c.toNat).sum)+cW T ((nodeAt g i).next.getD q 0).toNat:=by
    rw[Bi,lN hlt,Ej,List.sum_append];simp
   have w2:IntKind.i64.wrap (((1+(((nodeAt g i).next.take q).map fun c=>cW T c.toNat).sum:Nat):Int)+((cW T ((nodeAt g i).next.getD q 0).toNat:Nat):Int))=((1+(((nodeAt g i).next.take (q+1)).map fun c=>cW T c.toNat).sum:Nat):Int):=by
    rw[wrap_i64 (by omega) (by omega),htk];omega
   try simp only[↓sU,sD,rE,↓reduceIte,rA,p5,w2]
   refine aF ?_;simp only[↓sU,sD,rE,↓reduceIte,rA,p6,w1];have x01:=x0.trans x1;exact⟨k - 1,by omega,rfl,hX.trans x01,Ae lX x01.1,(x01.2 _ lX).trans gX,q+1,by omega,by refine⟨?_,?_,?_,?_⟩<;>simp only[↓sU,sD,rE,↓reduceIte,rA,p1,p2]⟩
  rintro o ⟨F,inr⟩ X ⟨rfl,q0,hX,lX,gX,q,hqk,p1,p2,p5,p6⟩;simp only at q0 p5;subst q0;obtain rfl:q=(nodeAt g i).next.length:=by omega
  rw[Ea,←hse] at p5;try simp only[↓sU,sD,rE,↓reduceIte,rA]
  refine bE ?_;simp only[↓sU,sD,rE,↓reduceIte,rA,p5];refine aO ?_;simp only[↓sU,sD,rE,↓reduceIte,rA];exact hX
def SwX(S0:St)(nb rb N a b n q j:Nat)(v1 v5 v6:AV)(k:Nat)(A:bH)(X:St):Prop:=A.inr=false∧Same S0 X∧rb<X.nx∧∃ (t:Nat) (l:List Int),t+k=n∧l.length=N∧(∀j,j<N→l.getD j 0=((swF a b t j:Nat):Int))∧X.h.get rb=some (.cells (bC l) false 0)∧aD 1 A.F=v1∧aD 5 A.F=v5∧aD 6 A.F=v6∧aD 7 A.F= .ptr nb 0∧aD 8 A.F= .int .i64 (q:Int)∧aD 9 A.F= .int .i64 (j:Int)∧aD 10 A.F= .int .i64 (n:Int)∧aD 11 A.F= .sl rb 0 N N false∧aD 12 A.F= .int .i64 (t:Int)
theorem aLy{S0 X:St}{F:Fr}{xa k0 k1 k2 k4 k5 v1 v5 v6:AV}{next:List Int}{N a b n nb rb q j:Nat}(hxa:bN .i64 S0 xa next)(hq:q<next.length)(hj:j<next.length)(ea:next.getD q 0=(a:Int))(eb:next.getD j 0=(b:Int))(hab:a+n≤b)(hbn:b+n≤N)(hN:N≤100000)(hnb:S0.h.get nb=some (.cells [k0,k1,k2,xa,k4,k5] false 0))(lnb:nb<S0.nx)(hrb:S0.nx≤rb)(sX:Same S0 X)(rX:rb<X.nx)(gX:X.h.get rb=some (.cells (bC (eM N)) false 0))(p1:aD 1 F=v1)(p5:aD 5 F=v5)(p6:aD 6 F=v6)(p7:aD 7 F= .ptr nb 0)(p8:aD 8 F= .int .i64 (q:Int))(p9:aD 9 F= .int .i64 (j:Int))(p10:aD 10 F= .int .i64 (n:Int))(p11:aD 11 F= .sl rb 0 N N false)(p12:aD 12 F= .int .i64 ((0:Nat):Int)):
  mA fns qk5 ⟨F,false⟩ X fun o A' Z=>o= .normal∧SwX S0 nb rb N a b n q j v1 v5 v6 0 A' Z:=by
 obtain⟨bq,oq,iq,lq,dq⟩:=bN.ptr hxa hq;obtain⟨bj,oj,ij,lj,dj⟩:=bN.ptr hxa hj;rw[ea] at dq;rw[eb] at dj;have sxa:=bN.self hxa;refine aJ (bB (SwX S0 nb rb N a b n q j v1 v5 v6) ?_ n _ _ ⟨rfl,sX,rX,0,_,by omega,by unfold eM;rw[Bc,Db],fun j hj=>by unfold eM swF;rw[mV hj,if_neg (by omega),if_neg (by omega)],gX,p1,p5,p6,p7,p8,p9,p10,p11,p12⟩);clear gX rX sX p1 p5 p6 p7 p8 p9 p10 p11 p12;rintro k ⟨F,inr⟩ X ⟨q0,sX,rX,t,l,htk,hl,hf,gX,p1,p5,p6,p7,p8,p9,p10,p11,p12⟩;simp only at q0 p1 p5 p6 p7 p8 p9 p10 p11 p12;subst q0;refine eG ?_;simp only[↓sU,sD,rE,↓reduceIte,rA,p10,p12];by_cases hlt:t<n;rotate_left
 ·refine aK (by simp only[↓sU,sD,rE,↓reduceIte,rA,Aa (show ¬ (t:Int)<(n:Int) by omega)]) (aU ?_);simp only[↓sU,sD,rE,↓reduceIte,rA];obtain rfl:k=0:=by omega
  exact⟨rfl,sX,rX,t,l,htk,hl,hf,gX,by refine⟨?_,?_,?_,?_,?_,?_,?_,?_,?_⟩<;>simp only[↓sU,sD,rE,↓reduceIte,rA,p1,p5,p6,p7,p8,p9,p10,p11,p12]⟩
 refine aM (by simp only[↓sU,sD,rE,↓reduceIte,rA,Ab (show(t:Int)<(n:Int) by omega)]) (aI ?_);try simp only[↓sU,sD,rE,↓reduceIte,rA]
 have w1:IntKind.i64.wrap ((t:Int)+1)=((t+1:Nat):Int):=by rw[wrap_i64 (by omega) (by omega)];omega
 have wa:IntKind.i64.wrap ((a:Int)+(t:Int))=((a+t:Nat):Int):=by rw[wrap_i64 (by omega) (by omega)];omega
 have wb':IntKind.i64.wrap ((b:Int)+(t:Int))=((b+t:Nat):Int):=by rw[wrap_i64 (by omega) (by omega)];omega
 have ia:=dI (b:=rb) (N:=N) (o:=false) (show a+t<N by omega);have ib:=dI (b:=rb) (N:=N) (o:=false) (show b+t<N by omega);have nX:=sX.1;have gnX:=(sX.2 _ lnb).trans hnb;have dqX:dT (.ptr bq oq) false 1 X.h=some (.int .i64 (a:Int)):=by rw[jO sX lq];exact dq
 have djX:dT (.ptr bj oj) false 1 X.h=some (.int .i64 (b:Int)):=by rw[jO sX lj];exact dj
 have lnX:nb<X.nx:=by omega
 have lqX:bq<X.nx:=by omega
 have ljX:bj<X.nx:=by omega
 have nn:nb≠rb:=by omega
 have nq:bq≠rb:=by omega
 have nj:bj≠rb:=by omega
 refine aA (aJ (cR (fun c=>c=rb) ?_));intro S1 s1;simp only[↓sU,sD,rE,↓reduceIte,rA,p7,p8,p9,p11,p12,aH,aX,aG,cP gnX,aE,iq,dqX,ij,djX,sxa,dJ,wa,wb',ia,ib,lnX,lqX,ljX,nn,nq,nj,Aq];refine qD (p:=a+t) (w:=((b+t:Nat):Int)) (P:=l) rfl (by simp only[↓sU,sD,rE,↓reduceIte,rA]) (by simp only[↓sU,sD,rE,↓reduceIte,rA]) (by rw[s1.2 _ rX];exact gX) (by omega) rfl ?_;intro S2 s2 n2 c2;simp only[↓sU,sD,rE,↓reduceIte,rA,p11,aE,ib];refine qD (p:=b+t) (w:=((a+t:Nat):Int)) (P:=l.set (a+t) ((b+t:Nat):Int)) (show Nat.testBit 8589934591 31=true by decide) (by simp only[↓sU,sD,rE,↓reduceIte,rA]) (by simp only[↓sU,sD,rE,↓reduceIte,rA]) c2 (by rw[Al];omega) rfl ?_;intro S3 s3 n3 c3;simp only[↓sU,sD,rE,↓reduceIte,rA,cK];refine aF ?_;simp only[↓sU,sD,rE,↓reduceIte,rA,p12,w1];have n1:=s1.1;refine⟨k - 1,by omega,rfl,⟨by show S0.nx≤S3.nx;omega,fun c hc=>(s3.2 c (by omega) (by omega)).trans ((s2.2 c (by omega) (by omega)).trans ((s1.2 c (by omega)).trans (sX.2 c hc)))⟩,by show rb<S3.nx;omega,t+1,(l.set (a+t) ((b+t:Nat):Int)).set (b+t) ((a+t:Nat):Int),by omega,by rw[Al,Al];exact hl,fun j hj=>?_,c3,by refine⟨?_,?_,?_,?_,?_,?_,?_,?_,?_⟩<;>simp only[↓sU,sD,rE,↓reduceIte,rA,p1,p5,p6,p7,p8,p9,p10,p11]⟩;rw[dP (by rw[Al];omega),dP (by omega)];unfold swF;by_cases e1:j=b+t
 ·rw[if_pos e1,if_neg (by omega),if_pos (by omega)];omega
 ·rw[if_neg e1];by_cases e2:j=a+t
  ·rw[if_pos e2,if_pos (by omega)];omega
  ·rw[if_neg e2,hf j hj];unfold swF;by_cases e3:a≤j∧j<a+t
   ·rw[if_pos e3,if_pos (show a≤j∧j<a+(t+1) by omega)]
   ·rw[if_neg e3,if_neg (show ¬ (a≤j∧j<a+(t+1)) by omega)];by_cases e4:b≤j∧j<b+t
    ·rw[if_pos e4,if_pos (show b≤j∧j<b+(t+1) by omega)]
    ·rw[if_neg e4,if_neg (show ¬ (b≤j∧j<b+(t+1)) by omega)]
structure XwH(S2 X:St)(gb:Nat)(pv:AV)(cs:List AV)(L:List (List Int))(i:Nat)(F:Fr):Prop where
 same:Same S2 X
 gr:jZ 1 S2 X pv L.length cs
 rw:vO S2 X pv cs L
 t1:aD 1 F= .ptr gb 0
 t5:aD 5 F=pv
 t6:aD 6 F= .int .i64 (i:Int)
def aNt(S2:St)(gb:Nat)(g:aW)(T:List cC)(k:Nat)(A:bH)(X:St):Prop:=A.inr=false∧∃ (i:Nat) (pv:AV) (cs:List AV),i+k=g.nodes.length∧XwH S2 X gb pv cs (eQ g T i) i A.F
def aOr(S2:St)(gb nb:Nat)(g:aW)(T:List cC)(cells:List AV)(i K:Nat)(k:Nat)(A:bH)(X:St):Prop:=A.inr=false∧nb<X.nx∧X.h.get nb=some (.cells cells false 0)∧∃ (q:Nat) (pv:AV) (cs:List AV),q+k=K∧XwH S2 X gb pv cs (eQ g T i++iF g T i q) i A.F∧aD 7 A.F= .ptr nb 0∧aD 8 A.F= .int .i64 (q:Int)
def aMJ(S2:St)(gb nb:Nat)(g:aW)(T:List cC)(cells:List AV)(i q:Nat)(k:Nat)(A:bH)(X:St):Prop:=A.inr=false∧nb<X.nx∧X.h.get nb=some (.cells cells false 0)∧∃ (j:Nat) (pv:AV) (cs:List AV),j+k=(nodeAt g i).next.length∧q<j∧XwH S2 X gb pv cs (eQ g T i++(iF g T i q++gQ g T i q j)) i A.F∧aD 7 A.F= .ptr nb 0∧aD 8 A.F= .int .i64 (q:Int)∧aD 9 A.F= .int .i64 (j:Int)
theorem XwH.step{S2 X Y:St}{gb:Nat}{pv:AV}{cs:List AV}{L:List (List Int)}{i:Nat}{F F':Fr}(h:XwH S2 X gb pv cs L i F)(hs:Same X Y)(h1:aD 1 F'=aD 1 F)(h5:aD 5 F'=aD 5 F)(h6:aD 6 F'=aD 6 F):XwH S2 Y gb pv cs L i F':=
 ⟨h.same.trans hs,h.gr.step hs,⟨h.rw.1,fun j hj=>by
  obtain⟨r,h1,h2,h3⟩:=h.rw.2 j hj;exact⟨r,h1,h2.same hs,h3⟩⟩,h1.trans h.t1,h5.trans h.t5,h6.trans h.t6⟩
theorem aEN{S:St}{nv iv:AV}{g:aW}(H:Has fns)(hn:aN 6 bT S nv g.nodes)(hi:aN 2 cV S iv g.infos)(hln:g.nodes.length≤1000):
  fA fns (.fn 7 [] []) [.agg [.int .i64 g.players,nv,iv]] S fun r S'=>Same S S'∧∃v,r= .tup [v,.int .i64 (cM g)]∧(cM g≠0→v= .nilsl)∧(cM g=0→∃T,eK g=some T∧T.length=g.nodes.length∧aN 1 kJ S' v (eQ g T g.nodes.length)):=by
 have snv:=aN.self hn;have siv:=aN.self hi;have lnv:=aN.len hn;have sag:cB (.agg [.int .i64 g.players,nv,iv]) (.agg [.int .i64 g.players,nv,iv])=true:=by
  simp only[cB,jP,snv,siv,eH,iK,Fg,aQ,beq_self_eq_true]
 refine bP H.f7 (by simp) ?_;simp only[↓sU,sD,rE,↓reduceIte,rA];refine bE ?_;refine dG (by simp only[↓sU,sD,rE,↓reduceIte,rA];exact bJ _) ?_;intro S1 s1 n1 g1;simp only[↓sU,sD,rE,↓reduceIte,rA];refine eG ?_;simp only[↓sU,sD,rE,↓reduceIte,rA,gG g1];refine aY ?_;simp only[↓sU,sD,rE,↓reduceIte,rA];refine aP (aBQ H (aN.same (E:=bT) bI hn s1) (aN.same (E:=cV) cE hi s1) (by omega)) ?_;rintro _ S2 ⟨rfl,s2⟩;try simp only[↓sU,sD,rE,↓reduceIte,rA]
 have s12:=s1.trans s2;refine bE ?_;simp only[↓sU,sD,rE,↓reduceIte,rA];by_cases h0:cM g=0;rotate_left
 ·refine aM (by simp only[↓sU,sD,rE,↓reduceIte,rA,Ab (show cM g≠0 from h0)]) ?_;refine bE ?_;simp only[↓sU,sD,rE,↓reduceIte,rA];refine aO ?_;simp only[↓sU,sD,rE,↓reduceIte,rA];exact⟨s12,.nilsl,rfl,fun _=>rfl,fun h=>absurd h h0⟩
 refine aK (by simp only[↓sU,sD,rE,↓reduceIte,rA,Aa (show ¬cM g≠0 from fun h=>h h0)]) (aI ?_);try simp only[↓sU,sD,rE,↓reduceIte,rA]
 have G:=kA h0;obtain⟨T,hT,hTl, -⟩:=G.walk;have hN2:=G.n2;have hn2:=aN.same (E:=bT) bI hn s12;have hi2:=aN.same (E:=cV) cE hi s12;have g2:S2.h.get S.nx=some (.cells [.int .i64 g.players,nv,iv] false 0):=(s2.2 _ (by omega)).trans g1;have lg2:S.nx<S2.nx:=by have:=s2.1;omega
 generalize hgb:S.nx=gb at *;clear g1 n1;refine bE ?_;simp only[↓sU,sD,rE,↓reduceIte,rA];refine eG ?_;simp only[↓sU,sD,rE,↓reduceIte,rA];refine aS (Q:=fun o A' X=>o= .normal∧aNt S2 gb g T 0 A' X) (aJ (bB (aNt S2 gb g T) ?_ g.nodes.length _ _ ⟨rfl,0,.nilsl,[],by omega,⟨Same.refl _,.inl ⟨rfl,rfl,rfl⟩,⟨rfl,fun j hj=>absurd hj (Ce j)⟩,by simp only[↓sU,sD,rE,↓reduceIte,rA],by simp only[↓sU,sD,rE,↓reduceIte,rA],by simp only[↓sU,sD,rE,↓reduceIte,rA];try rfl⟩⟩)) ?_;rotate_left
 ·rintro o ⟨F,inr⟩ X ⟨rfl,q0,i,pv,cs,hik,hS⟩;simp only at q0 hS;subst q0;obtain rfl:i=g.nodes.length:=by omega
  try simp only[↓sU,sD,rE,↓reduceIte,rA]
  refine bE ?_;simp only[↓sU,sD,rE,↓reduceIte,rA,hS.t5];refine aO ?_;simp only[↓sU,sD,rE,↓reduceIte,rA];exact⟨s12.trans hS.same,pv,by rw[h0],fun h=>absurd h0 h,fun _=>⟨T,hT,hTl,hS.rw.is hS.gr rfl⟩⟩
 rintro k ⟨F,inr⟩ V ⟨q0,i,pv,cs,hik,hS⟩;simp only at q0 hS;subst q0;have gV:=(hS.same.2 _ lg2).trans g2;refine eG ?_;simp only[↓sU,sD,rE,↓reduceIte,rA,hS.t1,hS.t6,aH,aG,eF gV,lnv];by_cases hlt:i<g.nodes.length;rotate_left
 ·refine aK (by simp only[↓sU,sD,rE,↓reduceIte,rA,Aa (show ¬ (i:Int)<((g.nodes.length:Nat):Int) by omega)]) (aU ?_);simp only[↓sU,sD,rE,↓reduceIte,rA];obtain rfl:k=0:=by omega
  exact⟨rfl,i,pv,cs,hik,hS.step (Same.refl _) (by simp only[↓sU,sD,rE,↓reduceIte,rA]) (by simp only[↓sU,sD,rE,↓reduceIte,rA]) (by simp only[↓sU,sD,rE,↓reduceIte,rA])⟩
 refine aM (by simp only[↓sU,sD,rE,↓reduceIte,rA,Ab (show(i:Int)<((g.nodes.length:Nat):Int) by omega)]) (aI ?_);try simp only[↓sU,sD,rE,↓reduceIte,rA]
 obtain⟨_,bx,qx,hiax,hbx,_,⟨xa,xw,xp,rfl,hxa,hxw,hxp⟩,hldx,_⟩:=aN.at hn2 (by decide) (eC hlt);rw[←jO hS.same hbx] at hldx;have w0:IntKind.i64.wrap ((i:Int)+1)=((i+1:Nat):Int):=by rw[wrap_i64 (by omega) (by omega)];omega
 refine aA (aJ (aA (aF ?_)));simp only[↓aC,aB,rE,↓reduceIte,rA,hS.t1,hS.t6,aH,aG,eF gV,aE,hiax,hldx];refine dO ?_;intro W1 v1 k1 h1;try simp only[↓aC,aB,rE,↓reduceIte,rA]
 refine fI (b:=V.nx) (by simp only[↓aC,aB,rE,↓reduceIte,rA]) (by simp only[↓aC,aB,rE,↓reduceIte,rA];exact bJ _) h1 rfl rfl ?_;intro Y v2 k2 h2;simp only[↓aC,aB,rE,↓reduceIte,rA];have sVY:Same V Y:=v2.same v1 (Ah _);have lxY:V.nx<Y.nx:=by omega
 have nV:=hS.same.1;clear v1 v2 h1 k1;refine bE ?_;simp only[↓sU,sD,rE,↓reduceIte,rA];have hnx:=G.nxt i hlt;obtain⟨K,hK⟩:∃K:Nat,K=if(nodeAt g i).kind=1 then(nodeAt g i).next.length else 0:=⟨_,rfl⟩;have e1:eQ g T (i+1)=eQ g T i++iF g T i K:=by
  show eQ g T i++(if _ then _ else [])=_;rw[hK];split
  ·rfl
  ·rfl
 generalize hcells: [AV.int .i64 (nodeAt g i).kind,.int .i64 (nodeAt g i).player,.int .i64 (nodeAt g i).info,xa,xw,xp]=cells at h2;refine aS (Q:=fun o A' X=>o= .normal∧aOr S2 gb V.nx g T cells i K 0 A' X) (aJ (bB (aOr S2 gb V.nx g T cells i K) ?_ K _ _ ⟨rfl,lxY,h2,0,pv,cs,by omega,?_,by simp only[↓sU,sD,rE,↓reduceIte,rA],by simp only[↓sU,sD,rE,↓reduceIte,rA];try rfl⟩)) ?_;rotate_left
 ·show XwH S2 Y gb pv cs (eQ g T i++ []) i _;rw[Bs];exact hS.step sVY (by simp only[↓sU,sD,rE,↓reduceIte,rA]) (by simp only[↓sU,sD,rE,↓reduceIte,rA]) (by simp only[↓sU,sD,rE,↓reduceIte,rA])
 ·rintro o ⟨F,inr⟩ X ⟨rfl,q0,_,_,q,pv,cs,hqk,hSX,_⟩;simp only at q0 hSX;subst q0;obtain rfl:q=K:=by omega
  try simp only[↓sU,sD,rE,↓reduceIte,rA]
  refine aF ?_;simp only[↓sU,sD,rE,↓reduceIte,rA,hSX.t6,w0];refine⟨k - 1,by omega,rfl,i+1,pv,cs,by omega,?_⟩;rw[e1];exact XwH.mk hSX.same hSX.gr hSX.rw (by simp only[↓sU,sD,rE,↓reduceIte,rA,hSX.t1]) (by simp only[↓sU,sD,rE,↓reduceIte,rA,hSX.t5]) (by simp only[↓sU,sD,rE,↓reduceIte,rA])
 clear hS h2 sVY hldx e1 w0 hik gV hiax;rintro k2 ⟨F,inr⟩ X ⟨q0,lxX,hX,q,pv,cs,hqk,hS,t7,t8⟩;simp only at q0 hS t7 t8;subst q0;rw[←hcells] at hX;have hxaX:=hxa.same hS.same;refine eG ?_;simp only[↓sU,sD,rE,↓reduceIte,rA,t7,t8,aH,aG,cP hX,dK hX,hxaX.len,Ag];by_cases hqK:q<K;rotate_left
 ·obtain rfl:q=K:=by omega
  have hout:∀c:AV,c= .bool false→True:=fun _ _=>trivial;by_cases hk1:(nodeAt g i).kind=1
  ·rw[if_pos hk1] at hK;simp only[↓sU,sD,rE,↓reduceIte,rA,Aa (show ¬ (q:Int)<(((nodeAt g i).next.length:Nat):Int) by omega)];refine aK (by simp only[↓sU,sD,rE,↓reduceIte,rA]) (aU ?_);simp only[↓sU,sD,rE,↓reduceIte,rA];obtain rfl:k2=0:=by omega
   exact⟨rfl,lxX,by rw[←hcells];exact hX,q,pv,cs,hqk,hS.step (Same.refl _) (by simp only[↓sU,sD,rE,↓reduceIte,rA]) (by simp only[↓sU,sD,rE,↓reduceIte,rA]) (by simp only[↓sU,sD,rE,↓reduceIte,rA]),by refine⟨?_,?_⟩<;>simp only[↓sU,sD,rE,↓reduceIte,rA,t7,t8]⟩
  ·by_cases hql:q<(nodeAt g i).next.length
   ·simp only[↓sU,sD,rE,↓reduceIte,rA,Ab (show(q:Int)<(((nodeAt g i).next.length:Nat):Int) by omega),Aa hk1];refine aK (by simp only[↓sU,sD,rE,↓reduceIte,rA]) (aU ?_);simp only[↓sU,sD,rE,↓reduceIte,rA];obtain rfl:k2=0:=by omega
    exact⟨rfl,lxX,by rw[←hcells];exact hX,q,pv,cs,hqk,hS.step (Same.refl _) (by simp only[↓sU,sD,rE,↓reduceIte,rA]) (by simp only[↓sU,sD,rE,↓reduceIte,rA]) (by simp only[↓sU,sD,rE,↓reduceIte,rA]),by refine⟨?_,?_⟩<;>simp only[↓sU,sD,rE,↓reduceIte,rA,t7,t8]⟩
   ·simp only[↓sU,sD,rE,↓reduceIte,rA,Aa (show ¬ (q:Int)<(((nodeAt g i).next.length:Nat):Int) by omega)];refine aK (by simp only[↓sU,sD,rE,↓reduceIte,rA]) (aU ?_);simp only[↓sU,sD,rE,↓reduceIte,rA];obtain rfl:k2=0:=by omega
    exact⟨rfl,lxX,by rw[←hcells];exact hX,q,pv,cs,hqk,hS.step (Same.refl _) (by simp only[↓sU,sD,rE,↓reduceIte,rA]) (by simp only[↓sU,sD,rE,↓reduceIte,rA]) (by simp only[↓sU,sD,rE,↓reduceIte,rA]),by refine⟨?_,?_⟩<;>simp only[↓sU,sD,rE,↓reduceIte,rA,t7,t8]⟩
 have hk1:(nodeAt g i).kind=1:=by
  by_cases h:(nodeAt g i).kind=1
  ·exact h
  ·rw[if_neg h] at hK;omega
 rw[if_pos hk1] at hK;subst hK;simp only[↓sU,sD,rE,↓reduceIte,rA,Ab (show(q:Int)<(((nodeAt g i).next.length:Nat):Int) by omega),Ab hk1];refine aM (by simp only[↓sU,sD,rE,↓reduceIte,rA]) (aI ?_);try simp only[↓sU,sD,rE,↓reduceIte,rA]
 have hwn:=G.wts i hlt hk1;have w1:IntKind.i64.wrap ((q:Int)+1)=((q+1:Nat):Int):=by rw[wrap_i64 (by omega) (by omega)];omega
 refine aA (aJ (aA (aF ?_)));simp only[↓sU,sD,rE,↓reduceIte,rA,t8,w1];have e2:iF g T i (q+1)=iF g T i q++gQ g T i q (nodeAt g i).next.length:=rfl;refine aS (Q:=fun o A' Z=>o= .normal∧aMJ S2 gb V.nx g T cells i q 0 A' Z) (aJ (bB (aMJ S2 gb V.nx g T cells i q) ?_ ((nodeAt g i).next.length - (q+1)) _ _ ⟨rfl,lxX,by rw[←hcells];exact hX,q+1,pv,cs,by omega,by omega,?_,by simp only[↓sU,sD,rE,↓reduceIte,rA,t7],by simp only[↓sU,sD,rE,↓reduceIte,rA,t8],by simp only[↓sU,sD,rE,↓reduceIte,rA];try rfl⟩)) ?_;rotate_left
 ·rw[zV (Ah _),Bs];exact hS.step (Same.refl _) (by simp only[↓sU,sD,rE,↓reduceIte,rA]) (by simp only[↓sU,sD,rE,↓reduceIte,rA]) (by simp only[↓sU,sD,rE,↓reduceIte,rA])
 ·rintro o ⟨F,inr⟩ Z ⟨rfl,q0,lxZ,hZ,j,pv,cs,hjk,_,hSZ,t7,t8,_⟩;simp only at q0 hSZ t7 t8;subst q0;obtain rfl:j=(nodeAt g i).next.length:=by omega
  try simp only[↓sU,sD,rE,↓reduceIte,rA]
  refine aF ?_;simp only[↓sU,sD,rE,↓reduceIte,rA,t8,w1];refine⟨k2 - 1,by omega,rfl,lxZ,hZ,q+1,pv,cs,by omega,?_,by refine⟨?_,?_⟩<;>simp only[↓sU,sD,rE,↓reduceIte,rA,t7]⟩;rw[e2];exact hSZ.step (Same.refl _) (by simp only[↓sU,sD,rE,↓reduceIte,rA]) (by simp only[↓sU,sD,rE,↓reduceIte,rA]) (by simp only[↓sU,sD,rE,↓reduceIte,rA])
 clear hS hX lxX t7 t8 hqk e2 hxaX;rintro k3 ⟨F,inr⟩ X ⟨q0,lxX,hX,j,pv,cs,hjk,hqj,hS,t7,t8,t9⟩;simp only at q0 hS t7 t8 t9;subst q0;rw[←hcells] at hX;have hxaX:=hxa.same hS.same;refine eG ?_;simp only[↓sU,sD,rE,↓reduceIte,rA,t7,t9,aH,aG,cP hX,hxaX.len,Ag];by_cases hjl:j<(nodeAt g i).next.length;rotate_left
 ·refine aK (by simp only[↓sU,sD,rE,↓reduceIte,rA,Aa (show ¬ (j:Int)<(((nodeAt g i).next.length:Nat):Int) by omega)]) (aU ?_);simp only[↓sU,sD,rE,↓reduceIte,rA];obtain rfl:k3=0:=by omega
  exact⟨rfl,lxX,by rw[←hcells];exact hX,j,pv,cs,hjk,hqj,hS.step (Same.refl _) (by simp only[↓sU,sD,rE,↓reduceIte,rA]) (by simp only[↓sU,sD,rE,↓reduceIte,rA]) (by simp only[↓sU,sD,rE,↓reduceIte,rA]),by refine⟨?_,?_,?_⟩<;>simp only[↓sU,sD,rE,↓reduceIte,rA,t7,t8,t9]⟩
 refine aM (by simp only[↓sU,sD,rE,↓reduceIte,rA,Ab (show(j:Int)<(((nodeAt g i).next.length:Nat):Int) by omega)]) (aI ?_);try simp only[↓sU,sD,rE,↓reduceIte,rA]
 have w2:IntKind.i64.wrap ((j:Int)+1)=((j+1:Nat):Int):=by rw[wrap_i64 (by omega) (by omega)];omega
 have P:=aG5 G hT hTl hlt hqj hjl;obtain⟨c1,c2⟩:=G.kids i hlt q hqK;obtain⟨d1,d2⟩:=G.kids i hlt j hjl;obtain⟨pP,pla,plb',pnb,pza⟩:=P;have hswOk:aGU g T i q j↔(nodeAt g i).weights.getD q 0=(nodeAt g i).weights.getD j 0∧aAh g T ((nodeAt g i).next.getD q 0).toNat ((nodeAt g i).next.getD j 0).toNat∧fT g (sL g.nodes.length ((nodeAt g i).next.getD q 0).toNat ((nodeAt g i).next.getD j 0).toNat (cW T ((nodeAt g i).next.getD q 0).toNat)):=Iff.rfl;have hon:=fun h=>aFD (g:=g) (T:=T) (i:=i) hqj h;have hoff:=fun h=>aDh (g:=g) (T:=T) (i:=i) (k:=q) (j:=j) h;obtain⟨ck,hck⟩:∃ck:Nat,(nodeAt g i).next.getD q 0=(ck:Int):=⟨_,(En (by omega)).symm⟩;obtain⟨cj,hcj⟩:∃cj:Nat,(nodeAt g i).next.getD j 0=(cj:Int):=⟨_,(En (by omega)).symm⟩;obtain⟨ba,oa,iaa,laa,daa⟩:=bN.ptr hxaX hqK;rw[hck] at daa;simp only[hck,hcj,Bf] at pP pla plb' pnb pza hswOk hon;have sxw:=bN.self hxw;have sxa:=bN.self hxa;have nX:=hS.same.1;have lgX:gb<X.nx:=by omega
 have gX:=(hS.same.2 _ lg2).trans g2;have stay:∀ (F':Fr) (Y:St),¬aGU g T i q j→Same X Y→aD 1 F'= .ptr gb 0→aD 5 F'=pv→aD 6 F'= .int .i64 (i:Int)→aD 7 F'= .ptr V.nx 0→aD 8 F'= .int .i64 (q:Int)→aD 9 F'= .int .i64 ((j+1:Nat):Int)→∃k',k'<k3∧aMJ S2 gb V.nx g T cells i q k' ⟨F',false⟩ Y:=fun F' Y hne hs a1 a5 a6 a7 a8 a9=>
  ⟨k3 - 1,by omega,rfl,Ae lxX hs.1,by rw[←hcells];exact(hs.2 _ lxX).trans hX,j+1,pv,cs,by omega,by omega,by rw[hoff hne];exact hS.step hs (by rw[a1,hS.t1]) (by rw[a5,hS.t5]) (by rw[a6,hS.t6]),a7,a8,a9⟩
 have l3:=gG gX;refine aA (aJ (aA (cR (fun _=>False) ?_)));intro X1 x1;simp only[↓sU,sD,rE,↓reduceIte,rA,t7,t8,hS.t1,l3,lgX,Aq,sag,aH,aX,aG,cP hX,lxX,aE,iaa,laa,daa,sxa,dJ];refine bX rfl ?_;simp only[↓sU,sD,rE,↓reduceIte,rA];have sX1:=hS.same.trans x1;refine aP (aB1 (i:=ck) H h0 hT hTl hln g.nodes.length (by omega) (by omega) (aN.same (E:=bT) bI hn2 sX1) (aN.same (E:=cV) cE hi2 sX1)) ?_;rintro _ Y ⟨rfl,hY⟩;refine⟨hY,?_⟩;have sXY:=x1.trans hY;try simp only[↓sU,sD,rE,↓reduceIte,rA]
 have sSY:=hS.same.trans sXY;have hXY:=(sXY.2 _ lxX).trans hX;have lxY:=Ae lxX sXY.1;have gY:=(sXY.2 _ lgX).trans gX;have lgY:=Ae lgX sXY.1;have l3Y:=gG gY;have hxaY:=hxa.same sSY;obtain⟨bq,oq,iq,lq,dq⟩:=bN.ptr (hxw.same sSY) (show q<(nodeAt g i).weights.length by omega);obtain⟨bj,oj,ij,lj,dj⟩:=bN.ptr (hxw.same sSY) (show j<(nodeAt g i).weights.length by omega);obtain⟨bb,ob,ibb,lbb,dbb⟩:=bN.ptr hxaY hjl;rw[hcj] at dbb;refine aA (aA (cR (fun _=>False) ?_));intro X2 x2;by_cases hwt:(nodeAt g i).weights.getD q 0=(nodeAt g i).weights.getD j 0;rotate_left
 ·simp only[↓sU,sD,rE,↓reduceIte,rA,t7,t8,t9,Aq,aH,aX,aG,cU hXY,sxw,lxY,aE,iq,lq,dq,ij,lj,dj,dJ,Ab (show(nodeAt g i).weights.getD q 0≠(nodeAt g i).weights.getD j 0 from hwt)];refine aM (by simp only[↓sU,sD,rE,↓reduceIte,rA]) (aU ?_);simp only[↓sU,sD,rE,↓reduceIte,rA];refine aF ?_;simp only[↓sU,sD,rE,↓reduceIte,rA,t9,w2];exact stay _ _ (fun h=>hwt (hswOk.1 h).1) (sXY.trans x2) (by simp only[↓sU,sD,rE,↓reduceIte,rA,hS.t1]) (by simp only[↓sU,sD,rE,↓reduceIte,rA,hS.t5]) (by simp only[↓sU,sD,rE,↓reduceIte,rA,hS.t6]) (by simp only[↓sU,sD,rE,↓reduceIte,rA,t7]) (by simp only[↓sU,sD,rE,↓reduceIte,rA,t8]) (by simp only[↓sU,sD,rE,↓reduceIte,rA])
 simp only[↓sU,sD,rE,↓reduceIte,rA,t7,t8,t9,hS.t1,l3Y,lgY,sag,Aq,aH,aX,aG,cP hXY,cU hXY,sxw,sxa,lxY,aE,iq,lq,dq,ij,lj,dj,ibb,lbb,dbb,dJ,Aa (show ¬ (nodeAt g i).weights.getD q 0≠(nodeAt g i).weights.getD j 0 from fun h=>h hwt)];refine bX rfl ?_;simp only[↓sU,sD,rE,↓reduceIte,rA];have sY2:=sSY.trans x2;refine aP (aB1 (i:=cj) H h0 hT hTl hln g.nodes.length (by omega) (by omega) (aN.same (E:=bT) bI hn2 sY2) (aN.same (E:=cV) cE hi2 sY2)) ?_;rintro _ Z ⟨rfl,hZ⟩;refine⟨hZ,?_⟩;have sXZ:=(sXY.trans x2).trans hZ;try simp only[↓sU,sD,rE,↓reduceIte,rA]
 by_cases hsz:cW T ck=cW T cj;rotate_left
 ·refine aM (by simp only[↓sU,sD,rE,↓reduceIte,rA,Ab (show((cW T ck:Nat):Int)≠((cW T cj:Nat):Int) by omega)]) (aU ?_);simp only[↓sU,sD,rE,↓reduceIte,rA];refine aF ?_;simp only[↓sU,sD,rE,↓reduceIte,rA,t9,w2];exact stay _ _ (fun h=>hsz (hswOk.1 h).2.1.1) sXZ (by simp only[↓sU,sD,rE,↓reduceIte,rA,hS.t1]) (by simp only[↓sU,sD,rE,↓reduceIte,rA,hS.t5]) (by simp only[↓sU,sD,rE,↓reduceIte,rA,hS.t6]) (by simp only[↓sU,sD,rE,↓reduceIte,rA,t7]) (by simp only[↓sU,sD,rE,↓reduceIte,rA,t8]) (by simp only[↓sU,sD,rE,↓reduceIte,rA])
 refine aK (by simp only[↓sU,sD,rE,↓reduceIte,rA,Aa (show ¬ ((cW T ck:Nat):Int)≠((cW T cj:Nat):Int) by omega)]) (aI ?_);try simp only[↓sU,sD,rE,↓reduceIte,rA]
 have hbn:cj+cW T ck≤g.nodes.length:=by rw[hsz];exact pnb
 have gZ:=(sXZ.2 _ lgX).trans gX;have lgZ:=Ae lgX sXZ.1;have hXZ:=(sXZ.2 _ lxX).trans hX;have lxZ:=Ae lxX sXZ.1;refine bE ?_;simp only[↓sU,sD,rE,↓reduceIte,rA,hS.t1,aH,aG,eF gZ,lnv,Ag];refine aY ?_;simp only[↓sU,sD,rE,↓reduceIte,rA];refine aP (tG H (by omega)) ?_;rintro _ Z2 ⟨⟨rb,rfl,r1,r2,r3⟩,z2⟩;try simp only[↓sU,sD,rE,↓reduceIte,rA]
 have r1:Z.nx≤rb:=r1;have hlenI:(eM g.nodes.length).length=g.nodes.length:=by unfold eM;rw[Bc,Db]
 rw[hlenI];refine eG ?_;simp only[↓sU,sD,rE,↓reduceIte,rA];refine aS (aLy (S0:=Z) (hxa.same (hS.same.trans sXZ)) hqK hjl hck hcj pP hbn (by omega) hXZ lxZ r1 z2 r2 r3 rfl rfl rfl (by simp only[↓sU,sD,rE,↓reduceIte,rA,t7]) (by simp only[↓sU,sD,rE,↓reduceIte,rA,t8]) (by simp only[↓sU,sD,rE,↓reduceIte,rA,t9]) (by simp only[↓sU,sD,rE,↓reduceIte,rA]) (by simp only[↓sU,sD,rE,↓reduceIte,rA]) (by simp only[↓sU,sD,rE,↓reduceIte,rA];try rfl)) ?_;rintro o ⟨F2,inr⟩ Z3 ⟨rfl,q0,z3,r2',t,l,htk,hl,hf,r3',p1,p5,p6,p7,p8,p9,p10,p11,p12⟩;simp only at q0 p1 p5 p6 p7 p8 p9 p10 p11 p12;subst q0;obtain rfl:t=cW T ck:=by omega
 obtain rfl:l=sL g.nodes.length ck cj (cW T ck):=uM hl hf;try simp only[↓sU,sD,rE,↓reduceIte,rA,hS.t1,hS.t5,hS.t6] at p1 p5 p6
 try simp only[↓sU,sD,rE,↓reduceIte,rA]
 have M:=aEj (g:=g) pP hbn;have sXZ3:=sXZ.trans z3;have gZ3:=(sXZ3.2 _ lgX).trans gX;have hown:gF Z Z3 (.sl rb 0 g.nodes.length g.nodes.length false) (sL g.nodes.length ck cj (cW T ck)):=⟨rb,by rw[M.len],r1,r2',r3'⟩;have sSZ3:=hS.same.trans sXZ3;refine bE ?_;simp only[↓aC,aB,rE,↓reduceIte,rA,p1,p11,gG gZ3];refine aY ?_;simp only[↓aC,aB,rE,↓reduceIte,rA];refine aP (aAL (ok:=fT g (sL g.nodes.length ck cj (cW T ck))) H (aN.same (E:=bT) bI hn2 sSZ3) hown.is (by omega) (fun h1 h2 _ S' hS'=>aP (uE H (aN.same (E:=bT) bI hn2 (sSZ3.trans hS')) (aN.same (E:=cV) cE hi2 (sSZ3.trans hS')) (hown.is.same hS') G ⟨h1,h2⟩) fun r S'' h=>by
  obtain⟨e1,a,b,t,e2,e3,_⟩:=h;exact⟨e1,a,b,t,e2,e3⟩)) ?_
 rintro _ Y5 ⟨rfl,y5⟩;simp only[↓sU,sD,rE,↓reduceIte,rA];have sX5:=sXZ3.trans y5;by_cases hA:fT g (sL g.nodes.length ck cj (cW T ck));rotate_left
 ·have hm0:iL g.nodes.length (sL g.nodes.length ck cj (cW T ck)) (fT g (sL g.nodes.length ck cj (cW T ck)))≠0:=fun h=>hA (kF h).A;refine aK (by simp only[↓sU,sD,rE,↓reduceIte,rA,Aa hm0]) (aI ?_);try simp only[↓sU,sD,rE,↓reduceIte,rA]
  refine aF ?_;simp only[↓sU,sD,rE,↓reduceIte,rA,p9,w2];exact stay _ _ (fun h=>hA (hswOk.1 h).2.2) sX5 (by simp only[↓sU,sD,rE,↓reduceIte,rA,p1]) (by simp only[↓sU,sD,rE,↓reduceIte,rA,p5]) (by simp only[↓sU,sD,rE,↓reduceIte,rA,p6]) (by simp only[↓sU,sD,rE,↓reduceIte,rA,p7]) (by simp only[↓sU,sD,rE,↓reduceIte,rA,p8]) (by simp only[↓sU,sD,rE,↓reduceIte,rA])
 have hm0:iL g.nodes.length (sL g.nodes.length ck cj (cW T ck)) (fT g (sL g.nodes.length ck cj (cW T ck)))=0:=(aEB pP hbn hA).1.e;have hok:=hswOk.2 ⟨hwt,aGg h0 hT hTl pP hbn hsz hA,hA⟩;have hJ:=hon hok;refine aM (by simp only[↓sU,sD,rE,↓reduceIte,rA,Ab hm0]) ?_;have hrow:bN .i64 Y5 (.sl rb 0 g.nodes.length g.nodes.length false) (sL g.nodes.length ck cj (cW T ck)):=hown.is.same y5;have hbl:=fun(F:Fr) (id:Nat) (h:aD 126 F= .sl rb 0 g.nodes.length g.nodes.length false)=>oP (t:=31) (z:=.nilsl) (x:=.t 126) (F:=F) (id:=id) hrow h;refine aF ?_;simp only[↓aC,aB,rE,↓reduceIte,rA,p5,p11];refine fX (hbl _ _ (by simp only[↓aC,aB,rE,↓reduceIte,rA])) ?_;intro Y6 y6 n6 g6;try simp only[↓aC,aB,rE,↓reduceIte,rA]
 have hpb:∀ {c},cL pv=some c→S2.nx≤c:=fun hc=>(hS.gr.blk hc).1;have n5X:=sX5.1;have hg6:jZ 1 S2 Y6 pv (eQ g T i++(iF g T i q++gQ g T i q j)).length cs:=(hS.gr.step sX5).step y6;have hlen:(eQ g T i++(iF g T i q++gQ g T i q j)).length+1≤3000000000:=by
  have a1:=zH (T:=T) G (Nat.le_of_lt hlt);have a2:=pO (g:=g) (T:=T) (i:=i) (k:=q);have a3:=uT (g:=g) (T:=T) (i:=i) (k:=q) (j:=j);have a4:q * (nodeAt g i).next.length≤1000 * 1000:=Nat.mul_le_mul (by omega) hnx;rw[Ak,Ak];omega
 obtain⟨pv',V9,eA,gA,bA,nA,rA⟩:=jZ.push1 (bytes:=24) (x:=.sl rb 0 g.nodes.length g.nodes.length false) hg6 ((hS.same.trans sX5).trans y6) g6 (by unfold room;omega) (by unfold room;omega);refine fD (v:=pv') (S1:=V9) (fun call=>by simp only[↓aC,aB,rE,↓reduceIte,rA,mL];exact eA) ?_;simp only[↓sU,sD,rE,↓reduceIte,rA];refine aF ?_;simp only[↓sU,sD,rE,↓reduceIte,rA,p9,w2];have n6X:=y6.1;have hbA:∀ {c},cL pv'=some c→c=Y6.nx:=fun hc=>by rw[bA] at hc;exact(Bk hc).symm
 have nbp:cL pv≠some V.nx:=fun e=>aE0 hX (hS.gr.blk e).2.2 rfl;have kZ:∀c,c<X.nx→cL pv≠some c→V9.h.get c=X.h.get c:=fun c hc hne=>by
  rw[rA c (by omega) hne,y6.2 c (by omega)];exact sX5.2 c hc
 have nXZ:=sXZ.1;have n3X:=z3.1;have nX5:=y5.1;have hR:=hS.rw.push (Z:=V9) (pv':=pv') (r:=.sl rb 0 g.nodes.length g.nodes.length false) (l:=sL g.nodes.length ck cj (cW T ck)) nX (by omega) (fun c a _ d=>kZ c a d) (lT (hrow.same y6) (by omega) fun c hc=>by
  cases hc;exact rA _ (by omega) fun e=>by have:=(hS.gr.blk e).2.1;omega) (fun c hc=>by
  cases hc;exact⟨by omega,fun e=>by have:=hbA e;omega⟩) (fun c hc=>by have:=hbA hc;omega)
 refine⟨k3 - 1,by omega,rfl,by omega,by rw[←hcells];exact(kZ _ lxX nbp).trans hX,j+1,pv',cs++ [.sl rb 0 g.nodes.length g.nodes.length false],by omega,by omega,?_,by refine⟨?_,?_,?_⟩<;>simp only[↓sU,sD,rE,↓reduceIte,rA,p7,p8]⟩;have eL:eQ g T i++(iF g T i q++gQ g T i q (j+1))=(eQ g T i++(iF g T i q++gQ g T i q j))++ [sL g.nodes.length ck cj (cW T ck)]:=by
  rw[hJ,Cl,Cl]
 rw[eL];refine XwH.mk ⟨by omega,fun c hc=>(kZ c (by omega) (fun e=>by have:=hpb e;omega)).trans (hS.same.2 c hc)⟩ ?_ hR (by simp only[↓sU,sD,rE,↓reduceIte,rA,p1]) (by simp only[↓sU,sD,rE,↓reduceIte,rA]) (by simp only[↓sU,sD,rE,↓reduceIte,rA,p6]);rw[Ak,Bz];exact gA
end Go.Ev.Gl
namespace Go.Ev.Gl
open Go.Sort
variable {fns:T dE}
theorem aKn{g:aW}{T:List cC}(G:fC g)(hT:eK g=some T)(hl:T.length=g.nodes.length){i:Nat}(hi:i<g.nodes.length):∀k,k<(nodeAt g i).next.length→k≤((nodeAt g i).next.getD k 0).toNat
 | 0,_=>Cj _
 | k+1,hk=>by
  have hN:=G.n2;have ih:=aKn G hT hl hi k (by omega);obtain⟨c1,c2⟩:=G.kids i hi k (by omega);have h1:=aCv hT hl hi (p:=k) (q:=k+1) (by omega) hk (by omega);have h2:=(yG hT hl (by omega) (show((nodeAt g i).next.getD k 0).toNat<g.nodes.length by omega)).2.1;omega
theorem aLu{g:aW}{T:List cC}(G:fC g)(hT:eK g=some T)(hl:T.length=g.nodes.length){i:Nat}(hi:i<g.nodes.length):(nodeAt g i).next.length≤g.nodes.length:=by
 rcases Eb (nodeAt g i).next.length with e | e
 ·omega
 ·have h1:=aKn G hT hl hi ((nodeAt g i).next.length - 1) (by omega);obtain⟨c1,c2⟩:=G.kids i hi ((nodeAt g i).next.length - 1) (by omega);omega
theorem aEK{g:aW}{T:List cC}(G:fC g)(hT:eK g=some T)(hl:T.length=g.nodes.length)(h40:g.nodes.length≤40):∀ {i:Nat},i≤g.nodes.length→(eQ g T i).length≤i * 1600
 | 0,_=>Cj _
 | i+1,hi=>by
  have ih:=aEK G hT hl h40 (i:=i) (by omega);have h1:=pO (g:=g) (T:=T) (i:=i) (k:=(nodeAt g i).next.length);have h3:=aLu G hT hl (show i<g.nodes.length by omega);have h2:(nodeAt g i).next.length * (nodeAt g i).next.length≤40 * 40:=Nat.mul_le_mul (by omega) (by omega);have e:(if(nodeAt g i).kind=1 then iF g T i (nodeAt g i).next.length else []).length≤40 * 40:=by
   split
   ·exact Ay h1 h2
   ·exact Cj _
  show(eQ g T i++(if _ then _ else [])).length≤_;rw[Ak];clear h1 h2 hi;omega
def aLc(g:aW)(L:List (List Int)):Prop:=(cM g≠0∧L= [])∨(cM g=0∧∃T,eK g=some T∧T.length=g.nodes.length∧L=eQ g T g.nodes.length)
theorem aJQ{g:aW}{L L':List (List Int)}(h:aLc g L)(h':aLc g L'):L=L':=by
 rcases h with⟨h0,rfl⟩ | ⟨h0,T,hT,_,rfl⟩
 ·rcases h' with⟨_,rfl⟩ | ⟨h1,_⟩
  ·rfl
  ·exact absurd h1 h0
 ·rcases h' with⟨h1,_⟩ | ⟨_,T',hT',_,rfl⟩
  ·exact absurd h0 h1
  ·rw[hT] at hT';cases hT';rfl
theorem aLA{g:aW}{L:List (List Int)}(h:aLc g L)(h40:g.nodes.length≤40):L.length≤10000000∧∀x∈L,x.length≤10000000:=by
 rcases h with⟨_,rfl⟩ | ⟨h0,T,hT,hl,rfl⟩
 ·exact⟨Cj _,fun x hx=>by cases hx⟩
 ·have G:=kA h0;have h1:=aEK G hT hl h40 (Ah _);exact⟨by omega,fun x hx=>by rw[(aJJ G hT hl x hx).1.M.len];omega⟩
theorem aC5{S':St}{g:aW}{v:AV}(h1:cM g≠0→v= .nilsl)(h2:cM g=0→∃T,eK g=some T∧T.length=g.nodes.length∧aN 1 kJ S' v (eQ g T g.nodes.length)):∃L,aLc g L∧aN 1 kJ S' v L:=by
 by_cases h0:cM g=0
 ·obtain⟨T,a,b,c⟩:=h2 h0;exact⟨_,.inr ⟨h0,T,a,b,rfl⟩,c⟩
 ·rw[h1 h0];exact⟨[],.inl ⟨h0,rfl⟩,.inl ⟨rfl,.inl rfl⟩⟩
def aLf(g:aW)(L:List (List Int))(a b:List Int):Prop:=(fR g L≠0∧a= []∧b= [])∨(fR g L=0∧aLk g L a b)
theorem aJo{g:aW}{L:List (List Int)}{a b a' b':List Int}(h:aLf g L a b)(h':aLf g L a' b'):a=a'∧b=b':=by
 rcases h with⟨h0,rfl,rfl⟩ | ⟨h0,r1,r2⟩
 ·rcases h' with⟨_,rfl,rfl⟩ | ⟨h1,_⟩
  ·exact⟨rfl,rfl⟩
  ·exact absurd h1 h0
 ·rcases h' with⟨h1,_⟩ | ⟨_,q1,q2⟩
  ·exact absurd h0 h1
  ·obtain⟨hf,_,hie⟩:=mY h0;obtain⟨i1,i2⟩:=aF2 hf fun m hm=>kF (lO hie m hm);exact⟨aHl (fun x y ⟨hx,q,hq,e⟩=>⟨hx,by have:=(i1 q hq).2 x hx;omega⟩) r1 q1,aHl (fun x y ⟨hx,q,hq,e⟩=>⟨hx,by have:=(i2 q hq).2 x hx;omega⟩) r2 q2⟩
theorem aLt{g:aW}{L:List (List Int)}{a b:List Int}(h:aLf g L a b)(h40:g.nodes.length≤40):a.length≤10000000∧b.length≤10000000:=by
 rcases h with⟨_,rfl,rfl⟩ | ⟨h0,r1,r2⟩
 ·exact⟨Cj _,Cj _⟩
 ·have:=(kA (mY h0).1).ni;rw[r1.len,r2.len];omega
theorem aC8{S S':St}{g:aW}{L:List (List Int)}{x y:AV}(h1:fR g L≠0→x= .nilsl∧y= .nilsl)(h2:fR g L=0→∃a b,gF S S' x a∧gF S S' y b∧aLk g L a b):∃a b,aLf g L a b∧bN .i64 S' x a∧bN .i64 S' y b:=by
 by_cases h0:fR g L=0
 ·obtain⟨a,b,p,q,r⟩:=h2 h0;exact⟨a,b,.inr ⟨h0,r⟩,p.is,q.is⟩
 ·obtain⟨e1,e2⟩:=h1 h0;rw[e1,e2];exact⟨[],[],.inl ⟨h0,rfl,rfl⟩,.inl ⟨rfl,.inl rfl⟩,.inl ⟨rfl,.inl rfl⟩⟩
def aLX(g:aW)(L W:List (List Int))(e:Int):Prop:=(fR g L≠0∧W= []∧e=fR g L)∨(fR g L=0∧zJ (eM g.nodes.length) L 1000 none∧W= []∧e=5)∨(fR g L=0∧∃W0,zJ (eM g.nodes.length) L 1000 (some W0)∧W.Perm W0∧W.Pairwise jF∧e=0)
theorem aJU{g:aW}{L W W':List (List Int)}{e e':Int}(h:aLX g L W e)(h':aLX g L W' e'):W=W'∧e=e':=by
 rcases h with⟨h0,rfl,rfl⟩ | ⟨h0,h1,rfl,rfl⟩ | ⟨h0,W0,h1,h2,h3,rfl⟩
 ·rcases h' with⟨_,rfl,rfl⟩ | ⟨k0,_⟩ | ⟨k0,_⟩
  ·exact⟨rfl,rfl⟩
  ·exact absurd k0 h0
  ·exact absurd k0 h0
 ·rcases h' with⟨k0,_⟩ | ⟨_,_,rfl,rfl⟩ | ⟨k0,W1,k1,_⟩
  ·exact absurd h0 k0
  ·exact⟨rfl,rfl⟩
  ·have:=aCm h1 k1;cases this
 ·rcases h' with⟨k0,_⟩ | ⟨_,k1,_⟩ | ⟨k0,W1,k1,k2,k3,rfl⟩
  ·exact absurd h0 k0
  ·have:=aCm h1 k1;cases this
  ·have:=aCm h1 k1;cases this;exact⟨aBc (h2.trans k2.symm) h3 k3,rfl⟩
theorem aLa{g:aW}{L W:List (List Int)}{e:Int}(h:aLX g L W e)(h40:g.nodes.length≤40):W.length≤10000000∧∀x∈W,x.length≤10000000:=by
 rcases h with⟨_,rfl,_⟩ | ⟨_,_,rfl,_⟩ | ⟨h0,W0,h1,h2,_,_⟩
 ·exact⟨Cj _,fun x hx=>by cases hx⟩
 ·exact⟨Cj _,fun x hx=>by cases hx⟩
 ·obtain⟨_,_,hie⟩:=mY h0;rcases h1 with⟨t,ht,_,_,hb⟩ | ⟨ht,_⟩
  ·cases ht;refine⟨by rw[h2.length_eq];have:=hb t (Ah _);omega,fun x hx=>?_⟩;rw[(vU (fun m hm=>kF (lO hie m hm)) (h2.mem_iff.1 hx)).1];omega
  ·cases ht
theorem aCT{S':St}{r:AV}{g:aW}{L:List (List Int)}(h:aM1 S' r g L):∃v W e,r= .tup [v,.int .i64 e]∧aN 1 kJ S' v W∧aLX g L W e:=by
 rcases h with⟨h0,rfl⟩ | ⟨h0,h1,rfl⟩ | ⟨h0,W,W',v,h1,h2,h3,h4,rfl⟩
 ·exact⟨_,[],_,rfl,.inl ⟨rfl,.inl rfl⟩,.inl ⟨h0,rfl,rfl⟩⟩
 ·exact⟨_,[],_,rfl,.inl ⟨rfl,.inl rfl⟩,.inr (.inl ⟨h0,h1,rfl,rfl⟩)⟩
 ·exact⟨_,W',_,rfl,h4,.inr (.inr ⟨h0,W,h1,h2,h3,rfl⟩)⟩
theorem aFb{S:St}{nv iv mv:AV}{g:aW}{L:List (List Int)}(H:Has fns)(hAw:∀S,fA fns (.fn 5 [] []) [] S fun r S'=>r= .bool true∧Same S S')(hn:aN 6 bT S nv g.nodes)(hi:aN 2 cV S iv g.infos)(hm:aN 1 kJ S mv L):
  fA fns (.fn 3 [] []) [.agg [.int .i64 g.players,nv,iv],mv] S fun r S'=>r= .bool true∧Same S S':=by
 refine bP H.f3 (by simp) ?_;simp only[↓aC,aB,rE,↓reduceIte,rA];refine bE ?_;refine dG (by simp only[↓aC,aB,rE,↓reduceIte,rA];exact bJ _) ?_;intro S1 s1 n1 g1;simp only[↓aC,aB,rE,↓reduceIte,rA];refine eG ?_;simp only[↓sU,sD,rE,↓reduceIte,rA];refine aY ?_;simp only[↓sU,sD,rE,↓reduceIte,rA];refine aP (hAw S1) ?_;rintro _ S2 ⟨rfl,s2⟩;simp only[↓sU,sD,rE,↓reduceIte,rA,dH,Bl];refine aK (by simp only[↓sU,sD,rE,↓reduceIte,rA]) (aI ?_);try simp only[↓sU,sD,rE,↓reduceIte,rA]
 have s02:=s1.trans s2;have c2:=(s2.2 _ (show S.nx<S1.nx by omega)).trans g1;have hnl:=hn.len;have hml:=hm.len;have l2:S.nx<S2.nx:=by have:=s2.1;omega
 refine aA (aA (aS (Q:=fun o A' X=>o= .normal∧A'.inr=false∧X=S2∧aD 1 A'.F=mv∧aD 2 A'.F= .ptr S.nx 0∧aD 29 A'.F= .bool (decide (40<g.nodes.length∨17<L.length))) (aF ?_) ?_))
 ·by_cases h1:40<g.nodes.length
  ·simp only[↓sU,sD,rE,↓reduceIte,rA,aH,aG,eF c2,hnl,Ab (show((g.nodes.length:Nat):Int)>40 by omega),Ab (show 40<g.nodes.length∨17<L.length from .inl h1)]
  ·by_cases h2:17<L.length
   ·simp only[↓sU,sD,rE,↓reduceIte,rA,aH,aG,eF c2,hnl,hml,Ag,Aa (show ¬ ((g.nodes.length:Nat):Int)>40 by omega),Ab (show((L.length:Nat):Int)>17 by omega),Ab (show 40<g.nodes.length∨17<L.length from .inr h2)]
   ·simp only[↓sU,sD,rE,↓reduceIte,rA,aH,aG,eF c2,hnl,hml,Ag,Aa (show ¬ ((g.nodes.length:Nat):Int)>40 by omega),Aa (show ¬ ((L.length:Nat):Int)>17 by omega),Aa (show ¬ (40<g.nodes.length∨17<L.length) by omega)]
 rintro o ⟨F,inr⟩ X ⟨rfl,q0,rfl,p1,p2,p29⟩;simp only at q0 p1 p2 p29;subst q0;try simp only[↓sU,sD,rE,↓reduceIte,rA]
 by_cases hb:40<g.nodes.length∨17<L.length
 ·refine aM (by simp only[↓sU,sD,rE,↓reduceIte,rA,p29,Ab hb]) ?_;refine bE ?_;simp only[↓sU,sD,rE,↓reduceIte,rA];refine aO ?_;simp only[↓sU,sD,rE,↓reduceIte,rA];exact s02
 refine aK (by simp only[↓sU,sD,rE,↓reduceIte,rA,p29,Aa hb]) (aI ?_);try simp only[↓sU,sD,rE,↓reduceIte,rA]
 have h40:g.nodes.length≤40:=by omega
 refine bE ?_;simp only[↓aC,aB,rE,↓reduceIte,rA,p1,p2,gG c2];refine aY ?_;simp only[↓aC,aB,rE,↓reduceIte,rA];refine aP (aF3 H (aN.same (E:=bT) bI hn s02) (aN.same (E:=cV) cE hi s02) (by omega)) ?_;rintro _ S3 ⟨s3,v1,rfl,a1,a2⟩;obtain⟨L1,V1,i1⟩:=aC5 a1 fun h=>by obtain⟨T,x,y,z,_⟩:=a2 h;exact⟨T,x,y,z⟩
 simp only[↓sU,sD,rE,↓reduceIte,rA,ex0,ex1];have c3:=(s3.2 _ l2).trans c2;have l3:=Ae l2 s3.1;have s03:=s02.trans s3;clear a1 a2 c2 l2;refine bE ?_;simp only[↓aC,aB,rE,↓reduceIte,rA,p1,p2,gG c3];refine aY ?_;simp only[↓aC,aB,rE,↓reduceIte,rA];refine aP (aEN H (aN.same (E:=bT) bI hn s03) (aN.same (E:=cV) cE hi s03) (by omega)) ?_;rintro _ S4 ⟨s4,v2,rfl,a1,a2⟩;obtain⟨L2,V2,i2⟩:=aC5 a1 a2;obtain rfl:=aJQ V1 V2;simp only[↓sU,sD,rE,↓reduceIte,rA,ex0,ex1];have c4:=(s4.2 _ l3).trans c3;have l4:=Ae l3 s4.1;have s04:=s03.trans s4;clear a1 a2 c3 l3;refine bE ?_;simp only[↓aC,aB,rE,↓reduceIte,rA,p1,p2,gG c4];refine aY ?_;simp only[↓aC,aB,rE,↓reduceIte,rA];refine aP (aDH H (aN.same (E:=bT) bI hn s04) (aN.same (E:=cV) cE hi s04) (by omega) (aN.same (E:=kJ) firm_sl hm s04)) ?_;rintro _ S5 ⟨s5,x1,y1,rfl,a1,a2⟩;obtain⟨A1,B1,O1,ia1,ib1⟩:=aC8 a1 a2;have ex2:∀ {a b c:AV},gL (.tup [a,b,c]) 2=some c:=rfl;simp only[↓sU,sD,rE,↓reduceIte,rA,ex0,ex1,ex2];have c5:=(s5.2 _ l4).trans c4;have l5:=Ae l4 s5.1;have s05:=s04.trans s5;clear a1 a2 c4 l4;refine bE ?_;simp only[↓aC,aB,rE,↓reduceIte,rA,p1,p2,gG c5];refine aY ?_;simp only[↓aC,aB,rE,↓reduceIte,rA];refine aP (aD7 H (aN.same (E:=bT) bI hn s05) (aN.same (E:=cV) cE hi s05) (by omega) (aN.same (E:=kJ) firm_sl hm s05)) ?_;rintro _ S6 ⟨s6,x2,y2,rfl,a1,a2⟩;obtain⟨A2,B2,O2,ia2,ib2⟩:=aC8 a1 a2;obtain⟨rfl,rfl⟩:=aJo O1 O2;simp only[↓sU,sD,rE,↓reduceIte,rA,ex0,ex1,ex2];have c6:=(s6.2 _ l5).trans c5;have l6:=Ae l5 s6.1;have s06:=s05.trans s6;clear a1 a2 c5 l5;obtain⟨b1,b2⟩:=aLA V1 h40;obtain⟨b3,b4⟩:=aLt O1 h40;refine eG ?_;simp only[↓aC,aB,rE,↓reduceIte,rA];refine aY ?_;simp only[↓aC,aB,rE,↓reduceIte,rA];refine aP (aAJ H (aN.same (E:=kJ) firm_sl i1 (s4.trans (s5.trans s6))) (aN.same (E:=kJ) firm_sl i2 (s5.trans s6)) b1 b2) ?_;rintro _ S7 ⟨rfl,s7⟩;simp only[↓aC,aB,rE,↓reduceIte,rA,dH,Fg,Bl,Aa (show ¬cM g≠cM g from fun h=>h rfl)];refine aY ?_;simp only[↓aC,aB,rE,↓reduceIte,rA];refine aP (mD H (ia1.same (s6.trans s7)) (ia2.same s7) b3) ?_;rintro _ S8 ⟨rfl,s8⟩;simp only[↓aC,aB,rE,↓reduceIte,rA,dH,Fg,Bl];refine aY ?_;simp only[↓aC,aB,rE,↓reduceIte,rA];refine aP (mD H (ib1.same (s6.trans (s7.trans s8))) (ib2.same (s7.trans s8)) b4) ?_;rintro _ S9 ⟨rfl,s9⟩;simp only[↓sU,sD,rE,↓reduceIte,rA,dH,Fg,Bl,Aa (show ¬fR g L≠fR g L from fun h=>h rfl)];refine aK (by simp only[↓sU,sD,rE,↓reduceIte,rA]) (aI ?_);try simp only[↓sU,sD,rE,↓reduceIte,rA]
 have s69:=s7.trans (s8.trans s9);have c9:=(s69.2 _ l6).trans c6;have l9:=Ae l6 s69.1;have s09:=s06.trans s69;clear c6 l6;refine bE ?_;simp only[↓aC,aB,rE,↓reduceIte,rA,p1,p2,gG c9];refine aY ?_;simp only[↓aC,aB,rE,↓reduceIte,rA];refine aP (aFX H (aN.same (E:=bT) bI hn s09) (aN.same (E:=cV) cE hi s09) (by omega) (aN.same (E:=kJ) firm_sl hm s09)) ?_;rintro _ Y ⟨sY,hG⟩;obtain⟨w1,W1,e1,rfl,j1,G1⟩:=aCT hG;simp only[↓sU,sD,rE,↓reduceIte,rA,ex0,ex1];have cY:=(sY.2 _ l9).trans c9;have lY:=Ae l9 sY.1;have s0Y:=s09.trans sY;have hwl:=j1.len;refine eG ?_;simp only[↓sU,sD,rE,↓reduceIte,rA,hwl,Ag];by_cases h60:60<W1.length
 ·refine aM (by simp only[↓sU,sD,rE,↓reduceIte,rA,Ab (show((W1.length:Nat):Int)>60 by omega)]) ?_;refine bE ?_;simp only[↓sU,sD,rE,↓reduceIte,rA];refine aO ?_;simp only[↓sU,sD,rE,↓reduceIte,rA];exact s0Y
 refine aK (by simp only[↓sU,sD,rE,↓reduceIte,rA,Aa (show ¬ ((W1.length:Nat):Int)>60 by omega)]) (aI ?_);try simp only[↓sU,sD,rE,↓reduceIte,rA]
 refine bE ?_;simp only[↓aC,aB,rE,↓reduceIte,rA,p1,p2,gG cY];refine aY ?_;simp only[↓aC,aB,rE,↓reduceIte,rA];refine aP (aE8 H (aN.same (E:=bT) bI hn s0Y) (aN.same (E:=cV) cE hi s0Y) (by omega) (aN.same (E:=kJ) firm_sl hm s0Y)) ?_;rintro _ Z ⟨sZ,hG2⟩;obtain⟨w2,W2,e2,rfl,j2,G2⟩:=aCT hG2;obtain⟨rfl,rfl⟩:=aJU G1 G2;obtain⟨d1,d2⟩:=aLa G1 h40;simp only[↓sU,sD,rE,↓reduceIte,rA,ex0,ex1];refine bE ?_;simp only[↓aC,aB,rE,↓reduceIte,rA];refine aY ?_;simp only[↓aC,aB,rE,↓reduceIte,rA];refine aP (aAJ H j2 (aN.same (E:=kJ) firm_sl j1 sZ) d1 d2) ?_;rintro _ Z2 ⟨rfl,z2⟩;simp only[↓sU,sD,rE,↓reduceIte,rA,Fg];refine aO ?_;simp only[↓sU,sD,rE,↓reduceIte,rA];exact s0Y.trans (sZ.trans z2)
end Go.Ev.Gl
namespace Go.Ev.Gl
section
variable {P:Program}{σ:Env}{S:St}{w:World}
theorem aI1{t:TypeId}{H:Type}{enc:TypeId×Value→H}{base:Nat}{spare:Nat→Bool}{held:Bool}{fuel:Nat}{v:Value}{x:DataW H×List MemPlace}(hR:iI P σ S w)(hn:uG S)(hf:tW S)(hG:P.globals.size≤S.nx)(hL:Lays P t (qC 1 (nS .i64)))(h:DataW.trod enc P w base spare held fuel t v.cells.toList=some x)(hv:v.cells.toList= [v])(hW:∀n∈DataW.weights P t x.1,n≤140737488355328):
  ∃σ' S' a,∃L:List (List Int),mC P σ S w σ' S'∧Rv P σ' a v∧aN 1 kJ S' a L∧S.nx≤S'.nx:=by
 obtain⟨σ',S',avs,l,hA,hr,h1,hE,hnx⟩:=hL H enc σ S w base spare held fuel _ x hR hn hf hG h hW;obtain⟨a,rfl,i1⟩:=qC.is hE;rw[hv] at hr;obtain⟨_,_,h2,h3,h4⟩:=cF.1 hr;cases h2;exact⟨σ',S',a,l.map id,hA,h3,aN.conv (fun e x h=>aA1 h) i1,hnx⟩
theorem aGd{tl ts e:TypeId}(hl:P.underlying tl=some (.slice ts))(hs:P.underlying ts=some (.slice e))(he:P.underlying e=some (.int .i64))(ce:P.cellsOf e=1)(cs:P.cellsOf ts=1)(be:8≤P.bytesOf e)(bs:8≤P.bytesOf ts):Lays P tl (qC 1 (nS .i64)):=
 qZ hl cs (by decide) (by omega) (aC6 hs he ce be) lQ
end
end Go.Ev.Gl
