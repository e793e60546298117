import Derived.Test.YtoojnpjgnnpllaaGl31
open Nat renaming reduceEqDiff -> rE, reduceAdd -> rA
set_option maxHeartbeats 0
set_option linter.unusedSimpArgs false
set_option linter.unusedVariables false
namespace Go.Ev.Gl
variable {fns:T dY}
def RwB(n:Nat)(S0 X:St)(ov:AV)(ac bs:Nat->Nat):Prop:=sJ 1 (fun(e:bf) (j:Nat)=>e= [.sl (bs j) 0 (ac j) (ac j) false]) S0 X ov (List.range n)/\(∀j,j<n->S0.nx<=bs j/\bs j<X.nx/\aZ ov≠some (bs j))/\∀j k,j<n->k<n->j≠k->bs j≠bs k
structure Mz(S0 X:St)(ov:AV)(n:Nat)(ac bs:Nat->Nat)(O:Nat->Nat->dD):Prop where
 rb:RwB n S0 X ov ac bs
 ce:∀j,j<n->∃cs:bf,X.h.get (bs j)=some (.cells cs false 0)/\cs.length=ac j * 3/\∀b,b<ac j->∃e:bf,(∀ (t:Nat) (x:AV),e[t]? =some x->cs[b * 3+t]? =some x)/\oD X (fun c=>∀k,k<n->c≠bs k) e (O j b)
noncomputable def aET(m:Nat):bf:=repeatL [AV.bool false,.bw,.bw] m
theorem aMw:∀ {m b t:Nat} {x:AV},b<m-> [AV.bool false,.bw,.bw][t]? =some x->(aET m)[b * 3+t]? =some x
 | m+1,0,t,x,_,h=>by
  show([AV.bool false,.bw,.bw]++aET m)[0 * 3+t]? =some x;rw[Ep,An,Bg (Ai.1 h).1];exact h
 | m+1,b+1,t,x,hb,h=>by
  show([AV.bool false,.bw,.bw]++aET m)[(b+1) * 3+t]? =some x;rw[Be (by simp;omega),show(b+1) * 3+t - [AV.bool false,.bw,.bw].length=b * 3+t by simp;omega];exact aMw ar h
theorem aDB:∀ {m:Nat},(aET m).length=m * 3
 | 0=>rfl
 | m+1=>by
  show([AV.bool false,.bw,.bw]++aET m).length=_;rw[Ao,aDB];simp;omega
section
variable {S0 X X':St}{ov:AV}{n:Nat}{ac bs:Nat->Nat}{O:Nat->Nat->dD}
theorem RwB.same(h:RwB n S0 X ov ac bs)(hn:X.nx<=X'.nx)(hs:∀c,aZ ov=some c->X'.h.get c=X.h.get c):RwB n S0 X' ov ac bs:=
 ⟨h.1.move hn hs fun _ _ h=>h,fun j hj=>⟨(h.2.1 j hj).1,Ae (h.2.1 j hj).2.1 hn,(h.2.1 j hj).2.2⟩,h.2.2⟩
theorem Mz.same(h:Mz S0 X ov n ac bs O)(hs:Same X X'):Mz S0 X' ov n ac bs O:=
 ⟨h.rb.same hs.1 fun c hc=>hs.2 c (h.rb.1.blk hc).2,fun j hj=>by
  have⟨cs,h1,h2,h3⟩:=h.ce j hj;refine⟨cs,(hs.2 _ (h.rb.2.1 j hj).2.1).trans h1,h2,fun b hb=>?_⟩;have⟨e,e1,e2⟩:=h3 b hb;exact⟨e,e1,e2.move hs.1 fun c hc hp=>⟨hs.2 c hc,hp⟩⟩⟩
theorem aNp(h:RwB n S0 X ov ac bs)(hz:∀j,j<n->X.h.get (bs j)=some (.cells (aET (ac j)) false 0)):Mz S0 X ov n ac bs fun _ _=>aRO:=
 ⟨h,fun j hj=>⟨_,hz j hj,aDB,fun b hb=>⟨[.bool false,.bw,.bw],fun t x hx=>aMw hb hx,.bw,.bw,rfl,.inl ⟨rfl,.inl rfl⟩,.inl ⟨rfl,.inl rfl⟩,fun c hc=>by rcases hc with hc | hc<;>cases hc⟩⟩⟩
theorem aOi{nb t:Nat}(h:RwB n S0 X ov ac bs)(hz:∀j,j<n->X.h.get (bs j)=some (.cells (aET (ac j)) false 0))(hS:S0.nx<=nb)(hb:nb<X.nx)(hg:X.h.get nb=some (.cells (aET (ac n)) false 0))(hn:∀j,j<n->bs j≠nb)(ho:aZ ov≠some nb)(ht:X.h.get t=some (.cells [.sl nb 0 (ac n) (ac n) false] false 0))(hl:n<=100000):
  ∃v' X' bs',gP 24 1 ov (.sl t 0 1 1 false) X=some (v',X')/\X.nx<=X'.nx/\(∀c,c<X.nx->aZ ov≠some c->X'.h.get c=X.h.get c)/\RwB (n+1) S0 X' v' ac bs'/\∀j,j<n+1->X'.h.get (bs' j)=some (.cells (aET (ac j)) false 0):=by
 have h0:sJ 1 (fun(e:bf) (j:Nat)=>e= [.sl (if j=n then nb else bs j) 0 (ac j) (ac j) false]) S0 X ov (List.range n):=by
  rcases h.1 with h | ⟨b,c,cs,h1,h2,h3,h4,h5,h6,h7,h8⟩
  ·exact .inl h
  ·refine .inr ⟨b,c,cs,h1,h2,h3,h4,h5,h6,h7,fun i a hi=>?_⟩;have⟨e,e1,e2,e3⟩:=h8 i a hi;have hi2:i<n:=by have:=(Ai.1 hi).1;rwa [Ay] at this
   rw[Bf hi2] at hi;cases hi;refine⟨e,e1,e2,?_⟩;show e= [.sl (if i=n then nb else bs i) 0 (ac i) (ac i) false];rw[e3,if_neg ar]
 have⟨v',X',eA,aV,nV,kV,bV⟩:=sJ.push (bytes:=24) (a:=n) (e:=[.sl nb 0 (ac n) (ac n) false]) h0 ay ar rfl (aLI ht) rfl (by rw[if_pos rfl]) (by rw[Ay];unfold room;omega) (by rw[Ay];unfold room;omega);refine⟨v',X',fun j=>if j=n then nb else bs j,eA,nV,kV,⟨by rw[List.range_succ];exact aV,fun j hj=>?_,fun j k hj hk hjk=>?_⟩,fun j hj=>?_⟩
 ·have nw:∀ {c},c<X.nx->aZ ov≠some c->aZ v'≠some c:=fun hc ho h=>by
   rcases bV _ h with h | h
   ·exact ho h
   ·omega
  by_cases e:j=n
  ·simp only[if_pos e];exact⟨hS,ar,nw hb ho⟩
  ·simp only[if_neg e];have⟨a,b,c⟩:=h.2.1 j ar;exact⟨a,ar,nw b c⟩
 ·simp only;by_cases e:j=n
  ·rw[if_pos e,if_neg ar];exact Bt (hn k ar)
  ·rw[if_neg e];by_cases e2:k=n
   ·rw[if_pos e2];exact hn j ar
   ·rw[if_neg e2];exact h.2.2 j k ar ar  hjk
 ·simp only;by_cases e:j=n
  ·subst e;rw[if_pos rfl];exact(kV _ hb ho).trans hg
  ·rw[if_neg e];have⟨a,b,c⟩:=h.2.1 j ar;exact(kV _ b c).trans (hz j ar)
theorem Mz.put{j b N:Nat}{e:bf}{x:dD}(h:Mz S0 X ov n ac bs O)(hj:j<n)(hb:b<ac j)(hE:oD X (fun c=>N<=c) e x)(hN:∀k,k<n->bs k<N):∃X',sO (.ptr (bs j) (0+b * 3)) 3 e X=some (.undef,X')/\X'.nx=X.nx/\(∀c,c≠bs j->X'.h.get c=X.h.get c)/\Mz S0 X' ov n ac bs fun q y=>if q=j/\y=b then x else O q y:=by
 have⟨cs,h1,h2,h3⟩:=h.ce j hj;have hel:=hE.len;have hp:0+b * 3+e.length<=cs.length:=by
  rw[hel,h2];have:=Dm 3 (show b+1<=ac j from hb);omega
 refine⟨_,aLS h1 hp hel,rfl,fun c hc=>by simp only;rw[di,if_neg hc],?_⟩;have kP:∀ {e':bf} {y:dD},oD X (fun c=>∀k,k<n->c≠bs k) e' y->oD ⟨X.h.set (bs j) (some (.cells (cs.take (0+b * 3)++e++cs.drop (0+b * 3+e.length)) false 0)),X.nx⟩ (fun c=>∀k,k<n->c≠bs k) e' y:=fun hh=>hh.move (Ag _) fun c _ hp=>⟨by simp only;rw[di,if_neg (hp j hj)],hp⟩;refine⟨h.rb.same (Ag _) fun c hc=>?_,fun q hq=>?_⟩
 ·simp only;rw[di,if_neg fun e=>(h.rb.2.1 j hj).2.2 (by rw[hc,e])]
 ·by_cases e0:q=j
  ·subst e0;refine⟨_,fk,by simp;omega,fun y hy=>?_⟩;by_cases e1:y=b
   ·subst e1;refine⟨e,fun t z ht=>?_,?_⟩
    ·have:=(Ai.1 ht).1;rw[uJ hp,if_neg ar,if_pos ar];rw[show y * 3+t - (0+y * 3)=t by omega];exact ht
    ·rw[if_pos ⟨rfl,rfl⟩];exact kP (hE.move (Ag _) fun c _ hp=>⟨rfl,fun k hk=>by have:=hN k hk;omega⟩)
   ·have⟨e',k1,k2⟩:=h3 y hy;refine⟨e',fun t z ht=>?_,?_⟩
    ·have h3:=k2.len;have:=(Ai.1 ht).1;rw[uJ hp];rcases Nat.lt_or_gt_of_ne e1 with h4 | h4
     ·rw[if_pos ar];exact k1 t z ht
     ·rw[if_neg ar,if_neg ar];exact k1 t z ht
    ·rw[if_neg fun h=>e1 h.2];exact kP k2
  ·have⟨cs',k1,k2,k3⟩:=h.ce q hq;refine⟨cs',by simp only;rw[di,if_neg (h.rb.2.2 q j hq hj e0)];exact k1,k2,fun y hy=>?_⟩;have⟨e',l1,l2⟩:=k3 y hy;exact⟨e',l1,by rw[if_neg fun h=>e0 h.1];exact kP l2⟩
theorem Mz.row{j:Nat}(h:Mz S0 X ov n ac bs O)(hj:j<n):aE 3 uY X (.sl (bs j) 0 (ac j) (ac j) false) ((List.range (ac j)).map (O j)):=by
 have⟨cs',k1,k2,k3⟩:=h.ce j hj;refine .inr ⟨bs j,0,ac j,false,cs',by simp,by simp,(h.rb.2.1 j hj).2.1,by unfold cK;rw[k1];rfl,fun i x hi=>?_⟩;rw[Am,Aw] at hi;obtain⟨i',hi',rfl⟩:=hi;have hlt:i<ac j:=by have:=(Ai.1 hi').1;rwa [Ay] at this
 rw[Bf hlt] at hi';cases hi';have⟨e',m1,m2⟩:=k3 i hlt;exact⟨e',m2.len,fun t x ht=>by rw[An];exact m1 t x ht,m2.raw⟩
theorem Mz.at_{j:Nat}(h:Mz S0 X ov n ac bs O)(hj:j<n):∃c m cs,ov= .sl c 0 n m true/\n<=m/\c<X.nx/\S0.nx<=c/\X.h.get c=some (.cells cs true 1)/\∀i,i<n->cs[i]? =some (.sl (bs i) 0 (ac i) (ac i) false):=by
 rcases h.rb.1 with⟨_,h0⟩ | ⟨c,m,cs,rfl,h2,h3,h4,h5,h6,h7,h8⟩
 ·have:=Fg List.length h0;rw[Ay] at this;simp at this;omega
 ·rw[Ay] at h2;refine⟨c,m,cs,by rw[Ay],h2,h5,h4,h6,fun i hi=>?_⟩;have⟨e0,e1,e2,e3⟩:=h8 i i (Bf hi);have e3:e0= [.sl (bs i) 0 (ac i) (ac i) false]:=e3;subst e3;have c0:=e2 0 _ rfl;rw[Cr,Br] at c0;exact c0
theorem Mz.is(h:Mz S0 X ov n ac bs O):aE 1 fK X ov ((List.range n).map fun j=>(List.range (ac j)).map (O j)):=by
 rcases Dh n with h0 | h0
 ·rcases h.rb.1 with⟨h1,_⟩ | ⟨c,m,cs,_,h2,h3,h4,h5,h6,h7,h8⟩
  ·subst h0;exact .inl ⟨rfl,.inl h1⟩
  ·subst h0;rename_i hov;exact .inr ⟨c,0,m,true,cs,hov,Du _,h5,by unfold cK;rw[h6];rfl,fun i a hi=>by simp at hi⟩
 ·obtain⟨c,m,cs,rfl,h2,h3,_,h4,h5⟩:=h.at_ h0;refine .inr ⟨c,0,m,true,cs,by simp,by simp;exact h2,h3,by unfold cK;rw[h4];rfl,fun i r hi=>?_⟩;rw[Am,Aw] at hi;obtain⟨i',hi',rfl⟩:=hi;have hlt:i<n:=by have:=(Ai.1 hi').1;rwa [Ay] at this
  rw[Bf hlt] at hi';cases hi';refine⟨[.sl (bs i) 0 (ac i) (ac i) false],rfl,fun t x ht=>?_,_,rfl,h.row hlt⟩;cases t with
  | zero=>
   cases ht;rw[An,Cr,Br];exact h5 i hlt
  | succ t=>simp at ht
theorem Mz.ld{j b:Nat}(h:Mz S0 X ov n ac bs O)(hj:j<n)(hb:b<ac j):∃c q e,dO (.slice 1) ov j=some (.ptr c q)/\S0.nx<=c/\c<X.nx/\aZ ov=some c/\dT (.ptr c q) false 1 X.h=some (.sl (bs j) 0 (ac j) (ac j) false)/\dO (.slice 3) (.sl (bs j) 0 (ac j) (ac j) false) b=some (.ptr (bs j) (0+b * 3))/\bs j<X.nx/\dT (.ptr (bs j) (0+b * 3)) true 3 X.h=some (.agg e)/\cE (.agg e) (.agg e)=true/\uY X e (O j b):=by
 obtain⟨c,m,cs,rfl,h2,h3,hS,h4,h5⟩:=h.at_ hj;have hi1:dO (.slice 1) (.sl c 0 n m true) j=some (.ptr c (0+j * 1)):=by
  show bQ (Nat.blt j n) _ _=_;rw[show Nat.blt j n=true from Av hj,aR]
 have hi2:dO (.slice 3) (.sl (bs j) 0 (ac j) (ac j) false) b=some (.ptr (bs j) (0+b * 3)):=by
  show bQ (Nat.blt b (ac j)) _ _=_;rw[show Nat.blt b (ac j)=true from Av hb,aR]
 have⟨b',q',e,k1,k2,k3,k4⟩:=aMA (h.row hj) (a:=b) (x:=O j b) (by rw[Am,Bf hb];rfl);rw[hi2] at k1;cases k1;exact⟨c,0+j * 1,e,hi1,hS,h3,rfl,dI h4 (by rw[An,Cr];exact h5 j hj),hi2,k2,k3,aH9 k4,k4⟩
end
section
variable {g:aS}{L:a9}{first:ba}{act:a9}{da:bg}{s:List (List dD)}{O:Nat->Nat->dD}
def atP(first:ba)(act:a9)(da:bg)(O:Nat->Nat->dD)(i b:Nat):dD:=O (da.idxOf (jT first i)) (qL act i b)
def WrP(g:aS)(first:ba)(act:a9)(da:bg)(s:List (List dD))(i a:Nat)(O:Nat->Nat->dD):Prop:=∀i1 b1,i1<g.bj.length->b1<cG g i1->qS g i a (i1,b1)->∃i2 b2,i2<g.bj.length/\b2<cG g i2/\da.idxOf (jT first i2)=da.idxOf (jT first i1)/\qL act i2 b2=qL act i1 b1/\atP first act da O i1 b1=nO s i2 b2
def aKu(g:aS)(first:ba)(act:a9)(da:bg)(s:List (List dD))(i a:Nat)(O:Nat->Nat->dD):Prop:=∀i1 b1,i1<g.bj.length->qS g i a (i1,b1)->atP first act da O i1 b1=nO s i1 b1
theorem aFC{x:K2}:¬qS g 0 0 x:=by
 unfold qS;omega
theorem aBi{i b:Nat}(hi:i<g.bj.length)(hb:b<cG g i):qS g g.bj.length 0 (i,b):=.inl ⟨hi,hb⟩
theorem aMI{i a:Nat}(h:WrP g first act da s i a O)(hi:i<g.bj.length)(ha:a<cG g i):WrP g first act da s i (a+1) fun q y=>if q=da.idxOf (jT first i)/\y=qL act i a then nO s i a else O q y:=fun i1 b1 h1 h2 hb=>by
 by_cases e:da.idxOf (jT first i1)=da.idxOf (jT first i)/\qL act i1 b1=qL act i a
 ·refine⟨i,a,hi,ha,e.1.symm,e.2.symm,?_⟩;unfold atP;exact if_pos e
 ·rcases qX hb with hb | hb
  ·have⟨i2,b2,k1,k2,k3,k4,k5⟩:=h i1 b1 h1 h2 hb;refine⟨i2,b2,k1,k2,k3,k4,?_⟩;unfold atP at k5 ⊢;exact(if_neg e).trans k5
  ·cases hb;exact absurd ⟨rfl,rfl⟩ e
theorem aLT(hO:aHn g L first)(hD:¬Dup g L first)(hA:qE g L first act)(h:aKu g first act da s g.bj.length 0 O):aED g first act s:=fun i a hi ha=>by
 have⟨f1,f2,f3⟩:=aAl hO hi;have hlt:=aBp hA hi ha;have e1:=h i a hi (aBi hi ha);have e2:=h _ _ f2 (aBi f2 hlt);have e3:=aHQ hD hA f2 (by unfold jT at f3 ⊢;have:=(aAl hO f2).1;unfold jT at this;omega) hlt;unfold atP at e1 e2;rw[f3,e3] at e2;rw[<-e1,<-e2]
theorem aMr(hra:∀i,i<g.bj.length->jT first i∈da)(hS:aED g first act s)(h:WrP g first act da s g.bj.length 0 O){i b:Nat}(hi:i<g.bj.length)(hb:b<cG g i):atP first act da O i b=nO s i b:=by
 have⟨i2,b2,k1,k2,k3,k4,k5⟩:=h i b hi hb (aBi hi hb);have:=Fg (fun q=>da.getD q 0) k3;simp only[rM (hra i2 k1),rM (hra i hi)] at this;rw[k5,hS i2 b2 k1 k2,this,k4,<-hS i b hi hb]
theorem aLU(hD:¬Dup g L first)(hA:qE g L first act)(hRO:oO g first da)(hfit:qH g.bj s)(h:aKu g first act da s g.bj.length 0 O):((List.range da.length).map fun j=>(List.range (cG g (da.getD j 0))).map (O j))=(List.range da.length).map (aBW da s):=by
 refine Ej fun j hj=>?_;have hj:=Da.1 hj;have⟨h1,h2⟩:=uR hRO hj;have⟨r,hr,hrl⟩:=pP hfit h1;have e:aBW da s j=r:=by
  unfold aBW;rw[Ad (l:=s),hr];rfl
 rw[e];refine Dp (by simp [hrl]) fun b hb1 hb2=>?_;have hb:b<cG g (da.getD j 0):=by rw[<-hrl];exact hb2
 have hm:da.getD j 0∈da:=by
  rw[Ad,Ab hj];exact Bo hj
 have e1:=h _ b h1 (aBi h1 hb);have e2:=aHQ hD hA h1 (hRO.2 _ hm).2 hb;unfold atP at e1;rw[h2,e2,aGW hRO.1 hj] at e1;have e3:=aB7 hr hb2;rw[Ab hb2] at e3;rw[Bp e3,<-e1];simp
theorem aO7{X X':St}{iv:AV}{j:Nat}(hi:aE 2 bP X iv (vN g da))(sX:Same X X')(G:dE g)(hRO:oO g first da)(hj:j<da.length):∃b q,dO (.slice 2) iv j=some (.ptr b q)/\b<X.nx/\dT (.ptr b (q+1)) false 1 X'.h=some (.int .i64 ((cG g (da.getD j 0):Nat):Int)):=by
 have h1:=(uR hRO hj).1;have⟨e,br,qr,hia,lbr,_,he,_,hf⟩:=aE.at hi ay (show(vN g da)[j]? =some (cd g ((da.getD j 0:Nat):Int)) by
  unfold vN;rw[Am,Ab hj,Ad,Ab hj];rfl)
 have he:e= [.int .i64 (cd g ((da.getD j 0:Nat):Int)).player,.int .i64 (cd g ((da.getD j 0:Nat):Int)).bt]:=he;subst he;have hac:=aFY G h1;have:(cd g ((da.getD j 0:Nat):Int)).bt=((cG g (da.getD j 0):Nat):Int):=by unfold cG;omega
 refine⟨br,qr,hia,lbr,?_⟩;rw[iA sX lbr,hf 1 _ rfl,this]
def ZrI(X0:St)(jb:Nat)(sv:AV)(N:Nat)(ac:Nat->Nat)(k:Nat)(A:bG)(X:St):Prop:=A.inr=false/\Same X0 X/\∃i ov bs,i+k=N/\RwB i X0 X ov ac bs/\(∀j,j<i->X.h.get (bs j)=some (.cells (aET (ac j)) false 0))/\aD 2 A.F=sv/\aD 4 A.F= .ptr jb 0/\aD 8 A.F=ov/\aD 9 A.F= .int .i64 (i:Int)
def W2I(X0:St)(jb:Nat)(sv ov:AV)(N M:Nat)(ac bs:Nat->Nat)(P:Nat->(Nat->Nat->dD)->Prop)(k:Nat)(A:bG)(X:St):Prop:=A.inr=false/\Same X0 X/\∃i O,i+k=M/\Mz X0 X ov N ac bs O/\P i O/\aD 2 A.F=sv/\aD 4 A.F= .ptr jb 0/\aD 8 A.F=ov/\aD 10 A.F= .int .i64 (i:Int)
def W2J(X0:St)(jb:Nat)(sv ov:AV)(N M i:Nat)(ac bs:Nat->Nat)(P:Nat->(Nat->Nat->dD)->Prop)(k:Nat)(A:bG)(X:St):Prop:=A.inr=false/\Same X0 X/\∃a O,a+k=M/\Mz X0 X ov N ac bs O/\P a O/\aD 2 A.F=sv/\aD 4 A.F= .ptr jb 0/\aD 8 A.F=ov/\aD 10 A.F= .int .i64 (i:Int)/\aD 11 A.F= .int .i64 (a:Int)
def W3I(X0:St)(jb:Nat)(sv ov:AV)(M:Nat)(P:Nat->Prop)(k:Nat)(A:bG)(X:St):Prop:=A.inr=false/\Same X0 X/\∃i,i+k=M/\P i/\aD 2 A.F=sv/\aD 4 A.F= .ptr jb 0/\aD 8 A.F=ov/\aD 12 A.F= .int .i64 (i:Int)
def W3J(X0:St)(jb:Nat)(sv ov:AV)(M i:Nat)(P:Nat->Prop)(k:Nat)(A:bG)(X:St):Prop:=A.inr=false/\Same X0 X/\∃a,a+k=M/\P a/\aD 2 A.F=sv/\aD 4 A.F= .ptr jb 0/\aD 8 A.F=ov/\aD 12 A.F= .int .i64 (i:Int)/\aD 13 A.F= .int .i64 (a:Int)
theorem aE7{S:St}{nv iv sv nv' iv' jv qv pv:AV}(H:Has fns)(G:dE g)(hO:aHn g L first)(hD:¬Dup g L first)(hA:qE g L first act)(hRO:oO g first da)(hra:∀i,i<g.bj.length->jT first i∈da)(hrp:da.length<=2000)(j1:aE 2 bP S iv' (vN g da))(j2:bI .i64 S jv (mD first da))(j3:aE 1 iD S qv act)(hs:aE 1 fK S sv s)(ht:oI s)(hfit:qH g.bj s):
  fZ fns (.fn 112 [] []) [.agg [.int .i64 g.bo,nv,iv],.agg [.int .i64 g.bo,nv',iv',jv,qv,pv],sv] S fun r S'=>Same S S'/\((¬aED g first act s/\r= .tup [.bw,.bool false])\/(aED g first act s/\∃v,r= .tup [v,.bool true]/\aE 1 fK S' v ((List.range da.length).map (aBW da s)))):=by
 have hNI:=G.ni;have hsl:=hfit.1;obtain⟨ac,hac⟩:∃ac:Nat->Nat,ac=fun j=>cG g (da.getD j 0):=⟨_,rfl⟩;have acE:∀j,ac j=cG g (da.getD j 0):=fun j=>by rw[hac]
 refine cF H.f112 (by simp) ?_;refine am ?_;refine bO ?_;refine cI (by refine am ?_;exact aY _) ?_;intro S1 s1 n1 g1;refine am ?_;refine cI (by refine am ?_;exact aY _) ?_;intro B s2 n2 g2;refine am ?_;have s0B:=s1.trans s2;have hsB:=aE.same (E:=fK) dL hs s0B;have j1B:=aE.same (E:=bP) bK j1 s0B;have j2B:=j2.same s0B;have j3B:=aE.same (E:=iD) cm j3 s0B;have hil:jJ iv'=some (.int .i64 (da.length:Int)):=by
  have:=j1.len;unfold vN at this
  rwa [Aj] at this
 refine bO (ae ?_);refine aA (aX (Q:=fun o A' X=>o= .normal/\ZrI B S1.nx sv da.length ac 0 A' X) (aA (aJ ?_)) ?_)
 ·refine ae ?_;refine aK (bH (ZrI B S1.nx sv da.length ac) ?_ da.length _ _ ⟨rfl,dk _,0,.bw,fun _=>0,ar,⟨.none,fun j h=>absurd h (Bm j),fun j k h=>absurd h (Bm j)⟩,fun j h=>absurd h (Bm j),af,af,af,ag⟩);rintro k ⟨F,inr⟩ X ⟨q0,hX,i,ov,bs,hik,hw,hz,p2,p4,p8,p9⟩;simp only at q0 p2 p4 p8 p9;subst q0;have mX:=hX.1;have gX:=(hX.2 _ ar).trans g2;have ld2:dT (.ptr S1.nx (0+0+2)) false 1 X.h=some iv':=ldc gX rfl;refine fC (dt p4 p9 @aC @aB ld2 hil ?_);by_cases hlt:i<da.length;rotate_left
  ·refine aM (by simp only[↓sU,sD,rE,↓reduceIte,rA,Aa (show ¬ (i:Int)<(da.length:Int) by omega)]) (bJ ?_);refine ae ?_;obtain rfl:k=0:=by omega
   exact⟨rfl,hX,i,ov,bs,hik,hw,hz,by refine⟨?_,?_,?_,?_⟩<;>simp only[↓sU,sD,rE,↓reduceIte,rA,p2,p4,p8,p9]⟩
  refine aN (by simp only[↓sU,sD,rE,↓reduceIte,rA,Ac (show(i:Int)<(da.length:Int) by omega)]) (aI ?_);try refine ae ?_
  have w1:=dh i
  have⟨b0,r0,i0,_,ld0⟩:=aO7 j1B hX G hRO hlt;rw[<-acE] at ld0;have hai:ac i<=1000:=by rw[acE];exact qB G (uR hRO hlt).1
  refine aA (aK (aJ ?_));simp only[↓aF,aG,rE,↓reduceIte,rA,p4,p8,p9,aC,aB,ld2,aH,i0,ld0];refine fN (lN (n:=ac i) (by simp only[↓aF,aG,rE,↓reduceIte,rA,aH]) (by simp only[↓aF,aG,rE,↓reduceIte,rA,aH]) ax ax) ?_;intro U u1 u2 u3;try refine am ?_
  refine fN (aMD (b:=X.nx) (n:=ac i) (c:=ac i) (o:=false) (ap)) ?_;intro V v1 v2 v3;try refine am ?_
  have sV:=u1.trans v1;have⟨ov',W,bs',eA,nW,kW,hw',hz'⟩:=aOi (nb:=X.nx) (t:=U.nx) (hw.same sV.1 fun c hc=>sV.2 c (hw.1.blk hc).2) (fun j hj=>(sV.2 _ (hw.2.1 j hj).2.1).trans (hz j hj)) mX ar ((v1.2 _ ar).trans u3) (fun j hj=>by have:=(hw.2.1 j hj).2.1;omega) (fun h=>by have:=(hw.1.blk h).2;omega) v3 ar;refine fI (v:=ov') (S1:=W) (fun call=>?_) ?_
  ·rw[gO];refine am ?_;exact eA
  refine am ?_;refine aJ (dn p9 w1 ?_);exact⟨k - 1,ar,rfl,⟨au sV.1,fun c hc=>(kW c (au sV.1) fun h=>by have:=(hw.1.blk h).1;omega).trans ((sV.2 c ar).trans (hX.2 c hc))⟩,i+1,ov',bs',ar,hw',hz',by refine⟨?_,?_,?_,?_⟩<;>simp only[↓sU,sD,rE,↓reduceIte,rA,p2,p4]⟩
 rintro o ⟨F,inr⟩ X1 ⟨rfl,q0,hX1,i,ov,bs,hik,hw,hz,p2,p4,p8,_⟩;simp only at q0 p2 p4 p8;subst q0;obtain rfl:i=da.length:=by omega
 have hM0:=aNp hw hz;have m1:=hX1.1;clear hw hz;try refine ae ?_
 refine aA (aX (Q:=fun o A' X=>o= .normal/\W2I B S1.nx sv ov da.length s.length ac bs (fun i O=>WrP g first act da s i 0 O) 0 A' X) (aA (aJ ?_)) ?_)
 ·refine ae ?_;refine aK (bH (W2I B S1.nx sv ov da.length s.length ac bs (fun i O=>WrP g first act da s i 0 O)) ?_ s.length _ _ ⟨rfl,hX1,0,_,ar,hM0,fun i1 b1 _ _ hb=>absurd hb aFC,ah p2,ah p4,ah p8,ag⟩);clear p2 p4 p8;rintro k ⟨F,inr⟩ X ⟨q0,hX,i,O,hik,hM,hP,p2,p4,p8,p10⟩;simp only at q0 p2 p4 p8 p10;subst q0;refine fC (dq p2 p10 hs.len @Ah ?_);by_cases hlt:i<s.length;rotate_left
  ·refine aM (by simp only[↓sU,sD,rE,↓reduceIte,rA,Aa (show ¬ (i:Int)<(s.length:Int) by omega)]) (bJ ?_);refine ae ?_;obtain rfl:k=0:=by omega
   exact⟨rfl,hX,i,O,hik,hM,hP,by refine⟨?_,?_,?_,?_⟩<;>simp only[↓sU,sD,rE,↓reduceIte,rA,p2,p4,p8,p10]⟩
  refine aN (by simp only[↓sU,sD,rE,↓reduceIte,rA,Ac (show(i:Int)<(s.length:Int) by omega)]) (aI ?_);try refine ae ?_
  have hlt':i<g.bj.length:=by omega
  have w1:=dh i
  have hai:=qB G hlt';have⟨r,hr,hrl⟩:=pP hfit hlt';refine aA (aX (Q:=fun o A' Y=>o= .normal/\W2J B S1.nx sv ov da.length (cG g i) i ac bs (fun a O=>WrP g first act da s i a O) 0 A' Y) (aK (aA (aJ ?_))) ?_)
  ·refine ae ?_;refine aK (bH (W2J B S1.nx sv ov da.length (cG g i) i ac bs (fun a O=>WrP g first act da s i a O)) ?_ (cG g i) _ _ ⟨rfl,hX,0,_,ar,hM,hP,ah p2,ah p4,ah p8,ah p10,ag⟩);clear p2 p4 p8 p10 hM hP hX;rintro k' ⟨F,inr⟩ Y ⟨q0,hY,a,O,hak,hM,hP,p2,p4,p8,p10,p11⟩;simp only at q0 p2 p4 p8 p10 p11;subst q0;have mY:=hY.1;have gY:=(hY.2 _ ar).trans g2;have⟨b0,r0,rv0,i0,_,ld0,hr0⟩:=tA (aE.same (E:=fK) dL hsB hY) hr;refine fC ?_;simp only[↓sU,sD,rE,↓reduceIte,rA,p2,p10,p11,aH,i0,ld0,hr0.len,hrl,Ah];by_cases ha:a<cG g i;rotate_left
   ·refine aM (by simp only[↓sU,sD,rE,↓reduceIte,rA,Aa (show ¬ (a:Int)<((cG g i:Nat):Int) by omega)]) (bJ ?_);refine ae ?_;obtain rfl:k'=0:=by omega
    exact⟨rfl,hY,a,O,hak,hM,hP,by refine⟨?_,?_,?_,?_,?_⟩<;>simp only[↓sU,sD,rE,↓reduceIte,rA,p2,p4,p8,p10,p11]⟩
   refine aN (by simp only[↓sU,sD,rE,↓reduceIte,rA,Ac (show(a:Int)<((cG g i:Nat):Int) by omega)]) (aI ?_);try refine ae ?_
   have w2:=dh a
   have⟨f1,f2,f3⟩:=aAl hO hlt';have hq:=Ee (hra i hlt');have hpl:qL act i a<ac (da.idxOf (jT first i)):=by rw[acE,rM (hra i hlt')];exact aBp hA hlt' ha
   have⟨cb,cq,e0,ic,lc1,lc2,lc3,ldc1,ie,le,lde,sme,_⟩:=hM.ld hq hpl;have⟨_,bq1,bq2⟩:=hM.rb.2.1 _ hq;have hbq:=(hM.rb.2.1 _ hq).1;have low:∀ {c},c<B.nx->c<Y.nx/\¬c=bs (da.idxOf (jT first i)):=fun hc=>⟨ar,ar⟩;have ncb:¬cb=bs (da.idxOf (jT first i)):=fun h=>bq2 (by rw[lc3,h]);have⟨b1,q1,rw1,b2,q2,e,i1,l1,ld1,sm1,i2,l2,ld2,sm2,hE,hTm⟩:=vA hsB hY ht hr (a:=a) (by rw[hrl];exact ha);have⟨b5,q5,i5,l5,ld5⟩:=xL j2B hY (i:=i) (by unfold mD;rw[Aj,hO.len];exact hlt') (wY (by rw[hO.len];exact hlt'));have⟨b6,q6,rw6,b7,q7,i6,l6,ld6,sm6,i7,l7,ld7⟩:=aDE j3B hY hA hlt' ha;refine aA (aK (nS (fun c=>c=bs (da.idxOf (jT first i))) ?_));intro X2 x2 hh2 nn2;simp only[↓sU,sD,rE,↓reduceIte,rA,p2,p4,p8,p10,p11,aC,aQ,aB,aH,dC gY,dF gY,(low (show S1.nx<B.nx by omega)).1,(low (show S1.nx<B.nx by omega)).2,Ak,aE.self hsB,bI.self j2,aE.self j3,ic,lc2,ncb,ldc1,i1,(low l1).1,(low l1).2,ld1,sm1,i2,(low l2).1,(low l2).2,ld2,sm2,i5,(low l5).1,(low l5).2,ld5,i6,(low l6).1,(low l6).2,ld6,sm6,i7,(low l7).1,(low l7).2,ld7];refine cU rfl ?_;refine ae ?_;refine aW (aFB H (kB hE x2) hTm) ?_;rintro _ U ⟨uS,e',rfl,hE2⟩;refine⟨uS,?_⟩;have sYU:=x2.trans uS;have⟨V,hV1,hV2,hV3,hMV⟩:=(hM.same sYU).put hq hpl hE2 fun k hk=>by have:=(hM.rb.2.1 k hk).2.1;have:=x2.1;omega
   refine dn @aH ie ?_;refine pD (S1:=V) rfl ?_ ?_ ?_
   ·refine dp @bF @aY @aL ?_;exact hV1
   ·simp only[bF];exact⟨Eq hV2.symm,fun c _ hne=>hV3 c hne⟩
   refine dm @bF ?_;refine aJ (dn p11 w2 ?_);refine⟨k' - 1,ar,rfl,⟨by have:=sYU.1;simp only;omega,fun c hc=>(hV3 c ar).trans ((sYU.2 c ar).trans (hY.2 c hc))⟩,a+1,_,ar,hMV,aMI hP hlt' ha,by refine⟨?_,?_,?_,?_,?_⟩<;>simp only[↓sU,sD,rE,↓reduceIte,rA,p2,p4,p8,p10]⟩
  clear p2 p4 p8 p10 hM hP;rintro o ⟨F,inr⟩ Y ⟨rfl,q0,hY,a,O,hak,hM,hP,p2,p4,p8,p10,_⟩;simp only at q0 p2 p4 p8 p10;subst q0;obtain rfl:a=cG g i:=by omega
  try refine ae ?_
  refine aJ (dn p10 w1 ?_);exact⟨k - 1,ar,rfl,hY,i+1,O,ar,hM,fun i1 b1 h1 h2 hb=>hP i1 b1 h1 h2 (wR hb),by refine⟨?_,?_,?_,?_⟩<;>simp only[↓sU,sD,rE,↓reduceIte,rA,p2,p4,p8]⟩
 clear hM0 p2 p4 p8;rintro o ⟨F,inr⟩ Z ⟨rfl,q0,hZ,i,O,hik,hM,hP,p2,p4,p8,_⟩;simp only at q0 p2 p4 p8;subst q0;obtain rfl:i=s.length:=by omega
 rw[hsl] at hP;have mZ:=hZ.1;try refine ae ?_
 refine aA (aX (Q:=fun o A' X=>(o= .normal/\W3I Z S1.nx sv ov s.length (fun i=>aKu g first act da s i 0 O) 0 A' X)\/(o= .ret/\Same Z X/\aD 6 A'.F= .bw/\aD 7 A'.F= .bool false/\¬aED g first act s)) (aA (aJ ?_)) ?_)
 ·refine ae ?_;refine aK (bH (W3I Z S1.nx sv ov s.length (fun i=>aKu g first act da s i 0 O)) ?_ s.length _ _ ⟨rfl,dk _,0,ar,fun i1 b1 _ hb=>absurd hb aFC,ah p2,ah p4,ah p8,ag⟩);clear p2 p4 p8;rintro k ⟨F,inr⟩ X ⟨q0,hX,i,hik,hE3,p2,p4,p8,p12⟩;simp only at q0 p2 p4 p8 p12;subst q0;refine fC (dq p2 p12 hs.len @Ah ?_);by_cases hlt:i<s.length;rotate_left
  ·refine aM (by simp only[↓sU,sD,rE,↓reduceIte,rA,Aa (show ¬ (i:Int)<(s.length:Int) by omega)]) (bJ ?_);refine ae ?_;obtain rfl:k=0:=by omega
   exact .inl ⟨rfl,hX,i,hik,hE3,by refine⟨?_,?_,?_,?_⟩<;>simp only[↓sU,sD,rE,↓reduceIte,rA,p2,p4,p8,p12]⟩
  refine aN (by simp only[↓sU,sD,rE,↓reduceIte,rA,Ac (show(i:Int)<(s.length:Int) by omega)]) (aI ?_);try refine ae ?_
  have hlt':i<g.bj.length:=by omega
  have w1:=dh i
  have hai:=qB G hlt';have⟨r,hr,hrl⟩:=pP hfit hlt';refine aA (aX (Q:=fun o A' Y=>(o= .normal/\W3J Z S1.nx sv ov (cG g i) i (fun a=>aKu g first act da s i a O) 0 A' Y)\/(o= .ret/\Same Z Y/\aD 6 A'.F= .bw/\aD 7 A'.F= .bool false/\¬aED g first act s)) (aK (aA (aJ ?_))) ?_)
  ·refine ae ?_;refine aK (bH (W3J Z S1.nx sv ov (cG g i) i (fun a=>aKu g first act da s i a O)) ?_ (cG g i) _ _ ⟨rfl,hX,0,ar,hE3,ah p2,ah p4,ah p8,ah p12,ag⟩);clear p2 p4 p8 p12 hE3 hX;rintro k' ⟨F,inr⟩ Y ⟨q0,hY,a,hak,hE3,p2,p4,p8,p12,p13⟩;simp only at q0 p2 p4 p8 p12 p13;subst q0;have sBY:=hZ.trans hY;have mY:=hY.1;have gY:=(sBY.2 _ ar).trans g2;have⟨b0,r0,rv0,i0,_,ld0,hr0⟩:=tA (aE.same (E:=fK) dL hsB sBY) hr;refine fC ?_;simp only[↓sU,sD,rE,↓reduceIte,rA,p2,p12,p13,aH,i0,ld0,hr0.len,hrl,Ah];by_cases ha:a<cG g i;rotate_left
   ·refine aM (by simp only[↓sU,sD,rE,↓reduceIte,rA,Aa (show ¬ (a:Int)<((cG g i:Nat):Int) by omega)]) (bJ ?_);refine ae ?_;obtain rfl:k'=0:=by omega
    exact .inl ⟨rfl,hY,a,hak,hE3,by refine⟨?_,?_,?_,?_,?_⟩<;>simp only[↓sU,sD,rE,↓reduceIte,rA,p2,p4,p8,p12,p13]⟩
   refine aN (by simp only[↓sU,sD,rE,↓reduceIte,rA,Ac (show(a:Int)<((cG g i:Nat):Int) by omega)]) (aI ?_);try refine ae ?_
   have w2:=dh a
   have hq:=Ee (hra i hlt');have hpl:qL act i a<ac (da.idxOf (jT first i)):=by rw[acE,rM (hra i hlt')];exact aBp hA hlt' ha
   have⟨cb,cq,e0,ic,lc1,lc2,lc3,ldc1,ie,le,lde,sme,hE0⟩:=(hM.same hY).ld hq hpl;have low:∀ {c},c<B.nx->c<Y.nx:=fun hc=>by omega
   have⟨b1,q1,rw1,b2,q2,e,i1,l1,ld1,sm1,i2,l2,ld2,sm2,hE,hTm⟩:=vA hsB sBY ht hr (a:=a) (by rw[hrl];exact ha);have⟨b5,q5,i5,l5,ld5⟩:=xL j2B sBY (i:=i) (by unfold mD;rw[Aj,hO.len];exact hlt') (wY (by rw[hO.len];exact hlt'));have⟨b6,q6,rw6,b7,q7,i6,l6,ld6,sm6,i7,l7,ld7⟩:=aDE j3B sBY hA hlt' ha;refine aA (aK (aA (gS (fun _=>False) ?_)));intro X2 x2;simp only[↓sU,sD,rE,↓reduceIte,rA,p2,p4,p8,p12,p13,aC,aQ,aB,aH,dC gY,dF gY,low (show S1.nx<B.nx by omega),Ak,aE.self hsB,bI.self j2,aE.self j3,ic,lc2,ldc1,ie,le,lde,sme,i1,low l1,ld1,sm1,i2,low l2,ld2,sm2,i5,low l5,ld5,i6,low l6,ld6,sm6,i7,low l7,ld7];refine cU rfl ?_;refine ae ?_;refine aW (aC4 H (kB hE0 x2) (kB hE x2) hTm) ?_;rintro _ U ⟨uS,t,rfl,htt⟩;refine⟨uS,?_⟩;refine dn @eM @bF ?_;have sYU:=x2.trans uS;cases t
   ·refine aN (by simp only[↓sU,sD,rE,↓reduceIte,rA,Ci]) ?_;refine bO (ae ?_);refine aP (ae ?_);refine .inr ⟨hY.trans sYU,fun hS=>?_⟩;have:=htt.2 (aMr hra hS hP hlt' ha);cases this
   ·refine aM (by simp only[↓sU,sD,rE,↓reduceIte,rA,Cc]) (aI ?_);refine ae ?_;refine aJ (dn p13 w2 ?_);refine⟨k' - 1,ar,rfl,hY.trans sYU,a+1,ar,fun i1 b1 h1 hb=>?_,by refine⟨?_,?_,?_,?_,?_⟩<;>simp only[↓sU,sD,rE,↓reduceIte,rA,p2,p4,p8,p12]⟩;rcases qX hb with hb | hb
    ·exact hE3 i1 b1 h1 hb
    ·cases hb;exact htt.1 rfl
  clear p2 p4 p8 p12 hE3;rintro o ⟨F,inr⟩ Y (⟨rfl,q0,hY,a,hak,hE3,p2,p4,p8,p12,_⟩ | ⟨rfl,h1,h2,h3,h4⟩);rotate_left
  ·refine ae ?_;exact .inr ⟨h1,h2,h3,h4⟩
  simp only at q0 p2 p4 p8 p12;subst q0;obtain rfl:a=cG g i:=by omega
  try refine ae ?_
  refine aJ (dn p12 w1 ?_);exact⟨k - 1,ar,rfl,hY,i+1,ar,fun i1 b1 h1 hb=>hE3 i1 b1 h1 (wR hb),by refine⟨?_,?_,?_,?_⟩<;>simp only[↓sU,sD,rE,↓reduceIte,rA,p2,p4,p8]⟩
 have s0Z:=s0B.trans hZ;rintro o ⟨F,inr⟩ Y (⟨rfl,q0,hY,i,hik,hE3,p2,p4,p8,_⟩ | ⟨rfl,h1,h2,h3,h4⟩);rotate_left
 ·simp only at h2 h3;refine dn h2 h3 ?_;exact⟨s0Z.trans h1,.inl h4⟩
 simp only at q0 p8;subst q0;obtain rfl:i=s.length:=by omega
 rw[hsl] at hE3;try refine ae ?_
 refine bO (dm p8 ?_);refine aP (ae ?_);refine⟨s0Z.trans hY,.inr ⟨aLT hO hD hA hE3,_,rfl,?_⟩⟩;rw[<-aLU hD hA hRO hfit hE3];have:=(hM.same hY).is;rw[hac] at this;exact this
end
section
variable {g:aS}{L:a9}{first:ba}{act:a9}
theorem aGR{S:St}{nv iv mv sv:AV}{s:List (List dD)}(H:Has fns)(hn:aE 6 bX S nv g.bh)(hi:aE 2 bP S iv g.bj)(hln:g.bh.length<=100000)(hm:aE 1 iD S mv L)(hs:aE 1 fK S sv s)(ht:oI s):
  fZ fns (.fn 58 [] []) [.agg [.int .i64 g.bo,nv,iv],mv,sv] S fun r S'=>Same S S'/\xM g L .bw (aLC g s S') r:=by
 refine cF H.f58 (by simp) ?_;refine am ?_;refine bO ?_;refine cI (by refine am ?_;exact aY _) ?_;intro S1 s1 n1 g1;refine am ?_;refine bO (dx (eJ g1) ?_);refine bD (am ?_);refine aW (vU H (aE.same (E:=bX) bL hn s1) (aE.same (E:=bP) bK hi s1) hln (aE.same (E:=iD) cm hm s1)) ?_;rintro r0 S2 ⟨s2,hJ0⟩;obtain⟨x0,x1,x2,x3,x4,x5,e,rfl⟩:=xU (hJ0.move (Ag _) fun _ _ _=>rfl);refine dy @rN @sA ?_;refine cA ?_;intro S3 s3 n3 g3;try refine am ?_
 refine cQ (b:=S2.nx) (cs':=[x0,x1,x2,x3,x4,x5]) (ap) (by refine am ?_;exact aY _) g3 rfl rfl ?_;intro S5 v5 k5 g5;try refine am ?_
 have s25:Same S2 S5:=v5.same s3 (Ag _);have hJ:=hJ0.move s25.1 fun c _ hc=>s25.2 c hc;clear hJ0;have s15:=s2.trans s25;have s05:=s1.trans s15;have m5:=s15.1;have m25:=s25.1;have m2:=s2.1;have c5:S5.h.get S.nx=_:=(s15.2 _ ar).trans g1;refine fC (am ?_);by_cases he:e=0;rotate_left
 ·refine aN (by simp only[↓sU,sD,rE,↓reduceIte,rA,Ac (show e≠0 from he)]) ?_;refine bO (am ?_);refine aP (am ?_);refine⟨s05,?_⟩;rcases hJ with⟨h1,h2⟩ | ⟨h1,first,hO,⟨hD,h2⟩ | ⟨hD,act,hA,v,h2,_⟩⟩
  ·simp only[AV.tup.injEq,Bx,AV.int.injEq,Dt,Ed] at h2;obtain⟨_,rfl⟩:=h2;exact .inl ⟨h1,rfl⟩
  ·simp only[AV.tup.injEq,Bx,AV.int.injEq,Dt,Ed] at h2;obtain⟨_,rfl⟩:=h2;exact .inr ⟨h1,first,hO,.inl ⟨hD,rfl⟩⟩
  ·simp only[AV.tup.injEq,Bx,AV.int.injEq,Dt,Ed] at h2;exact absurd h2.2 he
 subst he;refine aM (by simp only[↓sU,sD,rE,↓reduceIte,rA];try first | rfl | trivial) (aI ?_);try refine am ?_
 rcases hJ with⟨h1,h2⟩ | ⟨h1,first,hO,⟨hD,h2⟩ | ⟨hD,act,hA,v,h2,nv',iv',jv,qv,pv,rfl, -,j1,j2,j3, -⟩⟩
 ·simp only[AV.tup.injEq,Bx,AV.int.injEq,Dt,Ed] at h2;exact absurd h2.2.symm h1
 ·simp only[AV.tup.injEq,Bx,AV.int.injEq,Dt,Ed] at h2;cases h2.2
 simp only[AV.tup.injEq,Bx,AV.agg.injEq,Dt] at h2;obtain⟨rfl,rfl,rfl,rfl,rfl,rfl⟩:=h2;have j2:bI .i64 S5 x3 (mD first (fJ g first act)):=j2;have j1:aE 2 bP S5 x2 (vN g (fJ g first act)):=j1;have⟨hf0,hL16,hims⟩:=iS h1;have hAll:∀m∈L,eX g m:=fun m hm=>gR (iC hims m hm);have G:=gF hf0;have hNI:=G.ni;have hR:=nC G hAll hO hD hA;have hrp:=yH (first:=first) G hR;have hs5:=aE.same (E:=fK) dL hs s05;refine fC (dp @aC @aB (fH c5) ?_);refine bD (ae ?_);refine aW (tX H (aE.same (E:=bP) bK hi s05) hs5 ar) ?_;rintro _ B ⟨sB,t,rfl,htf⟩;refine dm @eM ?_;have s0B:=s05.trans sB;have mB:=sB.1;cases t
 ·refine aN (by simp only[↓sU,sD,rE,↓reduceIte,rA,Ci]) ?_;refine bO (ae ?_);refine aP (ae ?_);exact⟨s0B,.inr ⟨h1,first,hO,.inr ⟨hD,act,hA,.inl ⟨fun h=>(by cases htf.2 h),rfl⟩⟩⟩⟩
 refine aM (by simp only[↓sU,sD,rE,↓reduceIte,rA,Cc]) (aI ?_);try refine ae ?_
 have hfit:=htf.1 rfl;have cB:B.h.get S.nx=_:=(sB.2 _ ar).trans c5;have gB:B.h.get S2.nx=_:=(sB.2 _ ar).trans g5;have ld6:=jM (n:=6) gB rfl;refine bO (dn (eJ cB) ld6 ?_);refine bD (ae ?_);refine aW (aE7 H G hO hD hA (aBb G hR hO) (fun i hi=>rC G hR hi) hrp (aE.same (E:=bP) bK j1 sB) (j2.same sB) (aE.same (E:=iD) cm j3 sB) (aE.same (E:=fK) dL hs s0B) ht hfit) ?_;rintro _ Z ⟨sZ,⟨hY,rfl⟩ | ⟨hY,v,rfl,hv⟩⟩
 ·refine dn @rN @sA ?_;refine fC (dm @eM ?_);refine aN (by simp only[↓sU,sD,rE,↓reduceIte,rA,Ci]) ?_;refine bO (ae ?_);refine aP (ae ?_);exact⟨s0B.trans sZ,.inr ⟨h1,first,hO,.inr ⟨hD,act,hA,.inr ⟨hfit,.inl ⟨hY,rfl⟩⟩⟩⟩⟩
 ·refine dn @rN @sA ?_;refine fC (dm @eM ?_);refine aM (by simp only[↓sU,sD,rE,↓reduceIte,rA,Cc]) (aI ?_);try refine ae ?_
  refine bO (ae ?_);refine aP (ae ?_);exact⟨s0B.trans sZ,.inr ⟨h1,first,hO,.inr ⟨hD,act,hA,.inr ⟨hfit,.inr ⟨hY,_,rfl,hv⟩⟩⟩⟩⟩
theorem aJd{S:St}{nv iv mv sv:AV}{s:List (List dD)}(H:Has fns)(hn:aE 6 bX S nv g.bh)(hi:aE 2 bP S iv g.bj)(hln:g.bh.length<=100000)(hm:aE 1 iD S mv L)(hs:aE 1 fK S sv s)(ht:oI s):
  fZ fns (.fn 60 [] []) [.agg [.int .i64 g.bo,nv,iv],mv,sv] S fun r S'=>Same S S'/\xM g L (.bool false) (aNV g s) r:=by
 refine cF H.f60 (by simp) ?_;refine am ?_;refine bO ?_;refine cI (by refine am ?_;exact aY _) ?_;intro S1 s1 n1 g1;refine am ?_;refine bO (dx (eJ g1) ?_);refine bD (am ?_);refine aW (vU H (aE.same (E:=bX) bL hn s1) (aE.same (E:=bP) bK hi s1) hln (aE.same (E:=iD) cm hm s1)) ?_;rintro r0 S2 ⟨s2,hJ0⟩;obtain⟨x0,x1,x2,x3,x4,x5,e,rfl⟩:=xU (hJ0.move (Ag _) fun _ _ _=>rfl);refine dy @rN @sA ?_;refine cA ?_;intro S3 s3 n3 g3;try refine am ?_
 refine cQ (b:=S2.nx) (cs':=[x0,x1,x2,x3,x4,x5]) (ap) (by refine am ?_;exact aY _) g3 rfl rfl ?_;intro S5 v5 k5 g5;try refine am ?_
 have s25:Same S2 S5:=v5.same s3 (Ag _);have hJ:=hJ0.move s25.1 fun c _ hc=>s25.2 c hc;clear hJ0;have s15:=s2.trans s25;have s05:=s1.trans s15;have m5:=s15.1;have m25:=s25.1;have m2:=s2.1;have c5:S5.h.get S.nx=_:=(s15.2 _ ar).trans g1;refine fC (am ?_);by_cases he:e=0;rotate_left
 ·refine aN (by simp only[↓sU,sD,rE,↓reduceIte,rA,Ac (show e≠0 from he)]) ?_;refine bO (am ?_);refine aP (am ?_);refine⟨s05,?_⟩;rcases hJ with⟨h1,h2⟩ | ⟨h1,first,hO,⟨hD,h2⟩ | ⟨hD,act,hA,v,h2,_⟩⟩
  ·simp only[AV.tup.injEq,Bx,AV.int.injEq,Dt,Ed] at h2;obtain⟨_,rfl⟩:=h2;exact .inl ⟨h1,rfl⟩
  ·simp only[AV.tup.injEq,Bx,AV.int.injEq,Dt,Ed] at h2;obtain⟨_,rfl⟩:=h2;exact .inr ⟨h1,first,hO,.inl ⟨hD,rfl⟩⟩
  ·simp only[AV.tup.injEq,Bx,AV.int.injEq,Dt,Ed] at h2;exact absurd h2.2 he
 subst he;refine aM (by simp only[↓sU,sD,rE,↓reduceIte,rA];try first | rfl | trivial) (aI ?_);try refine am ?_
 rcases hJ with⟨h1,h2⟩ | ⟨h1,first,hO,⟨hD,h2⟩ | ⟨hD,act,hA,v,h2,nv',iv',jv,qv,pv,rfl, -,j1,j2,j3, -⟩⟩
 ·simp only[AV.tup.injEq,Bx,AV.int.injEq,Dt,Ed] at h2;exact absurd h2.2.symm h1
 ·simp only[AV.tup.injEq,Bx,AV.int.injEq,Dt,Ed] at h2;cases h2.2
 simp only[AV.tup.injEq,Bx,AV.agg.injEq,Dt] at h2;obtain⟨rfl,rfl,rfl,rfl,rfl,rfl⟩:=h2;have j2:bI .i64 S5 x3 (mD first (fJ g first act)):=j2;have j1:aE 2 bP S5 x2 (vN g (fJ g first act)):=j1;have⟨hf0,hL16,hims⟩:=iS h1;have hAll:∀m∈L,eX g m:=fun m hm=>gR (iC hims m hm);have G:=gF hf0;have hNI:=G.ni;have hR:=nC G hAll hO hD hA;have hrp:=yH (first:=first) G hR;have hs5:=aE.same (E:=fK) dL hs s05;refine fC (dp @aC @aB (fH c5) ?_);refine bD (ae ?_);refine aW (tX H (aE.same (E:=bP) bK hi s05) hs5 ar) ?_;rintro _ B ⟨sB,t,rfl,htf⟩;refine dm @eM ?_;have s0B:=s05.trans sB;have mB:=sB.1;cases t
 ·refine aN (by simp only[↓sU,sD,rE,↓reduceIte,rA,Ci]) ?_;refine bO (ae ?_);refine aP (ae ?_);exact⟨s0B,.inr ⟨h1,first,hO,.inr ⟨hD,act,hA,.inl ⟨fun h=>(by cases htf.2 h),rfl⟩⟩⟩⟩
 refine aM (by simp only[↓sU,sD,rE,↓reduceIte,rA,Cc]) (aI ?_);try refine ae ?_
 have hfit:=htf.1 rfl;have cB:B.h.get S.nx=_:=(sB.2 _ ar).trans c5;have gB:B.h.get S2.nx=_:=(sB.2 _ ar).trans g5;have ld6:=jM (n:=6) gB rfl;refine bO (dn (eJ cB) ld6 ?_);refine bD (ae ?_);refine aW (aE7 H G hO hD hA (aBb G hR hO) (fun i hi=>rC G hR hi) hrp (aE.same (E:=bP) bK j1 sB) (j2.same sB) (aE.same (E:=iD) cm j3 sB) (aE.same (E:=fK) dL hs s0B) ht hfit) ?_;rintro _ Z ⟨sZ,⟨hY,rfl⟩ | ⟨hY,v,rfl,hv⟩⟩
 ·refine dn @rN @sA ?_;refine bO (ae ?_);refine aP (ae ?_);exact⟨s0B.trans sZ,.inr ⟨h1,first,hO,.inr ⟨hD,act,hA,.inr ⟨hfit,_,rfl,fun h=>(by cases h),fun h=>absurd h hY⟩⟩⟩⟩
 ·refine dn @rN @sA ?_;refine bO (ae ?_);refine aP (ae ?_);exact⟨s0B.trans sZ,.inr ⟨h1,first,hO,.inr ⟨hD,act,hA,.inr ⟨hfit,_,rfl,fun _=>hY,fun _=>rfl⟩⟩⟩⟩
end
def SmI(S:St)(v w:AV)(N:Nat)(k:Nat)(A:bG)(X:St):Prop:=A.inr=false/\Same S X/\∃i,i+k=N/\aD 0 A.F=v/\aD 1 A.F=w/\aD 5 A.F= .int .i64 (i:Int)
def SmJ(S:St)(v w:AV)(N i:Nat)(k:Nat)(A:bG)(X:St):Prop:=A.inr=false/\Same S X/\∃a,a+k=N/\aD 0 A.F=v/\aD 1 A.F=w/\aD 5 A.F= .int .i64 (i:Int)/\aD 6 A.F= .int .i64 (a:Int)
theorem aEi{S:St}{v w:AV}{M:List (List dD)}(H:Has fns)(hv:aE 1 fK S v M)(hw:aE 1 fK S w M)(ht:oI M)(hl:M.length<=100000)(hr:∀r∈M,r.length<=100000):fZ fns (.fn 61 [] []) [v,w] S fun r S'=>r= .bool true/\Same S S':=by
 refine cF H.f61 (by simp) ?_;refine ae ?_;refine bO (ae ?_);refine fC (dn hv.len hw.len ?_);refine aM (by simp only[↓sU,sD,rE,↓reduceIte,rA,Aa (show ¬ (M.length:Int)≠(M.length:Int) from fun h=>h rfl)]) (aI ?_);try refine ae ?_
 refine aA (aX (Q:=fun o A' X=>o= .normal/\A'.inr=false/\Same S X) (aA (aJ ?_)) ?_)
 ·refine ae ?_;refine aK (bH (SmI S v w M.length) ?_ M.length _ _ ⟨rfl,dk _,0,ar,af,af,ag⟩);rintro k ⟨F,inr⟩ X ⟨q0,hX,i,hik,p0,p1,p5⟩;simp only at q0 p0 p1 p5;subst q0;refine fC (dp p0 p5 hv.len ?_);by_cases hlt:i<M.length;rotate_left
  ·refine aM (by simp only[↓sU,sD,rE,↓reduceIte,rA,Aa (show ¬ (i:Int)<(M.length:Int) by omega)]) (bJ ?_);refine ae ?_;exact hX
  refine aN (by simp only[↓sU,sD,rE,↓reduceIte,rA,Ac (show(i:Int)<(M.length:Int) by omega)]) (aI ?_);try refine ae ?_
  have w1:=dh i
  have hri:=Ab hlt;have hrl:=hr _ (Bo hlt);have⟨b1,q1,r1,i1,_,ld1,h1⟩:=tA (aE.same (E:=fK) dL hv hX) hri;have⟨b2,q2,r2,i2,_,ld2,h2⟩:=tA (aE.same (E:=fK) dL hw hX) hri;refine aA (aK (aA (aA (gD ?_))));simp only[↓sU,sD,rE,↓reduceIte,rA,p0,p1,p5,aH,i1,ld1,aE.self h1,h1.len,i2,ld2,aE.self h2,h2.len];refine aM (by simp only[↓sU,sD,rE,↓reduceIte,rA,Aa (show ¬ ((M[i].length:Nat):Int)≠((M[i].length:Nat):Int) from fun h=>h rfl)]) (aI ?_);try refine ae ?_
  have hX':=fun n=>hX.trans (Same.nx X n);refine bO (ae ?_);refine aX (Q:=fun o A' Y=>o= .normal/\SmJ S v w M[i].length i 0 A' Y) (aK (bH (SmJ S v w M[i].length i) ?_ M[i].length _ _ ⟨rfl,hX' _,0,ar,ah p0,ah p1,ah p5,ag⟩)) ?_
  ·clear p0 p1 p5;rintro k' ⟨F,inr⟩ Y ⟨q0,hY,a,hak,p0,p1,p5,p6⟩;simp only at q0 p0 p1 p5 p6;subst q0;have⟨b1,q1,r1,i1,_,ld1,h1⟩:=tA (aE.same (E:=fK) dL hv hY) hri;refine fC (du p0 p5 p6 @aH i1 ld1 h1.len ?_);by_cases ha:a<M[i].length;rotate_left
   ·refine aM (by simp only[↓sU,sD,rE,↓reduceIte,rA,Aa (show ¬ (a:Int)<((M[i].length:Nat):Int) by omega)]) (bJ ?_);refine ae ?_;obtain rfl:k'=0:=by omega
    exact⟨rfl,hY,a,hak,by refine⟨?_,?_,?_,?_⟩<;>simp only[↓sU,sD,rE,↓reduceIte,rA,p0,p1,p5,p6]⟩
   refine aN (by simp only[↓sU,sD,rE,↓reduceIte,rA,Ac (show(a:Int)<((M[i].length:Nat):Int) by omega)]) (aI ?_);try refine ae ?_
   have w2:=dh a
   have⟨b1,q1,r1,b2,q2,e,i1,l1,ld1,sm1,i2,l2,ld2,sm2,hE,hT⟩:=vA hv hY ht hri ha;have⟨b3,q3,r3,b4,q4,e',i3,l3,ld3,sm3,i4,l4,ld4,sm4,hE',_⟩:=vA hw hY ht hri ha;have low:∀ {c},c<S.nx->c<Y.nx:=fun hc=>Ae hc hY.1;refine aA (aK (aA (gS (fun _=>False) ?_)));intro Z z;simp only[↓sU,sD,rE,↓reduceIte,rA,p0,p1,p5,p6,aH,Ak,i1,low l1,ld1,sm1,i2,low l2,ld2,sm2,i3,low l3,ld3,sm3,i4,low l4,ld4,sm4];refine cU rfl ?_;refine ae ?_;refine aW (aC4 H (kB hE z) (kB hE' z) hT) ?_;rintro _ U ⟨u,t,rfl,htt⟩;obtain rfl:t=true:=htt.2 rfl;refine⟨u,?_⟩;refine dn @eM @bF ?_;refine aM (by simp only[↓sU,sD,rE,↓reduceIte,rA,Cc]) (aI ?_);refine ae ?_;refine aJ (dn p6 w2 ?_);exact⟨k' - 1,ar,rfl,hY.trans (z.trans u),a+1,ar,by refine⟨?_,?_,?_,?_⟩<;>simp only[↓sU,sD,rE,↓reduceIte,rA,p0,p1,p5]⟩
  ·clear p0 p1 p5;rintro o ⟨F,inr⟩ Y ⟨rfl,q0,hY,a,hak,p0,p1,p5,_⟩;simp only at q0 p0 p1 p5;subst q0;try refine ae ?_
   refine aJ (dn p5 w1 ?_);exact⟨k - 1,ar,rfl,hY,i+1,ar,by refine⟨?_,?_,?_⟩<;>simp only[↓sU,sD,rE,↓reduceIte,rA,p0,p1]⟩
 rintro o ⟨F,inr⟩ X ⟨rfl,q0,hX⟩;simp only at q0;subst q0;try refine ae ?_
 refine bO (ae ?_);refine aP (ae ?_);exact hX
section
variable {g:aS}{L:a9}{s:List (List dD)}
theorem aNd(ht:oI s){i a:Nat}:aCt (nO s i a):=by
 unfold nO;rw[Ad];cases hx:(s.getD i [])[a]? with
 | none=>exact⟨by decide,by decide⟩
 | some x=>
  rw[Ad] at hx;cases hr:s[i]? with
  | none=>rw[hr] at hx;simp at hx
  | some r=>
   rw[hr] at hx;exact ht r (Ar hr) x (Ar hx)
def aQm(Z1 Z2:St)(r1 r2:AV):Prop:=∃ (e:Int) (v1 v2:AV) (M:List (List dD)),r1= .tup [v1,.int .i64 e]/\r2= .tup [v2,.int .i64 e]/\aE 1 fK Z1 v1 M/\aE 1 fK Z2 v2 M/\oI M/\M.length<=100000/\∀r∈M,r.length<=100000
theorem xI{Z1 Z2:St}{e:Int}:aQm Z1 Z2 (.tup [.bw,.int .i64 e]) (.tup [.bw,.int .i64 e]):=
 ⟨e,.bw,.bw,[],rfl,rfl,.inl ⟨rfl,.inl rfl⟩,.inl ⟨rfl,.inl rfl⟩,fun _ h=>(by cases h),Du _,fun _ h=>(by cases h)⟩
theorem aKP{Z1 Z2:St}{r1 r2:AV}(ht:oI s)(h1:xM g L .bw (aHM g s Z1) r1)(h2:xM g L .bw (aHM g s Z2) r2):aQm Z1 Z2 r1 r2:=by
 rcases aEI h1 h2 with⟨e,rfl,rfl⟩ | ⟨first,act,h0,hO,hD,hA,k1,k2⟩
 ·exact xI
 have G:=gF (iS h0).1;have hNI:=G.ni;rcases k1 with⟨f1,rfl⟩ | ⟨f1,v1,rfl,i1⟩
 ·rcases k2 with⟨_,rfl⟩ | ⟨f2,_⟩
  ·exact xI
  ·exact absurd f2 f1
 ·rcases k2 with⟨f2,_⟩ | ⟨_,v2,rfl,i2⟩
  ·exact absurd f1 f2
  ·refine⟨0,v1,v2,_,rfl,rfl,i1,i2,fun r hr x hx=>?_,by rw[Aj,Ay];omega,fun r hr=>?_⟩
   ·obtain⟨i,_,rfl⟩:=Dg.1 hr;obtain⟨a,_,rfl⟩:=Dg.1 hx;exact aNd ht
   ·obtain⟨i,hi,rfl⟩:=Dg.1 hr;have:=qB G (Da.1 hi);unfold nE;rw[Aj,Ay];omega
theorem aLm{Z1 Z2:St}{r1 r2:AV}(ht:oI s)(h1:xM g L .bw (aLC g s Z1) r1)(h2:xM g L .bw (aLC g s Z2) r2):aQm Z1 Z2 r1 r2:=by
 rcases aEI h1 h2 with⟨e,rfl,rfl⟩ | ⟨first,act,h0,hO,hD,hA,k1,k2⟩
 ·exact xI
 have⟨hf0,hL16,hims⟩:=iS h0;have hAll:∀m∈L,eX g m:=fun m hm=>gR (iC hims m hm);have G:=gF hf0;have hR:=nC G hAll hO hD hA;have hrp:=yH (first:=first) G hR;have hRO:=aBb G hR hO;rcases k1 with⟨f1,rfl⟩ | ⟨f1,⟨y1,rfl⟩ | ⟨y1,v1,rfl,i1⟩⟩
 ·rcases k2 with⟨_,rfl⟩ | ⟨f2,_⟩
  ·exact xI
  ·exact absurd f2 f1
 ·rcases k2 with⟨f2,_⟩ | ⟨_,⟨_,rfl⟩ | ⟨y2,_⟩⟩
  ·exact absurd f1 f2
  ·exact xI
  ·exact absurd y2 y1
 ·rcases k2 with⟨f2,_⟩ | ⟨_,⟨y2,_⟩ | ⟨_,v2,rfl,i2⟩⟩
  ·exact absurd f1 f2
  ·exact absurd y1 y2
  ·have hrow:∀r∈(List.range (fJ g first act).length).map (aBW (fJ g first act) s),r∈s/\r.length<=1000:=fun r hr=>by
    obtain⟨j,hj,rfl⟩:=Dg.1 hr;have⟨h3,_⟩:=uR hRO (Da.1 hj);have⟨r,k3,k4⟩:=pP f1 h3;have:=qB G h3;unfold aBW;rw[Ad (l:=s),k3];exact⟨Ar k3,by show r.length<=1000;omega⟩
   exact⟨0,v1,v2,_,rfl,rfl,i1,i2,fun r hr=>ht r (hrow r hr).1,by rw[Aj,Ay];omega,fun r hr=>by have:=(hrow r hr).2;omega⟩
theorem aHo{r1 r2:AV}(h1:xM g L (.bool false) (aNV g s) r1)(h2:xM g L (.bool false) (aNV g s) r2):∃ (t:Bool) (e:Int),r1= .tup [.bool t,.int .i64 e]/\r2= .tup [.bool t,.int .i64 e]:=by
 rcases aEI h1 h2 with⟨e,rfl,rfl⟩ | ⟨first,act,h0,hO,hD,hA,k1,k2⟩
 ·exact⟨_,_,rfl,rfl⟩
 rcases k1 with⟨f1,rfl⟩ | ⟨f1,t1,rfl,i1⟩
 ·rcases k2 with⟨_,rfl⟩ | ⟨f2,_⟩
  ·exact⟨_,_,rfl,rfl⟩
  ·exact absurd f2 f1
 ·rcases k2 with⟨f2,_⟩ | ⟨_,t2,rfl,i2⟩
  ·exact absurd f1 f2
  ·obtain rfl:t1=t2:=by
    cases t1<;>cases t2
    ·rfl
    ·exact i1.2 (i2.1 rfl)
    ·exact(i2.2 (i1.1 rfl)).symm
    ·rfl
   exact⟨_,_,rfl,rfl⟩
theorem aC2{Z:St}{r:AV}{s:List (List dD)}{K:ba->a9->AV->Prop}{z:AV}(h:xM g L z K r)(hK:∀first act,K first act r->∃v e,r= .tup [v,.int .i64 e]):∃v e,r= .tup [v,.int .i64 e]:=by
 rcases h with⟨_,rfl⟩ | ⟨_,first,_,⟨_,rfl⟩ | ⟨_,act,_,h⟩⟩
 ·exact⟨_,_,rfl⟩
 ·exact⟨_,_,rfl⟩
 ·exact hK _ _ h
theorem aHe{S:St}{nv iv mv sv:AV}(H:Has fns)(hAw:∀S,fZ fns (.fn 47 [] []) [] S fun r S'=>r= .bool true/\Same S S')(hn:aE 6 bX S nv g.bh)(hi:aE 2 bP S iv g.bj)(hm:aE 1 iD S mv L)(hs:aE 1 fK S sv s)(ht:oI s):
  fZ fns (.fn 12 [] []) [.agg [.int .i64 g.bo,nv,iv],mv,sv] S fun r S'=>r= .bool true/\Same S S':=by
 refine cF H.f12 (by simp) ?_;refine am ?_;refine bO ?_;refine cI (by refine am ?_;exact aY _) ?_;intro S1 s1 n1 g1;refine am ?_;refine fC (ae ?_);refine bD (ae ?_);refine aW (hAw S1) ?_;rintro _ S2 ⟨rfl,s2⟩;refine dn @eM @Cc ?_;refine aM (af) (aI ?_);try refine ae ?_
 have s02:=s1.trans s2;have c2:=(s2.2 _ (show S.nx<S1.nx by omega)).trans g1;have hnl:=hn.len;have hml:=hm.len;have hsl:=hs.len;have l2:S.nx<S2.nx:=by have:=s2.1;omega
 refine aA (aA (aX (Q:=fun o A' X=>o= .normal/\A'.inr=false/\X=S2/\aD 1 A'.F=mv/\aD 2 A'.F=sv/\aD 3 A'.F= .ptr S.nx 0/\aD 34 A'.F= .bool (decide (40<g.bh.length\/17<L.length\/30<s.length))) (aJ ?_) ?_))
 ·by_cases h1:40<g.bh.length
  ·simp only[↓sU,sD,rE,↓reduceIte,rA,aC,aB,fR c2,hnl,Ac (show(g.bh.length:Int)>40 by omega),Ac (show 40<g.bh.length\/17<L.length\/30<s.length from .inl h1)]
  ·by_cases h2:17<L.length
   ·simp only[↓sU,sD,rE,↓reduceIte,rA,aC,aB,fR c2,hnl,hml,Ah,Aa (show ¬ (g.bh.length:Int)>40 by omega),Ac (show(L.length:Int)>17 by omega),Ac (show 40<g.bh.length\/17<L.length\/30<s.length from .inr (.inl h2))]
   ·by_cases h3:30<s.length
    ·simp only[↓sU,sD,rE,↓reduceIte,rA,aC,aB,fR c2,hnl,hml,hsl,Ah,Aa (show ¬ (g.bh.length:Int)>40 by omega),Aa (show ¬ (L.length:Int)>17 by omega),Ac (show(s.length:Int)>30 by omega),Ac (show 40<g.bh.length\/17<L.length\/30<s.length from .inr (.inr h3))]
    ·simp only[↓sU,sD,rE,↓reduceIte,rA,aC,aB,fR c2,hnl,hml,hsl,Ah,Aa (show ¬ (g.bh.length:Int)>40 by omega),Aa (show ¬ (L.length:Int)>17 by omega),Aa (show ¬ (s.length:Int)>30 by omega),Aa (show ¬ (40<g.bh.length\/17<L.length\/30<s.length) by omega)]
 rintro o ⟨F,inr⟩ X ⟨rfl,q0,rfl,p1,p2,p3,p34⟩;simp only at q0 p1 p2 p3 p34;subst q0;try refine ae ?_
 by_cases hb:40<g.bh.length\/17<L.length\/30<s.length
 ·refine aN (by simp only[↓sU,sD,rE,↓reduceIte,rA,p34,Ac hb]) ?_;refine bO (ae ?_);refine aP (ae ?_);exact s02
 refine aM (by simp only[↓sU,sD,rE,↓reduceIte,rA,p34,Aa hb]) (aI ?_);try refine ae ?_
 have hln:g.bh.length<=100000:=by omega
 have hall:∀Y,Same X Y->Y.h.get S.nx=some (.cells [.int .i64 g.bo,nv,iv] false 0)/\aE 6 bX Y nv g.bh/\aE 2 bP Y iv g.bj/\aE 1 iD Y mv L/\aE 1 fK Y sv s:=fun Y hY=>⟨(hY.2 _ l2).trans c2,aE.same (E:=bX) bL hn (s02.trans hY),aE.same (E:=bP) bK hi (s02.trans hY),aE.same (E:=iD) cm hm (s02.trans hY),aE.same (E:=fK) dL hs (s02.trans hY)⟩;have shL:∀ {Z r},xM g L .bw (aHM g s Z) r->∃v e,r= .tup [v,.int .i64 e]:=fun h=>aC2 (Z:=S) (s:=s) h fun _ _ h=>by
  rcases h with⟨_,h⟩ | ⟨_,v,h,_⟩
  ·exact⟨_,_,h⟩
  ·exact⟨_,_,h⟩
 have shW:∀ {Z r},xM g L .bw (aLC g s Z) r->∃v e,r= .tup [v,.int .i64 e]:=fun h=>aC2 (Z:=S) (s:=s) h fun _ _ h=>by
  rcases h with⟨_,h⟩ | ⟨_,⟨_,h⟩ | ⟨_,v,h,_⟩⟩
  ·exact⟨_,_,h⟩
  ·exact⟨_,_,h⟩
  ·exact⟨_,_,h⟩
 have⟨d1,d2,d3,d4,d5⟩:=hall X (dk _);refine bO (dq p1 p2 p3 (eJ d1) ?_);refine bD (ae ?_);refine aW (aJc H d2 d3 hln d4 d5 ht) ?_;rintro r1 S3 ⟨s3,hL1⟩;obtain⟨v1,e1,rfl⟩:=shL hL1;refine dn @rN @sA ?_;have⟨d1,d2,d3,d4,d5⟩:=hall S3 s3;refine bO (dq p1 p2 p3 (eJ d1) ?_);refine bD (ae ?_);refine aW (aIy H d2 d3 hln d4 d5 ht) ?_;rintro r2 S4 ⟨s4,hL2⟩;obtain⟨v2,e2,rfl⟩:=shL hL2;refine dn @rN @sA ?_;have t4:=s3.trans s4;have⟨d1,d2,d3,d4,d5⟩:=hall S4 t4;refine bO (dq p1 p2 p3 (eJ d1) ?_);refine bD (ae ?_);refine aW (aHN H d2 d3 hln d4 d5 ht) ?_;rintro r3 S5 ⟨s5,hW1⟩;obtain⟨v3,e3,rfl⟩:=shW hW1;refine dn @rN @sA ?_;have t5:=t4.trans s5;have⟨d1,d2,d3,d4,d5⟩:=hall S5 t5;refine bO (dq p1 p2 p3 (eJ d1) ?_);refine bD (ae ?_);refine aW (aGR H d2 d3 hln d4 d5 ht) ?_;rintro r4 S6 ⟨s6,hW2⟩;obtain⟨v4,e4,rfl⟩:=shW hW2;refine dn @rN @sA ?_;have t6:=t5.trans s6;have⟨d1,d2,d3,d4,d5⟩:=hall S6 t6;refine bO (dq p1 p2 p3 (eJ d1) ?_);refine bD (ae ?_);refine aW (aIR H d2 d3 hln d4 d5 ht) ?_;rintro r5 S7 ⟨s7,hY1⟩;obtain⟨_,_,rfl,_⟩:=aHo hY1 hY1;refine dn @rN @sA ?_;have t7:=t6.trans s7;have⟨d1,d2,d3,d4,d5⟩:=hall S7 t7;refine bO (dq p1 p2 p3 (eJ d1) ?_);refine bD (ae ?_);refine aW (aJd H d2 d3 hln d4 d5 ht) ?_;rintro r6 S8 ⟨s8,hY2⟩;have⟨t,e,q1,q2⟩:=aHo hY1 hY2;simp only[AV.tup.injEq,Bx,AV.int.injEq,AV.bool.injEq,Dt,Ed] at q1;obtain⟨rfl,rfl⟩:=q1;subst q2;refine dn @rN @sA ?_;have t8:=t7.trans s8;have⟨e',u1,u2,M,q1,q2,i1,i2,hTM,hM1,hM2⟩:=aKP ht hL1 hL2;simp only[AV.tup.injEq,Bx,AV.int.injEq,Dt,Ed] at q1 q2;obtain⟨rfl,rfl⟩:=q1;obtain⟨rfl,rfl⟩:=q2;have⟨e',u3,u4,M',q1,q2,i3,i4,hTM',hM1',hM2'⟩:=aLm ht hW1 hW2;simp only[AV.tup.injEq,Bx,AV.int.injEq,Dt,Ed] at q1 q2;obtain⟨rfl,rfl⟩:=q1;obtain⟨rfl,rfl⟩:=q2;have z48:=s5.trans (s6.trans (s7.trans s8));have z68:=s7.trans s8;refine bO (ae ?_);refine bD (ae ?_);refine aW (aEi H (aE.same (E:=fK) dL i1 (s4.trans z48)) (aE.same (E:=fK) dL i2 z48) hTM hM1 hM2) ?_;rintro _ S9 ⟨rfl,s9⟩;simp only[↓sU,sD,rE,↓reduceIte,rA,decide_true];refine bD (ae ?_);refine aW (aEi H (aE.same (E:=fK) dL i3 (s6.trans (z68.trans s9))) (aE.same (E:=fK) dL i4 (z68.trans s9)) hTM' hM1' hM2') ?_;rintro _ Sa ⟨rfl,sa⟩;simp only[↓sU,sD,rE,↓reduceIte,rA,decide_true,aBg,Dk];refine aP (ae ?_);exact s02.trans (t8.trans (s9.trans sa))
end
end Go.Ev.Gl
