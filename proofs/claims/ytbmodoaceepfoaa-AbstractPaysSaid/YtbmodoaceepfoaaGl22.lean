import Derived.Test.YtbmodoaceepfoaaGl21
set_option linter.all false
open Nat renaming reduceEqDiff -> rE, reduceAdd -> rA
set_option maxHeartbeats 0
namespace Go.Ev.Gl
variable {fns:T fD}
variable {S X S0:St}{v nv iv mv fv:AV}{L:bo}{i b ub mb r t1 t2 b9 bc b4 b5 b7 ob NI fm b17 b18:Nat}{g:aP}{l first:bt}{h:Ev.T AB}{x:cQ}{F:Fr}{V:Type}{sk:tC}{d:List (AV×AV)}{Q:Out->bO->St->Prop}{A:bO}{R:Nat->bt}{cs:bu}
def xI(h:aE 1 nM S v L)(hi:i<L.length):∃b q a,eY (.slice 1) v i=some (.ptr b q)/\bN .i64 S a (L.getD i [])/\b<S.nx/\∀X,jq S X->eE (.ptr b q) false 1 X.h=some a:=by
 obtain⟨_,b,q,e,c,_,⟨a,rfl,f⟩,_,j⟩:=aE.at h az (uZ hi);have d:=j 0 a rfl;rw[Bw] at d;exact⟨b,q,a,e,f,c,fun X n=>by rw[eM n c];exact d⟩
def aVf(S:St)(nv iv mv:AV)(g:aP)(L:bo)(k:Nat)(A:bO)(X:St):Prop:=A.inr=false/\jq S X/\S.nx<X.nx/\X.h.get S.nx=js [jr g.ch,nv,iv]/\∃j:Nat,j+k=L.length/\lI g L=lI g (L.drop j)/\aA 1 A.F=mv/\aA 2 A.F= .ptr S.nx 0/\aA 6 A.F=jr (j:Int)
def aHM(H:Has fns)(I:aE 6 bT S nv g.ce)(hi:aE 2 cC S iv g.cg)(s:g.ce.length<=100000)(N:aE 1 nM S mv L):
  iK fns (.fn 28 [] []) [.agg [jr g.ch,nv,iv],mv] S fun r S'=>r=jr (mI g L)/\jq S S':=by
 have O:=aE.self I;have P:=aE.self hi;refine cJ H.f28 (by simp) ?_;refine ae ?_;apply bS;refine dC (by refine ae ?_;exact bB _) ?_;intro S1 s1 n1 g1;refine ae ?_;refine fZ (c8 (gE g1) ?_);refine bJ (ae ?_);refine aW (vQ H (aE.jo (E:=bT) bF I s1) (aE.jo (E:=cC) bQ hi s1) s) ?_;rintro _ S2 ⟨rfl,s2⟩
 have e:=s1.trans s2;refine bS (ae ?_);by_cases q:cR g=0;rotate_left
 .have w:mI g L=cR g:=by unfold mI;rw[if_pos q]
  rw[w];refine aM (ja (Ac (show cR g≠0 from q))) ?_;refine bS (ae ?_);refine aS (ae ?_);exact e
 refine aK (ja (Aa (show ¬cR g≠0 from fun h=>h q))) (aG ?_);refine ae ?_
 apply fZ;refine dz ((aE.jo (E:=nM) fR N e).len) @Ag ?_;by_cases y:16<L.length
 .have w:mI g L=4:=by unfold mI;rw[if_neg (fun h=>h q),if_pos y]
  rw[w];refine aM i7 ?_;refine bS (ae ?_);refine aS (ae ?_);exact e
 have w:mI g L=lI g L:=by unfold mI;rw[if_neg (fun h=>h q),if_neg y]
 rw[w];refine aK i7 (aG ?_);refine ae ?_
 have G:=gR q;have m2:=s2.1;have z:S2.h.get S.nx=js [jr g.ch,nv,iv]:=(s2.2 _ au).trans g1;refine aB (aX (Q:=fun o A' X=>(o= .normal/\jq S X/\lI g L=0)\/(o= .ret/\jq S X/\aA 4 A'.F=jr (lI g L))) (aB (aF ?_)) ?_)
 .refine ae ?_;refine aJ (bL (aVf S nv iv mv g L) ?_ L.length _ _ ⟨rfl,e,au,z,0,au,rfl,af,af,ag⟩);rintro k ⟨F,inr⟩ X ⟨rfl,c,i,gX,j,ac,d,J,R,M⟩;simp only at J R M;apply fZ;refine ec J M ((aE.jo (E:=nM) fR N c).len) @Ag ?_;by_cases n:j<L.length;rotate_left
  .refine aK i7 (bH ?_);refine ae ?_;obtain rfl:j=L.length:=by omega
   rw[List.drop_length] at d;exact .inl ⟨c,d⟩
  refine aM i7 (aG ?_);refine ae ?_
  have w1:=du j
  have⟨xb,xq,a,xi,T,U,W⟩:=xI N n;have W:=W X c;have sa:=bN.self T;have Y:xb<X.nx:=Ae U c.1;have A:=aEj (g:=g) n;have B:=aEE (g:=g) n;generalize L.getD j []=m at *;have l3:=gE gX;have Z:cI (.agg [jr g.ch,nv,iv]) (.agg [jr g.ch,nv,iv])=true:=by
   simp only[cI,kG,O,P,fH,jA,decide_true,aL,Dr]
  refine aB (aJ (aB (iN (fun _=>False) ?_)));intro X0 x0;refine fg J R M l3 i @Ap Z xi W sa Y ?_;refine dT rfl ?_;refine ae ?_;refine aW (aC3 (ok:=iQ g m) H (aE.jo (E:=bT) bF I (c.trans x0)) (T.jo (c.trans x0)) s (fun h1 h2 _ S' p=>aW (yY H (aE.jo (E:=bT) bF I ((c.trans x0).trans p)) (aE.jo (E:=cC) bQ hi ((c.trans x0).trans p)) (T.jo ((c.trans x0).trans p)) G ⟨h1,h2⟩) fun r an h=>by
   have⟨e1,a,b,t,e2,e3,_⟩:=h;exact⟨e1,a,b,t,e2,e3⟩)) ?_
  rintro _ X1 ⟨rfl,x1⟩;refine⟨x1,?_⟩
  have C:=(c.trans x0).trans x1;have aa:=((x0.trans x1).2 _ i).trans gX;have D:S.nx<X1.nx:=Ae i (x0.trans x1).1;refine bS (ae ?_);by_cases f:jT g.ce.length m (iQ g m)=0;rotate_left
  .rw[B f] at d;refine aM (ja (Ac (show jT g.ce.length m (iQ g m)≠0 from f))) ?_;refine bS (ae ?_);apply aS;exact .inr ⟨rfl,C,ah d⟩
  refine aK (ja (Aa (show ¬jT g.ce.length m (iQ g m)≠0 from fun h=>h f))) (aG ?_);refine ae ?_
  refine aF (dz M w1 ?_);exact⟨k - 1,au,rfl,C,D,aa,j+1,au,by rw[d];exact A f,ah J,ah R,af⟩
 rintro o ⟨F,inr⟩ X (⟨rfl,c,ab⟩|⟨rfl,c,p4⟩)
 .refine ae ?_
  refine bS (ae ?_);refine aS (c8 ab ?_);exact c
 .simp only at p4;refine c8 p4 ?_;exact c
def aUj(S:St)(nv iv mv:AV)(g:aP)(L:bo)(k:Nat)(A:bO)(X:St):Prop:=A.inr=false/\jq S X/\S.nx<X.nx/\X.h.get S.nx=js [jr g.ch,nv,iv]/\∃ (j:Nat) (v:AV) (cs:bu),j+k=L.length/\fC 1 S X v j cs/\qJ S X v cs ((L.take j).map (dh g))/\aA 1 A.F=mv/\aA 2 A.F= .ptr S.nx 0/\aA 8 A.F=v/\aA 9 A.F=jr (j:Int)
def aHa(H:Has fns)(hn:aE 6 bT S nv g.ce)(hi:aE 2 cC S iv g.cg)(aV:g.ce.length<=100000)(R:aE 1 nM S mv L):
  iK fns (.fn 8 [] []) [.agg [jr g.ch,nv,iv],mv] S fun r S'=>jq S S'/\∃x y,r= .tup [x,y,jr (mI g L)]/\(mI g L≠0->x= .cr/\y= .cr)/\(mI g L=0->∃a b,oM S S' x a/\oM S S' y b/\aTr g L a b):=by
 have U:=aE.self hn;have W:=aE.self hi;have aZ:cI (.agg [jr g.ch,nv,iv]) (.agg [jr g.ch,nv,iv])=true:=by
  simp only[cI,kG,U,W,fH,jA,decide_true,aL,Dr]
 refine cJ H.f8 (by simp) ?_;refine ae ?_;apply bS;refine dC (by refine ae ?_;exact bB _) ?_;intro S1 s1 n1 g1;refine ae ?_;refine fZ (c8 (gE g1) ?_);refine bJ (ae ?_);refine aW (aHM H (aE.jo (E:=bT) bF hn s1) (aE.jo (E:=cC) bQ hi s1) aV (aE.jo (E:=nM) fR R s1)) ?_;rintro _ S2 ⟨rfl,s2⟩
 have Y:=s1.trans s2;refine bS (ae ?_);by_cases T:mI g L=0;rotate_left
 .refine aM (ja (Ac (show mI g L≠0 from T))) ?_;refine bS (ae ?_);refine aS (ae ?_);exact⟨Y,.cr,.cr,rfl,fun _=>⟨rfl,rfl⟩,fun h=>absurd h T⟩
 refine aK (ja (Aa (show ¬mI g L≠0 from fun h=>h T))) (aG ?_);refine ae ?_
 have⟨hf,bq,a0⟩:=aCc T;have z:∀m∈L,gF g m:=fun m R=>rV (uR a0 m R);have⟨Z,aa⟩:=aJp hf z;have G:=gR hf;have m2:=s2.1;have ab:S2.h.get S.nx=js [jr g.ch,nv,iv]:=(s2.2 _ au).trans g1;refine bS (ae ?_);refine aB (aX (Q:=fun o A' X=>o= .normal/\aUj S nv iv mv g L 0 A' X) (aB (aF ?_)) ?_)
 .refine ae ?_;refine aJ (bL (aUj S nv iv mv g L) ?_ L.length _ _ ⟨rfl,Y,au,ab,0,.cr,[],au,.inl ⟨rfl,rfl,rfl⟩,⟨rfl,fun j hj=>absurd hj (Bo j)⟩,af,af,af,ag⟩);rintro k ⟨F,inr⟩ X ⟨rfl,i,f,A,j,v,cs,ac,D,hR,q,B,C,p9⟩;simp only at q B C p9;apply fZ;refine ec q p9 ((aE.jo (E:=nM) fR R i).len) @Ag ?_;by_cases p:j<L.length;rotate_left
  .refine aK i7 (bH ?_);refine ae ?_;obtain rfl:k=0:=by omega
   exact⟨rfl,i,f,A,j,v,cs,ac,D,hR,ah q,ah B,ah C,ah p9⟩
  refine aM i7 (aG ?_);refine ae ?_
  have w1:=du j
  have⟨xb,xq,a,xi,xs,a1,xl⟩:=xI R p;have xl:=xl X i;have sa:=bN.self xs;have a2:xb<X.nx:=Ae a1 i.1;have an:L.getD j []∈L:=by rw[Ad,Ab p];exact Bl p
  have a4:L.take (j+1)=L.take j++ [L.getD j []]:=by
   rw[Cc,Ab p,Ad,Ab p];rfl
  generalize L.getD j []=m at *;have AM:=z m an;have l3:=gE A;refine aB (aJ (aB (iN (fun _=>False) ?_)));intro X0 x0;refine fg q B p9 l3 f @Ap aZ xi xl sa a2 ?_;refine dT rfl ?_;refine ae ?_;refine aW (yY H (aE.jo (E:=bT) bF hn (i.trans x0)) (aE.jo (E:=cC) bQ hi (i.trans x0)) (xs.jo (i.trans x0)) G AM.M) ?_;rintro _ X1 ⟨x1,ra,rb,t,rfl,ht,a5⟩;have⟨I,_⟩:=a5 (ht.2 AM.A);refine⟨x1,?_⟩;refine c8 @ex2 ?_;have ba:(dh g m).length=g.cg.length:=by simp [dh]
  rw[<-ba] at I;have s:=I.is;have w:=x0.trans x1;have bb:=i.trans w;have bs:=(w.2 _ f).trans A;have bp:S.nx<X1.nx:=Ae f w.1;have ao:∀c,aN ra=some c->X.nx<=c:=fun c d=>Aq x0.1 (I.blk d).1;refine aF (fx C ?_);refine fQ (aBD s (aq)) ?_;intro X4 x4 m4 c4;have bd:=bb.trans x4;have J:=w.trans x4;have⟨v',X5,eA,e1,e2,e3,e4⟩:=(D.step J).push1 (bytes:=24) (t:=X1.nx) bd c4 ay ay;refine fx C ?_;refine eK (fun call=>by refine fx @fB ?_;exact eA) ?_;refine ae ?_;refine aF (dz p9 w1 ?_);have aw:∀c,aN v=some c->S.nx<=c/\c<X.nx:=fun c d=>⟨(D.blk d).1,(D.blk d).2.1⟩;have M:aN v≠some S.nx:=D.off A;have n4:=J.1;have N:∀c,c<X.nx->aN v≠some c->X5.h.get c=X.h.get c:=fun c d O=>(e4 c au O).trans (J.2 c d);refine⟨k - 1,au,rfl,⟨au,fun c d=>?_⟩,au,(N _ f M).trans A,j+1,v',_,au,e1,?_,ah q,ah B,af,af⟩
  .rw[N c (Ae d i.1) fun e=>by have:=(aw c e).1;omega];exact i.2 c d
  .rw[a4,Cf,List.map_singleton];refine hR.push i.1 au (fun c d _ O=>N c d O) (eH (s.jo x4) au fun c d=>e4 c ?_ ?_) (fun c d=>⟨ao c d,?_⟩) fun c d=>?_
   .exact dK (s.jo x4) d
   .intro e;have:=(aw c e).2;have:=ao c d;omega
   .rw[e2];intro e;cases e;have:=dK s d;have h4:X1.nx<=X4.nx:=x4.1;omega
   .rw[e2] at d;cases d;omega
 rintro o ⟨F,inr⟩ X ⟨rfl,rfl,i,f,A,j,v,cs,ac,D,hR,q,B,C,_⟩;simp only at q B C;obtain rfl:j=L.length:=by omega
 rw[Eo] at hR;have P:=hR.is D (Av ..).symm;have be:=aE.len hn;have bj:=aE.len hi;have bv:=G.n2;have bw:=G.ni;refine ae ?_
 refine aB (iN (fun _=>False) ?_);intro X0 x0;refine fe q B C (fN A) f @Ap U be @Ag ?_;refine dT rfl ?_;refine ae ?_;refine aW (aEA (n:=g.ce.length) H au (aE.jo (E:=nM) fR R (i.trans x0)) au Z) ?_;rintro oa Y1 ⟨y1,a,ha,bk⟩;refine⟨y1,?_⟩;refine fe q B C (jE A) f @Ap W bj @Ag ?_;refine dT rfl ?_;refine ae ?_;refine aW (aEA (n:=g.cg.length) H au (aE.jo (E:=nM) fR P (x0.trans y1)) (by rw[Av];omega) aa) ?_;rintro ob Y2 ⟨y2,b,hb,bm⟩;refine⟨y2,?_⟩
 refine aS (ae ?_);have aI:=((i.trans x0).trans y1).trans y2;have low:∀ {S0 S1 X:St} {v:AV} {l:bt},oM S1 X v l->S0.nx<=S1.nx->oM S0 X v l:=fun h hs=>by
  have⟨b,h1,h2,h3,h4⟩:=h;exact⟨b,h1,Aq hs h2,h3,h4⟩
 exact⟨aI,oa,ob,by rw[T],fun h=>absurd T h,fun _=>⟨a,b,low (ha.jo y2) (i.trans x0).1,low hb ((i.trans x0).trans y1).1,bk,bm⟩⟩
abbrev K2:=Nat×Nat
variable {y:K2}{u u0:K2->Option K2}{E:K2->K2->Prop}
def oY{K V:Type} [DecidableEq K](k:K):List (K×V)->Nat->Option (Nat×V)
 | [],_=>none
 | (k',v)::l,i=>if k=k' then some (i,v) else oY k l (i+1)
def lkp{K V:Type} [DecidableEq K](l:List (K×V))(k:K):Option V:=(oY k l 0).map (·.2)
def aLK{K V:Type} [DecidableEq K](l:List (K×V))(k:K)(v:V):List (K×V):=match oY k l 0 with
 | some (i,_)=>l.set i (k,v)
 | none=>l++ [(k,v)]
section
variable {K V:Type} [DecidableEq K]{l:List (K×V)}{k k':K}{v:V}
def xT:∀ {l:List (K×V)} {i:Nat},oY k l (i+1)=(oY k l i).map fun p=>(p.1+1,p.2)
 | [],i=>rfl
 | (k',v)::l,i=>by
  show(if k=k' then some (i+1,v) else oY k l (i+1+1))=(if k=k' then some (i,v) else oY k l (i+1)).map _;by_cases e:k=k'
  .rw[if_pos e,if_pos e];rfl
  .rw[if_neg e,if_neg e,xT]
def sT{p:K×V}:lkp (p::l) k=if k=p.1 then some p.2 else lkp l k:=by
 have⟨a,b⟩:=p;unfold lkp;show(if k=a then some (0,b) else oY k l (0+1)).map _=_;by_cases e:k=a
 .rw[if_pos e,if_pos e];rfl
 .rw[if_neg e,if_neg e,xT,Option.map_map];rfl
def aNs:lkp (l++ [(k,v)]) k'=match lkp l k' with | some w=>some w | none=>if k'=k then some v else none:=by
 induction l with
 | nil=>
  show lkp [(k,v)] k'=_;rw[sT];rfl
 | cons p l b=>
  show lkp (p::(l++ [(k,v)])) k'=_;rw[sT,sT,b];by_cases e:k'=p.1
  .rw[if_pos e,if_pos e]
  .rw[if_neg e,if_neg e]
def aFd:∀ {l:List (K×V)} {i:Nat} {w:V},oY k l 0=some (i,w)->i<l.length/\∀k',lkp (l.set i (k,v)) k'=if k'=k then some v else lkp l k'
 | [],i,w,h=>by cases h
 | (a,b)::l,i,w,h=>by
  have h:(if k=a then some (0,b) else oY k l (0+1))=some (i,w):=h;by_cases e:k=a
  .rw[if_pos e] at h;cases h;refine⟨Nat.succ_pos _,fun k'=>?_⟩;show lkp ((k,v)::l) k'=_;rw[sT,sT];by_cases c:k'=k
   .rw[if_pos c,if_pos c]
   .rw[if_neg c,if_neg c,if_neg (by rw[<-e];exact c)]
  .rw[if_neg e,xT] at h;have⟨⟨j,w'⟩,d,f⟩:=Bc.1 h;cases f;have⟨n,p⟩:=aFd d;refine⟨Nat.succ_lt_succ n,fun k'=>?_⟩;show lkp ((a,b)::l.set j (k,v)) k'=_;rw[sT,sT,p];by_cases c:k'=a
   .have:k'≠k:=fun q=>e (q ▸ c);rw[if_pos c,if_pos c,if_neg this]
   .rw[if_neg c,if_neg c]
def aJU(h:oY k l 0=none):lkp l k=none:=by unfold lkp;rw[h];rfl
def aPW:lkp (aLK l k v) k'=if k'=k then some v else lkp l k':=by
 unfold aLK;cases h:oY k l 0 with
 | none=>
  show lkp (l++ [(k,v)]) k'=_;rw[aNs];by_cases e:k'=k
  .rw[if_pos e,e,aJU h,if_pos rfl]
  .rw[if_neg e,if_neg e];cases lkp l k'<;>rfl
 | some p=>
  have⟨i,w⟩:=p;exact(aFd h).2 k'
end
def lF(k:K2):AV:=.agg [jr (k.1:Int),jr (k.2:Int)]
def aAG{K V:Type}(ek:K->AV)(ev:V->AV)(l:List (K×V)):List (AV×AV):=l.map fun p=>(ek p.1,ev p.2)
def skK:tC:=.struct [(0,.int),(1,.int)]
def aK2(a b:K2):eqv skK (lF a) (lF b)=some (decide (a=b)):=by
 have⟨c,d⟩:=a;have⟨f,h⟩:=b;show bX true (bX true (eqs [(0,.int),(1,.int)] [.int .i64 (c:Int),.int .i64 (d:Int)] [.int .i64 (f:Int),.int .i64 (h:Int)]) none) none=_;rw[aL,aL];have n:xZ .int (.int .i64 (c:Int)) (.int .i64 (f:Int))=some (decide (c=f)):=by
  show bX (keq .i64 .i64) (some (ieq (c:Int) (f:Int))) none=_;rw[fH,aL,jA];by_cases e:c=f
  .rw[Ac e,e,Dr]
  .rw[Aa e,beq_eq_false_iff_ne.2 au]
 have p:xZ .int (.int .i64 (d:Int)) (.int .i64 (h:Int))=some (decide (d=h)):=by
  show bX (keq .i64 .i64) (some (ieq (d:Int) (h:Int))) none=_;rw[fH,aL,jA];by_cases e:d=h
  .rw[Ac e,e,Dr]
  .rw[Aa e,beq_eq_false_iff_ne.2 au]
 show(match xZ .int (.int .i64 (c:Int)) (.int .i64 (f:Int)) with | some true=>(match xZ .int (.int .i64 (d:Int)) (.int .i64 (h:Int)) with | some true=>some true | some false=>some false | none=>none) | some false=>some false | none=>none)=_;rw[n,p];by_cases i:c=f
 .by_cases j:d=h
  .subst i j;simp
  .simp [i,j]
 .simp [i]
section
variable {K V:Type} [DecidableEq K]{ek:K->AV}{ev:V->AV}{sk:tC}
def aEX(c:∀a b,eqv sk (ek a) (ek b)=some (decide (a=b))){k:K}:∀ {l:List (K×V)} {i:Nat},sM sk (ek k) (aAG ek ev l) i=some ((oY k l i).map fun p=>(p.1,ev p.2))
 | [],i=>rfl
 | (k',v)::l,i=>by
  show(bD (eqv sk (ek k) (ek k')) fun b=>bX b (some (some (i,ev v))) (sM sk (ek k) (aAG ek ev l) (Nat.succ i)))=_;rw[c,aH];show _=some ((if k=k' then some (i,v) else oY k l (i+1)).map fun p=>(p.1,ev p.2));by_cases e:k=k'
  .rw[Ac e,aL,if_pos e];rfl
  .rw[Aa e,aR,if_neg e];exact aEX c
def xS(c:∀a b,eqv sk (ek a) (ek b)=some (decide (a=b))){k:K}{l:List (K×V)}:pL sk (ek k) (aAG ek ev l)=some ((oY k l 0).map fun p=>(p.1,ev p.2)):=by
 unfold pL;rw[c,aH];exact aEX c
def aEP(ek:K->AV)(ev:V->AV)(h:Ev.T AB)(b:Nat)(f:K->Option V):Prop:=∃l,h.get b=some (.map (aAG ek ev l))/\∀k,lkp l k=f k
def pV(f:K->Option V)(k:K)(v:V):K->Option V:=fun k'=>if k'=k then some v else f k'
def aKF(d:∀a b,eqv sk (ek a) (ek b)=some (decide (a=b))){f:K->Option V}(e:aEP ek ev h b f){k:K}{z:AV}{m:cQ}(i:m.val F= .map b)(j:x.val F=ek k):iC (.lookup sk z true m x) F h=some (match f k with | some v=>.tup [ev v,.bool true] | none=>.tup [z,.bool false]):=by
 have⟨l,n,q⟩:=e;show(bD (uW h (m.val F)) fun c=>bD (pL sk (x.val F) c) fun r=>pM r z true)=_;rw[i,j];show(bD (bD (h.get b) tS) fun c=>bD (pL sk (ek k) c) fun r=>pM r z true)=_;rw[n,aH];show bD (some (aAG ek ev l)) _=_;rw[aH,xS d,aH,<-q k];unfold lkp;cases oY k l 0 with
 | none=>rfl
 | some p=>rfl
def aH1(j:∀a b,eqv sk (ek a) (ek b)=some (decide (a=b))){f:K->Option V}(n:aEP ek ev h b f){k:K}{z:AV}{m:cQ}{v:V}(q:m.val F= .map b)(s:x.val F=ek k)(t:f k=some v):iC (.lookup sk z false m x) F h=some (ev v):=by
 have⟨l,y,A⟩:=n;show(bD (uW h (m.val F)) fun c=>bD (pL sk (x.val F) c) fun r=>pM r z false)=_;rw[q,s];show(bD (bD (h.get b) tS) fun c=>bD (pL sk (ek k) c) fun r=>pM r z false)=_;rw[y,aH];show bD (some (aAG ek ev l)) _=_;have e:=A k;rw[t] at e;unfold lkp at e;rw[aH,xS j,aH];cases d:oY k l 0 with
 | none=>rw[d] at e;cases e
 | some p=>
  rw[d] at e;have⟨i,w⟩:=p;cases e;rfl
end
def aBl{b:Type}{x:b}:∀ {l:List b} {i:Nat},qM (fun _=>x) l i=l.set i x
 | [],i=>rfl
 | y::l,0=>rfl
 | y::l,i+1=>by
  show bX (Nat.beq (i+1) 0) (x::l) (y::qM (fun _=>x) l (i+1 - 1))=y::l.set i x;rw[show Nat.beq (i+1) 0=false from rfl,aR,Ez,aBl]
def aIo{K:Type} [DecidableEq K]{ek:K->AV}{ev:V->AV}(h:∀a b,eqv sk (ek a) (ek b)=some (decide (a=b))){f:K->Option V}(i:aEP ek ev S.h b f)(k:K)(v:V):∃X,rJ (.map b) sk (ek k) (ev v) S=some (.undef,X)/\X.nx=S.nx/\(∀c,c≠b->X.h.get c=S.h.get c)/\aEP ek ev X.h b (pV f k v):=by
 have⟨l,j,n⟩:=i;have e:aAv ((oY k l 0).map fun p=>(p.1,ev p.2)) (aAG ek ev l) (ek k) (ev v)=aAG ek ev (aLK l k v):=by
  unfold aLK;cases oY k l 0 with
  | none=>
   show yQ (aAG ek ev l) [(ek k,ev v)]=_;rw[fT];unfold aAG;rw[Cf];rfl
  | some p=>
   show qM (fun _=>(ek k,ev v)) (aAG ek ev l) p.1=aAG ek ev (l.set p.1 (k,v));rw[aBl];unfold aAG;rw[List.map_set]
 refine⟨⟨S.h.set b (some (.map (aAG ek ev (aLK l k v)))),S.nx⟩,?_,rfl,fun c q=>by simp only;rw[dx,if_neg q],aLK l k v,jh,fun k'=>?_⟩
 .show(bD (bD (S.h.get b) tS) fun d=>bD (pL sk (ek k) d) fun r=>some (AV.undef,(⟨S.h.set b (some (.map (aAv r d (ek k) (ev v)))),S.nx⟩:St)))=_;rw[j,aH];show bD (some (aAG ek ev l)) _=_;rw[aH,xS h,aH,e]
 .rw[aPW,n];rfl
abbrev aDd{V:Type}(ev:V->AV)(h:Ev.T AB)(b:Nat)(f:K2->Option V):Prop:=aEP lF ev h b f
def aK3{ev:V->AV}{f:K2->Option V}(c:aDd ev h b f){k:K2}{z:AV}{m:cQ}(d:m.val F= .map b)(e:x.val F=lF k):iC (.lookup (.struct [(0,.int),(1,.int)]) z true m x) F h=some (match f k with | some v=>.tup [ev v,.bool true] | none=>.tup [z,.bool false]):=aKF aK2 c d e
def aEg{ev:V->AV}{f:K2->Option V}(d:aDd ev S.h b f)(k:K2)(v:V):∃X,rJ (.map b) (.struct [(0,.int),(1,.int)]) (lF k) (ev v) S=some (.undef,X)/\X.nx=S.nx/\(∀c,c≠b->X.h.get c=S.h.get c)/\aDd ev X.h b (pV f k v):=aIo aK2 d k v
inductive kI{α:Type}(E:α->α->Prop):α->α->Prop where
 | edge {x y:α}:E x y->kI E x y
 | refl (x:α):kI E x x
 | symm {x y:α}:kI E x y->kI E y x
 | trans {x y z:α}:kI E x y->kI E y z->kI E x z
inductive eQ(u:K2->Option K2):K2->K2->Prop where
 | root {k:K2} (h:u k=none):eQ u k k
 | step {k a r:K2} (h:u k=some a) (h2:eQ u a r):eQ u k r
structure UpK(u:K2->Option K2)(E:K2->K2->Prop):Prop where
 rk:∃rk:K2->Nat,∀k a,u k=some a->rk a<rk k
 con:∀k a,u k=some a->kI E k a
section
variable {u:K2->Option K2}{E:K2->K2->Prop}{k a o r r' x:K2}
def UpK.ex(h:UpK u E):∀k,∃r,eQ u k r:=by
 have⟨c,b⟩:=h.rk;have key:∀n k,c k=n->∃r,eQ u k r:=fun n=>by
  induction n using Nat.strongRecOn with
  | _ n d=>
   intro k i;cases e:u k with
   | none=>exact⟨k,.root e⟩
   | some a=>
    have⟨r,f⟩:=d (c a) (by have:=b k a e;omega) a rfl;exact⟨r,.step e f⟩
 exact fun k=>key _ k rfl
def eQ.uni(h:eQ u k r):∀ {r'},eQ u k r'->r=r':=by
 induction h with
 | root e=>
  intro r' h';cases h' with
  | root _=>rfl
  | step b _=>rw[e] at b;cases b
 | step e _ c=>
  intro r' h';cases h' with
  | root b=>rw[b] at e;cases e
  | step b d=>
   rw[e] at b;cases b;exact c d
def eQ.none(h:eQ u k r):u r=none:=by
 induction h with
 | root e=>exact e
 | step _ _ b=>exact b
def eQ.ji(h:eQ u k r)(e:u k=some a):eQ u a r:=by
 cases h with
 | root b=>rw[e] at b;cases b
 | step b c=>rw[e] at b;cases b;exact c
def UpK.conr(h:UpK u E)(b:eQ u k r):kI E k r:=by
 induction b with
 | root e=>exact .refl _
 | step e _ c=>exact .trans (h.con _ _ e) c
def UpK.half(h:UpK u E)(i:u k=some a)(j:u a=some o):UpK (pV u k o) E/\∀x r,eQ u x r->eQ (pV u k o) x r:=by
 have⟨p,b⟩:=h.rk;have t:=b k a i;have w:=b a o j;have q:∀x y,pV u k o x=some y->(x=k/\y=o)\/(x≠k/\u x=some y):=fun x y c=>by
  unfold pV at c;split at c
  .rename_i e;cases c;exact .inl ⟨e,rfl⟩
  .rename_i e;exact .inr ⟨e,c⟩
 refine⟨⟨⟨p,fun x y c=>?_⟩,fun x y c=>?_⟩,fun x r d=>?_⟩
 .rcases q x y c with⟨rfl,rfl⟩|⟨_,e⟩
  .omega
  .exact b x y e
 .rcases q x y c with⟨rfl,rfl⟩|⟨_,e⟩
  .exact .trans (h.con _ _ i) (h.con _ _ j)
  .exact h.con x y e
 .have key:∀n x,p x=n->eQ u x r->eQ (pV u k o) x r:=fun n=>by
   induction n using Nat.strongRecOn with
   | _ n s=>
    intro x c d;by_cases e:x=k
    .subst e;refine .step (a:=o) (by unfold pV;rw[if_pos rfl]) (s (p o) au o rfl ((d.ji i).ji j))
    .cases d with
     | root f=>exact .root (by unfold pV;rw[if_neg e];exact f)
     | step f h'=>exact .step (by unfold pV;rw[if_neg e];exact f) (s _ (by have:=b _ _ f;omega) _ rfl h')
  exact key _ x rfl d
open Classical in
def UpK.join(h:UpK u E){ra rb:K2}(i:u ra=none)(j:u rb=none)(d:ra≠rb)(p:kI E ra rb):UpK (pV u ra rb) E/\∀x r,eQ u x r->eQ (pV u ra rb) x (if r=ra then rb else r):=by
 have⟨b,f⟩:=h.rk;have n:∀x y,pV u ra rb x=some y->(x=ra/\y=rb)\/(x≠ra/\u x=some y):=fun x y c=>by
  unfold pV at c;split at c
  .rename_i e;cases c;exact .inl ⟨e,rfl⟩
  .rename_i e;exact .inr ⟨e,c⟩
 refine⟨⟨⟨fun x=>if eQ u x ra then b x+(b rb+1) else b x,fun x y c=>?_⟩,fun x y c=>?_⟩,fun x r q=>?_⟩
 .show(if eQ u y ra then b y+(b rb+1) else b y)<if eQ u x ra then b x+(b rb+1) else b x;rcases n x y c with⟨rfl,rfl⟩|⟨_,e⟩
  .rw[if_neg (fun h'=>d (eQ.uni h' (.root j))),if_pos (.root i)];omega
  .have:=f x y e;by_cases h':eQ u x ra
   .rw[if_pos h',if_pos (h'.ji e)];omega
   .rw[if_neg h',if_neg (fun s=>h' (.step e s))];exact this
 .rcases n x y c with⟨rfl,rfl⟩|⟨_,e⟩
  .exact p
  .exact h.con x y e
 .induction q with
  | root e=>
   rename_i x;by_cases ex:x=ra
   .rw[if_pos ex,ex];exact .step (by unfold pV;rw[if_pos rfl]) (.root (by unfold pV;rw[if_neg (Ch d)];exact j))
   .rw[if_neg ex];exact .root (by unfold pV;rw[if_neg ex];exact e)
  | step e _ t=>
   rename_i x a r _;have ex:x≠ra:=fun h'=>by rw[h',i] at e;cases e
   exact .step (by unfold pV;rw[if_neg ex];exact e) t
def lE(u:K2->Option K2)(x y:K2):Prop:=∃r,eQ u x r/\eQ u y r
def lE.trans{z:K2}(e:lE u x y)(f:lE u y z):lE u x z:=by
 have⟨r,a,b⟩:=e;have⟨s,c,d⟩:=f;rw[<-b.uni c] at d;exact⟨r,a,d⟩
def lE.conn(h:UpK u E)(c:lE u x y):kI E x y:=by
 have⟨r,a,b⟩:=c;exact .trans (h.conr a) (.symm (h.conr b))
def aGs(h:UpK u E)(d:∀x y,E x y->lE u x y)(f:kI E x y):lE u x y:=by
 induction f with
 | edge e=>exact d _ _ e
 | refl x=>have⟨r,c⟩:=h.ex x;exact⟨r,c,c⟩
 | symm _ i=>have⟨r,a,b⟩:=i;exact⟨r,b,a⟩
 | trans _ _ j n=>exact j.trans n
end
def aLp{W:Nat->Prop}{c:Ev.T AB}{base:Nat}{d:Option Nat}{l:List AO}{ps:List jD}{last:Option Nat}{Q:Fr->St->List jD->Prop}{m k v:cQ}{S1:St}(h:lL last b=true)(e:rJ (m.val F) sk (k.val F) (v.val F) ⟨(cN b ps S.h).2,S.nx⟩=some (.undef,S1))(f:aGK W base ⟨(cN b ps S.h).2,S.nx⟩ S1)(j:gO fns W c base l (i+1) (cT d F .undef) S1 (cN b ps S.h).1 (some i) Q):gO fns W c base (⟨d,.x (.mapUpd sk m k v),none,b⟩::l) i F S ps last Q:=by
 unfold gO;rw[if_pos (show fX none F=true from rfl)];exact⟨h,_,S1,fun call=>e,f,j⟩
def yR{b:Nat}:cI (.map b) (.map b)=true:=by
 show Nat.beq b b=true;exact Fx b
def wH{k:K2}:cI (lF k) (lF k)=true:=by
 unfold lF;simp only[cI,kG,fH,jA,Dr,aL]
def qB(k:K2):(lF k).cells=some [jr (k.1:Int),jr (k.2:Int)]:=rfl
def aAb(h:Ev.T AB)(b:Nat)(k:K2):Prop:=h.get b=js [jr (k.1:Int),jr (k.2:Int)]
def mK{k:K2}(c:aAb h b k):eE (.ptr b 0) true 2 h=some (lF k):=aOp c
structure oZ(S:St)(ub mb:Nat)(u:K2->Option K2):Prop where
 hu:S.h.get ub=some (.cells [.map mb] false 0)
 m:aDd lF S.h mb u
 lu:ub<S.nx
 lm:mb<S.nx
 ne:ub≠mb
def oZ.off(h:oZ S ub mb u)(b:S.nx<=X.nx)(d:∀c,c<S.nx->X.h.get c=S.h.get c):oZ X ub mb u:=by
 have⟨l,e,f⟩:=h.m;exact⟨(d _ h.lu).trans h.hu,⟨l,(d _ h.lm).trans e,f⟩,Ae h.lu b,Ae h.lm b,h.ne⟩
def oZ.jo(h:oZ S ub mb u)(b:jq S X):oZ X ub mb u:=h.off b.1 b.2
def oZ.off2(h:oZ S ub mb u)(b:S.nx<=X.nx)(c:X.h.get ub=S.h.get ub)(d:X.h.get mb=S.h.get mb):oZ X ub mb u:=by
 have⟨l,e,f⟩:=h.m;exact⟨c.trans h.hu,⟨l,d.trans e,f⟩,Ae h.lu b,Ae h.lm b,h.ne⟩
def aHn(b:h.get ub=js [.map mb]):eE (.ptr ub (0+0)) false 1 h=some (.map mb):=zP b rfl
def lkV(o:Option K2):AV:=match o with | some v=>.tup [lF v,.bool true] | none=>.tup [lF (0,0),.bool false]
def aH3(o:Option K2):cI (lkV o) (lkV o)=true:=by
 cases o with
 | none=>
  show cI (.tup [lF (0,0),.bool false]) (.tup [lF (0,0),.bool false])=true;have:=wH (k:=(0,0));simp only[cI,kG,this,aL];rfl
 | some v=>
  show cI (.tup [lF v,.bool true]) (.tup [lF v,.bool true])=true;have:=wH (k:=v);simp only[cI,kG,this,aL];rfl
def aNG(o:Option K2):∃k:K2,lkV o= .tup [lF k,.bool o.isSome]/\∀v,o=some v->k=v:=by
 cases o with
 | none=>exact⟨(0,0),rfl,fun v h=>by cases h⟩
 | some v=>exact⟨v,rfl,fun w h=>by cases h;rfl⟩
def aM0(b:aDd lF h mb u){k:K2}{m:cQ}(c:m.val F= .map mb)(d:x.val F=lF k):iC (.lookup (.struct [(0,.int),(1,.int)]) (.agg [jr 0,jr 0]) true m x) F h=some (lkV (u k)):=(aK3 b c d).trans (by unfold lkV;cases u k<;>rfl)
def FkI(S:St)(ub mb c rb:Nat)(E:K2->K2->Prop)(u0:K2->Option K2)(e:K2)(d:K2->Nat)(n:Nat)(A:bO)(X:St):Prop:=A.inr=false/\cA mb S X/\c<X.nx/\rb<X.nx/\(∃a b,X.h.get rb=js [a,b])/\∃ (k:K2) (u:K2->Option K2),d k=n/\aAb X.h c k/\oZ X ub mb u/\UpK u E/\(∀x a,u x=some a->d a<d x)/\(∀x r,eQ u0 x r->eQ u x r)/\(∀r,eQ u0 e r->eQ u k r)/\aA 0 A.F= .ptr ub 0/\aA 3 A.F= .ptr c 0/\aA 4 A.F= .ptr rb 0
def UpK.half_rk{b:K2->Nat}(h:∀x a,u x=some a->b a<b x){k a o:K2}(d:u k=some a)(f:u a=some o):∀x y,pV u k o x=some y->b y<b x:=fun x y c=>by
 unfold pV at c;split at c
 .rename_i e;cases c;subst e;have i:=h x a d;have j:=h a o f;omega
 .exact h x y c
def aAN{k0 r0:K2}(H:Has fns)(hU:oZ S ub mb u0)(aa:UpK u0 E)(hr:eQ u0 k0 r0):
  iK fns (.fn 52 [] []) [.ptr ub 0,lF k0] S fun r S'=>r=lF r0/\cA mb S S'/\∃u,oZ S' ub mb u/\UpK u E/\∀x r,eQ u0 x r->eQ u x r:=by
 have⟨rk,t⟩:=aa.rk;refine cJ H.f52 (by simp) ?_;refine am ?_;apply bS;refine dC (by refine am ?_;exact qB _) ?_;intro S1 s1 n1 g1;refine am ?_
 apply cB;intro S2 s2 n2 g2;refine ae ?_
 have M:=s1.trans s2;have e:=hU.jo M;have b6:=hU.lu;have b8:=hU.lm;refine aJ (bL (FkI S ub mb S.nx S1.nx E u0 k0 rk) ?_ (rk k0) _ _ ⟨rfl,⟨M.1,fun c q _=>M.2 c q⟩,au,au,⟨_,_,g2⟩,k0,u0,rfl,(s2.2 _ au).trans g1,e,aa,t,fun _ _ h=>h,fun _ h=>h,af,af,af⟩);rintro n ⟨F,inr⟩ X ⟨rfl,hX,lk,lr,⟨ra,bq,bs⟩,k,u,hn,hk,hu,C,t,ab,ac,J,D,N⟩;simp only at J D N;have bv:=ac r0 hr;have bw:=aHn hu.hu;have bx:=mK hk;have an:=hu.lu;have ao:=hu.lm;have b':=hu.ne;have ca:∀Z:St,cA mb S Z->cA mb S Z:=fun _ h=>h;refine aJ (aB (nR (fun _=>False) ?_));have s:=aH3 (u k);have⟨kv,ek,bz⟩:=aNG (u k);rw[ek] at s;have i:∀F:Fr,aA 13 F= .map mb->aA 14 F=lF k->iC (.lookup (.struct [(0,.int),(1,.int)]) (.agg [.int .i64 0,.int .i64 0]) true (.t 13) (.t 14)) F X.h=some (.tup [lF kv,.bool (u k).isSome]):=fun F a b=>by
  rw[<-ek];exact aM0 hu.m a b
 have j:∀F:Fr,aA 13 F= .map mb->aCr (fun _=>False) X.nx (.lookup (.struct [(0,.int),(1,.int)]) (.agg [.int .i64 0,.int .i64 0]) true (.t 13) (.t 14)) F:=fun F a=>xM a ao (fun h=>h);have il:dU (.lookup (.struct [(0,.int),(1,.int)]) (.agg [.int .i64 0,.int .i64 0]) true (.t 13) (.t 14))=true:=rfl;refine fo J D bw @yR an bx @wH lk @Ap i j il s @pY ?_;obtain⟨X1,w⟩:∃X1:St,X1=⟨(X.h.set (X.nx+9) (some (.cells [.int .i64 0,.int .i64 0] false 0))).set (X.nx+9) (some (.cells [.int .i64 (kv.1:Int),.int .i64 (kv.2:Int)] false 0)),X.nx+12⟩:=⟨_,rfl⟩;have f:cN 767 [⟨9,X.nx+9,.cells [.int .i64 0,.int .i64 0] false 0⟩] X.h=([],X.h.set (X.nx+9) (some (.cells [.int .i64 0,.int .i64 0] false 0))):=cK (m:=767) rfl;have cc:X1.nx=X.nx+12:=by rw[w]
 have y:jq X X1:=by
  rw[w];exact⟨Br _ _,fun c q=>by simp only;rw[dx,if_neg au,dx,if_neg au]⟩
 have aw:aAb X1.h (X.nx+9) kv:=by
  rw[w];show T.get _ _=_;rw[dx,if_pos rfl]
 refine qC (S1:=X1) rfl ?_ ?_ ?_
 .refine dz f @qB ?_;rw[w];exact mM (S:=⟨X.h.set (X.nx+9) (some (.cells [.int .i64 0,.int .i64 0] false 0)),X.nx+12⟩) jh rfl rfl
 .rw[f,w];exact⟨Af _,fun c q _=>by simp only;rw[dx,if_neg au]⟩
 rw[f];simp only[↓sU,sD,rE,↓reduceIte,rA];have z:=hu.jo y;have aI:aAb X1.h S.nx k:=(y.2 _ lk).trans hk;have aV:=mK aI;have bA:S.nx<X1.nx:=by omega
 have bC:S1.nx<X1.nx:=by omega
 have O:=(y.2 _ lr).trans bs;have P:cA mb S X1:=hX.trans ⟨y.1,fun c q _=>y.2 c q⟩;refine fZ (c8 @iY ?_);cases d:u k with
 | none=>
  have bI:k=r0:=eQ.uni (.root d) bv;refine aM (by simp only[↓sU,sD,rE,↓reduceIte,rA];first | rfl | trivial) ?_;refine bS (dz D aV ?_);refine eK (fun call=>by refine d8 @dE N @qB ?_;exact mM O rfl rfl) ?_;refine ae ?_;apply aS;have bM:eE (.ptr S1.nx 0) true 2 (X1.h.set S1.nx (some (.cells [.int .i64 (k.1:Int),.int .i64 (k.2:Int)] false 0)))=some (lF k):=mK (by show T.get _ _=_;rw[dx,if_pos rfl]);refine d8 @eI N bM ?_;refine⟨by rw[bI],⟨Aq hX.1 y.1,fun c q p=>?_⟩,u,z.off2 (Af _) (by simp only;rw[dx,if_neg au]) (by simp only;rw[dx,if_neg au]),C,ab⟩;simp only;rw[dx,if_neg au];exact P.2 c q p
 | some kk=>
  obtain rfl:=bz kk d;refine aK (by simp only[↓sU,sD,rE,↓reduceIte,rA];first | rfl | trivial) (aG ?_);refine ae ?_
  have b3:=t k kv d;have aZ:=aHn z.hu;have a0:=z.lu;have a1:=z.lm;have bP:=mK aw;have a2:X.nx+9<X1.nx:=by omega
  refine aB (aB (nR (fun _=>False) ?_));have s:=aH3 (u kv);have⟨ko,a4,bR⟩:=aNG (u kv);rw[a4] at s;have i:∀F:Fr,aA 25 F= .map mb->aA 26 F=lF kv->iC (.lookup (.struct [(0,.int),(1,.int)]) (.agg [.int .i64 0,.int .i64 0]) true (.t 25) (.t 26)) F X1.h=some (.tup [lF ko,.bool (u kv).isSome]):=fun F a b=>by
   rw[<-a4];exact aM0 z.m a b
  have j:∀F:Fr,aA 25 F= .map mb->aCr (fun _=>False) X1.nx (.lookup (.struct [(0,.int),(1,.int)]) (.agg [.int .i64 0,.int .i64 0]) true (.t 25) (.t 26)) F:=fun F a=>xM a a1 (fun h=>h);have il:dU (.lookup (.struct [(0,.int),(1,.int)]) (.agg [.int .i64 0,.int .i64 0]) true (.t 25) (.t 26))=true:=rfl;refine fj J aZ @yR a0 bP @wH a2 @Ap i j il s @pY ?_;obtain⟨X2,A⟩:∃X2:St,X2=⟨(X1.h.set (X1.nx+9) (some (.cells [.int .i64 0,.int .i64 0] false 0))).set (X1.nx+9) (some (.cells [.int .i64 (ko.1:Int),.int .i64 (ko.2:Int)] false 0)),X1.nx+12⟩:=⟨_,rfl⟩;have f:cN 767 [⟨9,X1.nx+9,.cells [.int .i64 0,.int .i64 0] false 0⟩] X1.h=([],X1.h.set (X1.nx+9) (some (.cells [.int .i64 0,.int .i64 0] false 0))):=cK (m:=767) rfl;have cf:X2.nx=X1.nx+12:=by rw[A]
  have B:jq X1 X2:=by
   rw[A];exact⟨Br _ _,fun c q=>by simp only;rw[dx,if_neg au,dx,if_neg au]⟩
  have bU:aAb X2.h (X1.nx+9) ko:=by
   rw[A];show T.get _ _=_;rw[dx,if_pos rfl]
  refine qC (S1:=X2) rfl ?_ ?_ ?_
  .refine dz f @qB ?_;rw[A];exact mM (S:=⟨X1.h.set (X1.nx+9) (some (.cells [.int .i64 0,.int .i64 0] false 0)),X1.nx+12⟩) jh rfl rfl
  .rw[f,A];exact⟨Af _,fun c q _=>by simp only;rw[dx,if_neg au]⟩
  rw[f];simp only[↓sU,sD,rE,↓reduceIte,rA];have e:=z.jo B;have a5:aAb X2.h S.nx k:=(B.2 _ bA).trans aI;have bV:aAb X2.h (X.nx+9) kv:=(B.2 _ a2).trans aw;have ba:=(B.2 _ bC).trans O;have bb:=mK a5;have bd:=mK bU;have be:=aHn e.hu;have R:=e.lu;have bj:=e.lm;have bk:S.nx<X2.nx:=by omega
  have bW:X1.nx+9<X2.nx:=by omega
  have G:cA mb S X2:=P.trans ⟨B.1,fun c q _=>B.2 c q⟩;refine bS (ae ?_);refine aX (Q:=fun o A' Z=>o= .normal/\A'.inr=false/\X2.nx<=Z.nx/\(∀c,c<X2.nx->c≠mb->Z.h.get c=X2.h.get c)/\aA 0 A'.F= .ptr ub 0/\aA 3 A'.F= .ptr S.nx 0/\aA 4 A'.F= .ptr S1.nx 0/\aA 5 A'.F= .ptr (X.nx+9) 0/\∃u',oZ Z ub mb u'/\UpK u' E/\(∀x a,u' x=some a->rk a<rk x)/\∀x r,eQ u x r->eQ u' x r) ?_ ?_
  .cases Y:u kv with
   | none=>
    refine aK (by simp only[↓sU,sD,rE,↓reduceIte,rA];first | rfl | trivial) (aG ?_);refine d8 J D N ?_;exact⟨Af _,fun _ _ _=>by trivial,u,e,C,t,fun _ _ h=>h⟩
   | some kk=>
    obtain rfl:=bR kk Y;have⟨Z,eZ,nZ,U,mZ⟩:=aEg (S:=⟨X2.h,X2.nx+7⟩) e.m k ko;have⟨bY,bZ⟩:=C.half d Y;refine aM (by simp only[↓sU,sD,rE,↓reduceIte,rA];first | rfl | trivial) ?_;refine nR (fun c=>c=mb) ?_;have I:=e.ne;have nk:S.nx≠mb:=by omega
    have no:X1.nx+9≠mb:=by omega
    refine fo J D be @yR R I bb bd @wH bk bW nk no @Ap ?_;refine aLp (S1:=Z) rfl ?_ ?_ ?_
    .refine ae ?_;exact eZ
    .exact⟨by rw[nZ];exact Af _,fun c q p=>U c p⟩
    refine d8 J D N ?_;refine⟨by rw[nZ];exact Br _ _,fun c q p=>U c p,pV u k ko,⟨(U _ I).trans e.hu,mZ,Ae R (by rw[nZ];exact Br _ _),Ae bj (by rw[nZ];exact Br _ _),I⟩,bY,UpK.half_rk t d Y,bZ⟩
  rintro o ⟨F,inr⟩ Z ⟨rfl,rfl,nZ,U,J,D,N,p5,u',b0,bm,bp,W⟩;simp only at J D N p5;have b1:=mK (h:=Z.h) ((U _ au au).trans bV);have b2:aAb Z.h S.nx k:=(U _ bk au).trans a5;refine ae ?_
  refine aF (dz p5 b1 ?_);refine eK (fun call=>by refine d8 @dE D @qB ?_;exact mM b2 rfl rfl) ?_;refine ae ?_;refine⟨rk kv,au,rfl,⟨by simp only;have:=G.1;omega,fun c q p=>?_⟩,by simp only;omega,by simp only;omega,⟨ra,bq,?_⟩,kv,u',rfl,?_,b0.off2 (Af _) (by simp only;rw[dx,if_neg au]) (by simp only;rw[dx,if_neg au]),bm,bp,fun x r h=>W x r (ab x r h),fun r h=>W _ _ ((ac r h).ji d),ah J,ah D,ah N⟩
  .simp only;rw[dx,if_neg au,U c (ax G.1) p];exact G.2 c q p
  .simp only;rw[dx,if_neg au,U _ au au];exact ba
  .show T.get _ _=_;rw[dx,if_pos rfl]
def aLB(a b:K2):mL .neq (.struct [(0,.int),(1,.int)]) (lF a) (lF b)=some (.bool (decide (a≠b))):=by
 show(bD (eqv skK (lF a) (lF b)) fun b=>some (AV.bool (bX b false true)))=_;rw[aK2,aH];by_cases h:a=b
 .rw[Ac h,aL,Aa (fun h'=>h' h)]
 .rw[Aa h,aR,Ac h]
def aKd{a b:K2}(H:Has fns)(hU:oZ S ub mb u0)(B:UpK u0 E)(q:kI E a b):
  iK fns (.fn 51 [] []) [.ptr ub 0,lF a,lF b] S fun _ S'=>cA mb S S'/\∃u,oZ S' ub mb u/\UpK u E/\(∀x y,lE u0 x y->lE u x y)/\lE u a b:=by
 have⟨r1,J⟩:=B.ex a;have⟨r2,M⟩:=B.ex b;refine cJ H.f51 (by simp) ?_;refine am ?_;apply bS;refine dC (by refine am ?_;exact qB _) ?_;intro S1 s1 n1 g1;refine am ?_;refine dC (by refine am ?_;exact qB _) ?_;intro F s2 n2 g2;refine ae ?_
 have N:=s1.trans s2;have aZ:=hU.jo N;have ba:=hU.lu;have bb:=hU.lm;have c4:aAb F.h S.nx a:=(s2.2 _ au).trans g1;have c5:aAb F.h S1.nx b:=g2;have l4:=mK c4;have l5:=mK c5;have O:S.nx<F.nx:=by omega
 have P:S1.nx<F.nx:=by omega
 have n4:S.nx≠mb:=by omega
 have n5:S1.nx≠mb:=by omega
 refine aB (qA (W:=fun c=>c=mb) (pre:=jnP) (suf:=jnX) (K:=6) (R:=fun F' Z ps=>ps= []/\F.nx<=Z.nx/\cA mb F Z/\(∃u,oZ Z ub mb u/\UpK u E/\∀x r,eQ u0 x r->eQ u x r)/\aA 8 F'=lF r1/\aA 11 F'=lF r2/\aA 0 F'= .ptr ub 0/\aA 4 F'= .ptr S.nx 0/\aA 5 F'= .ptr S1.nx 0) rfl rfl rfl (fun X1 x1 bd be=>?_) ?_)
 .unfold jnP;refine ef l4 @wH O n4 @Ap ?_;refine jH rfl ?_;refine ae ?_;refine aW (aAN H (aZ.jo x1) B J) ?_;rintro _ Y1 ⟨rfl,Q,u1,a0,U,z⟩;refine⟨⟨Q.1,fun c q d=>Q.2 c (Ae q x1.1) d⟩,?_⟩;refine ef l5 @wH P n5 @Ap ?_;refine jH rfl ?_;refine ae ?_;refine aW (aAN H a0 U (z _ _ M)) ?_;rintro _ Y2 ⟨rfl,y2,u2,X,Y,aa⟩;refine⟨⟨y2.1,fun c q d=>y2.2 c (Ae (Ae q x1.1) Q.1) d⟩,?_⟩;refine ae ?_;exact⟨Aq x1.1 (Aq Q.1 y2.1),(cA.trans ⟨x1.1,fun c q _=>x1.2 c q⟩ Q).trans y2,u2,X,Y,fun x r h=>aa _ _ (z _ _ h)⟩
 rintro F' S' ps hs ls ⟨rfl,nZ,G,⟨u,hu,f,w⟩,p8,a1,p0,p4,p5⟩ C a2;have m1:∀i,i<6->Nat.testBit 63 i=true:=by decide
 have d4:aAb S'.h S.nx a:=(G.2 _ O n4).trans c4;have d5:aAb S'.h S1.nx b:=(G.2 _ P n5).trans c5;have s:S1.nx≠S.nx:=by omega
 unfold jnX;refine iS (v:=.undef) (S1:=⟨S'.h.set S.nx (js [jr (r1.1:Int),jr (r1.2:Int)]),S'.nx⟩) (C _ m1) (fun call=>?_) ?_
 .rw[dE];simp only[fO,p4,p8,bK,qB,aH];exact mM (S:=S') d4 rfl rfl
 simp only[bK,fK];refine iS (v:=.undef) (S1:=⟨(S'.h.set S.nx (js [jr (r1.1:Int),jr (r1.2:Int)])).set S1.nx (js [jr (r2.1:Int),jr (r2.2:Int)]),S'.nx⟩) (az:Nat.testBit 127 6=true) (fun call=>?_) ?_
 .rw[dE];simp only[fO,p5,a1,bK,qB,aH];exact mM (S:=⟨S'.h.set S.nx (js [jr (r1.1:Int),jr (r1.2:Int)]),S'.nx⟩) (by simp only;rw[dx,if_neg s];exact d5) rfl rfl
 rw[iL];refine⟨?_,?_⟩
 .simp only[Cg,Bg,Cr,Ci,Bu];exact a2 _ _ _ m1
 simp only[bK,fK];obtain⟨Z,I⟩:∃Z:St,Z=⟨(S'.h.set S.nx (js [jr (r1.1:Int),jr (r1.2:Int)])).set S1.nx (js [jr (r2.1:Int),jr (r2.2:Int)]),S'.nx⟩:=⟨_,rfl⟩;have bj:Z.nx=S'.nx:=by rw[I]
 have kZ:∀c,c≠S.nx->c≠S1.nx->Z.h.get c=S'.h.get c:=fun c h1 h2=>by rw[I];simp only;rw[dx,if_neg h2,dx,if_neg h1]
 have z4:aAb Z.h S.nx r1:=by rw[I];show T.get _ _=_;rw[dx,if_neg (Ch s),dx,if_pos rfl]
 have z5:aAb Z.h S1.nx r2:=by rw[I];show T.get _ _=_;rw[dx,if_pos rfl]
 rw[<-I];have e:oZ Z ub mb u:=hu.off2 au (kZ _ au au) (kZ _ au au);have D:cA mb S Z:=⟨ax G.1,fun c q p=>by rw[kZ c au au,G.2 c au p];exact N.2 c q⟩;have j:=w _ _ J;have n:=w _ _ M;have ab:∀x y,lE u0 x y->lE u x y:=fun x y ⟨r,h1,h2⟩=>⟨r,w _ _ h1,w _ _ h2⟩;have ac:=mK z4;have an:=mK z5;refine ae ?_
 refine bS (ef p4 p5 ac an @aLB ?_);by_cases d:r1=r2
 .refine aK (ja (Aa (show ¬r1≠r2 from fun h=>h d))) (aG ?_)
  exact⟨_,rfl,D,u,e,f,ab,r1,j,by rw[d];exact n⟩
 .have a4:kI E r1 r2:=.trans (.symm (f.conr j)) (.trans q (f.conr n));have⟨j1,j2⟩:=f.join j.none n.none d a4;have⟨V,eV,nV,kV,mV⟩:=aEg (S:=⟨Z.h,Z.nx+7⟩) e.m r1 r2;have ao:=aHn e.hu;have A:=e.lu;have aw:=e.lm;have t:=e.ne;have aI:S.nx<Z.nx:=by have:=G.1;omega
  have aV:S1.nx<Z.nx:=by have:=G.1;omega
  refine aM (ja (Ac (show r1≠r2 from d))) ?_;refine nR (fun c=>c=mb) ?_;refine ft p0 p4 p5 ao @yR A t ac an @wH aI aV n4 n5 @Ap ?_;refine aLp (S1:=V) rfl ?_ ?_ ?_
  .refine ae ?_;exact eV
  .exact⟨by rw[nV];exact Af _,fun c q p=>kV c p⟩
  refine ae ?_;refine⟨_,rfl,⟨Aq D.1 (by rw[nV];exact Br _ _),fun c q p=>(kV c p).trans (D.2 c q p)⟩,pV u r1 r2,⟨(kV _ t).trans e.hu,mV,Ae A (by rw[nV];exact Br _ _),Ae aw (by rw[nV];exact Br _ _),t⟩,j1,fun x y a5=>?_,r2,?_,?_⟩
  .have⟨r,h1,h2⟩:=ab x y a5;exact⟨_,j2 _ _ h1,j2 _ _ h2⟩
  .have:=j2 _ _ j
   rwa [if_pos rfl] at this
  .have:=j2 _ _ n
   rwa [if_neg (Ch d)] at this
def aAm(H:Has fns)(c:iv.cells=some [iv]):iK fns (.fn 39 [] []) [iv] S fun r X=>jq S X/\∃b,r= .fn 59 [] [.ptr b 0]/\S.nx<=b/\b<X.nx/\X.h.get b=js [iv]:=by
 refine cJ H.f39 (by simp) ?_;refine ae ?_;apply bS;refine dC (cs:=[iv]) (by refine ae ?_;exact c) ?_;intro S1 s1 e d;refine ae ?_;refine bS (c8 @aBJ ?_);refine aS (ae ?_);exact⟨s1,S.nx,rfl,Af _,au,d⟩
def fP(g:aP)(s:Nat):Nat:=(cu g (s:Int)).cm.toNat
def aVK(J:Nat->Nat->St->Prop)(X:St)(b c:AC)(p q:Nat)(d:Fr)(iv:AV)(n:Nat)(k:Nat)(A:bO)(Y:St):Prop:=A.inr=false/\∃s,s+k=n/\J s 0 Y/\Y.h.get X.nx=some (.loop .ready none d [p,q] b c)/\aA 0 A.F= .yld X.nx/\aA 6 A.F=iv/\aA 7 A.F=jr (n:Int)/\aA 8 A.F=jr (s:Int)
def aT9(J:Nat->Nat->St->Prop)(X:St)(b c:AC)(p q:Nat)(d:Fr)(iv:AV)(n s m:Nat)(k:Nat)(A:bO)(Y:St):Prop:=A.inr=false/\∃a,a+k=m/\J s a Y/\Y.h.get X.nx=some (.loop .ready none d [p,q] b c)/\aA 0 A.F= .yld X.nx/\aA 3 A.F=jr (s:Int)/\aA 6 A.F=iv/\aA 7 A.F=jr (n:Int)/\aA 8 A.F=jr (s:Int)/\aA 14 A.F=jr (m:Int)/\aA 15 A.F=jr (a:Int)
def aCK{f:cQ}{p q:Nat}{j t:AC}{J:Nat->Nat->St->Prop}{R:St->Prop}(H:Has fns)(hi:A.inr=false)(hf:f.val A.F= .fn 59 [] [.ptr b 0])(hv:aE 2 cC S iv g.cg)(bv:g.cg.length<=10000)(bj:∀s,s<g.cg.length->0<=(cu g (s:Int)).cm/\(cu g (s:Int)).cm<=10000)(hb:X.h.get b=js [iv])(bw:b<X.nx)
  (hJ:∀s a Y,J s a Y->jq S Y/\X.nx<Y.nx)
  (ao:∀s a Y Y',J s a Y->Y.nx<=Y'.nx->(∀c,c<Y.nx->c≠X.nx->Y'.h.get c=Y.h.get c)->J s a Y')
  (aI:∀Y Y',R Y->Y.nx<=Y'.nx->(∀c,c<Y.nx->c≠X.nx->Y'.h.get c=Y.h.get c)->R Y')
  (J0:∀Y,X.nx<Y.nx->(∀c,c<X.nx->Y.h.get c=X.h.get c)->J 0 0 Y)
  (aV:∀s Y,s<g.cg.length->J s (fP g s) Y->J (s+1) 0 Y)
  (aw:∀s a Y,s<g.cg.length->a<fP g s->J s a Y->jN fns j ⟨cT (some q) (cT (some p) A.F (jr (s:Int))) (jr (a:Int)),true⟩ Y fun o A1 Y1=>o= .normal/\Y1=Y/\∀bl,jN fns t A1 ⟨Y.h.set X.nx bl,Y.nx⟩ fun o _ Y2=>Y2.h.get X.nx=bl/\Y.nx<=Y2.nx/\((o= .normal/\J s (a+1) Y2)\/(o= .ret/\R Y2)))
  (aZ:∀Y,J g.cg.length 0 Y->Q .normal A Y) (a0:∀Y,R Y->Q .ret A Y):jN fns (.rng f [p,q] j t) A X Q:=by
 have d:∀ (Y:St) (bl:Option AB) (c:Nat),c≠X.nx->(Y.h.set X.nx bl).get c=Y.h.get c:=fun Y bl c h=>by rw[dx,if_neg h]
 refine aQz hi hf ?_;generalize P:(⟨X.h.set X.nx (some (.loop .ready none A.F [p,q] j t)),X.nx+1⟩:St)=X0;have e0:X0.h.get X.nx=some (.loop .ready none A.F [p,q] j t):=by rw[<-P];simp only;rw[dx,if_pos rfl]
 have e1:∀c,c≠X.nx->X0.h.get c=X.h.get c:=fun c y=>by rw[<-P];exact d X _ c y
 have e2:X0.nx=X.nx+1:=by rw[<-P]
 have a1:J 0 0 X0:=J0 X0 au (fun c y=>e1 c au);have a2:X0.h.get b=js [iv]:=(e1 b au).trans hb;have a4:=cM (p:=0) a2 rfl;refine cJ H.f59 (by simp) ?_;refine ae ?_;refine bS (d8 a4 hv.len @Ag ?_);have ab:∀Y:St,J g.cg.length 0 Y->Y.h.get X.nx=some (.loop .ready none A.F [p,q] j t)->∃st pend fr D G I c,Y.h.get X.nx=some (.loop st pend fr D G I)/\st≠ .busy/\aL2 pend=some c/\jN fns c A ⟨Y.h.set X.nx (some (.loop .exhausted pend fr D G I)),Y.nx⟩ Q:=fun Y n i=>
  ⟨_,_,_,_,_,_,.skip,i,(by intro h;cases h),rfl,aG (aZ _ (ao _ _ _ _ n (Af _) (fun c _ y=>d Y _ c y)))⟩
 have an:∀Y:St,R Y->Y.h.get X.nx=some (.loop .done (some .ret) A.F [p,q] j t)->∃st pend fr D G I c,Y.h.get X.nx=some (.loop st pend fr D G I)/\st≠ .busy/\aL2 pend=some c/\jN fns c A ⟨Y.h.set X.nx (some (.loop .exhausted pend fr D G I)),Y.nx⟩ Q:=fun Y n i=>
  ⟨_,_,_,_,_,_,.ret,i,(by intro h;cases h),rfl,aS (a0 _ (aI _ _ n (Af _) (fun c _ y=>d Y _ c y)))⟩
 refine aX (Q:=fun o A' Y=>(o= .normal/\J g.cg.length 0 Y/\Y.h.get X.nx=some (.loop .ready none A.F [p,q] j t))\/(o= .ret/\R Y/\Y.h.get X.nx=some (.loop .done (some .ret) A.F [p,q] j t))) (aJ (bL (aVK J X j t p q A.F iv g.cg.length) ?_ g.cg.length _ _ ⟨rfl,0,au,a1,e0,af,af,ag,ag⟩)) ?_;rotate_left
 .rintro o ⟨F,inr⟩ Y (⟨rfl,n,i⟩|⟨rfl,n,i⟩)
  .skip
   exact⟨_,rfl,ab Y n i⟩
  .refine ae ?_
   exact an Y n i
 rintro k ⟨F,inr⟩ Y ⟨rfl,s,bx,T,hl,z,B,C,w⟩;simp only at z B C w;have⟨sY,lY⟩:=hJ _ _ _ T;refine bS (dz C w ?_);by_cases M:s<g.cg.length;rotate_left
 .refine aB (aK i7 (bH ?_));refine ae ?_;obtain rfl:s=g.cg.length:=by omega
  exact .inl ⟨T,hl⟩
 refine aB (aM i7 (aG ?_));refine ae ?_
 have⟨e,br,qr,bk,bm,_,he,a5,_⟩:=aE.at hv az (Ab M);have he:e= [jr g.cg[s].jl,jr g.cg[s].cm]:=he;subst he;rw[<-eM sY bm] at a5;have ei:cu g (s:Int)=g.cg[s]:=by
  unfold cu;rw[Am,Ad,Ab M];rfl
 have⟨bz,bA⟩:=bj s M;have ba:g.cg[s].cm=((fP g s:Nat):Int):=by unfold fP;rw[<-ei];omega
 have hm:fP g s<=10000:=by unfold fP;omega
 have w1:=du s
 refine aB (aJ (aB (aF ?_)));refine gy B w @aY bk a5 ?_;apply cB;intro W1 v1 k1 n;refine am ?_
 refine dB (b:=Y.nx) (aq) (by refine am ?_;exact bB _) n rfl rfl ?_;intro W v2 k2 i;refine am ?_;have sW:jq Y W:=v2.jo v1 (Af _);have bb:=ao _ _ _ W T sW.1 fun c y _=>sW.2 c y;have be:=(sW.2 _ lY).trans hl;refine bS (dz (aCY i) ba ?_);refine aX (Q:=fun o A' Z=>(o= .normal/\aT9 J X j t p q A.F iv g.cg.length s (fP g s) 0 A' Z)\/(o= .ret/\R Z/\Z.h.get X.nx=some (.loop .done (some .ret) A.F [p,q] j t))) (aJ (bL (aT9 J X j t p q A.F iv g.cg.length s (fP g s)) ?_ (fP g s) _ _ ⟨rfl,0,au,bb,be,ah z,af,ah B,ah C,ah w,af,ag⟩)) ?_;rotate_left
 .clear z B C w;rintro o ⟨F,inr⟩ Z (⟨rfl,q0,a,ha,U,N,z,p3,B,C,w,_,_⟩|⟨rfl,n,i⟩)
  .simp only at q0 z B C w;subst q0;obtain rfl:a=fP g s:=by omega
   refine ae ?_
   refine aF (dz w w1 ?_);exact⟨k - 1,au,rfl,s+1,au,aV s Z M U,N,ah z,ah B,ah C,af⟩
  .refine ae ?_
   exact .inr ⟨n,i⟩
 rintro k' ⟨F,inr⟩ Z ⟨rfl,a,bp,U,N,z,p3,B,C,w,aa,O⟩;simp only at z p3 B C w aa O;refine bS (dz aa O ?_);by_cases bq:a<fP g s;rotate_left
 .refine aB (aK i7 (bH ?_));refine ae ?_;obtain rfl:k'=0:=by omega
  exact .inl ⟨rfl,a,bp,U,N,ah z,ah p3,ah B,ah C,ah w,ah aa,ah O⟩
 refine aB (aM i7 (aG ?_));refine ae ?_
 have w2:=du a
 refine aB (aJ (aB (aF ?_)));refine c8 O ?_;refine bS (dz z p3 ?_);refine bJ (ae ?_);refine aW (Q:=fun r V=>(r= .bool true/\J s (a+1) V/\V.h.get X.nx=some (.loop .ready none A.F [p,q] j t))\/(r= .bool false/\R V/\V.h.get X.nx=some (.loop .done (some .ret) A.F [p,q] j t))) (aPJ N rfl (aX (aw s a Z M bq U) ?_)) ?_
 .rintro o A1 Y1 ⟨rfl,rfl,bs⟩;refine⟨rfl,none,A.F,[p,q],j,N,aX (bs _) ?_⟩;rintro o A2 Y2 ⟨g2,n2,i⟩;refine⟨none,A.F,[p,q],j,t,g2,?_⟩;rcases i with⟨rfl,i⟩|⟨rfl,i⟩
  .exact .inl ⟨rfl,.inl ⟨rfl,ao _ _ _ _ i (Af _) (fun c _ y=>d Y2 _ c y),jh⟩⟩
  .exact .inr ⟨(by intro h;cases h),.inr ⟨rfl,aI _ _ i (Af _) (fun c _ y=>d Y2 _ c y),jh⟩⟩
 .rintro r V (⟨rfl,n,i⟩|⟨rfl,n,i⟩)
  .refine dz @iY @Dn ?_;refine aK (af) (aG ?_);refine ae ?_
   refine aF (dz O w2 ?_);exact⟨k' - 1,au,rfl,a+1,au,n,i,ah z,ah p3,ah B,ah C,ah w,ah aa,af⟩
  .refine dz @iY @Ej ?_;refine aM (af) (aS ?_);refine ae ?_;exact .inr ⟨n,i⟩
def aEG:∀ {n:Nat} {f:Nat->Nat},(∀k,k<n->f k<n)->(∀k l,k<n->l<n->f k=f l->k=l)->∀y,y<n->∃k,k<n/\f k=y
 | 0,f,_,_,y,q=>absurd q (Bo _)
 | n+1,f,i,d,y,q=>by
  have s:=aEG (n:=n) (f:=fun k=>if f k=n then f n else f k) (fun k j=>by
   have z:=i k au;have A:=i n au;show(if f k=n then f n else f k)<n;split
   .rename_i e;have:f n≠n:=fun t=>by have:=d k n au au au;omega
    omega
   .omega) (fun k l j B e=>by
   have e:(if f k=n then f n else f k)=(if f l=n then f n else f l):=e;have a:=d k l au au;have b:=d k n au au;have c:=d l n au au;split at e
   .split at e
    .exact a au
    .have:=c au;omega
   .split at e
    .have:=b au;omega
    .exact a au)
  by_cases e:y=f n
  .exact⟨n,au,e.symm⟩
  by_cases p:y<n
  .have⟨k,j,h⟩:=s y p;have h:(if f k=n then f n else f k)=y:=h;split at h
   .exact absurd h.symm e
   .exact⟨k,au,h⟩
  .have w:y=n:=by omega
   have:=i n au;have⟨k,j,h⟩:=s (f n) au;have h:(if f k=n then f n else f k)=f n:=h;split at h
   .rename_i t;exact⟨k,au,au⟩
   .have:=d k n au au  h;omega
section
variable {g:aP}{L:bo}{m:bt}{first:bt}{act:bo}
def aL4(g:aP)(m:bt)(x:K2):K2:=(((dh g m).getD x.1 0).toNat,(((dk g m).getD x.1 []).getD x.2 0).toNat)
def ChE(g:aP)(L:bo)(x y:K2):Prop:=x.1<g.cg.length/\x.2<fP g x.1/\∃m∈L,y=aL4 g m x
def aDv(G:cV g){s:Nat}(b:s<g.cg.length):fP g s=(ct g (fS g s)).ji.length:=by
 unfold fP;rw[xH G b];rfl
def aEc(G:cV g)(A:gF g m){s:Nat}(c:s<g.cg.length):fP g s=fP g ((dh g m).getD s 0).toNat/\(∀a,a<fP g s->(((dk g m).getD s []).getD a 0).toNat<fP g s/\0<=((dk g m).getD s []).getD a 0)/\∀a b,a<fP g s->b<fP g s->(((dk g m).getD s []).getD a 0).toNat=(((dk g m).getD s []).getD b 0).toNat->a=b:=by
 have⟨f1,f2,f3⟩:=G.fst _ c;have⟨t,w⟩:=wK G A c;have d:((dh g m).getD s 0).toNat<g.cg.length:=by omega
 have⟨i,j,n⟩:=G.fst _ d;have y:=aDv G c;have z:=aDv G d;have f:(ct g (fW m (fS g s))).jk=2:=by rw[<- (A.A.like _ f1).1];exact f2
 have el:=aIv G i (A.M.at f1).2 j f (by rw[n,aA8 c];have:=wK G A c;rw[aA8 c] at this;omega);have ek:=(A.A.like _ f1).2.1;refine⟨au,fun a p=>?_,fun a b p B e=>?_⟩
 .rw[aBI c au];have:=(aHf A f1 (k:=a) au).1;have:=A.A.kid _ a f1 au;omega
 .rw[aBI c au,aBI c au] at e;have h:=(aHf A f1 (k:=a) au).2;have q:=(aHf A f1 (k:=b) au).2;rw[e,q] at h;have C:=G.kids _ f1 a au;have cb:=G.kids _ f1 b au;have:=A.inj au au  h.symm;exact(G.only f1 au f1 au au).2
def TrS(g:aP)(L:bo)(s r:Nat):Prop:=fP g s=fP g r/\∃σ:Nat->Nat,(∀a,a<fP g s->σ a<fP g r/\kI (ChE g L) (s,a) (r,σ a))/\∀a b,a<fP g s->b<fP g s->σ a=σ b->a=b
open Classical in
def aDT(G:cV g)(D:∀m∈L,gF g m){s:Nat}(h:tE (mJ g.cg.length (L.map (dh g))) s r):TrS g L s r:=by
 induction h with
 | edge e=>
  rename_i s r;have⟨B,q,F,e⟩:=e;obtain⟨m,C,rfl⟩:=Cp.1 F;have⟨p,i,w⟩:=aEc G (D m C) B;subst e;exact⟨p,fun a=>(((dk g m).getD s []).getD a 0).toNat,fun a d=>⟨Ae (i a d).1 (Fy p),.edge ⟨B,d,m,C,rfl⟩⟩,w⟩
 | refl s=>exact⟨rfl,fun a=>a,fun a d=>⟨d,.refl _⟩,fun _ _ _ _ e=>e⟩
 | symm _ H=>
  rename_i s r _;have⟨p,σ,i,w⟩:=H;have j:=aEG (n:=fP g s) (f:=σ) (fun k I=>by have:=(i k I).1;omega) w;refine⟨p.symm,fun b=>if h:b<fP g s then Classical.choose (j b h) else 0,fun b z=>?_,fun a b d z e=>?_⟩
  .have c:b<fP g s:=by omega
   have⟨A,t⟩:=Classical.choose_spec (j b c);show(if h:b<fP g s then Classical.choose (j b h) else 0)<_/\kI _ _ (s,if h:b<fP g s then Classical.choose (j b h) else 0);rw[dif_pos c];refine⟨A,?_⟩;have:=(i _ A).2;rw[t] at this;exact .symm this
  .have y:a<fP g s:=by omega
   have c:b<fP g s:=by omega
   have e:(if h:a<fP g s then Classical.choose (j a h) else 0)=(if h:b<fP g s then Classical.choose (j b h) else 0):=e;rw[dif_pos y,dif_pos c] at e;have t:=(Classical.choose_spec (j a y)).2;have d2:=(Classical.choose_spec (j b c)).2;rw[e,d2] at t;exact t.symm
 | trans _ _ J M=>
  have⟨p,σ,i,w⟩:=J;have⟨N,O,P,Q⟩:=M;refine⟨p.trans N,fun a=>O (σ a),fun a d=>?_,fun a b d z e=>?_⟩
  .have⟨A,t⟩:=i a d;have⟨d1,d2⟩:=P (σ a) au;exact⟨d1,.trans t d2⟩
  .exact w a b d z (Q _ _ (by have:=(i a d).1;omega) (by have:=(i b z).1;omega) e)
def Dup(g:aP)(L:bo)(first:bt):Prop:=∃s a b,s<g.cg.length/\first.getD s 0=(s:Int)/\a<b/\b<fP g s/\kI (ChE g L) (s,a) (s,b)
structure aJa(g:aP)(L:bo)(first:bt)(act:bo):Prop where
 len:act.length=g.cg.length
 row:∀s,s<g.cg.length->(act.getD s []).length=fP g s
 at_:∀s a,s<g.cg.length->a<fP g s->∃b:Nat,(act.getD s []).getD a 0=(b:Int)/\b<fP g (first.getD s 0).toNat/\kI (ChE g L) (s,a) ((first.getD s 0).toNat,b)
def aDl(b:tZ g.cg.length (mJ g.cg.length (L.map (dh g))) first){s:Nat}(d:s<g.cg.length):(first.getD s 0).toNat<g.cg.length/\first.getD (first.getD s 0).toNat 0=(((first.getD s 0).toNat:Nat):Int):=by
 have e:=b.le s d;have c:=aK8 (f:=fun x=>first.getD x 0) b.inv (b.con s d);have c:first.getD s 0=first.getD (first.getD s 0).toNat 0:=c;refine⟨au,?_⟩;rw[<-c];omega
def aOn(G:cV g)(t:∀m∈L,gF g m)(f:tZ g.cg.length (mJ g.cg.length (L.map (dh g))) first){s a:Nat}(i:s<g.cg.length)(w:a<b)(j:b<fP g s)(y:kI (ChE g L) (s,a) (s,b)):Dup g L first:=by
 have⟨n,p⟩:=aDl f i;have⟨F,σ,q,z⟩:=aDT G t (f.con s i);have⟨A,B⟩:=q a au;have⟨C,D⟩:=q b j;have d:σ a≠σ b:=fun e=>by have:=z a b au j e;omega
 have c:kI (ChE g L) ((first.getD s 0).toNat,σ a) ((first.getD s 0).toNat,σ b):=.trans (.symm B) (.trans y D);rcases Nat.lt_or_gt_of_ne d with h|h
 .exact⟨_,σ a,σ b,n,p,h,C,c⟩
 .exact⟨_,σ b,σ a,n,p,h,A,.symm c⟩
end
def zK{k:IntKind}(h:bN k S v l)(f:S.h.get mb=some (.map d)):aN v≠some mb:=fun e=>by
 rcases h with⟨_,rfl|rfl⟩|⟨b,off,cap,o,cs,rfl,_,_,c,_⟩
 .cases e
 .cases e
 .cases e;unfold cG at c;rw[f] at c;cases c
def aOl{t:List (AV×AV)}(h:aE 1 nM S v L)(j:S.h.get mb=some (.map t))(n:S.nx<=X.nx)(p:∀c,c<S.nx->c≠mb->X.h.get c=S.h.get c):aE 1 nM X v L:=by
 rcases h with h|⟨b,off,cap,o,cs,rfl,w,q,d,y⟩
 .exact .inl h
 .have z:b≠mb:=fun e=>by
   subst e;unfold cG at d;rw[j] at d;cases d
  refine .inr ⟨b,off,cap,o,cs,rfl,w,Ae q n,by unfold cG at d ⊢;rw[p b q z];exact d,fun i a hi=>?_⟩;have⟨e,A,B,r,C,f⟩:=y i a hi;exact⟨e,A,B,r,C,eH f n fun c s=>p c (dK f s) fun e=>zK f j (by rw[<-e];exact s)⟩
def aSy(h:bN .i64 S v l)(f:S.h.get mb=some (.map d))(i:S.nx<=X.nx)(j:∀c,c<S.nx->c≠mb->X.h.get c=S.h.get c):bN .i64 X v l:=
 eH h i fun c b=>j c (dK h b) fun e=>zK h f (by rw[<-e];exact b)
def oZ.mp(h:oZ S ub mb u):∃b,S.h.get mb=some (.map b):=by
 have⟨l,c,_⟩:=h.m;exact⟨_,c⟩
def aCs{p:Nat}{x:AV}(c:eE (.ptr b p) false 1 h=some x)(f:h.get mb=some (.map d)):b≠mb:=fun e=>by
 subst e;have c:nJ h b p=some x:=c;unfold nJ cG at c;rw[f] at c;cases c
def aF0(h:i<l.length):l[i]? =some (l.getD i 0):=by rw[Ad,Ab h];rfl
def mE(h:bN .i64 S v l)(hi:i<l.length):∃b q,eY (.slice 1) v i=some (.ptr b q)/\b<S.nx/\eE (.ptr b q) false 1 S.h=some (jr (l.getD i 0)):=by
 have⟨e,b,q,f,j,_,c,_,n⟩:=aE.at (toG h) az (aF0 hi);have c:e= [jr (l.getD i 0)]:=c;subst c;have d:=n 0 _ rfl;rw[Bw] at d;exact⟨b,q,f,j,d⟩
def zZ(g:aP)(s a:Nat)(x:K2):Prop:=(x.1<s/\x.2<fP g x.1)\/(x.1=s/\x.2<a)
def aIZ{s:Nat}{x:K2}(h:zZ g (s+1) 0 x):zZ g s (fP g s) x:=by
 unfold zZ at h ⊢;rcases h with⟨c,b⟩|⟨_,b⟩
 .rcases Cx x.1 s with h|h
  .exact .inl ⟨h,b⟩
  .have e:x.1=s:=by omega
   exact .inr ⟨e,by rw[e] at b;exact b⟩
 .omega
def aCe{s a:Nat}{x:K2}(h:zZ g s (a+1) x):zZ g s a x\/x=(s,a):=by
 unfold zZ at h ⊢;rcases h with h|⟨b,c⟩
 .exact .inl (.inl h)
 .by_cases e:x.2=a
  .have⟨x1,x2⟩:=x;simp only at b e;subst b e;exact .inr rfl
  .exact .inl (.inr ⟨b,au⟩)
def aUh(X:St)(ub mb:Nat)(g:aP)(L:bo)(m:bt)(u0:K2->Option K2)(s a:Nat)(Y:St):Prop:=X.nx<Y.nx/\(∀c,c<X.nx->c≠mb->Y.h.get c=X.h.get c)/\∃u,oZ Y ub mb u/\UpK u (ChE g L)/\(∀x y,lE u0 x y->lE u x y)/\∀x,zZ g s a x->lE u x (aL4 g m x)
noncomputable def aQO:AC:=(.seq (.reg [mt 15 67]) (.reg [mt 16 68]))
noncomputable def aQL:AC:=qk6
def aRa{a:Nat}(c:aA t1 F=jr (a:Int))(d:aA t2 F=jr (b:Int)):iC (.build [jr 0,jr 0] [(0,1,.t t1),(1,1,.t t2)]) F h=some (lF (a,b)):=by
 show(bD (eO _ (dN F [(0,1,.t t1),(1,1,.t t2)])) fun cs=>some (AV.agg cs))=_;simp only[dN,show(cQ.t t1).val F=jr (a:Int) from c,show(cQ.t t2).val F=jr (b:Int) from d,eO,cF,aH];rfl
def aJB{z:bu}{ps:List (Nat×Nat×cQ)}:dU (.build z ps)=false:=rfl
def aSj{m:bt}{av:AV}{b12 b14:Nat}(H:Has fns)(G:cV g)(AM:gF g m)(hm:m∈L)(hi:A.inr=false)(hf:aA r A.F= .fn 59 [] [.ptr bc 0])(hb:X.h.get bc=js [iv])(ab:bc<X.nx)
  (hS:jq S X) (bm:S.nx<=mb) (hv:aE 2 cC S iv g.cg) (ac:∀s,s<g.cg.length->0<=(cu g (s:Int)).cm/\(cu g (s:Int)).cm<=10000)
  (D:oZ X ub mb u0) (an:UpK u0 (ChE g L)) (p9:aA 9 A.F= .ptr b9 0) (ao:aA 12 A.F= .ptr b12 0) (aw:aA 14 A.F= .ptr b14 0)
  (g9:X.h.get b9=js [.ptr ub 0]) (aI:X.h.get b12=js [fv]) (aV:X.h.get b14=js [av]) (l9:b9<X.nx) (aZ:b12<X.nx) (a0:b14<X.nx) (n9:b9≠mb) (I:b12≠mb) (M:b14≠mb)
  (hI:bN .i64 X fv (dh g m)) (hA:aE 1 nM X av (dk g m))
  (hQ:∀Y,aUh X ub mb g L m u0 g.cg.length 0 Y->Q .normal A Y):jN fns (.rng (.t r) [67,68] aQO aQL) A X Q:=by
 have⟨es,N⟩:=D.mp;have bp:=G.ni;have bq:=D.lm;refine aCK (S:=S) (R:=fun _=>False) (J:=aUh X ub mb g L m u0) H hi hf hv au ac hb ab (fun s a Y h=>⟨⟨by have:=hS.1;have:=h.1;omega,fun c e=>by rw[h.2.1 c (Ae e hS.1) au];exact hS.2 c e⟩,h.1⟩) (fun s a Y Y' h hn z=>?_) (fun Y Y' h=>absurd h id) (fun Y hn z=>?_) (fun s Y B h=>⟨h.1,h.2.1,by
   have⟨u,h1,O,i,P⟩:=h.2.2;exact⟨u,h1,O,i,fun x j=>P x (aIZ j)⟩⟩) (fun s a Y B ha h=>?_) hQ (fun Y h=>absurd h id)
 .have⟨h1,O,u,i,P,h5,h6⟩:=h;have:=i.lu;have:=i.lm;have a1:=D.lu;exact⟨au,fun c e d=>(z c au au).trans (O c e d),u,i.off2 hn (z _ i.lu au) (z _ i.lm au),P,h5,h6⟩
 .exact⟨hn,fun c e _=>z c e,u0,D.off (Nat.le_of_lt hn) z,an,fun _ _ h=>h,fun x j=>by unfold zZ at j;omega⟩
 .unfold aQO;refine bS (ae ?_);refine aF (ae ?_);intro bl;have⟨h1,O,u,i,P,h5,h6⟩:=h;generalize n:(⟨Y.h.set X.nx bl,Y.nx⟩:St)=Y';have nY:Y'.nx=Y.nx:=by rw[<-n]
  have q:∀c,c≠X.nx->Y'.h.get c=Y.h.get c:=fun c e=>by rw[<-n];simp only;rw[dx,if_neg e]
  have T:Y'.h.get X.nx=bl:=by rw[<-n];simp only;rw[dx,if_pos rfl]
  have C:∀c,c<X.nx->c≠mb->Y'.h.get c=X.h.get c:=fun c e d=>(q c au).trans (O c e d);have a1:=D.lu;have U:oZ Y' ub mb u:=i.off2 au (q _ au) (q _ au);have⟨bs,f⟩:=U.mp;have W:=aSy hI N au C;have Z:=aOl hA N au C;have⟨i1,i2⟩:=wK G AM B;have⟨k1,k2,k3⟩:=aEc G AM B;have bv:(dh g m).length=g.cg.length:=by simp [dh]
  have bw:(dk g m).length=g.cg.length:=by simp [dk]
  have bx:((dk g m).getD s []).length=fP g s:=by rw[aKL B,Av,Cn,aDv G B]
  have⟨xb,xq,xi,a2,t⟩:=mE W (au:s<(dh g m).length);rw[show(dh g m).getD s 0=(((dh g m).getD s 0).toNat:Int) by omega] at t;obtain⟨_,yb,yq,yi,a4,_,⟨ra,rfl,aa⟩,_,yld⟩:=aE.at Z az (uZ (au:s<(dk g m).length));have yld:=yld 0 _ rfl;rw[Bw] at yld;have⟨zb,zq,zi,a5,w⟩:=mE aa (au:a<((dk g m).getD s []).length);have bz:=(k2 a ha).2;rw[show((dk g m).getD s []).getD a 0=((((dk g m).getD s []).getD a 0).toNat:Int) by omega] at w;have nx:=aCs t f;have ny:=aCs yld f;have nz:=aCs w f;have d9:=cM (p:=0) ((C _ l9 n9).trans g9) rfl;have d12:=cM (p:=0) ((C _ aZ I).trans aI) rfl;have d14:=cM (p:=0) ((C _ a0 M).trans aV) rfl;have ba:=bN.self W;have bb:=aE.self Z;have bd:=bN.self aa;have b9:b9<Y'.nx:=by omega
  have b12:b12<Y'.nx:=by omega
  have b14:b14<Y'.nx:=by omega
  have be:=fun(F:Fr) (h:Ev.T AB) (e1:aA 70 F=jr (s:Int)) (e2:aA 71 F=jr (a:Int))=>aRa (h:=h) e1 e2;have bj:=fun(F:Fr) (h:Ev.T AB) (e1:aA 76 F=jr (((dh g m).getD s 0).toNat:Int)) (e2:aA 83 F=jr ((((dk g m).getD s []).getD a 0).toNat:Int))=>aRa (h:=h) e1 e2;unfold aQL;refine aJ (nR (fun c=>c=mb) ?_);simp only[↓sU,sD,rE,↓reduceIte,rA,p9,ao,aw,d9,d12,d14,b9,b12,b14,n9,I,M,Ap,ba,bb,bd,xi,t,a2,nx,yi,yld,a4,ny,zi,w,a5,nz,be,bj,aJB];refine jH rfl ?_;refine ae ?_;have hE:ChE g L (s,a) (aL4 g m (s,a)):=⟨B,ha,m,hm,rfl⟩;refine aW (aKd (a:=(s,a)) (b:=aL4 g m (s,a)) H (U.jo (jq.nx Y' _)) P (.edge hE)) ?_;rintro rr V ⟨v1,u',v2,v3,v4,v5⟩;refine⟨⟨v1.1,fun c e d=>v1.2 c (by simp only;omega) d⟩,?_⟩;have nV:Y'.nx<=V.nx:=Aq (Br _ _) v1.1
  have bk:X.nx≠mb:=by omega
  have bA:X.nx<Y'.nx:=by omega
  refine⟨(v1.2 _ (by simp only;omega) bk).trans T,au,.inl ⟨by show X.nx<V.nx;omega,fun c e d=>(v1.2 c (by simp only;omega) d).trans (C c e d),u',v2,v3,fun x y h=>v4 _ _ (h5 _ _ h),fun x j=>?_⟩⟩;rcases aCe j with j|rfl
  .exact v4 _ _ (h6 x j)
  .exact v5
def aTX(b b4 b5 b7 b9:Nat)(F:Fr):Prop:=aA 2 F= .ptr b 0/\aA 4 F= .ptr b4 0/\aA 5 F= .ptr b5 0/\aA 7 F= .ptr b7 0/\aA 9 F= .ptr b9 0
def aR7(b:St)(ub mb d b4 b5 b7 b9:Nat)(mv:AV)(g:aP)(L:bo)(k:Nat)(A:bO)(X:St):Prop:=A.inr=false/\b.nx<=X.nx/\(∀c,c<b.nx->c≠mb->X.h.get c=b.h.get c)/\∃ (j:Nat) (u:K2->Option K2),j+k=L.length/\oZ X ub mb u/\UpK u (ChE g L)/\(∀x:K2,x.1<g.cg.length->x.2<fP g x.1->∀q,q<j->lE u x (aL4 g (L.getD q []) x))/\aTX d b4 b5 b7 b9 A.F/\aA 38 A.F=mv/\aA 39 A.F=jr (L.length:Int)/\aA 40 A.F=jr (j:Int)
def aSg{t:St}{M:Fr}{z:Nat}(H:Has fns)(hf:cR g=0)(N:∀m∈L,gF g m)(hL:L.length<=16)(hS:jq S t)(hn:aE 6 bT S nv g.ce)(hi:aE 2 cC S iv g.cg)(hm:aE 1 nM S mv L)(aI:S.nx<=mb)
  (w:oZ t ub mb u0) (i:UpK u0 (ChE g L)) (l2:z<t.nx) (l9:b9<t.nx) (n2:z≠mb) (n9:b9≠mb) (g2:t.h.get z=js [jr g.ch,nv,iv]) (g9:t.h.get b9=js [.ptr ub 0])
  (hZ:aTX z b4 b5 b7 b9 M) (f:aA 38 M=mv) (h:aA 39 M=jr (L.length:Int)) (d:aA 40 M=jr ((0:Nat):Int)):
  jN fns aUA ⟨M,false⟩ t fun o A' X=>o= .normal/\aR7 t ub mb z b4 b5 b7 b9 mv g L 0 A' X:=by
 have G:=gR hf;have bj:=G.ni;have aV:∀s,s<g.cg.length->0<=(cu g (s:Int)).cm/\(cu g (s:Int)).cm<=10000:=fun s hs=>by
  have⟨f1,_,_⟩:=G.fst s hs;rw[xH G hs];have:=G.nxt _ f1;omega
 refine aJ (bL (aR7 t ub mb z b4 b5 b7 b9 mv g L) ?_ L.length _ _ ⟨rfl,Af _,fun _ _ _=>rfl,0,u0,au,w,i,fun _ _ _ q hq=>au,hZ,f,h,d⟩);have bk:=w;have bm:=w.lu;have bp:=w.lm;rintro k ⟨F,inr⟩ X ⟨rfl,nX,O,j,u,aZ,w,i,hd,⟨I,p4,p5,p7,p9⟩,f,h,d⟩;simp only at I p4 p5 p7 p9 f h d;have J:jq S X:=⟨Aq hS.1 nX,fun c hc=>by rw[O c (Ae hc hS.1) au];exact hS.2 c hc⟩;refine bS (dz h d ?_);by_cases A:j<L.length;rotate_left
 .refine aB (aK i7 (bH ?_));refine ae ?_;obtain rfl:k=0:=by omega
  exact⟨rfl,nX,O,j,u,aZ,w,i,hd,⟨ah I,ah p4,ah p5,ah p7,ah p9⟩,ah f,ah h,ah d⟩
 refine aB (aM i7 (aG ?_));refine ae ?_
 have w1:=du j
 have⟨xb,xq,a,xi,xs,bq,xl⟩:=xI hm A;have xl:=xl X J;have n:L.getD j []∈L:=by rw[Ad,Ab A];exact Bl A
 obtain⟨m,P⟩:∃m,L.getD j []=m:=⟨_,rfl⟩;rw[P] at xs n;have AM:=N m n;have B:=(O _ l2 n2).trans g2;have a0:=(O _ l9 n9).trans g9;have Q:z<X.nx:=by omega
 have a1:b9<X.nx:=by omega
 refine aB (aJ (aB (aF ?_)));refine ec f d xi xl ?_;refine bS (gh I (gE B) ?_);refine bJ (am ?_);refine aW (aIK H hf (aE.jo (E:=bT) bF hn J) (aE.jo (E:=cC) bQ hi J) (xs.jo J) AM) ?_;rintro _ X1 ⟨x1,fv,rfl,R⟩;refine gh @ex0 @ex1 ?_;apply cB;intro X2 x2 m2 c2
 refine dB (b:=X1.nx) (cs':=[fv]) (aq) (by refine am ?_;exact bN.cells R) c2 rfl rfl ?_;intro X3 x3 m3 c3;refine am ?_
 have T:jq X1 X3:=x3.jo x2 (Af _);have s3:jq X X3:=x1.trans T
 have d0:decide ((0:Int)≠0)=false:=rfl;apply fZ;simp only[↓sU,sD,rE,↓reduceIte,rA,d0,Dr];refine aK (by simp only[↓sU,sD,rE,↓reduceIte,rA];try first | rfl | trivial) (aG ?_);try refine ae ?_
 have U:=(s3.2 _ Q).trans B;have C:=J.trans s3;refine bS (gh I (gE U) ?_);refine bJ (am ?_);refine aW (aFz H hf (aE.jo (E:=bT) bF hn C) (aE.jo (E:=cC) bQ hi C) (xs.jo C) AM) ?_;rintro _ W ⟨x4,av,rfl,Z⟩;refine gh @ex0 @ex1 ?_;apply cB;intro X5 x5 m5 c5
 refine dB (b:=W.nx) (cs':=[av]) (aq) (by refine am ?_;exact zN Z) c5 rfl rfl ?_;intro X6 x6 m6 c6;refine am ?_
 have aa:jq W X6:=x6.jo x5 (Af _);have y:jq X3 X6:=x4.trans aa
 apply fZ;simp only[↓sU,sD,rE,↓reduceIte,rA,d0,Dr];refine aK (by simp only[↓sU,sD,rE,↓reduceIte,rA];try first | rfl | trivial) (aG ?_);try refine ae ?_
 have ab:jq X X6:=s3.trans y;have ac:=(ab.2 _ Q).trans B;have a2:=zN hi;refine bS (dz I (jE ac) ?_);refine bJ (ae ?_);refine aW (aAm H a2) ?_;rintro _ X7 ⟨D,bc,rfl,bs,a4,a5⟩
 have p:=ab.trans D;have ba:X1.nx<X3.nx:=by omega
 have bb:W.nx<X6.nx:=by omega
 have bv:X.nx<=X1.nx:=x1.1;have bw:X.nx<=W.nx:=Aq s3.1 x4.1;have bx:=w.lm;have bd:=((y.trans D).2 _ ba).trans c3;have be:=(D.2 _ bb).trans c6;have bz:=(y.trans D).1;have bA:=D.1;refine aJ (aSj (S:=S) (X:=X7) (g:=g) (L:=L) (m:=m) (iv:=iv) (fv:=fv) (av:=av) (u0:=u) (ub:=ub) (mb:=mb) (b9:=b9) (b12:=X1.nx) (b14:=W.nx) (bc:=bc) (r:=66) H G AM n rfl (af) a5 a4 (J.trans p) aI hi aV (w.jo p) i (ah p9) (af) (af) ((p.2 _ a1).trans a0) bd be au au au n9 au au  (R.jo ((T.trans y).trans D)) (aE.jo (E:=nM) fR Z (aa.trans D)) fun Y hJ=>?_);have⟨h1,h2,u',h3,h4,h5,h6⟩:=hJ;refine ae ?_
 refine aF (dz d w1 ?_);refine⟨k - 1,au,rfl,au,fun c hc an=>?_,j+1,u',au,h3,h4,fun x ao aw q hq=>?_,⟨ah I,ah p4,ah p5,ah p7,ah p9⟩,ah f,ah h,af⟩
 .rw[h2 c (ax p.1) an,p.2 c au];exact O c hc an
 .by_cases e:q=j
  .subst e;rw[P];exact h6 x (.inl ⟨ao,aw⟩)
  .exact h5 _ _ (hd x ao aw q au)
def evN(n:Nat):AV:=jr (n:Int)
def aNR{ev:V->AV}{f:K2->Option V}(c:aDd ev h b f){k:K2}{z:AV}{m:cQ}{v:V}(d:m.val F= .map b)(e:x.val F=lF k)(i:f k=some v):iC (.lookup (.struct [(0,.int),(1,.int)]) z false m x) F h=some (ev v):=aH1 aK2 c d e i
def aKa(b:tZ g.cg.length (mJ g.cg.length (L.map (dh g))) first){x:K2}(h:kI (ChE g L) x y):first.getD x.1 0=first.getD y.1 0:=by
 induction h with
 | edge e=>
  obtain⟨c,_,m,d,rfl⟩:=e;exact b.inv _ _ ⟨c,_,List.mem_map_of_mem d,rfl⟩
 | refl x=>rfl
 | symm _ f=>exact f.symm
 | trans _ _ i j=>exact i.trans j
def aGr{s a:Nat}{x:K2}(h:zZ g s a x):zZ g s (a+1) x:=by
 unfold zZ at h ⊢;omega
structure aTB(g:aP)(first:bt)(u0:K2->Option K2)(s a:Nat)(f:K2->Option Nat):Prop where
 f1:∀r b,f r=some b->∃s':Nat,first.getD s' 0=(s':Int)/\s'<g.cg.length/\zZ g s a (s',b)/\eQ u0 (s',b) r
 f2:∀s' b:Nat,first.getD s' 0=(s':Int)->s'<g.cg.length->zZ g s a (s',b)->∀r,eQ u0 (s',b) r->f r=some b
structure aU2(g:aP)(L:bo)(first:bt)(s a:Nat)(R:Nat->bt):Prop where
 r1:∀s',s'<s->(R s').length=fP g s'
 r2:(R s).length=a
 r3:∀s',s<s'->R s'= []
 r4:∀s' a',s'<g.cg.length->a'<(R s').length->∃b:Nat,(R s').getD a' 0=(b:Int)/\b<fP g (first.getD s' 0).toNat/\kI (ChE g L) (s',a') ((first.getD s' 0).toNat,b)
structure aR2(X:St)(ub mb fm ob:Nat)(g:aP)(L:bo)(first:bt)(u0:K2->Option K2)(s a:Nat)(Y:St):Prop where
 lt:X.nx<Y.nx
 fr:∀c,c<X.nx->c≠mb->c≠fm->c≠ob->Y.h.get c=X.h.get c
 un:∃u,oZ Y ub mb u/\UpK u (ChE g L)/\∀x r,eQ u0 x r->eQ u x r
 fn:∃f,aDd evN Y.h fm f/\aTB g first u0 s a f
 fa:∃cs R,Fam ⟨X.h,X.nx+1⟩ Y ob g.cg.length cs R/\aU2 g L first s a R
def Fam.moveX{Y Y':St}(h:Fam S0 Y ob NI cs R)(d:Y.nx<=Y'.nx)(f:Y'.h.get ob=Y.h.get ob)(i:∀c,S0.nx<=c->c<Y.nx->Y'.h.get c=Y.h.get c):Fam S0 Y' ob NI cs R:=
 ⟨f.trans h.ho,Ae h.lt d,h.hl,fun j a b=>(h.gr j a b).move d fun c e=>i c ((h.gr j a b).blk e).1 ((h.gr j a b).blk e).2.1,h.dj⟩
def aNg{m k v:cQ}{call:gD}:evX (.mapUpd sk m k v) call F S=rJ (m.val F) sk (k.val F) (v.val F) S:=rfl
def aQw{Z:St}{inr:Bool}{A s:Nat}{f:K2->Option Nat}{r:K2}{w:Nat}(B:Fam S0 Z ob NI cs R)(hs:s<NI)(bR:NI<=1000)(hR:(R s).length<=20000)(bU:S0.nx<=Z.nx)(bV:ob<S0.nx)
  (aw:aA 17 F= .ptr b17 0) (aI:aA 18 F= .ptr b18 0) (aV:aA 19 F=jr (s:Int)) (aZ:aA 21 F= .ptr A 0)
  (J:Z.h.get b17=js [.map fm]) (M:Z.h.get b18=js [fv,.sl ob 0 NI NI false]) (N:aAb Z.h A r) (hm:aDd evN Z.h fm f) (a0:f r=some w) (a1:b17<Z.nx) (a2:b18<Z.nx) (a4:A<Z.nx) (a5:fm<Z.nx)
  (hQ:∀F' V cs',Z.nx<=V.nx->(∀c,c<Z.nx->c≠ob->c<S0.nx->V.h.get c=Z.h.get c)->Fam S0 V ob NI cs' (fun j=>if j=s then R s++ [(w:Int)] else R j)->Q .normal ⟨F',inr⟩ V):
  jN fns (.drw (apP++apX)) ⟨F,inr⟩ Z Q:=by
 have O:s<cs.length:=by rw[B.hl];exact hs
 obtain⟨rv,C⟩:∃rv,cs[s]? =some rv:=⟨_,Ab O⟩;have P:=B.gr s rv C;have q:∀ {c cs' sz},Z.h.get c=some (.cells cs' false sz)->aN rv≠some c:=fun h=>P.off h;have⟨lm,ba,bW⟩:=id hm;have bb:aN rv≠some fm:=fun e=>by
  have:=(P.blk e).2.2;rw[ba] at this;cases this
 have bd:=q J;have be:=q M;have bj:=q N;have T:=q B.ho;have d17:=cM (p:=0) J rfl;have d18:=aCY M;have d21:=mK N;have bk:=cM B.ho C;have X:=eX (b:=ob) (o:=false) hs;have bm:=P.self;have Y:=B.lt;have aa:∀F':Fr,aA 129 F'= .map fm->aA 130 F'=lF r->iC (.lookup (.struct [(0,.int),(1,.int)]) (jr 0) false (.t 129) (.t 130)) F' Z.h=some (jr (w:Int)):=fun F' a b=>aNR hm a b a0;have ab:∀F':Fr,aA 129 F'= .map fm->aCr (fun c=>aN rv=some c) Z.nx (.lookup (.struct [(0,.int),(1,.int)]) (jr 0) false (.t 129) (.t 130)) F':=fun F' a=>xM a a5 bb;have il:dU (.lookup (.struct [(0,.int),(1,.int)]) (jr 0) false (.t 129) (.t 130))=true:=rfl;have bp:=fun(F:Fr) (id:Nat) (h:aA 131 F=jr (w:Int))=>lD (t:=3) (z:=jr 0) (x:=.t 131) (F:=F) (id:=id) (k:=.i64) (n:=(w:Int)) h;refine qA (W:=fun c=>aN rv=some c) (pre:=apP) (suf:=apX) (K:=14) (R:=fun F' V ps=>ps= []/\aA 134 F'= .ptr ob s/\∃d,aA 133 F'=d/\Z.nx<=V.nx/\(∀c,c<Z.nx->aN rv≠some c->V.h.get c=Z.h.get c)/\fC 1 S0 V d (R s++ [(w:Int)]).length (aQ (R s++ [(w:Int)]))/\∃b',aN d=some b'/\Z.nx<=b'/\b'<V.nx) rfl rfl rfl (fun X1 x1 bq bs=>?_) ?_
 .unfold apP;simp only[↓sU,sD,rE,↓reduceIte,rA,aw,aI,aV,aZ,d17,d18,d21,bk,a1,a2,a4,Y,bd,be,bj,T,Ap,yR,wH,bm,X,aa,ab,il,bp];have D:cN 4088 [⟨11,Z.nx+11,.cells [jr (w:Int)] false 0⟩] X1.h=([],X1.h.set (Z.nx+11) (js [jr (w:Int)])):=cK (m:=4088) rfl;have bY:Z.nx+15<=X1.nx:=by rw[bs];exact Af _
  obtain⟨U,hU⟩:∃U:St,U=⟨X1.h.set (Z.nx+11) (js [jr (w:Int)]),X1.nx⟩:=⟨_,rfl⟩;have nU:U.nx=X1.nx:=by rw[hU]
  have kU:∀c,c<Z.nx->U.h.get c=Z.h.get c:=fun c y=>by rw[hU];simp only;rw[dx,if_neg au,bq]
  have bv:jq Z U:=⟨au,kU⟩;have gU:U.h.get (Z.nx+11)=js [jr (w:Int)]:=by rw[hU];simp only;rw[dx,if_pos rfl]
  have bw:=P.step bv;have bZ:jq S0 ⟨U.h,U.nx⟩\/True:=.inr trivial;have⟨d,V,eA,gA,bA,nA,rA⟩:=fC.push (bytes:=8) (S0:=⟨U.h,S0.nx⟩) (S:=U) (t:=Z.nx+11) (w:=(w:Int)) bw ⟨by show S0.nx<=U.nx;omega,fun _ _=>rfl⟩ gU ay ay;refine qH (r:=d) (S1:=V) rfl ?_ ?_ ?_
  .refine ae ?_;rw[D,<-hU];exact eA
  .rw[D,<-hU];exact⟨au,fun c y G=>rA c au G⟩
  rw[D];refine c8 X ?_;exact⟨d,rfl,au,fun c y G=>(rA c au G).trans (kU c y),by exact gA,U.nx,bA,au,au⟩
 .rintro F' V ps b0 ls ⟨rfl,ac,d,an,nV,kV,gV,b',ao,bx,bz⟩ H bC;have m1:∀i,i<14->Nat.testBit 16383 i=true:=by decide
  have bI:V.h.get ob=js cs:=(kV _ Y T).trans B.ho;have bM:d.cells=some [d]:=fC.cells gV;unfold apX;refine iS (v:=.undef) (S1:=⟨V.h.set ob (js (cs.set s d)),V.nx⟩) (H _ m1) (fun call=>?_) ?_
  .rw[dE];simp only[fO,ac,an,bK,bM,aH];exact xY (cs:=cs) (p:=s) (S:=V) bI O
  rw[iL];refine⟨?_,?_⟩
  .simp only[Cg];exact bC _ _ _ m1
  .simp only[bK,fK];refine hQ _ _ (cs.set s d) nV (fun c y I b1=>?_) (B.push C nV jh ?_ ⟨b',ao,bx,bz⟩ fun c y I bP=>?_)
   .simp only;rw[dx,if_neg I];exact kV c y fun e=>by have:=(P.blk e).1;omega
   .refine gV.move (Af _) fun c y=>?_;simp only;rw[dx,if_neg (fun e=>by rw[ao] at y;cases y;omega)]
   .simp only;rw[dx,if_neg I];exact kV c y bP
noncomputable def aQH:AC:=(.seq (.reg [mt 19 97]) (.reg [mt 20 98]))
noncomputable def aQ7:AC:=aT6
structure aVI(S X:St)(A:bO)(ub mb fm ob b4 b5 b7 b9 b17 b18:Nat)(fv:AV)(NI:Nat):Prop where
 p4:aA 4 A.F= .ptr b4 0
 p5:aA 5 A.F= .ptr b5 0
 p7:aA 7 A.F= .ptr b7 0
 p9:aA 9 A.F= .ptr b9 0
 p17:aA 17 A.F= .ptr b17 0
 p18:aA 18 A.F= .ptr b18 0
 g4:∃x y,X.h.get b4=some (.cells [x,y] false 0)
 g5:∃x,X.h.get b5=some (.cells [x] false 0)
 g7:X.h.get b7=some (.cells [fv] false 0)
 g9:X.h.get b9=some (.cells [.ptr ub 0] false 0)
 g17:X.h.get b17=some (.cells [.map fm] false 0)
 g18:X.h.get b18=some (.cells [fv,.sl ob 0 NI NI false] false 0)
 l:b4<X.nx/\b5<X.nx/\b7<X.nx/\b9<X.nx/\b17<X.nx/\b18<X.nx/\mb<X.nx/\fm<X.nx/\ob<X.nx
 s:S.nx<=b4/\S.nx<=b5/\S.nx<=mb/\S.nx<=fm/\S.nx<=ob
 nm:b4≠mb/\b5≠mb/\b7≠mb/\b9≠mb/\b17≠mb/\b18≠mb/\fm≠mb/\ob≠mb
 nf:b4≠fm/\b5≠fm/\b7≠fm/\b9≠fm/\b17≠fm/\b18≠fm/\ob≠fm/\ub≠fm
 no:b4≠ob/\b5≠ob/\b7≠ob/\b9≠ob/\b17≠ob/\b18≠ob/\ub≠ob
 n45:b4≠b5
def aQn(S:St)(g:aP)(L:bo)(first:bt)(b4 b5:Nat)(Y:St):Prop:=jq S Y/\Dup g L first/\b4<Y.nx/\b5<Y.nx/\Y.h.get b4=js [.cr,.cr]/\Y.h.get b5=js [jr 13]
def aPx{f0:K2->Option Nat}{cs0:bu}(H:Has fns)(G:cV g)(bb:∀m∈L,gF g m)(hO:tZ g.cg.length (mJ g.cg.length (L.map (dh g))) first)(hi:A.inr=false)(hf:aA r A.F= .fn 59 [] [.ptr bc 0])(hb:X.h.get bc=js [iv])(b2:bc<X.nx)
  (hS:jq S X) (hv:aE 2 cC S iv g.cg) (hB:aVI S X A ub mb fm ob b4 b5 b7 b9 b17 b18 fv g.cg.length) (bd:∀s,s<g.cg.length->0<=(cu g (s:Int)).cm/\(cu g (s:Int)).cm<=10000)
  (hU:oZ X ub mb u0) (ac:UpK u0 (ChE g L)) (b3:∀x y,ChE g L x y->lE u0 x y) (an:bN .i64 X fv first) (b6:aN fv≠some ob) (be:aDd evN X.h fm f0) (b8:∀k,f0 k=none) (a4:X.h.get ob=js cs0) (bj:cs0.length=g.cg.length) (aV:∀ (j:Nat) (a:AV),cs0[j]? =some a->a=AV.cr)
  (hQ:∀Y,aR2 X ub mb fm ob g L first u0 g.cg.length 0 Y->Q .normal A Y) (b':∀Y,aQn S g L first b4 b5 Y->Q .ret A Y):jN fns (.rng (.t r) [97,98] aQH aQ7) A X Q:=by
 have⟨p4,p5,p7,p9,ao,bk,⟨x4,y4,g4⟩,⟨x5,g5⟩,g7,g9,ca,cc,⟨l4,l5,l7,l9,cf,ch,dw,cj,ck⟩,⟨s4,s5,dF,dM,dY⟩,⟨m4,m5,m7,m9,cl,cm,bm,bp⟩,⟨q4,q5,q7,q9,bq,bs,bv,cn⟩,⟨o4,o5,o7,o9,cq,cr,cv⟩,bw⟩:=hB;have dZ:=G.ni;have⟨es,cw⟩:=hU.mp;have d':=hU.lu;have⟨dr,a5,_⟩:=id be;have ea:=hS.1;refine aCK (S:=S) (R:=aQn S g L first b4 b5) (J:=aR2 X ub mb fm ob g L first u0) H hi hf hv au bd hb b2 (fun s a Y h=>⟨⟨ax h.lt,fun c n=>by rw[h.fr c au au au au];exact hS.2 c n⟩,h.lt⟩) (fun s a Y Y' h hn t=>?_) (fun Y Y' h hn t=>?_) (fun Y hn t=>?_) (fun s Y hs h=>?_) (fun s a Y hs ha h=>?_) hQ b'
 ·-- the iterator's own steps
  have⟨T,D,⟨u,h3,h4,h5⟩,⟨f,h6,U⟩,cs,R,h8,N⟩:=h;have⟨lm,q,B⟩:=h6;refine⟨au,fun c n I M a3=>(t c au au).trans (D c n I M a3),⟨u,h3.off2 hn (t _ h3.lu au) (t _ h3.lm au),h4,h5⟩,⟨f,⟨lm,(t _ au au).trans q,B⟩,U⟩,cs,R,h8.moveX hn (t _ h8.lt au) fun c C W=>t c W (by have:X.nx+1<=c:=C;omega),N⟩
 .have⟨T,D,h3,h4,h5,h6⟩:=h;exact⟨⟨Aq T.1 hn,fun c n=>(t c (Ae n T.1) au).trans (T.2 c n)⟩,D,au,au,(t _ h3 au).trans h5,(t _ h4 au).trans h6⟩
 ·-- the start
  have⟨lm,q,B⟩:=be;refine⟨hn,fun c n _ _ _=>t c n,⟨u0,hU.off (Nat.le_of_lt hn) t,ac,fun _ _ h=>h⟩,⟨f0,⟨lm,(t _ cj).trans q,B⟩,⟨fun r b h=>(by rw[b8] at h;cases h),fun d b _ _ h=>(by unfold zZ at h;omega)⟩⟩,cs0,fun _=>[],⟨(t _ ck).trans a4,au,bj,fun j a hj=>.inl ⟨aV j a hj,rfl,rfl⟩,fun j k a b _ hj _ c n=>by rw[aV j a hj] at n;cases n⟩,⟨fun d h=>au,rfl,fun _ _=>rfl,fun d a' _ h=>by simp at h⟩⟩
 ·-- the ji set
  have⟨T,D,h3,⟨f,h6,U⟩,cs,R,h8,N⟩:=h;refine⟨T,D,h3,⟨f,h6,⟨fun r b e=>?_,fun d b q B O=>U.f2 d b q B (aIZ O)⟩⟩,cs,R,h8,⟨fun d h=>?_,N.r3 _ (Dm s) ▸ rfl,fun d h=>N.r3 d au,N.r4⟩⟩
  .have⟨d,k1,k2,k3,k4⟩:=U.f1 r b e;refine⟨d,k1,k2,?_,k4⟩;unfold zZ at k3 ⊢;simp only at k3 ⊢;rcases k3 with⟨I,M⟩|⟨I,M⟩
   .exact .inl ⟨au,M⟩
   .exact .inl ⟨au,by rw[I];exact M⟩
  .by_cases e:d=s
   .rw[e];exact N.r2
   .exact N.r1 d au
 unfold aQH;refine bS (ae ?_);refine aF (ae ?_);intro bl;have⟨T,D,⟨u,h3,h4,h5⟩,⟨f,h6,U⟩,cs,R,h8,N⟩:=h;generalize aw:(⟨Y.h.set X.nx bl,Y.nx⟩:St)=Y';have nY:Y'.nx=Y.nx:=by rw[<-aw]
 have P:∀c,c≠X.nx->Y'.h.get c=Y.h.get c:=fun c n=>by rw[<-aw];simp only;rw[dx,if_neg n]
 have aZ:Y'.h.get X.nx=bl:=by rw[<-aw];simp only;rw[dx,if_pos rfl]
 have kY:∀c,c<X.nx->c≠mb->c≠fm->c≠ob->Y'.h.get c=X.h.get c:=fun c n I M a3=>(P c au).trans (D c n I M a3);have cx:oZ Y' ub mb u:=h3.off2 au (P _ au) (P _ au);have cy:Fam ⟨X.h,X.nx+1⟩ Y' ob g.cg.length cs R:=h8.moveX au (P _ au) fun c C W=>P c (by have:X.nx+1<=c:=C;omega);have cz:aDd evN Y'.h fm f:=by
  have⟨lm,q,B⟩:=h6;exact⟨lm,(P _ au).trans q,B⟩
 have⟨rt,aa⟩:=ac.ex (s,a);have d9:=cM (p:=0) ((kY _ l9 m9 q9 o9).trans g9) rfl;have cW:=fun(F:Fr) (h:Ev.T AB) (q:aA 100 F=jr (s:Int)) (B:aA 101 F=jr (a:Int))=>aRa (h:=h) q B;unfold aQ7;refine aJ (aB (aF ?_));refine gj p9 d9 cW ?_;refine bJ (am ?_);refine aW (aAN H cx h4 (h5 _ _ aa)) ?_;rintro _ V1 ⟨rfl,v1,u1,cX,bx,bz⟩
 apply cB;intro V2 v2 k2 c2
 refine dB (b:=V1.nx) (aq) (by refine am ?_;exact qB _) c2 rfl rfl ?_;intro V3 v3 k3 c3;refine am ?_
 have ba:jq V1 V3:=v3.jo v2 (Af _);have eb:=v1.1;have ed:=ba.1;have bA:aAb V3.h V1.nx rt:=c3;have kV:∀c,c<Y'.nx->c≠mb->V3.h.get c=Y'.h.get c:=fun c n cY=>(ba.2 c au).trans (v1.2 c n cY);have kX:∀c,c<X.nx->c≠mb->c≠fm->c≠ob->V3.h.get c=X.h.get c:=fun c n I M a3=>(kV c au I).trans (kY c n I M a3);have cZ:oZ V3 ub mb u1:=cX.jo ba;have c0:Fam ⟨X.h,X.nx+1⟩ V3 ob g.cg.length cs R:=cy.moveX au (kV _ au bp) fun c C W=>kV c W (by have:X.nx+1<=c:=C;omega);have aI:aDd evN V3.h fm f:=by
  have⟨lm,q,B⟩:=cz;exact⟨lm,(kV _ au bm).trans q,B⟩
 have⟨ee,dt,_⟩:=id aI;have d7:=cM (p:=0) ((kX _ l7 m7 q7 o7).trans g7) rfl;have c1:bN .i64 V3 fv first:=eH an (au:X.nx<=V3.nx) fun c n=>kX c (dK an n) (fun e=>zK an cw (by rw[<-e];exact n)) (fun e=>zK an a5 (by rw[<-e];exact n)) fun e=>b6 (by rw[<-e];exact n);have⟨qb,qq,c6,eg,bC⟩:=mE c1 (i:=s) (by rw[hO.len];exact hs);have eh:=hO.le s hs;have a0:=(kX _ cf cl bq cq).trans ca;have d17:=cM (p:=0) a0 rfl;have bI:=(kX _ ch cm bs cr).trans cc;have d21:=mK bA;have ei:=(bd s hs);have dv:fP g s=(cu g (s:Int)).cm.toNat:=rfl;have c7:V3.h.get X.nx=bl:=(kV _ au au).trans aZ;refine aB (aX (Q:=fun o A1 Z=>(o= .ret/\Z.h.get X.nx=bl/\Y.nx<=Z.nx/\aQn S g L first b4 b5 Z)\/(o= .normal/\A1.inr=true/\aA 17 A1.F= .ptr b17 0/\aA 18 A1.F= .ptr b18 0/\aA 19 A1.F=jr (s:Int)/\aA 21 A1.F= .ptr V1.nx 0/\Z.nx=V3.nx/\(∀c,c≠fm->Z.h.get c=V3.h.get c)/\∃ (w:Nat) (f':K2->Option Nat),aDd evN Z.h fm f'/\f' rt=some w/\aTB g first u0 s (a+1) f'/\w<fP g (first.getD s 0).toNat/\kI (ChE g L) (s,a) ((first.getD s 0).toNat,w))) ?_ ?_)
 .refine bS (ec p7 d7 c6 bC ?_);by_cases er:first.getD s 0=(s:Int);rotate_left
  ·-- not a representative
   refine aK (ja (Aa er)) (aG ?_);have⟨r1,r2⟩:=aDl hO hs;have⟨t1,σ,t2,t3⟩:=aDT G bb (hO.con s hs);have⟨bM,bP⟩:=t2 a ha;have⟨r',z1,z2⟩:=aGs ac b3 bP;obtain rfl:=z1.uni aa;refine .inr ⟨rfl,rfl,ah ao,ah bk,af,af,rfl,fun _ _=>rfl,σ a,f,aI,U.f2 _ _ r2 r1 (.inl ⟨au,bM⟩) _ z2,⟨fun r b e=>?_,fun d b q B O r e4=>?_⟩,bM,bP⟩
   .have⟨d,k1,k2,k3,k4⟩:=U.f1 r b e;exact⟨d,k1,k2,aGr k3,k4⟩
   .rcases aCe O with O|O
    .exact U.f2 d b q B O r e4
    .cases O;exact absurd q er
  .refine aM (ja (Ac er)) ?_;have d22:=fun(F:Fr) (T:aA 111 F= .map fm) (D:aA 112 F=lF rt)=>aK3 (z:=jr 0) (m:=.t 111) (x:=.t 112) (F:=F) aI T D;refine fZ (ec ao d17 d21 d22 ?_);cases bR:f rt with
   | some b=>
    refine ae ?_;refine bS (ae ?_);refine aM (by simp only[↓sU,sD,rE,↓reduceIte,rA];try first | rfl | trivial) ?_;have c':=(kX _ l4 m4 q4 o4).trans g4;have da:=(kX _ l5 m5 q5 o5).trans g5;have dc:∀ (F:Fr) (h:Ev.T AB),iC (.build [.cr,.cr] []) F h=some (.agg [.cr,.cr]):=fun _ _=>rfl;refine bS (fx dc ?_);refine dB (b:=b4) (cs':=[.cr,.cr]) (ar p4) (by simp only[↓aD,aC,rE,↓reduceIte,rA];rfl) c' rfl rfl ?_;intro V4 v4 k4 c4
    refine dB (b:=b5) (cs':=[jr 13]) (ar p5) (by simp only[↓aD,aC,rE,↓reduceIte,rA];rfl) ((v4.2 _ au (Ch bw)).trans da) rfl rfl ?_;intro V5 v5 k5 c5;refine am ?_
    apply aS;have⟨d,z1,z2,z3,z4⟩:=U.f1 rt b bR;have zc:kI (ChE g L) (d,b) (s,a):=lE.conn ac ⟨rt,z4,aa⟩;have zf:=aKa hO zc;simp only at zf;obtain rfl:d=s:=by omega
    unfold zZ at z3;simp only at z3;refine .inl ⟨rfl,?_,au,⟨au,fun c n=>?_⟩,⟨d,b,a,hs,er,au,ha,zc⟩,au,au,(v5.2 _ au bw).trans c4,c5⟩
    .exact(v5.2 _ au au).trans ((v4.2 _ au au).trans c7)
    .exact(v5.2 _ au au).trans ((v4.2 _ au au).trans ((kX c au au au au).trans (hS.2 c n)))
   | none=>
    refine ae ?_;refine bS (ae ?_);refine aK (by simp only[↓sU,sD,rE,↓reduceIte,rA];try first | rfl | trivial) (aG ?_);refine ae ?_
    refine aF (gj ao d17 d21 ?_);have⟨Z,dd,df,dg,di⟩:=aEg (S:=V3) aI rt a;refine eK (v:=.undef) (S1:=Z) (fun call=>?_) ?_
    .rw[aNg];refine am ?_;exact dd
    refine am ?_;refine .inr ⟨ao,bk,df,dg,a,_,di,by unfold pV;rw[if_pos rfl],⟨fun r b e=>?_,fun d b q B O r e4=>?_⟩,by rw[er];exact ha,by rw[er];exact .refl _⟩
    .unfold pV at e;split at e
     .rename_i e0;cases e;subst e0;exact⟨s,er,hs,.inr ⟨rfl,Dm _⟩,aa⟩
     .have⟨d,k1,k2,k3,k4⟩:=U.f1 r b e;exact⟨d,k1,k2,aGr k3,k4⟩
    .unfold pV;rcases aCe O with O|O
     .have:=U.f2 d b q B O r e4;rw[if_neg (fun e0=>by rw[e0,bR] at this;cases this)];exact this
     .cases O;rw[if_pos (e4.uni aa)]
 .rintro o ⟨F,inr⟩ Z hZ;rcases hZ with⟨rfl,z1,z2,z3⟩|⟨rfl,q,bU,bV,bW,bY,nZ,kZ,w,f',bZ,hw,dj,dm,dn⟩
  .exact⟨z1,z2,.inr ⟨rfl,z3⟩⟩
  simp only at q bU bV bW bY;subst q;have ab:(R s).length=a:=N.r2;have dp:Fam ⟨X.h,X.nx+1⟩ Z ob g.cg.length cs R:=c0.moveX au (kZ _ bv) fun c C W=>kZ c (by have:X.nx+1<=c:=C;omega);refine aQw dp hs au au  (by show X.nx+1<=Z.nx;omega) (by show ob<X.nx+1;omega) bU bV bW bY ((kZ _ bq).trans a0) ((kZ _ bs).trans bI) ((kZ _ au).trans bA) bZ hw au au au au  fun F' V cs' hn t b0=>?_;have b1:∀c,c<X.nx+1->c≠ob->c≠fm->c≠mb->V.h.get c=Y'.h.get c:=fun c n I M a3=>(t c au I n).trans ((kZ c M).trans (kV c au a3));refine⟨(b1 _ au au au au).trans aZ,au,.inl ⟨rfl,⟨au,fun c n I M a3=>(b1 c au a3 M I).trans (kY c n I M a3),⟨u1,?_,bx,fun x r dq=>bz _ _ (h5 x r dq)⟩,⟨f',?_,dj⟩,cs',_,b0,?_⟩⟩⟩
  .have q:V.h.get ub=V3.h.get ub:=(t _ au cv (au:ub<X.nx+1)).trans (kZ _ cn);have B:V.h.get mb=V3.h.get mb:=(t _ au (Ch bp) (au:mb<X.nx+1)).trans (kZ _ (Ch bm));exact cZ.off2 au q B
  .have⟨lm,y1,y2⟩:=bZ;exact⟨lm,(t _ au (Ch bv) (au:fm<X.nx+1)).trans y1,y2⟩
  .refine⟨fun d h=>by rw[if_neg au];exact N.r1 d h,by rw[if_pos rfl,Ai,ab,Ax],fun d h=>by rw[if_neg au];exact N.r3 d h,fun d a' T D=>?_⟩;by_cases e:d=s
   .subst e;rw[if_pos rfl] at D ⊢;by_cases B:a'<a
    .have⟨b,y1,y2⟩:=N.r4 d a' T au;refine⟨b,?_,y2⟩;rw[Ad,Ak au,<-Ad];exact y1
    .rw[Ai,Ax] at D;obtain rfl:a'=(R d).length:=by omega
     refine⟨w,?_,dm,by rw[ab];exact dn⟩;rw[Ad,Ao (Af _),Dv];rfl
   .rw[if_neg e] at D ⊢;exact N.r4 d a' T D
def aVg(g:aP)(L:bo)(S':St)(fv av:AV)(e:Int):Prop:=(mI g L≠0/\e=mI g L/\fv= .cr/\av= .cr)\/(mI g L=0/\∃first,tZ g.cg.length (mJ g.cg.length (L.map (dh g))) first/\((e=13/\Dup g L first/\fv= .cr/\av= .cr)\/(e=0/\¬Dup g L first/\∃act,aJa g L first act/\bN .i64 S' fv first/\aE 1 nM S' av act)))
def aPm{q n m:Nat}{c:Bool}(d:aA t1 F=fv)(e:fv.cells=some [fv])(f:aA t2 F= .sl b q n m c):iC (.build [.cr,.cr] [(0,1,.t t1),(1,1,.t t2)]) F h=some (.agg [fv,.sl b q n m c]):=aFS d f e rfl
def aI8(H:Has fns)(hn:aE 6 bT S nv g.ce)(hi:aE 2 cC S iv g.cg)(b1:g.ce.length<=100000)(hm:aE 1 nM S mv L):
  iK fns (.fn 26 [] []) [.agg [jr g.ch,nv,iv],mv] S fun r S'=>jq S S'/\∃fv av e,r= .tup [.agg [fv,av],jr e]/\aVg g L S' fv av e:=by
 refine cJ H.f26 (by simp) ?_;refine am ?_;apply bS;refine dC (by refine am ?_;exact bB _) ?_;intro S1 s1 n1 g1;refine am ?_;apply cB;intro T s2 n2 g2
 apply cB;intro S3 s3 n3 g3;refine am ?_
 have b2:∀ (F:Fr) (h:Ev.T AB),iC (.build [.cr,.cr] []) F h=some (.agg [.cr,.cr]):=fun _ _=>rfl;have aa:=s1.trans (s2.trans s3);have b3:=aE.jo (E:=cC) bQ hi aa;have b8:=aE.jo (E:=nM) fR hm aa;apply bS;refine fx (gE ((s3.2 _ au).trans ((s2.2 _ au).trans g1))) ?_;refine bJ (am ?_);refine aW (aGI H (aE.jo (E:=bT) bF hn aa) b3 b1 b8) ?_;rintro _ S4 ⟨s4,xv,fv,rfl,bb,C⟩;refine gj @ex0 @ex1 @ex2 ?_;apply cB;intro S5 s5 n5 g5;refine am ?_
 have bd:fv.cells=some [fv]:=by
  by_cases U:mI g L=0
  .have⟨_,_,_,hb,_⟩:=C U;exact bN.cells hb.is
  .rw[(bb U).2];rfl
 refine dB (b:=S4.nx) (cs':=[fv]) (aq) (by refine am ?_;exact bd) g5 rfl rfl ?_;intro S6 s6 n6 g6;refine am ?_
 have i:jq S4 S6:=s6.jo s5 (Af _);have D:=s4.trans i;have w:=aa.trans D;have m3:=D.1;have m4:=s4.1;have c2:S6.h.get S.nx=js [jr g.ch,nv,iv]:=(D.2 _ au).trans ((s3.2 _ au).trans ((s2.2 _ au).trans g1));have c4:S6.h.get S1.nx=js [.cr,.cr]:=(D.2 _ au).trans ((s3.2 _ au).trans g2);have c5:S6.h.get T.nx=js [jr 0]:=(D.2 _ au).trans g3
 refine fZ (ae ?_);by_cases U:mI g L=0;rotate_left
 .refine aM (ja (Ac (show mI g L≠0 from U))) ?_;refine bS (fx b2 ?_);refine dB (b:=S1.nx) (cs':=[.cr,.cr]) (aq) (by simp only[↓aD,aC,rE,↓reduceIte,rA];rfl) c4 rfl rfl ?_;intro V4 v4 k4 d4
  refine dB (b:=T.nx) (cs':=[jr (mI g L)]) (aq) (by simp only[↓aD,aC,rE,↓reduceIte,rA];rfl) ((v4.2 _ au au).trans c5) rfl rfl ?_;intro V5 v5 k5 d5;refine am ?_
  apply aS;have I:=mA (n:=2) ((v5.2 _ au au).trans d4) rfl;have J:=cM (p:=0) d5 rfl;refine gj @eI I J ?_;exact⟨⟨au,fun c d=>(v5.2 c au au).trans ((v4.2 c au au).trans (w.2 c d))⟩,_,_,_,rfl,.inl ⟨U,rfl,rfl,rfl⟩⟩
 rw[U];refine aK (by simp only[↓sU,sD,rE,↓reduceIte,rA];try first | rfl | trivial) (aG ?_);refine ae ?_
 have⟨be,bj,bm⟩:=aCc U;have⟨_,first,_,A,_,hO⟩:=C U;have ao:∀m∈L,gF g m:=fun m hm=>rV (uR bm m hm);have G:=gR be;have cY:=G.ni;have b':∀s,s<g.cg.length->0<=(cu g (s:Int)).cm/\(cu g (s:Int)).cm<=10000:=fun s M=>by
  have⟨f1,_,_⟩:=G.fst s M;rw[xH G M];have:=G.nxt _ f1;omega
 apply bS;refine fQ (v:=.map S6.nx) (bl:=.map []) rfl ?_;intro S7 s7 n7 g7;refine am ?_;have ca:∀ (F:Fr) (h:Ev.T AB),aA 35 F= .map S6.nx->iC (.build [.nilmap] [(0,1,.t 35)]) F h=some (.agg [.map S6.nx]):=fun F h e=>by
  show(bD (eO _ (dN F [(0,1,.t 35)])) fun cs=>some (AV.agg cs))=_;simp only[dN,show(cQ.t 35).val F= .map S6.nx from e,eO];rfl
 refine fx ca ?_;refine dC (cs:=[.map S6.nx]) (by simp only[↓aD,aC,rE,↓reduceIte,rA];rfl) ?_;intro S8 s8 n8 g8
 apply cB;intro S9 s9 n9 g9
 refine dB (b:=S8.nx) (cs':=[.ptr S7.nx 0]) (aq) (by simp only[↓aD,aC,rE,↓reduceIte,rA];rfl) g9 rfl rfl ?_;intro X0 x0 m0 bp;refine am ?_
 have aI:jq S8 X0:=x0.jo s9 (Af _);have aV:jq S6 X0:=s7.trans (s8.trans aI);have ab:=w.trans aV;have cZ:X0.nx=S6.nx+3:=by omega
 have cc:oZ X0 S7.nx S6.nx (fun _=>none):=⟨(aI.2 _ au).trans g8,⟨[],(aI.2 _ au).trans ((s8.2 _ au).trans g7),fun _=>rfl⟩,au,au,au⟩;have bq:UpK (fun _=>none) (ChE g L):=⟨⟨fun _=>0,fun _ _ h=>by cases h⟩,fun _ _ h=>by cases h⟩;refine aB (aX (Q:=fun o A' X=>o= .normal/\aR7 X0 S7.nx S6.nx S.nx S1.nx T.nx S4.nx S8.nx mv g L 0 A' X) (aB (aF ?_)) ?_)
 .refine dz hm.len @Ag ?_;exact aSg (S:=S) H be ao bj ab hn hi hm au cc bq au au au au  ((aV.2 _ au).trans c2) bp ⟨af,af,af,af,af⟩ (af) (af) (ag)
 rintro o ⟨F,inr⟩ X ⟨rfl,rfl,nX,kX,j,u,c0,hU,bs,bv,⟨p2,p4,p5,p7,p9⟩,_⟩;simp only at p2 p4 p5 p7 p9;obtain rfl:j=L.length:=by omega
 have cf:jq S X:=⟨ax ab.1,fun c d=>(kX c (ax ab.1) (ax w.1)).trans (ab.2 c d)⟩;apply bS;refine fQ (v:=.map X.nx) (bl:=.map []) rfl ?_;intro Y1 y1 k1 e1;refine am ?_;apply cB;intro Y2 y2 k2 e2
 refine dB (b:=Y1.nx) (cs':=[.map X.nx]) (aq) (by simp only[↓aD,aC,rE,↓reduceIte,rA];rfl) e2 rfl rfl ?_;intro Y3 y3 k3 e3;refine am ?_
 have bw:jq Y1 Y3:=y3.jo y2 (Af _);have bx:jq X Y3:=y1.trans bw;have nY:Y3.nx=X.nx+2:=by omega
 have ch:Y3.h.get X.nx=some (.map []):=(bw.2 _ au).trans e1;have o0:=w.1;have bz:∀c,c<X0.nx->c≠S6.nx->Y3.h.get c=X0.h.get c:=fun c d hm=>(bx.2 c au).trans (kX c d hm);have aZ:∀c,c<S6.nx->Y3.h.get c=S6.h.get c:=fun c d=>(bz c au au).trans (aV.2 c d);have e7:Y3.h.get S4.nx=js [fv]:=(aZ _ au).trans g6;have bA:Y3.h.get S.nx=js [jr g.ch,nv,iv]:=(aZ _ au).trans c2;have d7:=cM (p:=0) e7 rfl;have bC:S.nx<Y3.nx:=by omega
 have cj:S4.nx<Y3.nx:=by omega
 have N:cI fv fv=true:=by
  have⟨b,e,_⟩:=id A;rw[e];simp only[↓sU,sD,rE,↓reduceIte,rA]
 have c1:=fun F id (x:cQ) (hx:gL (x.val F)=some g.cg.length)=>oK (t:=22) (s:=1) (bytes:=24) (z:=[AV.cr]) (l:=x) (c:=x) (F:=F) (id:=id) (n:=g.cg.length) hx hx ay ay;refine aB (nR (fun _=>False) ?_);refine fe p7 p2 d7 (jE bA) bC cj N hi.len @Ag ?_;have ck:∀F h,aA 88 F=fv->aA 92 F= .sl (Y3.nx+4) 0 g.cg.length g.cg.length false->iC (.build [.cr,.cr] [(0,1,.t 88),(1,1,.t 92)]) F h=some (.agg [fv,.sl (Y3.nx+4) 0 g.cg.length g.cg.length false]):=fun F h a b=>aPm a bd b;refine⟨not_false,⟨aE.self hi,not_false⟩,qF (n:=g.cg.length) (af) (af) ay ay  ?_⟩;have cl:dU (.build [.cr,.cr] [(0,1,.t 88),(1,1,.t 92)])=false:=rfl;have cm:∀F,uI (.alloc 74 [.cr,.cr]) F (Y3.nx+6)=some (.ptr (Y3.nx+6) 0,.cells [.cr,.cr] false 0):=fun _=>rfl;refine ec ck cl cm @lR ?_;rw[repeatL_one];obtain⟨Z0,O⟩:∃Z0:St,Z0=⟨((Y3.h.set (Y3.nx+6) (js [.cr,.cr])).set (Y3.nx+4) (js (List.replicate g.cg.length .cr))),Y3.nx+8⟩:=⟨_,rfl⟩;have ac:cN 127 [⟨6,Y3.nx+6,.cells [.cr,.cr] false 0⟩,⟨4,Y3.nx+4,.cells (List.replicate g.cg.length .cr) false 0⟩] Y3.h=([],Z0.h):=by
  rw[O];rw[iH (az:Nat.testBit 127 6=true),iH (az:Nat.testBit 127 4=true),bK]
 have b6:Z0.h.get (Y3.nx+6)=js [.cr,.cr]:=by rw[O];simp only;rw[dx,if_neg au,dx,if_pos rfl]
 have bI:Z0.h.get (Y3.nx+4)=js (List.replicate g.cg.length .cr):=by rw[O];simp only;rw[dx,if_pos rfl]
 have bk:∀c,c<Y3.nx->Z0.h.get c=Y3.h.get c:=fun c d=>by rw[O];simp only;rw[dx,if_neg au,dx,if_neg au]
 refine qC (S1:=⟨Z0.h.set (Y3.nx+6) (js [fv,.sl (Y3.nx+4) 0 g.cg.length g.cg.length false]),Y3.nx+8⟩) rfl ?_ ?_ ?_
 .refine ae ?_;rw[ac,bB,aH];exact mM (S:=⟨Z0.h,Y3.nx+8⟩) b6 rfl rfl
 .refine⟨Af _,fun c d _=>?_⟩;simp only;rw[ac,dx,if_neg au]
 rw[ac];refine c8 @bK ?_;obtain⟨Z,hZ⟩:∃Z:St,Z=⟨Z0.h.set (Y3.nx+6) (js [fv,.sl (Y3.nx+4) 0 g.cg.length g.cg.length false]),Y3.nx+8⟩:=⟨_,rfl⟩;rw[<-hZ];have nZ:Z.nx=Y3.nx+8:=by rw[hZ]
 have kZ:∀c,c<Y3.nx->Z.h.get c=Y3.h.get c:=fun c d=>by rw[hZ];simp only;rw[dx,if_neg au];exact bk c d
 have bM:Z.h.get (Y3.nx+6)=js [fv,.sl (Y3.nx+4) 0 g.cg.length g.cg.length false]:=by rw[hZ];simp only;rw[dx,if_pos rfl]
 have cn:Z.h.get (Y3.nx+4)=js (List.replicate g.cg.length .cr):=by rw[hZ];simp only;rw[dx,if_neg au];exact bI
 have cq:jq Y3 Z:=⟨au,kZ⟩;have bP:=bx.trans cq;have an:=cf.trans bP;have P:∀c,c<S6.nx->Z.h.get c=S6.h.get c:=fun c d=>(kZ c au).trans (aZ c d);refine aB (aX (Q:=fun o A' V=>(o= .normal/\∃W,jq Z W/\aR2 W S7.nx S6.nx X.nx (Y3.nx+4) g L first u g.cg.length 0 V/\aA 18 A'.F= .ptr (Y3.nx+6) 0/\aA 4 A'.F= .ptr S1.nx 0/\aA 5 A'.F= .ptr T.nx 0)\/(o= .ret/\aA 4 A'.F= .ptr S1.nx 0/\aA 5 A'.F= .ptr T.nx 0/\aQn S g L first S1.nx T.nx V)) (aB (aF ?_)) ?_)
 .refine dz p2 (jE ((kZ _ bC).trans bA)) ?_;refine bJ (ae ?_);refine aW (aAm H (zN hi)) ?_;rintro _ W ⟨v0,bc,rfl,c3,cr,cv⟩
  have bR:=an.trans v0;have bU:bN .i64 W fv first:=A.is.jo (i.trans (jq.trans (⟨au,P⟩:jq S6 Z) v0));have bV:aN fv≠some (Y3.nx+4):=fun e=>by
   have:=dK A.is e;have:=i.1;omega
  have cw:=i.1;refine aJ (aPx (S:=S) (X:=W) (g:=g) (L:=L) (first:=first) (iv:=iv) (fv:=fv) (u0:=u) (f0:=fun _=>none) (ub:=S7.nx) (mb:=S6.nx) (fm:=X.nx) (ob:=Y3.nx+4) (b4:=S1.nx) (b5:=T.nx) (b7:=S4.nx) (b9:=S8.nx) (b17:=Y1.nx) (b18:=Y3.nx+6) (bc:=bc) (r:=96) (cs0:=List.replicate g.cg.length .cr) H G ao hO rfl (af) cv cr bR hi ?_ b' ((hU.jo bP).jo v0) bs ?_ bU bV ⟨[],(v0.2 _ au).trans ((kZ _ au).trans ch),fun _=>rfl⟩ (fun _=>rfl) ((v0.2 _ au).trans cn) (Au ..) (fun j a hj=>?_) (fun V hJ=>?_) fun V hE=>?_)
  .have kV:∀c,c<S6.nx->W.h.get c=S6.h.get c:=fun c d=>(v0.2 c au).trans (P c d);have cx:=v0.1;have t1:=w.1;exact⟨ah p4,ah p5,ah p7,ah p9,af,af,⟨_,_,(kV _ au).trans c4⟩,⟨_,(kV _ au).trans c5⟩,(kV _ au).trans g6,(v0.2 _ au).trans ((kZ _ au).trans ((bz _ au au).trans bp)),(v0.2 _ au).trans ((kZ _ au).trans e3),(v0.2 _ au).trans bM,au,au,au,au,au,au⟩
  .rintro x y ⟨B,Y,m,a0,rfl⟩;obtain⟨q,hq,rfl⟩:=Ce a0;have:=bv x B Y q hq;rw[Ad,Ab hq] at this;exact this
  .rw[Cj] at hj;split at hj
   .cases hj;rfl
   .cases hj
  .exact .inl ⟨rfl,W,v0,hJ,af,ah p4,ah p5⟩
  .exact .inr ⟨rfl,ah p4,ah p5,hE⟩
 rintro o ⟨F',inr⟩ V hV;have cw:=i.1;rcases hV with⟨rfl,W,v0,hJ,bW,q4,q5⟩|⟨rfl,q4,q5,hE⟩
 rotate_left
 .simp only at q4 q5;have⟨h1,h2,h3,h4,h5,h6⟩:=hE;have I:=mA (n:=2) h5 rfl;have J:=cM (p:=0) h6 rfl;refine gy @eI q4 q5 I J ?_;exact⟨h1,_,_,_,rfl,.inr ⟨U,first,hO,.inl ⟨rfl,h2,rfl,rfl⟩⟩⟩
 simp only at bW q4 q5;have⟨j1,j2,⟨u',j3,j4,j5⟩,⟨f,j6,j7⟩,cs,R,j8,j9⟩:=hJ;have cx:=v0.1;have t1:=w.1;have bR:=an.trans v0;have kV:∀c,c<Z.nx->c≠S6.nx->c≠X.nx->c≠Y3.nx+4->V.h.get c=Z.h.get c:=fun c d B Y a3=>(j2 c au B Y a3).trans (v0.2 c au);have cy:=(kV _ au au au au).trans bM;have w4:=(kV _ au au au au).trans ((P S1.nx au).trans c4);have w5:=(kV _ au au au au).trans ((P T.nx au).trans c5);have bY:=mA (n:=2) cy rfl;refine am ?_
 refine bS (gh bW bY ?_);refine dB (b:=S1.nx) (cs':=[fv,.sl (Y3.nx+4) 0 g.cg.length g.cg.length false]) (ar q4) (by refine am ?_;exact bB _) w4 rfl rfl ?_;intro V4 v4 k4 d4
 refine dB (b:=T.nx) (cs':=[jr 0]) (ar q5) (by simp only[↓aD,aC,rE,↓reduceIte,rA];rfl) ((v4.2 _ au au).trans w5) rfl rfl ?_;intro V5 v5 k5 d5;refine am ?_
 apply aS;have I:=mA (n:=2) ((v5.2 _ au au).trans d4) rfl;have J:=cM (p:=0) d5 rfl;have cX:=i.1;have kF:∀c,c<V.nx->c≠S1.nx->c≠T.nx->V5.h.get c=V.h.get c:=fun c d B Y=>(v5.2 c au Y).trans (v4.2 c d B);refine gy @eI q4 q5 I J ?_;have aw:∀s,s<g.cg.length->(((List.range g.cg.length).map R).getD s [])=R s:=fun s M=>by rw[Ad,Ba,Cm M];rfl
 have bZ:=(j8.moveX (Y':=V5) au (kF _ j8.lt au au) fun c b0 cz=>kF c cz (by have:W.nx+1<=c:=b0;omega) (by have:W.nx+1<=c:=b0;omega)).is;refine⟨⟨au,fun c d=>(kF c au au au).trans ((kV c (ax an.1) au au au).trans (an.2 c d))⟩,_,_,_,rfl,.inr ⟨U,first,hO,.inr ⟨rfl,?_,(List.range g.cg.length).map R,⟨by rw[Av,Cn],fun s M=>by rw[aw s M];exact j9.r1 s M,fun s a M ha=>?_⟩,?_,bZ⟩⟩⟩
 .rintro⟨s,a,b,B,Y,a3,a4,a5⟩;have ba:=aGs bs (fun x y ⟨B,Y,m,a0,e⟩=>by
   subst e;obtain⟨q,hq,rfl⟩:=Ce a0;have:=bv x B Y q hq;rw[Ad,Ab hq] at this;exact this) a5
  have⟨r,y1,y2⟩:=ba;have z1:=j7.f2 s a Y B (.inl ⟨B,Nat.lt_trans a3 a4⟩) r y1;have z2:=j7.f2 s b Y B (.inl ⟨B,a4⟩) r y2;rw[z1] at z2;cases z2;omega
 .rw[aw s M];exact j9.r4 s a M (by rw[j9.r1 s M];exact ha)
 .refine eH A.is au fun c d=>?_;have cW:=dK A.is d;have c6:S3.nx<=c:=by
   obtain⟨b,rfl,e1,_⟩:=A;cases d;exact e1
  rw[kF c au au au,kV c au au au au,P c au];exact i.2 c cW
end Go.Ev.Gl
