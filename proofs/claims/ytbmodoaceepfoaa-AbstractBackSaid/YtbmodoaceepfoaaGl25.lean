import Derived.Test.YtbmodoaceepfoaaGl24
set_option linter.all false
open Nat renaming reduceEqDiff -> rE, reduceAdd -> rA
set_option maxHeartbeats 0
namespace Go.Ev.Gl
variable {fns:T eY}
variable {dt:ce}{r:List eR}{j:Nat}{S X:St}{nv iv mv sv v:AV}{P P':Nat->Prop}{cs:cd}
section
variable {g:aX}{L:bt}{first:bu}{act:bt}
def tK(g:aX)(first:bu)(act:bt)(dt:ce)(s:List (List eR))(i:Nat):List eR:=(List.range (fJ g i)).map fun a=>qG s (dt.idxOf (mS first i)) (aAe act i a)
def aSK(g:aX)(s:List (List eR))(Z:St)(first:bu)(act:bt)(r:AV):Prop:=(¬sG (xT g (iM g first act)) s/\r= .tup [.ct,je 10])\/(sG (xT g (iM g first act)) s/\∃v,r= .tup [v,je 0]/\aG 1 lN Z v ((List.range g.ch.length).map (tK g first act (iM g first act) s)))
def aHT{i:Nat}(h:i<first.length):(wL first dt).getD i 0=((dt.idxOf (mS first i):Nat):Int):=by
 unfold wL mS;rw[Ad,Az,Ad,Ab h];rfl
def aNJ{s:List (List eR)}{r:Nat}(h:sG (xT g dt) s)(c:r∈dt):∃l,s[dt.idxOf r]? =some l/\l.length=fJ g r:=by
 have a:=List.idxOf_lt_length_of_mem c;have b:dt.idxOf r<s.length:=by rw[h.1];unfold xT;rw[Al];exact a
 refine⟨_,Ab b,?_⟩;have:=h.2 (dt.idxOf r) (cv g (r:Int)) _ (by unfold xT;rw[Az,Ab a,List.getElem_idxOf a];rfl) (Ab b);unfold fJ;omega
def aH2{key:Nat->Nat}{M:Nat->List eR}{n:Nat}(h:key j<n):RowK key M n 0 j=M j:=by
 unfold RowK;rw[if_pos h]
def aKv(G:eO g)(c:pX g act):(iM g first act).length<=2000:=by
 have⟨Tr,b,a,_⟩:=G.walk;have:=aB9 (g:=g) (first:=first) (act:=act) (f:=g.cg.length) (o:=0) (i:=0) (dt:=[]);have:=wY (first:=first) G c b a (f:=g.cg.length) (o:=0) (i:=0) (dt:=[]) G.n1;have:=(qC (mN az (show fB g.cg.length (dN g) (g.cg.length+1) 0 (-1) 0=some Tr from b)) (i:=0) (by rw[a];exact G.n1)).2.1;have:=G.n2;unfold iM;simp only[Cb] at *;omega
def aJT{s:List (List eR)}(H:Has fns)(hn:aG 6 cF S nv g.cg)(hi:aG 2 cE S iv g.ch)(a2:g.cg.length<=100000)(hm:aG 1 nK S mv L)(hs:aG 1 lN S sv s)(ht:aEe s):
  iI fns (.fn 17 [] []) [.agg [je g.cm,nv,iv],mv,sv] S fun r S'=>Same S S'/\aP1 g L .ct (aSK g s S') r:=by
 refine cK H.f17 (by simp) ?_;refine am ?_;refine cA ?_;refine cR (by refine am ?_;exact aY _) ?_;intro S1 s1 n1 g1;refine am ?_;refine cR (cs:=[sv]) (by refine am ?_;exact lK hs) ?_;intro S2 s2 n2 g2;refine am ?_;have A:=s1.trans s2;have c2:S2.h.get S.nx=_:=(s2.2 _ au).trans g1;refine cA (fl (gK c2) ?_);refine bK (am ?_);refine aW (tN H (aG.same (E:=cF) bQ hn A) (aG.same (E:=cE) cB hi A) a2 (aG.same (E:=nK) fM hm A)) ?_;rintro _ S3 ⟨s3,fv,av,e,rfl,hL⟩;refine fo @xP @xN ?_;refine bS ?_;intro S4 s4 n4 g4
 refine cQ (b:=S3.nx) (cs':=[fv,av]) (aq) (by refine am ?_;exact aY _) g4 rfl rfl ?_;intro S5 s5 n5 g5;refine am ?_
 have N:Same S3 S5:=s5.same s4 (Af _);have B:=s3.trans N;have C:=A.trans B;have m5:=B.1;have c5:S5.h.get S.nx=_:=(B.2 _ au).trans c2;have d5:S5.h.get S1.nx=_:=(B.2 _ au).trans g2;refine gH (am ?_);by_cases he:e=0;rotate_left
 .refine aS (iu (Ac (show e≠0 from he))) ?_;refine cA (am ?_);refine aT (am ?_);refine⟨C,?_⟩;rcases hL with⟨D,rfl,_⟩|⟨D,first,x,⟨rfl,hD,_⟩|⟨rfl,_⟩⟩
  .exact .inl ⟨D,rfl⟩
  .exact .inr ⟨D,first,x,.inl ⟨hD,rfl⟩⟩
  .exact absurd rfl he
 subst he;refine aQ (by simp only[↓sU,sD,rE,↓reduceIte,rA];try first | rfl | trivial) (aK ?_);refine am ?_
 rcases hL with⟨D,h2,_⟩|⟨D,first,x,⟨h2,_⟩|⟨_,hD,act,hA,hf,ha⟩⟩
 .exact absurd h2.symm D
 .cases h2
 have⟨an,bI,ao⟩:=uY D;have aw:∀m∈L,gT g m:=fun m hm=>nS (pR ao m hm);have GK:=uU an;have G:=GK.good;have bM:=G.ni;have⟨Tr,hT,a3,_⟩:=G.walk;have hR:=vI G aw x hD hA;refine cA (fo (gK c5) (aCZ g5) ?_);refine bK (am ?_);refine aW (xW (first:=first) (act:=act) (Tr:=Tr) H GK hR x.len (aGB x) (aG.same (E:=cF) bQ hn C) (aG.same (E:=cE) cB hi C) (hf.same N) (aG.same (E:=nK) fM ha N) hT a3 (aG1 an)) ?_;rintro r y ⟨s6,hJ⟩;obtain⟨a5,iv',jv,qv,pv,rfl, -,j1,j2,j3, -⟩:=hJ y (Af _) fun _ _ _=>rfl
 refine bS ?_;intro S7 s7 n7 g7
 refine cQ (b:=y.nx) (cs':=[je g.cm,a5,iv',jv,qv,pv]) (aq) (by refine am ?_;exact aY _) g7 rfl rfl ?_;intro S8 s8 n8 g8;refine am ?_
 have u:Same y S8:=s8.same s7 (Af _);have j2:bN .i64 y jv (wL first (iM g first act)):=j2;have I:=s6.trans u;have O:=C.trans I;have m8:=I.1;have bR:=u.1;have c8:S8.h.get S.nx=_:=(I.2 _ au).trans c5;have d8:S8.h.get S1.nx=_:=(I.2 _ au).trans d5;have P:=aG.same (E:=lN) iJ hs O;have a8:aG 2 cE S8 iv' (xT g (iM g first act)):=aG.same (E:=cE) cB j1 u;have R:(xT g (iM g first act)).length<=10000000:=by
  have:=aKv (first:=first) G hR;unfold xT;rw[Al];omega
 have T:eK (.ptr y.nx (0+0+2)) false 1 S8.h=some iv':=ldc g8 rfl;refine gH ?_;refine fe @aB @aA T (cH (p:=0) d8 rfl) ?_;refine bK (ae ?_);refine aW (aAy H a8 P R) ?_;rintro _ z ⟨W,t,rfl,aI⟩;refine de @fY ?_;have bU:=W;have aV:=O.trans W;have m9:=W.1;cases t
 .refine aS (iu @Dl) ?_;refine cA (ae ?_);refine aT (ae ?_);exact⟨aV,.inr ⟨D,first,x,.inr ⟨hD,act,hA,.inl ⟨fun h=>(by cases aI.2 h),rfl⟩⟩⟩⟩
 refine aQ (iu @Cm) (aK ?_);refine ae ?_
 have J:=aI.1 rfl;have c9:z.h.get S.nx=_:=(W.2 _ au).trans c8;have d9:z.h.get S1.nx=_:=(W.2 _ au).trans d8;have e9:z.h.get y.nx=_:=(W.2 _ au).trans g8;have ba:=hi.len;refine cA (fu @aB @aA (iS c9) ba ?_);refine fW (pU (n:=g.ch.length) (iz @aJ) (iz @aJ) ay ay) ?_;intro X sa na ga
 rw[repeatL_one] at ga;refine bS ?_;intro Sb sb nb gb
 refine cQ (b:=X.nx) (cs':=[.sl z.nx 0 g.ch.length g.ch.length false]) (aq) (by simp only[↓aF,aE,rE,↓reduceIte,rA];rfl) gb rfl rfl ?_;intro Sc sc nc gc;refine am ?_
 have aZ:Same X Sc:=sc.same sb (Af _);have k:=sa.trans aZ;have mc:=k.1;have bb:=aV.trans k;have bd:Sc.h.get z.nx=_:=(aZ.2 _ au).trans ga;have cc:Sc.h.get S.nx=_:=(k.2 _ au).trans c9;have dc:Sc.h.get S1.nx=_:=(k.2 _ au).trans d9;have ec:Sc.h.get y.nx=_:=(k.2 _ au).trans e9;have m0:=O.1;refine aD (bB (Q:=fun o A' Y=>o= .normal/\A'.inr=false/\aC 11 A'.F= .ptr X.nx 0/\Same S Y/\Y.h.get X.nx=jf [.sl z.nx 0 g.ch.length g.ch.length false]/\aG 1 lN Y (.sl z.nx 0 g.ch.length g.ch.length false) ((List.range g.ch.length).map (tK g first act (iM g first act) s))) (aD (aL ?_)) ?_)
 .refine ez @aB @aA (iS cc) ?_;refine bK (ae ?_);refine aW (nI H (lK hi)) ?_;rintro _ V0 ⟨v0,bc,rfl,bV,be,bj⟩
  have lV:=v0.1;refine aO (aMR (S:=S) (g:=g) (iv:=iv) (ob:=z.nx) (n:=g.ch.length) (key:=fun i=>i) (M:=tK g first act (iM g first act) s) H G rfl (af) hi (bb.trans v0) au bj be ((v0.2 _ au).trans bd) au (fun j i _ e _=>by subst e;unfold tK;rw[Al,Bj];exact Af _) (fun i a Y cs f aa q hk=>?_) (fun Y cs sY q hk=>?_))
  .refine cA (ae ?_);refine aL (ae ?_);intro Z q hk;have hZ:∀c,c<S8.nx->Z.h.get c=S8.h.get c:=fun c hc=>(hk c au au).trans ((v0.2 c au).trans ((k.2 c au).trans (W.2 c hc)));have lZ:=q.le;simp only at lZ;have ab:Same S8 Z:=⟨au,hZ⟩;have z1:Z.h.get S1.nx=_:=(hZ _ au).trans d8;have z6:Z.h.get y.nx=_:=(hZ _ au).trans g8;have za:Z.h.get X.nx=jf [.sl z.nx 0 g.ch.length g.ch.length false]:=(hk _ au au).trans ((v0.2 _ au).trans gc);obtain⟨rv,w⟩:∃rv,cs[i]? =some rv:=⟨_,Ab (by rw[q.hl];exact f)⟩;have ac:=Ar w;have low:∀c,c<V0.nx->c<Z.nx/\¬aM rv=some c:=fun c hc=>⟨au,fun h=>by have:=(q.blk ac h).1;simp only at this;omega⟩;have d:∀ {c},c<S8.nx->c<Z.nx/\¬aM rv=some c:=fun hc=>low _ au;have⟨f1,f2,f3⟩:=aI5 x f;have a0:mS first i∈iM g first act:=aEs G hR f;have⟨r,hr,R⟩:=aNJ J a0;have bk:=aNV hA f aa;have⟨b1,q1,bW,b2,q2,e,i1,l1,bm,bn,i2,l2,T,bp,hE,bq⟩:=aCB P ab ht hr (a:=aAe act i a) (by rw[R];exact bk);have⟨b5,q5,i5,l5,bs⟩:=aCq (j2.same u) ab (i:=i) (by unfold wL;rw[Al,x.len];exact f) (aHT (by rw[x.len];exact f));have⟨b6,q6,bY,b7,q7,i6,l6,bv,bw,i7,l7,bx⟩:=aOn (aG.same (E:=nK) fM j3 u) ab hA f aa;have ia:=fQ (b:=z.nx) (o:=false) f;refine aO (aNz (K:=28) (p:=68) (v:=67) (i:=i) (rv:=rv) (l:=RowK (fun i=>i) (tK g first act (iM g first act) s) i a i++ [qG s ((iM g first act).idxOf (mS first i)) (aAe act i a)]) q w rfl rfl rfl az (fun X1 x1 bZ bz=>?_) (fun F' V cs' nV kV hV=>?_))
   .simp only[↓sU,sD,rE,↓reduceIte,rA,List.dropLast,aB,aP,aA,aJ,cH (p:=0) z1 rfl,cH (p:=0) za rfl,dG z6,dT z6,cH q.ho w,(d (au:S1.nx<S8.nx)).1,(d (au:S1.nx<S8.nx)).2,(d (au:y.nx<S8.nx)).1,(d (au:y.nx<S8.nx)).2,(low X.nx au).1,(low X.nx au).2,q.lt,q.no rv ac,mL.self (q.gr i rv w),An,aG.self P,bN.self j2,aG.self j3,ia,i1,(d l1).1,(d l1).2,bm,bn,i2,(d l2).1,(d l2).2,T,bp,i5,(d l5).1,(d l5).2,bs,i6,(d l6).1,(d l6).2,bv,bw,i7,(d l7).1,(d l7).2,bx];refine dR rfl ?_;refine ae ?_;refine aW (aCJ H (qD hE x1) bq) ?_;rintro _ U ⟨uS,e',rfl,bA⟩;have hu:=uS.1;simp only[Ax,Cb,rA] at bz;exact⟨uS,aKH (m1:=0) q w (x1.trans uS) bA au hu (af) (af) (af) (af) az rfl rfl (by unfold RowK tK;have:=aOj G f;split;exact(by rw[Al,Bj];omega);split;exact(by rw[Bv,Al,Bj];omega);exact Ck _)⟩
   .refine⟨rfl,nV,fun c hc bC=>kV c au bC fun h=>by have:=(q.blk ac h).1;simp only at this;omega,cs',hV.ext fun j hj=>aFJ (key:=fun i=>i) rfl ?_ (fun j _ e=>e) hj⟩;unfold tK;rw[Az,Br aa];rfl
  .refine ae ?_;exact⟨sY,(hk _ au au).trans ((v0.2 _ au).trans gc),(q.ext fun j hj=>aH2 (key:=fun i=>i) hj).is⟩
 rintro o ⟨F,inr⟩ Y ⟨rfl,q0,a1,sY,gY,hY⟩;simp only at q0 a1;subst q0;refine ae ?_
 refine cA ?_;refine ew a1 (cH (p:=0) gY rfl) ?_;refine aT (ae ?_);exact⟨sY,.inr ⟨D,first,x,.inr ⟨hD,act,hA,.inr ⟨J,_,rfl,hY⟩⟩⟩⟩
end
section
variable {g:aX}{L:bt}{first:bu}{act:bt}
def aGC(dt:ce)(s:List (List eR))(q:Nat):List eR:=s.getD (dt.getD q 0) []
def aUQ(g:aX)(s:List (List eR))(Z:St)(first:bu)(act:bt)(r:AV):Prop:=(¬sG g.ch s/\r= .tup [.ct,je 10])\/(sG g.ch s/\((¬aLm g first act s/\r= .tup [.ct,je 18])\/(aLm g first act s/\∃v,r= .tup [v,je 0]/\aG 1 lN Z v ((List.range (iM g first act).length).map (aGC (iM g first act) s)))))
def aUC(g:aX)(s:List (List eR))(first:bu)(act:bt)(r:AV):Prop:=(¬sG g.ch s/\r= .tup [.bool false,je 10])\/(sG g.ch s/\∃t,r= .tup [.bool t,je 0]/\(t=true↔aLm g first act s))
def aE5{r:Nat}(h:r∈dt):dt.getD (dt.idxOf r) 0=r:=by
 have a:=List.idxOf_lt_length_of_mem h;rw[Ad,Ab a,List.getElem_idxOf a];rfl
def aN5(h:dt.Nodup)(a:j<dt.length):dt.idxOf (dt.getD j 0)=j:=by
 rw[Ad,Ab a];exact h.idxOf_getElem j a
def aH8{first:bu}(h:uB g first dt)(a:j<dt.length):dt.getD j 0<g.ch.length/\mS first (dt.getD j 0)=dt.getD j 0:=by
 have b:dt.getD j 0∈dt:=by
  rw[Ad,Ab a];exact Bt a
 have⟨c,d⟩:=h.2 _ b;exact⟨c,by unfold mS;rw[d];exact Ay _⟩
def aIo{s:List (List eR)}(H:Has fns)(hn:aG 6 cF S nv g.cg)(hi:aG 2 cE S iv g.ch)(bd:g.cg.length<=100000)(hm:aG 1 nK S mv L)(hs:aG 1 lN S sv s)(ht:aEe s):
  iI fns (.fn 19 [] []) [.agg [je g.cm,nv,iv],mv,sv] S fun r S'=>Same S S'/\aP1 g L .ct (aUQ g s S') r:=by
 refine cK H.f19 (by simp) ?_;refine am ?_;refine cA ?_;refine cR (by refine am ?_;exact aY _) ?_;intro S1 s1 n1 g1;refine am ?_;refine cR (cs:=[sv]) (by refine am ?_;exact lK hs) ?_;intro S2 s2 n2 g2;refine am ?_;have D:=s1.trans s2;have c2:S2.h.get S.nx=_:=(s2.2 _ au).trans g1;refine cA (fl (gK c2) ?_);refine bK (am ?_);refine aW (tN H (aG.same (E:=cF) bQ hn D) (aG.same (E:=cE) cB hi D) bd (aG.same (E:=nK) fM hm D)) ?_;rintro _ S3 ⟨s3,fv,av,e,rfl,hL⟩;refine fo @xP @xN ?_;refine bS ?_;intro S4 s4 n4 g4
 refine cQ (b:=S3.nx) (cs':=[fv,av]) (aq) (by refine am ?_;exact aY _) g4 rfl rfl ?_;intro S5 s5 n5 g5;refine am ?_
 have y:Same S3 S5:=s5.same s4 (Af _);have I:=s3.trans y;have A:=D.trans I;have m5:=I.1;have c5:S5.h.get S.nx=_:=(I.2 _ au).trans c2;have d5:S5.h.get S1.nx=_:=(I.2 _ au).trans g2;refine gH (am ?_);by_cases he:e=0;rotate_left
 .refine aS (iu (Ac (show e≠0 from he))) ?_;refine cA (am ?_);refine aT (am ?_);refine⟨A,?_⟩;rcases hL with⟨C,rfl,_⟩|⟨C,first,w,⟨rfl,hD,_⟩|⟨rfl,_⟩⟩
  .exact .inl ⟨C,rfl⟩
  .exact .inr ⟨C,first,w,.inl ⟨hD,rfl⟩⟩
  .exact absurd rfl he
 subst he;refine aQ (by simp only[↓sU,sD,rE,↓reduceIte,rA];try first | rfl | trivial) (aK ?_);refine am ?_
 rcases hL with⟨C,h2,_⟩|⟨C,first,w,⟨h2,_⟩|⟨_,hD,act,hA,hf,ha⟩⟩
 .exact absurd h2.symm C
 .cases h2
 have⟨aV,bW,aZ⟩:=uY C;have W:∀m∈L,gT g m:=fun m hm=>nS (pR aZ m hm);have GK:=uU aV;have G:=GK.good;have bY:=G.ni;have⟨Tr,hT,be,_⟩:=G.walk;have hR:=vI G W w hD hA;refine gH ?_;refine fe @aB @aA (iS c5) (cH (p:=0) d5 rfl) ?_;refine bK (ae ?_);refine aW (aAy H (aG.same (E:=cE) cB hi A) (aG.same (E:=lN) iJ hs A) au) ?_;rintro _ S6 ⟨J,t,rfl,a0⟩;refine de @fY ?_;cases t
 .refine aS (iu @Dl) ?_;refine cA (ae ?_);refine aT (ae ?_);exact⟨A.trans J,.inr ⟨C,first,w,.inr ⟨hD,act,hA,.inl ⟨fun h=>(by cases a0.2 h),rfl⟩⟩⟩⟩
 refine aQ (iu @Cm) (aK ?_);refine ae ?_
 have k:=a0.1 rfl;have m6:=J.1;have N:=A.trans J;have c6:S6.h.get S.nx=_:=(J.2 _ au).trans c5;have d6:S6.h.get S1.nx=_:=(J.2 _ au).trans d5;have e6:S6.h.get S3.nx=_:=(J.2 _ au).trans g5;refine gH ?_;refine ez (gK c6) (aCZ e6) (cH (p:=0) d6 rfl) ?_;refine bK (ae ?_);refine aW (aFF (L:=L) H G W w hA (aG.same (E:=cE) cB hi N) (hf.same (y.trans J)) (aG.same (E:=nK) fM ha (y.trans J)) (aG.same (E:=lN) iJ hs N) ht k) ?_;rintro _ S7 ⟨X,t,rfl,a1⟩;refine de @fY ?_;cases t
 .refine aS (iu @Dl) ?_;refine cA (ae ?_);refine aT (ae ?_);exact⟨N.trans X,.inr ⟨C,first,w,.inr ⟨hD,act,hA,.inr ⟨k,.inl ⟨fun h=>(by cases a1.2 h),rfl⟩⟩⟩⟩⟩
 refine aQ (iu @Cm) (aK ?_);refine ae ?_
 have a2:=a1.1 rfl;have m7:=X.1;have aa:=N.trans X;have c7:S7.h.get S.nx=_:=(X.2 _ au).trans c6;have d7:S7.h.get S1.nx=_:=(X.2 _ au).trans d6;have e7:S7.h.get S3.nx=_:=(X.2 _ au).trans e6;have ab:=J.trans X;refine cA (fo (gK c7) (aCZ e7) ?_);refine bK (am ?_);refine aW (xW (first:=first) (act:=act) (Tr:=Tr) H GK hR w.len (aGB w) (aG.same (E:=cF) bQ hn aa) (aG.same (E:=cE) cB hi aa) (hf.same (y.trans ab)) (aG.same (E:=nK) fM ha (y.trans ab)) hT be (aG1 aV)) ?_;rintro r O ⟨s8,hJ⟩;obtain⟨bj,iv',jv,qv,pv,rfl, -,j1,j2,j3, -⟩:=hJ O (Af _) fun _ _ _=>rfl
 refine bS ?_;intro V7 v7 k7 g7
 refine cQ (b:=O.nx) (cs':=[je g.cm,bj,iv',jv,qv,pv]) (aq) (by refine am ?_;exact aY _) g7 rfl rfl ?_;intro S9 v9 k9 g9;refine am ?_
 have ac:Same O S9:=v9.same v7 (Af _);have j2:bN .i64 O jv (wL first (iM g first act)):=j2;have bk:aG 2 cE O iv' (xT g (iM g first act)):=j1;have z:=s8.trans ac;have an:=aa.trans z;have m9:=z.1;have bZ:=ac.1;have c9:S9.h.get S.nx=_:=(z.2 _ au).trans c7;have d9:S9.h.get S1.nx=_:=(z.2 _ au).trans d7;have e9:S9.h.get S3.nx=_:=(z.2 _ au).trans e7;have a3:=aG.same (E:=lN) iJ hs an;have b0:=aKv (first:=first) G hR;have ao:=aDR G hR w;have bm:kR iv'=some (je (((iM g first act).length:Nat):Int)):=by
  have:=bk.len;unfold xT at this
  rwa [Al] at this
 have bn:eK (.ptr O.nx (0+0+2)) false 1 S9.h=some iv':=ldc g9 rfl;have bp:∀i,i<g.ch.length->mS first i∈iM g first act:=fun i hi=>aEs G hR hi;generalize bq:iM g first act=dt at *;refine cA (fu @aB @aA bn bm ?_);refine fW (pU (n:=dt.length) (iz @aJ) (iz @aJ) ay ay) ?_;intro Sa sa na ga
 rw[repeatL_one] at ga;refine bS ?_;intro Sb sb nb gb
 refine cQ (b:=Sa.nx) (cs':=[.sl S9.nx 0 dt.length dt.length false]) (aq) (by simp only[↓aF,aE,rE,↓reduceIte,rA];rfl) gb rfl rfl ?_;intro Sc sc nc gc;refine am ?_
 have a5:Same Sa Sc:=sc.same sb (Af _);have P:=sa.trans a5;have mc:=P.1;have bs:=an.trans P;have bv:Sc.h.get S9.nx=_:=(a5.2 _ au).trans ga;have cc:Sc.h.get S.nx=_:=(P.2 _ au).trans c9;have m0:=an.1;refine aD (bB (Q:=fun o A' Y=>o= .normal/\A'.inr=false/\aC 11 A'.F= .ptr Sa.nx 0/\Same S Y/\Y.h.get Sa.nx=jf [.sl S9.nx 0 dt.length dt.length false]/\aG 1 lN Y (.sl S9.nx 0 dt.length dt.length false) ((List.range dt.length).map (aGC dt s))) (aD (aL ?_)) ?_)
 .refine ez @aB @aA (iS cc) ?_;refine bK (ae ?_);refine aW (nI H (lK hi)) ?_;rintro _ V0 ⟨v0,bc,rfl,b3,bw,bx⟩
  have lV:=v0.1;refine aO (aMR (S:=S) (g:=g) (iv:=iv) (ob:=S9.nx) (n:=dt.length) (key:=fun q=>dt.getD q 0) (M:=aGC dt s) H G rfl (af) hi (bs.trans v0) au bx bw ((v0.2 _ au).trans bv) au (fun j i _ e f=>?_) (fun i a Y cs f a8 x hk=>?_) (fun Y cs sY x hk=>?_))
  .unfold aGC;try simp only at e
   have⟨r,hr,R⟩:=aA8 k f;rw[e,Ad,hr];exact Fj R
  .refine cA (ae ?_);refine aL (ae ?_);intro Z x hk;have hZ:∀c,c<S9.nx->Z.h.get c=S9.h.get c:=fun c hc=>(hk c au au).trans ((v0.2 c au).trans (P.2 c hc));have lZ:=x.le;simp only at lZ;have aw:Same S9 Z:=⟨au,hZ⟩;have z1:Z.h.get S1.nx=_:=(hZ _ au).trans d9;have z3:Z.h.get S3.nx=_:=(hZ _ au).trans e9;have z8:Z.h.get O.nx=_:=(hZ _ au).trans g9;have za:Z.h.get Sa.nx=jf [.sl S9.nx 0 dt.length dt.length false]:=(hk _ au au).trans ((v0.2 _ au).trans gc);have⟨f1,f2,f3⟩:=aI5 w f;have⟨b4,q4,i4,l4,bz⟩:=aCq (hf.same (y.trans (ab.trans z))) aw (i:=i) (by rw[w.len];exact f) f1;refine aO (aD (aL ?_));refine fg @aB @aA (aFR z3) @aJ i4 bz ?_;by_cases er:mS first i=i;rotate_left
   .refine aQ im (aK ?_);refine ae ?_;refine⟨Af _,fun _ _ _=>(by first | rfl | trivial),cs,x.ext fun j hj=>?_⟩;unfold RowK;have:=(aH8 ao hj).2;have T:¬dt.getD j 0=i:=fun e=>er (by rw[<-e];exact this);show(if dt.getD j 0<i then _ else if dt.getD j 0=i then _ else _)=if dt.getD j 0<i then _ else if dt.getD j 0=i then _ else _;rw[if_neg T,if_neg T]
   refine aS im ?_;have u:=bp i f;rw[er] at u;have hq:=List.idxOf_lt_length_of_mem u;obtain⟨rv,B⟩:∃rv,cs[dt.idxOf i]? =some rv:=⟨_,Ab (by rw[x.hl];exact hq)⟩;have aI:=Ar B;have low:∀c,c<V0.nx->c<Z.nx/\¬aM rv=some c:=fun c hc=>⟨au,fun h=>by have:=(x.blk aI h).1;simp only at this;omega⟩;have d:∀ {c},c<S9.nx->c<Z.nx/\¬aM rv=some c:=fun hc=>low _ au;have⟨r,hr,R⟩:=aA8 k f;have⟨b1,q1,b6,b2,q2,e,i1,l1,bA,bC,i2,l2,bI,bM,hE,bR⟩:=aCB a3 aw ht hr (a:=a) (by rw[R];exact a8);have⟨b5,q5,i5,l5,ba⟩:=aCq (j2.same ac) aw (i:=i) (by unfold wL;rw[Al,w.len];exact f) (aHT (by rw[w.len];exact f));rw[er] at ba;have ia:=fQ (b:=S9.nx) (o:=false) hq;refine aNz (K:=25) (p:=77) (v:=76) (i:=dt.idxOf i) (rv:=rv) (l:=RowK (fun q=>dt.getD q 0) (aGC dt s) i a (dt.idxOf i)++ [qG s i a]) x B rfl rfl rfl az (fun X1 x1 b8 bU=>?_) (fun F' V cs' nV kV hV=>?_)
   .simp only[↓sU,sD,rE,↓reduceIte,rA,List.dropLast,aB,aP,aA,aJ,cH (p:=0) z1 rfl,cH (p:=0) za rfl,dG z8,cH x.ho B,(d (au:S1.nx<S9.nx)).1,(d (au:S1.nx<S9.nx)).2,(d (au:O.nx<S9.nx)).1,(d (au:O.nx<S9.nx)).2,(low Sa.nx au).1,(low Sa.nx au).2,x.lt,x.no rv aI,mL.self (x.gr _ rv B),An,aG.self a3,bN.self j2,ia,i1,(d l1).1,(d l1).2,bA,bC,i2,(d l2).1,(d l2).2,bI,bM,i5,(d l5).1,(d l5).2,ba];refine dR rfl ?_;refine ae ?_;refine aW (aCJ H (qD hE x1) bR) ?_;rintro _ U ⟨uS,e',rfl,bV⟩;have hu:=uS.1;simp only[Ax,Cb,rA] at bU;exact⟨uS,aKH (m1:=0) x B (x1.trans uS) bV au hu (af) (af) (af) (af) az rfl rfl (by unfold RowK aGC;have:=aOj G f;simp only[aE5 u];rw[if_neg (Nat.lt_irrefl i),if_pos trivial,Bv];omega)⟩
   .refine⟨rfl,nV,fun c hc T=>kV c au T fun h=>by have:=(x.blk aI h).1;simp only at this;omega,cs',hV.ext fun j hj=>aFJ (key:=fun q=>dt.getD q 0) (aE5 u) ?_ (fun j hj e=>by rw[<-e];exact(aN5 ao.1 hj).symm) hj⟩;unfold aGC;rw[aE5 u,Ad,hr];show r[a]? =_;exact aFG hr (by rw[R];exact a8)
  .refine ae ?_;exact⟨sY,(hk _ au au).trans ((v0.2 _ au).trans gc),(x.ext fun j hj=>aH2 (key:=fun q=>dt.getD q 0) (aH8 ao hj).1).is⟩
 rintro o ⟨F,inr⟩ Y ⟨rfl,q0,bb,sY,gY,hY⟩;simp only at q0 bb;subst q0;subst bq;refine ae ?_
 refine cA ?_;refine ew bb (cH (p:=0) gY rfl) ?_;refine aT (ae ?_);exact⟨sY,.inr ⟨C,first,w,.inr ⟨hD,act,hA,.inr ⟨k,.inr ⟨a2,_,rfl,hY⟩⟩⟩⟩⟩
def aIX{C:AV}{s:List (List eR)}(H:Has fns)(N:aG 6 cF S nv g.cg)(hi:aG 2 cE S iv g.ch)(v:g.cg.length<=100000)(w:aG 1 nK S mv L)(D:aG 1 lN S C s)(O:aEe s):
  iI fns (.fn 18 [] []) [.agg [je g.cm,nv,iv],mv,C] S fun r P=>Same S P/\aP1 g L (.bool false) (aUC g s) r:=by
 refine cK H.f18 (by simp) ?_;refine am ?_;refine cA ?_;refine cR (by refine am ?_;exact aY _) ?_;intro S1 s1 n1 F;refine am ?_;refine cA (fl (gK F) ?_);refine bK (am ?_);refine aW (tN H (aG.same (E:=cF) bQ N s1) (aG.same (E:=cE) cB hi s1) v (aG.same (E:=nK) fM w s1)) ?_;rintro _ x ⟨s3,fv,av,e,rfl,I⟩;refine fo @xP @xN ?_;refine bS ?_;intro S4 s4 n4 Q
 refine cQ (b:=x.nx) (cs':=[fv,av]) (aq) (by refine am ?_;exact aY _) Q rfl rfl ?_;intro S5 s5 n5 R;refine am ?_
 have i:Same x S5:=s5.same s4 (Af _);have j:=s3.trans i;have a:=s1.trans j;have m5:=j.1;have J:S5.h.get S.nx=_:=(j.2 _ au).trans F;refine gH (am ?_);by_cases y:e=0;rotate_left
 .refine aS (iu (Ac (show e≠0 from y))) ?_;refine cA (am ?_);refine aT (am ?_);refine⟨a,?_⟩;rcases I with⟨c,rfl,_⟩|⟨c,first,l,⟨rfl,o,_⟩|⟨rfl,_⟩⟩
  .exact .inl ⟨c,rfl⟩
  .exact .inr ⟨c,first,l,.inl ⟨o,rfl⟩⟩
  .exact absurd rfl y
 subst y;refine aQ (by simp only[↓sU,sD,rE,↓reduceIte,rA];try first | rfl | trivial) (aK ?_);refine am ?_
 rcases I with⟨c,z,_⟩|⟨c,first,l,⟨z,_⟩|⟨_,o,act,u,T,U⟩⟩
 .exact absurd z.symm c
 .cases z
 have⟨A,K,p⟩:=uY c;have d:∀m∈L,gT g m:=fun m w=>nS (pR p m w);have V:=uU A;have G:=V.good;have W:=G.ni;have⟨Tr,hT,X,_⟩:=G.walk;have hR:=vI G d l o u;refine gH (ez @aB @aA (iS J) ?_);refine bK (ae ?_);refine aW (aAy H (aG.same (E:=cE) cB hi a) (aG.same (E:=lN) iJ D a) au) ?_;rintro _ M ⟨n,t,rfl,q⟩;refine de @fY ?_;cases t
 .refine aS (iu @Dl) ?_;refine cA (ae ?_);refine aT (ae ?_);exact⟨a.trans n,.inr ⟨c,first,l,.inr ⟨o,act,u,.inl ⟨fun h=>(by cases q.2 h),rfl⟩⟩⟩⟩
 refine aQ (iu @Cm) (aK ?_);refine ae ?_
 have f:=q.1 rfl;have k:=a.trans n;have Y:M.h.get S.nx=_:=(n.2 _ au).trans J;have Z:M.h.get x.nx=_:=(n.2 _ au).trans R;refine cA (ew (gK Y) (aCZ Z) ?_);refine bK (ae ?_);refine aW (aFF (L:=L) H G d l u (aG.same (E:=cE) cB hi k) (T.same (i.trans n)) (aG.same (E:=nK) fM U (i.trans n)) (aG.same (E:=lN) iJ D k) O f) ?_;rintro _ S7 ⟨s7,t,rfl,B⟩
 refine aT (ae ?_);exact⟨k.trans s7,.inr ⟨c,first,l,.inr ⟨o,act,u,.inr ⟨f,t,rfl,B⟩⟩⟩⟩
end
def aRU{t:Nat}{z:AV}{x:cT}{F:Fr}{id:Nat}(a:x.val F=v)(b:v.cells=some [v]):uH (.dd t 1 1 [z] [(0,x)]) F id=some (.sl id 0 1 1 false,.cells [v] false 0):=by
 show(bG (eI (repeatL [z] 1) [(0 * 1,1,x.val F)]) fun cs=>some (AV.sl id 0 1 1 false,AB.cells cs false 0))=_;rw[a];show(bG (bG v.cells _) _)=_;rw[b,aH];rfl
def RwP(X:St)(P:Nat->Prop)(cs:cd)(r:List eR):Prop:=∃a,cs= [a]/\∀X':St,X.nx<=X'.nx->(∀c,c<X.nx->P c->X'.h.get c=X.h.get c)->aG 3 aAO X' a r
def RwP.move{X':St}(h:RwP X P cs r)(d:X.nx<=X'.nx)(f:∀c,c<X.nx->P c->X'.h.get c=X.h.get c/\P' c):RwP X' P' cs r:=by
 have⟨a,e,j⟩:=h;exact⟨a,e,fun k l m=>j k (Av d l) fun c b i=>(m c (Ae b d) (f c b i).2).trans (f c b i).1⟩
def mL.rw{S0:St}(h:mL 3 (qR X P) S0 X v r)(f:∀c,aM v=some c->P' c)(i:∀c,c<X.nx->P c->P' c):RwP X P' [v] r:=
 ⟨v,rfl,fun X' d e=>(h.move (E':=qR X' fun _=>True) d (fun c a=>e c (h.blk a).2 (f c a)) fun _ _ b=>b.move d fun c a j=>⟨e c a (i c a j),trivial⟩).is fun _ _ b=>b.raw⟩
def RwP.is(h:RwP X P cs r):lN X cs r:=by
 have⟨a,e,b⟩:=h;exact⟨a,e,b X (Af _) fun _ _ _=>rfl⟩
end Go.Ev.Gl
