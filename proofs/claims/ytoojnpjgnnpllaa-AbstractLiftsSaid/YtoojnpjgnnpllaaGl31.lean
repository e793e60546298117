import Derived.Test.YtoojnpjgnnpllaaGl30
open Nat renaming reduceEqDiff -> rE, reduceAdd -> rA
set_option maxHeartbeats 0
set_option linter.unusedSimpArgs false
set_option linter.unusedVariables false
namespace Go.Ev.Gl
variable {fns:T dY}
section
variable {g:aS}{L:a9}{first:ba}{act:a9}
def nE(g:aS)(first:ba)(act:a9)(da:bg)(s:List (List dD))(i:Nat):List dD:=(List.range (cG g i)).map fun a=>nO s (da.idxOf (jT first i)) (qL act i a)
def aHM(g:aS)(s:List (List dD))(Z:St)(first:ba)(act:a9)(r:AV):Prop:=(¬qH (vN g (fJ g first act)) s/\r= .tup [.bw,.int .i64 10])\/(qH (vN g (fJ g first act)) s/\∃v,r= .tup [v,.int .i64 0]/\aE 1 fK Z v ((List.range g.bj.length).map (nE g first act (fJ g first act) s)))
theorem wY{da:bg}{i:Nat}(h:i<first.length):(mD first da).getD i 0=((da.idxOf (jT first i):Nat):Int):=by
 unfold mD jT;rw[Ad,Am,Ad,Ab h];rfl
theorem aIc{da:bg}{s:List (List dD)}{r:Nat}(h:qH (vN g da) s)(hr:r∈da):∃l,s[da.idxOf r]? =some l/\l.length=cG g r:=by
 have hq:=Ee hr;have hl:da.idxOf r<s.length:=by rw[h.1];unfold vN;rw[Aj];exact hq
 refine⟨_,Ab hl,?_⟩;have:=h.2 (da.idxOf r) (cd g (r:Int)) _ (by unfold vN;rw[Am,Ab hq,List.getElem_idxOf hq];rfl) (Ab hl);unfold cG;omega
theorem aHt{key:Nat->Nat}{M:Nat->List dD}{n j:Nat}(h:key j<n):RowK key M n 0 j=M j:=by
 unfold RowK;rw[if_pos h]
theorem yH(G:dE g)(hR:qA g act):(fJ g first act).length<=2000:=by
 have⟨Tr,hT,hTl,_⟩:=G.walk;have:=aFd (g:=g) (first:=first) (act:=act) (f:=g.bh.length) (o:=0) (i:=0) (da:=[]);have:=rQ (first:=first) G hR hT hTl (f:=g.bh.length) (o:=0) (i:=0) (da:=[]) G.n1;have:=(aCV (aBc ay (show fW g.bh.length (eB g) (g.bh.length+1) 0 (-1) 0=some Tr from hT)) (i:=0) (by rw[hTl];exact G.n1)).2.1;have:=G.n2;unfold fJ;simp only[Bq] at *;omega
theorem aJc{S:St}{nv iv mv sv:AV}{s:List (List dD)}(H:Has fns)(hn:aE 6 bX S nv g.bh)(hi:aE 2 bP S iv g.bj)(hln:g.bh.length<=100000)(hm:aE 1 iD S mv L)(hs:aE 1 fK S sv s)(ht:oI s):
  fZ fns (.fn 55 [] []) [.agg [.int .i64 g.bo,nv,iv],mv,sv] S fun r S'=>Same S S'/\xM g L .bw (aHM g s S') r:=by
 refine cF H.f55 (by simp) ?_;refine am ?_;refine bO ?_;refine cI (by refine am ?_;exact aY _) ?_;intro S1 s1 n1 g1;refine am ?_;refine cI (cs:=[sv]) (by refine am ?_;exact lI hs) ?_;intro S2 s2 n2 g2;refine am ?_;have s02:=s1.trans s2;have c2:S2.h.get S.nx=_:=(s2.2 _ ar).trans g1;refine bO (dx (eJ c2) ?_);refine bD (am ?_);refine aW (xP H (aE.same (E:=bX) bL hn s02) (aE.same (E:=bP) bK hi s02) hln (aE.same (E:=iD) cm hm s02)) ?_;rintro _ S3 ⟨s3,fv,av,e,rfl,hL⟩;refine dy @rN @sA ?_;refine cA ?_;intro S4 s4 n4 g4;try refine am ?_
 refine cQ (b:=S3.nx) (cs':=[fv,av]) (ap) (by refine am ?_;exact aY _) g4 rfl rfl ?_;intro S5 s5 n5 g5;try refine am ?_
 have s35:Same S3 S5:=s5.same s4 (Ag _);have s25:=s3.trans s35;have s05:=s02.trans s25;have m5:=s25.1;have c5:S5.h.get S.nx=_:=(s25.2 _ ar).trans c2;have d5:S5.h.get S1.nx=_:=(s25.2 _ ar).trans g2;refine fC (am ?_);by_cases he:e=0;rotate_left
 ·refine aN (by simp only[↓sU,sD,rE,↓reduceIte,rA,Ac (show e≠0 from he)]) ?_;refine bO (am ?_);refine aP (am ?_);refine⟨s05,?_⟩;rcases hL with⟨h1,rfl,_⟩ | ⟨h1,first,hO,⟨rfl,hD,_⟩ | ⟨rfl,_⟩⟩
  ·exact .inl ⟨h1,rfl⟩
  ·exact .inr ⟨h1,first,hO,.inl ⟨hD,rfl⟩⟩
  ·exact absurd rfl he
 subst he;refine aM (by simp only[↓sU,sD,rE,↓reduceIte,rA];try first | rfl | trivial) (aI ?_);try refine am ?_
 rcases hL with⟨h1,h2,_⟩ | ⟨h1,first,hO,⟨h2,_⟩ | ⟨_,hD,act,hA,hf,ha⟩⟩
 ·exact absurd h2.symm h1
 ·cases h2
 have⟨hf0,hL16,hims⟩:=iS h1;have hAll:∀m∈L,eX g m:=fun m hm=>gR (iC hims m hm);have GK:=uM hf0;have G:=GK.good;have hNI:=G.ni;have⟨Tr,hT,hTl,_⟩:=G.walk;have hR:=nC G hAll hO hD hA;refine bO (dy (eJ c5) (aDO g5) ?_);refine bD (am ?_);refine aW (aCw (first:=first) (act:=act) (Tr:=Tr) H GK hR hO.len (zK hO) (aE.same (E:=bX) bL hn s05) (aE.same (E:=bP) bK hi s05) (hf.same s35) (aE.same (E:=iD) cm ha s35) hT hTl (aF4 hf0)) ?_;rintro r S6 ⟨s6,hJ⟩;obtain⟨nv',iv',jv,qv,pv,rfl, -,j1,j2,j3, -⟩:=hJ S6 (Ag _) fun _ _ _=>rfl;try refine am ?_
 refine cA ?_;intro S7 s7 n7 g7;try refine am ?_
 refine cQ (b:=S6.nx) (cs':=[.int .i64 g.bo,nv',iv',jv,qv,pv]) (ap) (by refine am ?_;exact aY _) g7 rfl rfl ?_;intro S8 s8 n8 g8;try refine am ?_
 have s68:Same S6 S8:=s8.same s7 (Ag _);have j2:bI .i64 S6 jv (mD first (fJ g first act)):=j2;have s58:=s6.trans s68;have s08:=s05.trans s58;have m8:=s58.1;have m68:=s68.1;have c8:S8.h.get S.nx=_:=(s58.2 _ ar).trans c5;have d8:S8.h.get S1.nx=_:=(s58.2 _ ar).trans d5;have hs8:=aE.same (E:=fK) dL hs s08;have hj1:aE 2 bP S8 iv' (vN g (fJ g first act)):=aE.same (E:=bP) bK j1 s68;have hrl:(vN g (fJ g first act)).length<=10000000:=by
  have:=yH (first:=first) G hR;unfold vN;rw[Aj];omega
 have ld2:dT (.ptr S6.nx (0+0+2)) false 1 S8.h=some iv':=ldc g8 rfl;refine fC ?_;refine dq @aC @aB ld2 (dI (p:=0) d8 rfl) ?_;refine bD (ae ?_);refine aW (zW H hj1 hs8 hrl) ?_;rintro _ S9 ⟨s9,t,rfl,htf⟩;refine dm @eM ?_;have s89:=s9;have s09:=s08.trans s9;have m9:=s9.1;cases t
 ·refine aN (by simp only[↓sU,sD,rE,↓reduceIte,rA,Ci]) ?_;refine bO (ae ?_);refine aP (ae ?_);exact⟨s09,.inr ⟨h1,first,hO,.inr ⟨hD,act,hA,.inl ⟨fun h=>(by cases htf.2 h),rfl⟩⟩⟩⟩
 refine aM (by simp only[↓sU,sD,rE,↓reduceIte,rA,Cc]) (aI ?_);try refine ae ?_
 have hfit:=htf.1 rfl;have c9:S9.h.get S.nx=_:=(s9.2 _ ar).trans c8;have d9:S9.h.get S1.nx=_:=(s9.2 _ ar).trans d8;have e9:S9.h.get S6.nx=_:=(s9.2 _ ar).trans g8;have hil:=hi.len;refine bO (ed @aC @aB (fH c9) hil ?_);refine fN (lN (n:=g.bj.length) (by simp only[↓aF,aG,rE,↓reduceIte,rA,aH]) (by simp only[↓aF,aG,rE,↓reduceIte,rA,aH]) ax ax) ?_;intro Sa sa na ga;try refine am ?_
 rw[repeatL_one] at ga;refine cA ?_;intro Sb sb nb gb;try refine am ?_
 refine cQ (b:=Sa.nx) (cs':=[.sl S9.nx 0 g.bj.length g.bj.length false]) (ap) (by simp only[↓aF,aG,rE,↓reduceIte,rA];rfl) gb rfl rfl ?_;intro Sc sc nc gc;try refine am ?_
 have sac:Same Sa Sc:=sc.same sb (Ag _);have s9c:=sa.trans sac;have mc:=s9c.1;have s0c:=s09.trans s9c;have gac:Sc.h.get S9.nx=_:=(sac.2 _ ar).trans ga;have cc:Sc.h.get S.nx=_:=(s9c.2 _ ar).trans c9;have dc:Sc.h.get S1.nx=_:=(s9c.2 _ ar).trans d9;have ec:Sc.h.get S6.nx=_:=(s9c.2 _ ar).trans e9;have m0:=s08.1;refine aA (aX (Q:=fun o A' Y=>o= .normal/\A'.inr=false/\aD 11 A'.F= .ptr Sa.nx 0/\Same S Y/\Y.h.get Sa.nx=some (.cells [.sl S9.nx 0 g.bj.length g.bj.length false] false 0)/\aE 1 fK Y (.sl S9.nx 0 g.bj.length g.bj.length false) ((List.range g.bj.length).map (nE g first act (fJ g first act) s))) (aA (aJ ?_)) ?_)
 ·refine dp @aC @aB (fH cc) ?_;refine bD (ae ?_);refine aW (lT H (lI hi)) ?_;rintro _ V0 ⟨v0,bc,rfl,bc1,bc2,gbc⟩;try refine ae ?_
  have lV:=v0.1;refine aK (aLZ (S:=S) (g:=g) (iv:=iv) (ob:=S9.nx) (n:=g.bj.length) (key:=fun i=>i) (M:=nE g first act (fJ g first act) s) H G rfl (af) hi (s0c.trans v0) ar gbc bc2 ((v0.2 _ ar).trans gac) ar (fun j i _ e _=>by subst e;unfold nE;rw[Aj,Ay];exact Ag _) (fun i a Y cs hi' ha' hM hk=>?_) (fun Y cs sY hM hk=>?_))
  ·refine bO (ae ?_);refine aJ (ae ?_);intro Z hM hk;have hZ:∀c,c<S8.nx->Z.h.get c=S8.h.get c:=fun c hc=>(hk c ar ar).trans ((v0.2 c ar).trans ((s9c.2 c ar).trans (s9.2 c hc)));have lZ:=hM.le;simp only at lZ;have s8Z:Same S8 Z:=⟨ar,hZ⟩;have z1:Z.h.get S1.nx=_:=(hZ _ ar).trans d8;have z6:Z.h.get S6.nx=_:=(hZ _ ar).trans g8;have za:Z.h.get Sa.nx=some (.cells [.sl S9.nx 0 g.bj.length g.bj.length false] false 0):=(hk _ ar ar).trans ((v0.2 _ ar).trans gc);obtain⟨rv,hrv⟩:∃rv,cs[i]? =some rv:=⟨_,Ab (by rw[hM.hl];exact hi')⟩;have hrm:=Ar hrv;have low:∀c,c<V0.nx->c<Z.nx/\¬aZ rv=some c:=fun c hc=>⟨ar,fun h=>by have:=(hM.blk hrm h).1;simp only at this;omega⟩;have low8:∀ {c},c<S8.nx->c<Z.nx/\¬aZ rv=some c:=fun hc=>low _ ar;have⟨f1,f2,f3⟩:=aAl hO hi';have hmem:jT first i∈fJ g first act:=rC G hR hi';have⟨r,hr,hrl⟩:=aIc hfit hmem;have hac:=aBp hA hi' ha';have⟨b1,q1,rw1,b2,q2,e,i1,l1,ld1,sm1,i2,l2,ld2,sm2,hE,hTm⟩:=vA hs8 s8Z ht hr (a:=qL act i a) (by rw[hrl];exact hac);have⟨b5,q5,i5,l5,ld5⟩:=xL (j2.same s68) s8Z (i:=i) (by unfold mD;rw[Aj,hO.len];exact hi') (wY (by rw[hO.len];exact hi'));have⟨b6,q6,rw6,b7,q7,i6,l6,ld6,sm6,i7,l7,ld7⟩:=aDE (aE.same (E:=iD) cm j3 s68) s8Z hA hi' ha';have ia:=dR (b:=S9.nx) (o:=false) hi';refine aK (aMd (K:=28) (p:=68) (v:=67) (i:=i) (rv:=rv) (l:=RowK (fun i=>i) (nE g first act (fJ g first act) s) i a i++ [nO s ((fJ g first act).idxOf (jT first i)) (qL act i a)]) hM hrv rfl rfl rfl ay (fun X1 x1 hh1 nn1=>?_) (fun F' V cs' nV kV hV=>?_))
   ·simp only[↓sU,sD,rE,↓reduceIte,rA,List.dropLast,aC,aQ,aB,aH,dI (p:=0) z1 rfl,dI (p:=0) za rfl,dC z6,dF z6,dI hM.ho hrv,(low8 (show S1.nx<S8.nx by omega)).1,(low8 (show S1.nx<S8.nx by omega)).2,(low8 (show S6.nx<S8.nx by omega)).1,(low8 (show S6.nx<S8.nx by omega)).2,(low Sa.nx ar).1,(low Sa.nx ar).2,hM.lt,hM.no rv hrm,sJ.self (hM.gr i rv hrv),Ak,aE.self hs8,bI.self j2,aE.self j3,ia,i1,(low8 l1).1,(low8 l1).2,ld1,sm1,i2,(low8 l2).1,(low8 l2).2,ld2,sm2,i5,(low8 l5).1,(low8 l5).2,ld5,i6,(low8 l6).1,(low8 l6).2,ld6,sm6,i7,(low8 l7).1,(low8 l7).2,ld7];refine cU rfl ?_;refine ae ?_;refine aW (aCn H (kB hE x1) hTm) ?_;rintro _ U ⟨uS,e',rfl,hE2⟩;have hu:=uS.1;simp only[Ax,Bq,rA] at nn1;exact⟨uS,aJt (m1:=0) hM hrv (x1.trans uS) hE2 ar hu (af) (af) (af) (af) ay rfl rfl (by unfold RowK nE;have:=qB G hi';split;exact(by rw[Aj,Ay];omega);split;exact(by rw[Ca,Aj,Ay];omega);exact Du _)⟩
   ·refine⟨rfl,nV,fun c hc hne=>kV c ar hne fun h=>by have:=(hM.blk hrm h).1;simp only at this;omega,cs',hV.ext fun j hj=>aFq (key:=fun i=>i) rfl ?_ (fun j _ e=>e) hj⟩;unfold nE;rw[Am,Bf ha'];rfl
  ·refine ae ?_;exact⟨sY,(hk _ ar ar).trans ((v0.2 _ ar).trans gc),(hM.ext fun j hj=>aHt (key:=fun i=>i) hj).is⟩
 rintro o ⟨F,inr⟩ Y ⟨rfl,q0,p11,sY,gY,hY⟩;simp only at q0 p11;subst q0;try refine ae ?_
 refine bO ?_;refine dn p11 (dI (p:=0) gY rfl) ?_;refine aP (ae ?_);exact⟨sY,.inr ⟨h1,first,hO,.inr ⟨hD,act,hA,.inr ⟨hfit,_,rfl,hY⟩⟩⟩⟩
end
section
variable {g:aS}{L:a9}{first:ba}{act:a9}
def aBW(da:bg)(s:List (List dD))(q:Nat):List dD:=s.getD (da.getD q 0) []
def aLC(g:aS)(s:List (List dD))(Z:St)(first:ba)(act:a9)(r:AV):Prop:=(¬qH g.bj s/\r= .tup [.bw,.int .i64 10])\/(qH g.bj s/\((¬aED g first act s/\r= .tup [.bw,.int .i64 18])\/(aED g first act s/\∃v,r= .tup [v,.int .i64 0]/\aE 1 fK Z v ((List.range (fJ g first act).length).map (aBW (fJ g first act) s)))))
def aNV(g:aS)(s:List (List dD))(first:ba)(act:a9)(r:AV):Prop:=(¬qH g.bj s/\r= .tup [.bool false,.int .i64 10])\/(qH g.bj s/\∃t,r= .tup [.bool t,.int .i64 0]/\(t=true↔aED g first act s))
theorem rM{da:bg}{r:Nat}(h:r∈da):da.getD (da.idxOf r) 0=r:=by
 have hq:=Ee h;rw[Ad,Ab hq,List.getElem_idxOf hq];rfl
theorem aGW{da:bg}{j:Nat}(h:da.Nodup)(hj:j<da.length):da.idxOf (da.getD j 0)=j:=by
 rw[Ad,Ab hj];exact h.idxOf_getElem j hj
theorem uR{first:ba}{da:bg}(h:oO g first da){j:Nat}(hj:j<da.length):da.getD j 0<g.bj.length/\jT first (da.getD j 0)=da.getD j 0:=by
 have hm:da.getD j 0∈da:=by
  rw[Ad,Ab hj];exact Bo hj
 have⟨h1,h2⟩:=h.2 _ hm;exact⟨h1,by unfold jT;rw[h2];exact Az _⟩
theorem aHN{S:St}{nv iv mv sv:AV}{s:List (List dD)}(H:Has fns)(hn:aE 6 bX S nv g.bh)(hi:aE 2 bP S iv g.bj)(hln:g.bh.length<=100000)(hm:aE 1 iD S mv L)(hs:aE 1 fK S sv s)(ht:oI s):
  fZ fns (.fn 57 [] []) [.agg [.int .i64 g.bo,nv,iv],mv,sv] S fun r S'=>Same S S'/\xM g L .bw (aLC g s S') r:=by
 refine cF H.f57 (by simp) ?_;refine am ?_;refine bO ?_;refine cI (by refine am ?_;exact aY _) ?_;intro S1 s1 n1 g1;refine am ?_;refine cI (cs:=[sv]) (by refine am ?_;exact lI hs) ?_;intro S2 s2 n2 g2;refine am ?_;have s02:=s1.trans s2;have c2:S2.h.get S.nx=_:=(s2.2 _ ar).trans g1;refine bO (dx (eJ c2) ?_);refine bD (am ?_);refine aW (xP H (aE.same (E:=bX) bL hn s02) (aE.same (E:=bP) bK hi s02) hln (aE.same (E:=iD) cm hm s02)) ?_;rintro _ S3 ⟨s3,fv,av,e,rfl,hL⟩;refine dy @rN @sA ?_;refine cA ?_;intro S4 s4 n4 g4;try refine am ?_
 refine cQ (b:=S3.nx) (cs':=[fv,av]) (ap) (by refine am ?_;exact aY _) g4 rfl rfl ?_;intro S5 s5 n5 g5;try refine am ?_
 have s35:Same S3 S5:=s5.same s4 (Ag _);have s25:=s3.trans s35;have s05:=s02.trans s25;have m5:=s25.1;have c5:S5.h.get S.nx=_:=(s25.2 _ ar).trans c2;have d5:S5.h.get S1.nx=_:=(s25.2 _ ar).trans g2;refine fC (am ?_);by_cases he:e=0;rotate_left
 ·refine aN (by simp only[↓sU,sD,rE,↓reduceIte,rA,Ac (show e≠0 from he)]) ?_;refine bO (am ?_);refine aP (am ?_);refine⟨s05,?_⟩;rcases hL with⟨h1,rfl,_⟩ | ⟨h1,first,hO,⟨rfl,hD,_⟩ | ⟨rfl,_⟩⟩
  ·exact .inl ⟨h1,rfl⟩
  ·exact .inr ⟨h1,first,hO,.inl ⟨hD,rfl⟩⟩
  ·exact absurd rfl he
 subst he;refine aM (by simp only[↓sU,sD,rE,↓reduceIte,rA];try first | rfl | trivial) (aI ?_);try refine am ?_
 rcases hL with⟨h1,h2,_⟩ | ⟨h1,first,hO,⟨h2,_⟩ | ⟨_,hD,act,hA,hf,ha⟩⟩
 ·exact absurd h2.symm h1
 ·cases h2
 have⟨hf0,hL16,hims⟩:=iS h1;have hAll:∀m∈L,eX g m:=fun m hm=>gR (iC hims m hm);have GK:=uM hf0;have G:=GK.good;have hNI:=G.ni;have⟨Tr,hT,hTl,_⟩:=G.walk;have hR:=nC G hAll hO hD hA;refine fC ?_;refine dq @aC @aB (fH c5) (dI (p:=0) d5 rfl) ?_;refine bD (ae ?_);refine aW (zW H (aE.same (E:=bP) bK hi s05) (aE.same (E:=fK) dL hs s05) ar) ?_;rintro _ S6 ⟨s6,t,rfl,htf⟩;refine dm @eM ?_;cases t
 ·refine aN (by simp only[↓sU,sD,rE,↓reduceIte,rA,Ci]) ?_;refine bO (ae ?_);refine aP (ae ?_);exact⟨s05.trans s6,.inr ⟨h1,first,hO,.inr ⟨hD,act,hA,.inl ⟨fun h=>(by cases htf.2 h),rfl⟩⟩⟩⟩
 refine aM (by simp only[↓sU,sD,rE,↓reduceIte,rA,Cc]) (aI ?_);try refine ae ?_
 have hfit:=htf.1 rfl;have m6:=s6.1;have s06:=s05.trans s6;have c6:S6.h.get S.nx=_:=(s6.2 _ ar).trans c5;have d6:S6.h.get S1.nx=_:=(s6.2 _ ar).trans d5;have e6:S6.h.get S3.nx=_:=(s6.2 _ ar).trans g5;refine fC ?_;refine dp (eJ c6) (aDO e6) (dI (p:=0) d6 rfl) ?_;refine bD (ae ?_);refine aW (aFp (L:=L) H G hAll hO hA (aE.same (E:=bP) bK hi s06) (hf.same (s35.trans s6)) (aE.same (E:=iD) cm ha (s35.trans s6)) (aE.same (E:=fK) dL hs s06) ht hfit) ?_;rintro _ S7 ⟨s7,t,rfl,hts⟩;refine dm @eM ?_;cases t
 ·refine aN (by simp only[↓sU,sD,rE,↓reduceIte,rA,Ci]) ?_;refine bO (ae ?_);refine aP (ae ?_);exact⟨s06.trans s7,.inr ⟨h1,first,hO,.inr ⟨hD,act,hA,.inr ⟨hfit,.inl ⟨fun h=>(by cases hts.2 h),rfl⟩⟩⟩⟩⟩
 refine aM (by simp only[↓sU,sD,rE,↓reduceIte,rA,Cc]) (aI ?_);try refine ae ?_
 have hsym:=hts.1 rfl;have m7:=s7.1;have s07:=s06.trans s7;have c7:S7.h.get S.nx=_:=(s7.2 _ ar).trans c6;have d7:S7.h.get S1.nx=_:=(s7.2 _ ar).trans d6;have e7:S7.h.get S3.nx=_:=(s7.2 _ ar).trans e6;have s57:=s6.trans s7;refine bO (dy (eJ c7) (aDO e7) ?_);refine bD (am ?_);refine aW (aCw (first:=first) (act:=act) (Tr:=Tr) H GK hR hO.len (zK hO) (aE.same (E:=bX) bL hn s07) (aE.same (E:=bP) bK hi s07) (hf.same (s35.trans s57)) (aE.same (E:=iD) cm ha (s35.trans s57)) hT hTl (aF4 hf0)) ?_;rintro r S8 ⟨s8,hJ⟩;obtain⟨nv',iv',jv,qv,pv,rfl, -,j1,j2,j3, -⟩:=hJ S8 (Ag _) fun _ _ _=>rfl;try refine am ?_
 refine cA ?_;intro V7 v7 k7 g7;try refine am ?_
 refine cQ (b:=S8.nx) (cs':=[.int .i64 g.bo,nv',iv',jv,qv,pv]) (ap) (by refine am ?_;exact aY _) g7 rfl rfl ?_;intro S9 v9 k9 g9;try refine am ?_
 have s89:Same S8 S9:=v9.same v7 (Ag _);have j2:bI .i64 S8 jv (mD first (fJ g first act)):=j2;have hj1:aE 2 bP S8 iv' (vN g (fJ g first act)):=j1;have s79:=s8.trans s89;have s09:=s07.trans s79;have m9:=s79.1;have m89:=s89.1;have c9:S9.h.get S.nx=_:=(s79.2 _ ar).trans c7;have d9:S9.h.get S1.nx=_:=(s79.2 _ ar).trans d7;have e9:S9.h.get S3.nx=_:=(s79.2 _ ar).trans e7;have hs9:=aE.same (E:=fK) dL hs s09;have hrp:=yH (first:=first) G hR;have hRO:=aBb G hR hO;have hil:jJ iv'=some (.int .i64 (((fJ g first act).length:Nat):Int)):=by
  have:=hj1.len;unfold vN at this
  rwa [Aj] at this
 have hJ1:dT (.ptr S8.nx (0+0+2)) false 1 S9.h=some iv':=ldc g9 rfl;have hra:∀i,i<g.bj.length->jT first i∈fJ g first act:=fun i hi=>rC G hR hi;generalize hRP:fJ g first act=da at *;refine bO (ed @aC @aB hJ1 hil ?_);refine fN (lN (n:=da.length) (by simp only[↓aF,aG,rE,↓reduceIte,rA,aH]) (by simp only[↓aF,aG,rE,↓reduceIte,rA,aH]) ax ax) ?_;intro Sa sa na ga;try refine am ?_
 rw[repeatL_one] at ga;refine cA ?_;intro Sb sb nb gb;try refine am ?_
 refine cQ (b:=Sa.nx) (cs':=[.sl S9.nx 0 da.length da.length false]) (ap) (by simp only[↓aF,aG,rE,↓reduceIte,rA];rfl) gb rfl rfl ?_;intro Sc sc nc gc;try refine am ?_
 have sac:Same Sa Sc:=sc.same sb (Ag _);have s9c:=sa.trans sac;have mc:=s9c.1;have s0c:=s09.trans s9c;have gac:Sc.h.get S9.nx=_:=(sac.2 _ ar).trans ga;have cc:Sc.h.get S.nx=_:=(s9c.2 _ ar).trans c9;have m0:=s09.1;refine aA (aX (Q:=fun o A' Y=>o= .normal/\A'.inr=false/\aD 11 A'.F= .ptr Sa.nx 0/\Same S Y/\Y.h.get Sa.nx=some (.cells [.sl S9.nx 0 da.length da.length false] false 0)/\aE 1 fK Y (.sl S9.nx 0 da.length da.length false) ((List.range da.length).map (aBW da s))) (aA (aJ ?_)) ?_)
 ·refine dp @aC @aB (fH cc) ?_;refine bD (ae ?_);refine aW (lT H (lI hi)) ?_;rintro _ V0 ⟨v0,bc,rfl,bc1,bc2,gbc⟩;try refine ae ?_
  have lV:=v0.1;refine aK (aLZ (S:=S) (g:=g) (iv:=iv) (ob:=S9.nx) (n:=da.length) (key:=fun q=>da.getD q 0) (M:=aBW da s) H G rfl (af) hi (s0c.trans v0) ar gbc bc2 ((v0.2 _ ar).trans gac) ar (fun j i _ e hi'=>?_) (fun i a Y cs hi' ha' hM hk=>?_) (fun Y cs sY hM hk=>?_))
  ·unfold aBW;try simp only at e
   have⟨r,hr,hrl⟩:=pP hfit hi';rw[e,Ad,hr];exact Eq hrl
  ·refine bO (ae ?_);refine aJ (ae ?_);intro Z hM hk;have hZ:∀c,c<S9.nx->Z.h.get c=S9.h.get c:=fun c hc=>(hk c ar ar).trans ((v0.2 c ar).trans (s9c.2 c hc));have lZ:=hM.le;simp only at lZ;have s9Z:Same S9 Z:=⟨ar,hZ⟩;have z1:Z.h.get S1.nx=_:=(hZ _ ar).trans d9;have z3:Z.h.get S3.nx=_:=(hZ _ ar).trans e9;have z8:Z.h.get S8.nx=_:=(hZ _ ar).trans g9;have za:Z.h.get Sa.nx=some (.cells [.sl S9.nx 0 da.length da.length false] false 0):=(hk _ ar ar).trans ((v0.2 _ ar).trans gc);have⟨f1,f2,f3⟩:=aAl hO hi';have⟨b4,q4,i4,l4,ld4⟩:=xL (hf.same (s35.trans (s57.trans s79))) s9Z (i:=i) (by rw[hO.len];exact hi') f1;refine aK (aA (aJ ?_));refine dt @aC @aB (aMa z3) @aH i4 ld4 ?_;by_cases er:jT first i=i;rotate_left
   ·refine aM (by simp only[↓sU,sD,rE,↓reduceIte,rA,Aa (show ¬ ((jT first i:Nat):Int)=(i:Int) by omega)]) (aI ?_);refine ae ?_;refine⟨Ag _,fun _ _ _=>(by first | rfl | trivial),cs,hM.ext fun j hj=>?_⟩;unfold RowK;have:=(uR hRO hj).2;have hne:¬da.getD j 0=i:=fun e=>er (by rw[<-e];exact this);show(if da.getD j 0<i then _ else if da.getD j 0=i then _ else _)=if da.getD j 0<i then _ else if da.getD j 0=i then _ else _;rw[if_neg hne,if_neg hne]
   refine aN (by simp only[↓sU,sD,rE,↓reduceIte,rA,Ac (show((jT first i:Nat):Int)=(i:Int) by omega)]) ?_;have hmem:=hra i hi';rw[er] at hmem;have hq:=Ee hmem;obtain⟨rv,hrv⟩:∃rv,cs[da.idxOf i]? =some rv:=⟨_,Ab (by rw[hM.hl];exact hq)⟩;have hrm:=Ar hrv;have low:∀c,c<V0.nx->c<Z.nx/\¬aZ rv=some c:=fun c hc=>⟨ar,fun h=>by have:=(hM.blk hrm h).1;simp only at this;omega⟩;have low9:∀ {c},c<S9.nx->c<Z.nx/\¬aZ rv=some c:=fun hc=>low _ ar;have⟨r,hr,hrl⟩:=pP hfit hi';have⟨b1,q1,rw1,b2,q2,e,i1,l1,ld1,sm1,i2,l2,ld2,sm2,hE,hTm⟩:=vA hs9 s9Z ht hr (a:=a) (by rw[hrl];exact ha');have⟨b5,q5,i5,l5,ld5⟩:=xL (j2.same s89) s9Z (i:=i) (by unfold mD;rw[Aj,hO.len];exact hi') (wY (by rw[hO.len];exact hi'));rw[er] at ld5;have ia:=dR (b:=S9.nx) (o:=false) hq;refine aMd (K:=25) (p:=77) (v:=76) (i:=da.idxOf i) (rv:=rv) (l:=RowK (fun q=>da.getD q 0) (aBW da s) i a (da.idxOf i)++ [nO s i a]) hM hrv rfl rfl rfl ay (fun X1 x1 hh1 nn1=>?_) (fun F' V cs' nV kV hV=>?_)
   ·simp only[↓sU,sD,rE,↓reduceIte,rA,List.dropLast,aC,aQ,aB,aH,dI (p:=0) z1 rfl,dI (p:=0) za rfl,dC z8,dI hM.ho hrv,(low9 (show S1.nx<S9.nx by omega)).1,(low9 (show S1.nx<S9.nx by omega)).2,(low9 (show S8.nx<S9.nx by omega)).1,(low9 (show S8.nx<S9.nx by omega)).2,(low Sa.nx ar).1,(low Sa.nx ar).2,hM.lt,hM.no rv hrm,sJ.self (hM.gr _ rv hrv),Ak,aE.self hs9,bI.self j2,ia,i1,(low9 l1).1,(low9 l1).2,ld1,sm1,i2,(low9 l2).1,(low9 l2).2,ld2,sm2,i5,(low9 l5).1,(low9 l5).2,ld5];refine cU rfl ?_;refine ae ?_;refine aW (aCn H (kB hE x1) hTm) ?_;rintro _ U ⟨uS,e',rfl,hE2⟩;have hu:=uS.1;simp only[Ax,Bq,rA] at nn1;exact⟨uS,aJt (m1:=0) hM hrv (x1.trans uS) hE2 ar hu (af) (af) (af) (af) ay rfl rfl (by unfold RowK aBW;have:=qB G hi';simp only[rM hmem];rw[if_neg (Nat.lt_irrefl i),if_pos trivial,Ca];omega)⟩
   ·refine⟨rfl,nV,fun c hc hne=>kV c ar hne fun h=>by have:=(hM.blk hrm h).1;simp only at this;omega,cs',hV.ext fun j hj=>aFq (key:=fun q=>da.getD q 0) (rM hmem) ?_ (fun j hj e=>by rw[<-e];exact(aGW hRO.1 hj).symm) hj⟩;unfold aBW;rw[rM hmem,Ad,hr];show r[a]? =_;exact aB7 hr (by rw[hrl];exact ha')
  ·refine ae ?_;exact⟨sY,(hk _ ar ar).trans ((v0.2 _ ar).trans gc),(hM.ext fun j hj=>aHt (key:=fun q=>da.getD q 0) (uR hRO hj).1).is⟩
 rintro o ⟨F,inr⟩ Y ⟨rfl,q0,p11,sY,gY,hY⟩;simp only at q0 p11;subst q0;subst hRP;try refine ae ?_
 refine bO ?_;refine dn p11 (dI (p:=0) gY rfl) ?_;refine aP (ae ?_);exact⟨sY,.inr ⟨h1,first,hO,.inr ⟨hD,act,hA,.inr ⟨hfit,.inr ⟨hsym,_,rfl,hY⟩⟩⟩⟩⟩
theorem aIR{S:St}{nv iv mv sv:AV}{s:List (List dD)}(H:Has fns)(hn:aE 6 bX S nv g.bh)(hi:aE 2 bP S iv g.bj)(hln:g.bh.length<=100000)(hm:aE 1 iD S mv L)(hs:aE 1 fK S sv s)(ht:oI s):
  fZ fns (.fn 59 [] []) [.agg [.int .i64 g.bo,nv,iv],mv,sv] S fun r S'=>Same S S'/\xM g L (.bool false) (aNV g s) r:=by
 refine cF H.f59 (by simp) ?_;refine am ?_;refine bO ?_;refine cI (by refine am ?_;exact aY _) ?_;intro S1 s1 n1 g1;refine am ?_;refine bO (dx (eJ g1) ?_);refine bD (am ?_);refine aW (xP H (aE.same (E:=bX) bL hn s1) (aE.same (E:=bP) bK hi s1) hln (aE.same (E:=iD) cm hm s1)) ?_;rintro _ S3 ⟨s3,fv,av,e,rfl,hL⟩;refine dy @rN @sA ?_;refine cA ?_;intro S4 s4 n4 g4;try refine am ?_
 refine cQ (b:=S3.nx) (cs':=[fv,av]) (ap) (by refine am ?_;exact aY _) g4 rfl rfl ?_;intro S5 s5 n5 g5;try refine am ?_
 have s35:Same S3 S5:=s5.same s4 (Ag _);have s25:=s3.trans s35;have s05:=s1.trans s25;have m5:=s25.1;have c5:S5.h.get S.nx=_:=(s25.2 _ ar).trans g1;refine fC (am ?_);by_cases he:e=0;rotate_left
 ·refine aN (by simp only[↓sU,sD,rE,↓reduceIte,rA,Ac (show e≠0 from he)]) ?_;refine bO (am ?_);refine aP (am ?_);refine⟨s05,?_⟩;rcases hL with⟨h1,rfl,_⟩ | ⟨h1,first,hO,⟨rfl,hD,_⟩ | ⟨rfl,_⟩⟩
  ·exact .inl ⟨h1,rfl⟩
  ·exact .inr ⟨h1,first,hO,.inl ⟨hD,rfl⟩⟩
  ·exact absurd rfl he
 subst he;refine aM (by simp only[↓sU,sD,rE,↓reduceIte,rA];try first | rfl | trivial) (aI ?_);try refine am ?_
 rcases hL with⟨h1,h2,_⟩ | ⟨h1,first,hO,⟨h2,_⟩ | ⟨_,hD,act,hA,hf,ha⟩⟩
 ·exact absurd h2.symm h1
 ·cases h2
 have⟨hf0,hL16,hims⟩:=iS h1;have hAll:∀m∈L,eX g m:=fun m hm=>gR (iC hims m hm);have GK:=uM hf0;have G:=GK.good;have hNI:=G.ni;have⟨Tr,hT,hTl,_⟩:=G.walk;have hR:=nC G hAll hO hD hA;refine fC (dp @aC @aB (fH c5) ?_);refine bD (ae ?_);refine aW (zW H (aE.same (E:=bP) bK hi s05) (aE.same (E:=fK) dL hs s05) ar) ?_;rintro _ S6 ⟨s6,t,rfl,htf⟩;refine dm @eM ?_;cases t
 ·refine aN (by simp only[↓sU,sD,rE,↓reduceIte,rA,Ci]) ?_;refine bO (ae ?_);refine aP (ae ?_);exact⟨s05.trans s6,.inr ⟨h1,first,hO,.inr ⟨hD,act,hA,.inl ⟨fun h=>(by cases htf.2 h),rfl⟩⟩⟩⟩
 refine aM (by simp only[↓sU,sD,rE,↓reduceIte,rA,Cc]) (aI ?_);try refine ae ?_
 have hfit:=htf.1 rfl;have s06:=s05.trans s6;have c6:S6.h.get S.nx=_:=(s6.2 _ ar).trans c5;have e6:S6.h.get S3.nx=_:=(s6.2 _ ar).trans g5;refine bO (dn (eJ c6) (aDO e6) ?_);refine bD (ae ?_);refine aW (aFp (L:=L) H G hAll hO hA (aE.same (E:=bP) bK hi s06) (hf.same (s35.trans s6)) (aE.same (E:=iD) cm ha (s35.trans s6)) (aE.same (E:=fK) dL hs s06) ht hfit) ?_;rintro _ S7 ⟨s7,t,rfl,hts⟩;try refine ae ?_
 refine aP (ae ?_);exact⟨s06.trans s7,.inr ⟨h1,first,hO,.inr ⟨hD,act,hA,.inr ⟨hfit,t,rfl,hts⟩⟩⟩⟩
end
theorem aPV{t:Nat}{z:AV}{x:cO}{F:Fr}{id:Nat}{v:AV}(hx:x.val F=v)(hc:v.cells=some [v]):uW (.cj t 1 1 [z] [(0,x)]) F id=some (.sl id 0 1 1 false,.cells [v] false 0):=by
 show(bC (eQ (repeatL [z] 1) [(0 * 1,1,x.val F)]) fun cs=>some (AV.sl id 0 1 1 false,AB.cells cs false 0))=_;rw[hx];show(bC (bC v.cells _) _)=_;rw[hc,aL];rfl
def RwP(X:St)(P:Nat->Prop)(cs:bf)(r:List dD):Prop:=∃a,cs= [a]/\∀X':St,X.nx<=X'.nx->(∀c,c<X.nx->P c->X'.h.get c=X.h.get c)->aE 3 uY X' a r
theorem RwP.move{X X':St}{P P':Nat->Prop}{cs:bf}{r:List dD}(h:RwP X P cs r)(hn:X.nx<=X'.nx)(hh:∀c,c<X.nx->P c->X'.h.get c=X.h.get c/\P' c):RwP X' P' cs r:=by
 have⟨a,e,h1⟩:=h;exact⟨a,e,fun X2 h2 h3=>h1 X2 (Al hn h2) fun c hc hp=>(h3 c (Ae hc hn) (hh c hc hp).2).trans (hh c hc hp).1⟩
theorem sJ.rw{S0 X:St}{P P':Nat->Prop}{v:AV}{r:List dD}(h:sJ 3 (oD X P) S0 X v r)(h1:∀c,aZ v=some c->P' c)(h2:∀c,c<X.nx->P c->P' c):RwP X P' [v] r:=
 ⟨v,rfl,fun X' hn hk=>(h.move (E':=oD X' fun _=>True) hn (fun c hc=>hk c (h.blk hc).2 (h1 c hc)) fun _ _ hE=>hE.move hn fun c hc hp=>⟨hk c hc (h2 c hc hp),trivial⟩).is fun _ _ hE=>hE.raw⟩
theorem RwP.is{X:St}{P:Nat->Prop}{cs:bf}{r:List dD}(h:RwP X P cs r):fK X cs r:=by
 have⟨a,e,h1⟩:=h;exact⟨a,e,h1 X (Ag _) fun _ _ _=>rfl⟩
theorem aKT{S0 X:St}{v rv:AV}{t:Nat}{M:List (List dD)}{r:List dD}(h:sJ 1 (RwP X fun c=>aZ v≠some c) S0 X v M)(hS:S0.nx<=X.nx)(ht:X.h.get t=some (.cells [rv] false 0))(hr:RwP X (fun c=>aZ v≠some c) [rv] r)(hl:M.length<=100000):
  ∃v' X',gP 24 1 v (.sl t 0 1 1 false) X=some (v',X')/\X.nx<=X'.nx/\(∀c,c<X.nx->aZ v≠some c->X'.h.get c=X.h.get c)/\sJ 1 (RwP X' fun c=>aZ v'≠some c) S0 X' v' (M++ [r]):=by
 have hs:eY (.sl t 0 1 1 false) X.h 1 1=some [rv]:=aLI ht;have⟨v',X',eA,aV,nV,kV,bV⟩:=sJ.push (bytes:=24) h ay hS rfl hs rfl hr ax ax;refine⟨v',X',eA,nV,kV,aV.move (Ag _) (fun _ _=>rfl) fun _ _ hE=>hE.move nV fun c hc hp=>⟨kV c hc hp,fun hc'=>?_⟩⟩;rcases bV c hc' with h | h
 ·exact hp h
 ·omega
section
variable {g:aS}{L:a9}{first:ba}{act:a9}
def aRq(Y0:St)(gb jb:Nat)(sv ov:AV)(i m:Nat)(r:List dD)(k:Nat)(A:bG)(X:St):Prop:=A.inr=false/\Same Y0 X/\∃a rv,a+k=m/\sJ 3 (oD X fun c=>aZ rv≠some c/\aZ ov≠some c) Y0 X rv (r.take a)/\aD 2 A.F=sv/\aD 3 A.F= .ptr gb 0/\aD 8 A.F= .ptr jb 0/\aD 10 A.F=ov/\aD 11 A.F= .int .i64 (i:Int)/\aD 12 A.F=rv/\aD 13 A.F= .int .i64 (a:Int)
def aQ6(B:St)(gb jb:Nat)(sv:AV)(N:Nat)(f:Nat->List dD)(k:Nat)(A:bG)(X:St):Prop:=A.inr=false/\Same B X/\∃i ov,i+k=N/\sJ 1 (RwP X fun c=>aZ ov≠some c) B X ov ((List.range i).map f)/\aD 2 A.F=sv/\aD 3 A.F= .ptr gb 0/\aD 8 A.F= .ptr jb 0/\aD 10 A.F=ov/\aD 11 A.F= .int .i64 (i:Int)
theorem aQo{X X':St}{iv:AV}{i:Nat}(hi:aE 2 bP X iv g.bj)(sX:Same X X')(G:dE g)(hlt:i<g.bj.length):∃b q,dO (.slice 2) iv i=some (.ptr b q)/\b<X.nx/\dT (.ptr b (q+1)) false 1 X'.h=some (.int .i64 ((cG g i:Nat):Int)):=by
 have⟨e,br,qr,hia,lbr,_,he,_,hf⟩:=aE.at hi ay (Ab hlt);have he:e= [.int .i64 g.bj[i].player,.int .i64 g.bj[i].bt]:=he;subst he;have ei:cd g (i:Int)=g.bj[i]:=by
  unfold cd;rw[Az,Ad,Ab hlt];rfl
 have hac:=aFY G hlt;have:g.bj[i].bt=((cG g i:Nat):Int):=by unfold cG;rw[<-ei];omega
 refine⟨br,qr,hia,lbr,?_⟩;rw[iA sX lbr,hf 1 _ rfl,this]
theorem aIy{S:St}{nv iv mv sv:AV}{s:List (List dD)}(H:Has fns)(hn:aE 6 bX S nv g.bh)(hi:aE 2 bP S iv g.bj)(hln:g.bh.length<=100000)(hm:aE 1 iD S mv L)(hs:aE 1 fK S sv s)(ht:oI s):
  fZ fns (.fn 56 [] []) [.agg [.int .i64 g.bo,nv,iv],mv,sv] S fun r S'=>Same S S'/\xM g L .bw (aHM g s S') r:=by
 refine cF H.f56 (by simp) ?_;refine am ?_;refine bO ?_;refine cI (by refine am ?_;exact aY _) ?_;intro S1 s1 n1 g1;refine am ?_;refine bO (dx (eJ g1) ?_);refine bD (am ?_);refine aW (vU H (aE.same (E:=bX) bL hn s1) (aE.same (E:=bP) bK hi s1) hln (aE.same (E:=iD) cm hm s1)) ?_;rintro r0 S2 ⟨s2,hJ0⟩;obtain⟨x0,x1,x2,x3,x4,x5,e,rfl⟩:=xU (hJ0.move (Ag _) fun _ _ _=>rfl);refine dy @rN @sA ?_;refine cA ?_;intro S3 s3 n3 g3;try refine am ?_
 refine cQ (b:=S2.nx) (cs':=[x0,x1,x2,x3,x4,x5]) (ap) (by refine am ?_;exact aY _) g3 rfl rfl ?_;intro S5 v5 k5 g5;try refine am ?_
 have s25:Same S2 S5:=v5.same s3 (Ag _);have hJ:=hJ0.move s25.1 fun c _ hc=>s25.2 c hc;clear hJ0;have s15:=s2.trans s25;have s05:=s1.trans s15;have m5:=s15.1;have m25:=s25.1;have m2:=s2.1;have c5:S5.h.get S.nx=_:=(s15.2 _ ar).trans g1;refine fC (am ?_);by_cases he:e=0;rotate_left
 ·refine aN (by simp only[↓sU,sD,rE,↓reduceIte,rA,Ac (show e≠0 from he)]) ?_;refine bO (am ?_);refine aP (am ?_);refine⟨s05,?_⟩;rcases hJ with⟨h1,h2⟩ | ⟨h1,first,hO,⟨hD,h2⟩ | ⟨hD,act,hA,v,h2,_⟩⟩
  ·simp only[AV.tup.injEq,Bx,AV.int.injEq,Dt,Ed] at h2;obtain⟨_,rfl⟩:=h2;exact .inl ⟨h1,rfl⟩
  ·simp only[AV.tup.injEq,Bx,AV.int.injEq,Dt,Ed] at h2;obtain⟨_,rfl⟩:=h2;exact .inr ⟨h1,first,hO,.inl ⟨hD,rfl⟩⟩
  ·simp only[AV.tup.injEq,Bx,AV.int.injEq,Dt,Ed] at h2;exact absurd h2.2 he
 subst he;refine aM (by simp only[↓sU,sD,rE,↓reduceIte,rA];try first | rfl | trivial) (aI ?_);try refine am ?_
 rcases hJ with⟨h1,h2⟩ | ⟨h1,first,hO,⟨hD,h2⟩ | ⟨hD,act,hA,v,h2,nv',iv',jv,qv,pv,rfl, -,j1,j2,j3, -⟩⟩
 ·simp only[AV.tup.injEq,Bx,AV.int.injEq,Dt,Ed] at h2;exact absurd h2.2.symm h1
 ·simp only[AV.tup.injEq,Bx,AV.int.injEq,Dt,Ed] at h2;cases h2.2
 simp only[AV.tup.injEq,Bx,AV.agg.injEq,Dt] at h2;obtain⟨rfl,rfl,rfl,rfl,rfl,rfl⟩:=h2;have j2:bI .i64 S5 x3 (mD first (fJ g first act)):=j2;have j1:aE 2 bP S5 x2 (vN g (fJ g first act)):=j1;have⟨hf0,hL16,hims⟩:=iS h1;have hAll:∀m∈L,eX g m:=fun m hm=>gR (iC hims m hm);have G:=gF hf0;have hNI:=G.ni;have hR:=nC G hAll hO hD hA;have hrp:=yH (first:=first) G hR;have ld2:dT (.ptr S2.nx (0+0+2)) false 1 S5.h=some x2:=ldc g5 rfl;have hs5:=aE.same (E:=fK) dL hs s05;refine fC (dp @aC @aB ld2 ?_);refine bD (ae ?_);refine aW (tX H j1 hs5 (by unfold vN;rw[Aj];omega)) ?_;rintro _ B ⟨sB,t,rfl,htf⟩;refine dm @eM ?_;have s0B:=s05.trans sB;have mB:=sB.1;cases t
 ·refine aN (by simp only[↓sU,sD,rE,↓reduceIte,rA,Ci]) ?_;refine bO (ae ?_);refine aP (ae ?_);exact⟨s0B,.inr ⟨h1,first,hO,.inr ⟨hD,act,hA,.inl ⟨fun h=>(by cases htf.2 h),rfl⟩⟩⟩⟩
 refine aM (by simp only[↓sU,sD,rE,↓reduceIte,rA,Cc]) (aI ?_);try refine ae ?_
 have hfit:=htf.1 rfl;have cB:B.h.get S.nx=_:=(sB.2 _ ar).trans c5;have gB:B.h.get S2.nx=_:=(sB.2 _ ar).trans g5;have hsB:=aE.same (E:=fK) dL hs s0B;have hiB:=aE.same (E:=bP) bK hi s0B;have j2B:=j2.same sB;have j3B:=aE.same (E:=iD) cm j3 sB;refine bO (ae ?_);refine aA (aX (Q:=fun o A' X=>o= .normal/\aQ6 B S.nx S2.nx sv g.bj.length (nE g first act (fJ g first act) s) 0 A' X) (aA (aJ ?_)) ?_)
 ·refine ae ?_;refine aK (bH (aQ6 B S.nx S2.nx sv g.bj.length (nE g first act (fJ g first act) s)) ?_ g.bj.length _ _ ⟨rfl,dk _,0,.bw,ar,.none,af,af,af,af,ag⟩);rintro k ⟨F,inr⟩ X ⟨q0,hX,i,ov,hik,hov,p2,p3,p8,p10,p11⟩;simp only at q0 p2 p3 p8 p10 p11;subst q0;have cX:=(hX.2 _ ar).trans cB;have mX:=hX.1;refine fC (du p3 p11 @aC @aB (fH cX) hi.len @Ah ?_);by_cases hlt:i<g.bj.length;rotate_left
  ·refine aM (by simp only[↓sU,sD,rE,↓reduceIte,rA,Aa (show ¬ (i:Int)<(g.bj.length:Int) by omega)]) (bJ ?_);refine ae ?_;obtain rfl:k=0:=by omega
   exact⟨rfl,hX,i,ov,hik,hov,by refine⟨?_,?_,?_,?_,?_⟩<;>simp only[↓sU,sD,rE,↓reduceIte,rA,p2,p3,p8,p10,p11]⟩
  refine aN (by simp only[↓sU,sD,rE,↓reduceIte,rA,Ac (show(i:Int)<(g.bj.length:Int) by omega)]) (aI ?_);try refine ae ?_
  have hac:=qB G hlt;have w1:=dh i
  refine aA (aK (aA (aJ ?_)));refine ae ?_;refine aA (aX (Q:=fun o A' Y=>o= .normal/\aRq X S.nx S2.nx sv ov i (cG g i) (nE g first act (fJ g first act) s i) 0 A' Y) (aA (aJ ?_)) ?_)
  ·refine ae ?_;refine aK (bH (aRq X S.nx S2.nx sv ov i (cG g i) (nE g first act (fJ g first act) s i)) ?_ (cG g i) _ _ ⟨rfl,dk _,0,.bw,ar,.none,ah p2,ah p3,ah p8,ah p10,ah p11,af,ag⟩);clear p2 p3 p8 p10 p11;rintro k' ⟨F,inr⟩ Y ⟨q0,hY,a,rv,hak,hrv,p2,p3,p8,p10,p11,p12,p13⟩;simp only at q0 p2 p3 p8 p10 p11 p12 p13;subst q0;have sY:=hX.trans hY;have mY:=hY.1;have cY:=(hY.2 _ ar).trans cX;have gY:=(sY.2 _ ar).trans gB;have⟨b0,r0,i0,_,ld0⟩:=aQo hiB sY G hlt;refine fC ?_;simp only[↓sU,sD,rE,↓reduceIte,rA,p3,p11,p13,aC,aB,fH cY,aH,i0,ld0];by_cases ha:a<cG g i;rotate_left
   ·refine aM (by simp only[↓sU,sD,rE,↓reduceIte,rA,Aa (show ¬ (a:Int)<((cG g i:Nat):Int) by omega)]) (bJ ?_);refine ae ?_;obtain rfl:k'=0:=by omega
    exact⟨rfl,hY,a,rv,hak,hrv,by refine⟨?_,?_,?_,?_,?_,?_,?_⟩<;>simp only[↓sU,sD,rE,↓reduceIte,rA,p2,p3,p8,p10,p11,p12,p13]⟩
   refine aN (by simp only[↓sU,sD,rE,↓reduceIte,rA,Ac (show(a:Int)<((cG g i:Nat):Int) by omega)]) (aI ?_);try refine ae ?_
   have w2:=dh a
   have low:∀ {c},c<B.nx->c<Y.nx/\¬aZ rv=some c:=fun hc=>⟨ar,fun h=>by have:=(hrv.blk h).1;omega⟩;have⟨f1,f2,f3⟩:=aAl hO hlt;have hmem:jT first i∈fJ g first act:=rC G hR hlt;have⟨r,hr,hrl⟩:=aIc hfit hmem;have hac2:=aBp hA hlt ha;have⟨b1,q1,rw1,b2,q2,e,i1,l1,ld1,sm1,i2,l2,ld2,sm2,hE,hTm⟩:=vA hsB sY ht hr (a:=qL act i a) (by rw[hrl];exact hac2);have⟨b5,q5,i5,l5,ld5⟩:=xL j2B sY (i:=i) (by unfold mD;rw[Aj,hO.len];exact hlt) (wY (by rw[hO.len];exact hlt));have⟨b6,q6,rw6,b7,q7,i6,l6,ld6,sm6,i7,l7,ld7⟩:=aDE j3B sY hA hlt ha;refine aA (aK (nS (fun c=>aZ rv=some c) ?_));intro X1 x1 hh1 nn1;simp only[Ax,Bq,rA] at nn1;simp only[↓sU,sD,rE,↓reduceIte,rA,p2,p8,p11,p12,p13,aC,aQ,aB,aH,dC gY,dF gY,(low (show S2.nx<B.nx by omega)).1,(low (show S2.nx<B.nx by omega)).2,Ak,aE.self hsB,bI.self j2,aE.self j3,i1,(low l1).1,(low l1).2,ld1,sm1,i2,(low l2).1,(low l2).2,ld2,sm2,i5,(low l5).1,(low l5).2,ld5,i6,(low l6).1,(low l6).2,ld6,sm6,i7,(low l7).1,(low l7).2,ld7];refine cU rfl ?_;refine ae ?_;refine aW (aFB H (kB hE x1) hTm) ?_;rintro _ U ⟨uS,e',rfl,hE2⟩;have hu:=uS.1;refine⟨uS,?_⟩;have sYU:=x1.trans uS;refine aFw (m1:=0) (S0:=X) (P:=fun c=>(aZ rv≠some c/\aZ ov≠some c)/\c≠Y.nx+20) (l:=(nE g first act (fJ g first act) s i).take a) (x:=nO s ((fJ g first act).idxOf (jT first i)) (qL act i a)) rfl rfl (af) (af) ay (hrv.move sYU.1 (fun c hc=>sYU.2 c (hrv.blk hc).2) fun _ _ h=>h.move sYU.1 fun c hc hp=>⟨sYU.2 c hc,hp,ar⟩) (hE2.move (Ag _) fun c _ hp=>⟨rfl,⟨fun h=>by have:=(hrv.blk h).2;omega,fun h=>by have:=(hov.blk h).2;omega⟩,ar⟩) (fun c hp=>⟨hp.2,hp.1.1⟩) (fun c h=>h) ar (fun c hc=>(hrv.blk hc).2) mY (by rw[Ca];omega) fun rv' V aV nV kV bV=>?_;refine dm @bF ?_;refine aJ (dn p13 w2 ?_);refine⟨k' - 1,ar,rfl,⟨by simp only;omega,fun c hc=>(kV c ar ar  fun h=>by have:=(hrv.blk h).1;omega).trans ((sYU.2 c ar).trans (hY.2 c hc))⟩,a+1,rv',ar,?_,by refine⟨?_,?_,?_,?_,?_,?_,?_⟩<;>simp only[↓sU,sD,rE,↓reduceIte,rA,p2,p3,p8,p10,p11]⟩;have e1:(nE g first act (fJ g first act) s i).take (a+1)=(nE g first act (fJ g first act) s i).take a++ [nO s ((fJ g first act).idxOf (jT first i)) (qL act i a)]:=by
    rw[Bn];congr 1;unfold nE;rw[Am,Bf ha];rfl
   rw[e1];exact aV.move (Ag _) (fun _ _=>rfl) fun _ _ h=>h.move (Ag _) fun c _ hp=>⟨rfl,hp.2,hp.1.1.2⟩
  clear p2 p3 p8 p10 p11;rintro o ⟨F,inr⟩ Y ⟨rfl,q0,hY,a,rv,hak,hrv,p2,p3,p8,p10,p11,p12,p13⟩;simp only at q0 p2 p3 p8 p10 p11 p12 p13;subst q0;obtain rfl:a=cG g i:=by omega
  rw[Bb (by unfold nE;rw[Aj,Ay];exact Ag _)] at hrv;have mY:=hY.1;try refine ae ?_
  have he1:=fun(F:Fr) (id:Nat) (h:aD 69 F=rv)=>aPV (t:=93) (z:=.bw) (x:=.t 69) (F:=F) (id:=id) h hrv.cells;refine aJ (dy p10 p12 ?_);refine fN (he1 _ _ (ap)) ?_;intro U u1 u2 u3;try refine am ?_
  have hlow:∀c,aZ ov=some c->c<X.nx:=fun c hc=>(hov.blk hc).2;have⟨ov',V,eA,nV,kV,aV⟩:=aKT (S0:=B) (X:=U) (v:=ov) (rv:=rv) (M:=(List.range i).map (nE g first act (fJ g first act) s)) (r:=nE g first act (fJ g first act) s i) (hov.move (au u1.1) (fun c hc=>(u1.2 c (by have:=hlow c hc;omega)).trans (hY.2 c (hlow c hc))) fun _ _ h=>h.move (au u1.1) fun c hc hp=>⟨(u1.2 c ar).trans (hY.2 c hc),hp⟩) (au u1.1) u3 ((hrv.rw (P':=fun c=>aZ ov≠some c) (fun c hc h=>by have:=(hrv.blk hc).1;have:=hlow c h;omega) fun c hc hp=>hp.2).move u1.1 fun c hc hp=>⟨u1.2 c hc,hp⟩) (by rw[Aj,Ay];omega);refine fI (v:=ov') (S1:=V) (fun call=>?_) ?_
  ·rw[gO];refine am ?_;exact eA
  refine am ?_;refine aJ (dn p11 w1 ?_);refine⟨k - 1,ar,rfl,⟨au u1.1,fun c hc=>(kV c (au u1.1) fun h=>by have:=(hov.blk h).1;omega).trans ((u1.2 c ar).trans ((hY.2 c ar).trans (hX.2 c hc)))⟩,i+1,ov',ar,?_,by refine⟨?_,?_,?_,?_,?_⟩<;>simp only[↓sU,sD,rE,↓reduceIte,rA,p2,p3,p8]⟩;rw[List.range_succ,Dz];exact aV
 rintro o ⟨F,inr⟩ X ⟨rfl,q0,hX,i,ov,hik,hov,p2,p3,p8,p10,p11⟩;simp only at q0 p10;subst q0;obtain rfl:i=g.bj.length:=by omega
 try refine ae ?_
 refine bO (dm p10 ?_);refine aP (ae ?_);exact⟨s0B.trans hX,.inr ⟨h1,first,hO,.inr ⟨hD,act,hA,.inr ⟨hfit,_,rfl,hov.is fun _ _ h=>h.is⟩⟩⟩⟩
end
end Go.Ev.Gl
