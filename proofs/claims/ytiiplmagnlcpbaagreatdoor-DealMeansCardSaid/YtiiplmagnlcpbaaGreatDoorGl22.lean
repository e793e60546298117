import Derived.Test.YtiiplmagnlcpbaaGreatDoorGl21
set_option linter.unusedSimpArgs false
set_option linter.unusedVariables false
open Nat renaming reduceEqDiff -> rE, reduceAdd -> rA
set_option maxHeartbeats 0
namespace Go.Ev.Gl
variable {fns:T dD}
noncomputable def aSA:AC:=qk3
structure SeI(X0:St)(fb eb N s:Nat)(p:bm)(F0:Fr)(fc lc:Nat->Nat)(t:Nat)(A:bN)(X:St):Prop where
 inr:A.inr=false
 nx:X0.nx<=X.nx
 keep:∀c,c<X0.nx->c≠fb->c≠eb->X.h.get c=X0.h.get c
 rows:∃fl el:bm,fl.length=N/\el.length=N/\X.h.get fb=some (.cells (bE fl) false 0)/\X.h.get eb=some (.cells (bE el) false 0)/\∀j,j<N->fl.getD j 0=((fc j+lK j (p.take t):Nat):Int)/\el.getD j 0=(((if fc j=0/\lK j (p.take t)≠0 then s else lc j):Nat):Int)
 tmps:∀i,i<18->aB i A.F=aB i F0
 t18:aB 18 A.F= .int .i64 (t:Int)
structure SeM(Y:St)(eb N s:Nat)(p:bm)(F0:Fr)(fc lc:Nat->Nat)(t:Nat)(A:bN)(Z:St):Prop where
 inr:A.inr=false
 nx:Y.nx<=Z.nx
 keep:∀e,e≠eb->Z.h.get e=Y.h.get e
 row:∃el':bm,el'.length=N/\Z.h.get eb=some (.cells (bE el') false 0)/\∀j,j<N->el'.getD j 0=(((if fc j=0/\lK j (p.take (t+1))≠0 then s else lc j):Nat):Int)
 tmps:∀i,i<18->aB i A.F=aB i F0
 t18:aB 18 A.F= .int .i64 (t:Int)
theorem aRR{X0:St}{F0 F:Fr}{gb fb eb N s:Nat}{g0 nv iv pv:AV}{p fl0 el0:bm}{fc lc:Nat->Nat}(p6:aB 6 F0= .ptr gb 0)(p10:aB 10 F0= .sl fb 0 N N false)(p11:aB 11 F0= .sl eb 0 N N false)(p13:aB 13 F0= .int .i64 (s:Int))(p14:aB 14 F0=pv)(hF:∀i,i<18->aB i F=aB i F0)(h18:aB 18 F= .int .i64 ((0:Nat):Int))
  (hgb:X0.h.get gb=some (.cells [g0,nv,iv] false 0)) (lgb:gb<X0.nx) (hlen:lB nv=some (.int .i64 ((N:Nat):Int))) (hself:cQ nv nv=true) (hp:cH .i64 X0 pv p) (hpb:∀c,bP pv=some c->c≠fb/\c≠eb) (hpr:∀j,j<p.length->0<=p.getD j 0/\p.getD j 0<(N:Int)) (hpl:p.length<=100000) (fe:fb≠eb) (gf:gb≠fb/\gb≠eb) (lf:fb<X0.nx) (le:eb<X0.nx) (hfc:∀j,j<N->fc j+lK j p<=1000000000000000) (hs:s<=1000000000000000)
  (n1:fl0.length=N) (n2:el0.length=N) (g1:X0.h.get fb=some (.cells (bE fl0) false 0)) (g2:X0.h.get eb=some (.cells (bE el0) false 0)) (h0:∀j,j<N->fl0.getD j 0=((fc j:Nat):Int)/\el0.getD j 0=((lc j:Nat):Int)):
  nD fns aSA ⟨F,false⟩ X0 fun o A X=>o= .normal/\SeI X0 fb eb N s p F0 fc lc p.length A X:=by
 unfold aSA;refine aQ (bX (fun k A X=>∃t,t+k=p.length/\SeI X0 fb eb N s p F0 fc lc t A X) ?_ p.length _ _ ⟨0,au,rfl,Af _,fun _ _ _ _=>rfl,⟨fl0,el0,n1,n2,g1,g2,fun j hj=>?_⟩,hF,h18⟩);rotate_left
 ·rw[Ha];have⟨a,b⟩:=h0 j hj;refine⟨by rw[a];rfl,?_⟩;rw[b,if_neg fun h=>h.2 rfl]
 rintro k ⟨F1,inr⟩ X ⟨t,htk,I⟩;obtain rfl:inr=false:=I.inr;have Tm:=I.tmps;have r18:=I.t18;have⟨fl,el,m1,m2,gf1,ge1,hj1⟩:=I.rows;have nX:=I.nx;have hk:=I.keep;simp only at Tm r18;have r6:=(Tm 6 au).trans p6;have r10:=(Tm 10 au).trans p10;have r11:=(Tm 11 au).trans p11;have r13:=(Tm 13 au).trans p13;have r14:=(Tm 14 au).trans p14;have hpX:cH .i64 X pv p:=mC hp nX fun c hc=>hk c (fP hp hc) (hpb c hc).1 (hpb c hc).2;have gX:=(hk gb lgb gf.1 gf.2).trans hgb;refine fA (di r18 r14 hp.len @Ak ?_);by_cases hlt:t<p.length;rotate_left
 ·refine aO (by simp only[↓sU,sD,rE,↓reduceIte,rA,Aa (show ¬ (t:Int)<(p.length:Int) by omega)]) (bS ?_);refine ae ?_;obtain rfl:t=p.length:=by omega
  exact⟨rfl,nX,hk,⟨fl,el,m1,m2,gf1,ge1,hj1⟩,fun i hi=>by simp only;(repeat rw[bF,if_neg au]);exact Tm i hi,ah r18⟩
 refine aP (by simp only[↓sU,sD,rE,↓reduceIte,rA,Ac (show(t:Int)<(p.length:Int) by omega)]) (aJ ?_);try refine ae ?_
 have w0:=dk t
 have⟨c1,c2⟩:=hpr t hlt;obtain⟨c,hc⟩:∃c:Nat,p.getD t 0=(c:Int):=⟨_,(Bu c1).symm⟩;rw[hc] at c1 c2;have hcN:c<N:=by omega
 have⟨bp,op,iap,lbp,ldp⟩:=cH.ptr' hpX hlt;rw[hc] at ldp;have svp:=cH.self hp;have hneg:=Aa (show ¬ (c:Int)<0 by omega);have hge:=Aa (show ¬ (c:Int)≥(N:Int) by omega);refine aE (aQ (aE (aE (uD (fun _=>False) ?_))));intro Y y hY nY;have nY:Y.nx=X.nx+15:=nY;have lgX:gb<X.nx:=by omega
 simp only[↓sU,sD,rE,↓reduceIte,rA,r14,r18,r6,aW,iap,ldp,hneg,hge,svp,hself,hlen,aD,aX,aC,mO gX,lbp,lgX,Am];refine aO (af) (aJ ?_);try refine ae ?_
 have gfY:Y.h.get fb=_:=(Hn (fun h=>h.get fb) hY).trans gf1;have geY:Y.h.get eb=_:=(Hn (fun h=>h.get eb) hY).trans ge1;have ldpY:dJ (.ptr bp op) false 1 Y.h=some (.int .i64 (c:Int)):=by rw[hY];exact ldp
 have ldf:=aJ0 gfY (p:=c) au;have hjc:=hj1 c hcN;have cnt1:=fun j=>aLQ (j:=j) hlt;have hle:lK c (p.take (t+1))<=lK c p:=by
  have e:lK c p=lK c (p.take (t+1))+lK c (p.drop (t+1)):=by rw[<-aEx,Dl]
  omega
 have hfc':=hfc c hcN;have hc1:=cnt1 c;rw[hc,if_pos rfl] at hc1;have wf:IntKind.i64.wrap (((fc c+lK c (p.take t):Nat):Int)+1)=((fc c+lK c (p.take (t+1)):Nat):Int):=by rw[wrap_i64 au au];omega
 rw[hjc.1] at ldf;refine aE (bG (Q:=fun o A' Z=>o= .normal/\SeM Y eb N s p F0 fc lc t A' Z) (aE (aM ?_)) ?_)
 ·refine dy r10 r14 r18 @aW iap ldpY (mR (b:=fb) (o:=false) hcN) ldf ?_;by_cases hz:((fc c+lK c (p.take t):Nat):Int)=0
  ·refine aP (by simp only[↓sU,sD,rE,↓reduceIte,rA,Ac hz]) (aM ?_);refine eh r11 r13 r14 r18 @aW iap ldpY (mR (b:=eb) (o:=false) hcN) ?_;refine fK (fun call=>by refine d7 @dW @cN ?_;exact aGl (S:=Y) geY au) ?_;refine ae ?_;refine⟨rfl,Af _,fun e he=>by simp only;rw[dq,if_neg he],⟨el.set c (s:Int),by rw[Cl,m2],fh,fun j hj=>?_⟩,fun i hi=>by simp only;(repeat rw[bF,if_neg au]);exact Tm i hi,ah r18⟩;rw[jA au];by_cases e:j=c
   ·subst e;rw[if_pos rfl,if_pos ⟨au,au⟩]
   ·rw[if_neg e,(hj1 j hj).2,cnt1 j,hc,if_neg (show ¬ (c:Int)=(j:Int) by omega),Bm]
  ·refine aO (by simp only[↓sU,sD,rE,↓reduceIte,rA,Aa hz]) (aJ ?_);refine ae ?_;refine⟨rfl,Af _,fun _ _=>rfl,⟨el,m2,geY,fun j hj=>?_⟩,fun i hi=>by simp only;(repeat rw[bF,if_neg au]);exact Tm i hi,ah r18⟩;rw[(hj1 j hj).2];by_cases e:j=c
   ·subst e;by_cases h1:fc j=0
    ·rw[if_pos ⟨h1,au⟩,if_pos ⟨h1,au⟩]
    ·rw[if_neg fun h=>h1 h.1,if_neg fun h=>h1 h.1]
   ·rw[cnt1 j,hc,if_neg (show ¬ (c:Int)=(j:Int) by omega),Bm]
 rintro o ⟨F2,inr⟩ Z ⟨rfl,I2⟩;obtain rfl:inr=false:=I2.inr;have⟨el',m2',geZ,hj2⟩:=I2.row;have nZ:=I2.nx;have hkZ:=I2.keep;have T2:=I2.tmps;have r18':=I2.t18;simp only at T2 r18';have u10:=(T2 10 au).trans p10;have u14:=(T2 14 au).trans p14;have hpZ:cH .i64 Z pv p:=mC hpX au fun e he=>(hkZ e (hpb e he).2).trans (Hn (fun h=>h.get e) hY);have⟨bp2,op2,iap2,lbp2,ldp2⟩:=cH.ptr' hpZ hlt;rw[hc] at ldp2;have gfZ:=(hkZ fb fe).trans gfY;have ldf2:=aJ0 gfZ (p:=c) au;rw[hjc.1] at ldf2;try refine ae ?_
 refine aM ?_;simp only[↓stU,aG,rE,↓reduceIte,rA,u10,u14,r18',aW,iap2,ldp2,mR (b:=fb) (o:=false) hcN,ldf2,wf];refine fK (fun call=>by refine d7 @dW @cN ?_;exact aGl (S:=Z) gfZ au) ?_;refine ae ?_;refine aM (c9 r18' w0 ?_);refine⟨k - 1,au,t+1,au,rfl,by show X0.nx<=Z.nx;omega,fun e h1 h2 h3=>?_,⟨fl.set c ((fc c+lK c (p.take (t+1)):Nat):Int),el',by rw[Cl,m1],m2',fh,by simp only;rw[dq,if_neg (Dy fe)];exact geZ,fun j hj=>⟨?_,hj2 j hj⟩⟩,fun i hi=>by simp only;(repeat rw[bF,if_neg au]);exact T2 i hi,af⟩
 ·simp only;rw[dq,if_neg h2,hkZ e h3];exact(Hn (fun h=>h.get e) hY).trans (hk e h1 h2 h3)
 ·rw[jA au];by_cases e:j=c
  ·rw[if_pos e,e]
  ·rw[if_neg e,(hj1 j hj).1,cnt1 j,hc,if_neg (show ¬ (c:Int)=(j:Int) by omega),Bm]
noncomputable def aSl:AC:=qk0
noncomputable def aQG:List AO:=[mt 147 12,
mt 148 19,
mt 149 12,
mt 150 19,
om 151 12 (.cq (.slice 1) (.t 149) (.t 150)),
om 152 28 (ld 151),
mt 153 16,
mt 154 19,
om 155 192 (.cq (.slice 1) (.t 153) (.t 154)),
om 156 448 (ld 155),
om 157 1020 (bi .add (.t 152) (.t 156)),
om 158 2047 (.cq (.slice 1) (.t 147) (.t 148))]
noncomputable def aOG:AC:=qk7
structure SuI(X0:St)(sb n:Nat)(q:bm)(F0:Fr)(pc:Nat->Int)(t:Nat)(A:bN)(X:St):Prop where
 inr:A.inr=false
 nx:X0.nx<=X.nx
 keep:∀c,c<X0.nx->c≠sb->X.h.get c=X0.h.get c
 rows:∃sl:bm,sl.length=n/\X.h.get sb=some (.cells (bE sl) false 0)/\∀j,j<n->sl.getD j 0=if j<t then pc j+q.getD j 0 else pc j
 tmps:∀i,i<19->aB i A.F=aB i F0
 t19:aB 19 A.F= .int .i64 (t:Int)
theorem aRW{X0:St}{F0 F:Fr}{gb sb n:Nat}{nv iv qv:AV}{q sl0:bm}{pc:Nat->Int}(p6:aB 6 F0= .ptr gb 0)(p12:aB 12 F0= .sl sb 0 n n false)(p16:aB 16 F0=qv)(hF:∀i,i<19->aB i F=aB i F0)(h19:aB 19 F= .int .i64 ((0:Nat):Int))
  (hgb:X0.h.get gb=some (.cells [.int .i64 (n:Int),nv,iv] false 0)) (lgb:gb<X0.nx) (hq:cH .i64 X0 qv q) (hqb:∀c,bP qv=some c->c≠sb) (hql:q.length=n) (hqr:∀j,j<n-> -1000000<=q.getD j 0/\q.getD j 0<=1000000) (gs:gb≠sb) (ls:sb<X0.nx) (hpc:∀j,j<n-> -1000000000000<=pc j/\pc j<=1000000000000) (hn:n<=1000)
  (n1:sl0.length=n) (g1:X0.h.get sb=some (.cells (bE sl0) false 0)) (h0:∀j,j<n->sl0.getD j 0=pc j):
  nD fns aSl ⟨F,false⟩ X0 fun o A X=>o= .normal/\SuI X0 sb n q F0 pc n A X:=by
 unfold aSl;refine aQ (bX (fun k A X=>∃t,t+k=n/\SuI X0 sb n q F0 pc t A X) ?_ n _ _ ⟨0,au,rfl,Af _,fun _ _ _=>rfl,⟨sl0,n1,g1,fun j hj=>by rw[if_neg au];exact h0 j hj⟩,hF,h19⟩);rintro k ⟨F1,inr⟩ X ⟨t,htk,I⟩;obtain rfl:inr=false:=I.inr;have Tm:=I.tmps;have r19:=I.t19;have⟨sl,m1,gs1,hj1⟩:=I.rows;have nX:=I.nx;have hk:=I.keep;simp only at Tm r19;have r6:=(Tm 6 au).trans p6;have r12:=(Tm 12 au).trans p12;have r16:=(Tm 16 au).trans p16;have hqX:cH .i64 X qv q:=mC hq nX fun c hc=>hk c (fP hq hc) (hqb c hc);have gX:=(hk gb lgb gs).trans hgb;refine fA (du r19 r6 @aD @aC (wQ gX) ?_);by_cases hlt:t<n;rotate_left
 ·refine aO (by simp only[↓sU,sD,rE,↓reduceIte,rA,Aa (show ¬ (t:Int)<(n:Int) by omega)]) (bS ?_);refine ae ?_;obtain rfl:t=n:=by omega
  exact⟨rfl,nX,hk,⟨sl,m1,gs1,hj1⟩,fun i hi=>by simp only;(repeat rw[bF,if_neg au]);exact Tm i hi,ah r19⟩
 refine aP (by simp only[↓sU,sD,rE,↓reduceIte,rA,Ac (show(t:Int)<(n:Int) by omega)]) (aJ ?_);try refine ae ?_
 have w0:=dk t
 have⟨bq,oq,iaq,lbq,ldq⟩:=cH.ptr' hqX (show t<q.length by omega);have lds:=aJ0 gs1 (p:=t) au;have hst:sl.getD t 0=pc t:=by rw[hj1 t hlt,if_neg au]
 rw[hst] at lds;have b1:=hqr t hlt;have b2:=hpc t hlt;have ws:IntKind.i64.wrap (pc t+q.getD t 0)=pc t+q.getD t 0:=wrap_i64 au au;refine aE (aQ ?_);refine uC (pre:=aQG) (K:=12) (m:=4095) (n:=1) (x:=.t 158) (v:=.t 157) rfl rfl rfl rfl ?_;unfold aQG;simp only[↓stU,aG,rE,↓reduceIte,rA,r12,r16,r19,aW,mR (b:=sb) (o:=false) hlt,lds,iaq,ldq,ws];simp only[cN,aH];refine⟨_,aGl (S:=⟨X.h,X.nx+13⟩) gs1 au,?_⟩;try refine ae ?_
 refine aM (c9 r19 w0 ?_);refine⟨k - 1,au,t+1,au,rfl,by show X0.nx<=X.nx+13;omega,fun c h1 h2=>?_,⟨sl.set t (pc t+q.getD t 0),by rw[Cl,m1],fh,fun j hj=>?_⟩,fun i hi=>by simp only;(repeat rw[bF,if_neg au]);exact Tm i hi,af⟩
 ·simp only;rw[dq,if_neg h2];exact hk c h1 h2
 ·rw[jA au];by_cases e:j=t
  ·rw[if_pos e,e,if_pos au]
  ·rw[if_neg e,hj1 j hj];by_cases h:j<t
   ·rw[if_pos h,if_pos au]
   ·rw[if_neg h,if_neg au]
structure SdI(X0:St)(fb eb sb n:Nat)(g:bD)(ch:bm)(F0:Fr)(s:Nat)(A:bN)(X:St):Prop where
 inr:A.inr=false
 same:Same X0 X
 lf:fb<X.nx
 le:eb<X.nx
 ls:sb<X.nx
 rows:∃fl el sl:bm,fl.length=g.bw.length/\el.length=g.bw.length/\sl.length=n/\X.h.get fb=some (.cells (bE fl) false 0)/\X.h.get eb=some (.cells (bE el) false 0)/\X.h.get sb=some (.cells (bE sl) false 0)/\(∀j,j<g.bw.length->fl.getD j 0=((tN g ch j s:Nat):Int)/\el.getD j 0=((aEU g ch j s:Nat):Int))/\∀p,p<n->sl.getD p 0=aBd g ch p s
 tmps:∀i,i<13->aB i A.F=aB i F0
 t13:aB 13 A.F= .int .i64 (s:Int)
structure SdM(X0 X:St)(fb eb sb n:Nat)(g:bD)(ch:bm)(F0:Fr)(s:Nat)(A:bN)(Z:St):Prop where
 inr:A.inr=false
 same:Same X0 Z
 nx:X.nx<=Z.nx
 rows:∃fl el sl:bm,fl.length=g.bw.length/\el.length=g.bw.length/\sl.length=n/\Z.h.get fb=some (.cells (bE fl) false 0)/\Z.h.get eb=some (.cells (bE el) false 0)/\Z.h.get sb=some (.cells (bE sl) false 0)/\(∀j,j<g.bw.length->fl.getD j 0=((tN g ch j (s+1):Nat):Int)/\el.getD j 0=((aEU g ch j (s+1):Nat):Int))/\∀p,p<n->sl.getD p 0=aBd g ch p (s+1)
 tmps:∀i,i<13->aB i A.F=aB i F0
 t13:aB 13 A.F= .int .i64 (s:Int)
theorem aL7{g:bD}{ch:bm}{pr:Nat->Nat}{z s:Nat}{cn ls pl:Nat->Int}(hR:kN g ch pr=0)(M:wO g ch pr z cn ls pl)(hs:s<z):lM g ch pr (s:Int)=0:=by
 unfold lM;have:=M.R.eN;rw[if_neg (fun h=>h hR),if_neg au]
theorem aN6{X0 X1:St}{F0 F:Fr}{gb fb eb sb n z:Nat}{nv iv cv:AV}{g:bD}{ch:bm}{pr:Nat->Nat}{cn ls pl:Nat->Int}(H:Has fns)(M:wO g ch pr z cn ls pl)(hR:kN g ch pr=0)(hz:z<=1000000)(hnp:g.b9=(n:Int))(p6:aB 6 F0= .ptr gb 0)(p7:aB 7 F0=cv)(p8:aB 8 F0= .int .i64 (z:Int))(p10:aB 10 F0= .sl fb 0 g.bw.length g.bw.length false)(p11:aB 11 F0= .sl eb 0 g.bw.length g.bw.length false)(p12:aB 12 F0= .sl sb 0 n n false)
  (hgb:X0.h.get gb=some (.cells [.int .i64 g.b9,nv,iv] false 0)) (lgb:gb<X0.nx) (hn:bH 6 dC X0 nv g.bw) (hi:bH 2 fO X0 iv g.bz) (hc:cH .i64 X0 cv ch) (hcl:ch.length<=10000000) (a1:X0.nx<=fb) (a2:X0.nx<=eb) (a3:X0.nx<=sb) (d1:fb≠eb) (d2:fb≠sb) (d3:eb≠sb) (I0:SdI X0 fb eb sb n g ch F0 0 ⟨F,false⟩ X1):
  nD fns aOG ⟨F,false⟩ X1 fun o A X=>o= .normal/\SdI X0 fb eb sb n g ch F0 z A X:=by
 unfold aOG;have G:=M.R.G;have hN:=G.good.n2;have hpr:=fun(_:eO g=0)=>M.R.P;refine aQ (bX (fun k A X=>∃s,s+k=z/\SdI X0 fb eb sb n g ch F0 s A X) ?_ z _ _ ⟨0,au,I0⟩);clear I0;rintro k ⟨F1,inr⟩ X ⟨s,hsk,I⟩;obtain rfl:inr=false:=I.inr;have Tm:=I.tmps;have r13:=I.t13;have⟨fl,el,sl,m1,m2,m3,gf,ge,gs,hj1,hj2⟩:=I.rows;have lf:=I.lf;have le:=I.le;have ls':=I.ls;have sX:=I.same;simp only at Tm r13;have r6:=(Tm 6 au).trans p6;have r7:=(Tm 7 au).trans p7;have r8:=(Tm 8 au).trans p8;have r10:=(Tm 10 au).trans p10;have r11:=(Tm 11 au).trans p11;have r12:=(Tm 12 au).trans p12;have gX:=(sX.2 _ lgb).trans hgb;refine fA (c9 r13 r8 ?_);by_cases hlt:s<z;rotate_left
 ·refine aO (by simp only[↓sU,sD,rE,↓reduceIte,rA,Aa (show ¬ (s:Int)<(z:Int) by omega)]) (bS ?_);refine ae ?_;obtain rfl:s=z:=by omega
  exact⟨rfl,sX,lf,le,ls',⟨fl,el,sl,m1,m2,m3,gf,ge,gs,hj1,hj2⟩,fun i hi=>by simp only;(repeat rw[bF,if_neg au]);exact Tm i hi,ah r13⟩
 refine aP (by simp only[↓sU,sD,rE,↓reduceIte,rA,Ac (show(s:Int)<(z:Int) by omega)]) (aJ ?_);try refine ae ?_
 have w0:=dk s
 have hE:=aL7 hR M hlt;have gn:=fun {Y} (h:Same X0 Y)=>bH.same (E:=dC) cR hn h;have gi:=fun {Y} (h:Same X0 Y)=>bH.same (E:=fO) fC hi h;refine aE (bG (Q:=fun o A' Z=>o= .normal/\SdM X0 X fb eb sb n g ch F0 s A' Z) (aQ (aE (aM ?_))) ?_);rotate_left
 ·rintro o ⟨F2,inr⟩ Z ⟨rfl,I2⟩;obtain rfl:inr=false:=I2.inr;have sZ:=I2.same;have nZ:=I2.nx;have hrows:=I2.rows;have T2:=I2.tmps;have u13:=I2.t13;simp only at T2 u13;try refine ae ?_
  refine aM (c9 u13 w0 ?_);exact⟨k - 1,au,s+1,au,rfl,sZ,au,au,au,hrows,fun i hi=>by simp only;(repeat rw[bF,if_neg au]);exact T2 i hi,af⟩
 refine di r6 r7 r13 (jT gX) ?_;refine aL (ae ?_);refine aF (aJz (pr:=pr) H (gn sX) (gi sX) (hc.same sX) au hcl au hpr) ?_;rintro _ Y ⟨⟨hY,pv,rfl, -,hpv⟩,hpf⟩;rw[hE];have hpv:=hpv hE;have⟨_,he,hp1,hp2,hpa,_⟩:=aC3 (s:=(s:Int)) H (hc.same sX) hE;rw[he] at hpv;have hpf:=fun c (hc:bP pv=some c)=>hpf pv _ c rfl hc;have sY:=sX.trans hY;have gY:=(sY.2 _ lgb).trans hgb;refine c9 @tU @tP ?_;refine bK (di r6 r7 r13 (jT gY) ?_);refine aL (ae ?_);refine aF (aLZ (pr:=pr) H (gn sY) (gi sY) (hc.same sY) au hcl au hpr) ?_;rintro _ Z ⟨⟨hZ,qv,rfl, -,hqv⟩,hqf⟩;rw[hE];have hqv:=hqv hE;have hqf:=fun c (hc:bP qv=some c)=>hqf qv _ c rfl hc;have sZ:=sY.trans hZ;have hYZ:=hY.trans hZ;have gZ:=(sZ.2 _ lgb).trans hgb;have nXY:=hY.1;have nYZ:=hZ.1;have⟨e,e1,e2,e3,e4⟩:=aDm G M.fit s;have hql:(aAa g ch (s:Int)).length=n:=by
  have:=G.pay e e1 e2;rw[e3];omega
 have hpZ:=hpv.same hZ;have hpl:=hpv.len;have hqlen:=hqv.len;refine c9 @tU @tP ?_;have nn:=Aa (show ¬ (0:Int)≠0 from fun h=>h rfl);have np:=Aa (show ¬ (((aAa g ch (s:Int)).length:Nat):Int)≠g.b9 by omega);have nl:=Aa (show ¬ (((gR g ch (s:Int)).length:Nat):Int)=0 by omega);refine fA ?_;simp only[↓sU,sD,rE,↓reduceIte,rA,nn,hqlen,hpl,Ak,r6,aD,aC,wQ gZ,np,nl];refine aO (af) (aJ ?_);try refine ae ?_
 refine fA (ae ?_);have hnZ:=gn sZ;have hfc:∀j,j<g.bw.length->tN g ch j s+lK j (gR g ch (s:Int))<=1000000000000000:=fun j hj=>by
  have h1:=aE6 (g:=g) (ch:=ch) (j:=j) (s:=s+1) (t:=z) au;rw[tI] at h1;have h2:=M.fnd hj;have h3:=(M.R.cb j hj).2;omega
 have kfb:fb<Z.nx:=by omega
 have keb:eb<Z.nx:=by omega
 have ksb:sb<Z.nx:=by omega
 have kgb:gb<Z.nx:=by have:=sX.1;omega
 have nX0:=sX.1;refine bG (aRR (gb:=gb) (fb:=fb) (eb:=eb) (N:=g.bw.length) (s:=s) (p:=gR g ch (s:Int)) (pv:=pv) (fc:=fun j=>tN g ch j s) (lc:=fun j=>aEU g ch j s) (fl0:=fl) (el0:=el) (ah r6) (ah r10) (ah r11) (ah r13) (af) (fun i hi=>rfl) (ag) gZ kgb hnZ.len (bH.self hnZ) hpZ (fun c hc=>by have:=hpf c hc;omega) hpa hp2 d1 ⟨au,au⟩ kfb keb hfc au m1 m2 ((hYZ.2 _ lf).trans gf) ((hYZ.2 _ le).trans ge) hj1) ?_;rintro o ⟨F3,inr⟩ V ⟨rfl,I2⟩;obtain rfl:inr=false:=I2.inr;have T3:=I2.tmps;have⟨fl',el',m1',m2',gf',ge',hj'⟩:=I2.rows;have nV:=I2.nx;have kV:=I2.keep;simp only at T3;have u6:aB 6 F3= .ptr gb 0:=by rw[T3 6 au];simp only[↓sU,sD,rE,↓reduceIte,rA,r6]
 have u12:aB 12 F3= .sl sb 0 n n false:=by rw[T3 12 au];simp only[↓sU,sD,rE,↓reduceIte,rA,r12]
 have u16:aB 16 F3=qv:=by rw[T3 16 au];simp only[↓sU,sD,rE,↓reduceIte,rA]
 have uT:∀i,i<14->aB i F3=aB i F1:=fun i hi=>by
  rw[T3 i au]
  repeat (rw[bF,if_neg au])
 clear T3;have gV:=(kV gb kgb au au).trans gZ;rw[hnp] at gV;have hqV:cH .i64 V qv (aAa g ch (s:Int)):=mC hqv nV fun c hc=>kV c (fP hqv hc) (by have:=hqf c hc;omega) (by have:=hqf c hc;omega);have hpcb:=fun(p:Nat)=>aK8 (p:=p) G M.R.pay M.fit s;have hn4:=G.prs;try refine ae ?_
 refine bK (ae ?_);refine bG (aRW (gb:=gb) (sb:=sb) (n:=n) (q:=aAa g ch (s:Int)) (qv:=qv) (pc:=fun p=>aBd g ch p s) (sl0:=sl) (ah u6) (ah u12) (ah u16) (fun i hi=>rfl) (ag) gV au hqV (fun c hc=>by have:=hqf c hc;omega) hql (fun j hj=>aKt G M.R.pay M.fit) au au  (fun j hj=>by have:=hpcb j;omega) au m3 ((kV sb ksb (Dy d2) (Dy d3)).trans ((hYZ.2 _ ls').trans gs)) hj2) ?_;rintro o ⟨F4,inr⟩ W ⟨rfl,I3⟩;obtain rfl:inr=false:=I3.inr;have T4:=I3.tmps;have⟨sl',m3',gs',hs'⟩:=I3.rows;have nW:=I3.nx;have kW:=I3.keep;simp only at T4;refine⟨rfl,rfl,⟨au,fun c hc=>?_⟩,au,⟨fl',el',sl',m1',m2',m3',?_,?_,gs',fun j hj=>?_,fun p hp=>?_⟩,fun i hi=>?_,?_⟩
 ·rw[kW c au au,kV c au au au];exact sZ.2 c hc
 ·rw[kW fb au d2];exact gf'
 ·rw[kW eb au d3];exact ge'
 ·have⟨a,b⟩:=hj' j hj;rw[Fk] at a b;exact⟨a,b⟩
 ·rw[hs' p hp,if_pos hp];rfl
 ·simp only;rw[T4 i au]
  repeat (rw[bF,if_neg au])
  rw[uT i au];exact Tm i hi
 ·simp only;rw[T4 13 au];refine ae ?_;rw[uT 13 au];exact r13
noncomputable def aR7:AC:=qk1
noncomputable def aSU:AC:=qk5
theorem aRc{a:Int}{z:Nat}:mkRat a z=(a:Rat) * (((z:Nat):Int):Rat)⁻¹ :=by
 rw[Rat.mkRat_eq_div,Rat.div_def,Rat.intCast_natCast]
structure MkI(X0:St)(m:Nat)(F0:Fr)(t:Nat)(A:bN)(X:St):Prop where
 inr:A.inr=false
 same:Same X0 X
 tmps:∀i,i<m->aB i A.F=aB i F0
 tm:aB m A.F= .int .i64 (t:Int)
theorem aQZ{X0 X1:St}{F0 F:Fr}{gb sb n z:Nat}{nv iv mv:AV}{sl:bm}{f:Nat->Rat}{s:Nat->Int}(H:Has fns)(p6:aB 6 F0= .ptr gb 0)(p8:aB 8 F0= .int .i64 (z:Int))(p12:aB 12 F0= .sl sb 0 n n false)(p20:aB 20 F0=mv)
  (hgb:X0.h.get gb=some (.cells [.int .i64 (n:Int),nv,iv] false 0)) (lgb:gb<X0.nx) (gs:X0.h.get sb=some (.cells (bE sl) false 0)) (lsb:sb<X0.nx) (m1:sl.length=n) (hs:∀p,p<n->sl.getD p 0=s p) (hsb:∀p,p<n-> -1000000000000<=s p/\s p<=1000000000000) (hm:bH 3 aLd X0 mv ((List.range n).map f)) (hf:∀p,aFC (f p)) (hq:∀p,p<n->f p=(s p:Rat) * (((z:Nat):Int):Rat)⁻¹) (hz:0<z) (hz2:z<=1000000) (hn:n<=1000) (I0:MkI X0 21 F0 0 ⟨F,false⟩ X1):
  nD fns aR7 ⟨F,false⟩ X1 fun o A X=>o= .normal/\MkI X0 21 F0 n A X:=by
 unfold aR7;refine aQ (bX (fun k A X=>∃t,t+k=n/\MkI X0 21 F0 t A X) ?_ n _ _ ⟨0,au,I0⟩);clear I0;rintro k ⟨F1,inr⟩ X ⟨t,htk,I⟩;obtain rfl:inr=false:=I.inr;have Tm:=I.tmps;have r21:=I.tm;have sX:=I.same;simp only at Tm r21;have r6:=(Tm 6 au).trans p6;have r8:=(Tm 8 au).trans p8;have r12:=(Tm 12 au).trans p12;have r20:=(Tm 20 au).trans p20;have gX:=(sX.2 _ lgb).trans hgb;refine fA (du r21 r6 @aD @aC (wQ gX) ?_);by_cases hlt:t<n;rotate_left
 ·refine aO (by simp only[↓sU,sD,rE,↓reduceIte,rA,Aa (show ¬ (t:Int)<(n:Int) by omega)]) (bS ?_);refine ae ?_;obtain rfl:t=n:=by omega
  exact⟨rfl,sX,fun i hi=>by simp only;(repeat rw[bF,if_neg au]);exact Tm i hi,ah r21⟩
 refine aP (by simp only[↓sU,sD,rE,↓reduceIte,rA,Ac (show(t:Int)<(n:Int) by omega)]) (aJ ?_);try refine ae ?_
 have w0:=dk t
 have hmX:=bH.same (E:=aLd) aNh hm sX;have hget:((List.range n).map f)[t]? =some (f t):=by rw[Bz,Ge hlt];rfl
 have⟨ea,ba,qa,ia,la,na,ra,da,_⟩:=bH.at hmX ay hget;have ra:cE X (.agg ea) (f t):=ra;have⟨a0,a1,a2,e1⟩:=ra.cells;rw[e1] at ra da;have sra:=yL ra;have svm:=bH.self hm;have gsX:=(sX.2 _ lsb).trans gs;have lds:=aJ0 gsX (p:=t) au;rw[hs t hlt] at lds;have lsX:=Ag lsb sX.1;have bs:=hsb t hlt;refine aE (aQ (aE (fJ (fun _=>False) ?_)));intro X2 x2;simp only[↓sU,sD,rE,↓reduceIte,rA,r20,r21,r12,r8,aW,ia,da,sra,svm,la,mR (b:=sb) (o:=false) hlt,lds,lsX,Am];refine cF rfl ?_;try refine ae ?_
 refine aF (aJX (a:=s t) (b:=z) H au hz au) ?_;rintro v3 X3 ⟨h3,x3⟩;refine⟨x3,?_⟩;rw[aRc,<-hq t hlt] at h3;try refine ae ?_
 refine cF rfl ?_;try refine ae ?_
 refine aF (aG2 H (ra.same (x2.trans x3)) h3 (hf t)) ?_;rintro _ X4 ⟨rfl,x4⟩;refine⟨x4,?_⟩;rw[Ac rfl];simp only[↓sU,sD,rE,↓reduceIte,rA,uX,Bool.not_true];refine aO (af) (aJ ?_);try refine ae ?_
 refine aM (c9 r21 w0 ?_);exact⟨k - 1,au,t+1,au,rfl,sX.trans (x2.trans (x3.trans x4)),fun i hi=>by simp only;(repeat rw[bF,if_neg au]);exact Tm i hi,af⟩
theorem aRo{X0 X1:St}{F0 F:Fr}{gb fb eb z:Nat}{nv iv cv:AV}{fl el:bm}{g:bD}{ch:bm}{pr:Nat->Nat}{cn ls pl:Nat->Int}(H:Has fns)(M:wO g ch pr z cn ls pl)(hR:kN g ch pr=0)(p6:aB 6 F0= .ptr gb 0)(p7:aB 7 F0=cv)(p10:aB 10 F0= .sl fb 0 g.bw.length g.bw.length false)(p11:aB 11 F0= .sl eb 0 g.bw.length g.bw.length false)
  (hgb:X0.h.get gb=some (.cells [.int .i64 g.b9,nv,iv] false 0)) (lgb:gb<X0.nx) (hn:bH 6 dC X0 nv g.bw) (hi:bH 2 fO X0 iv g.bz) (hc:cH .i64 X0 cv ch) (hcl:ch.length<=10000000) (gf:X0.h.get fb=some (.cells (bE fl) false 0)) (lf:fb<X0.nx) (ge:X0.h.get eb=some (.cells (bE el) false 0)) (le:eb<X0.nx) (m1:fl.length=g.bw.length) (m2:el.length=g.bw.length) (hfl:∀j,j<g.bw.length->fl.getD j 0=((tN g ch j z:Nat):Int)/\el.getD j 0=((aEU g ch j z:Nat):Int)) (I0:MkI X0 22 F0 0 ⟨F,false⟩ X1):
  nD fns aSU ⟨F,false⟩ X1 fun o A X=>o= .normal/\MkI X0 22 F0 g.bw.length A X:=by
 unfold aSU;have G:=M.R.G;have hN:=G.good.n2;have hpr:=fun(_:eO g=0)=>M.R.P;refine aQ (bX (fun k A X=>∃t,t+k=g.bw.length/\MkI X0 22 F0 t A X) ?_ g.bw.length _ _ ⟨0,au,I0⟩);clear I0;rintro k ⟨F1,inr⟩ X ⟨t,htk,I⟩;obtain rfl:inr=false:=I.inr;have Tm:=I.tmps;have r22:=I.tm;have sX:=I.same;simp only at Tm r22;have r6:=(Tm 6 au).trans p6;have r7:=(Tm 7 au).trans p7;have r10:=(Tm 10 au).trans p10;have r11:=(Tm 11 au).trans p11;have gX:=(sX.2 _ lgb).trans hgb;have hnX:=bH.same (E:=dC) cR hn sX;refine fA (dx r22 r6 @aD @aC (mO gX) hnX.len @Ak ?_);by_cases hlt:t<g.bw.length;rotate_left
 ·refine aO (by simp only[↓sU,sD,rE,↓reduceIte,rA,Aa (show ¬ (t:Int)<(g.bw.length:Int) by omega)]) (bS ?_);refine ae ?_;obtain rfl:t=g.bw.length:=by omega
  exact⟨rfl,sX,fun i hi=>by simp only;(repeat rw[bF,if_neg au]);exact Tm i hi,ah r22⟩
 refine aP (by simp only[↓sU,sD,rE,↓reduceIte,rA,Ac (show(t:Int)<(g.bw.length:Int) by omega)]) (aJ ?_);try refine ae ?_
 have w0:=dk t
 have hiX:=bH.same (E:=fO) fC hi sX;have hcX:=hc.same sX;have he0:=aK0 (pr:=pr) hR hlt;refine aE (aQ (aE (aM ?_)));refine di r6 r7 r22 (jT gX) ?_;refine aL (ae ?_);refine aF (aCA (pr:=pr) (j:=(t:Int)) H hnX hiX hcX au hcl hpr) ?_;rintro r1 Y ⟨hY,h1⟩;have e1:=aJr.uni aP0 (.inr ⟨he0,(z:Int),cn,ls,pl,M.R,rfl⟩) h1;subst e1;have sY:=sX.trans hY;have gY:=(sY.2 _ lgb).trans hgb;refine c9 @tU @tP ?_;refine bK (di r6 r7 r22 (jT gY) ?_);refine aL (ae ?_);refine aF (aIq (pr:=pr) (j:=(t:Int)) H (bH.same (E:=dC) cR hn sY) (bH.same (E:=fO) fC hi sY) (hc.same sY) au hcl hpr) ?_;rintro r2 Z ⟨hZ,h2⟩;have e2:=aJr.uni aP3 (.inr ⟨he0,(z:Int),cn,ls,pl,M.R,rfl⟩) h2;subst e2;have sZ:=sY.trans hZ;have gfZ:=(sZ.2 _ lf).trans gf;have geZ:=(sZ.2 _ le).trans ge;have ldf:=aJ0 gfZ (p:=t) au;have lde:=aJ0 geZ (p:=t) au;have⟨q1,q2⟩:=hfl t hlt;have hfn:=M.fnd hlt;rw[q1,hfn] at ldf;rw[q2] at lde;have hc0:=(M.R.cb t hlt).1;have nn:∀x:Int,decide (x≠x)=false:=fun x=>Aa fun h=>h rfl;refine dh @tU @tP @Bd ?_;refine bK ?_;by_cases hz:cn t=0
 ·have hlv:aEO t cn ls=(0,18):=by unfold aEO;rw[if_pos hz]
  have hg:=Aa (show ¬cn t>0 by omega);simp only[↓sU,sD,rE,↓reduceIte,rA,hlv,nn,r10,r22,aW,mR (b:=fb) (o:=false) hlt,ldf,hg,Ac hz];refine aO (af) (aJ ?_);try refine ae ?_
  refine aM (c9 r22 w0 ?_);exact⟨k - 1,au,t+1,au,rfl,sZ,fun i hi=>by simp only;(repeat rw[bF,if_neg au]);exact Tm i hi,af⟩
 ·have hlv:aEO t cn ls=(ls t,0):=by unfold aEO;rw[if_neg hz]
  rw[M.lea hlt hz] at lde;have hg:=Ac (show cn t>0 by omega);simp only[↓sU,sD,rE,↓reduceIte,rA,hlv,nn,r10,r11,r22,aW,mR (b:=fb) (o:=false) hlt,mR (b:=eb) (o:=false) hlt,ldf,lde,hg,Aa hz];refine aO (af) (aJ ?_);try refine ae ?_
  refine aM (c9 r22 w0 ?_);exact⟨k - 1,au,t+1,au,rfl,sZ,fun i hi=>by simp only;(repeat rw[bF,if_neg au]);exact Tm i hi,af⟩
theorem aRV.get{g:bD}{ch:bm}{pr:Nat->Nat}{sz:Int}{cn ls pl:Nat->Int}{S:St}{r:AV}(h:aRV g ch pr S r)(hR:kN g ch pr=0)(R:wW g ch pr sz cn ls pl):∃v,r= .tup [v,.int .i64 0]/\bH 3 aLd S v ((List.range g.b9.toNat).map (aAS g cn sz)):=by
 rcases h with⟨h1, -⟩ | ⟨-,sz',cn',ls',pl',v,R',rfl,hv⟩
 ·exact absurd hR h1
 ·have⟨u1,u2⟩:=R.uni R';have e:aAS g cn' sz'=aAS g cn sz:=by
   funext p;unfold aAS;rw[u1,xF fun j hj=>(u2 j hj).1]
  rw[e] at hv;exact⟨v,rfl,hv⟩
structure MsM(X:St)(gb fb eb sb n z:Nat)(cv:AV)(g:bD)(ch:bm)(A:bN)(V:St):Prop where
 inr:A.inr=false
 same:Same X V
 fr:lS V
 lf:fb<V.nx
 le:eb<V.nx
 ls:sb<V.nx
 rows:∃fl el sl:bm,fl.length=g.bw.length/\el.length=g.bw.length/\sl.length=n/\V.h.get fb=some (.cells (bE fl) false 0)/\V.h.get eb=some (.cells (bE el) false 0)/\V.h.get sb=some (.cells (bE sl) false 0)/\(∀j,j<g.bw.length->fl.getD j 0=((tN g ch j z:Nat):Int)/\el.getD j 0=((aEU g ch j z:Nat):Int))/\∀p,p<n->sl.getD p 0=aBd g ch p z
 t6:aB 6 A.F= .ptr gb 0
 t7:aB 7 A.F=cv
 t8:aB 8 A.F= .int .i64 (z:Int)
 t10:aB 10 A.F= .sl fb 0 g.bw.length g.bw.length false
 t11:aB 11 A.F= .sl eb 0 g.bw.length g.bw.length false
 t12:aB 12 A.F= .sl sb 0 n n false
theorem aJd{S:St}{lv:AV}{dl:bm}{b9:Int}(H:Has fns)(hAw:∀X,Same S X->eT fns (.fn 7 [] []) [] X fun r S'=>r= .bool true/\Same X S')(hL:Laid S)(hF:lS S)(hl:cH .i64 S lv dl)(hlb:dl.length<=140737488355328):
  eT fns (.fn 5 [] []) [lv,.int .i64 b9] S fun r S'=>r= .bool true/\Same S S':=by
 have hlc:=cH.cells hl;refine bL H.f5 (by simp) ?_;refine ae ?_;refine bK (ae ?_);have hbd1:=fun(F:Fr) (h:Ev.T AB) (a:aB 27 F=lv)=>aS3 (t:=27) (F:=F) (h:=h) a hlc;refine bK (dz hbd1 ?_);refine qW (cs:=[lv,.int .i64 0]) (by refine ap ?_;exact aS _) ?_;intro S1 s1 n1 g1 f1;refine ap ?_;refine bK (ap ?_);refine aL (ap ?_);refine aF (jN (aFy H (x:=b9) (n:=3) ay ay)) ?_;rintro _ S2 ⟨⟨s2,y,rfl,y1,y2⟩,f2⟩;have wy:IntKind.i64.wrap (1+y)=1+y:=wrap_i64 au au;refine dz wy ?_;refine aL (ap ?_);refine aF (jN (aIo H (hl.same (s1.trans s2)) hlb ⟨au,au⟩ ⟨by decide,by decide⟩)) ?_;rintro _ S3 ⟨⟨s3,g,nv,iv,rfl,hgp,hf,hgl,hN,hn3,hi3,hmv⟩,f3⟩;have hlowl:=fun {c} (hc:bP lv=some c)=>fP hl hc;have m2:=s2.1;have m3:=s3.1;try refine ap ?_
 refine lR ?_;intro S4 s4 n4 g4 f4;refine aBr (b:=S3.nx) (aq) (by refine ap ?_;exact aS _) g4 rfl rfl ?_;intro S5 s5 n5 g5 f5;refine ap ?_;have s35:Same S3 S5:=s5.same s4 (Af _);have s15:=(s2.trans s3).trans s35;have sS5:=s1.trans s15;have gd5:S5.h.get S.nx=some (.cells [lv,.int .i64 ((0:Nat):Int)] false 0):=(s15.2 _ au).trans g1;have hd5:rO S5 S.nx lv dl:=⟨au,⟨0,gd5,Dt _⟩,hl.same sS5,fun e=>by have:=hlowl e;omega,hlb⟩;have m5:=s35.1;have hF5:lS S5:=f5.1 (f4.1 (f3.1 (f2.1 (f1.1 hF))));clear s4 g4 s5 f1 f2 f3 f4 f5;have hgame5:∀X':St,S5.nx<=X'.nx->(∀c,c<S5.nx->c≠S.nx->X'.h.get c=S5.h.get c)->bH 6 dC X' nv g.bw/\bH 2 fO X' iv g.bz:=fun X' hn hk=>hmv X' au fun c hc ho=>by
  have hne:c≠S.nx:=by
   rcases ho with h | h
   ·omega
   ·have:=hlowl h;omega
  rw[hk c au hne];exact s35.2 c hc
 refine bK (cp (jT g5) ?_);refine aL (ae ?_);refine aF (jN (aE0 H hd5 (fun X' h1 h2=>(hgame5 X' h1 h2).2) (fun i hi=>aPq hf hN hi) (aIg hf))) ?_;rintro cv S6 ⟨⟨x6,hd6,ch,ic6,C,hcb⟩,f6⟩;have hF6:=f6.1 hF5;have n6:=x6.1;have⟨hn6,hi6⟩:=hgame5 S6 n6 fun c hc hne=>x6.2 c hc hne;have gg6:S6.h.get S3.nx=some (.cells [.int .i64 g.b9,nv,iv] false 0):=by rw[x6.2 _ au au];exact g5
 have sS6:Same S S6:=⟨aw s1.1,fun c hc=>by
  rw[x6.2 c (aw s1.1) au];exact sS5.2 c hc⟩
 have lg6:S3.nx<S6.nx:=by omega
 clear hgame5 hmv hd6 hd5 gd5 g5 x6 s15 sS5 s35 hn3 hi3 hcb g1 s1 s2 s3;have G:=rF hf;have⟨pr,P1⟩:=aGF 1 G.good;have P:=aLX P1;have hNl:g.bw.length<=25:=by omega
 have⟨z,hz,z0,z1,zd⟩:=aRK hf hN hNl P1;have hsN:aAW g pr=(z:Int):=by unfold aAW;rw[hz]
 have hsR:aCi g pr=0:=by unfold aCi;rw[hz]
 have⟨hcN,hcR⟩:=aJl (pr:=pr) hf C.e;rw[hsN] at hcN;rw[hsR] at hcR;have⟨sz,cn,ls,pl,R⟩:=aJR hcR fun _=>P;have esz:sz=(z:Int):=by rw[<-R.eN,hcN]
 subst esz;have M:wO g ch pr z cn ls pl:=⟨R,fun j hj=>by
  have⟨a,b⟩:=zd j hj;rw[aJK] at b;exact⟨a,b⟩⟩
 have hcl:ch.length<=10000000:=by have:=C.len;have:=aIg hf;omega
 obtain⟨n,hnp⟩:∃n:Nat,g.b9=(n:Int):=⟨g.b9.toNat,au⟩;have hn4:n<=4:=by omega
 try refine ae ?_
 refine bK (cp (jT gg6) ?_);refine aL (ae ?_);refine aF (jN (aFF (pr:=pr) H hn6 hi6 au fun _=>P)) ?_;rintro _ X ⟨⟨hX,rfl⟩,fX⟩;rw[if_pos hf,hsN,hsR];have sX:=sS6.trans hX;have hFX:=fX.1 hF6;have gX:=(hX.2 _ lg6).trans gg6;have lgX:=Ag lg6 hX.1;have hnX:=bH.same (E:=dC) cR hn6 hX;have hiX:=bH.same (E:=fO) fC hi6 hX;have hcX:=ic6.same hX;clear hn6 hi6 ic6 gg6 hF6 fX;refine c9 @tU @tP ?_;refine fA (ae ?_);refine aO (by simp only[↓sU,sD,rE,↓reduceIte,rA,Aa (show ¬ (0:Int)≠0 from fun h=>h rfl)]) (aJ ?_);try refine ae ?_
 refine fA (ae ?_);by_cases hbig:600<z
 ·refine aP (by simp only[↓sU,sD,rE,↓reduceIte,rA,Ac (show(z:Int)>600 by omega)]) (aE (aM ?_));refine ae ?_;refine aL (ae ?_);refine aF (hAw _ sX) ?_;rintro _ Y2 ⟨rfl,h2⟩;try refine ae ?_
  refine aK (ae ?_);exact sX.trans h2
 refine aO (by simp only[↓sU,sD,rE,↓reduceIte,rA,Aa (show ¬ (z:Int)>600 by omega)]) (aJ ?_);try refine ae ?_
 have hN1:=G.good.n1;have rm1:g.bw.length<=room:=by unfold room;omega
 have rm2:8 * g.bw.length<=room:=by unfold room;omega
 have svn:=bH.self hnX;refine aE (uD (fun _=>False) ?_);intro Y1 y1 hY nY;have nY:Y1.nx=X.nx+10:=nY;simp only[↓sU,sD,rE,↓reduceIte,rA,aD,aX,aC,mO gX,hnX.len,svn,lgX,Am,Ak];rw[oJ (n:=g.bw.length) (by simp only[↓sU,sD,rE,↓reduceIte,rA,aW]) (by simp only[↓sU,sD,rE,↓reduceIte,rA,aW]) rm1 rm2,qU];simp only[↓sU,sD,rE,↓reduceIte,rA,aD,aX,aC,mO gX,hnX.len,svn,lgX,Am,Ak];rw[oJ (n:=g.bw.length) (by simp only[↓sU,sD,rE,↓reduceIte,rA,aW]) (by simp only[↓sU,sD,rE,↓reduceIte,rA,aW]) rm1 rm2,qU];refine ae ?_;rw[aLx ay ay,aGw];obtain⟨zr,hzr⟩:∃zr:bm,zr=List.replicate g.bw.length (0:Int):=⟨_,rfl⟩;have hzl:zr.length=g.bw.length:=by rw[hzr,Bp]
 have hz0:∀j,j<g.bw.length->zr.getD j 0=0:=fun j hj=>by rw[hzr];exact aB6 hj
 rw[<-hzr];obtain⟨W1,hW1⟩:∃W:St,W=⟨(Y1.h.set (X.nx+7) (some (.cells (bE zr) false 0))).set (X.nx+3) (some (.cells (bE zr) false 0)),Y1.nx⟩:=⟨_,rfl⟩;rw[<-hW1];have nW1:W1.nx=X.nx+10:=by rw[hW1];exact nY
 have w1:Same X W1:=⟨au,fun b hb=>by rw[hW1];simp only;rw[dq,if_neg au,dq,if_neg au,hY]⟩;have c1:W1.h.get (X.nx+3)=some (.cells (bE zr) false 0):=by rw[hW1];simp only;rw[dq,if_pos rfl]
 have d1:W1.h.get (X.nx+7)=some (.cells (bE zr) false 0):=by rw[hW1];simp only;rw[dq,if_neg au,dq,if_pos rfl]
 have hFW:lS W1:=fun b hb=>by
  rw[nW1] at hb;rw[hW1];simp only;rw[dq,if_neg au,dq,if_neg au,hY];exact hFX b au
 clear hW1 hY nY y1;have gW1:=(w1.2 _ lgX).trans gX;have hnat:dS (.int .i64 g.b9)=some n:=by rw[hnp,aW]
 refine bK (d9 @aD @aC (wQ gW1) ?_);refine aKv (oJ (n:=n) (ar hnat) (ar hnat) ax ax) ?_;intro W2 w2 nW2 e2 fW2;rw[aGw] at e2;refine ae ?_;have sW2:=w1.trans w2;have hFW2:=fW2.1 hFW;have c2:=(w2.2 _ (show X.nx+3<W1.nx by omega)).trans c1;have d2:=(w2.2 _ (show X.nx+7<W1.nx by omega)).trans d1;refine aE (bG (Q:=fun o A' V=>o= .normal/\MsM X S3.nx (X.nx+3) (X.nx+7) W1.nx n z cv g ch A' V) (aE (aM ?_)) ?_)
 ·refine ae ?_;refine bG (aFP (aN6 (X0:=X) (gb:=S3.nx) (fb:=X.nx+3) (eb:=X.nx+7) (sb:=W1.nx) (n:=n) (cv:=cv) H M hcR au hnp (af) (af) (af) (af) (af) (af) gX lgX hnX hiX hcX hcl au au au au au au  ⟨rfl,sW2,au,au,au,⟨zr,zr,List.replicate n 0,hzl,hzl,Bp,c2,d2,e2,fun j hj=>⟨hz0 j hj,hz0 j hj⟩,fun p hp=>aB6 hp⟩,fun i hi=>rfl,ag⟩)) ?_;rintro o ⟨F2,inr⟩ V ⟨⟨rfl,I⟩,fr⟩;have⟨fl,el,sl,m1,m2,m3,gf,ge,gs,hj1,hj2⟩:=I.rows;have Tm:=I.tmps;have i1:=I.inr;simp only at Tm i1;refine⟨rfl,i1,I.same,fr.1 hFW2,I.lf,I.le,I.ls,⟨fl,el,sl,m1,m2,m3,gf,ge,gs,hj1,hj2⟩,?_,?_,?_,?_,?_,?_⟩
  ·rw[Tm 6 au];simp only[↓sU,sD,rE,↓reduceIte,rA]
  ·rw[Tm 7 au];simp only[↓sU,sD,rE,↓reduceIte,rA]
  ·rw[Tm 8 au];simp only[↓sU,sD,rE,↓reduceIte,rA]
  ·rw[Tm 10 au];simp only[↓sU,sD,rE,↓reduceIte,rA]
  ·rw[Tm 11 au];simp only[↓sU,sD,rE,↓reduceIte,rA]
  ·rw[Tm 12 au];simp only[↓sU,sD,rE,↓reduceIte,rA]
 rintro o ⟨F,inr⟩ V ⟨rfl,I⟩;obtain rfl:inr=false:=I.inr;have⟨fl,el,sl,m1,m2,m3,gf,ge,gs,hj1,hj2⟩:=I.rows;have sXV:=I.same;have hFV:=I.fr;have lf:=I.lf;have le:=I.le;have ls':=I.ls;have p6:=I.t6;have p7:=I.t7;have p8:=I.t8;have p10:=I.t10;have p11:=I.t11;have p12:=I.t12;simp only at p6 p7 p8 p10 p11 p12;clear c2 d2 e2 hFW2 fW2 hFW c1 d1 w1 w2 gW1 sW2;have sV:=sX.trans sXV;have gV:=(sXV.2 _ lgX).trans gX;have hnV:=bH.same (E:=dC) cR hnX sXV;have hiV:=bH.same (E:=fO) fC hiX sXV;have hcV:=hcX.same sXV;have lgV:=Ag lgX sXV.1;try refine ae ?_
 refine bK (dh p6 p7 (jT gV) ?_);refine aL (ae ?_);refine aF (aKd (pr:=pr) H (hL.same sV) hFV hnV hiV hcV au hcl fun _=>P) ?_;rintro _ Y ⟨hY,hm⟩;obtain⟨mv,rfl,hmv⟩:=hm.get hcR R;have en:g.b9.toNat=n:=by omega
 rw[en] at hmv;have sY:=sV.trans hY;have gY:=(hY.2 _ lgV).trans gV;have hml:=hmv.len;rw[Ce,Eq] at hml;have nn:=Aa (show ¬ (0:Int)≠0 from fun h=>h rfl);have np:=Aa (show ¬ ((n:Nat):Int)≠g.b9 by omega);refine c9 @tU @tP ?_;refine fA (dy nn hml @Ak p6 @aD @aC (wQ gY) np ?_);refine aO (af) (aJ ?_);try refine ae ?_
 have gY':=gY;rw[hnp] at gY';have lgY:=Ag lgV hY.1;refine fA (ae ?_);refine bG (aQZ (X0:=Y) (gb:=S3.nx) (sb:=W1.nx) (n:=n) (z:=z) (mv:=mv) (sl:=sl) (f:=aAS g cn (z:Int)) (s:=fun p=>aBd g ch p z) H (ah p6) (ah p8) (ah p12) (af) gY' lgY ((hY.2 _ ls').trans gs) (Ag ls' hY.1) m3 hj2 (fun p hp=>by have:=aK8 (p:=p) G R.pay M.fit z;omega) hmv (fun p=>aJ1 R p) (fun p hp=>by rw[M.pays];rfl) z0 au au  ⟨rfl,Same.refl _,fun i hi=>rfl,ag⟩) ?_;rintro o ⟨F2,inr⟩ Y2 ⟨rfl,I2⟩;obtain rfl:inr=false:=I2.inr;have T2:=I2.tmps;have y2:=I2.same;simp only at T2;have u6:aB 6 F2= .ptr S3.nx 0:=by rw[T2 6 au];simp only[↓sU,sD,rE,↓reduceIte,rA,p6]
 have u7:aB 7 F2=cv:=by rw[T2 7 au];simp only[↓sU,sD,rE,↓reduceIte,rA,p7]
 have u10:aB 10 F2= .sl (X.nx+3) 0 g.bw.length g.bw.length false:=by rw[T2 10 au];simp only[↓sU,sD,rE,↓reduceIte,rA,p10]
 have u11:aB 11 F2= .sl (X.nx+7) 0 g.bw.length g.bw.length false:=by rw[T2 11 au];simp only[↓sU,sD,rE,↓reduceIte,rA,p11]
 have hVY:=hY.trans y2;have nVY:=hVY.1;try refine ae ?_
 refine fA (ae ?_);refine bG (aRo (X0:=Y2) (gb:=S3.nx) (fb:=X.nx+3) (eb:=X.nx+7) (z:=z) (cv:=cv) (fl:=fl) (el:=el) H M hcR (ah u6) (ah u7) (ah u10) (ah u11) ((hVY.2 _ lgV).trans gV) au (bH.same (E:=dC) cR hnV hVY) (bH.same (E:=fO) fC hiV hVY) (hcV.same hVY) hcl ((hVY.2 _ lf).trans gf) au ((hVY.2 _ le).trans ge) au m1 m2 hj1 ⟨rfl,Same.refl _,fun i hi=>rfl,ag⟩) ?_;rintro o ⟨F3,inr⟩ Y3 ⟨rfl,I3⟩;obtain rfl:inr=false:=I3.inr;have y3:=I3.same;have sY3:=(sV.trans hVY).trans y3;try refine ae ?_
 refine bK (ae ?_);refine aL (ae ?_);refine aF (hAw _ sY3) ?_;rintro _ Y4 ⟨rfl,h4⟩;try refine ae ?_
 refine aK (ae ?_);exact sY3.trans h4
end Go.Ev.Gl
