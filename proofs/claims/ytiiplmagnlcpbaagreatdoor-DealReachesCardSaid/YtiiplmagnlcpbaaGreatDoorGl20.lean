import Derived.Test.YtiiplmagnlcpbaaGreatDoorGl19
set_option linter.unusedSimpArgs false
set_option linter.unusedVariables false
open Nat renaming reduceEqDiff -> rE, reduceAdd -> rA
set_option maxHeartbeats 0
namespace Go.Ev.Gl
variable {fns:T cM}
structure aF0(S:St)(gb cb lb pb:Nat)(g:aZ)(cn ls pl:Nat->Int)(gc:bo)(D:Nat->Prop)(X:St):Prop where
 same:Same S X
 gg:X.h.get gb=some (.cells gc false 0)
 l1:gb<X.nx
 l2:cb<X.nx
 l3:lb<X.nx
 l4:pb<X.nx
 rows:∃lc ll lp,oL g.bw.length cn D lc/\oL g.bw.length ls D ll/\oL g.bw.length pl D lp/\X.h.get cb=some (.cells (bC lc) false 0)/\X.h.get lb=some (.cells (bC ll) false 0)/\X.h.get pb=some (.cells (bC lp) false 0)
theorem aF0.step{S:St}{gb cb lb pb:Nat}{g:aZ}{cn ls pl:Nat->Int}{gc:bo}{D:Nat->Prop}{X Y:St}(h:aF0 S gb cb lb pb g cn ls pl gc D X)(hs:Same X Y):aF0 S gb cb lb pb g cn ls pl gc D Y:=by
 have⟨h1,h2,h3,h4,h5,h6,lc,ll,lp,a,b,c,d,e,f⟩:=h;have:=hs.1;exact⟨h1.trans hs,(hs.2 _ h3).trans h2,au,au,au,au,lc,ll,lp,a,b,c,(hs.2 _ h4).trans d,(hs.2 _ h5).trans e,(hs.2 _ h6).trans f⟩
theorem aF0.congr{S:St}{gb cb lb pb:Nat}{g:aZ}{cn ls pl:Nat->Int}{gc:bo}{D D':Nat->Prop}{X:St}(h:aF0 S gb cb lb pb g cn ls pl gc D X)(e:∀x,D' x↔D x):aF0 S gb cb lb pb g cn ls pl gc D' X:=by
 have⟨h1,h2,h3,h4,h5,h6,lc,ll,lp,a,b,c,d⟩:=h;exact⟨h1,h2,h3,h4,h5,h6,lc,ll,lp,a.congr e,b.congr e,c.congr e,d⟩
structure aLC(gb cb lb pb N:Nat)(cv:AV)(F:Fr):Prop where
 t1:aD 1 F=cv
 t3:aD 3 F= .ptr gb 0
 t6:aD 6 F= .sl cb 0 N N false
 t7:aD 7 F= .sl lb 0 N N false
 t8:aD 8 F= .int .i64 ((N:Nat):Int)
 t9:aD 9 F= .sl pb 0 N N false
theorem aLC.mv{gb cb lb pb N:Nat}{cv:AV}{F F':Fr}(h:aLC gb cb lb pb N cv F)(e:∀t,t<10->aD t F'=aD t F):aLC gb cb lb pb N cv F':=
 ⟨(e 1 au).trans h.t1,(e 3 au).trans h.t3,(e 6 au).trans h.t6,(e 7 au).trans h.t7,(e 8 au).trans h.t8,(e 9 au).trans h.t9⟩
def aQC(S:St)(gb cb lb pb:Nat)(g:aZ)(cn ls pl:Nat->Int)(gc:bo)(cv:AV)(k:Nat)(A:bK)(X:St):Prop:=A.inr=false/\∃i,i+k=g.bw.length/\aF0 S gb cb lb pb g cn ls pl gc (eE g i 0) X/\aLC gb cb lb pb g.bw.length cv A.F/\aD 10 A.F= .int .i64 (i:Int)
def aOZ(S:St)(gb cb lb pb nb:Nat)(g:aZ)(cn ls pl:Nat->Int)(gc:bo)(cv:AV)(cells:bo)(i q p:Nat)(A:bK)(X:St):Prop:=A.inr=false/\nb<X.nx/\X.h.get nb=some (.cells cells false 0)/\aF0 S gb cb lb pb g cn ls pl gc (eE g i q) X/\aLC gb cb lb pb g.bw.length cv A.F/\aD 10 A.F= .int .i64 (i:Int)/\aD 11 A.F= .ptr nb 0/\((cj g i).kind=1->aD 12 A.F= .int .i64 ((cj g i).weights.take q).sum)/\aD 13 A.F= .int .i64 (p:Int)
theorem aMp{n:Nat}:(List.replicate n (0:Int)).set 0 0=List.replicate n 0:=by
 cases n with
 | zero=>rfl
 | succ n=>rfl
theorem aMi{g:aZ}(G:kI g){i k:Nat}(hi:i<g.bw.length):eE g i k i:=by
 rcases eE.old G hi with h | ⟨q,m,h1,h2⟩
 ·exact .inl h
 ·exact .inr ⟨q,m,h1,au⟩
theorem sF{S:St}{nv iv cv:AV}{g:aZ}{ch:bm}{pr:Nat->Nat}{sz:Int}{cn ls pl:Nat->Int}(H:Has fns)(R:yB g ch pr sz cn ls pl)(hn:aW 6 cI S nv g.bw)(hc:dE .i64 S cv ch):
  eR fns (.fn 32 [] []) [.agg [.int .i64 g.b8,nv,iv],cv,.int .i64 sz] S fun r S'=>Same S S'/\∃u v,r= .tup [u,v]/\yC S S' u ((List.range g.bw.length).map cn)/\yC S S' v ((List.range g.bw.length).map ls):=by
 have G:=R.G;have hN:=G.good.n2;have hN1:=G.good.n1;have snv:=aW.self hn;refine bE H.f32 (by simp) ?_;refine ae ?_;refine aY ?_;refine bW (cs:=[.int .i64 g.b8,nv,iv]) rfl ?_;intro S1 s1 n1 g1;refine ae ?_;refine aY ?_;simp only[↓sU,sD,rE,↓reduceIte,rA,aF,aE,fG g1,hn.len];refine aC (wO (fun _=>False) ?_);intro Y1 y1 hY nY;have nY:Y1.nx=S1.nx+6:=nY;have rm1:g.bw.length<=room:=by unfold room;omega
 have rm2:8 * g.bw.length<=room:=by unfold room;omega
 refine ae ?_;rw[kZ (n:=g.bw.length) (by simp only[↓sU,sD,rE,↓reduceIte,rA,aQ]) (by simp only[↓sU,sD,rE,↓reduceIte,rA,aQ]) rm1 rm2,nI];refine ae ?_;rw[kZ (n:=g.bw.length) (by simp only[↓sU,sD,rE,↓reduceIte,rA,aQ]) (by simp only[↓sU,sD,rE,↓reduceIte,rA,aQ]) rm1 rm2,nI];refine ae ?_;rw[aJ9 ay ay,aCp];obtain⟨zr,hzr⟩:∃zr:bm,zr=List.replicate g.bw.length (0:Int):=⟨_,rfl⟩;have hzl:zr.length=g.bw.length:=by rw[hzr,Bu]
 rw[<-hzr];obtain⟨W1,hW1⟩:∃W:St,W=⟨(Y1.h.set (S1.nx+3) (some (.cells (bC zr) false 0))).set (S1.nx+1) (some (.cells (bC zr) false 0)),Y1.nx⟩:=⟨_,rfl⟩;rw[<-hW1];have nW1:W1.nx=S1.nx+6:=by rw[hW1];exact nY
 have w1:Same S1 W1:=⟨au,fun b hb=>by rw[hW1];simp only;rw[dr,if_neg au,dr,if_neg au,hY]⟩;have c1:W1.h.get (S1.nx+1)=some (.cells (bC zr) false 0):=by rw[hW1];simp only;rw[dr,if_pos rfl]
 have d1:W1.h.get (S1.nx+3)=some (.cells (bC zr) false 0):=by rw[hW1];simp only;rw[dr,if_neg au,dr,if_pos rfl]
 clear hW1;refine aY (ap ?_);refine nJ (kZ (n:=g.bw.length) (by simp only[↓stU,aB,rE,↓reduceIte,rA,aQ]) (by simp only[↓stU,aB,rE,↓reduceIte,rA,aQ]) rm1 rm2) ?_;intro W2 w2 n2 e2;rw[aCp,<-hzr] at e2;refine ae ?_;have c2:=(w2.2 _ (show S1.nx+1<W1.nx by omega)).trans c1;have d2:=(w2.2 _ (show S1.nx+3<W1.nx by omega)).trans d1;have g2:=((w1.trans w2).2 _ (show S.nx<S1.nx by omega)).trans g1;have sW2:=s1.trans (w1.trans w2);obtain⟨cb,hcb⟩:∃cb,cb=S1.nx+1:=⟨_,rfl⟩;obtain⟨lb,hlb⟩:∃lb,lb=S1.nx+3:=⟨_,rfl⟩;obtain⟨pb,hpb⟩:∃pb,pb=W1.nx:=⟨_,rfl⟩;rw[<-hcb] at c2 ⊢;rw[<-hlb] at d2 ⊢;rw[<-hpb] at e2 ⊢;have nz:dY (.int .i64 0)=some 0:=rfl;refine aY ?_;simp only[↓stU,aB,rE,↓reduceIte,rA,nz,iB (b:=cb) (o:=false) hN1];refine gB (fun call=>by simp only[↓stU,aB,rE,↓reduceIte,rA,eC,cH];exact aCc (S:=W2) c2 au) ?_;simp only[↓stU,aB,rE,↓reduceIte,rA,nz,iB (b:=pb) (o:=false) hN1];have e2':(W2.h.set cb (some (.cells (bC (zr.set 0 sz)) false 0))).get pb=some (.cells (bC zr) false 0):=by rw[dr,if_neg au];exact e2
 refine gB (fun call=>by simp only[↓stU,aB,rE,↓reduceIte,rA,eC,cH];exact aCc (S:=⟨_,W2.nx⟩) e2' au) ?_;refine ae ?_;have hM:aF0 S S.nx cb lb pb g cn ls pl [.int .i64 g.b8,nv,iv] (eE g 0 0) ⟨(W2.h.set cb (some (.cells (bC (zr.set 0 sz)) false 0))).set pb (some (.cells (bC (zr.set 0 1)) false 0)),W2.nx⟩:=by
  have b1:=oL.start (g:=g) (v:=cn) hN1;have b2:=oL.start (g:=g) (v:=ls) hN1;have b3:=oL.start (g:=g) (v:=pl) hN1;rw[R.C.zero,<-hzr] at b1;rw[R.L.zero.1,aMp,<-hzr] at b2;rw[R.L.zero.2,<-hzr] at b3;have nn:=n2;refine⟨(sW2.put au _).put au _,?_,by show S.nx<W2.nx;omega,by show cb<W2.nx;omega,by show lb<W2.nx;omega,by show pb<W2.nx;omega,_,_,_,b1,b2,b3,?_,?_,?_⟩
  ·simp only;rw[dr,if_neg au,dr,if_neg au];exact g2
  ·simp only;rw[dr,if_neg au,dr,if_pos rfl]
  ·simp only;rw[dr,if_neg au,dr,if_neg au];exact d2
  ·simp only;rw[dr,if_pos rfl]
 generalize (⟨(W2.h.set cb (some (.cells (bC (zr.set 0 sz)) false 0))).set pb (some (.cells (bC (zr.set 0 1)) false 0)),W2.nx⟩:St)=X0 at hM ⊢;have ne:cb≠lb/\cb≠pb/\lb≠pb:=by omega
 have k1:S.nx<cb:=by omega
 have k2:S.nx<lb:=by omega
 have k3:S.nx<pb:=by omega
 clear e2 e2' c2 d2 g2 c1 d1 w1 w2 y1 hY sW2 n2 nW1 hpb hlb hcb hzl hzr g1 s1;obtain⟨gc,hgc⟩:∃gc:bo,gc= [.int .i64 g.b8,nv,iv]:=⟨_,rfl⟩;rw[<-hgc] at hM;refine aC (aX (Q:=fun o A' X=>o= .normal/\aQC S S.nx cb lb pb g cn ls pl gc cv 0 A' X) (aC (aJ ?_)) ?_);rotate_left
 ·rintro o ⟨F,inr⟩ X ⟨rfl,q0,i,hi,M,T, -⟩;simp only at q0;subst q0;obtain rfl:i=g.bw.length:=by omega
  have t6:=T.t6;have t7:=T.t7;simp only at t6 t7;obtain⟨sX, -, -,x2,x3,x4,lc,ll,lp,a,b,c,ga,gl,gp⟩:=M;refine aY ?_;simp only[↓sU,sD,rE,↓reduceIte,rA,t6,t7];refine aI (ae ?_);rw[a.all G.good] at ga;rw[b.all G.good] at gl;exact⟨sX,_,_,rfl,⟨cb,by rw[Bc,Cq],au,x2,ga⟩,⟨lb,by rw[Bc,Cq],au,x3,gl⟩⟩
 refine ae ?_;refine aO (bJ (aQC S S.nx cb lb pb g cn ls pl gc cv) ?_ g.bw.length _ _ ⟨rfl,0,au,hM,⟨af,af,af,af,af,af⟩,af⟩);clear hM X0;rintro k ⟨F,inr⟩ X ⟨q0,i,hik,M,T,p10⟩;simp only at q0 p10 T;subst q0;have p1:=T.t1;have p3:=T.t3;have p8:=T.t8;refine dS ?_;simp only[↓sU,sD,rE,↓reduceIte,rA,p8,p10];by_cases hlt:i<g.bw.length;rotate_left
 ·refine aM (by simp only[↓sU,sD,rE,↓reduceIte,rA,Aa (show ¬ (i:Int)<(g.bw.length:Int) by omega)]) (bD ?_);refine ae ?_;obtain rfl:k=0:=by omega
  exact⟨rfl,i,hik,M,T.mv fun t ht=>by repeat (rw[bG,if_neg au]),ah p10⟩
 refine aN (by simp only[↓sU,sD,rE,↓reduceIte,rA,Ab (show(i:Int)<(g.bw.length:Int) by omega)]) (aH ?_);try refine ae ?_
 have w0:=dq i
 have sX:=M.same;have kg:=M.gg;rw[hgc] at kg;obtain⟨_,bx,qx,hiax,hbx,_,⟨xa,xw,xp,rfl,hxa,hxw,hxp⟩,hldx,_⟩:=aW.at hn ay (gJ hlt);rw[<-zK sX hbx] at hldx;refine aC (aO (aC (aJ ?_)));simp only[↓stU,aB,rE,↓reduceIte,rA,p3,p10,aF,aE,fG kg,aQ,hiax,hldx];refine bY ?_;intro W1 v1 m1 h1;try refine ap ?_
 refine cR (b:=X.nx) (aq) (by refine ap ?_;exact aR _) h1 rfl rfl ?_;intro Y v2 m2 h2;refine ae ?_;have sXY:Same X Y:=v2.same v1 (Af _);have MY:=M.step sXY;have lxY:X.nx<Y.nx:=by omega
 have lX:=M.l1;have lX2:=M.l2;have lX3:=M.l3;have lX4:=M.l4;clear v1 v2 h1 m1 m2 M;refine aY (ae ?_);refine aY (ae ?_);obtain⟨cells,hcells⟩:∃cells:bo,cells= [.int .i64 (cj g i).kind,.int .i64 (cj g i).player,.int .i64 (cj g i).info,xa,xw,xp]:=⟨_,rfl⟩;rw[<-hcells] at h2;refine aX (Q:=fun o A' Z=>o= .normal/\aOZ S S.nx cb lb pb X.nx g cn ls pl gc cv cells i (cj g i).next.length (cj g i).next.length A' Z) (aO (bJ (fun k A Z=>∃q,q+k=(cj g i).next.length/\aOZ S S.nx cb lb pb X.nx g cn ls pl gc cv cells i q q A Z) ?_ (cj g i).next.length _ _ ⟨0,au,rfl,lxY,h2,MY,T.mv fun t ht=>by repeat (rw[bG,if_neg au]),ah p10,af,fun _=>by simp only[↓sU,sD,rE,↓reduceIte,rA];rfl,ag⟩)) ?_;rotate_left
 ·rintro o ⟨F2,inr⟩ Z ⟨rfl,q0, -, -,MZ,TZ,r10, -⟩;simp only at q0 TZ r10;subst q0;try refine ae ?_
  refine aJ ?_;simp only[↓sU,sD,rE,↓reduceIte,rA,r10,w0];exact⟨k - 1,au,rfl,i+1,au,MZ.congr fun x=>(eE.next (Af _)).symm,TZ.mv fun t ht=>by repeat (rw[bG,if_neg au]),af⟩
 clear MY h2 p1 p3 p8 T p10;rintro k2 ⟨F2,inr⟩ W ⟨q,hqk,q0,lnW,hW,MW,TW,r10,r11,r12,r13⟩;simp only at q0 TW r10 r11 r12 r13;subst q0;rw[hcells] at hW;have sW:=MW.same;have xaW:=hxa.same sW;have xwW:=hxw.same sW;refine dS ?_;simp only[↓sU,sD,rE,↓reduceIte,rA,r13,r11,aF,aE,dV hW,xaW.len];by_cases hql:q<(cj g i).next.length;rotate_left
 ·refine aM (by simp only[↓sU,sD,rE,↓reduceIte,rA,Ah,Aa (show ¬ (q:Int)<(((cj g i).next.length:Nat):Int) by omega)]) (bD ?_);refine ae ?_;obtain rfl:q=(cj g i).next.length:=by omega
  exact⟨rfl,lnW,by rw[hcells];exact hW,MW,TW.mv fun t ht=>by repeat (rw[bG,if_neg au]),ah r10,ah r11,fun hk=>by simp only[↓sU,sD,rE,↓reduceIte,rA,r12 hk],ah r13⟩
 refine aN (by simp only[↓sU,sD,rE,↓reduceIte,rA,Ah,Ab (show(q:Int)<(((cj g i).next.length:Nat):Int) by omega)]) (aH ?_);try refine ae ?_
 have hnx:=G.good.nxt i hlt;have wq:=dq q
 obtain⟨d1,d2⟩:=G.good.kids i hlt q hql;obtain⟨c,hc'⟩:∃c:Nat,(cj g i).next.getD q 0=(c:Int):=⟨_,(De au).symm⟩;have hK:iS g i q c:=⟨hlt,hql,hc'⟩;have hcl:=(hK.lt G.good).2;have iaq:=xaW.cw hql;have ldq:=xaW.ld hql;rw[hc'] at ldq;refine aC (aX (Q:=fun o A' Z=>o= .normal/\aOZ S S.nx cb lb pb X.nx g cn ls pl gc cv cells i (q+1) q A' Z) (aO (aC (aJ ?_))) ?_);rotate_left
 ·rintro o ⟨F3,inr⟩ Z ⟨rfl,q0,lnZ,hZ,MZ,TZ,u10,u11,u12,u13⟩;simp only at q0 TZ u10 u11 u12 u13;subst q0;try refine ae ?_
  refine aJ ?_;simp only[↓sU,sD,rE,↓reduceIte,rA,u13,wq];exact⟨k2 - 1,au,q+1,au,rfl,lnZ,hZ,MZ,TZ.mv fun t ht=>by repeat (rw[bG,if_neg au]),ah u10,ah u11,fun hk=>by simp only[↓sU,sD,rE,↓reduceIte,rA,u12 hk],af⟩
 simp only[↓sU,sD,rE,↓reduceIte,rA,r13,r11,aF,aE,dV hW,aQ,iaq,ldq];refine aY ?_;simp only[↓sU,sD,rE,↓reduceIte,rA,r11,aF,aE,iY hW];have hcb:=R.cb c hcl;have hib:=R.cb i hlt;have hlc:=R.L.bd R.P G (j:=c) hcl;have hli:=R.L.bd R.P G (j:=i) hlt;have hpc:=R.pb c hcl;have hpi:=R.pb i hlt;obtain⟨sXW,ggW,v1,v2,v3,v4,lc,ll,lp,nc,nl,np,gc',gl',gp'⟩:=MW;have oc:=nc.on i hlt (aMi G.good hlt);have ol:=nl.on i hlt (aMi G.good hlt);have op:=np.on i hlt (aMi G.good hlt);by_cases hk1:(cj g i).kind=1
 ·obtain⟨hsm,hs1⟩:=G.small hlt hk1;have hwl:=G.good.wts i hlt hk1;have hse:(cj g i).weights.sum=((wN g i:Nat):Int):=by unfold wN;rw[if_pos hk1];omega
  have hqw:q<(cj g i).weights.length:=by omega
  have iwq:=xwW.cw hqw;have lwq:=xwW.ld hqw;have t12:=r12 hk1;have hcv:=R.C.cha i q c hK hk1;obtain⟨hl1,hl2⟩:=R.L.cha i q c hK hk1;refine aN (by simp only[↓sU,sD,rE,↓reduceIte,rA,Ab hk1]) ?_;refine aY ?_;simp only[↓sU,sD,rE,↓reduceIte,rA,r11,aF,aE,dR hW];refine aK (ae ?_);refine aG (aEF H xwW hsm) ?_;rintro _ V ⟨rfl,hV⟩;try refine ae ?_
  have sV:=sXW.trans hV;have lV:=hV.1;have hWV:=(hV.2 _ lnW).trans hW;obtain⟨w1,w2,w3⟩:=zE G hK hk1;have hss:=aBt hsm.2;have hsl:=hsm.1;rw[hse] at hss;generalize hbf:((cj g i).weights.take q).sum=bf at w1 w2 hl1 t12;have eb:((cj g i).weights.take (q+1)).sum=bf+(cj g i).weights.getD q 0:=by
   rw[vK hqw,hbf]
  have m1: -1000000000000000<=pl i * bf/\pl i * bf<=1000000000000000:=by
   generalize pl i * bf=m at hl1;omega
  have hwb:((wN g i:Nat):Int)<=2000000000000:=by omega
  refine aC (aNz (cb:=cb) (lb:=lb) (pb:=pb) (nb:=X.nx) (N:=g.bw.length) (i:=i) (k:=q) (c:=c) (bf:=bf) (W:=((wN g i:Nat):Int)) (wl:=(cj g i).weights) (y1:=cn c) (z2:=pl i * bf) (y2:=ls c) (y3:=pl c) (by simp only[↓sU,sD,rE,↓reduceIte,rA,TW.t6]) (by simp only[↓sU,sD,rE,↓reduceIte,rA,TW.t7]) (by simp only[↓sU,sD,rE,↓reduceIte,rA,TW.t9]) (ah r10) (ah r11) (ah t12) (ah r13) (af) (ah hse) hWV (xwW.same hV) hqw ((hV.2 _ v2).trans gc') ((hV.2 _ v3).trans gl') ((hV.2 _ v4).trans gp') nc.len nl.len np.len hlt hcl ne au au au au  (by rw[oc];exact hib.1) (by rw[oc];omega) au (by rw[oc,<-hcv];exact wrap_i64 au au) (by rw[op];exact wrap_i64 au au) (by rw[ol,<-hl1];exact wrap_i64 au au) (by rw[op,<-hl2];exact wrap_i64 au au) ?_);intro F' Z hk' nZ z1 z2 z3 zo;have sZ:Same S Z:=⟨Bd sV.1 nZ,fun b hb=>(zo b au au au).trans (sV.2 b hb)⟩;have gZ:=(zo X.nx au au au).trans hWV;have ggZ:=(zo S.nx au au au).trans ((hV.2 _ v1).trans ggW);have k11:aD 11 F'= .ptr X.nx 0:=by rw[hk' 11 au];simp only[↓sU,sD,rE,↓reduceIte,rA,r11]
  have k12:aD 12 F'= .int .i64 bf:=by rw[hk' 12 au];simp only[↓sU,sD,rE,↓reduceIte,rA,t12]
  have k13:aD 13 F'= .int .i64 (q:Int):=by rw[hk' 13 au];simp only[↓sU,sD,rE,↓reduceIte,rA,r13]
  have k10:aD 10 F'= .int .i64 (i:Int):=by rw[hk' 10 au];simp only[↓sU,sD,rE,↓reduceIte,rA,r10]
  have xwZ:=hxw.same sZ;have iwZ:=xwZ.cw hqw;have lwZ:=xwZ.ld hqw;have wb:IntKind.i64.wrap (bf+(cj g i).weights.getD q 0)=((cj g i).weights.take (q+1)).sum:=by rw[eb];exact wrap_i64 au au
  refine aJ ?_;simp only[↓sU,sD,rE,↓reduceIte,rA,k11,k12,k13,aF,aE,dR gZ,aQ,iwZ,lwZ,wb];refine⟨rfl,au,by rw[hcells];exact gZ,⟨sZ,ggZ,au,au,au,au,_,_,_,(nc.set hcl).congr fun x=>eE.succ G.good hK,(nl.set hcl).congr fun x=>eE.succ G.good hK,(np.set hcl).congr fun x=>eE.succ G.good hK,z1,z2,z3⟩,TW.mv fun t ht=>?_,ah k10,ah k11,fun _=>af,ah k13⟩
  repeat (rw[bG,if_neg au])
  rw[hk' t au]
  repeat (rw[bG,if_neg au])
 have hk2:(cj g i).kind=2:=by
  rcases G.knd i hlt with h | h | h
  ·exact absurd h hk1
  ·exact h
  ·have:=G.fin i hlt h;rw[this] at hql;simp at hql
 obtain⟨f1,f2,f3⟩:=R.fit i hlt hk2;obtain⟨i1,i2,_⟩:=G.good.inf i hlt hk2;obtain⟨si,hsi⟩:∃si:Nat,(cj g i).info=(si:Int):=⟨_,(De i1).symm⟩;have hsl:si<ch.length:=by rw[hsi] at f1;simpa using f1
 obtain⟨bc,oc2,iac,lac,dac⟩:=dE.ptr' (hc.same sXW) hsl;have hch:ch.getD si 0=vG g ch i:=by unfold vG;rw[hsi,Bq]
 rw[hch] at dac;have hcv:=R.C.mv i q c hK hk1;obtain⟨hl1,hl2⟩:=R.L.mv i q c hK hk1;refine aM (by simp only[↓sU,sD,rE,↓reduceIte,rA,Aa hk1]) ?_;refine aY ?_;simp only[↓sU,sD,rE,↓reduceIte,rA,TW.t1,r11,r13,aF,aE,dT hW,hsi,aQ,iac,dac];by_cases he:vG g ch i=(q:Int)
 ·rw[if_pos he] at hcv hl1 hl2;refine aN (by simp only[↓sU,sD,rE,↓reduceIte,rA,Ab he]) ?_;refine aOm (cb:=cb) (lb:=lb) (pb:=pb) (N:=g.bw.length) (i:=i) (c:=c) (by simp only[↓sU,sD,rE,↓reduceIte,rA,TW.t6]) (by simp only[↓sU,sD,rE,↓reduceIte,rA,TW.t7]) (by simp only[↓sU,sD,rE,↓reduceIte,rA,TW.t9]) (ah r10) (af) gc' gl' gp' nc.len nl.len np.len hlt hcl ne v2 v3 v4 ?_;intro F' Z hk' nZ z1 z2 z3 zo;rw[oc,<-hcv] at z1;rw[ol,<-hl1] at z2;rw[op,<-hl2] at z3;have sZ:Same S Z:=⟨Bd sXW.1 nZ,fun b hb=>(zo b au au au).trans (sXW.2 b hb)⟩;have gZ:=(zo X.nx au au au).trans hW;have ggZ:=(zo S.nx au au au).trans ggW;refine⟨rfl,rfl,au,by rw[hcells];exact gZ,⟨sZ,ggZ,au,au,au,au,_,_,_,(nc.set hcl).congr fun x=>eE.succ G.good hK,(nl.set hcl).congr fun x=>eE.succ G.good hK,(np.set hcl).congr fun x=>eE.succ G.good hK,z1,z2,z3⟩,TW.mv fun t ht=>?_,?_,?_,fun h=>absurd h hk1,?_⟩
  ·rw[hk' t au]
   repeat (rw[bG,if_neg au])
  ·rw[hk' 10 au];simp only[↓sU,sD,rE,↓reduceIte,rA,r10]
  ·rw[hk' 11 au];simp only[↓sU,sD,rE,↓reduceIte,rA,r11]
  ·rw[hk' 13 au];simp only[↓sU,sD,rE,↓reduceIte,rA,r13]
 ·rw[if_neg he] at hcv hl1 hl2;refine aM (by simp only[↓sU,sD,rE,↓reduceIte,rA,Aa he]) (aH ?_);try refine ae ?_
  have hf:=eE.fresh G.good hK;exact⟨rfl,lnW,by rw[hcells];exact hW,⟨sXW,ggW,v1,v2,v3,v4,_,_,_,(nc.skip hcl hf hcv).congr fun x=>eE.succ G.good hK,(nl.skip hcl hf hl1).congr fun x=>eE.succ G.good hK,(np.skip hcl hf hl2).congr fun x=>eE.succ G.good hK,gc',gl',gp'⟩,TW.mv fun t ht=>by repeat (rw[bG,if_neg au]),ah r10,ah r11,fun h=>absurd h hk1,ah r13⟩
theorem aBW{S:St}{nv iv cv:AV}{g:aZ}{ch:bm}{pr:Nat->Nat}{j:Int}(H:Has fns)(hn:aW 6 cI S nv g.bw)(hi:aW 2 eT S iv g.b7)(hc:dE .i64 S cv ch)(hln:g.bw.length<=100000)(hll:ch.length<=10000000)(hpr:dJ g=0->kY g pr):
  eR fns (.fn 9 [] []) [.agg [.int .i64 g.b8,nv,iv],cv,.int .i64 j] S fun r S'=>Same S S'/\aC0 g ch pr j (fun cn _=>(cn j.toNat,0)) r:=by
 refine bE H.f9 (by simp) ?_;refine ae ?_;refine aY ?_;refine bW (cs:=[.int .i64 g.b8,nv,iv]) rfl ?_;intro S1 s1 n1 g1;refine ae ?_;refine aY (dh (gR g1) ?_);refine aK (ae ?_);refine aG (uS (pr:=pr) H (aW.same (E:=cI) bT hn s1) (aW.same (E:=eT) dH hi s1) (hc.same s1) hln hll hpr) ?_;rintro _ X ⟨hX,rfl⟩;have sX:=s1.trans hX;have gX:=(hX.2 _ (show S.nx<S1.nx by omega)).trans g1;have hnX:=aW.same (E:=cI) bT hn sX;refine dk @nP @nN ?_;refine dS (ae ?_);by_cases hR:nB g ch pr=0;rotate_left
 ·refine aN (by simp only[↓sU,sD,rE,↓reduceIte,rA,Ab hR]) (aC (aJ ?_));refine ae ?_;refine aI (ae ?_);exact⟨sX,.inl (by rw[aGW hR];exact⟨hR,rfl⟩)⟩
 refine aM (by simp only[↓sU,sD,rE,↓reduceIte,rA,Aa (show ¬nB g ch pr≠0 from fun h=>h hR)]) (aH ?_);try refine ae ?_
 refine dS ?_;by_cases hj0:j<0
 ·refine dh (Ab hj0) ?_;refine aN (af) (aC (aJ ?_));refine ae ?_;refine aI (ae ?_);exact⟨sX,.inl (by rw[aAv hR (.inl hj0)];exact⟨by decide,rfl⟩)⟩
 refine dy (Aa hj0) @aF @aE (fG gX) hnX.len @Ah ?_;by_cases hj1:j≥(g.bw.length:Int)
 ·refine aN (by simp only[↓sU,sD,rE,↓reduceIte,rA,Ab hj1]) (aC (aJ ?_));refine ae ?_;refine aI (ae ?_);exact⟨sX,.inl (by rw[aAv hR (.inr hj1)];exact⟨by decide,rfl⟩)⟩
 refine aM (by simp only[↓sU,sD,rE,↓reduceIte,rA,Aa hj1]) (aH ?_);try refine ae ?_
 obtain⟨k,rfl⟩:∃k:Nat,j=(k:Int):=⟨j.toNat,au⟩;have hk:k<g.bw.length:=by omega
 have⟨sz,cn,ls,pl,R⟩:=aFW hR hpr;refine aY (dk (gR gX) R.eN ?_);refine aK (ae ?_);refine aG (sF H R hnX (hc.same sX)) ?_;rintro _ Y ⟨hY,u,w,rfl,hr, -⟩;have il:=yC.is hr;try simp only[↓sU,sD,rE,↓reduceIte,rA,nP,nN]
 have hkl:k<((List.range g.bw.length).map cn).length:=by rw[Bc,Cq];exact hk
 have hia:=il.cw hkl;have hla:=il.ld hkl;have eg:((List.range g.bw.length).map cn).getD k 0=cn k:=by rw[Ae,Bk,Dz hk];rfl
 rw[eg] at hla;try simp only[↓sU,sD,rE,↓reduceIte,rA,nP,nN]
 refine aY (dm @aQ hia hla ?_);refine aI (ae ?_);exact⟨sX.trans hY,.inr ⟨aJC hR hk,sz,cn,ls,pl,R,by rw[Bq]⟩⟩
theorem aG8{S:St}{nv iv cv:AV}{g:aZ}{ch:bm}{pr:Nat->Nat}{j:Int}(H:Has fns)(hn:aW 6 cI S nv g.bw)(hi:aW 2 eT S iv g.b7)(hc:dE .i64 S cv ch)(hln:g.bw.length<=100000)(hll:ch.length<=10000000)(hpr:dJ g=0->kY g pr):
  eR fns (.fn 11 [] []) [.agg [.int .i64 g.b8,nv,iv],cv,.int .i64 j] S fun r S'=>Same S S'/\aC0 g ch pr j (aFk j.toNat) r:=by
 refine bE H.f11 (by simp) ?_;refine ae ?_;refine aY ?_;refine bW (cs:=[.int .i64 g.b8,nv,iv]) rfl ?_;intro S1 s1 n1 g1;refine ae ?_;refine aY (dh (gR g1) ?_);refine aK (ae ?_);refine aG (aBW (pr:=pr) H (aW.same (E:=cI) bT hn s1) (aW.same (E:=eT) dH hi s1) (hc.same s1) hln hll hpr) ?_;rintro _ X ⟨hX,hr⟩;have sX:=s1.trans hX;have gX:=(hX.2 _ (show S.nx<S1.nx by omega)).trans g1;have hnX:=aW.same (E:=cI) bT hn sX;rcases hr with⟨he,rfl⟩ | ⟨he,sz,cn,ls,pl,R,rfl⟩
 ·refine dk @nP @nN ?_;refine dS (ae ?_);refine aN (by simp only[↓sU,sD,rE,↓reduceIte,rA,Ab he]) (aC (aJ ?_));refine ae ?_;refine aI (ae ?_);exact⟨sX,.inl ⟨he,rfl⟩⟩
 have hj:0<=j/\j<(g.bw.length:Int):=by
  unfold aDI at he;split at he
  ·rename_i h3;exact absurd he h3
  ·split at he
   ·cases he
   ·omega
 obtain⟨k,rfl⟩:∃k:Nat,j=(k:Int):=⟨j.toNat,au⟩;rw[Bq];have hk:k<g.bw.length:=by omega
 refine dk @nP @nN ?_;refine dS (ae ?_);refine aM (by simp only[↓sU,sD,rE,↓reduceIte,rA,Aa (show ¬ (0:Int)≠0 by omega)]) (aH ?_);try refine ae ?_
 refine dS (ae ?_);by_cases h0:cn k=0
 ·refine aN (by simp only[↓sU,sD,rE,↓reduceIte,rA,Ab h0]) (aC (aJ ?_));refine ae ?_;refine aI (ae ?_);exact⟨sX,.inr ⟨he,sz,cn,ls,pl,R,by unfold aFk;rw[if_pos h0]⟩⟩
 refine aM (by simp only[↓sU,sD,rE,↓reduceIte,rA,Aa h0]) (aH ?_);try refine ae ?_
 have hiX:=aW.same (E:=eT) dH hi sX;have hcX:=hc.same sX;refine aY (dh (gR gX) ?_);refine aK (ae ?_);refine aG (uS (pr:=pr) H hnX hiX hcX hln hll hpr) ?_;rintro _ Y ⟨hY,rfl⟩;have sY:=sX.trans hY;have gY:=(hY.2 _ (show S.nx<X.nx by have:=hX.1;omega)).trans gX;refine dm @nP @nN R.eN ?_;refine aY (dh (gR gY) ?_);refine aK (ae ?_);refine aG (sF H R (aW.same (E:=cI) bT hn sY) (hc.same sY)) ?_;rintro _ Z ⟨hZ,u,w,rfl, -,hr⟩;have il:=yC.is hr;try simp only[↓sU,sD,rE,↓reduceIte,rA,nP,nN]
 have hkl:k<((List.range g.bw.length).map ls).length:=by rw[Bc,Cq];exact hk
 have hia:=il.cw hkl;have hla:=il.ld hkl;have eg:((List.range g.bw.length).map ls).getD k 0=ls k:=by rw[Ae,Bk,Dz hk];rfl
 rw[eg] at hla;try simp only[↓sU,sD,rE,↓reduceIte,rA,aQ,hia,hla]
 refine aY (dm @aQ hia hla ?_);refine aI (ae ?_);exact⟨sY.trans hZ,.inr ⟨he,sz,cn,ls,pl,R,by unfold aFk;rw[if_neg h0]⟩⟩
def aCz(S:St)(cs:bo)(q:Rat):Prop:=bP S (.agg cs) q
theorem aCI:pJ aCz:=fun h hs=>bP.same h hs
theorem xT:∀ {a b:bo},noU a=true->noU b=true->noU (a++b)=true
 | [],_,_,h=>h
 | x::l,b,h,h'=>by
  cases x with
  | int k m=>cases k<;>first | exact xT (a:=l) h h' | (simp [noU] at h)
  | _=>exact xT (a:=l) h h'
theorem aCU:∀ {a:bo} (n:Nat),noU a=true->noU (a.take n)=true
 | [],n,_=>by rw[List.take_nil];rfl
 | x::l,0,_=>rfl
 | x::l,n+1,h=>by
  rw[Ex];cases x with
  | int k m=>cases k<;>first | exact aCU (a:=l) n h | (simp [noU] at h)
  | _=>exact aCU (a:=l) n h
theorem aDf:∀ {a:bo} (n:Nat),noU a=true->noU (a.drop n)=true
 | [],n,_=>by rw[List.drop_nil];rfl
 | x::l,0,h=>h
 | x::l,n+1,h=>by
  rw[Gs];cases x with
  | int k m=>cases k<;>first | exact aDf (a:=l) n h | (simp [noU] at h)
  | _=>exact aDf (a:=l) n h
theorem aOR:∀n,noU (repeatL [AV.bool false,.cd,.cd] n)=true/\(repeatL [AV.bool false,.cd,.cd] n).length=n * 3
 | 0=>⟨rfl,rfl⟩
 | n+1=>by
  rw[jP];have⟨h1,h2⟩:=aOR n;exact⟨xT rfl h1,by rw[Ba,h2];show 3+n * 3=(n+1) * 3;omega⟩
structure rU(X:St)(n i:Nat)(f:Nat->Rat)(C:bo):Prop where
 len:C.length=n * 3
 nou:noU C=true
 at':∀p,p<i->∃x y z,C[p * 3]? =some x/\C[p * 3+1]? =some y/\C[p * 3+2]? =some z/\bP X (.agg [x,y,z]) (f p)
theorem rU.same{X Y:St}{n i:Nat}{f:Nat->Rat}{C:bo}(h:rU X n i f C)(hs:Same X Y):rU Y n i f C:=by
 refine⟨h.len,h.nou,fun p hp=>?_⟩;have⟨x,y,z,h1,h2,h3,h4⟩:=h.at' p hp;exact⟨x,y,z,h1,h2,h3,h4.same hs⟩
theorem rU.is{X:St}{b n:Nat}{f:Nat->Rat}{C:bo}{o:Bool}{s:Nat}(h:rU X n n f C)(hb:X.h.get b=some (.cells C o s))(hl:b<X.nx):aW 3 aCz X (.sl b 0 n n o) ((List.range n).map f):=by
 refine .inr ⟨b,0,n,o,C,by rw[Bc,Cq],by rw[Bc,Cq];exact Af _,hl,by unfold bU;rw[hb];rfl,fun i a hi=>?_⟩;have hin:i<n:=by
  have:=(Aj.1 hi).1
  rwa [Bc,Cq] at this
 rw[Bk,Dz hin] at hi;cases hi;have⟨x,y,z,h1,h2,h3,h4⟩:=h.at' i hin;refine⟨[x,y,z],rfl,fun j w hj=>?_,h4⟩;rw[Au]
 match j,hj with
 | 0,hj=>cases hj;exact h1
 | 1,hj=>cases hj;exact h2
 | 2,hj=>cases hj;exact h3
theorem rU.put{X Z:St}{b n i:Nat}{f:Nat->Rat}{C:bo}{x y z:AV}{o:Bool}{s:Nat}(h:rU X n i f C)(hi:i<n)(hq:bP X (.agg [x,y,z]) (f i))(hb:X.h.get b=some (.cells C o s))(hs:bN b X Z)(hz:Z.h.get b=some (.cells (C.take (i * 3)++ [x,y,z]++C.drop (i * 3+3)) o s)):rU Z n (i+1) f (C.take (i * 3)++ [x,y,z]++C.drop (i * 3+3)):=by
 have hl:=h.len;have ht:(C.take (i * 3)).length=i * 3:=by rw[Bh];omega
 refine⟨?_,xT (xT (aCU _ h.nou) hq.noU) (aDf _ h.nou),fun p hp=>?_⟩
 ·rw[Ba,Ba,ht,Dk];show i * 3+3+(C.length - (i * 3+3))=n * 3;omega
 by_cases e:p=i
 ·subst e;refine⟨x,y,z,?_,?_,?_,hq.stU hb h.nou hs hz⟩
  ·rw[Bn,Az au,ht,show p * 3 - p * 3=0 by omega];rfl
  ·rw[Bn,Az au,ht,show p * 3+1 - p * 3=1 by omega];rfl
  ·rw[Bn,Az au,ht,show p * 3+2 - p * 3=2 by omega];rfl
 ·have⟨x',y',z',h1,h2,h3,h4⟩:=h.at' p au;have key:∀j,j<3->(C.take (i * 3)++ [x,y,z]++C.drop (i * 3+3))[p * 3+j]? =C[p * 3+j]? :=fun j hj=>by
   rw[Bn,Ay au,List.getElem?_take_of_lt au]
  exact⟨x',y',z',(key 0 au).trans h1,(key 1 au).trans h2,(key 2 au).trans h3,h4.stU hb h.nou hs hz⟩
theorem aNH{d m:Nat}{a:vH}{l:List AO}{F:Fr}{S:St}{Q:Fr->St->Prop}{v:AV}{bl:AB}(he:vC a F S.nx=some (v,bl))(h:∀S1,Same S S1->S1.nx=S.nx+1->S1.h.get S.nx=some bl->lO S S1->pA fns l (cB (some d) F v) S1 Q):pA fns (⟨some d,.a a,none,m⟩::l) F S Q:=by
 rw[sA];refine⟨(v,bl),he,h _ (Same.alloc S _) rfl ?_ (oC S _)⟩;simp only;rw[dr,if_pos rfl]
noncomputable def vM(g:aZ)(cn:Nat->Int)(sz:Int)(p:Nat):Rat:=((iM g cn p g.bw.length:Int):Rat) * ((sz:Int):Rat)⁻¹
def aM3(g:aZ)(ch:bm)(pr:Nat->Nat)(S:St)(r:AV):Prop:=
 (nB g ch pr≠0/\r= .tup [.cd,.int .i64 (nB g ch pr)])\/(nB g ch pr=0/\∃sz cn ls pl v,yB g ch pr sz cn ls pl/\r= .tup [v,.int .i64 0]/\aW 3 aCz S v ((List.range g.b8.toNat).map (vM g cn sz)))
structure aQq(Y:St)(gb mb n:Nat)(f:Nat->Rat)(ov:AV)(i:Nat)(A:bK)(X:St):Prop where
 inr:A.inr=false
 same:Same Y X
 frs:lO Y X
 row:∃C,X.h.get mb=some (.cells C false 0)/\rU X n i f C
 l2:mb<X.nx
 t2:aD 2 A.F= .ptr gb 0
 t8:aD 8 A.F=ov
 t9:aD 9 A.F= .sl mb 0 n n false
 t28:aD 28 A.F= .int .i64 ((n:Nat):Int)
 t29:aD 29 A.F= .int .i64 (i:Int)
theorem aI9{S:St}{nv iv cv:AV}{g:aZ}{ch:bm}{pr:Nat->Nat}(H:Has fns)(hL:Laid S)(hF:kO S)(hn:aW 6 cI S nv g.bw)(hi:aW 2 eT S iv g.b7)(hc:dE .i64 S cv ch)(hln:g.bw.length<=100000)(hll:ch.length<=10000000)(hpr:dJ g=0->kY g pr):
  eR fns (.fn 12 [] []) [.agg [.int .i64 g.b8,nv,iv],cv] S fun r S'=>Same S S'/\aM3 g ch pr S' r:=by
 refine bE H.f12 (by simp) ?_;refine ap ?_;refine aY ?_;refine oF (cs:=[.int .i64 g.b8,nv,iv]) rfl ?_;intro S1 s1 n1 g1 f1;refine ae ?_;refine aY (dh (gR g1) ?_);refine aK (ae ?_);refine aG (fT (aBJ (pr:=pr) H (aW.same (E:=cI) bT hn s1) (aW.same (E:=eT) dH hi s1) (hc.same s1) hln hll hpr)) ?_;rintro _ X ⟨⟨hX,rfl⟩,f2⟩;have sX:=s1.trans hX;have gX:=(hX.2 _ (show S.nx<S1.nx by omega)).trans g1;have hnX:=aW.same (E:=cI) bT hn sX;refine dk @nP @nN ?_;refine dS (ae ?_);by_cases hR:nB g ch pr=0;rotate_left
 ·refine aN (by simp only[↓sU,sD,rE,↓reduceIte,rA,Ab hR]) (aC (aJ ?_));refine ae ?_;refine aI (ae ?_);exact⟨sX,.inl ⟨hR,rfl⟩⟩
 refine aM (by simp only[↓sU,sD,rE,↓reduceIte,rA,Aa (show ¬nB g ch pr≠0 from fun h=>h hR)]) (aH ?_);try refine ae ?_
 have⟨sz,cn,ls,pl,R⟩:=aFW hR hpr;refine aY (dk (gR gX) R.eN ?_);refine aK (ae ?_);refine aG (fT (aAf H R.G hnX (hc.same sX) R.fit R.C (aw R.s1) R.s2)) ?_;rintro r Y ⟨⟨hr,hY⟩,f3⟩;have il:=yC.is hr;have sY:=sX.trans hY;have fY:=f1.trans (f2.trans f3);have lgY:S.nx<Y.nx:=by have:=hX.1;have:=hY.1;omega
 have gY:=(hY.2 _ (show S.nx<X.nx by have:=hX.1;omega)).trans gX;obtain⟨N,hN⟩:∃N:Nat,g.b8=(N:Int):=⟨g.b8.toNat,aw R.G.prs⟩;have hN4:N<=4:=by have:=R.G.prs;omega
 have hnat:dY (.int .i64 g.b8)=some N:=by rw[hN,aQ]
 try refine ap ?_
 refine aY (ed @aF @aE (rJ gY) ?_);refine aNH (kZ (n:=N) (ar hnat) (ar hnat) ax ax) ?_;intro Z z1 nz gz fz;refine ae ?_;have⟨zz1,zz2⟩:=aOR N;generalize repeatL [AV.bool false,.cd,.cd] N=C0 at gz zz1 zz2;have mbe:Y.nx<Z.nx:=by omega
 have hlen:kT (.sl Y.nx 0 N N false)=some (.int .i64 ((N:Nat):Int)):=rfl;refine aC (aX (Q:=fun o A' X=>o= .normal/\aQq Y S.nx Y.nx N (vM g cn sz) r N A' X) (aC (aJ ?_)) ?_);rotate_left
 ·rintro o ⟨F,inr⟩ W ⟨rfl,M⟩;obtain rfl:inr=false:=M.inr;have t9:=M.t9;simp only at t9;have⟨C,hC,hA⟩:=M.row;refine aY (dh t9 ?_);refine aI (ae ?_);exact⟨sY.trans M.same,.inr ⟨hR,sz,cn,ls,pl,_,R,rfl,by rw[hN,Bq];exact hA.is hC M.l2⟩⟩
 refine dh hlen ?_;refine aO (bJ (fun k A X=>∃i,i+k=N/\aQq Y S.nx Y.nx N (vM g cn sz) r i A X) ?_ N _ _ ⟨0,au,rfl,z1,fz,⟨C0,gz,zz2,zz1,fun p hp=>absurd hp au⟩,mbe,af,af,af,af,ag⟩);rintro k ⟨F,inr⟩ W ⟨i,hik,M⟩;obtain rfl:inr=false:=M.inr;have t2:=M.t2;have t8:=M.t8;have t9:=M.t9;have t28:=M.t28;have t29:=M.t29;simp only at t2 t8 t9 t28 t29;refine aY (dk t28 t29 ?_);by_cases hlt:i<N;rotate_left
 ·refine aC (aM (by simp only[↓sU,sD,rE,↓reduceIte,rA,Aa (show ¬ (i:Int)<((N:Nat):Int) by omega)]) (bD ?_));refine ae ?_;obtain rfl:i=N:=by omega
  exact⟨rfl,M.same,M.frs,M.row,M.l2,ah t2,ah t8,ah t9,ah t28,ah t29⟩
 refine aC (aN (by simp only[↓sU,sD,rE,↓reduceIte,rA,Ab (show(i:Int)<((N:Nat):Int) by omega)]) (aH ?_));try refine ae ?_
 have w0:=dq i
 have sW:=sY.trans M.same;have fW:=fY.trans M.frs;have gW:=(M.same.2 _ lgY).trans gY;refine aC (aO (aC (aJ ?_)));refine dh t29 ?_;refine aY (du t9 t2 t8 (gR gW) ?_);refine aK (ae ?_);refine aG (fT (aJP (p:=i) H (hL.same sW) (fW.1 hF) R.G R.pay (aW.same (E:=cI) bT hn sW) (il.same M.same) rfl R.cb R.C.zero R.s1 R.s2 au)) ?_;rintro _ V ⟨⟨x,y,z,rfl,hq,hV⟩,fV⟩;have⟨C,hC,hA⟩:=M.row;have hCV:=(hV.2 _ M.l2).trans hC;have hAV:=hA.same hV;have hCl:=hAV.len;have ia:dN (.slice 3) (.sl Y.nx 0 N N false) i=some (.ptr Y.nx (i * 3)):=by
  simp only[dN];rw[show Nat.blt i N=true from Ai hlt,aP,Au]
 refine ef @nP @nN @aQ ia ?_;refine gB (v:=.undef) (S1:=⟨V.h.set Y.nx (some (.cells (C.take (i * 3)++ [x,y,z]++C.drop (i * 3+3)) false 0)),V.nx⟩) (fun call=>by refine ec @eC @aR ?_;exact aOX (e:=[x,y,z]) hCV (by show i * 3+3<=C.length;omega) rfl) ?_;refine ae ?_;refine aY (ae ?_);refine aM (by simp only[↓sU,sD,rE,↓reduceIte,rA,Aa (show ¬ (0:Int)≠0 by omega)]) (aH ?_);try refine ae ?_
 refine aJ (dk t29 w0 ?_);have sb:bN Y.nx V ⟨V.h.set Y.nx (some (.cells (C.take (i * 3)++ [x,y,z]++C.drop (i * 3+3)) false 0)),V.nx⟩:=(bN.refl _ _).put _;have gb:(⟨V.h.set Y.nx (some (.cells (C.take (i * 3)++ [x,y,z]++C.drop (i * 3+3)) false 0)),V.nx⟩:St).h.get Y.nx=some (.cells (C.take (i * 3)++ [x,y,z]++C.drop (i * 3+3)) false 0):=by simp only;rw[dr,if_pos rfl]
 exact⟨k - 1,au,i+1,au,rfl,sb.same (M.same.trans hV) (Af _),M.frs.trans (fV.trans (pH hCV _)),⟨_,gb,hAV.put hlt hq hCV sb gb⟩,Ag M.l2 hV.1,ah t2,ah t8,ah t9,ah t28,af⟩
def aMX(r:AV):Prop:=∃d,r= .agg [.bool false,.cd,d]
theorem aEm{S:St}{neg:Bool}{a b:AV}{x y K:Nat}(H:Has fns)(ha:bV S a x)(hb:bV S b y)(hx:x<B ^ K)(hy:y<B ^ K)(hK:K<=19000)(hy0:0<y):eR fns (.fn 61 [] []) [.bool neg,a,b] S fun r S'=>bP S' r (mkRat (sg neg x) y)/\(x=0->aMX r)/\Same S S':=by
 have⟨n,hn,hn0⟩:=tW ha;refine bE H.f61 (by simp) ?_;refine aj ?_;refine aY ?_;refine bY ?_;intro S1 s1 n1 c1;refine aj ?_;refine dS (eo hn ?_);by_cases hx0:x=0
 ·refine aN (by simp only[↓stU,aB,rE,↓reduceIte,Ab (show(n:Int)=0 by omega)]) ?_;refine aY ?_;refine nJ (jW (k:=.u32) (n:=(1:Int)) (ak)) ?_;intro S2 s2 n2 c2;refine er @aM4 @aHu ?_;have hc:S2.h.get S.nx=some (.cells [.bool false,.cd,.cd] false 0):=by rw[s2.2 _ au];exact c1
  have h1:bV S2 (.sl S1.nx 0 1 1 false) 1:=⟨[1],fL (l:=[1]) (o:=false) (sz:=0) c2 au rfl (Af _),vO,lT⟩;have hv:bP S2 (.agg [.bool false,.cd,.sl S1.nx 0 1 1 false]) 0:=yQ h1;refine cR (b:=S.nx) (ak) (by simp only[↓stU,aB,rE,↓reduceIte,aR];rfl) hc rfl rfl ?_;intro S3 s3 n3 c3;refine aj ?_;refine aI (er @bF (kJ c3) ?_);rw[hx0,show sg neg 0=0 by cases neg<;>rfl,Rat.zero_mkRat];exact⟨hv.st hc rfl s3 c3,fun _=>⟨_,rfl⟩,s3.same (s1.trans s2) (Af _)⟩
 ·refine aM (by simp only[↓stU,aB,rE,↓reduceIte,Aa (show ¬ (n:Int)=0 by omega)]) (aH ?_);refine aj ?_;refine aY (aj ?_);refine aK (aj ?_);refine aG (aAz H (ha.same s1) (hb.same s1) hx hy hK) ?_;rintro gv S2 ⟨hg,s2⟩;try refine aj ?_
  have hg0:0<Nat.gcd x y:=Dj _ hy0;refine aY (aj ?_);refine aK (aj ?_);refine aG (pU H (ha.same (s1.trans s2)) hg hx hK hg0) ?_;rintro _ S3 ⟨q,u,rfl,hq,hu,s3⟩;refine er @nP @nN ?_;refine aY (aj ?_);refine aK (aj ?_);refine aG (pU H (hb.same (s1.trans (s2.trans s3))) (hg.same s3) hy hK hg0) ?_;rintro _ S4 ⟨q',u',rfl,hq',hu',s4⟩;refine er @nP @nN ?_;have⟨l1,l2,l3⟩:=lowest (neg:=neg) (n:=x) (d:=y) rfl au;have hq4:=hq.same s4;refine aY (ew @sC @iV (eK hq4) (eK hq') ?_);have hc:S4.h.get S.nx=some (.cells [.bool false,.cd,.cd] false 0):=by rw[(s2.trans (s3.trans s4)).2 _ au];exact c1
  have hv:bP S4 (.agg [.bool neg,q,q']) (mkRat (sg neg x) y):=by
   rw[<-l1];refine mI hq4 hq' l3 l2 (fun h=>?_);have:=Gc (Nat.le_of_dvd au (Cy x y)) hg0;omega
  refine cR (b:=S.nx) (ak) (by simp only[↓stU,aB,rE,↓reduceIte,aR];rfl) hc rfl rfl ?_;intro S5 s5 n5 c5;refine aj ?_;refine aI (er @bF (kJ c5) ?_);exact⟨hv.st hc rfl s5 c5,fun h=>absurd h hx0,s5.same (s1.trans (s2.trans (s3.trans s4))) (Af _)⟩
theorem aHL{S:St}{a b:AV}{p q:Rat}{K:Nat}(H:Has fns)(ha:bP S a p)(hb:bP S b q)(hp:pG K p)(hq:pG K q)(hK:K<=9000)(h0:q.num≠0):eR fns (.fn 38 [] []) [a,b] S fun r S'=>bP S' r (p * q⁻¹)/\(p=0->aMX r)/\Same S S':=by
 obtain⟨nv,dv,rfl,ha1,ha2⟩:=id ha;obtain⟨mv,ev,rfl,hb1,hb2⟩:=id hb;have FX:∀ {n},n<B ^ K->Fits n:=fun h=>Fits.of h au;refine bE H.f38 (by simp) ?_;refine aj ?_;refine aY ?_;refine bW (by simp only[↓stU,aB,rE,↓reduceIte,aR];rfl) ?_;intro S1 s1 n1 c1;refine bW (by simp only[↓stU,aB,rE,↓reduceIte,aR];rfl) ?_;intro S2 s2 n2 c2;refine bY ?_;intro S3 s3 n3 c3;refine aj ?_;have g1:S3.h.get S.nx=some (.cells [.bool (decide (p.num<0)),nv,dv] false 0):=by rw[s3.2 _ au,s2.2 _ au];exact c1
 have g2:S3.h.get S1.nx=some (.cells [.bool (decide (q.num<0)),mv,ev] false 0):=by rw[s3.2 _ au];exact c2
 have sS:=s1.trans (s2.trans s3);have lt1:S.nx<S3.nx:=by omega
 have lt2:S1.nx<S3.nx:=by omega
 have ne1:¬S.nx=S2.nx:=by omega
 have ne2:¬S1.nx=S2.nx:=by omega
 refine aC (eM (fun c=>c=S2.nx) ?_);intro S4 s4;simp only[↓sU,sD,rE,↓reduceIte,rA,aF,aE,aV,eJ g1,eY g1,eJ g2,dC g2,lt1,lt2,ne1,ne2,Ak,cP ha1,cP hb2,aCq];refine bH rfl ?_;try refine ae ?_
 refine aG (gL H (ha1.same (sS.trans s4)) (hb2.same (sS.trans s4)) (FX hp.1) (FX hq.2)) ?_;rintro xv S5 ⟨hx,s5⟩;refine⟨s5,?_⟩;simp only[↓sU,sD,rE,↓reduceIte,rA,aF,aE,aV,dC g1,eY g2,lt1,lt2,ne1,ne2,Ak,cP ha2,cP hb1];refine bH rfl ?_;try refine ae ?_
 have s45:=s4.trans s5;refine aG (gL H (ha2.same (sS.trans s45)) (hb1.same (sS.trans s45)) (FX hp.2) (FX hq.1)) ?_;rintro yv S6 ⟨hy,s6⟩;refine⟨s6,?_⟩;try refine ae ?_
 refine bH rfl ?_;try refine ae ?_
 have hd:0<p.den * q.num.natAbs:=Em (aw p.den_nz) au;refine aG (aEm H (hx.same s6) hy (fD hp.1 hq.2) (fD hp.2 hq.1) au hd) ?_;rintro v S7 ⟨hv,hz,s7⟩;refine⟨s7,?_⟩;obtain⟨v0,v1,v2,rfl⟩:=hv.cells;have s37:=s45.trans (s6.trans s7);have c7:S7.h.get S2.nx=some (.cells [.bool false,.cd,.cd] false 0):=by rw[s37.2 _ au];exact c3
 try refine ae ?_
 refine jJ (b:=S2.nx) rfl (af) (by simp only[↓sU,sD,rE,↓reduceIte,rA,aR];rfl) c7 rfl rfl rfl ?_;intro S8 s8 n8 c8;refine ae ?_;refine aI (dk @bF (kJ c8) ?_);refine⟨?_,fun h=>hz (by rw[h];exact Hf _),s8.same (sS.trans s37) au⟩;rw[<-aOj h0];exact hv.st c7 rfl s8 c8
theorem aHv{X:St}{v:AV}{l:bt}{c:Nat}{C:bo}{o:Bool}{s:Nat}(h:bQ X v l)(hl:l≠ [])(hc:X.h.get c=some (.cells C o s))(hn:noU C=true):kM v≠some c:=by
 rcases h with⟨h, -⟩ | ⟨b1,off,cap,o1,cs1,rfl,hcap,hlt,hcs,hel⟩
 ·exact absurd (List.map_eq_nil_iff.1 h) hl
 ·intro e;cases e;cases l with
  | nil=>exact absurd rfl hl
  | cons x l=>
   have:=hel 0 (Int.ofNat x) (by simp);unfold bU at hcs;rw[hc,aL] at hcs;cases hcs;exact absurd this (aFD hn)
theorem aBF{X Z:St}{v:AV}{l:bt}(h:bQ X v l)(hn:X.nx<=Z.nx)(hh:∀c,kM v=some c->Z.h.get c=X.h.get c):bQ Z v l:=by
 rcases h with h | ⟨b1,off,cap,o1,cs1,rfl,hcap,hlt,hcs,hel⟩
 ·exact .inl h
 ·refine .inr ⟨b1,off,cap,o1,cs1,rfl,hcap,Ag hlt hn,?_,hel⟩;unfold bU at hcs ⊢;rw[hh b1 rfl];exact hcs
theorem aGC{X:St}{v:AV}{l:bt}{c:Nat}(h:bQ X v l)(hc:kM v=some c):c<X.nx:=by
 rcases h with⟨-,rfl | rfl⟩ | ⟨b1,off,cap,o1,cs1,rfl,hcap,hlt,hcs,hel⟩
 ·cases hc
 ·cases hc
 ·cases hc;exact hlt
theorem aG6{X Z:St}{x y z:AV}{q:Rat}(h:bP X (.agg [x,y,z]) q)(h0:q=0->y= .cd)(hn:X.nx<=Z.nx){pv:AV}(hh:∀c,c<X.nx->kM pv≠some c->Z.h.get c=X.h.get c)(hp:∀c,kM pv=some c->∃C o s,X.h.get c=some (.cells C o s)/\noU C=true):bP Z (.agg [x,y,z]) q:=by
 have⟨nv,dv,h1,⟨l,h2,h3,h4⟩,⟨l',h5,h6,h7⟩⟩:=h;simp only[AV.agg.injEq,List.cons.injEq,and_true] at h1;obtain⟨rfl,rfl,rfl⟩:=h1;refine⟨_,_,rfl,⟨l,?_,h3,h4⟩,⟨l',?_,h6,h7⟩⟩
 ·by_cases e:q=0
  ·have ey:=h0 e;subst ey;exact aBF h2 hn fun c hc=>by cases hc
  ·refine aBF h2 hn fun c hc=>hh c (aGC h2 hc) fun hpc=>?_;have⟨C,o,s,g1,g2⟩:=hp c hpc;refine aHv h2 (fun hl=>e ?_) g1 g2 hc;rw[hl] at h4;have:q.num=0:=by
    have:q.num.natAbs=0:=h4.symm;omega
   exact Rat.num_eq_zero.1 this
 ·refine aBF h5 hn fun c hc=>hh c (aGC h5 hc) fun hpc=>?_;have⟨C,o,s,g1,g2⟩:=hp c hpc;refine aHv h5 (fun hl=>?_) g1 g2 hc;rw[hl] at h7;exact q.den_nz h7.symm
structure vA(X:St)(i:Nat)(f:Nat->Rat)(C:bo):Prop where
 ats:rU X i i f C
 nil':∀p,p<i->f p=0->C[p * 3+1]? =some .cd
theorem vA.same{X Y:St}{i:Nat}{f:Nat->Rat}{C:bo}(h:vA X i f C)(hs:Same X Y):vA Y i f C:=⟨h.ats.same hs,h.nil'⟩
theorem vA.push{X Z:St}{i:Nat}{f:Nat->Rat}{C:bo}{x y z pv:AV}(h:vA X i f C)(hq:bP X (.agg [x,y,z]) (f i))(h0:f i=0->y= .cd)(hn:X.nx<=Z.nx)(hh:∀c,c<X.nx->kM pv≠some c->Z.h.get c=X.h.get c)(hp:∀c,kM pv=some c->∃o s,X.h.get c=some (.cells C o s)):vA Z (i+1) f (C++ [x,y,z]):=by
 have hl:=h.ats.len;have hp':∀c,kM pv=some c->∃C o s,X.h.get c=some (.cells C o s)/\noU C=true:=fun c hc=>by
  have⟨o,s,e⟩:=hp c hc;exact⟨C,o,s,e,h.ats.nou⟩
 refine⟨⟨?_,xT h.ats.nou hq.noU,fun p hpi=>?_⟩,fun p hpi hf=>?_⟩
 ·rw[Ba,hl];show i * 3+3=(i+1) * 3;omega
 ·by_cases e:p=i
  ·subst e;refine⟨x,y,z,?_,?_,?_,aG6 hq h0 hn hh hp'⟩
   ·rw[Az au,hl,show p * 3 - p * 3=0 by omega];rfl
   ·rw[Az au,hl,show p * 3+1 - p * 3=1 by omega];rfl
   ·rw[Az au,hl,show p * 3+2 - p * 3=2 by omega];rfl
  ·have⟨x',y',z',h1,h2,h3,h4⟩:=h.ats.at' p au;refine⟨x',y',z',?_,?_,?_,aG6 h4 (fun hf=>?_) hn hh hp'⟩
   ·rw[Ay au];exact h1
   ·rw[Ay au];exact h2
   ·rw[Ay au];exact h3
   ·have:=h.nil' p au hf;rw[h2] at this;exact Bz this
 ·by_cases e:p=i
  ·subst e;rw[Az au,hl,show p * 3+1 - p * 3=1 by omega,h0 hf];rfl
  ·rw[Ay au];exact h.nil' p au hf
theorem vA.is{X S0:St}{pv:AV}{n:Nat}{f:Nat->Rat}{C:bo}(h:vA X n f C)(hg:GrW 3 S0 X pv n C):aW 3 aCz X pv ((List.range n).map f):=by
 rcases hg with⟨rfl,rfl, -⟩ | ⟨b,rfl,h1,h2,h3,h4⟩
 ·exact .inl ⟨rfl,.inl rfl⟩
 ·exact h.ats.is h3 h2
theorem aOU{t:Nat}{x:cL}{F:Fr}{id:Nat}{x0 x1 x2 z0 z1 z2:AV}(hx:x.val F= .agg [x0,x1,x2]):vC (.cq t 3 1 [z0,z1,z2] [(0,x)]) F id=some (.sl id 0 1 1 false,.cells [x0,x1,x2] false 0):=by
 show(aU (iJ (repeatL [z0,z1,z2] 1) [(0 * 3,3,x.val F)]) fun cs=>some (AV.sl id 0 1 1 false,AB.cells cs false 0))=_;rw[hx];show(aU (aU (AV.cells (.agg [x0,x1,x2])) _) _)=_;rw[aR,aL];rfl
theorem aPc{S:St}{t:Nat}{x0 x1 x2:AV}{o:Bool}{sz:Nat}(h:S.h.get t=some (.cells [x0,x1,x2] o sz)):fE (.sl t 0 1 1 false) S.h 3 1=some [x0,x1,x2]:=by
 show aU (bU S.h t) (fun c=>cut c 0 (1 * 3))=_;unfold bU;rw[h];rfl
theorem aNi{S:St}{v:AV}{q:Rat}{b:Nat}{bl:Option AB}(h:bP S v q)(hb:S.h.get b=none):bP ⟨S.h.set b bl,S.nx⟩ v q:=by
 have key:∀ {v:AV} {l:bt},bQ S v l->bQ ⟨S.h.set b bl,S.nx⟩ v l:=by
  intro v l h;rcases h with h | ⟨b1,off,cap,o1,cs1,rfl,hcap,hlt,hcs,hel⟩
  ·exact .inl h
  ·refine .inr ⟨b1,off,cap,o1,cs1,rfl,hcap,hlt,?_,hel⟩;unfold bU at hcs ⊢;simp only;rw[dr];split
   ·rename_i e;rw[e,hb] at hcs;cases hcs
   ·exact hcs
 have⟨nv,dv,h1,⟨l,h2,h3⟩,⟨l',h4,h5⟩⟩:=h;exact⟨nv,dv,h1,⟨l,key h2,h3⟩,⟨l',key h4,h5⟩⟩
theorem aMW{m sz:Int}(h:(m:Rat) * ((sz:Int):Rat)⁻¹ =0)(hs:1<=sz):(m:Rat)=0:=by
 have hb:((sz:Int):Rat)≠0:=fun e=>by
  have:((sz:Int):Rat).num=0:=by rw[e];rfl
  have:sz=0:=this;omega
 have:=Hb (fun r:Rat=>r * ((sz:Int):Rat)) h;simp only[Rat.mul_assoc,Rat.inv_mul_cancel _ hb,Rat.mul_one,Rat.zero_mul] at this;exact this
section
variable {F:Fr}{inr:Bool}{X Y:St}{sb gb i j p:Nat}{pv q0 q1 q2 g0 nv iv lv:AV}{C:bo}{g:aZ}{l:bm}{f:Nat->Rat}{m sz:Int}{Q:Out->bK->St->Prop}
theorem aNp(H:Has fns)(hF:kO X)(p6:aD 6 F= .int .i64 sz)(p10:aD 10 F=pv)(p12:aD 12 F= .ptr sb 0)(hs:X.h.get sb=some (.cells [q0,q1,q2] false 0))(lsb:sb<X.nx)(hq:bP X (.agg [q0,q1,q2]) (m:Rat))(hb:pG 3 (m:Rat))(hz1:1<=sz)(hz2:sz<=1000000000000000)(hfi:f i=(m:Rat) * ((sz:Int):Rat)⁻¹)(hS:Same Y X)(hg:GrW 3 Y X pv i C)(hA:vA X i f C)(hi:i<=1000)
  (hQ:∀F' Z pv' C',(∀t,t<69->t≠10->aD t F'=aD t F)->aD 10 F'=pv'->Same Y Z->GrW 3 Y Z pv' (i+1) C'->vA Z (i+1) f C'->Q .normal ⟨F',inr⟩ Z):
  oD fns (.drw aNW) ⟨F,inr⟩ X Q:=by
 have d1:=pX (n:=3) hs rfl;have svq:=oO hq;have svp:=hg.self;refine xC 63 (K:=6) (W:=fun _=>False) (R:=fun F' S' ps=>∃x y z,ps= [⟨5,X.nx+5,.cells [x,y,z] false 0⟩]/\Same X S'/\X.nx+8<=S'.nx/\S'.h.get (X.nx+5)=none/\(∀t,t<69->aD t F'=aD t F)/\aD 69 F'=pv/\aD 74 F'= .sl (X.nx+5) 0 1 1 false/\bP S' (.agg [x,y,z]) (f i)/\(f i=0->y= .cd)) (Bt 6 _).symm rfl ay ay  ?_ ?_
 ·intro S1 s1 hS1 nS1;have nS1:S1.nx=X.nx+8:=nS1;simp only[aNW,Ex,Fq];simp only[↓sU,sD,rE,↓reduceIte,rA,p10,p12,p6,d1,svq,svp,lsb,Ak];refine bH rfl ?_;try refine ae ?_
  refine aG (rR H au au) ?_;rintro v2 S2 ⟨h2,s2⟩;refine⟨s2,?_⟩;try refine ae ?_
  refine bH rfl ?_;try refine ae ?_
  refine aG (aHL (K:=3) H (hq.same (s1.trans s2)) h2 hb (lK au au) ay (by show sz≠0;omega)) ?_;rintro v3 S3 ⟨h3,z3,s3⟩;refine⟨s3,?_⟩;obtain⟨x,y,z,rfl⟩:=h3.cells;try refine ae ?_
  rw[aOU (x0:=x) (x1:=y) (x2:=z) (af),nI];try refine ae ?_
  have m2:=s2.1;have m3:=s3.1;refine⟨x,y,z,rfl,s1.trans (s2.trans s3),au,?_,fun t ht=>by repeat (rw[if_neg au]),by rw[hfi];exact h3,fun h0=>?_⟩
  ·rw[(s2.trans s3).2 _ au,hS1];exact hF _ au
  ·rw[hfi] at h0;obtain⟨d,e⟩:=z3 (aMW h0 hz1);simp only[AV.agg.injEq,List.cons.injEq,and_true] at e;exact e.2.1
 rintro F' S' ps hs ls ⟨x,y,z,rfl,sX',nS',fr,hk,k69,k74,hr,h0⟩ hlast hld;obtain⟨U,hU⟩:∃U:St,U=⟨S'.h.set (X.nx+5) (some (.cells [x,y,z] false 0)),S'.nx⟩:=⟨_,rfl⟩;have sXU:Same X U:=by rw[hU];exact⟨sX'.1,fun c hc=>by simp only;rw[dr,if_neg au];exact sX'.2 c hc⟩
 have gU:U.h.get (X.nx+5)=some (.cells [x,y,z] false 0):=by rw[hU];simp only;rw[dr,if_pos rfl]
 have hrU:bP U (.agg [x,y,z]) (f i):=by rw[hU];exact aNi hr fr
 obtain⟨pv',Z,eA,gZ,sYZ,nZ,rZ,bZ⟩:=GrW.appB (bytes:=56) (m:=1) (x:=.sl (X.nx+5) 0 1 1 false) (new:=[x,y,z]) (hg.step sXU) (hS.trans sXU) rfl (aPc gU) rfl au ax ax;simp only[aNW,Gs,Dd];refine sT (v:=pv') (S1:=Z) hlast (fun call=>?_) ?_
 ·rw[nG (show Nat.testBit 63 5=true by decide),tR];simp only[eO,k69,k74];rw[<-hU];exact eA
 rw[nG (show Nat.testBit 63 5=true by decide)];simp only[↓sU,sD,rE,↓reduceIte,rA,pP,bX,aS];rw[mT];refine⟨?_,?_⟩
 ·simp only[Eh,Bn,Gi,Cx,Cn];exact hld _ _
 simp only[cS,fZ];refine hQ _ _ pv' _ (fun t ht h10=>?_) (af) sYZ gZ ?_
 ·rw[bG,if_neg au,bG,if_neg au];exact hk t ht
 ·exact vA.push (pv:=pv) (hA.same sXU) hrU h0 nZ rZ fun c hc=>⟨_,_,((hg.step sXU).blk hc).2.2⟩
theorem aOv(H:Has fns)(p2:aD 2 F= .ptr gb 0)(p8:aD 8 F=lv)(p11:aD 11 F= .int .i64 (p:Int))(p12:aD 12 F= .ptr sb 0)(p13:aD 13 F= .int .i64 (j:Int))(hgb:X.h.get gb=some (.cells [g0,nv,iv] false 0))(lgb:gb<X.nx)(hs:X.h.get sb=some (.cells [q0,q1,q2] false 0))(lsb:sb<X.nx)(hq:bP X (.agg [q0,q1,q2]) (m:Rat))(hb:pG 3 (m:Rat))(hn:aW 6 cI X nv g.bw)(hj:j<g.bw.length)(hp:p<(cj g j).pay.length)(hpb: -1000000<=(cj g j).pay.getD p 0/\(cj g j).pay.getD p 0<=1000000)(hlv:dE .i64 X lv l)(hjl:j<l.length)(hcb:0<=l.getD j 0/\l.getD j 0<=1000000000000000)
  (hQ:∀F' Z w0 w1 w2,(∀t,t<51->aD t F'=aD t F)->bN sb X Z->Z.h.get sb=some (.cells [w0,w1,w2] false 0)->bP Z (.agg [w0,w1,w2]) ((m:Rat)+(((cj g j).pay.getD p 0:Int):Rat) * ((l.getD j 0:Int):Rat))->Q .normal ⟨F',inr⟩ Z):
  oD fns (.drw aNl) ⟨F,inr⟩ X Q:=by
 have d1:=pX (n:=3) hs rfl;have svq:=oO hq;have svn:=aW.self hn;have svl:=dE.self hlv;obtain⟨_,bx,qx,hiax,hbx,_,⟨xa,xw,xp,rfl,hxa,hxw,hxp⟩,_,hfx⟩:=aW.at hn ay (gJ hj);have hf5:=hfx 5 _ rfl;have svp:=dE.self hxp;have⟨pb,po,hbP,lbP,dP⟩:=dE.ptr' hxp hp;have⟨cb,co,hbO,lbO,dO⟩:=dE.ptr' hlv hjl;generalize (cj g j).pay.getD p 0=pz at *;generalize l.getD j 0=cz at *;refine xC 262143 (K:=18) (W:=fun _=>False) (R:=fun F' S' ps=>ps= []/\Same X S'/\(∀t,t<51->aD t F'=aD t F)/\∃w0 w1 w2,aD 68 F'= .agg [w0,w1,w2]/\bP S' (.agg [w0,w1,w2]) ((m:Rat)+((pz:Int):Rat) * ((cz:Int):Rat))) (Bt 18 _).symm rfl ay ay  ?_ ?_
 ·intro S1 s1 hS1 nS1;simp only[aNl,Ex,Fq];simp only[↓sU,sD,rE,↓reduceIte,rA,p2,p8,p11,p12,p13,d1,svq,svn,svl,svp,Ak,aF,aV,aE,fG hgb,aQ,hiax,hf5,hbP,dP];refine⟨lsb,lgb,hbx,lbP,bH rfl ?_⟩;try refine ae ?_
  refine aG (rR H au au) ?_;rintro v2 S2 ⟨h2,s2⟩;refine⟨s2,?_⟩;refine dy p8 p13 @aQ hbO dO @Ak ?_;refine⟨lbO,bH rfl ?_⟩;try refine ae ?_
  refine aG (rR H au au) ?_;rintro v3 S3 ⟨h3,s3⟩;refine⟨s3,?_⟩;try refine ae ?_
  refine bH rfl ?_;try refine ae ?_
  refine aG (aFS (K:=3) H (h2.same s3) h3 (lK au au) (lK au au) ay) ?_;rintro v4 S4 ⟨h4,s4⟩;refine⟨s4,?_⟩;try refine ae ?_
  refine bH rfl ?_;try refine ae ?_
  refine aG (aHo (K:=6) H (hq.same (s1.trans (s2.trans (s3.trans s4)))) h4 (hb.mono ay) (pG.mul (lK au au) (lK au au)) ay) ?_;rintro v5 S5 ⟨h5,s5⟩;refine⟨s5,?_⟩;obtain⟨w0,w1,w2,rfl⟩:=h5.cells;try refine ae ?_
  exact⟨s1.trans (s2.trans (s3.trans (s4.trans s5))),fun t ht=>by repeat (rw[if_neg au]),w0,w1,w2,rfl,h5⟩
 rintro F' S' ps hs' ls ⟨rfl,s1,hk,w0,w1,w2,k68,hw⟩ hlast hld;have g1:=(s1.2 _ lsb).trans hs;have k12:=(hk 12 au).trans p12;simp only[aNl,Gs,Dd];refine sT (v:=.undef) (S1:=⟨S'.h.set sb (some (.cells [w0,w1,w2] false 0)),S'.nx⟩) hlast (fun call=>?_) ?_
 ·rw[eC];simp only[eO,k68,k12,cS,aR,aL];exact rG (S:=S') g1 rfl rfl
 rw[mT];refine⟨?_,?_⟩
 ·simp only[Eh,Bn,Gi,Cx,Cn];exact hld _ _
 simp only[cS,fZ];have t1:bN sb S' ⟨S'.h.set sb (some (.cells [w0,w1,w2] false 0)),S'.nx⟩:=(bN.refl _ _).put _;have g4:(⟨S'.h.set sb (some (.cells [w0,w1,w2] false 0)),S'.nx⟩:St).h.get sb=some (.cells [w0,w1,w2] false 0):=by simp only;rw[dr,if_pos rfl]
 exact hQ _ _ w0 w1 w2 hk ⟨s1.1,fun c hc h2=>(t1.2 c (Ag hc s1.1) h2).trans (s1.2 c hc)⟩ g4 (hw.stU g1 hq.noU t1 g4)
end
structure aPY(Y:St)(gb:Nat)(f:Nat->Rat)(lv:AV)(sz:Int)(i w:Nat)(A:bK)(X:St):Prop where
 inr:A.inr=false
 same:Same Y X
 frs:lO Y X
 row:∃pv C,aD 10 A.F=pv/\GrW 3 Y X pv i C/\vA X i f C
 t2:aD 2 A.F= .ptr gb 0
 t6:aD 6 A.F= .int .i64 sz
 t8:aD 8 A.F=lv
 t11:aD 11 A.F= .int .i64 (w:Int)
structure aO5(X:St)(gb sb:Nat)(m:Nat->Int)(lv pv:AV)(sz:Int)(i j w:Nat)(A:bK)(Z:St):Prop where
 inr:A.inr=false
 same:Same X Z
 frs:lO X Z
 row:∃x y z,Z.h.get sb=some (.cells [x,y,z] false 0)/\bP Z (.agg [x,y,z]) ((m j:Int):Rat)
 l1:X.nx<=sb
 l2:sb<Z.nx
 t2:aD 2 A.F= .ptr gb 0
 t6:aD 6 A.F= .int .i64 sz
 t8:aD 8 A.F=lv
 t10:aD 10 A.F=pv
 t11:aD 11 A.F= .int .i64 (i:Int)
 t12:aD 12 A.F= .ptr sb 0
 t13:aD 13 A.F= .int .i64 (w:Int)
theorem aIm{S:St}{nv iv cv:AV}{g:aZ}{ch:bm}{pr:Nat->Nat}(H:Has fns)(hF:kO S)(hn:aW 6 cI S nv g.bw)(hi:aW 2 eT S iv g.b7)(hc:dE .i64 S cv ch)(hln:g.bw.length<=100000)(hll:ch.length<=10000000)(hpr:dJ g=0->kY g pr):
  eR fns (.fn 13 [] []) [.agg [.int .i64 g.b8,nv,iv],cv] S fun r S'=>Same S S'/\aM3 g ch pr S' r:=by
 refine bE H.f13 (by simp) ?_;refine ap ?_;refine aY ?_;refine oF (cs:=[.int .i64 g.b8,nv,iv]) rfl ?_;intro S1 s1 n1 g1 f1;refine ae ?_;refine aY (dh (gR g1) ?_);refine aK (ae ?_);refine aG (fT (uS (pr:=pr) H (aW.same (E:=cI) bT hn s1) (aW.same (E:=eT) dH hi s1) (hc.same s1) hln hll hpr)) ?_;rintro _ X ⟨⟨hX,rfl⟩,f2⟩;have sX:=s1.trans hX;have gX:=(hX.2 _ (show S.nx<S1.nx by omega)).trans g1;have hnX:=aW.same (E:=cI) bT hn sX;refine dk @nP @nN ?_;refine dS (ae ?_);by_cases hR:nB g ch pr=0;rotate_left
 ·refine aN (by simp only[↓sU,sD,rE,↓reduceIte,rA,Ab hR]) (aC (aJ ?_));refine ae ?_;refine aI (ae ?_);exact⟨sX,.inl ⟨hR,rfl⟩⟩
 refine aM (by simp only[↓sU,sD,rE,↓reduceIte,rA,Aa (show ¬nB g ch pr≠0 from fun h=>h hR)]) (aH ?_);try refine ae ?_
 have⟨sz,cn,ls,pl,R⟩:=aFW hR hpr;refine aY (dk (gR gX) R.eN ?_);refine aK (ae ?_);refine aG (fT (sF H R hnX (hc.same sX))) ?_;rintro _ Y ⟨⟨hY,u,w,rfl,hr, -⟩,f3⟩;have il:=yC.is hr;have sY:=sX.trans hY;have fY:=f1.trans (f2.trans f3);have lgY:S.nx<Y.nx:=by have:=hX.1;have:=hY.1;omega
 have gY:=(hY.2 _ (show S.nx<X.nx by have:=hX.1;omega)).trans gX;obtain⟨N,hN⟩:∃N:Nat,g.b8=(N:Int):=⟨g.b8.toNat,aw R.G.prs⟩;have hN4:N<=4:=by have:=R.G.prs;omega
 have hn2:=R.G.good.n2;have hll':((List.range g.bw.length).map cn).length=g.bw.length:=by rw[Bc,Cq]
 have hlg:∀i,i<g.bw.length->((List.range g.bw.length).map cn).getD i 0=cn i:=fun i hi=>by rw[Ae,Bk,Dz hi];rfl
 generalize (List.range g.bw.length).map cn=L at hr il hll' hlg;refine dk @nP @nN ?_;refine aY (ae ?_);refine aC (aX (Q:=fun o A' X=>o= .normal/\aPY Y S.nx (vM g cn sz) u sz N N A' X) (aC (aJ ?_)) ?_);rotate_left
 ·rintro o ⟨F,inr⟩ W ⟨rfl,M⟩;obtain rfl:inr=false:=M.inr;have⟨pv,C,t10,hg,hA⟩:=M.row;simp only at t10;refine aY (dh t10 ?_);refine aI (ae ?_);exact⟨sY.trans M.same,.inr ⟨hR,sz,cn,ls,pl,_,R,rfl,by rw[hN,Bq];exact hA.is hg⟩⟩
 refine ae ?_;refine aO (bJ (fun k A X=>∃i,i+k=N/\aPY Y S.nx (vM g cn sz) u sz i i A X) ?_ N _ _ ⟨0,au,rfl,Same.refl _,lO.refl _,⟨.cd,[],af,.inl ⟨rfl,rfl,rfl⟩,⟨⟨rfl,rfl,fun p hp=>absurd hp au⟩,fun p hp=>absurd hp au⟩⟩,af,af,af,ag⟩);rintro k ⟨F,inr⟩ X ⟨i,hik,M⟩;obtain rfl:inr=false:=M.inr;have t2:=M.t2;have t6:=M.t6;have t8:=M.t8;have t11:=M.t11;have⟨pv,C,t10,hg,hA⟩:=M.row;simp only at t2 t6 t8 t10 t11;have sX:=sY.trans M.same;have fX:=fY.trans M.frs;have gX:=(M.same.2 _ lgY).trans gY;have lgX:=Ag lgY M.same.1;refine dS (dx t11 t2 @aF @aE (rJ gX) ?_);by_cases hlt:i<N;rotate_left
 ·refine aM (by simp only[↓sU,sD,rE,↓reduceIte,rA,Aa (show ¬ (i:Int)<g.b8 by omega)]) (bD ?_);refine ae ?_;obtain rfl:i=N:=by omega
  exact⟨rfl,M.same,M.frs,⟨pv,C,ah t10,hg,hA⟩,ah t2,ah t6,ah t8,ah t11⟩
 refine aN (by simp only[↓sU,sD,rE,↓reduceIte,rA,Ab (show(i:Int)<g.b8 by omega)]) (aH ?_);try refine ae ?_
 have w0:=dq i
 refine aC (aX (aBC (Q:=fun o A' Z=>o= .normal/\∀fr:lO Y Z,aPY Y S.nx (vM g cn sz) u sz (i+1) i A' Z) (aO (aC (aJ ?_)))) ?_);rotate_left
 ·rintro o ⟨F2,inr⟩ Z ⟨⟨rfl,hM⟩,fr⟩;have M2:=hM (M.frs.trans fr);obtain rfl:inr=false:=M2.inr;have r2:=M2.t2;have r6:=M2.t6;have r8:=M2.t8;have r11:=M2.t11;have⟨pv2,C2,r10,hg2,hA2⟩:=M2.row;simp only at r2 r6 r8 r10 r11;try refine ae ?_
  refine aJ (dk r11 w0 ?_);exact⟨k - 1,au,i+1,au,rfl,M2.same,M2.frs,⟨pv2,C2,ah r10,hg2,hA2⟩,ah r2,ah r6,ah r8,af⟩
 refine ap ?_;refine aK ?_;try refine ap ?_
 refine aG (fT (rR (z:=0) H au au)) ?_;rintro v W1 ⟨⟨hv,w1⟩,f4⟩;obtain⟨x0,x1,x2,rfl⟩:=hv.cells;try refine ap ?_
 refine kX ?_;intro W2 w2 n2 c2 f5;try refine ap ?_
 refine aAR (b:=W1.nx) (aq) (by simp only[↓stU,aB,rE,↓reduceIte,rA,aR];rfl) c2 rfl rfl ?_;intro W w3 n3 c3 f6;refine ae ?_;have sXW:Same X W:=w1.trans (w3.same w2 (Af _));have fXW:lO X W:=f4.trans (f5.trans f6);have hvW:=hv.same (w3.same w2 (Af _));have l1:X.nx<=W1.nx:=w1.1;have l2:W1.nx<W.nx:=by omega
 refine aC (aX (Q:=fun o A' Z=>o= .normal/\aO5 X S.nx W1.nx (iM g cn i) u pv sz i g.bw.length g.bw.length A' Z) (aC (aJ ?_)) ?_);rotate_left
 ·rintro o ⟨F2,inr⟩ Z ⟨rfl,K⟩;obtain rfl:inr=false:=K.inr;have r2:=K.t2;have r6:=K.t6;have r8:=K.t8;have r10:=K.t10;have r11:=K.t11;have r12:=K.t12;have⟨x,y,z,gs,hq⟩:=K.row;simp only at r2 r6 r8 r10 r11 r12;try refine ae ?_
  refine aNp (Y:=Y) (i:=i) (C:=C) (f:=vM g cn sz) H ((fX.trans K.frs).1 hF) r6 r10 r12 gs K.l2 hq (sI R.pay R.cb hn2 (Af _)) R.s1 R.s2 rfl (M.same.trans K.same) (hg.step K.same) (hA.same K.same) au ?_;intro F' V pv' C' hk k10 sV hgV hAV;exact⟨rfl,fun fr=>⟨rfl,sV,fr,⟨pv',C',k10,hgV,hAV⟩,(hk 2 au au).trans r2,(hk 6 au au).trans r6,(hk 8 au au).trans r8,(hk 11 au au).trans r11⟩⟩
 refine ae ?_;refine aO (bJ (fun k A Z=>∃j,j+k=g.bw.length/\aO5 X S.nx W1.nx (iM g cn i) u pv sz i j j A Z) ?_ g.bw.length _ _ ⟨0,au,rfl,sXW,fXW,⟨_,_,_,c3,hvW⟩,l1,l2,ah t2,ah t6,ah t8,ah t10,ah t11,af,ag⟩);clear hvW c3 c2 w1 w2 w3 f4 f5 f6 hv;rintro k2 ⟨F2,inr⟩ Z ⟨j,hjk,K⟩;obtain rfl:inr=false:=K.inr;have r2:=K.t2;have r6:=K.t6;have r8:=K.t8;have r10:=K.t10;have r11:=K.t11;have r12:=K.t12;have r13:=K.t13;have⟨x,y,z,gs,hq⟩:=K.row;simp only at r2 r6 r8 r10 r11 r12 r13;have sZ:=sX.trans K.same;have gZ:=(K.same.2 _ lgX).trans gX;have hnZ:=aW.same (E:=cI) bT hn sZ;refine dS (dz r13 r2 @aF @aE (fG gZ) hnZ.len @Ah ?_);by_cases hjl:j<g.bw.length;rotate_left
 ·refine aM (by simp only[↓sU,sD,rE,↓reduceIte,rA,Aa (show ¬ (j:Int)<(g.bw.length:Int) by omega)]) (bD ?_);refine ae ?_;obtain rfl:j=g.bw.length:=by omega
  exact⟨rfl,K.same,K.frs,⟨_,_,_,gs,hq⟩,K.l1,K.l2,ah r2,ah r6,ah r8,ah r10,ah r11,ah r12,ah r13⟩
 refine aN (by simp only[↓sU,sD,rE,↓reduceIte,rA,Ab (show(j:Int)<(g.bw.length:Int) by omega)]) (aH ?_);try refine ae ?_
 have w9:=dq j
 refine aC (aX (aBC (Q:=fun o A' V=>o= .normal/\∀fr:lO X V,aO5 X S.nx W1.nx (iM g cn i) u pv sz i (j+1) j A' V) (aO (aC (aJ ?_)))) ?_);rotate_left
 ·rintro o ⟨F3,inr⟩ V ⟨⟨rfl,hK⟩,fr⟩;have K2:=hK (K.frs.trans fr);obtain rfl:inr=false:=K2.inr;have u2:=K2.t2;have u6:=K2.t6;have u8:=K2.t8;have u10:=K2.t10;have u11:=K2.t11;have u12:=K2.t12;have u13:=K2.t13;simp only at u2 u6 u8 u10 u11 u12 u13;try refine ae ?_
  refine aJ (dk u13 w9 ?_);exact⟨k2 - 1,au,j+1,au,rfl,K2.same,K2.frs,K2.row,K2.l1,K2.l2,ah u2,ah u6,ah u8,ah u10,ah u11,ah u12,af⟩
 obtain⟨_,bx,qx,hiax,hbx,_,⟨xa,xw,xp,rfl,hxa,hxw,hxp⟩,_,hfx⟩:=aW.at hnZ ay (gJ hjl);have hf0:=hfx 0 _ rfl;refine d7 r13 r2 @aF @aE (fG gZ) @aQ hiax hf0 ?_;by_cases hk3:(cj g j).kind=3
 ·refine aN (by simp only[↓sU,sD,rE,↓reduceIte,rA,Ab hk3]) ?_;have hpl:i<(cj g j).pay.length:=by have:=R.G.pay j hjl hk3;omega
  refine aOv (gb:=S.nx) (sb:=W1.nx) (p:=i) (j:=j) (g:=g) (l:=L) (m:=iM g cn i j) H (ah r2) (ah r8) (ah r11) (ah r12) (ah r13) gZ (Ag lgX K.same.1) gs K.l2 hq (sI R.pay R.cb hn2 (Nat.le_of_lt hjl)) hnZ hjl hpl (aIG R.pay hjl hk3) (il.same (M.same.trans K.same)) au (by rw[hlg j hjl];exact R.cb j hjl) ?_;intro F' V w0' w1' w2' hk sV gV hqV;rw[hlg j hjl,<-aD2 trivial hk3] at hqV;refine⟨rfl,fun fr=>⟨rfl,sV.same K.same K.l1,fr,⟨_,_,_,gV,hqV⟩,K.l1,Ag K.l2 sV.1,?_,?_,?_,?_,?_,?_,?_⟩⟩
  ·rw[hk 2 au];simp only[↓sU,sD,rE,↓reduceIte,rA,r2]
  ·rw[hk 6 au];simp only[↓sU,sD,rE,↓reduceIte,rA,r6]
  ·rw[hk 8 au];simp only[↓sU,sD,rE,↓reduceIte,rA,r8]
  ·rw[hk 10 au];simp only[↓sU,sD,rE,↓reduceIte,rA,r10]
  ·rw[hk 11 au];simp only[↓sU,sD,rE,↓reduceIte,rA,r11]
  ·rw[hk 12 au];simp only[↓sU,sD,rE,↓reduceIte,rA,r12]
  ·rw[hk 13 au];simp only[↓sU,sD,rE,↓reduceIte,rA,r13]
 ·refine aM (by simp only[↓sU,sD,rE,↓reduceIte,rA,Aa hk3]) (aH ?_);refine ae ?_;rw[<-zY (cn:=cn) (p:=i) (.inl hk3)] at hq;exact fun fr=>⟨rfl,K.same,fr,⟨_,_,_,gs,hq⟩,K.l1,K.l2,ah r2,ah r6,ah r8,ah r10,ah r11,ah r12,ah r13⟩
structure SvI(S:St)(a b:AV)(i:Nat)(A:bK)(X:St):Prop where
 inr:A.inr=false
 same:Same S X
 t0:aD 0 A.F=a
 t1:aD 1 A.F=b
 t5:aD 5 A.F= .int .i64 (i:Int)
theorem aGf{S:St}{a b:AV}{l:List Rat}(H:Has fns)(ha:aW 3 aCz S a l)(hb:aW 3 aCz S b l)(hf:∀q∈l,aDK q)(hl:l.length<=1000):eR fns (.fn 14 [] []) [a,b] S fun r S'=>r= .bool true/\Same S S':=by
 have sva:=aW.self ha;have svb:=aW.self hb;refine bE H.f14 (by simp) ?_;refine ae ?_;refine aY (ae ?_);refine dS (dm ha.len hb.len @Ah ?_);refine aM (by simp only[↓sU,sD,rE,↓reduceIte,rA,Aa (show ¬ (l.length:Int)≠(l.length:Int) from fun h=>h rfl)]) (aH ?_);try refine ae ?_
 refine aC (aX (Q:=fun o A' X=>o= .normal/\SvI S a b l.length A' X) (aC (aJ ?_)) ?_);rotate_left
 ·rintro o ⟨F,inr⟩ X ⟨rfl,I⟩;obtain rfl:inr=false:=I.inr;refine aY (ae ?_);refine aI (ae ?_);exact I.same
 refine ae ?_;refine aO (bJ (fun k A X=>∃i,i+k=l.length/\SvI S a b i A X) ?_ l.length _ _ ⟨0,au,rfl,Same.refl _,af,af,ag⟩);rintro k ⟨F,inr⟩ X ⟨i,hik,I⟩;obtain rfl:inr=false:=I.inr;have t0:=I.t0;have t1:=I.t1;have t5:=I.t5;simp only at t0 t1 t5;have haX:=aW.same (E:=aCz) aCI ha I.same;have hbX:=aW.same (E:=aCz) aCI hb I.same;refine dS (du t0 t5 ha.len @Ah ?_);by_cases hlt:i<l.length;rotate_left
 ·refine aM (by simp only[↓sU,sD,rE,↓reduceIte,rA,Aa (show ¬ (i:Int)<(l.length:Int) by omega)]) (bD ?_);refine ae ?_;obtain rfl:i=l.length:=by omega
  exact⟨rfl,I.same,ah t0,ah t1,ah t5⟩
 refine aN (by simp only[↓sU,sD,rE,↓reduceIte,rA,Ab (show(i:Int)<(l.length:Int) by omega)]) (aH ?_);try refine ae ?_
 have w0:=dq i
 have hget:l[i]? =some l[i]:=Ad hlt;have⟨ea,ba,qa,ia,la,na,ra,da,_⟩:=aW.at haX ay hget;have⟨eb,bb,qb,ib,lb,nb,rb,db,_⟩:=aW.at hbX ay hget;have ra:bP X (.agg ea) l[i]:=ra;have rb:bP X (.agg eb) l[i]:=rb;have⟨a0,a1,a2,e1⟩:=ra.cells;have⟨b0,b1,b2,e2⟩:=rb.cells;rw[e1] at ra da;rw[e2] at rb db;have sra:=oO ra;have srb:=oO rb;refine aC (aO (aC (eM (fun _=>False) ?_)));intro X1 x1;simp only[↓sU,sD,rE,↓reduceIte,rA,t0,t1,t5,aQ,ia,ib,da,db,sra,srb,sva,svb,la,lb,Ak];refine bH rfl ?_;try refine ae ?_
 refine aG (aGg H (ra.same x1) (rb.same x1) (hf _ (Ec hlt))) ?_;rintro _ X2 ⟨rfl,x2⟩;refine⟨x2,?_⟩;rw[Ab rfl];refine dk @pV @Gz ?_;refine aM (af) (aH ?_);try refine ae ?_
 refine aJ (dk t5 w0 ?_);exact⟨k - 1,au,i+1,au,rfl,I.same.trans (x1.trans x2),ah t0,ah t1,af⟩
theorem aBQ{g:aZ}{cn cn':Nat->Int}{p:Nat}:∀ {n:Nat},(∀j,j<n->cn j=cn' j)->iM g cn p n=iM g cn' p n
 | 0,_=>rfl
 | n+1,h=>by
  show iM g cn p n+aCh g cn p n=iM g cn' p n+aCh g cn' p n;rw[aBQ fun j hj=>h j au];unfold aCh;rw[h n au]
theorem aC0.tup{g:aZ}{ch:bm}{pr:Nat->Nat}{j:Int}{v:(Nat->Int)->(Nat->Int)->Int×Int}{r:AV}(h:aC0 g ch pr j v r):∃a e,r= .tup [.int .i64 a,.int .i64 e]:=by
 rcases h with⟨h1,rfl⟩ | ⟨h1,sz,cn,ls,pl,R,rfl⟩
 ·exact⟨_,_,rfl⟩
 ·exact⟨_,_,rfl⟩
theorem aIX{g:aZ}{ch:bm}{pr:Nat->Nat}{sz:Int}{cn ls pl:Nat->Int}(R:yB g ch pr sz cn ls pl)(p:Nat):aDK (vM g cn sz p):=by
 have h1:=R.s1;have h2:=R.s2;have b1:=sI (p:=p) R.pay R.cb R.G.good.n2 (Af _);have b2:=lK (a:=sz) au au;exact((pG.mul b1 (pG.inv b2 (by show sz≠0;omega))).half ay).fits
theorem aM3.both{g:aZ}{ch:bm}{pr:Nat->Nat}{S S':St}{r r':AV}(h:aM3 g ch pr S r)(h':aM3 g ch pr S' r'):∃v v' e l,r= .tup [v,.int .i64 e]/\r'= .tup [v',.int .i64 e]/\aW 3 aCz S v l/\aW 3 aCz S' v' l/\(∀q∈l,aDK q)/\l.length<=4:=by
 rcases h with⟨h1,rfl⟩ | ⟨h1,sz,cn,ls,pl,v,R,rfl,hv⟩
 ·rcases h' with⟨h2,rfl⟩ | ⟨h2,_⟩
  ·exact⟨_,_,_,[],rfl,rfl,.inl ⟨rfl,.inl rfl⟩,.inl ⟨rfl,.inl rfl⟩,fun q hq=>by simp at hq,by simp⟩
  ·exact absurd h2 h1
 ·rcases h' with⟨h2,rfl⟩ | ⟨h2,sz',cn',ls',pl',v',R',rfl,hv'⟩
  ·exact absurd h1 h2
  ·have⟨u1,u2⟩:=R.uni R';have e:vM g cn' sz'=vM g cn sz:=by
    funext p;unfold vM;rw[u1,aBQ fun j hj=>(u2 j hj).1]
   rw[e] at hv';refine⟨v,v',0,_,rfl,rfl,hv,hv',fun q hq=>?_,?_⟩
   ·obtain⟨p,_,rfl⟩:=Ga.1 hq;exact aIX R p
   ·rw[Bc,Cq];have:=R.G.prs;omega
theorem aNN{g:aZ}{j:Int}:∀ (cn ls cn' ls':Nat->Int),0<=j->j<(g.bw.length:Int)->cn j.toNat=cn' j.toNat->ls j.toNat=ls' j.toNat->(fun(cn _:Nat->Int)=>(cn j.toNat,(0:Int))) cn ls=(fun(cn _:Nat->Int)=>(cn j.toNat,(0:Int))) cn' ls':=fun cn ls cn' ls' _ _ h1 _=>by simp only[h1]
theorem aNP{g:aZ}{j:Int}:∀ (cn ls cn' ls':Nat->Int),0<=j->j<(g.bw.length:Int)->cn j.toNat=cn' j.toNat->ls j.toNat=ls' j.toNat->aFk j.toNat cn ls=aFk j.toNat cn' ls':=fun cn ls cn' ls' _ _ h1 h2=>by unfold aFk;rw[h1,h2]
theorem aFG{S:St}{nv iv cv:AV}{g:aZ}{l:bm}{s:Int}(H:Has fns)(hAw:∀X,Same S X->eR fns (.fn 7 [] []) [] X fun r S'=>r= .bool true/\Same X S')(hL:Laid S)(hF:kO S)(hn:aW 6 cI S nv g.bw)(hi:aW 2 eT S iv g.b7)(hc:dE .i64 S cv l):
  eR fns (.fn 3 [] []) [.agg [.int .i64 g.b8,nv,iv],cv,.int .i64 s] S fun r S'=>r= .bool true/\Same S S':=by
 refine bE H.f3 (by simp) ?_;refine ap ?_;refine aY ?_;refine oF (cs:=[.int .i64 g.b8,nv,iv]) rfl ?_;intro S1 s1 n1 c1 f1;refine ae ?_;refine dS (dh (gR c1) ?_);refine aK (ae ?_);refine aG (fT (aH8 H (aW.same (E:=cI) bT hn s1))) ?_;rintro _ S2 ⟨⟨rfl,s2⟩,f2⟩;have c2:=(s2.2 _ (show S.nx<S1.nx by omega)).trans c1;have sS2:=s1.trans s2;have f02:=f1.trans f2;have l2:S.nx<S2.nx:=Ag (show S.nx<S1.nx by omega) s2.1;have hcl:=hc.len;have small:¬oV g->g.bw.length<=100000:=fun h=>by unfold oV at h;omega
 by_cases hb1:oV g
 ·refine dh (Ab hb1) ?_;refine aN (af) (aC (aJ ?_));refine ae ?_;refine aK (ae ?_);refine aG (hAw _ sS2) ?_;rintro _ S3 ⟨rfl,s3⟩;try refine ae ?_
  refine aI (ae ?_);exact sS2.trans s3
 refine dm (Aa hb1) hcl @Ah ?_;by_cases hb2:300<l.length
 ·refine aN (by simp only[↓sU,sD,rE,↓reduceIte,rA,Ab (show(300:Int)<(l.length:Int) by omega)]) (aC (aJ ?_));refine ae ?_;refine aK (ae ?_);refine aG (hAw _ sS2) ?_;rintro _ S3 ⟨rfl,s3⟩;try refine ae ?_
  refine aI (ae ?_);exact sS2.trans s3
 refine aM (by simp only[↓sU,sD,rE,↓reduceIte,rA,Aa (show ¬ (300:Int)<(l.length:Int) by omega)]) (aH ?_);try refine ae ?_
 have hln:=small hb1;have hll:l.length<=10000000:=by omega
 obtain⟨pr,hpr⟩:∃pr:Nat->Nat,dJ g=0->kY g pr:=by
  by_cases h0:dJ g=0
  ·have⟨pr,h⟩:=aGa (aJn h0);exact⟨pr,fun _=>h⟩
  ·exact⟨fun _=>1,fun h=>absurd h h0⟩
 have gn:=fun {X} (h:Same S X)=>aW.same (E:=cI) bT hn h;have gi:=fun {X} (h:Same S X)=>aW.same (E:=eT) dH hi h;have nn:∀z:Int,decide (z≠z)=false:=fun z=>Aa fun h=>h rfl;have ee:∀i:Decidable True,@decide True i=true:=fun i=>@Ab True i trivial;refine aY (dh (gR c2) ?_);refine aK (ae ?_);refine aG (fT (aB5 (pr:=pr) H (gn sS2) (gi sS2) (hc.same sS2) hln hll hpr)) ?_;rintro _ T1 ⟨⟨t1,h1⟩,e1⟩;obtain⟨x1,y1,rfl⟩:=h1.tup;have g1:=(t1.2 _ l2).trans c2;refine dk @nP @nN ?_;refine aY (dh (gR g1) ?_);refine aK (ae ?_);have sT1:=sS2.trans t1;refine aG (fT (aBW (pr:=pr) H (gn sT1) (gi sT1) (hc.same sT1) hln hll hpr)) ?_;rintro r2 T2 ⟨⟨t2,h2⟩,e2⟩;have hr2:=aC0.uni aNN h1 h2;subst hr2;have t12:=t1.trans t2;have g2:=(t12.2 _ l2).trans c2;refine dk @nP @nN ?_;refine dS (dh nn ?_);refine aM (ah nn) (aH ?_);try refine ae ?_
 refine aY (dh (gR g2) ?_);refine aK (ae ?_);have sT2:=sS2.trans t12;refine aG (fT (aHw (pr:=pr) H (gn sT2) (gi sT2) (hc.same sT2) hln hll hpr)) ?_;rintro _ T3 ⟨⟨t3,h3⟩,e3⟩;obtain⟨x3,y3,rfl⟩:=h3.tup;have t13:=t12.trans t3;have g3:=(t13.2 _ l2).trans c2;refine dk @nP @nN ?_;refine aY (dh (gR g3) ?_);refine aK (ae ?_);have sT3:=sS2.trans t13;refine aG (fT (aG8 (pr:=pr) H (gn sT3) (gi sT3) (hc.same sT3) hln hll hpr)) ?_;rintro r4 T4 ⟨⟨t4,h4⟩,e4⟩;have hr4:=aC0.uni aNP h3 h4;subst hr4;have t14:=t13.trans t4;have g4:=(t14.2 _ l2).trans c2;have sT4:=sS2.trans t14;have f4:=f02.trans (e1.trans (e2.trans (e3.trans e4)));refine dk @nP @nN ?_;refine aY (dh (gR g4) ?_);refine aK (ae ?_);refine aG (fT (aI9 (pr:=pr) H (hL.same sT4) (f4.1 hF) (gn sT4) (gi sT4) (hc.same sT4) hln hll hpr)) ?_;rintro r5 T5 ⟨⟨t5,h5⟩,e5⟩;have t15:=t14.trans t5;have g5:=(t15.2 _ l2).trans c2;have sT5:=sS2.trans t15;obtain⟨v5,z5,rfl⟩:∃v e,r5= .tup [v,.int .i64 e]:=by
  have⟨v,_,e,_,h,_⟩:=h5.both h5;exact⟨v,e,h⟩
 refine dk @nP @nN ?_;refine aY (dh (gR g5) ?_);refine aK (ae ?_);refine aG (aIm (pr:=pr) H ((f4.trans e5).1 hF) (gn sT5) (gi sT5) (hc.same sT5) hln hll hpr) ?_;rintro r6 T6 ⟨t6,h6⟩;obtain⟨v,v',e,L,q1,rfl,i5,i6,hfit,hLl⟩:=h5.both h6;simp only[AV.tup.injEq,List.cons.injEq,AV.int.injEq,and_true,true_and] at q1;obtain⟨rfl,rfl⟩:=q1;have sT6:=sT5.trans t6;try simp only[↓sU,sD,rE,↓reduceIte,rA,nP,nN]
 refine aY ?_;try simp only[↓sU,sD,rE,↓reduceIte,rA,ee,aP]
 refine aK ?_;try refine ae ?_
 refine aG (aGf H (aW.same (E:=aCz) aCI i5 t6) i6 hfit au) ?_;rintro _ T7 ⟨rfl,t7⟩;try simp only[↓sU,sD,rE,↓reduceIte,rA,ee,aP]
 refine aK ?_;try refine ae ?_
 refine aG (hAw _ (sT6.trans t7)) ?_;rintro _ T8 ⟨rfl,t8⟩;try refine ae ?_
 refine aI ?_;try refine ae ?_
 exact(sT6.trans t7).trans t8
end Go.Ev.Gl
