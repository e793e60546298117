import Derived.Test.YtiiplmagnlcpbaaGreatDoorGl18
set_option linter.unusedSimpArgs false
set_option linter.unusedVariables false
open Nat renaming reduceEqDiff -> rE, reduceAdd -> rA
set_option maxHeartbeats 0
namespace Go.Ev.Gl
variable {fns:T dD}
theorem aFL{a:Int}:aKF a 1=(a:Rat):=by
 unfold aKF;have e:sg (decide (a<0) !=decide ((1:Int)<0)) a.natAbs=a:=by
  unfold sg;by_cases h:a<0
  ·simp [h];omega
  ·simp [h];omega
 rw[e];exact Rat.mkRat_one a
theorem zH{a:Int}(h1: -9223372036854775808<=a)(h2:a<=9223372036854775807):uO 3 (a:Rat):=by
 rw[<-aFL];exact aML a 1 au ay ay
theorem aQu{S:St}{a:Int}(H:Has fns)(hL:Laid S)(a1: -9223372036854775808<=a)(a2:a<=9223372036854775807):eT fns (.fn 57 [] []) [.int .i64 a,.int .i64 1] S fun r S'=>∃x y z,r= .tup [.agg [x,y,z],.int .i64 0]/\cE S' (.agg [x,y,z]) (a:Rat)/\Same S S':=by
 refine aF (pof H hL a1 a2 ay ay) ?_;rintro r S' ⟨hr,hs⟩;rw[show ofE 1=0 from rfl,aNu,aFL] at hr;have⟨x,y,z,e,hx⟩:=hr;exact⟨x,y,z,e,hx,hs⟩
theorem cO.noU1{S:St}{v:AV}{l:bt}(h:cO S v l)(cs:bo):noU (v::cs)=noU cs:=by
 rcases h with⟨-,rfl | rfl⟩ | ⟨b1,off,cap,o1,cs1,rfl, -⟩<;>rfl
theorem cE.noU{S:St}{x y z:AV}{q:Rat}(h:cE S (.agg [x,y,z]) q):noU [x,y,z]=true:=by
 obtain⟨nv,dv,h1,⟨l,h2, -⟩,⟨l',h3, -⟩⟩:=h;simp only[AV.agg.injEq,List.cons.injEq,and_true] at h1;obtain⟨rfl,rfl,rfl⟩:=h1;show Gl.noU (y:: [z])=true;rw[h2.noU1,h3.noU1];rfl
theorem aJ4{S:St}{sv:AV}{q:Rat}{a b:Int}(H:Has fns)(hL:Laid S)(hq:cE S sv q)(hb:uO 900 q)(a1: -9223372036854775808<=a)(a2:a<=9223372036854775807)(b1: -9223372036854775808<=b)(b2:b<=9223372036854775807):
  eT fns (.fn 60 [] []) [sv,.int .i64 a,.int .i64 b] S fun r S'=>∃x y z,r= .tup [.agg [x,y,z],.int .i64 0]/\cE S' (.agg [x,y,z]) (q+(a:Rat) * (b:Rat))/\Same S S':=by
 obtain⟨q0,q1,q2,rfl⟩:=hq.cells;have ba:=zH a1 a2;have bb:=zH b1 b2;refine bL H.f60 (by simp) ?_;refine ap ?_;refine bK ?_;refine cD (cs:=[q0,q1,q2]) rfl ?_;intro S1 s1 n1 c1;refine ap ?_;refine cM ?_;intro S2 s2 n2 c2;refine ap ?_;have s02:=s1.trans s2;refine bK (ap ?_);refine aL (ap ?_);refine aF (aQu H (hL.same s02) a1 a2) ?_;rintro _ S3 ⟨x0,x1,x2,rfl,hx,s3⟩;refine d7 @tU @tP ?_;refine cM ?_;intro S4 s4 n4 c4;try refine ap ?_
 refine dH (b:=S3.nx) (aq) (by simp only[↓stU,aG,rE,↓reduceIte,rA,aS];rfl) c4 rfl rfl ?_;intro S5 s5 n5 c5;refine ap ?_;have s35:Same S3 S5:=s5.same s4 (Af _);have s05:=(s02.trans s3).trans s35;have nz:¬ (0:Int)≠0:=by decide
 refine fA (ap ?_);refine aO (by simp only[↓stU,aG,rE,↓reduceIte,rA,Aa nz]) (aJ ?_);try refine ap ?_
 refine bK (ap ?_);refine aL (ap ?_);refine aF (aQu H (hL.same s05) b1 b2) ?_;rintro _ S6 ⟨y0,y1,y2,rfl,hy,s6⟩;refine d7 @tU @tP ?_;refine cM ?_;intro S7 s7 n7 c7;try refine ap ?_
 refine dH (b:=S6.nx) (aq) (by simp only[↓stU,aG,rE,↓reduceIte,rA,aS];rfl) c7 rfl rfl ?_;intro S8 s8 n8 c8;refine ap ?_;have s68:Same S6 S8:=s8.same s7 (Af _);have s58:=s6.trans s68;have s08:=s05.trans s58;have m2:=s2.1;have m3:=s3.1;have m35:=s35.1;have m58:=s58.1;have m02:=s1.1;have l3:S3.nx<S5.nx:=by omega
 have c58:=(s58.2 _ l3).trans c5;refine fA (ap ?_);refine aO (by simp only[↓stU,aG,rE,↓reduceIte,rA,Aa nz]) (aJ ?_);try refine ap ?_
 have d1:=tR (n:=3) c58 rfl;have d2:=tR (n:=3) c8 rfl;refine fA (d7 d1 d2 ?_);refine aL (ap ?_);refine aF (aLl H (hL.same s08) (hx.same (s35.trans s58)) (hy.same s68) (ba.inBound ay) (bb.inBound ay) ((uO.mul ba bb).inBound ay)) ?_;rintro _ S9 ⟨v,rfl,hv,s9⟩;obtain⟨v0,v1,v2,rfl⟩:=hv.cells;have m9:=s9.1;have c59:=(s9.2 _ (show S3.nx<S8.nx by omega)).trans c58;refine d7 @tU @tP ?_;refine dH (b:=S3.nx) (aq) (by simp only[↓stU,aG,rE,↓reduceIte,rA,aS];rfl) c59 rfl rfl ?_;intro S10 s10 n10 c10;refine ap ?_;have s09:=s08.trans s9;have hv10:=hv.stU c59 hx.noU s10 c10;have t10:Same S S10:=s10.same s09 au;have k10:∀b,b<S9.nx->b≠S3.nx->S10.h.get b=S9.h.get b:=fun b h1 h2=>s10.2 b h1 h2;have g1:S10.h.get S.nx=some (.cells [q0,q1,q2] false 0):=by
  rw[k10 _ au au,s9.2 _ au,s58.2 _ au,s35.2 _ au,s3.2 _ au,s2.2 _ au];exact c1
 have g2:S10.h.get S1.nx=some (.cells [.bool false,.ce,.ce] false 0):=by
  rw[k10 _ au au,s9.2 _ au,s58.2 _ au,s35.2 _ au,s3.2 _ au];exact c2
 refine bK (ap ?_);refine aO (by simp only[↓stU,aG,rE,↓reduceIte,rA,Aa nz]) (aJ ?_);try refine ap ?_
 have d3:=tR (n:=3) g1 rfl;have d4:=tR (n:=3) c10 rfl;refine bK (d7 d3 d4 ?_);refine aL (ap ?_);refine aF (aLj H (hL.same t10) (hq.same t10) hv10 (hb.inBound ay) ((uO.mul ba bb).inBound ay) ((uO.add hb (uO.mul ba bb)).inBound ay)) ?_;rintro _ S11 ⟨w,rfl,hw,s11⟩;obtain⟨w0,w1,w2,rfl⟩:=hw.cells;have m11:=s11.1;have g3:=(s11.2 _ (show S1.nx<S10.nx by omega)).trans g2;refine d7 @tU @tP ?_;refine dH (b:=S1.nx) (aq) (by simp only[↓stU,aG,rE,↓reduceIte,rA,aS];rfl) g3 rfl rfl ?_;intro S12 s12 n12 c12;refine ap ?_;refine aK (d7 @bR (mZ c12) ?_);exact⟨w0,w1,w2,rfl,hw.stU g3 rfl s12 c12,s12.same (t10.trans s11) au⟩
theorem aTy(i:Decidable True): @decide True i=true:=@Ac True i trivial
theorem aQn{z:Int}(h:z.natAbs<B ^ 3):uO 3 (z:Rat):=⟨h,Nat.one_lt_pow ay ay⟩
theorem aFZ{S:St}{sv:AV}{q:Rat}{b:Int}(H:Has fns)(hL:Laid S)(hF:lS S)(hq:cE S sv q)(hb:uO 3 q)(b1:1<=b)(b2:b<=9223372036854775807):
  eT fns (.fn 59 [] []) [sv,.int .i64 b] S fun r S'=>∃x y z,r= .tup [.agg [x,y,z],.int .i64 0]/\cE S' (.agg [x,y,z]) (q * ((b:Int):Rat)⁻¹)/\Same S S':=by
 obtain⟨q0,q1,q2,rfl⟩:=hq.cells;have bb:=zH (a:=b) au b2;have nb:((b:Int):Rat).num≠0:=by show b≠0;omega
 refine bL H.f59 (by simp) ?_;refine ap ?_;refine bK ?_;refine qW (cs:=[q0,q1,q2]) (by simp only[↓stU,aG,rE,↓reduceIte,aS]) ?_;intro S1 s1 n1 c1 f1;refine ap ?_;refine lR ?_;intro S2 s2 n2 c2 f2;refine ap ?_;have s02:=s1.trans s2;refine bK (ap ?_);refine aL (ap ?_);refine aF (jN (aQu H (hL.same s02) au b2)) ?_;rintro _ S3 ⟨⟨x0,x1,x2,rfl,hx,s3⟩,f3⟩;refine d7 @tU @tP ?_;refine lR ?_;intro S4 s4 n4 c4 f4;try refine ap ?_
 refine aBr (b:=S3.nx) (aq) (by simp only[↓stU,aG,rE,↓reduceIte,rA,aS];rfl) c4 rfl rfl ?_;intro S5 s5 n5 c5 f5;refine ap ?_;have s35:Same S3 S5:=s5.same s4 (Af _);have s05:=(s02.trans s3).trans s35;have f05:=(f1.trans f2).trans (f3.trans (f4.trans f5));have nz:¬ (0:Int)≠0:=by decide
 refine fA (ap ?_);refine aO (by simp only[↓stU,aG,rE,↓reduceIte,rA,Aa nz]) (aJ ?_);try refine ap ?_
 have m2:=s2.1;have m3:=s3.1;have m35:=s35.1;have m1:=s1.1;have g1:S5.h.get S.nx=some (.cells [q0,q1,q2] false 0):=by
  rw[s35.2 _ au,s3.2 _ au,s2.2 _ au];exact c1
 have g2:S5.h.get S1.nx=some (.cells [.bool false,.ce,.ce] false 0):=by
  rw[s35.2 _ au,s3.2 _ au];exact c2
 have d3:=tR (n:=3) g1 rfl;have d4:=tR (n:=3) c5 rfl;refine bK (d7 d3 d4 ?_);refine aL (ap ?_);refine aF (aMK H (hL.same s05) (f05.1 hF) (hq.same s05) (hx.same s35) (hb.inBound ay) (bb.inBound ay) nb ((uO.mul hb (uO.inv bb nb)).inBound ay)) ?_;rintro _ S11 ⟨w,rfl,hw,s11⟩;obtain⟨w0,w1,w2,rfl⟩:=hw.cells;have m11:=s11.1;have g3:=(s11.2 _ (show S1.nx<S5.nx by omega)).trans g2;refine d7 @tU @tP ?_;refine dH (b:=S1.nx) (aq) (by simp only[↓stU,aG,rE,↓reduceIte,rA,aS];rfl) g3 rfl rfl ?_;intro S12 s12 n12 c12;refine ap ?_;refine aK (d7 @bR (mZ c12) ?_);exact⟨w0,w1,w2,rfl,hw.stU g3 rfl s12 c12,s12.same (s05.trans s11) au⟩
theorem aI5{S0 S:St}{eb sb ob mb:Nat}{q0 q1 q2 ov m0 m1 m2:AV}{q:Rat}{b:Int}{l:bm}(H:Has fns)(hL:Laid S)(hF:lS S)(h0:Same S0 S)(he:S.h.get eb=some (.cells [.int .i64 0] false 0))(hs:S.h.get sb=some (.cells [q0,q1,q2] false 0))(ho:S.h.get ob=some (.cells [ov] false 0))(hm:S.h.get mb=some (.cells [m0,m1,m2] false 0))(le:S0.nx<=eb)(lm:S0.nx<=mb)(hem:eb≠mb)(nm:noU [m0,m1,m2]=true)(hq:cE S (.agg [q0,q1,q2]) q)(hb:uO 3 q)(hl:cH .i64 S ov l)(hl0:0<l.length)(hlb:l.getD 0 0=b)(b1:1<=b)(b2:b<=9223372036854775807):
  eT fns (.fn 58 [] [.ptr eb 0,.ptr sb 0,.ptr ob 0,.ptr mb 0]) [] S fun _ S'=>Same S0 S'/\S'.h.get eb=some (.cells [.int .i64 0] false 0)/\∃x y z,S'.h.get mb=some (.cells [x,y,z] false 0)/\cE S' (.agg [x,y,z]) (q * ((b:Int):Rat)⁻¹):=by
 have xe:=hF.lt he;have xs:=hF.lt hs;have xo:=hF.lt ho;have xm:=hF.lt hm;refine bL H.f58 (by simp) ?_;refine ap ?_;have e1:dJ (.ptr eb 0) false 1 S.h=some (.int .i64 0):=eE he rfl;refine bK (dz e1 ?_);refine aP (by simp only[↓stU,aG,rE,↓reduceIte,rA,aTy]) ?_;have⟨cb,off,ia,hcb,lc⟩:=cH.ptr' hl hl0;rw[hlb] at lc;have d1:=tR (n:=3) hs rfl;have d2:dJ (.ptr ob 0) false 1 S.h=some ov:=eE ho rfl;have svo:=cH.self hl;have svq:=yL hq;refine yM (W:=fun _=>False) (K:=8) (m0:=127) (R:=fun F' Z ps=>ps= []/\Same S Z/\aB 3 F'= .ptr mb 0/\aB 0 F'= .ptr eb 0/\∃w0 w1 w2,aB 12 F'= .agg [w0,w1,w2]/\aB 13 F'= .int .i64 0/\cE Z (.agg [w0,w1,w2]) (q * ((b:Int):Rat)⁻¹)) (Dl 8 _).symm rfl ay ay  ?_ ?_
 ·intro S1 s1 hS1 nS1;simp only[Gf,Ha];have l0:dS (.int .i64 0)=some 0:=rfl;refine dy d1 d2 svo svq @Am l0 ia lc ?_;have F1:lS S1:=fun c hc=>by rw[hS1];exact hF c (aw s1.1)
  refine⟨xs,xo,hcb,cF rfl ?_⟩;refine ae ?_;refine aF (aFZ H (hL.same s1) F1 (hq.same s1) hb b1 b2) ?_;rintro _ Z ⟨w0,w1,w2,rfl,hw,sZ⟩;refine⟨sZ,?_⟩;refine c9 @tU @tP ?_;exact⟨s1.trans sZ,w0,w1,w2,rfl,hw⟩
 rintro F' S' ps hs ls ⟨rfl,s1,p3,p0,w0,w1,w2,p12,p13,hw⟩ hlast hld;have m1:=s1.1;have g1:=(s1.2 _ xm).trans hm;have g2:=(s1.2 _ xe).trans he;simp only[List.drop_succ_cons,Dn];refine oN (v:=.undef) (S1:=⟨S'.h.set mb (some (.cells [w0,w1,w2] false 0)),S'.nx⟩) hlast (fun call=>?_) ?_
 ·rw[dW];simp only[fB,p12,p3,dF,aS,aH];exact vG (S:=S') g1 rfl rfl
 have g3:(S'.h.set mb (some (.cells [w0,w1,w2] false 0))).get eb=some (.cells [.int .i64 0] false 0):=by rw[dq,if_neg hem];exact g2
 refine oN (v:=.undef) (S1:=⟨(S'.h.set mb (some (.cells [w0,w1,w2] false 0))).set eb (some (.cells [.int .i64 0] false 0)),S'.nx⟩) (show Nat.testBit 511 8=true by decide) (fun call=>?_) ?_
 ·rw[dW];simp only[fQ,fB,p13,p0,dF,cN,aH];exact vG (S:=⟨_,S'.nx⟩) g3 rfl rfl
 rw[nF];refine⟨?_,?_⟩
 ·simp only[Dz,Be,Ee,Cu,Ck];exact hld _ _
 simp only[dF,fQ];have g4:((S'.h.set mb (some (.cells [w0,w1,w2] false 0))).set eb (some (.cells [.int .i64 0] false 0))).get mb=some (.cells [w0,w1,w2] false 0):=by rw[dq,if_neg (Dy hem),dq,if_pos rfl]
 have t1:cB mb S' ⟨S'.h.set mb (some (.cells [w0,w1,w2] false 0)),S'.nx⟩:=(cB.refl _ _).put _;have hw1:=hw.stU g1 nm t1 fh;have t2:cB eb ⟨S'.h.set mb (some (.cells [w0,w1,w2] false 0)),S'.nx⟩ ⟨(S'.h.set mb (some (.cells [w0,w1,w2] false 0))).set eb (some (.cells [.int .i64 0] false 0)),S'.nx⟩:=(cB.refl eb (⟨S'.h.set mb (some (.cells [w0,w1,w2] false 0)),S'.nx⟩:St)).put _;have hw2:=hw1.stU g3 rfl t2 fh;have s00:=h0.trans s1;exact⟨_,rfl,t2.same (t1.same s00 lm) le,by rw[dq,if_pos rfl],w0,w1,w2,g4,hw2⟩
def rU(g:bD)(cn:Nat->Int)(p i:Nat):Int:=if(cj g i).kind=3 then(cj g i).pay.getD p 0 * cn i else 0
def gD(g:bD)(cn:Nat->Int)(p:Nat):Nat->Int
 | 0=>0
 | i+1=>gD g cn p i+rU g cn p i
def aAV(g:bD):Prop:=∀i,i<g.bw.length->(cj g i).kind=3->∀w∈(cj g i).pay, -1000000<=w/\w<=1000000
theorem aN5{g:bD}(h:eO g=0):aAV g:=by
 intro i hi hk;unfold eO at h;split at h
 ·cases h
 split at h
 ·rename_i h1;exact absurd h h1
 rename_i hE;have hE:=Hk.1 hE;have hx:jW g.b9 g.bz.length (cj g i)=0:=lP hE _ (Cm (iK hi));unfold jW at hx;rw[if_neg au,if_neg au,if_pos hk] at hx;split at hx
 ·cases hx
 split at hx
 ·cases hx
 rename_i ha;intro w hw;have:¬ (w< -1000000\/1000000<w):=fun h=>ha ⟨w,hw,h⟩;omega
section
variable {g:bD}{cn:Nat->Int}{p:Nat}{sz:Int}
theorem aJG(hP:aAV g){i:Nat}(hi:i<g.bw.length)(hk:(cj g i).kind=3): -1000000<=(cj g i).pay.getD p 0/\(cj g i).pay.getD p 0<=1000000:=by
 by_cases h:p<(cj g i).pay.length
 ·rw[Ae,Ad h];exact hP i hi hk _ (Cv h)
 ·rw[Ae,Bo au];simp
theorem aPR(hP:aAV g)(hc:∀i,i<g.bw.length->0<=cn i/\cn i<=1000000000000000){i:Nat}(hi:i<g.bw.length):(rU g cn p i).natAbs<=1000000000000000000000:=by
 unfold rU;split
 ·rename_i hk;have h1:=aJG (p:=p) hP hi hk;have h2:=hc i hi;generalize (cj g i).pay.getD p 0=a at h1;generalize cn i=b at h2;rw[Gz];have:=Dw (show a.natAbs<=1000000 by omega) (show b.natAbs<=1000000000000000 by omega);omega
 ·simp
theorem aIL(hP:aAV g)(hc:∀i,i<g.bw.length->0<=cn i/\cn i<=1000000000000000):∀ {n:Nat},n<=g.bw.length->(gD g cn p n).natAbs<=n * 1000000000000000000000
 | 0,_=>by simp [gD]
 | n+1,h=>by
  have h1:=aIL hP hc (n:=n) au;have h2:=aPR (p:=p) hP hc (i:=n) au;show(gD g cn p n+rU g cn p n).natAbs<=_;generalize gD g cn p n=a at h1;generalize rU g cn p n=b at h2;omega
theorem aBQ(hP:aAV g)(hc:∀i,i<g.bw.length->0<=cn i/\cn i<=1000000000000000)(hN:g.bw.length<=2000){n:Nat}(h:n<=g.bw.length):uO 3 ((gD g cn p n:Int):Rat):=by
 have h1:=aIL (p:=p) hP hc h;generalize gD g cn p n=a at h1;refine aQn (Cg (Bb h1 (Ar _ (show n<=2000 by omega))) ay)
theorem aJ3(hi:True){i:Nat}(hk:(cj g i).kind=3):((gD g cn p (i+1):Int):Rat)=((gD g cn p i:Int):Rat)+(((cj g i).pay.getD p 0:Int):Rat) * ((cn i:Int):Rat):=by
 rw[<-Rat.intCast_mul,<-Rat.intCast_add];show((gD g cn p i+rU g cn p i:Int):Rat)=_;unfold rU;rw[if_pos hk]
theorem aEz{i:Nat}(h:(cj g i).kind≠3\/cn i=0):gD g cn p (i+1)=gD g cn p i:=by
 show gD g cn p i+rU g cn p i=_;unfold rU;split
 ·rename_i hk;rcases h with h | h
  ·exact absurd hk h
  ·rw[h,Int.mul_zero,Int.add_zero]
 ·omega
end
structure aFT(S:St)(gb ob mb eb sb:Nat)(g:bD)(cn:Nat->Int)(gc:bo)(ov nv:AV)(p:Nat)(m i:Nat)(A:bN)(X:St):Prop where
 inr:A.inr=false
 same:Same S X
 frs:nP S X
 gg:X.h.get gb=some (.cells gc false 0)
 go:X.h.get ob=some (.cells [ov] false 0)
 gm:X.h.get mb=some (.cells [.bool false,.ce,.ce] false 0)
 ge:X.h.get eb=some (.cells [.int .i64 0] false 0)
 gs:∃x y z,X.h.get sb=some (.cells [x,y,z] false 0)/\cE X (.agg [x,y,z]) ((gD g cn p m:Int):Rat)
 lsb:sb<X.nx
 t2:aB 2 A.F= .int .i64 (p:Int)
 t3:aB 3 A.F= .ptr gb 0
 t4:aB 4 A.F= .ptr ob 0
 t6:aB 6 A.F= .ptr mb 0
 t7:aB 7 A.F= .ptr eb 0
 t8:aB 8 A.F= .ptr sb 0
 t15:aB 15 A.F= .fn 58 [] [.ptr eb 0,.ptr sb 0,.ptr ob 0,.ptr mb 0]
 t17:aB 17 A.F=nv
 t18:aB 18 A.F= .int .i64 (g.bw.length:Int)
 t19:aB 19 A.F= .int .i64 (i:Int)
theorem aLe{S:St}{nv iv ov:AV}{g:bD}{l:bm}{sz:Int}{cn:Nat->Int}{p:Nat}(H:Has fns)(hL:Laid S)(hF:lS S)(G:fH g)(hP:aAV g)(hn:bH 6 dC S nv g.bw)(ho:cH .i64 S ov l)(hl:l=(List.range g.bw.length).map cn)(hc:∀i,i<g.bw.length->0<=cn i/\cn i<=1000000000000000)(h0:cn 0=sz)(hs:1<=sz)(hs2:sz<=1000000000000000)(hp:(p:Int)<g.b9):
  eT fns (.fn 34 [] []) [.agg [.int .i64 g.b9,nv,iv],ov,.int .i64 (p:Int)] S fun r S'=>∃x y z,r= .tup [.agg [x,y,z],.int .i64 0]/\cE S' (.agg [x,y,z]) (((gD g cn p g.bw.length:Int):Rat) * ((sz:Int):Rat)⁻¹)/\Same S S':=by
 have hN:=G.good.n2;have hN1:=G.good.n1;have snv:=bH.self hn;have hll:l.length=g.bw.length:=by rw[hl,Ce,Eq]
 have hlg:∀i,i<g.bw.length->l.getD i 0=cn i:=fun i hi=>by rw[hl,Ae,Bz,Ge hi];rfl
 refine bL H.f34 (by simp) ?_;try refine ap ?_
 refine bK ?_;refine qW (cs:=[.int .i64 g.b9,nv,iv]) rfl ?_;intro S1 s1 n1 c1 f1;try refine ap ?_
 refine qW (cs:=[ov]) (cH.cells ho) ?_;intro S2 s2 n2 c2 f2;try refine ap ?_
 refine lR ?_;intro S3 s3 n3 c3 f3;try refine ap ?_
 refine lR ?_;intro S4 s4 n4 c4 f4;try refine ap ?_
 refine bK ?_;try refine ap ?_
 refine aL ?_;try refine ap ?_
 have s04:=s1.trans (s2.trans (s3.trans s4));refine aF (jN (aQu (a:=0) H (hL.same s04) au au)) ?_;rintro _ S5 ⟨⟨x0,x1,x2,rfl,hx,s5⟩,f5⟩;refine d7 @tU @tP ?_;refine lR ?_;intro S6 s6 n6 c6 f6;try refine ap ?_
 refine aBr (b:=S5.nx) (aq) (by simp only[↓stU,aG,rE,↓reduceIte,rA,aS];rfl) c6 rfl rfl ?_;intro S7 s7 n7 c7 f7;try refine ap ?_
 have m5:=s5.1;have s57:Same S5 S7:=s7.same s6 (Af _);have c47:S7.h.get S3.nx=some (.cells [.int .i64 0] false 0):=by rw[s57.2 _ au,s5.2 _ au];exact c4
 refine aBr (b:=S3.nx) (aq) (by simp only[↓stU,aG,rE,↓reduceIte,rA,cN];rfl) c47 rfl rfl ?_;intro S8 s8 n8 c8 f8;try refine ap ?_
 have s07:=(s04.trans s5).trans s57;have s08:Same S S8:=s8.same s07 au;have f08:nP S S8:=(f1.trans (f2.trans (f3.trans f4))).trans (f5.trans (f6.trans (f7.trans f8)));have b1:S8.h.get S.nx=some (.cells [.int .i64 g.b9,nv,iv] false 0):=by
  rw[s8.2 _ au au,s57.2 _ au,s5.2 _ au,s4.2 _ au,s3.2 _ au,s2.2 _ au];exact c1
 have b2:S8.h.get S1.nx=some (.cells [ov] false 0):=by
  rw[s8.2 _ au au,s57.2 _ au,s5.2 _ au,s4.2 _ au,s3.2 _ au];exact c2
 have b3:S8.h.get S2.nx=some (.cells [.bool false,.ce,.ce] false 0):=by
  rw[s8.2 _ au au,s57.2 _ au,s5.2 _ au,s4.2 _ au];exact c3
 have b5:S8.h.get S5.nx=some (.cells [x0,x1,x2] false 0):=by
  rw[s8.2 _ au au];exact c7
 have hx8:cE S8 (.agg [x0,x1,x2]) ((gD g cn p 0:Int):Rat):=(hx.same s57).stU c47 rfl s8 c8;have l58:S5.nx<S8.nx:=by omega
 have e1:S1.nx=S.nx+1:=n1;have e2:S2.nx=S.nx+2:=by omega
 have e3:S3.nx=S.nx+3:=by omega
 have e5:S.nx+4<=S5.nx:=by omega
 generalize S1.nx=ob at *;generalize S2.nx=mb at *;generalize S3.nx=eb at *;generalize hsb:S5.nx=sb at *;refine bK ?_;simp only[↓stU,aG,rE,↓reduceIte,rA,uF,dE];obtain⟨gc,hgc⟩:∃gc:bo,gc= [.int .i64 g.b9,nv,iv]:=⟨_,rfl⟩;rw[<-hgc] at b1;refine aE (bG (Q:=fun o A' X=>o= .normal/\aFT S S.nx ob mb eb sb g cn gc ov nv p g.bw.length g.bw.length A' X) (aQ (aE (bG (Q:=fun o A' X=>o= .normal/\aFT S S.nx ob mb eb sb g cn gc ov nv p g.bw.length g.bw.length A' X) (aE (aM ?_)) ?_))) ?_);rotate_left
 ·rintro o ⟨F,inr⟩ X ⟨rfl,hM⟩;exact bS ⟨rfl,hM⟩
 ·rintro o ⟨F,inr⟩ X ⟨rfl,M⟩;have q0:inr=false:=M.inr;have p15:aB 15 F=_:=M.t15;subst q0;have⟨y0,y1,y2,hsx,hrx⟩:=M.gs;refine aM ?_;refine aL (dz p15 ?_);refine aF (aI5 (l:=l) (b:=sz) H (hL.same M.same) (M.frs.1 hF) M.same M.ge hsx M.go M.gm au au au rfl hrx (aBQ hP hc hN (Af _)) (ho.same M.same) au (by rw[hlg 0 hN1,h0]) hs au) ?_;rintro _ Y ⟨sY,hY,z0,z1,z2,hm,hr⟩;try refine ap ?_
  have p6:aB 6 F=_:=M.t6;have p7:aB 7 F=_:=M.t7;have d1:=tR (n:=3) hm rfl;have d2:dJ (.ptr eb 0) false 1 Y.h=some (.int .i64 0):=eE hY rfl;refine⟨[.agg [z0,z1,z2],.int .i64 0],?_,z0,z1,z2,rfl,hr,sY⟩;rw[bR,bR,p6,p7,d1,aH,d2,aH];rfl
 have d1:=tR (n:=3) b1 (by rw[hgc];rfl);rw[hgc] at b1;refine ed @aD @aC (mO b1) hn.len ?_;rw[<-hgc] at b1;refine bG (Q:=fun o A' X=>o= .normal/\aFT S S.nx ob mb eb sb g cn gc ov nv p g.bw.length g.bw.length A' X) (aQ (bX (fun k A X=>∃i,i+k=g.bw.length/\aFT S S.nx ob mb eb sb g cn gc ov nv p i i A X) ?_ g.bw.length _ _ ⟨0,au,⟨rfl,s08,f08,b1,b2,b3,c8,⟨_,_,_,b5,hx8⟩,l58,aq,aq,aq,aq,aq,aq,aq,aq,by simp only[↓stU,aG,rE,↓reduceIte,rA];try rfl,by simp only[↓stU,aG,rE,↓reduceIte,rA];try rfl⟩⟩)) ?_;rotate_left
 ·rintro o A' X ⟨rfl,hM⟩;exact⟨rfl,hM⟩
 clear b1 b2 b3 b5 c8 hx8 d1 s08 f08 s07 c47 s57 hx s04 s8 s7 s6 s5 s4 s3 s2 s1;rintro k ⟨F,inr⟩ X ⟨i,hik,M⟩;have q0:inr=false:=M.inr;have p2:aB 2 F=_:=M.t2;have p3:aB 3 F=_:=M.t3;have p4:aB 4 F=_:=M.t4;have p6:aB 6 F=_:=M.t6;have p7:aB 7 F=_:=M.t7;have p8:aB 8 F=_:=M.t8;have p15:aB 15 F=_:=M.t15;have p17:aB 17 F=_:=M.t17;have p18:aB 18 F=_:=M.t18;have p19:aB 19 F=_:=M.t19;obtain⟨-,sX,fX,kg,ko,km,ke,⟨y0,y1,y2,ks,hrx⟩,lsb, -⟩:=M;subst q0;refine bK ?_;simp only[↓sU,sD,rE,↓reduceIte,rA,p18,p19];by_cases hlt:i<g.bw.length;rotate_left
 ·refine aE (aO (by simp only[↓sU,sD,rE,↓reduceIte,rA,Aa (show ¬ (i:Int)<(g.bw.length:Int) by omega)]) (bS ?_));refine ae ?_;obtain rfl:i=g.bw.length:=by omega
  exact⟨rfl,sX,fX,kg,ko,km,ke,⟨_,_,_,ks,hrx⟩,lsb,ah p2,ah p3,ah p4,ah p6,ah p7,ah p8,ah p15,ah p17,ah p18,ah p19⟩
 refine aE (aP (by simp only[↓sU,sD,rE,↓reduceIte,rA,Ac (show(i:Int)<(g.bw.length:Int) by omega)]) (aJ ?_));try refine ae ?_
 have w0:=dk i
 refine aE (bG (Q:=fun o A' Z=>o= .normal/\aFT S S.nx ob mb eb sb g cn gc ov nv p (i+1) i A' Z) ?_ ?_);rotate_left
 ·rintro o ⟨F',inr⟩ Z ⟨rfl,M⟩;have q0:inr=false:=M.inr;have p2:aB 2 F'=_:=M.t2;have p3:aB 3 F'=_:=M.t3;have p4:aB 4 F'=_:=M.t4;have p6:aB 6 F'=_:=M.t6;have p7:aB 7 F'=_:=M.t7;have p8:aB 8 F'=_:=M.t8;have p15:aB 15 F'=_:=M.t15;have p17:aB 17 F'=_:=M.t17;have p18:aB 18 F'=_:=M.t18;have p19:aB 19 F'=_:=M.t19;obtain⟨-,sX,fX,kg,ko,km,ke,ks,lsb, -⟩:=M;subst q0;refine aM ?_;simp only[↓sU,sD,rE,↓reduceIte,rA,p19,w0];exact⟨k - 1,au,i+1,au,rfl,sX,fX,kg,ko,km,ke,ks,lsb,ah p2,ah p3,ah p4,ah p6,ah p7,ah p8,ah p15,ah p17,ah p18,af⟩
 obtain⟨_,bx,qx,hiax,hbx,_,⟨xa,xw,xp,rfl,hxa,hxw,hxp⟩,hldx,_⟩:=bH.at hn ay (iK hlt);rw[<-aAs sX hbx] at hldx;refine aQ (aE (aM ?_));refine ef p17 p19 @aW hiax hldx ?_;refine lR ?_;intro W1 v1 k1 h1 f1;try refine ap ?_
 refine aBr (b:=X.nx) (aq) (by refine ap ?_;exact aS _) h1 rfl rfl ?_;intro Y v2 k2 h2 f2;refine ae ?_;have sXY:Same X Y:=v2.same v1 (Af _);have fXY:=f1.trans f2;have nX:=sX.1;have lxY:X.nx<Y.nx:=by omega
 have hbig:sb<X.nx:=lsb;have kg':=(sXY.2 _ (show S.nx<X.nx by omega)).trans kg;have ko':=(sXY.2 _ (show ob<X.nx by omega)).trans ko;have km':=(sXY.2 _ (show mb<X.nx by omega)).trans km;have ke':=(sXY.2 _ (show eb<X.nx by omega)).trans ke;have ks':=(sXY.2 _ lsb).trans ks;have hrY:=hrx.same sXY;have sY:=sX.trans sXY;have fY:=fX.trans fXY;clear v1 v2 h1 k1;have de:dJ (.ptr eb 0) false 1 Y.h=some (.int .i64 0):=eE ke' rfl;have dO:dJ (.ptr ob 0) false 1 Y.h=some ov:=eE ko' rfl;refine fA (c9 p7 de ?_);refine aO (by simp only[↓sU,sD,rE,↓reduceIte,rA,Aa (show ¬ (0:Int)≠0 by omega)]) (aJ ?_);try refine ae ?_
 have hil:i<l.length:=by omega
 have hiO:=(ho.same sY).cq hil;have hlO:=(ho.same sY).ld hil;rw[hlg i hlt] at hlO;have sov:=cH.self ho;refine bK (dh @aD @aC (mN h2) ?_);by_cases hk:(cj g i).kind=3;rotate_left
 ·have hd:=Aa hk;refine cp hd ?_;refine aO (ah hd) (aJ ?_);refine ae ?_;have e:gD g cn p (i+1)=gD g cn p i:=aEz (.inl hk);rw[<-e] at hrY;exact⟨rfl,sY,fY,kg',ko',km',ke',⟨_,_,_,ks',hrY⟩,au,ah p2,ah p3,ah p4,ah p6,ah p7,ah p8,ah p15,ah p17,ah p18,ah p19⟩
 have hd:=Ac hk;refine dw hd p4 dO @aW hiO hlO ?_;have hci:=hc i hlt;by_cases hc0:cn i=0
 ·have hd2:=Aa (show ¬cn i>0 by omega);refine aO (by simp only[↓sU,sD,rE,↓reduceIte,rA,hd,hd2]) (aJ ?_);refine ae ?_;have e:gD g cn p (i+1)=gD g cn p i:=aEz (.inr hc0);rw[<-e] at hrY;exact⟨rfl,sY,fY,kg',ko',km',ke',⟨_,_,_,ks',hrY⟩,au,ah p2,ah p3,ah p4,ah p6,ah p7,ah p8,ah p15,ah p17,ah p18,ah p19⟩
 have hd2:=Ac (show cn i>0 by omega);refine aP (by simp only[↓sU,sD,rE,↓reduceIte,rA,hd,hd2]) ?_;have hpl:p<(cj g i).pay.length:=by have:=G.pay i hlt hk;omega
 have hiP:=(hxp.same sY).cq hpl;have hlP:=(hxp.same sY).ld hpl;have sxp:=cH.self hxp;have syr:=yL hrY;have d8:=tR (n:=3) ks' rfl;have hpb:=aJG (p:=p) hP hlt hk;have⟨cb,co,hbO,lbO,dO2⟩:=cH.ptr' (ho.same sY) hil;have⟨pb,po,hbP,lbP,dP2⟩:=cH.ptr' (hxp.same sY) hpl;rw[hlg i hlt] at dO2;refine bG (aFP (Q:=fun o A' Z=>o= .normal/\∀f:nP S Z,aFT S S.nx ob mb eb sb g cn gc ov nv p (i+1) i A' Z) ?_) ?_;rotate_left
 ·rintro o A' Z ⟨⟨rfl,hM⟩,f⟩;exact⟨rfl,hM (fY.trans f)⟩
 refine yM (W:=fun _=>False) (K:=14) (m0:=8191) (R:=fun F' Z ps=>ps= []/\Same Y Z/\aB 2 F'= .int .i64 (p:Int)/\aB 3 F'= .ptr S.nx 0/\aB 4 F'= .ptr ob 0/\aB 6 F'= .ptr mb 0/\aB 7 F'= .ptr eb 0/\aB 8 F'= .ptr sb 0/\aB 15 F'= .fn 58 [] [.ptr eb 0,.ptr sb 0,.ptr ob 0,.ptr mb 0]/\aB 17 F'=nv/\aB 18 F'= .int .i64 (g.bw.length:Int)/\aB 19 F'= .int .i64 (i:Int)/\∃w0 w1 w2,aB 48 F'= .agg [w0,w1,w2]/\aB 49 F'= .int .i64 0/\cE Z (.agg [w0,w1,w2]) ((gD g cn p (i+1):Int):Rat)) (Dl 14 _).symm rfl ay ay  ?_ ?_
 ·intro S1 s1 hS1 nS1;simp only[Gf,Ha];simp only[↓sU,sD,rE,↓reduceIte,rA,p8,d8,syr,Am,aD,aX,aC,mV h2,sxp,p2,aW,hbP,dP2,p4,dO,sov,hbO,dO2];refine⟨au,lxY,lbP,au,lbO,cF rfl ?_⟩;refine ae ?_;refine aF (aJ4 H (hL.same (sY.trans s1)) (hrY.same s1) ((aBQ hP hc hN (Nat.le_of_lt hlt)).mono ay) au au au au) ?_;rintro _ Z ⟨w0,w1,w2,rfl,hw,sZ⟩;rw[<-aJ3 trivial hk] at hw;refine⟨sZ,?_⟩;refine c9 @tU @tP ?_;exact⟨s1.trans sZ,p2,p3,p4,p6,p7,p8,p15,p17,p18,p19,w0,w1,w2,rfl,hw⟩
 rintro F' S' ps hs ls ⟨rfl,s1,r2,r3,r4,r6,r7,r8,r15,r17,r18,r19,w0,w1,w2,p48,p49,hw⟩ hlast hld;have m1:=s1.1;have lsY:sb<Y.nx:=by omega
 have leY:eb<Y.nx:=by omega
 have g1:=(s1.2 _ lsY).trans ks';have g2:=(s1.2 _ leY).trans ke';have hes:eb≠sb:=by omega
 simp only[List.drop_succ_cons,Dn];refine oN (v:=.undef) (S1:=⟨S'.h.set sb (some (.cells [w0,w1,w2] false 0)),S'.nx⟩) hlast (fun call=>?_) ?_
 ·rw[dW];simp only[fB,p48,r8,dF,aS,aH];exact vG (S:=S') g1 rfl rfl
 have g3:(S'.h.set sb (some (.cells [w0,w1,w2] false 0))).get eb=some (.cells [.int .i64 0] false 0):=by rw[dq,if_neg hes];exact g2
 refine oN (v:=.undef) (S1:=⟨(S'.h.set sb (some (.cells [w0,w1,w2] false 0))).set eb (some (.cells [.int .i64 0] false 0)),S'.nx⟩) (show Nat.testBit 32767 14=true by decide) (fun call=>?_) ?_
 ·rw[dW];simp only[fQ,fB,p49,r7,dF,cN,aH];exact vG (S:=⟨_,S'.nx⟩) g3 rfl rfl
 rw[nF];refine⟨?_,?_⟩
 ·simp only[Dz,Be,Ee,Cu,Ck];exact hld _ _
 simp only[dF,fQ];have g4:((S'.h.set sb (some (.cells [w0,w1,w2] false 0))).set eb (some (.cells [.int .i64 0] false 0))).get sb=some (.cells [w0,w1,w2] false 0):=by rw[dq,if_neg (Dy hes),dq,if_pos rfl]
 have t1:cB sb S' ⟨S'.h.set sb (some (.cells [w0,w1,w2] false 0)),S'.nx⟩:=(cB.refl _ _).put _;have hw1:=hw.stU g1 hrY.noU t1 fh;have t2:cB eb ⟨S'.h.set sb (some (.cells [w0,w1,w2] false 0)),S'.nx⟩ ⟨(S'.h.set sb (some (.cells [w0,w1,w2] false 0))).set eb (some (.cells [.int .i64 0] false 0)),S'.nx⟩:=(cB.refl eb (⟨S'.h.set sb (some (.cells [w0,w1,w2] false 0)),S'.nx⟩:St)).put _;have hw2:=hw1.stU g3 rfl t2 fh;have oth:∀c bl,c<Y.nx->c≠sb->c≠eb->Y.h.get c=some bl->((S'.h.set sb (some (.cells [w0,w1,w2] false 0))).set eb (some (.cells [.int .i64 0] false 0))).get c=some bl:=fun c bl h1 h2 h3 h4=>by
  rw[dq,if_neg h3,dq,if_neg h2];exact(s1.2 c h1).trans h4
 refine⟨trivial,fun f=>⟨rfl,t2.same (t1.same (sY.trans s1) au) au,f,oth _ _ au au au kg',oth _ _ au au au ko',oth _ _ au au au km',by rw[dq,if_pos rfl],⟨w0,w1,w2,g4,hw2⟩,Ag lsY m1,r2,r3,r4,r6,r7,r8,r15,r17,r18,r19⟩⟩
structure wW(g:bD)(ch:bm)(pr:Nat->Nat)(sz:Int)(cn ls pl:Nat->Int):Prop where
 G:fH g
 P:nC g pr
 pay:aAV g
 fit:∀i,i<g.bw.length->(cj g i).kind=2->(cj g i).info.toNat<ch.length/\0<=rI g ch i/\rI g ch i<((cj g i).next.length:Int)
 C:Cnt g ch sz cn
 L:Lst g ch ls pl
 s1:1<=sz
 s2:sz<=1000000000000000
 pb:∀i,i<g.bw.length->pr i<=1000000000000000
 eN:aBO g ch pr=sz
theorem aJR{g:bD}{ch:bm}{pr:Nat->Nat}(h:kN g ch pr=0)(hpr:eO g=0->nC g pr):∃sz cn ls pl,wW g ch pr sz cn ls pl:=by
 have⟨h1,h2⟩:=yP h;have G:=rF h1;have P:=hpr h1;have⟨e1,e2⟩:=aJl (pr:=pr) h1 h2;have⟨l1,l2⟩:=zE h2;have hz:∃z:Nat,szF g pr g.bw.length=some z:=by
  rw[h] at e2;unfold aCi at e2;cases hs:szF g pr g.bw.length with
  | none=>rw[hs] at e2;cases e2
  | some z=>exact⟨z,rfl⟩
 have⟨z,hz⟩:=hz;have eN:aAW g pr=(z:Int):=by unfold aAW;rw[hz]
 have⟨z1,z2,z3⟩:=aDI P G (Af _) hz;have⟨cn,C⟩:=aI6 G.good ch (z:Int);have⟨ls,pl,L⟩:=aJ8 G.good ch;refine⟨(z:Int),cn,ls,pl,G,P,aN5 h1,fun i hi hk=>?_,C,L,au,au,fun i hi=>P.le G z3 (Nat.le_of_lt hi) hi,by rw[e1,eN]⟩;have⟨i1,i2,i3⟩:=G.good.inf i hi hk;have hl:(cj g i).info.toNat<ch.length:=by omega
 have:=l2 _ hl;unfold okC at this;rw[show(((cj g i).info.toNat:Nat):Int)=(cj g i).info by omega] at this;exact⟨hl,this.1,by rw[<-i3];exact this.2⟩
theorem wW.cb{g:bD}{ch:bm}{pr:Nat->Nat}{sz:Int}{cn ls pl:Nat->Int}(R:wW g ch pr sz cn ls pl):∀i,i<g.bw.length->0<=cn i/\cn i<=1000000000000000:=fun i hi=>by
 have:=R.C.bd R.G (aw R.s1) hi;have:=R.s2;omega
noncomputable def aE2(g:bD)(ch:bm)(pr:Nat->Nat)(j:Int):Int:=if kN g ch pr≠0 then kN g ch pr else if j<0\/(g.bw.length:Int)<=j then 2 else 0
theorem aNY{g:bD}{ch:bm}{pr:Nat->Nat}{j:Int}(h:kN g ch pr≠0):aE2 g ch pr j=kN g ch pr:=if_pos h
theorem aHM{g:bD}{ch:bm}{pr:Nat->Nat}{j:Int}(h:kN g ch pr=0)(hj:j<0\/(g.bw.length:Int)<=j):aE2 g ch pr j=2:=by
 unfold aE2;rw[if_neg (fun h'=>h' h),if_pos hj]
theorem aK0{g:bD}{ch:bm}{pr:Nat->Nat}{j:Nat}(h:kN g ch pr=0)(hj:j<g.bw.length):aE2 g ch pr (j:Int)=0:=by
 unfold aE2;rw[if_neg (fun h'=>h' h),if_neg au]
def aJr(g:bD)(ch:bm)(pr:Nat->Nat)(j:Int)(v:(Nat->Int)->(Nat->Int)->Int×Int)(r:AV):Prop:=
 (aE2 g ch pr j≠0/\r= .tup [.int .i64 0,.int .i64 (aE2 g ch pr j)])\/(aE2 g ch pr j=0/\∃sz cn ls pl,wW g ch pr sz cn ls pl/\r= .tup [.int .i64 (v cn ls).1,.int .i64 (v cn ls).2])
theorem aCA{S:St}{nv iv cv:AV}{g:bD}{ch:bm}{pr:Nat->Nat}{j:Int}(H:Has fns)(hn:bH 6 dC S nv g.bw)(hi:bH 2 fO S iv g.bz)(hc:cH .i64 S cv ch)(hln:g.bw.length<=100000)(hll:ch.length<=10000000)(hpr:eO g=0->nC g pr):
  eT fns (.fn 8 [] []) [.agg [.int .i64 g.b9,nv,iv],cv,.int .i64 j] S fun r S'=>Same S S'/\aJr g ch pr j (fun cn _=>(cn j.toNat,0)) r:=by
 refine bL H.f8 (by simp) ?_;refine ae ?_;refine bK ?_;refine cD (cs:=[.int .i64 g.b9,nv,iv]) rfl ?_;intro S1 s1 n1 g1;refine ae ?_;refine bK (cp (jT g1) ?_);refine aL (ae ?_);refine aF (sA (pr:=pr) H (bH.same (E:=dC) cR hn s1) (bH.same (E:=fO) fC hi s1) (hc.same s1) hln hll hpr) ?_;rintro _ X ⟨hX,rfl⟩;have sX:=s1.trans hX;have gX:=(hX.2 _ (show S.nx<S1.nx by omega)).trans g1;have hnX:=bH.same (E:=dC) cR hn sX;refine c9 @tU @tP ?_;refine fA (ae ?_);by_cases hR:kN g ch pr=0;rotate_left
 ·refine aP (by simp only[↓sU,sD,rE,↓reduceIte,rA,Ac hR]) (aE (aM ?_));refine ae ?_;refine aK (ae ?_);exact⟨sX,.inl (by rw[aNY hR];exact⟨hR,rfl⟩)⟩
 refine aO (by simp only[↓sU,sD,rE,↓reduceIte,rA,Aa (show ¬kN g ch pr≠0 from fun h=>h hR)]) (aJ ?_);try refine ae ?_
 refine fA ?_;by_cases hj0:j<0
 ·refine cp (Ac hj0) ?_;refine aP (af) (aE (aM ?_));refine ae ?_;refine aK (ae ?_);exact⟨sX,.inl (by rw[aHM hR (.inl hj0)];exact⟨by decide,rfl⟩)⟩
 refine dw (Aa hj0) @aD @aC (mO gX) hnX.len @Ak ?_;by_cases hj1:j≥(g.bw.length:Int)
 ·refine aP (by simp only[↓sU,sD,rE,↓reduceIte,rA,Ac hj1]) (aE (aM ?_));refine ae ?_;refine aK (ae ?_);exact⟨sX,.inl (by rw[aHM hR (.inr hj1)];exact⟨by decide,rfl⟩)⟩
 refine aO (by simp only[↓sU,sD,rE,↓reduceIte,rA,Aa hj1]) (aJ ?_);try refine ae ?_
 obtain⟨k,rfl⟩:∃k:Nat,j=(k:Int):=⟨j.toNat,au⟩;have hk:k<g.bw.length:=by omega
 have⟨sz,cn,ls,pl,R⟩:=aJR hR hpr;refine bK (c9 (jT gX) R.eN ?_);refine aL (ae ?_);refine aF (aAN H R.G hnX (hc.same sX) R.fit R.C (aw R.s1) R.s2) ?_;rintro r Y ⟨hr,hY⟩;have il:=aHm.is hr;have hkl:k<((List.range g.bw.length).map cn).length:=by rw[Ce,Eq];exact hk
 have hia:=il.cq hkl;have hla:=il.ld hkl;have eg:((List.range g.bw.length).map cn).getD k 0=cn k:=by rw[Ae,Bz,Ge hk];rfl
 rw[eg] at hla;refine dh @aW hia hla ?_;refine aK (ae ?_);exact⟨sX.trans hY,.inr ⟨aK0 hR hk,sz,cn,ls,pl,R,by rw[Bd]⟩⟩
theorem wW.uni{g:bD}{ch:bm}{pr:Nat->Nat}{sz sz':Int}{cn cn' ls ls' pl pl':Nat->Int}(R:wW g ch pr sz cn ls pl)(R':wW g ch pr sz' cn' ls' pl'):sz=sz'/\∀j,j<g.bw.length->cn j=cn' j/\ls j=ls' j/\pl j=pl' j:=by
 have es:sz=sz':=by rw[<-R.eN,<-R'.eN]
 refine⟨es,fun j=>?_⟩
 induction j using Nat.strongRecOn with
 | ind j ih=>
  intro hj;rcases An j with h0 | h0
  ·subst h0;rw[R.C.zero,R'.C.zero,R.L.zero.1,R'.L.zero.1,R.L.zero.2,R'.L.zero.2];exact⟨es,rfl,rfl⟩
  ·have⟨q,k,hq,hk,he⟩:=gB R.G.good h0 hj;have hK:gI g q k j:=⟨au,hk,he⟩;have⟨e1,e2,e3⟩:=ih q hq au;by_cases h1:(cj g q).kind=1
   ·rw[R.C.cha q k j hK h1,R'.C.cha q k j hK h1,(R.L.cha q k j hK h1).1,(R.L.cha q k j hK h1).2,(R'.L.cha q k j hK h1).1,(R'.L.cha q k j hK h1).2,e1,e2,e3];exact⟨rfl,rfl,rfl⟩
   ·rw[R.C.mv q k j hK h1,R'.C.mv q k j hK h1,(R.L.mv q k j hK h1).1,(R.L.mv q k j hK h1).2,(R'.L.mv q k j hK h1).1,(R'.L.mv q k j hK h1).2,e1,e2,e3];exact⟨rfl,rfl,rfl⟩
def aEO(j:Nat)(cn ls:Nat->Int):Int×Int:=if cn j=0 then(0,18) else(ls j,0)
theorem aJr.uni{g:bD}{ch:bm}{pr:Nat->Nat}{j:Int}{v:(Nat->Int)->(Nat->Int)->Int×Int}{r r':AV}(hv:∀cn ls cn' ls',0<=j->j<(g.bw.length:Int)->cn j.toNat=cn' j.toNat->ls j.toNat=ls' j.toNat->v cn ls=v cn' ls')(h:aJr g ch pr j v r)(h':aJr g ch pr j v r'):r=r':=by
 rcases h with⟨h1,rfl⟩ | ⟨h1,sz,cn,ls,pl,R,rfl⟩
 ·rcases h' with⟨h2,rfl⟩ | ⟨h2,_⟩
  ·rfl
  ·exact absurd h2 h1
 ·rcases h' with⟨h2,rfl⟩ | ⟨h2,sz',cn',ls',pl',R',rfl⟩
  ·exact absurd h1 h2
  ·have hj:0<=j/\j<(g.bw.length:Int):=by
    unfold aE2 at h1;split at h1
    ·rename_i h3;exact absurd h1 h3
    ·split at h1
     ·cases h1
     ·omega
   have:=(R.uni R').2 j.toNat au;rw[hv cn ls cn' ls' hj.1 hj.2 this.1 this.2.1]
theorem aIq{S:St}{nv iv cv:AV}{g:bD}{ch:bm}{pr:Nat->Nat}{j:Int}(H:Has fns)(hn:bH 6 dC S nv g.bw)(hi:bH 2 fO S iv g.bz)(hc:cH .i64 S cv ch)(hln:g.bw.length<=100000)(hll:ch.length<=10000000)(hpr:eO g=0->nC g pr):
  eT fns (.fn 10 [] []) [.agg [.int .i64 g.b9,nv,iv],cv,.int .i64 j] S fun r S'=>Same S S'/\aJr g ch pr j (aEO j.toNat) r:=by
 refine bL H.f10 (by simp) ?_;refine ae ?_;refine bK ?_;refine cD (cs:=[.int .i64 g.b9,nv,iv]) rfl ?_;intro S1 s1 n1 g1;refine ae ?_;refine bK (cp (jT g1) ?_);refine aL (ae ?_);refine aF (aCA (pr:=pr) H (bH.same (E:=dC) cR hn s1) (bH.same (E:=fO) fC hi s1) (hc.same s1) hln hll hpr) ?_;rintro _ X ⟨hX,hr⟩;have sX:=s1.trans hX;have gX:=(hX.2 _ (show S.nx<S1.nx by omega)).trans g1;have hnX:=bH.same (E:=dC) cR hn sX;rcases hr with⟨he,rfl⟩ | ⟨he,sz,cn,ls,pl,R,rfl⟩
 ·refine c9 @tU @tP ?_;refine fA (ae ?_);refine aP (by simp only[↓sU,sD,rE,↓reduceIte,rA,Ac he]) (aE (aM ?_));refine ae ?_;refine aK (ae ?_);exact⟨sX,.inl ⟨he,rfl⟩⟩
 have hj:0<=j/\j<(g.bw.length:Int):=by
  unfold aE2 at he;split at he
  ·rename_i h3;exact absurd he h3
  ·split at he
   ·cases he
   ·omega
 obtain⟨k,rfl⟩:∃k:Nat,j=(k:Int):=⟨j.toNat,au⟩;rw[Bd];have hk:k<g.bw.length:=by omega
 refine c9 @tU @tP ?_;refine fA (ae ?_);refine aO (by simp only[↓sU,sD,rE,↓reduceIte,rA,Aa (show ¬ (0:Int)≠0 by omega)]) (aJ ?_);try refine ae ?_
 refine fA (ae ?_);by_cases h0:cn k=0
 ·refine aP (by simp only[↓sU,sD,rE,↓reduceIte,rA,Ac h0]) (aE (aM ?_));refine ae ?_;refine aK (ae ?_);exact⟨sX,.inr ⟨he,sz,cn,ls,pl,R,by unfold aEO;rw[if_pos h0]⟩⟩
 refine aO (by simp only[↓sU,sD,rE,↓reduceIte,rA,Aa h0]) (aJ ?_);try refine ae ?_
 refine bK (cp (jT gX) ?_);refine aL (ae ?_);refine aF (aJJ H R.G hnX R.C R.L R.P R.pb hk h0) ?_;rintro r Y ⟨rfl,hY⟩;try refine ae ?_
 refine aK (ae ?_);exact⟨sX.trans hY,.inr ⟨he,sz,cn,ls,pl,R,by unfold aEO;rw[if_neg h0]⟩⟩
section
variable {F:Fr}{inr:Bool}{X:St}{cb lb pb nb N i k c:Nat}{lc ll lp wl:bm}{x0 x1 x2 xa xw xp:AV}{bf W y1 z2 y2 y3:Int}{Q:Out->bN->St->Prop}
end
end Go.Ev.Gl
