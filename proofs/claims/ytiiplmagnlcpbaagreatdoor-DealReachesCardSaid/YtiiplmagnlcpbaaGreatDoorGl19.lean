import Derived.Test.YtiiplmagnlcpbaaGreatDoorGl18
set_option linter.unusedSimpArgs false
set_option linter.unusedVariables false
open Nat renaming reduceEqDiff -> rE, reduceAdd -> rA
set_option maxHeartbeats 0
namespace Go.Ev.Gl
variable {fns:T cM}
theorem aE1{a:Int}:aJo a 1=(a:Rat):=by
 unfold aJo;have e:sg (decide (a<0) !=decide ((1:Int)<0)) a.natAbs=a:=by
  unfold sg;by_cases h:a<0
  ·simp [h];omega
  ·simp [h];omega
 rw[e];exact Rat.mkRat_one a
theorem lK{a:Int}(h1: -9223372036854775808<=a)(h2:a<=9223372036854775807):pG 3 (a:Rat):=by
 rw[<-aE1];exact aLg a 1 au ay ay
theorem aOl{S:St}{a:Int}(H:Has fns)(hL:Laid S)(a1: -9223372036854775808<=a)(a2:a<=9223372036854775807):eR fns (.fn 57 [] []) [.int .i64 a,.int .i64 1] S fun r S'=>∃x y z,r= .tup [.agg [x,y,z],.int .i64 0]/\bP S' (.agg [x,y,z]) (a:Rat)/\Same S S':=by
 refine aG (pof H hL a1 a2 ay ay) ?_;rintro r S' ⟨hr,hs⟩;rw[show ofE 1=0 from rfl,aLH,aE1] at hr;have⟨x,y,z,e,hx⟩:=hr;exact⟨x,y,z,e,hx,hs⟩
theorem bQ.noU1{S:St}{v:AV}{l:bt}(h:bQ S v l)(cs:bo):noU (v::cs)=noU cs:=by
 rcases h with⟨-,rfl | rfl⟩ | ⟨b1,off,cap,o1,cs1,rfl, -⟩<;>rfl
theorem bP.noU{S:St}{x y z:AV}{q:Rat}(h:bP S (.agg [x,y,z]) q):noU [x,y,z]=true:=by
 obtain⟨nv,dv,h1,⟨l,h2, -⟩,⟨l',h3, -⟩⟩:=h;simp only[AV.agg.injEq,List.cons.injEq,and_true] at h1;obtain⟨rfl,rfl,rfl⟩:=h1;show Gl.noU (y:: [z])=true;rw[h2.noU1,h3.noU1];rfl
theorem aI0{S:St}{sv:AV}{q:Rat}{a b:Int}(H:Has fns)(hL:Laid S)(hq:bP S sv q)(hb:pG 900 q)(a1: -9223372036854775808<=a)(a2:a<=9223372036854775807)(b1: -9223372036854775808<=b)(b2:b<=9223372036854775807):
  eR fns (.fn 60 [] []) [sv,.int .i64 a,.int .i64 b] S fun r S'=>∃x y z,r= .tup [.agg [x,y,z],.int .i64 0]/\bP S' (.agg [x,y,z]) (q+(a:Rat) * (b:Rat))/\Same S S':=by
 obtain⟨q0,q1,q2,rfl⟩:=hq.cells;have ba:=lK a1 a2;have bb:=lK b1 b2;refine bE H.f60 (by simp) ?_;refine ap ?_;refine aY ?_;refine bW (cs:=[q0,q1,q2]) rfl ?_;intro S1 s1 n1 c1;refine ap ?_;refine bY ?_;intro S2 s2 n2 c2;refine ap ?_;have s02:=s1.trans s2;refine aY (ap ?_);refine aK (ap ?_);refine aG (aOl H (hL.same s02) a1 a2) ?_;rintro _ S3 ⟨x0,x1,x2,rfl,hx,s3⟩;refine ec @nP @nN ?_;refine bY ?_;intro S4 s4 n4 c4;try refine ap ?_
 refine cR (b:=S3.nx) (aq) (by simp only[↓stU,aB,rE,↓reduceIte,rA,aR];rfl) c4 rfl rfl ?_;intro S5 s5 n5 c5;refine ap ?_;have s35:Same S3 S5:=s5.same s4 (Af _);have s05:=(s02.trans s3).trans s35;have nz:¬ (0:Int)≠0:=by decide
 refine dS (ap ?_);refine aM (by simp only[↓stU,aB,rE,↓reduceIte,rA,Aa nz]) (aH ?_);try refine ap ?_
 refine aY (ap ?_);refine aK (ap ?_);refine aG (aOl H (hL.same s05) b1 b2) ?_;rintro _ S6 ⟨y0,y1,y2,rfl,hy,s6⟩;refine ec @nP @nN ?_;refine bY ?_;intro S7 s7 n7 c7;try refine ap ?_
 refine cR (b:=S6.nx) (aq) (by simp only[↓stU,aB,rE,↓reduceIte,rA,aR];rfl) c7 rfl rfl ?_;intro S8 s8 n8 c8;refine ap ?_;have s68:Same S6 S8:=s8.same s7 (Af _);have s58:=s6.trans s68;have s08:=s05.trans s58;have m2:=s2.1;have m3:=s3.1;have m35:=s35.1;have m58:=s58.1;have m02:=s1.1;have l3:S3.nx<S5.nx:=by omega
 have c58:=(s58.2 _ l3).trans c5;refine dS (ap ?_);refine aM (by simp only[↓stU,aB,rE,↓reduceIte,rA,Aa nz]) (aH ?_);try refine ap ?_
 have d1:=pX (n:=3) c58 rfl;have d2:=pX (n:=3) c8 rfl;refine dS (ec d1 d2 ?_);refine aK (ap ?_);refine aG (aJX H (hL.same s08) (hx.same (s35.trans s58)) (hy.same s68) (ba.inBound ay) (bb.inBound ay) ((pG.mul ba bb).inBound ay)) ?_;rintro _ S9 ⟨v,rfl,hv,s9⟩;obtain⟨v0,v1,v2,rfl⟩:=hv.cells;have m9:=s9.1;have c59:=(s9.2 _ (show S3.nx<S8.nx by omega)).trans c58;refine ec @nP @nN ?_;refine cR (b:=S3.nx) (aq) (by simp only[↓stU,aB,rE,↓reduceIte,rA,aR];rfl) c59 rfl rfl ?_;intro S10 s10 n10 c10;refine ap ?_;have s09:=s08.trans s9;have hv10:=hv.stU c59 hx.noU s10 c10;have t10:Same S S10:=s10.same s09 au;have k10:∀b,b<S9.nx->b≠S3.nx->S10.h.get b=S9.h.get b:=fun b h1 h2=>s10.2 b h1 h2;have g1:S10.h.get S.nx=some (.cells [q0,q1,q2] false 0):=by
  rw[k10 _ au au,s9.2 _ au,s58.2 _ au,s35.2 _ au,s3.2 _ au,s2.2 _ au];exact c1
 have g2:S10.h.get S1.nx=some (.cells [.bool false,.cd,.cd] false 0):=by
  rw[k10 _ au au,s9.2 _ au,s58.2 _ au,s35.2 _ au,s3.2 _ au];exact c2
 refine aY (ap ?_);refine aM (by simp only[↓stU,aB,rE,↓reduceIte,rA,Aa nz]) (aH ?_);try refine ap ?_
 have d3:=pX (n:=3) g1 rfl;have d4:=pX (n:=3) c10 rfl;refine aY (ec d3 d4 ?_);refine aK (ap ?_);refine aG (aJU H (hL.same t10) (hq.same t10) hv10 (hb.inBound ay) ((pG.mul ba bb).inBound ay) ((pG.add hb (pG.mul ba bb)).inBound ay)) ?_;rintro _ S11 ⟨w,rfl,hw,s11⟩;obtain⟨w0,w1,w2,rfl⟩:=hw.cells;have m11:=s11.1;have g3:=(s11.2 _ (show S1.nx<S10.nx by omega)).trans g2;refine ec @nP @nN ?_;refine cR (b:=S1.nx) (aq) (by simp only[↓stU,aB,rE,↓reduceIte,rA,aR];rfl) g3 rfl rfl ?_;intro S12 s12 n12 c12;refine ap ?_;refine aI (ec @bF (kJ c12) ?_);exact⟨w0,w1,w2,rfl,hw.stU g3 rfl s12 c12,s12.same (t10.trans s11) au⟩
theorem aOd{z:Int}(h:z.natAbs<B ^ 3):pG 3 (z:Rat):=⟨h,Nat.one_lt_pow ay ay⟩
theorem aFd{S:St}{sv:AV}{q:Rat}{b:Int}(H:Has fns)(hL:Laid S)(hF:kO S)(hq:bP S sv q)(hb:pG 3 q)(b1:1<=b)(b2:b<=9223372036854775807):
  eR fns (.fn 59 [] []) [sv,.int .i64 b] S fun r S'=>∃x y z,r= .tup [.agg [x,y,z],.int .i64 0]/\bP S' (.agg [x,y,z]) (q * ((b:Int):Rat)⁻¹)/\Same S S':=by
 obtain⟨q0,q1,q2,rfl⟩:=hq.cells;have bb:=lK (a:=b) au b2;have nb:((b:Int):Rat).num≠0:=by show b≠0;omega
 refine bE H.f59 (by simp) ?_;refine ap ?_;refine aY ?_;refine oF (cs:=[q0,q1,q2]) (by simp only[↓stU,aB,rE,↓reduceIte,aR]) ?_;intro S1 s1 n1 c1 f1;refine ap ?_;refine kX ?_;intro S2 s2 n2 c2 f2;refine ap ?_;have s02:=s1.trans s2;refine aY (ap ?_);refine aK (ap ?_);refine aG (fT (aOl H (hL.same s02) au b2)) ?_;rintro _ S3 ⟨⟨x0,x1,x2,rfl,hx,s3⟩,f3⟩;refine ec @nP @nN ?_;refine kX ?_;intro S4 s4 n4 c4 f4;try refine ap ?_
 refine aAR (b:=S3.nx) (aq) (by simp only[↓stU,aB,rE,↓reduceIte,rA,aR];rfl) c4 rfl rfl ?_;intro S5 s5 n5 c5 f5;refine ap ?_;have s35:Same S3 S5:=s5.same s4 (Af _);have s05:=(s02.trans s3).trans s35;have f05:=(f1.trans f2).trans (f3.trans (f4.trans f5));have nz:¬ (0:Int)≠0:=by decide
 refine dS (ap ?_);refine aM (by simp only[↓stU,aB,rE,↓reduceIte,rA,Aa nz]) (aH ?_);try refine ap ?_
 have m2:=s2.1;have m3:=s3.1;have m35:=s35.1;have m1:=s1.1;have g1:S5.h.get S.nx=some (.cells [q0,q1,q2] false 0):=by
  rw[s35.2 _ au,s3.2 _ au,s2.2 _ au];exact c1
 have g2:S5.h.get S1.nx=some (.cells [.bool false,.cd,.cd] false 0):=by
  rw[s35.2 _ au,s3.2 _ au];exact c2
 have d3:=pX (n:=3) g1 rfl;have d4:=pX (n:=3) c5 rfl;refine aY (ec d3 d4 ?_);refine aK (ap ?_);refine aG (aLf H (hL.same s05) (f05.1 hF) (hq.same s05) (hx.same s35) (hb.inBound ay) (bb.inBound ay) nb ((pG.mul hb (pG.inv bb nb)).inBound ay)) ?_;rintro _ S11 ⟨w,rfl,hw,s11⟩;obtain⟨w0,w1,w2,rfl⟩:=hw.cells;have m11:=s11.1;have g3:=(s11.2 _ (show S1.nx<S5.nx by omega)).trans g2;refine ec @nP @nN ?_;refine cR (b:=S1.nx) (aq) (by simp only[↓stU,aB,rE,↓reduceIte,rA,aR];rfl) g3 rfl rfl ?_;intro S12 s12 n12 c12;refine ap ?_;refine aI (ec @bF (kJ c12) ?_);exact⟨w0,w1,w2,rfl,hw.stU g3 rfl s12 c12,s12.same (s05.trans s11) au⟩
theorem aH9{S0 S:St}{eb sb ob mb:Nat}{q0 q1 q2 ov m0 m1 m2:AV}{q:Rat}{b:Int}{l:bm}(H:Has fns)(hL:Laid S)(hF:kO S)(h0:Same S0 S)(he:S.h.get eb=some (.cells [.int .i64 0] false 0))(hs:S.h.get sb=some (.cells [q0,q1,q2] false 0))(ho:S.h.get ob=some (.cells [ov] false 0))(hm:S.h.get mb=some (.cells [m0,m1,m2] false 0))(le:S0.nx<=eb)(lm:S0.nx<=mb)(hem:eb≠mb)(nm:noU [m0,m1,m2]=true)(hq:bP S (.agg [q0,q1,q2]) q)(hb:pG 3 q)(hl:dE .i64 S ov l)(hl0:0<l.length)(hlb:l.getD 0 0=b)(b1:1<=b)(b2:b<=9223372036854775807):
  eR fns (.fn 58 [] [.ptr eb 0,.ptr sb 0,.ptr ob 0,.ptr mb 0]) [] S fun _ S'=>Same S0 S'/\S'.h.get eb=some (.cells [.int .i64 0] false 0)/\∃x y z,S'.h.get mb=some (.cells [x,y,z] false 0)/\bP S' (.agg [x,y,z]) (q * ((b:Int):Rat)⁻¹):=by
 have xe:=hF.lt he;have xs:=hF.lt hs;have xo:=hF.lt ho;have xm:=hF.lt hm;refine bE H.f58 (by simp) ?_;refine ap ?_;have e1:cT (.ptr eb 0) false 1 S.h=some (.int .i64 0):=aB4 he rfl;refine aY (d9 e1 ?_);refine aN (by simp only[↓stU,aB,rE,↓reduceIte,rA,aPg]) ?_;have⟨cb,off,ia,hcb,lc⟩:=dE.ptr' hl hl0;rw[hlb] at lc;have d1:=pX (n:=3) hs rfl;have d2:cT (.ptr ob 0) false 1 S.h=some ov:=aB4 ho rfl;have svo:=dE.self hl;have svq:=oO hq;refine xC (W:=fun _=>False) (K:=8) (m0:=127) (R:=fun F' Z ps=>ps= []/\Same S Z/\aD 3 F'= .ptr mb 0/\aD 0 F'= .ptr eb 0/\∃w0 w1 w2,aD 12 F'= .agg [w0,w1,w2]/\aD 13 F'= .int .i64 0/\bP Z (.agg [w0,w1,w2]) (q * ((b:Int):Rat)⁻¹)) (Bt 8 _).symm rfl ay ay  ?_ ?_
 ·intro S1 s1 hS1 nS1;simp only[Ex,Fq];have l0:dY (.int .i64 0)=some 0:=rfl;refine d7 d1 d2 svo svq @Ak l0 ia lc ?_;have F1:kO S1:=fun c hc=>by rw[hS1];exact hF c (aw s1.1)
  refine⟨xs,xo,hcb,bH rfl ?_⟩;refine ae ?_;refine aG (aFd H (hL.same s1) F1 (hq.same s1) hb b1 b2) ?_;rintro _ Z ⟨w0,w1,w2,rfl,hw,sZ⟩;refine⟨sZ,?_⟩;refine dk @nP @nN ?_;exact⟨s1.trans sZ,w0,w1,w2,rfl,hw⟩
 rintro F' S' ps hs ls ⟨rfl,s1,p3,p0,w0,w1,w2,p12,p13,hw⟩ hlast hld;have m1:=s1.1;have g1:=(s1.2 _ xm).trans hm;have g2:=(s1.2 _ xe).trans he;simp only[Gs,Dd];refine sT (v:=.undef) (S1:=⟨S'.h.set mb (some (.cells [w0,w1,w2] false 0)),S'.nx⟩) hlast (fun call=>?_) ?_
 ·rw[eC];simp only[eO,p12,p3,cS,aR,aL];exact rG (S:=S') g1 rfl rfl
 have g3:(S'.h.set mb (some (.cells [w0,w1,w2] false 0))).get eb=some (.cells [.int .i64 0] false 0):=by rw[dr,if_neg hem];exact g2
 refine sT (v:=.undef) (S1:=⟨(S'.h.set mb (some (.cells [w0,w1,w2] false 0))).set eb (some (.cells [.int .i64 0] false 0)),S'.nx⟩) (show Nat.testBit 511 8=true by decide) (fun call=>?_) ?_
 ·rw[eC];simp only[fZ,eO,p13,p0,cS,cH,aL];exact rG (S:=⟨_,S'.nx⟩) g3 rfl rfl
 rw[mT];refine⟨?_,?_⟩
 ·simp only[Eh,Bn,Gi,Cx,Cn];exact hld _ _
 simp only[cS,fZ];have g4:((S'.h.set mb (some (.cells [w0,w1,w2] false 0))).set eb (some (.cells [.int .i64 0] false 0))).get mb=some (.cells [w0,w1,w2] false 0):=by rw[dr,if_neg (Eg hem),dr,if_pos rfl]
 have t1:bN mb S' ⟨S'.h.set mb (some (.cells [w0,w1,w2] false 0)),S'.nx⟩:=(bN.refl _ _).put _;have hw1:=hw.stU g1 nm t1 fc;have t2:bN eb ⟨S'.h.set mb (some (.cells [w0,w1,w2] false 0)),S'.nx⟩ ⟨(S'.h.set mb (some (.cells [w0,w1,w2] false 0))).set eb (some (.cells [.int .i64 0] false 0)),S'.nx⟩:=(bN.refl eb (⟨S'.h.set mb (some (.cells [w0,w1,w2] false 0)),S'.nx⟩:St)).put _;have hw2:=hw1.stU g3 rfl t2 fc;have s00:=h0.trans s1;exact⟨_,rfl,t2.same (t1.same s00 lm) le,by rw[dr,if_pos rfl],w0,w1,w2,g4,hw2⟩
def aCh(g:aZ)(cn:Nat->Int)(p i:Nat):Int:=if(cj g i).kind=3 then(cj g i).pay.getD p 0 * cn i else 0
def iM(g:aZ)(cn:Nat->Int)(p:Nat):Nat->Int
 | 0=>0
 | i+1=>iM g cn p i+aCh g cn p i
def aCQ(g:aZ):Prop:=∀i,i<g.bw.length->(cj g i).kind=3->∀w∈(cj g i).pay, -1000000<=w/\w<=1000000
theorem aL5{g:aZ}(h:dJ g=0):aCQ g:=by
 intro i hi hk;unfold dJ at h;split at h
 ·cases h
 split at h
 ·rename_i h1;exact absurd h h1
 rename_i hE;have hE:=Ha.1 hE;have hx:iZ g.b8 g.b7.length (cj g i)=0:=jR hE _ (Cg (gJ hi));unfold iZ at hx;rw[if_neg au,if_neg au,if_pos hk] at hx;split at hx
 ·cases hx
 split at hx
 ·cases hx
 rename_i ha;intro w hw;have:¬ (w< -1000000\/1000000<w):=fun h=>ha ⟨w,hw,h⟩;omega
section
variable {g:aZ}{cn:Nat->Int}{p:Nat}{sz:Int}
theorem aIG(hP:aCQ g){i:Nat}(hi:i<g.bw.length)(hk:(cj g i).kind=3): -1000000<=(cj g i).pay.getD p 0/\(cj g i).pay.getD p 0<=1000000:=by
 by_cases h:p<(cj g i).pay.length
 ·rw[Ae,Ad h];exact hP i hi hk _ (Ec h)
 ·rw[Ae,Dp au];simp
theorem aNE(hP:aCQ g)(hc:∀i,i<g.bw.length->0<=cn i/\cn i<=1000000000000000){i:Nat}(hi:i<g.bw.length):(aCh g cn p i).natAbs<=1000000000000000000000:=by
 unfold aCh;split
 ·rename_i hk;have h1:=aIG (p:=p) hP hi hk;have h2:=hc i hi;generalize (cj g i).pay.getD p 0=a at h1;generalize cn i=b at h2;rw[Gu];have:=Ef (show a.natAbs<=1000000 by omega) (show b.natAbs<=1000000000000000 by omega);omega
 ·simp
theorem aHO(hP:aCQ g)(hc:∀i,i<g.bw.length->0<=cn i/\cn i<=1000000000000000):∀ {n:Nat},n<=g.bw.length->(iM g cn p n).natAbs<=n * 1000000000000000000000
 | 0,_=>by simp [iM]
 | n+1,h=>by
  have h1:=aHO hP hc (n:=n) au;have h2:=aNE (p:=p) hP hc (i:=n) au;show(iM g cn p n+aCh g cn p n).natAbs<=_;generalize iM g cn p n=a at h1;generalize aCh g cn p n=b at h2;omega
theorem sI(hP:aCQ g)(hc:∀i,i<g.bw.length->0<=cn i/\cn i<=1000000000000000)(hN:g.bw.length<=2000){n:Nat}(h:n<=g.bw.length):pG 3 ((iM g cn p n:Int):Rat):=by
 have h1:=aHO (p:=p) hP hc h;generalize iM g cn p n=a at h1;refine aOd (Bs (Bd h1 (Aq _ (show n<=2000 by omega))) ay)
theorem aD2(hi:True){i:Nat}(hk:(cj g i).kind=3):((iM g cn p (i+1):Int):Rat)=((iM g cn p i:Int):Rat)+(((cj g i).pay.getD p 0:Int):Rat) * ((cn i:Int):Rat):=by
 rw[<-Rat.intCast_mul,<-Rat.intCast_add];show((iM g cn p i+aCh g cn p i:Int):Rat)=_;unfold aCh;rw[if_pos hk]
theorem zY{i:Nat}(h:(cj g i).kind≠3\/cn i=0):iM g cn p (i+1)=iM g cn p i:=by
 show iM g cn p i+aCh g cn p i=_;unfold aCh;split
 ·rename_i hk;rcases h with h | h
  ·exact absurd hk h
  ·rw[h,Int.mul_zero,Int.add_zero]
 ·omega
end
structure aE8(S:St)(gb ob mb eb sb:Nat)(g:aZ)(cn:Nat->Int)(gc:bo)(ov nv:AV)(p:Nat)(m i:Nat)(A:bK)(X:St):Prop where
 inr:A.inr=false
 same:Same S X
 frs:lO S X
 gg:X.h.get gb=some (.cells gc false 0)
 go:X.h.get ob=some (.cells [ov] false 0)
 gm:X.h.get mb=some (.cells [.bool false,.cd,.cd] false 0)
 ge:X.h.get eb=some (.cells [.int .i64 0] false 0)
 gs:∃x y z,X.h.get sb=some (.cells [x,y,z] false 0)/\bP X (.agg [x,y,z]) ((iM g cn p m:Int):Rat)
 lsb:sb<X.nx
 t2:aD 2 A.F= .int .i64 (p:Int)
 t3:aD 3 A.F= .ptr gb 0
 t4:aD 4 A.F= .ptr ob 0
 t6:aD 6 A.F= .ptr mb 0
 t7:aD 7 A.F= .ptr eb 0
 t8:aD 8 A.F= .ptr sb 0
 t15:aD 15 A.F= .fn 58 [] [.ptr eb 0,.ptr sb 0,.ptr ob 0,.ptr mb 0]
 t17:aD 17 A.F=nv
 t18:aD 18 A.F= .int .i64 (g.bw.length:Int)
 t19:aD 19 A.F= .int .i64 (i:Int)
theorem aJP{S:St}{nv iv ov:AV}{g:aZ}{l:bm}{sz:Int}{cn:Nat->Int}{p:Nat}(H:Has fns)(hL:Laid S)(hF:kO S)(G:oN g)(hP:aCQ g)(hn:aW 6 cI S nv g.bw)(ho:dE .i64 S ov l)(hl:l=(List.range g.bw.length).map cn)(hc:∀i,i<g.bw.length->0<=cn i/\cn i<=1000000000000000)(h0:cn 0=sz)(hs:1<=sz)(hs2:sz<=1000000000000000)(hp:(p:Int)<g.b8):
  eR fns (.fn 34 [] []) [.agg [.int .i64 g.b8,nv,iv],ov,.int .i64 (p:Int)] S fun r S'=>∃x y z,r= .tup [.agg [x,y,z],.int .i64 0]/\bP S' (.agg [x,y,z]) (((iM g cn p g.bw.length:Int):Rat) * ((sz:Int):Rat)⁻¹)/\Same S S':=by
 have hN:=G.good.n2;have hN1:=G.good.n1;have snv:=aW.self hn;have hll:l.length=g.bw.length:=by rw[hl,Bc,Cq]
 have hlg:∀i,i<g.bw.length->l.getD i 0=cn i:=fun i hi=>by rw[hl,Ae,Bk,Dz hi];rfl
 refine bE H.f34 (by simp) ?_;try refine ap ?_
 refine aY ?_;refine oF (cs:=[.int .i64 g.b8,nv,iv]) rfl ?_;intro S1 s1 n1 c1 f1;try refine ap ?_
 refine oF (cs:=[ov]) (dE.cells ho) ?_;intro S2 s2 n2 c2 f2;try refine ap ?_
 refine kX ?_;intro S3 s3 n3 c3 f3;try refine ap ?_
 refine kX ?_;intro S4 s4 n4 c4 f4;try refine ap ?_
 refine aY ?_;try refine ap ?_
 refine aK ?_;try refine ap ?_
 have s04:=s1.trans (s2.trans (s3.trans s4));refine aG (fT (aOl (a:=0) H (hL.same s04) au au)) ?_;rintro _ S5 ⟨⟨x0,x1,x2,rfl,hx,s5⟩,f5⟩;refine ec @nP @nN ?_;refine kX ?_;intro S6 s6 n6 c6 f6;try refine ap ?_
 refine aAR (b:=S5.nx) (aq) (by simp only[↓stU,aB,rE,↓reduceIte,rA,aR];rfl) c6 rfl rfl ?_;intro S7 s7 n7 c7 f7;try refine ap ?_
 have m5:=s5.1;have s57:Same S5 S7:=s7.same s6 (Af _);have c47:S7.h.get S3.nx=some (.cells [.int .i64 0] false 0):=by rw[s57.2 _ au,s5.2 _ au];exact c4
 refine aAR (b:=S3.nx) (aq) (by simp only[↓stU,aB,rE,↓reduceIte,rA,cH];rfl) c47 rfl rfl ?_;intro S8 s8 n8 c8 f8;try refine ap ?_
 have s07:=(s04.trans s5).trans s57;have s08:Same S S8:=s8.same s07 au;have f08:lO S S8:=(f1.trans (f2.trans (f3.trans f4))).trans (f5.trans (f6.trans (f7.trans f8)));have b1:S8.h.get S.nx=some (.cells [.int .i64 g.b8,nv,iv] false 0):=by
  rw[s8.2 _ au au,s57.2 _ au,s5.2 _ au,s4.2 _ au,s3.2 _ au,s2.2 _ au];exact c1
 have b2:S8.h.get S1.nx=some (.cells [ov] false 0):=by
  rw[s8.2 _ au au,s57.2 _ au,s5.2 _ au,s4.2 _ au,s3.2 _ au];exact c2
 have b3:S8.h.get S2.nx=some (.cells [.bool false,.cd,.cd] false 0):=by
  rw[s8.2 _ au au,s57.2 _ au,s5.2 _ au,s4.2 _ au];exact c3
 have b5:S8.h.get S5.nx=some (.cells [x0,x1,x2] false 0):=by
  rw[s8.2 _ au au];exact c7
 have hx8:bP S8 (.agg [x0,x1,x2]) ((iM g cn p 0:Int):Rat):=(hx.same s57).stU c47 rfl s8 c8;have l58:S5.nx<S8.nx:=by omega
 have e1:S1.nx=S.nx+1:=n1;have e2:S2.nx=S.nx+2:=by omega
 have e3:S3.nx=S.nx+3:=by omega
 have e5:S.nx+4<=S5.nx:=by omega
 generalize S1.nx=ob at *;generalize S2.nx=mb at *;generalize S3.nx=eb at *;generalize hsb:S5.nx=sb at *;refine aY ?_;simp only[↓stU,aB,rE,↓reduceIte,rA,wT,cO];obtain⟨gc,hgc⟩:∃gc:bo,gc= [.int .i64 g.b8,nv,iv]:=⟨_,rfl⟩;rw[<-hgc] at b1;refine aC (aX (Q:=fun o A' X=>o= .normal/\aE8 S S.nx ob mb eb sb g cn gc ov nv p g.bw.length g.bw.length A' X) (aO (aC (aX (Q:=fun o A' X=>o= .normal/\aE8 S S.nx ob mb eb sb g cn gc ov nv p g.bw.length g.bw.length A' X) (aC (aJ ?_)) ?_))) ?_);rotate_left
 ·rintro o ⟨F,inr⟩ X ⟨rfl,hM⟩;exact bD ⟨rfl,hM⟩
 ·rintro o ⟨F,inr⟩ X ⟨rfl,M⟩;have q0:inr=false:=M.inr;have p15:aD 15 F=_:=M.t15;subst q0;have⟨y0,y1,y2,hsx,hrx⟩:=M.gs;refine aJ ?_;refine aK (d9 p15 ?_);refine aG (aH9 (l:=l) (b:=sz) H (hL.same M.same) (M.frs.1 hF) M.same M.ge hsx M.go M.gm au au au rfl hrx (sI hP hc hN (Af _)) (ho.same M.same) au (by rw[hlg 0 hN1,h0]) hs au) ?_;rintro _ Y ⟨sY,hY,z0,z1,z2,hm,hr⟩;try refine ap ?_
  have p6:aD 6 F=_:=M.t6;have p7:aD 7 F=_:=M.t7;have d1:=pX (n:=3) hm rfl;have d2:cT (.ptr eb 0) false 1 Y.h=some (.int .i64 0):=aB4 hY rfl;refine⟨[.agg [z0,z1,z2],.int .i64 0],?_,z0,z1,z2,rfl,hr,sY⟩;rw[bF,bF,p6,p7,d1,aL,d2,aL];rfl
 have d1:=pX (n:=3) b1 (by rw[hgc];rfl);rw[hgc] at b1;refine ef @aF @aE (fG b1) hn.len ?_;rw[<-hgc] at b1;refine aX (Q:=fun o A' X=>o= .normal/\aE8 S S.nx ob mb eb sb g cn gc ov nv p g.bw.length g.bw.length A' X) (aO (bJ (fun k A X=>∃i,i+k=g.bw.length/\aE8 S S.nx ob mb eb sb g cn gc ov nv p i i A X) ?_ g.bw.length _ _ ⟨0,au,⟨rfl,s08,f08,b1,b2,b3,c8,⟨_,_,_,b5,hx8⟩,l58,aq,aq,aq,aq,aq,aq,aq,aq,by simp only[↓stU,aB,rE,↓reduceIte,rA];try rfl,by simp only[↓stU,aB,rE,↓reduceIte,rA];try rfl⟩⟩)) ?_;rotate_left
 ·rintro o A' X ⟨rfl,hM⟩;exact⟨rfl,hM⟩
 clear b1 b2 b3 b5 c8 hx8 d1 s08 f08 s07 c47 s57 hx s04 s8 s7 s6 s5 s4 s3 s2 s1;rintro k ⟨F,inr⟩ X ⟨i,hik,M⟩;have q0:inr=false:=M.inr;have p2:aD 2 F=_:=M.t2;have p3:aD 3 F=_:=M.t3;have p4:aD 4 F=_:=M.t4;have p6:aD 6 F=_:=M.t6;have p7:aD 7 F=_:=M.t7;have p8:aD 8 F=_:=M.t8;have p15:aD 15 F=_:=M.t15;have p17:aD 17 F=_:=M.t17;have p18:aD 18 F=_:=M.t18;have p19:aD 19 F=_:=M.t19;obtain⟨-,sX,fX,kg,ko,km,ke,⟨y0,y1,y2,ks,hrx⟩,lsb, -⟩:=M;subst q0;refine aY ?_;simp only[↓sU,sD,rE,↓reduceIte,rA,p18,p19];by_cases hlt:i<g.bw.length;rotate_left
 ·refine aC (aM (by simp only[↓sU,sD,rE,↓reduceIte,rA,Aa (show ¬ (i:Int)<(g.bw.length:Int) by omega)]) (bD ?_));refine ae ?_;obtain rfl:i=g.bw.length:=by omega
  exact⟨rfl,sX,fX,kg,ko,km,ke,⟨_,_,_,ks,hrx⟩,lsb,ah p2,ah p3,ah p4,ah p6,ah p7,ah p8,ah p15,ah p17,ah p18,ah p19⟩
 refine aC (aN (by simp only[↓sU,sD,rE,↓reduceIte,rA,Ab (show(i:Int)<(g.bw.length:Int) by omega)]) (aH ?_));try refine ae ?_
 have w0:=dq i
 refine aC (aX (Q:=fun o A' Z=>o= .normal/\aE8 S S.nx ob mb eb sb g cn gc ov nv p (i+1) i A' Z) ?_ ?_);rotate_left
 ·rintro o ⟨F',inr⟩ Z ⟨rfl,M⟩;have q0:inr=false:=M.inr;have p2:aD 2 F'=_:=M.t2;have p3:aD 3 F'=_:=M.t3;have p4:aD 4 F'=_:=M.t4;have p6:aD 6 F'=_:=M.t6;have p7:aD 7 F'=_:=M.t7;have p8:aD 8 F'=_:=M.t8;have p15:aD 15 F'=_:=M.t15;have p17:aD 17 F'=_:=M.t17;have p18:aD 18 F'=_:=M.t18;have p19:aD 19 F'=_:=M.t19;obtain⟨-,sX,fX,kg,ko,km,ke,ks,lsb, -⟩:=M;subst q0;refine aJ ?_;simp only[↓sU,sD,rE,↓reduceIte,rA,p19,w0];exact⟨k - 1,au,i+1,au,rfl,sX,fX,kg,ko,km,ke,ks,lsb,ah p2,ah p3,ah p4,ah p6,ah p7,ah p8,ah p15,ah p17,ah p18,af⟩
 obtain⟨_,bx,qx,hiax,hbx,_,⟨xa,xw,xp,rfl,hxa,hxw,hxp⟩,hldx,_⟩:=aW.at hn ay (gJ hlt);rw[<-zK sX hbx] at hldx;refine aO (aC (aJ ?_));refine eh p17 p19 @aQ hiax hldx ?_;refine kX ?_;intro W1 v1 k1 h1 f1;try refine ap ?_
 refine aAR (b:=X.nx) (aq) (by refine ap ?_;exact aR _) h1 rfl rfl ?_;intro Y v2 k2 h2 f2;refine ae ?_;have sXY:Same X Y:=v2.same v1 (Af _);have fXY:=f1.trans f2;have nX:=sX.1;have lxY:X.nx<Y.nx:=by omega
 have hbig:sb<X.nx:=lsb;have kg':=(sXY.2 _ (show S.nx<X.nx by omega)).trans kg;have ko':=(sXY.2 _ (show ob<X.nx by omega)).trans ko;have km':=(sXY.2 _ (show mb<X.nx by omega)).trans km;have ke':=(sXY.2 _ (show eb<X.nx by omega)).trans ke;have ks':=(sXY.2 _ lsb).trans ks;have hrY:=hrx.same sXY;have sY:=sX.trans sXY;have fY:=fX.trans fXY;clear v1 v2 h1 k1;have de:cT (.ptr eb 0) false 1 Y.h=some (.int .i64 0):=aB4 ke' rfl;have dO:cT (.ptr ob 0) false 1 Y.h=some ov:=aB4 ko' rfl;refine dS (dk p7 de ?_);refine aM (by simp only[↓sU,sD,rE,↓reduceIte,rA,Aa (show ¬ (0:Int)≠0 by omega)]) (aH ?_);try refine ae ?_
 have hil:i<l.length:=by omega
 have hiO:=(ho.same sY).cw hil;have hlO:=(ho.same sY).ld hil;rw[hlg i hlt] at hlO;have sov:=dE.self ho;refine aY (dm @aF @aE (iY h2) ?_);by_cases hk:(cj g i).kind=3;rotate_left
 ·have hd:=Aa hk;refine dh hd ?_;refine aM (ah hd) (aH ?_);refine ae ?_;have e:iM g cn p (i+1)=iM g cn p i:=zY (.inl hk);rw[<-e] at hrY;exact⟨rfl,sY,fY,kg',ko',km',ke',⟨_,_,_,ks',hrY⟩,au,ah p2,ah p3,ah p4,ah p6,ah p7,ah p8,ah p15,ah p17,ah p18,ah p19⟩
 have hd:=Ab hk;refine dy hd p4 dO @aQ hiO hlO ?_;have hci:=hc i hlt;by_cases hc0:cn i=0
 ·have hd2:=Aa (show ¬cn i>0 by omega);refine aM (by simp only[↓sU,sD,rE,↓reduceIte,rA,hd,hd2]) (aH ?_);refine ae ?_;have e:iM g cn p (i+1)=iM g cn p i:=zY (.inr hc0);rw[<-e] at hrY;exact⟨rfl,sY,fY,kg',ko',km',ke',⟨_,_,_,ks',hrY⟩,au,ah p2,ah p3,ah p4,ah p6,ah p7,ah p8,ah p15,ah p17,ah p18,ah p19⟩
 have hd2:=Ab (show cn i>0 by omega);refine aN (by simp only[↓sU,sD,rE,↓reduceIte,rA,hd,hd2]) ?_;have hpl:p<(cj g i).pay.length:=by have:=G.pay i hlt hk;omega
 have hiP:=(hxp.same sY).cw hpl;have hlP:=(hxp.same sY).ld hpl;have sxp:=dE.self hxp;have syr:=oO hrY;have d8:=pX (n:=3) ks' rfl;have hpb:=aIG (p:=p) hP hlt hk;have⟨cb,co,hbO,lbO,dO2⟩:=dE.ptr' (ho.same sY) hil;have⟨pb,po,hbP,lbP,dP2⟩:=dE.ptr' (hxp.same sY) hpl;rw[hlg i hlt] at dO2;refine aX (aBC (Q:=fun o A' Z=>o= .normal/\∀f:lO S Z,aE8 S S.nx ob mb eb sb g cn gc ov nv p (i+1) i A' Z) ?_) ?_;rotate_left
 ·rintro o A' Z ⟨⟨rfl,hM⟩,f⟩;exact⟨rfl,hM (fY.trans f)⟩
 refine xC (W:=fun _=>False) (K:=14) (m0:=8191) (R:=fun F' Z ps=>ps= []/\Same Y Z/\aD 2 F'= .int .i64 (p:Int)/\aD 3 F'= .ptr S.nx 0/\aD 4 F'= .ptr ob 0/\aD 6 F'= .ptr mb 0/\aD 7 F'= .ptr eb 0/\aD 8 F'= .ptr sb 0/\aD 15 F'= .fn 58 [] [.ptr eb 0,.ptr sb 0,.ptr ob 0,.ptr mb 0]/\aD 17 F'=nv/\aD 18 F'= .int .i64 (g.bw.length:Int)/\aD 19 F'= .int .i64 (i:Int)/\∃w0 w1 w2,aD 48 F'= .agg [w0,w1,w2]/\aD 49 F'= .int .i64 0/\bP Z (.agg [w0,w1,w2]) ((iM g cn p (i+1):Int):Rat)) (Bt 14 _).symm rfl ay ay  ?_ ?_
 ·intro S1 s1 hS1 nS1;simp only[Ex,Fq];simp only[↓sU,sD,rE,↓reduceIte,rA,p8,d8,syr,Ak,aF,aV,aE,eS h2,sxp,p2,aQ,hbP,dP2,p4,dO,sov,hbO,dO2];refine⟨au,lxY,lbP,au,lbO,bH rfl ?_⟩;refine ae ?_;refine aG (aI0 H (hL.same (sY.trans s1)) (hrY.same s1) ((sI hP hc hN (Nat.le_of_lt hlt)).mono ay) au au au au) ?_;rintro _ Z ⟨w0,w1,w2,rfl,hw,sZ⟩;rw[<-aD2 trivial hk] at hw;refine⟨sZ,?_⟩;refine dk @nP @nN ?_;exact⟨s1.trans sZ,p2,p3,p4,p6,p7,p8,p15,p17,p18,p19,w0,w1,w2,rfl,hw⟩
 rintro F' S' ps hs ls ⟨rfl,s1,r2,r3,r4,r6,r7,r8,r15,r17,r18,r19,w0,w1,w2,p48,p49,hw⟩ hlast hld;have m1:=s1.1;have lsY:sb<Y.nx:=by omega
 have leY:eb<Y.nx:=by omega
 have g1:=(s1.2 _ lsY).trans ks';have g2:=(s1.2 _ leY).trans ke';have hes:eb≠sb:=by omega
 simp only[Gs,Dd];refine sT (v:=.undef) (S1:=⟨S'.h.set sb (some (.cells [w0,w1,w2] false 0)),S'.nx⟩) hlast (fun call=>?_) ?_
 ·rw[eC];simp only[eO,p48,r8,cS,aR,aL];exact rG (S:=S') g1 rfl rfl
 have g3:(S'.h.set sb (some (.cells [w0,w1,w2] false 0))).get eb=some (.cells [.int .i64 0] false 0):=by rw[dr,if_neg hes];exact g2
 refine sT (v:=.undef) (S1:=⟨(S'.h.set sb (some (.cells [w0,w1,w2] false 0))).set eb (some (.cells [.int .i64 0] false 0)),S'.nx⟩) (show Nat.testBit 32767 14=true by decide) (fun call=>?_) ?_
 ·rw[eC];simp only[fZ,eO,p49,r7,cS,cH,aL];exact rG (S:=⟨_,S'.nx⟩) g3 rfl rfl
 rw[mT];refine⟨?_,?_⟩
 ·simp only[Eh,Bn,Gi,Cx,Cn];exact hld _ _
 simp only[cS,fZ];have g4:((S'.h.set sb (some (.cells [w0,w1,w2] false 0))).set eb (some (.cells [.int .i64 0] false 0))).get sb=some (.cells [w0,w1,w2] false 0):=by rw[dr,if_neg (Eg hes),dr,if_pos rfl]
 have t1:bN sb S' ⟨S'.h.set sb (some (.cells [w0,w1,w2] false 0)),S'.nx⟩:=(bN.refl _ _).put _;have hw1:=hw.stU g1 hrY.noU t1 fc;have t2:bN eb ⟨S'.h.set sb (some (.cells [w0,w1,w2] false 0)),S'.nx⟩ ⟨(S'.h.set sb (some (.cells [w0,w1,w2] false 0))).set eb (some (.cells [.int .i64 0] false 0)),S'.nx⟩:=(bN.refl eb (⟨S'.h.set sb (some (.cells [w0,w1,w2] false 0)),S'.nx⟩:St)).put _;have hw2:=hw1.stU g3 rfl t2 fc;have oth:∀c bl,c<Y.nx->c≠sb->c≠eb->Y.h.get c=some bl->((S'.h.set sb (some (.cells [w0,w1,w2] false 0))).set eb (some (.cells [.int .i64 0] false 0))).get c=some bl:=fun c bl h1 h2 h3 h4=>by
  rw[dr,if_neg h3,dr,if_neg h2];exact(s1.2 c h1).trans h4
 refine⟨trivial,fun f=>⟨rfl,t2.same (t1.same (sY.trans s1) au) au,f,oth _ _ au au au kg',oth _ _ au au au ko',oth _ _ au au au km',by rw[dr,if_pos rfl],⟨w0,w1,w2,g4,hw2⟩,Ag lsY m1,r2,r3,r4,r6,r7,r8,r15,r17,r18,r19⟩⟩
structure yB(g:aZ)(ch:bm)(pr:Nat->Nat)(sz:Int)(cn ls pl:Nat->Int):Prop where
 G:oN g
 P:kY g pr
 pay:aCQ g
 fit:∀i,i<g.bw.length->(cj g i).kind=2->(cj g i).info.toNat<ch.length/\0<=vG g ch i/\vG g ch i<((cj g i).next.length:Int)
 C:Cnt g ch sz cn
 L:Lst g ch ls pl
 s1:1<=sz
 s2:sz<=1000000000000000
 pb:∀i,i<g.bw.length->pr i<=1000000000000000
 eN:aFu g ch pr=sz
theorem aFW{g:aZ}{ch:bm}{pr:Nat->Nat}(h:nB g ch pr=0)(hpr:dJ g=0->kY g pr):∃sz cn ls pl,yB g ch pr sz cn ls pl:=by
 have⟨h1,h2⟩:=aJW h;have G:=aC3 h1;have P:=hpr h1;have⟨e1,e2⟩:=aIk (pr:=pr) h1 h2;have⟨l1,l2⟩:=aKY h2;have hz:∃z:Nat,szF g pr g.bw.length=some z:=by
  rw[h] at e2;unfold aAg at e2;cases hs:szF g pr g.bw.length with
  | none=>rw[hs] at e2;cases e2
  | some z=>exact⟨z,rfl⟩
 have⟨z,hz⟩:=hz;have eN:yG g pr=(z:Int):=by unfold yG;rw[hz]
 have⟨z1,z2,z3⟩:=aAC P G (Af _) hz;have⟨cn,C⟩:=aIa G.good ch (z:Int);have⟨ls,pl,L⟩:=aI5 G.good ch;refine⟨(z:Int),cn,ls,pl,G,P,aL5 h1,fun i hi hk=>?_,C,L,au,au,fun i hi=>P.le G z3 (Nat.le_of_lt hi) hi,by rw[e1,eN]⟩;have⟨i1,i2,i3⟩:=G.good.inf i hi hk;have hl:(cj g i).info.toNat<ch.length:=by omega
 have:=l2 _ hl;unfold okC at this;rw[show(((cj g i).info.toNat:Nat):Int)=(cj g i).info by omega] at this;exact⟨hl,this.1,by rw[<-i3];exact this.2⟩
theorem yB.cb{g:aZ}{ch:bm}{pr:Nat->Nat}{sz:Int}{cn ls pl:Nat->Int}(R:yB g ch pr sz cn ls pl):∀i,i<g.bw.length->0<=cn i/\cn i<=1000000000000000:=fun i hi=>by
 have:=R.C.bd R.G (aw R.s1) hi;have:=R.s2;omega
noncomputable def aDI(g:aZ)(ch:bm)(pr:Nat->Nat)(j:Int):Int:=if nB g ch pr≠0 then nB g ch pr else if j<0\/(g.bw.length:Int)<=j then 2 else 0
theorem aGW{g:aZ}{ch:bm}{pr:Nat->Nat}{j:Int}(h:nB g ch pr≠0):aDI g ch pr j=nB g ch pr:=if_pos h
theorem aAv{g:aZ}{ch:bm}{pr:Nat->Nat}{j:Int}(h:nB g ch pr=0)(hj:j<0\/(g.bw.length:Int)<=j):aDI g ch pr j=2:=by
 unfold aDI;rw[if_neg (fun h'=>h' h),if_pos hj]
theorem aJC{g:aZ}{ch:bm}{pr:Nat->Nat}{j:Nat}(h:nB g ch pr=0)(hj:j<g.bw.length):aDI g ch pr (j:Int)=0:=by
 unfold aDI;rw[if_neg (fun h'=>h' h),if_neg au]
def aC0(g:aZ)(ch:bm)(pr:Nat->Nat)(j:Int)(v:(Nat->Int)->(Nat->Int)->Int×Int)(r:AV):Prop:=
 (aDI g ch pr j≠0/\r= .tup [.int .i64 0,.int .i64 (aDI g ch pr j)])\/(aDI g ch pr j=0/\∃sz cn ls pl,yB g ch pr sz cn ls pl/\r= .tup [.int .i64 (v cn ls).1,.int .i64 (v cn ls).2])
theorem aB5{S:St}{nv iv cv:AV}{g:aZ}{ch:bm}{pr:Nat->Nat}{j:Int}(H:Has fns)(hn:aW 6 cI S nv g.bw)(hi:aW 2 eT S iv g.b7)(hc:dE .i64 S cv ch)(hln:g.bw.length<=100000)(hll:ch.length<=10000000)(hpr:dJ g=0->kY g pr):
  eR fns (.fn 8 [] []) [.agg [.int .i64 g.b8,nv,iv],cv,.int .i64 j] S fun r S'=>Same S S'/\aC0 g ch pr j (fun cn _=>(cn j.toNat,0)) r:=by
 refine bE H.f8 (by simp) ?_;refine ae ?_;refine aY ?_;refine bW (cs:=[.int .i64 g.b8,nv,iv]) rfl ?_;intro S1 s1 n1 g1;refine ae ?_;refine aY (dh (gR g1) ?_);refine aK (ae ?_);refine aG (aBJ (pr:=pr) H (aW.same (E:=cI) bT hn s1) (aW.same (E:=eT) dH hi s1) (hc.same s1) hln hll hpr) ?_;rintro _ X ⟨hX,rfl⟩;have sX:=s1.trans hX;have gX:=(hX.2 _ (show S.nx<S1.nx by omega)).trans g1;have hnX:=aW.same (E:=cI) bT hn sX;refine dk @nP @nN ?_;refine dS (ae ?_);by_cases hR:nB g ch pr=0;rotate_left
 ·refine aN (by simp only[↓sU,sD,rE,↓reduceIte,rA,Ab hR]) (aC (aJ ?_));refine ae ?_;refine aI (ae ?_);exact⟨sX,.inl (by rw[aGW hR];exact⟨hR,rfl⟩)⟩
 refine aM (by simp only[↓sU,sD,rE,↓reduceIte,rA,Aa (show ¬nB g ch pr≠0 from fun h=>h hR)]) (aH ?_);try refine ae ?_
 refine dS ?_;by_cases hj0:j<0
 ·refine dh (Ab hj0) ?_;refine aN (af) (aC (aJ ?_));refine ae ?_;refine aI (ae ?_);exact⟨sX,.inl (by rw[aAv hR (.inl hj0)];exact⟨by decide,rfl⟩)⟩
 refine dy (Aa hj0) @aF @aE (fG gX) hnX.len @Ah ?_;by_cases hj1:j≥(g.bw.length:Int)
 ·refine aN (by simp only[↓sU,sD,rE,↓reduceIte,rA,Ab hj1]) (aC (aJ ?_));refine ae ?_;refine aI (ae ?_);exact⟨sX,.inl (by rw[aAv hR (.inr hj1)];exact⟨by decide,rfl⟩)⟩
 refine aM (by simp only[↓sU,sD,rE,↓reduceIte,rA,Aa hj1]) (aH ?_);try refine ae ?_
 obtain⟨k,rfl⟩:∃k:Nat,j=(k:Int):=⟨j.toNat,au⟩;have hk:k<g.bw.length:=by omega
 have⟨sz,cn,ls,pl,R⟩:=aFW hR hpr;refine aY (dk (gR gX) R.eN ?_);refine aK (ae ?_);refine aG (aAf H R.G hnX (hc.same sX) R.fit R.C (aw R.s1) R.s2) ?_;rintro r Y ⟨hr,hY⟩;have il:=yC.is hr;have hkl:k<((List.range g.bw.length).map cn).length:=by rw[Bc,Cq];exact hk
 have hia:=il.cw hkl;have hla:=il.ld hkl;have eg:((List.range g.bw.length).map cn).getD k 0=cn k:=by rw[Ae,Bk,Dz hk];rfl
 rw[eg] at hla;refine dm @aQ hia hla ?_;refine aI (ae ?_);exact⟨sX.trans hY,.inr ⟨aJC hR hk,sz,cn,ls,pl,R,by rw[Bq]⟩⟩
theorem yB.uni{g:aZ}{ch:bm}{pr:Nat->Nat}{sz sz':Int}{cn cn' ls ls' pl pl':Nat->Int}(R:yB g ch pr sz cn ls pl)(R':yB g ch pr sz' cn' ls' pl'):sz=sz'/\∀j,j<g.bw.length->cn j=cn' j/\ls j=ls' j/\pl j=pl' j:=by
 have es:sz=sz':=by rw[<-R.eN,<-R'.eN]
 refine⟨es,fun j=>?_⟩
 induction j using Nat.strongRecOn with
 | ind j ih=>
  intro hj;rcases Ap j with h0 | h0
  ·subst h0;rw[R.C.zero,R'.C.zero,R.L.zero.1,R'.L.zero.1,R.L.zero.2,R'.L.zero.2];exact⟨es,rfl,rfl⟩
  ·have⟨q,k,hq,hk,he⟩:=kD R.G.good h0 hj;have hK:iS g q k j:=⟨au,hk,he⟩;have⟨e1,e2,e3⟩:=ih q hq au;by_cases h1:(cj g q).kind=1
   ·rw[R.C.cha q k j hK h1,R'.C.cha q k j hK h1,(R.L.cha q k j hK h1).1,(R.L.cha q k j hK h1).2,(R'.L.cha q k j hK h1).1,(R'.L.cha q k j hK h1).2,e1,e2,e3];exact⟨rfl,rfl,rfl⟩
   ·rw[R.C.mv q k j hK h1,R'.C.mv q k j hK h1,(R.L.mv q k j hK h1).1,(R.L.mv q k j hK h1).2,(R'.L.mv q k j hK h1).1,(R'.L.mv q k j hK h1).2,e1,e2,e3];exact⟨rfl,rfl,rfl⟩
def aFk(j:Nat)(cn ls:Nat->Int):Int×Int:=if cn j=0 then(0,18) else(ls j,0)
theorem aC0.uni{g:aZ}{ch:bm}{pr:Nat->Nat}{j:Int}{v:(Nat->Int)->(Nat->Int)->Int×Int}{r r':AV}(hv:∀cn ls cn' ls',0<=j->j<(g.bw.length:Int)->cn j.toNat=cn' j.toNat->ls j.toNat=ls' j.toNat->v cn ls=v cn' ls')(h:aC0 g ch pr j v r)(h':aC0 g ch pr j v r'):r=r':=by
 rcases h with⟨h1,rfl⟩ | ⟨h1,sz,cn,ls,pl,R,rfl⟩
 ·rcases h' with⟨h2,rfl⟩ | ⟨h2,_⟩
  ·rfl
  ·exact absurd h2 h1
 ·rcases h' with⟨h2,rfl⟩ | ⟨h2,sz',cn',ls',pl',R',rfl⟩
  ·exact absurd h1 h2
  ·have hj:0<=j/\j<(g.bw.length:Int):=by
    unfold aDI at h1;split at h1
    ·rename_i h3;exact absurd h1 h3
    ·split at h1
     ·cases h1
     ·omega
   have:=(R.uni R').2 j.toNat au;rw[hv cn ls cn' ls' hj.1 hj.2 this.1 this.2.1]
theorem aHw{S:St}{nv iv cv:AV}{g:aZ}{ch:bm}{pr:Nat->Nat}{j:Int}(H:Has fns)(hn:aW 6 cI S nv g.bw)(hi:aW 2 eT S iv g.b7)(hc:dE .i64 S cv ch)(hln:g.bw.length<=100000)(hll:ch.length<=10000000)(hpr:dJ g=0->kY g pr):
  eR fns (.fn 10 [] []) [.agg [.int .i64 g.b8,nv,iv],cv,.int .i64 j] S fun r S'=>Same S S'/\aC0 g ch pr j (aFk j.toNat) r:=by
 refine bE H.f10 (by simp) ?_;refine ae ?_;refine aY ?_;refine bW (cs:=[.int .i64 g.b8,nv,iv]) rfl ?_;intro S1 s1 n1 g1;refine ae ?_;refine aY (dh (gR g1) ?_);refine aK (ae ?_);refine aG (aB5 (pr:=pr) H (aW.same (E:=cI) bT hn s1) (aW.same (E:=eT) dH hi s1) (hc.same s1) hln hll hpr) ?_;rintro _ X ⟨hX,hr⟩;have sX:=s1.trans hX;have gX:=(hX.2 _ (show S.nx<S1.nx by omega)).trans g1;have hnX:=aW.same (E:=cI) bT hn sX;rcases hr with⟨he,rfl⟩ | ⟨he,sz,cn,ls,pl,R,rfl⟩
 ·refine dk @nP @nN ?_;refine dS (ae ?_);refine aN (by simp only[↓sU,sD,rE,↓reduceIte,rA,Ab he]) (aC (aJ ?_));refine ae ?_;refine aI (ae ?_);exact⟨sX,.inl ⟨he,rfl⟩⟩
 have hj:0<=j/\j<(g.bw.length:Int):=by
  unfold aDI at he;split at he
  ·rename_i h3;exact absurd he h3
  ·split at he
   ·cases he
   ·omega
 obtain⟨k,rfl⟩:∃k:Nat,j=(k:Int):=⟨j.toNat,au⟩;rw[Bq];have hk:k<g.bw.length:=by omega
 refine dk @nP @nN ?_;refine dS (ae ?_);refine aM (by simp only[↓sU,sD,rE,↓reduceIte,rA,Aa (show ¬ (0:Int)≠0 by omega)]) (aH ?_);try refine ae ?_
 refine dS (ae ?_);by_cases h0:cn k=0
 ·refine aN (by simp only[↓sU,sD,rE,↓reduceIte,rA,Ab h0]) (aC (aJ ?_));refine ae ?_;refine aI (ae ?_);exact⟨sX,.inr ⟨he,sz,cn,ls,pl,R,by unfold aFk;rw[if_pos h0]⟩⟩
 refine aM (by simp only[↓sU,sD,rE,↓reduceIte,rA,Aa h0]) (aH ?_);try refine ae ?_
 refine aY (dh (gR gX) ?_);refine aK (ae ?_);refine aG (aII H R.G hnX R.C R.L R.P R.pb hk h0) ?_;rintro r Y ⟨rfl,hY⟩;try refine ae ?_
 refine aI (ae ?_);exact⟨sX.trans hY,.inr ⟨he,sz,cn,ls,pl,R,by unfold aFk;rw[if_neg h0]⟩⟩
abbrev aO4(a va b bs bi vb c cs ci vc m1 mb m2 mc m3:Nat):List AO:=[⟨none,.x (.st 1 (.t a) (.t va)),none,m1⟩,⟨some b,.q (.cw (.slice 1) (.t bs) (.t bi)),none,mb⟩,⟨none,.x (.st 1 (.t b) (.t vb)),none,m2⟩,⟨some c,.q (.cw (.slice 1) (.t cs) (.t ci)),none,mc⟩,⟨none,.x (.st 1 (.t c) (.t vc)),none,m3⟩]
theorem aE9{pre:List AO}{K d a va b bs bi vb c cs ci vc m1 mb m2 mc m3:Nat}{F:Fr}{inr:Bool}{X:St}{b1 b2 b3 j n:Nat}{l1 l2 l3:bm}{x1 x2 x3:Int}{Q:Out->bK->St->Prop}
  (hK:pre.length=K) (hm:(pre.all fun o=>decide (o.mask<2 ^ K))=true) (hI:((List.range K).all fun j=>match pre[j]? with | some o=> !hot o || Nat.testBit m1 j | none=>true)=true)
  (h2:Nat.testBit m2 K=true) (h3:Nat.testBit m3 (K+2)=true)
  (dis:b≠vb/\b≠cs/\b≠ci/\b≠vc/\c≠vc/\d<=b/\d<=c)
  (g1:X.h.get b1=some (.cells (bC l1) false 0)) (g2:X.h.get b2=some (.cells (bC l2) false 0)) (g3:X.h.get b3=some (.cells (bC l3) false 0))
  (n1:l1.length=n) (n2:l2.length=n) (n3:l3.length=n) (hj:j<n) (ne:b1≠b2/\b1≠b3/\b2≠b3)
  (hpre:∀S1,Same X S1->S1.h=X.h->iD fns (fun _=>False) X.h X.nx pre 0 F S1 [] none fun F' Z ps=>ps= []/\Z.h=X.h/\X.nx<=Z.nx/\(∀i,i<d->aD i F'=aD i F)/\aD a F'= .ptr b1 j/\aD va F'= .int .i64 x1/\aD bs F'= .sl b2 0 n n false/\aD bi F'= .int .i64 (j:Int)/\aD vb F'= .int .i64 x2/\aD cs F'= .sl b3 0 n n false/\aD ci F'= .int .i64 (j:Int)/\aD vc F'= .int .i64 x3)
  (hQ:∀F' Z,(∀i,i<d->aD i F'=aD i F)->X.nx<=Z.nx->Z.h.get b1=some (.cells (bC (l1.set j x1)) false 0)->Z.h.get b2=some (.cells (bC (l2.set j x2)) false 0)->Z.h.get b3=some (.cells (bC (l3.set j x3)) false 0)->(∀e,e≠b1->e≠b2->e≠b3->Z.h.get e=X.h.get e)->Q .normal ⟨F',inr⟩ Z):
  oD fns (.drw (pre++aO4 a va b bs bi vb c cs ci vc m1 mb m2 mc m3)) ⟨F,inr⟩ X Q:=by
 have⟨k1,k2,k3,k4,k5,k6,k7⟩:=dis;have⟨e1,e2,e3⟩:=ne;refine xC m1 (W:=fun _=>False) rfl hK hm hI (fun S1 s1 hh _=>hpre S1 s1 hh) ?_;rintro F' Z ps hs ls ⟨rfl,hZ,nZ,hk,pa,pva,pbs,pbi,pvb,pcs,pci,pvc⟩ hlast hld;have ia2:dN (.slice 1) (.sl b2 0 n n false) j=some (.ptr b2 j):=iB hj;have ia3:dN (.slice 1) (.sl b3 0 n n false) j=some (.ptr b3 j):=iB hj;rw[<-hZ] at g1 g2 g3;refine sT (v:=.undef) (S1:=⟨Z.h.set b1 (some (.cells (bC (l1.set j x1)) false 0)),Z.nx⟩) hlast (fun call=>?_) ?_
 ·rw[eC];simp only[eO,pa,pva,cS,cH,aL];exact aCc (S:=Z) g1 au
 simp only[pP,bX,fA,jS,aS,eO,cS,fZ,bG,pbs,pbi,aQ,aL,ia2,rE,↓reduceIte,rA];have g2':(Z.h.set b1 (some (.cells (bC (l1.set j x1)) false 0))).get b2=some (.cells (bC l2) false 0):=by rw[dr,if_neg (Eg e1)];exact g2
 have g3':(Z.h.set b1 (some (.cells (bC (l1.set j x1)) false 0))).get b3=some (.cells (bC l3) false 0):=by rw[dr,if_neg (Eg e2)];exact g3
 refine sT (v:=.undef) (S1:=⟨(Z.h.set b1 (some (.cells (bC (l1.set j x1)) false 0))).set b2 (some (.cells (bC (l2.set j x2)) false 0)),Z.nx⟩) (show Nat.testBit m2 K=true from h2) (fun call=>?_) ?_
 ·rw[eC];simp only[eO,bG,k1.symm,Ck,Bm,pvb,cS,cH,aL];exact aCc (S:=⟨_,Z.nx⟩) g2' au
 simp only[pP,bX,fA,jS,aS,eO,cS,fZ,bG,k2.symm,k3.symm,pcs,pci,aQ,aL,ia3,Ck,Bm,rA];have g3'':((Z.h.set b1 (some (.cells (bC (l1.set j x1)) false 0))).set b2 (some (.cells (bC (l2.set j x2)) false 0))).get b3=some (.cells (bC l3) false 0):=by rw[dr,if_neg (Eg e3)];exact g3'
 refine sT (v:=.undef) (S1:=⟨((Z.h.set b1 (some (.cells (bC (l1.set j x1)) false 0))).set b2 (some (.cells (bC (l2.set j x2)) false 0))).set b3 (some (.cells (bC (l3.set j x3)) false 0)),Z.nx⟩) (show Nat.testBit m3 (K+2)=true from h3) (fun call=>?_) ?_
 ·rw[eC];simp only[eO,bG,k4.symm,k5.symm,Ck,Bm,pvc,cS,cH,aL];exact aCc (S:=⟨_,Z.nx⟩) g3'' au
 rw[mT];refine⟨?_,?_⟩
 ·simp only[Eh,Bn,Gi,Cx,Cn];exact hld _ _
 simp only[cS,fZ];refine hQ _ _ (fun i hi=>?_) nZ ?_ ?_ ?_ fun e h1 h2 h3=>?_
 ·rw[bG,if_neg au,bG,if_neg au];exact hk i hi
 ·rw[dr,if_neg e2,dr,if_neg e1,dr,if_pos rfl]
 ·rw[dr,if_neg e3,dr,if_pos rfl]
 ·rw[dr,if_pos rfl]
 ·rw[dr,if_neg h3,dr,if_neg h2,dr,if_neg h1,hZ]
noncomputable def chP:List AO:=[mt 58 6,
mt 59 14,
mt 60 7,
mt 61 14,
mt 62 9,
mt 63 14,
mt 64 6,
mt 65 10,
om 66 192 (.cw (.slice 1) (.t 64) (.t 65)),
om 67 448 (ld 66),
mt 68 15,
om 69 1984 (bi .quo (.t 67) (.t 68)),
oq 70 (.df 4 (.t 11)),
om 71 4096 (ld 70),
mt 72 13,
om 73 28672 (.cw (.slice 1) (.t 71) (.t 72)),
om 74 61440 (ld 73),
om 75 131008 (bi .mul (.t 69) (.t 74)),
mt 76 7,
mt 77 10,
om 78 786432 (.cw (.slice 1) (.t 76) (.t 77)),
om 79 1835008 (ld 78),
mt 80 9,
mt 81 10,
om 82 12582912 (.cw (.slice 1) (.t 80) (.t 81)),
om 83 29360128 (ld 82),
mt 84 12,
om 85 130023424 (bi .mul (.t 83) (.t 84)),
om 86 268173312 (bi .add (.t 79) (.t 85)),
mt 87 9,
mt 88 10,
om 89 1610612736 (.cw (.slice 1) (.t 87) (.t 88)),
om 90 3758096384 (ld 89),
mt 91 15,
om 92 16642998272 (bi .mul (.t 90) (.t 91)),
om 93 8120172483 (.cw (.slice 1) (.t 58) (.t 59))]
noncomputable def mvP:List AO:=[mt 110 6,
mt 111 14,
mt 112 7,
mt 113 14,
mt 114 9,
mt 115 14,
mt 116 6,
mt 117 10,
om 118 192 (.cw (.slice 1) (.t 116) (.t 117)),
om 119 448 (ld 118),
mt 120 7,
mt 121 10,
om 122 3072 (.cw (.slice 1) (.t 120) (.t 121)),
om 123 7168 (ld 122),
mt 124 9,
mt 125 10,
om 126 49152 (.cw (.slice 1) (.t 124) (.t 125)),
om 127 114688 (ld 126),
om 128 262083 (.cw (.slice 1) (.t 110) (.t 111))]
section
variable {F:Fr}{inr:Bool}{X:St}{cb lb pb nb N i k c:Nat}{lc ll lp wl:bm}{x0 x1 x2 xa xw xp:AV}{bf W y1 z2 y2 y3:Int}{Q:Out->bK->St->Prop}
theorem aNz(p6:aD 6 F= .sl cb 0 N N false)(p7:aD 7 F= .sl lb 0 N N false)(p9:aD 9 F= .sl pb 0 N N false)(p10:aD 10 F= .int .i64 (i:Int))(p11:aD 11 F= .ptr nb 0)(p12:aD 12 F= .int .i64 bf)(p13:aD 13 F= .int .i64 (k:Int))(p14:aD 14 F= .int .i64 (c:Int))(p15:aD 15 F= .int .i64 W)
  (hx:X.h.get nb=some (.cells [x0,x1,x2,xa,xw,xp] false 0)) (hw:dE .i64 X xw wl) (hk:k<wl.length)
  (gc:X.h.get cb=some (.cells (bC lc) false 0)) (gl:X.h.get lb=some (.cells (bC ll) false 0)) (gp:X.h.get pb=some (.cells (bC lp) false 0)) (n1:lc.length=N) (n2:ll.length=N) (n3:lp.length=N) (hi:i<N) (hc:c<N) (ne:cb≠lb/\cb≠pb/\lb≠pb) (b1:cb<X.nx) (b2:lb<X.nx) (b3:pb<X.nx) (b4:nb<X.nx)
  (q1:0<=lc.getD i 0) (q2:lc.getD i 0<=9223372036854775807) (q3:0<W)
  (e1:IntKind.i64.wrap (lc.getD i 0 / W * wl.getD k 0)=y1) (e2:IntKind.i64.wrap (lp.getD i 0 * bf)=z2) (e3:IntKind.i64.wrap (ll.getD i 0+z2)=y2) (e4:IntKind.i64.wrap (lp.getD i 0 * W)=y3)
  (hQ:∀F' Z,(∀i,i<58->aD i F'=aD i F)->X.nx<=Z.nx->Z.h.get cb=some (.cells (bC (lc.set c y1)) false 0)->Z.h.get lb=some (.cells (bC (ll.set c y2)) false 0)->Z.h.get pb=some (.cells (bC (lp.set c y3)) false 0)->(∀e,e≠cb->e≠lb->e≠pb->Z.h.get e=X.h.get e)->Q .normal ⟨F',inr⟩ Z):
  oD fns (.drw (chP++aO4 93 75 94 60 61 86 95 62 63 92 42479910851 111669149647 249108103119 549755813887 1099511627775)) ⟨F,inr⟩ X Q:=by
 have sxw:=dE.self hw;have⟨wb,wo,iw,lw,dw⟩:=dE.ptr' hw hk;have dc:=aF8 gc (p:=i) au;have dl:=aF8 gl (p:=i) au;have dp:=aF8 gp (p:=i) au;have hquo:=kC (.p .int) (a:=lc.getD i 0) (b:=W) au au au;refine aE9 (K:=36) (d:=58) rfl rfl rfl rfl rfl ay gc gl gp n1 n2 n3 hc ne (fun S1 s1 hS1=>?_) hQ;unfold chP;simp only[↓sU,sD,rE,↓reduceIte,rA,p6,p7,p9,p10,p11,p12,p13,p14,p15,aQ,iB (b:=cb) (o:=false) hi,iB (b:=lb) (o:=false) hi,iB (b:=pb) (o:=false) hi,iB (b:=cb) (o:=false) hc,dc,dl,dp,hquo,aF,aV,aE,dR hx,sxw,iw,dw,e1,e2,e3,e4,Ak];exact⟨b1,b4,lw,b2,b3,b3,hS1,s1.1,fun t ht=>by repeat (rw[if_neg au])⟩
theorem aOm(p6:aD 6 F= .sl cb 0 N N false)(p7:aD 7 F= .sl lb 0 N N false)(p9:aD 9 F= .sl pb 0 N N false)(p10:aD 10 F= .int .i64 (i:Int))(p14:aD 14 F= .int .i64 (c:Int))
  (gc:X.h.get cb=some (.cells (bC lc) false 0)) (gl:X.h.get lb=some (.cells (bC ll) false 0)) (gp:X.h.get pb=some (.cells (bC lp) false 0)) (n1:lc.length=N) (n2:ll.length=N) (n3:lp.length=N) (hi:i<N) (hc:c<N) (ne:cb≠lb/\cb≠pb/\lb≠pb) (b1:cb<X.nx) (b2:lb<X.nx) (b3:pb<X.nx)
  (hQ:∀F' Z,(∀i,i<110->aD i F'=aD i F)->X.nx<=Z.nx->Z.h.get cb=some (.cells (bC (lc.set c (lc.getD i 0))) false 0)->Z.h.get lb=some (.cells (bC (ll.set c (ll.getD i 0))) false 0)->Z.h.get pb=some (.cells (bC (lp.set c (lp.getD i 0))) false 0)->(∀e,e≠cb->e≠lb->e≠pb->Z.h.get e=X.h.get e)->Q .normal ⟨F',inr⟩ Z):
  oD fns (.drw (mvP++aO4 128 119 129 112 113 123 130 114 115 127 524227 1048527 2097103 4194303 8388607)) ⟨F,inr⟩ X Q:=by
 have dc:=aF8 gc (p:=i) au;have dl:=aF8 gl (p:=i) au;have dp:=aF8 gp (p:=i) au;refine aE9 (K:=19) (d:=110) rfl rfl rfl rfl rfl ay gc gl gp n1 n2 n3 hc ne (fun S1 s1 hS1=>?_) hQ;unfold mvP;simp only[↓sU,sD,rE,↓reduceIte,rA,p6,p7,p9,p10,p14,aQ,iB (b:=cb) (o:=false) hi,iB (b:=lb) (o:=false) hi,iB (b:=pb) (o:=false) hi,iB (b:=cb) (o:=false) hc,dc,dl,dp,aF,aV,aE,Ak];exact⟨b1,b2,b3,hS1,s1.1,fun t ht=>by repeat (rw[if_neg au])⟩
end
end Go.Ev.Gl
