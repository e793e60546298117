import Derived.Test.YtkklchgmpejobaaGreatDoorGl25
open Nat renaming reduceEqDiff → rE, reduceAdd → rA
set_option maxHeartbeats 16000000
set_option linter.unusedSimpArgs false
set_option linter.unusedVariables false
namespace Go.Ev.Gl
variable {fns:T cV}
theorem aES{x y:bU}(h1:x.kind=y.kind)(h2:x.player=y.player)(h3:x.info=y.info)(h4:x.next=y.next)(h5:x.weights=y.weights)(h6:x.pay=y.pay):x=y:=by
 cases x;cases y;simp only at h1 h2 h3 h4 h5 h6;rw[h1,h2,h3,h4,h5,h6]
theorem aHB{S:St}{a b c a' b' c':AV}{x y:bU}(H:Has fns)(x1:cD .i64 S a x.next)(x2:cD .i64 S b x.weights)(x3:cD .i64 S c x.pay)(y1:cD .i64 S a' y.next)(y2:cD .i64 S b' y.weights)(y3:cD .i64 S c' y.pay)(l1:x.next.length≤10000000)(l2:x.weights.length≤10000000)(l3:x.pay.length≤10000000):
  fR fns (.fn 39 [] []) [.agg [.int .i64 x.kind,.int .i64 x.player,.int .i64 x.info,a,b,c],.agg [.int .i64 y.kind,.int .i64 y.player,.int .i64 y.info,a',b',c']] S fun r X=>(∃t,r= .bool t∧(t=true↔x=y))∧Same S X:=by
 refine cE H.f39 (by simp) ?_;refine ah ?_;refine cC ?_;refine eH (by simp only[↓aA,aB,rE,↓reduceIte,rA];exact bM _) ?_;intro S1 s1 n1 c1;refine ah ?_;refine eH (by simp only[↓aA,aB,rE,↓reduceIte,rA];exact bM _) ?_;intro S2 s2 n2 c2;simp only[↓aA,aB,rE,↓reduceIte,rA];have s12:=s1.trans s2;have d1:=(s2.2 _ (show S.nx<S1.nx by omega)).trans c1;have no:∀ {p:Prop},p→(x=y→¬p)→(false=true↔x=y):=fun {p} hp hn=>⟨(fun e=>by cases e),fun e=>absurd hp (hn e)⟩;refine cC ?_;by_cases h1:x.kind=y.kind;rotate_left
 ·simp only[↓aA,aB,rE,↓reduceIte,rA,aE,aF,gT d1,gT c2,Aa h1];refine aU ?_;simp only[↓aA,aB,rE,↓reduceIte,rA];exact⟨⟨false,rfl,no h1 fun e h=>h (by rw[e])⟩,s12⟩
 by_cases h2:x.player=y.player;rotate_left
 ·simp only[↓aA,aB,rE,↓reduceIte,rA,aE,aF,gT d1,gT c2,gM d1,gM c2,Ad h1,Aa h2];refine aU ?_;simp only[↓aA,aB,rE,↓reduceIte,rA];exact⟨⟨false,rfl,no h2 fun e h=>h (by rw[e])⟩,s12⟩
 by_cases h3:x.info=y.info;rotate_left
 ·simp only[↓aA,aB,rE,↓reduceIte,rA,aE,aF,gT d1,gT c2,gM d1,gM c2,gR d1,gR c2,Ad h1,Ad h2,Aa h3];refine aU ?_;simp only[↓aA,aB,rE,↓reduceIte,rA];exact⟨⟨false,rfl,no h3 fun e h=>h (by rw[e])⟩,s12⟩
 simp only[↓aA,aB,rE,↓reduceIte,rA,aE,aF,gT d1,gT c2,gM d1,gM c2,gR d1,gR c2,gE d1,gE c2,Ad h1,Ad h2,Ad h3];refine aY ?_;refine ah ?_;refine aP (yO H (x1.same s12) (y1.same s12) l1) ?_;rintro _ Y ⟨rfl,sY⟩;have s3:=s12.trans sY;have d3:=(sY.2 _ (show S.nx<S2.nx by omega)).trans d1;have e3:=(sY.2 _ (show S1.nx<S2.nx by omega)).trans c2;by_cases h4:x.next=y.next;rotate_left
 ·simp only[↓aA,aB,rE,↓reduceIte,rA,Aa h4];refine aU ?_;simp only[↓aA,aB,rE,↓reduceIte,rA];exact⟨⟨false,rfl,no h4 fun e h=>h (by rw[e])⟩,s3⟩
 simp only[↓aA,aB,rE,↓reduceIte,rA,aE,aF,iD d3,iD e3,Ad h4];refine aY ?_;refine ah ?_;refine aP (yO H (x2.same s3) (y2.same s3) l2) ?_;rintro _ Z ⟨rfl,sZ⟩;have s4:=s3.trans sZ;have nY:=sY.1;have d4:=(sZ.2 _ (show S.nx<Y.nx by omega)).trans d3;have e4:=(sZ.2 _ (show S1.nx<Y.nx by omega)).trans e3;by_cases h5:x.weights=y.weights;rotate_left
 ·simp only[↓aA,aB,rE,↓reduceIte,rA,Aa h5];refine aU ?_;simp only[↓aA,aB,rE,↓reduceIte,rA];exact⟨⟨false,rfl,no h5 fun e h=>h (by rw[e])⟩,s4⟩
 simp only[↓aA,aB,rE,↓reduceIte,rA,aE,aF,jJ d4,jJ e4,Ad h5];refine aY ?_;refine ah ?_;refine aP (yO H (x3.same s4) (y3.same s4) l3) ?_;rintro _ V ⟨rfl,sV⟩;by_cases h6:x.pay=y.pay
 ·simp only[↓aA,aB,rE,↓reduceIte,rA,Ad h6];refine aU ?_;simp only[↓aA,aB,rE,↓reduceIte,rA];exact⟨⟨true,rfl,fun _=>aES h1 h2 h3 h4 h5 h6,fun _=>rfl⟩,s4.trans sV⟩
 ·simp only[↓aA,aB,rE,↓reduceIte,rA,Aa h6];refine aU ?_;simp only[↓aA,aB,rE,↓reduceIte,rA];exact⟨⟨false,rfl,no h6 fun e h=>h (by rw[e])⟩,s4.trans sV⟩
def aQc(S:St)(av bv:AV)(l m:List bU)(k:Nat)(A:bQ)(X:St):Prop:=A.inr=false∧Same S X∧∃i,i+k=l.length∧l.take i=m.take i∧aD 0 A.F=av∧aD 1 A.F=bv∧aD 2 A.F= .fn 39 [] []∧aD 15 A.F=av∧aD 16 A.F= .int .i64 ((l.length:Nat):Int)∧aD 17 A.F= .int .i64 (i:Int)
theorem aHP{l m:List bU}(hlm:l.length=m.length){i:Nat}(hi:i<l.length):l.take (i+1)=m.take (i+1)↔l.take i=m.take i∧l[i]? =m[i]? :=by
 rw[Bw,Bw,Ab hi,Ab (show i<m.length by omega)];simp only[Option.toList_some,Al];constructor
 ·intro h;have h1:=List.append_inj h (by rw[Cc,Cc];omega);exact⟨h1.1,by simpa using h1.2⟩
 ·rintro⟨h1,h2⟩;rw[h1,h2]
theorem aFT{S:St}{av bv:AV}{l m:List bU}(H:Has fns)(ha:bB 6 dJ S av l)(hb:bB 6 dJ S bv m)(hl:l.length≤100000)(hB:∀x∈l,x.next.length≤10000000∧x.weights.length≤10000000∧x.pay.length≤10000000):
  fR fns (.fn 38 [] []) [av,bv,.fn 39 [] []] S fun r X=>(∃t,r= .bool t∧(t=true↔l=m))∧Same S X:=by
 refine cE H.f38 (by simp) ?_;refine ah ?_;refine cC ?_;simp only[↓aA,aB,rE,↓reduceIte,rA];have la:=bB.len ha;have lb:=bB.len hb;refine iP ?_;simp only[↓aA,aB,rE,↓reduceIte,rA,la,lb];by_cases hlm:l.length=m.length;rotate_left
 ·refine aR (by simp only[↓aA,aB,rE,↓reduceIte,rA];exact Dh _ (Ad (by omega))) (aC (aG ?_));refine ah ?_;refine aU ?_;simp only[↓aA,aB,rE,↓reduceIte,rA];exact⟨⟨false,rfl,(fun e=>by cases e),fun e=>absurd (by rw[e]) hlm⟩,Same.refl _⟩
 refine aO (by simp only[↓aA,aB,rE,↓reduceIte,rA];exact Dh _ (Aa (by omega))) (aM ?_);try simp only[↓aA,aB,rE,↓reduceIte,rA]
 refine aC (bD (Q:=fun o A' X=>(o= .normal∧aQc S av bv l m 0 A' X)∨(o= .ret∧Same S X∧l≠m∧aD 6 A'.F= .bool false)) (aC (aG ?_)) ?_)
 ·simp only[↓aA,aB,rE,↓reduceIte,rA,la];refine aN (bT (aQc S av bv l m) ?_ l.length _ _ ⟨rfl,Same.refl _,0,by omega,rfl,by refine⟨?_,?_,?_,?_,?_,?_⟩<;>simp only[↓aA,aB,rE,↓reduceIte,rA]⟩);rintro k ⟨F,inr⟩ X ⟨q0,hX,i,hik,he,p0,p1,p2,p15,p16,p17⟩;simp only at q0 p0 p1 p2 p15 p16 p17;subst q0;refine cC ?_;simp only[↓aA,aB,rE,↓reduceIte,rA,p16,p17,zV];by_cases hlt:i<l.length;rotate_left
  ·refine aC (aO (by simp only[↓aA,aB,rE,↓reduceIte,rA,Aa hlt]) (bK ?_));obtain rfl:k=0:=by omega
   exact .inl ⟨rfl,rfl,hX,i,hik,he,by refine⟨?_,?_,?_,?_,?_,?_⟩<;>simp only[↓aA,aB,rE,↓reduceIte,rA,p0,p1,p2,p15,p16,p17]⟩
  refine aC (aR (by simp only[↓aA,aB,rE,↓reduceIte,rA,Ad hlt]) (aM ?_));try simp only[↓aA,aB,rE,↓reduceIte,rA]
  obtain⟨x,hx⟩:∃x,l[i]? =some x:=⟨_,Ab hlt⟩;obtain⟨y,hy⟩:∃y,m[i]? =some y:=⟨_,Ab (show i<m.length by omega)⟩;obtain⟨_,b1,q1,i1,lt1,_,⟨a,b,c,rfl,x1,x2,x3⟩,d1,_⟩:=bB.at (bB.same (E:=dJ) cT ha hX) (by decide) hx;obtain⟨_,b2,q2,i2,lt2,_,⟨a',b',c',rfl,y1,y2,y3⟩,d2,_⟩:=bB.at (bB.same (E:=dJ) cT hb hX) (by decide) hy;obtain⟨u1,u2,u3⟩:=hB x (Aq hx);refine aC (aN (aC (aG ?_)));simp only[↓aA,aB,rE,↓reduceIte,rA,p15,p17,aH,i1,d1];refine cR ?_;intro X1 t1 m1 g1;refine ah ?_;refine fC (b:=X.nx) (ai) (by simp only[↓aA,aB,rE,↓reduceIte,rA];exact bM _) g1 rfl rfl ?_;intro X2 t2 m2 g2;simp only[↓aA,aB,rE,↓reduceIte,rA];have sX2:Same X X2:=t2.same t1 (Ag _);have d2':=(sI sX2 lt2).trans d2;refine cC ?_;simp only[↓aA,aB,rE,↓reduceIte,rA,p1,p17,aH,i2,d2'];refine cR ?_;intro X3 t3 m3 g3;try simp only[↓aA,aB,rE,↓reduceIte,rA]
  refine fC (b:=X2.nx) (ai) (by simp only[↓aA,aB,rE,↓reduceIte,rA];exact bM _) g3 rfl rfl ?_;intro X4 t4 m4 g4;simp only[↓aA,aB,rE,↓reduceIte,rA];have sX4:Same X2 X4:=t4.same t3 (Ag _);have g2':=(sX4.2 _ (show X.nx<X2.nx by omega)).trans g2;have sX:=sX2.trans sX4;refine cC ?_;simp only[↓aA,aB,rE,↓reduceIte,rA,p2,ldN g2',ldN g4];refine aY ?_;refine ah ?_;refine aP (aHB H (x1.same sX) (x2.same sX) (x3.same sX) (y1.same sX) (y2.same sX) (y3.same sX) u1 u2 u3) ?_;rintro _ Y ⟨⟨t,rfl,ht⟩,sY⟩;have sXY:=hX.trans (sX.trans sY);simp only[↓aA,aB,rE,↓reduceIte,rA,fQ];cases t with
  | true=>
   refine aO (by simp only[↓aA,aB,rE,↓reduceIte,rA,Bp]) (aM ?_);try simp only[↓aA,aB,rE,↓reduceIte,rA]
   refine aG ?_;simp only[↓aA,aB,rE,↓reduceIte,rA,p17,fA (a:=i) (by omega)];exact⟨k - 1,by omega,rfl,sXY,i+1,by omega,(aHP hlm hlt).2 ⟨he,by rw[hx,hy,ht.1 rfl]⟩,by refine⟨?_,?_,?_,?_,?_,?_⟩<;>simp only[↓aA,aB,rE,↓reduceIte,rA,p0,p1,p2,p15,p16]⟩
  | false=>
   refine aR (by simp only[↓aA,aB,rE,↓reduceIte,rA,Bx]) (aC (aG ?_));refine ah ?_;refine aU ?_;refine .inr ⟨rfl,sXY,fun e=>?_,ai⟩;rw[e,hy] at hx;cases hx;exact absurd (ht.2 rfl) (by decide)
 rintro o ⟨F,inr⟩ X (⟨rfl,q0,hX,i,hik,he, -⟩ | ⟨rfl,sX,hne,p6⟩);rotate_left
 ·simp only at p6;simp only[↓aA,aB,rE,↓reduceIte,rA,p6];exact⟨⟨false,rfl,(fun e=>by cases e),fun e=>absurd e hne⟩,sX⟩
 simp only at q0;subst q0;rw[Bj (by omega),Bj (by omega)] at he;try simp only[↓aA,aB,rE,↓reduceIte,rA]
 refine cC ?_;refine ah ?_;refine aU ?_;simp only[↓aA,aB,rE,↓reduceIte,rA];exact⟨⟨true,rfl,fun _=>he,fun _=>rfl⟩,hX⟩
theorem NdV.move{S X X':St}{na:AV}{e:List AV}{y:bU×Bool×Bool}(h:NdV S X na e y)(hn:X.nx≤X'.nx)(hk:∀c,c<X.nx→aT na≠some c→X'.h.get c=X.h.get c):NdV S X' na e y:=by
 obtain⟨a,b,c,rfl,h1,h2,h3,h4,h5,h6,h7⟩:=h;exact⟨a,b,c,rfl,eY h1 hn fun q hq=>hk q (dG h1 hq) (h4 q (.inl hq)),eY h2 hn fun q hq=>hk q (dG h2 hq) (h4 q (.inr (.inl hq))),eY h3 hn fun q hq=>hk q (dG h3 hq) (h4 q (.inr (.inr hq))),h4,h5,h6,h7⟩
theorem kH.fieldV{S X:St}{na:AV}{l:List (bU×Bool×Bool)}(h:kH 6 (NdV S X na) S X na l){i:Nat}{y:bU×Bool×Bool}(hi:l[i]? =some y):∃nb o,eS (.slice 6) na i=some (.ptr nb o)∧aT na=some nb∧nb<X.nx∧∃a b c,NdV S X na [.int .i64 y.1.kind,.int .i64 y.1.player,.int .i64 y.1.info,a,b,c] y∧cD .i64 X b y.1.weights∧cD .i64 X c y.1.pay∧dB (.ptr nb (o+4)) false 1 X.h=some b∧dB (.ptr nb (o+5)) false 1 X.h=some c:=by
 rcases h with⟨rfl,rfl⟩ | ⟨b,c,cs,rfl,g1,g2,g3,g4,g5,g6,g7⟩
 ·cases hi
 ·have hil:=(Af.1 hi).1;obtain⟨e,e1,e2,x1,x2,x3,rfl,h1,h2,h3,h4⟩:=g7 i y hi;refine⟨b,0+i * 6,?_,rfl,g4,x1,x2,x3,⟨x1,x2,x3,rfl,h1,h2,h3,h4⟩,h2,h3,cS g5 (by rw[Ao];exact e2 4 x2 rfl),cS g5 (by rw[Ao];exact e2 5 x3 rfl)⟩;show bN (Nat.blt i l.length) _ _=_;rw[show Nat.blt i l.length=true from Aj hil,aL]
theorem kH.fieldV4{S X:St}{na:AV}{l:List (bU×Bool×Bool)}(h:kH 6 (NdV S X na) S X na l){i:Nat}{x:bU}{w p:Bool}(hi:l[i]? =some (x,w,p)):∃nb o,eS (.slice 6) na i=some (.ptr nb o)∧aT na=some nb∧nb<X.nx∧∃v,dB (.ptr nb (o+4)) false 1 X.h=some v∧cD .i64 X v x.weights:=by
 obtain⟨nb,o,k1,k2,k3,a,b,c,_,h2,h3,l4,l5⟩:=h.fieldV hi;exact⟨nb,o,k1,k2,k3,b,l4,h2⟩
theorem kH.fieldV5{S X:St}{na:AV}{l:List (bU×Bool×Bool)}(h:kH 6 (NdV S X na) S X na l){i:Nat}{x:bU}{w p:Bool}(hi:l[i]? =some (x,w,p)):∃nb o,eS (.slice 6) na i=some (.ptr nb o)∧aT na=some nb∧nb<X.nx∧∃v,dB (.ptr nb (o+5)) false 1 X.h=some v∧cD .i64 X v x.pay:=by
 obtain⟨nb,o,k1,k2,k3,a,b,c,_,h2,h3,l4,l5⟩:=h.fieldV hi;exact⟨nb,o,k1,k2,k3,c,l5,h3⟩
theorem aMQ{ops:List AO}{S X:St}{F:Fr}{inr:Bool}{g4 i:Nat}{na jv ps:AV}{x:bU}{w p:Bool}{l:List (bU×Bool×Bool)}{Q:Out→bQ→St→Prop}(H:Has fns)(he:ops=aJm++aIX)(hA:kH 6 (NdV S X na) S X na l)(hS:S.nx≤X.nx)(hi:l[i]? =some (x,w,p))(hb:x.weights.length≤10000000)(p4:aD 4 F= .ptr g4 0)(p5:aD 5 F= .int .i64 (i:Int))(gg:X.h.get g4=some (.cells [ps,na,jv] false 0))(lg:g4<X.nx)(ng:aT na≠some g4)
  (hQ:∀F' Z,(∀j,j<34→aD j F'=aD j F)→X.nx≤Z.nx→(∀c,c<X.nx→aT na≠some c→Z.h.get c=X.h.get c)→kH 6 (NdV S Z na) S Z na (l.set i (x,true,p))→Q .normal ⟨F',inr⟩ Z):lJ fns (.drw ops) ⟨F,inr⟩ X Q:=by
 have hlen:ops.length=13:=by rw[he];rfl
 have d1:=fL gg;have sna:=hA.self;obtain⟨nb,o,k1,k2,k3,xv,k4,ix⟩:=hA.fieldV4 hi;have sxv:=cD.self ix;refine uV (W:=fun _=>False) (pre:=aJm) (suf:=aIX) (K:=12) (R:=fun F' V ps=>ps= []∧Same X V∧(∀j,j<34→aD j F'=aD j F)∧aD 45 F'= .ptr nb (o+4)∧∃rv',aD 43 F'=rv'∧cD .i64 V rv' x.weights∧∀c,aT rv'=some c→X.nx≤c) he rfl rfl (fun X1 x1 hh1 nn1=>?_) ?_
 ·unfold aJm;simp only[↓sU,sD,rE,↓reduceIte,rA,p4,p5,aE,aW,aF,d1,k1,k4,lg,k3,Ay,sna,sxv,aH];refine cP rfl ?_;refine am ?_;refine aP (qY H (ix.same x1) hb) ?_;rintro r Y1 ⟨i1,y1,kr,_⟩;refine⟨y1,?_⟩;simp only[↓sU,sD,rE,↓reduceIte,rA,p4,p5,aH,k1,aE,aW,aF,Ay];refine⟨x1.trans y1,fun j hj=>?_,r,rfl,i1,fun c hc=>by have:=kr c hc;have:=x1.1;omega⟩
  repeat rw[if_neg (by omega)]
 ·rintro F' V ps' hs' ls ⟨rfl,sV,hk,pA,rv',pB,i2,kr0⟩ hlast hld;have m1:∀i,i<12→Nat.testBit 4095 i=true:=by decide
  have hrc:rv'.cells=some [rv']:=cD.cells i2;have kr:∀q,aT rv'=some q→S.nx≤q:=fun q hq=>by have:=kr0 q hq;omega
  have bnb:=hA.blk k2;have hAV:kH 6 (NdV S V na) S V na l:=hA.move sV.1 (fun c hc=>sV.2 c (hA.blk hc).2) fun e y hE=>hE.move sV.1 fun c hc _=>sV.2 c hc;obtain⟨bb,pp,Z,z1,z2,z3,z4,z5,z6,z7⟩:=kH.fldU (E':=NdV S V na) (a':=(x,true,p)) (x:=rv') (q:=4) hAV hi (by decide) (fun _ _ _ _ _ h=>h) fun e hE=>by
   obtain⟨a,b,c,rfl,h1,h2,h3,h4,h5,h6,h7⟩:=hE;refine⟨a,rv',c,rfl,h1,i2,h3,fun q hq e=>?_,h5,fun _ q hq=>kr q hq,h7⟩;rcases hq with hq | hq | hq
   ·exact h4 q (.inl hq) e
   ·have:=kr0 q hq;have:=(hA.blk e).2;omega
   ·exact h4 q (.inr (.inr hq)) e
  rw[k1] at z1;cases z1;unfold aIX;refine jR (v:=.undef) (S1:=Z) (hlast _ m1) (fun call=>?_) ?_
  ·rw[dD];simp only[fW,pA,pB,cB,hrc,aK];exact z4
  rw[iL];refine⟨?_,?_⟩
  ·simp only[Cn];exact hld _ _ _ m1
  ·simp only[cB,dR];have hbn:∀c,aT na≠some c→c≠nb:=fun c hc e=>hc (by rw[e];exact k2);refine hQ _ _ hk (by have:=sV.1;show X.nx≤Z.nx;omega) (fun c hc hn=>(z7 c (hbn c hn)).trans (sV.2 c hc)) (z5.move (Ag _) (fun _ _=>rfl) fun e y hE=>hE.move (Gc z6.symm) fun c _ hn=>z7 c (hbn c hn))
theorem aLw{ops:List AO}{S X:St}{F:Fr}{inr:Bool}{g4 i:Nat}{na jv ps:AV}{x:bU}{w p:Bool}{l:List (bU×Bool×Bool)}{Q:Out→bQ→St→Prop}(H:Has fns)(he:ops=aJf++aJk)(hA:kH 6 (NdV S X na) S X na l)(hS:S.nx≤X.nx)(hi:l[i]? =some (x,w,p))(hb:x.pay.length≤10000000)(p4:aD 4 F= .ptr g4 0)(p5:aD 5 F= .int .i64 (i:Int))(gg:X.h.get g4=some (.cells [ps,na,jv] false 0))(lg:g4<X.nx)(ng:aT na≠some g4)
  (hQ:∀F' Z,(∀j,j<34→aD j F'=aD j F)→X.nx≤Z.nx→(∀c,c<X.nx→aT na≠some c→Z.h.get c=X.h.get c)→kH 6 (NdV S Z na) S Z na (l.set i (x,w,true))→Q .normal ⟨F',inr⟩ Z):lJ fns (.drw ops) ⟨F,inr⟩ X Q:=by
 have hlen:ops.length=13:=by rw[he];rfl
 have d1:=fL gg;have sna:=hA.self;obtain⟨nb,o,k1,k2,k3,xv,k4,ix⟩:=hA.fieldV5 hi;have sxv:=cD.self ix;refine uV (W:=fun _=>False) (pre:=aJf) (suf:=aJk) (K:=12) (R:=fun F' V ps=>ps= []∧Same X V∧(∀j,j<34→aD j F'=aD j F)∧aD 57 F'= .ptr nb (o+5)∧∃rv',aD 55 F'=rv'∧cD .i64 V rv' x.pay∧∀c,aT rv'=some c→X.nx≤c) he rfl rfl (fun X1 x1 hh1 nn1=>?_) ?_
 ·unfold aJf;simp only[↓sU,sD,rE,↓reduceIte,rA,p4,p5,aE,aW,aF,d1,k1,k4,lg,k3,Ay,sna,sxv,aH];refine cP rfl ?_;refine am ?_;refine aP (qY H (ix.same x1) hb) ?_;rintro r Y1 ⟨i1,y1,kr,_⟩;refine⟨y1,?_⟩;simp only[↓sU,sD,rE,↓reduceIte,rA,p4,p5,aH,k1,aE,aW,aF,Ay];refine⟨x1.trans y1,fun j hj=>?_,r,rfl,i1,fun c hc=>by have:=kr c hc;have:=x1.1;omega⟩
  repeat rw[if_neg (by omega)]
 ·rintro F' V ps' hs' ls ⟨rfl,sV,hk,pA,rv',pB,i2,kr0⟩ hlast hld;have m1:∀i,i<12→Nat.testBit 4095 i=true:=by decide
  have hrc:rv'.cells=some [rv']:=cD.cells i2;have kr:∀q,aT rv'=some q→S.nx≤q:=fun q hq=>by have:=kr0 q hq;omega
  have bnb:=hA.blk k2;have hAV:kH 6 (NdV S V na) S V na l:=hA.move sV.1 (fun c hc=>sV.2 c (hA.blk hc).2) fun e y hE=>hE.move sV.1 fun c hc _=>sV.2 c hc;obtain⟨bb,pp,Z,z1,z2,z3,z4,z5,z6,z7⟩:=kH.fldU (E':=NdV S V na) (a':=(x,w,true)) (x:=rv') (q:=5) hAV hi (by decide) (fun _ _ _ _ _ h=>h) fun e hE=>by
   obtain⟨a,b,c,rfl,h1,h2,h3,h4,h5,h6,h7⟩:=hE;refine⟨a,b,rv',rfl,h1,h2,i2,fun q hq e=>?_,h5,h6,fun _ q hq=>kr q hq⟩;rcases hq with hq | hq | hq
   ·exact h4 q (.inl hq) e
   ·exact h4 q (.inr (.inl hq)) e
   ·have:=kr0 q hq;have:=(hA.blk e).2;omega
  rw[k1] at z1;cases z1;unfold aJk;refine jR (v:=.undef) (S1:=Z) (hlast _ m1) (fun call=>?_) ?_
  ·rw[dD];simp only[fW,pA,pB,cB,hrc,aK];exact z4
  rw[iL];refine⟨?_,?_⟩
  ·simp only[Cn];exact hld _ _ _ m1
  ·simp only[cB,dR];have hbn:∀c,aT na≠some c→c≠nb:=fun c hc e=>hc (by rw[e];exact k2);refine hQ _ _ hk (by have:=sV.1;show X.nx≤Z.nx;omega) (fun c hc hn=>(z7 c (hbn c hn)).trans (sV.2 c hc)) (z5.move (Ag _) (fun _ _=>rfl) fun e y hE=>hE.move (Gc z6.symm) fun c _ hn=>z7 c (hbn c hn))
def aH2(h:bH):Prop:=∃F C,jN (jD h) (htL (jD h)) F C∧F.map (lK (jD h) C)=h.nodes
open Classical in
noncomputable def aAO(h:bH):Int:=if pQ h then(if nM h 0≤2000 then(if iH (jD h)=0∧aH2 h then 0 else 3) else 5) else 3
open Classical in
noncomputable def aHr(h:bH):bH:=if aAO h=0 then jD h else⟨0,[],[]⟩
theorem aJC{h:bH}(hn:¬pQ h):aAO h=3:=by unfold aAO;rw[if_neg hn]
theorem aKq{h:bH}(hl:pQ h)(hn:¬nM h 0≤2000):aAO h=5:=by unfold aAO;rw[if_pos hl,if_neg hn]
theorem aHx{h:bH}(hl:pQ h)(hs:nM h 0≤2000)(hn:¬ (iH (jD h)=0∧aH2 h)):aAO h=3:=by unfold aAO;rw[if_pos hl,if_pos hs,if_neg hn]
theorem aJj{h:bH}(hl:pQ h)(hs:nM h 0≤2000)(hn:iH (jD h)=0∧aH2 h):aAO h=0:=by unfold aAO;rw[if_pos hl,if_pos hs,if_pos hn]
theorem xO{S X:St}:aNJ S X (.agg [.int .i64 0,.nilsl,.nilsl]) ⟨0,[],[]⟩:=fun _ _ _=>⟨_,_,rfl,.inl ⟨rfl,.inl rfl⟩,.inl ⟨rfl,.inl rfl⟩⟩
theorem aAq{h:bH}{e:Int}(he:aAO h=e)(hn:e≠0):aHr h=⟨0,[],[]⟩:=by unfold aHr;rw[if_neg (by rw[he];exact hn)]
def aBg(l:List bU)(i:Nat):List (bU×Bool×Bool):=(l.take i).map (fun x=>(x,true,true))++(l.drop i).map fun x=>(x,false,false)
theorem aKQ(l:List bU):aBg l 0=l.map fun x=>(x,false,false):=by unfold aBg;simp
theorem aMX(l:List bU):aBg l l.length=l.map fun x=>(x,true,true):=by unfold aBg;simp
theorem aNO{l:List bU}{i:Nat}{x:bU}(hx:l[i]? =some x):(aBg l i)[i]? =some (x,false,false)∧((aBg l i).set i (x,true,false))[i]? =some (x,true,false)∧((aBg l i).set i (x,true,false)).set i (x,true,true)=aBg l (i+1):=by
 have hi:=(Af.1 hx).1;have e:l.drop i=x::l.drop (i+1):=by
  rw[Di hi];congr 1;exact(Af.1 hx).2
 have h1:(aBg l i)=(l.take i).map (fun x=>(x,true,true))++(x,false,false)::(l.drop (i+1)).map fun x=>(x,false,false):=by
  unfold aBg;rw[e];rfl
 have hl:((l.take i).map fun x=>(x,true,true)).length=i:=by rw[Az,Cc];omega
 refine⟨?_,?_,?_⟩
 ·rw[h1,Aw (by omega),hl,Cu];rfl
 ·rw[Ef,if_pos rfl,if_pos];rw[h1,Ai,hl,Am];omega
 ·rw[List.set_set,h1,List.set_append_right _ _ (by omega),hl,Cu];unfold aBg;rw[Bw,hx,Dc,Ba];rfl
theorem kH.newG{S X:St}{na jv:AV}{p:Int}{l:List bU}{is:List mT}(h:kH 6 (NdV S X na) S X na (l.map fun x=>(x,true,true)))(hj:bB 2 fP X jv is)(hb:∀c,aT jv=some c→S.nx≤c):aNJ S X (.agg [.int .i64 p,na,jv]) ⟨p,l,is⟩:=fun X2 m2 k2=>by
 have lj:∀c,aT jv=some c→c<X.nx:=fun c hc=>by
  rcases hj with⟨_,rfl | rfl⟩ | ⟨b,off,cap,o,cs,rfl,_,hb,_⟩
  ·cases hc
  ·cases hc
  ·cases hc;exact hb
 refine⟨na,jv,rfl,?_,bB.moveB hj m2 (fun c hc=>k2 c (hb c hc) (lj c hc)) fun _ _ h=>h⟩;rcases h with⟨h0,h1⟩ | ⟨b,c,cs,e0,g1,g2,g3,g4,g5,g6,g7⟩
 ·exact .inl ⟨List.map_eq_nil_iff.1 h1,.inl h0⟩
 ·rw[Az] at e0 g1;refine .inr ⟨b,0,c,true,cs,e0,g1,Ah g4 m2,by unfold cL;rw[k2 b g3 g4,g5];rfl,fun i x hi=>?_⟩;obtain⟨e,e1,e2,x1,x2,x3,rfl,h1,h2,h3,_,h5,h6,h7⟩:=g7 i (x,true,true) (by rw[Be,hi];rfl);exact⟨_,e1,fun j y hj=>by rw[Ao];exact e2 j y hj,x1,x2,x3,rfl,eY h1 m2 fun q hq=>k2 q (h5 q hq) (dG h1 hq),eY h2 m2 fun q hq=>k2 q (h6 rfl q hq) (dG h2 hq),eY h3 m2 fun q hq=>k2 q (h7 rfl q hq) (dG h3 hq)⟩
def ClU(S X0:St)(ps na jv:AV)(rb g4:Nat)(l:List bU)(k:Nat)(A:bQ)(X:St):Prop:=A.inr=false∧X0.nx≤X.nx∧(∀c,c<X0.nx→aT na≠some c→X.h.get c=X0.h.get c)∧aD 2 A.F= .ptr rb 0∧aD 4 A.F= .ptr g4 0∧aD 30 A.F= .int .i64 ((l.length:Nat):Int)∧∃i,i+k=l.length∧aD 31 A.F= .int .i64 (i:Int)∧kH 6 (NdV S X na) S X na (aBg l i)
theorem aFY{S:St}{v:AV}{h:bH}(H:Has fns)(hv:nS S v h)(hT:aJB h)(hN:h.nodes.length≤100000)(h10:kA S):fR fns (.fn 19 [] []) [v] S fun r X=>∃gv,r= .tup [gv,.int .i64 (aAO h)]∧Same S X∧aNJ S X gv (aHr h):=by
 have hv0:=hv;obtain⟨nv,iv,rfl,hn,hi⟩:=hv;have hB:∀i,i<h.nodes.length→(nodeAt h i).next.length≤140737488355328:=fun i hi=>by
  have:=(hT.2 _ (Aq (dI hi))).1;omega
 refine cE H.f19 (by simp) ?_;refine ah ?_;refine cC ?_;refine eH (by simp only[↓aA,aB,rE,↓reduceIte];exact bM _) ?_;intro S1 s1 n1 c1;refine cR ?_;intro S2 s2 n2 c2;simp only[↓aA,aB,rE,↓reduceIte,rA];have s12:=s1.trans s2;have g2:=(s2.2 _ (show S.nx<S1.nx by omega)).trans c1;have lagg:dB (.ptr S.nx 0) true 3 S2.h=some (.agg [.int .i64 h.players,nv,iv]):=lQ g2;refine iP ?_;simp only[↓aA,aB,rE,↓reduceIte,rA,lagg];refine aY ?_;refine ah ?_;refine aP (aFS H (bB.same (E:=dJ) cT hn s12) hN hB) ?_;rintro _ Y ⟨⟨t,rfl,ht⟩,sY⟩;have gY:=(sY.2 _ (show S.nx<S2.nx by omega)).trans g2;have rY:=(sY.2 _ (show S1.nx<S2.nx by omega)).trans c2;have sSY:=s12.trans sY;have nY:=sY.1;simp only[↓aA,aB,rE,↓reduceIte,rA,fQ];by_cases hl:pQ h;rotate_left
 ·obtain rfl:t=false:=by
   cases t with
   | false=>rfl
   | true=>exact absurd (ht.1 rfl) hl
  refine aR (by simp only[↓aA,aB,rE,↓reduceIte,rA,Bx]) (aC (aG ?_));simp only[↓aA,aB,rE,↓reduceIte,rA,aMV];refine fC (b:=S1.nx) (cs':=[.int .i64 0,.nilsl,.nilsl]) (ai) (by simp only[↓aA,aB,rE,↓reduceIte,rA];exact bM _) rY rfl rfl ?_;intro X x nx gx;refine ah ?_;refine aU ?_;simp only[↓aA,aB,rE,↓reduceIte,rA,fZ,ld3 gx];have he:=aJC hl;rw[he,aAq he (by decide)];exact⟨_,rfl,x.same sSY (by omega),xO⟩
 obtain rfl:t=true:=ht.2 hl;refine aO (by simp only[↓aA,aB,rE,↓reduceIte,rA,Bp]) (aM ?_);try simp only[↓aA,aB,rE,↓reduceIte,rA]
 have lagg:dB (.ptr S.nx 0) true 3 Y.h=some (.agg [.int .i64 h.players,nv,iv]):=lQ gY;refine iP ?_;simp only[↓aA,aB,rE,↓reduceIte,rA,lagg];refine aY ?_;refine ah ?_;refine aP (aHY H hl (bB.same (E:=dJ) cT hn sSY) hN hB) ?_;rintro _ Z ⟨rfl,sZ⟩;have gZ:=(sZ.2 _ (show S.nx<Y.nx by omega)).trans gY;have rZ:=(sZ.2 _ (show S1.nx<Y.nx by omega)).trans rY;have sSZ:=sSY.trans sZ;have nZ:=sZ.1;simp only[↓aA,aB,rE,↓reduceIte,rA];by_cases hs:nM h 0≤2000;rotate_left
 ·have hc:sN (nM h 0)>2000:=by unfold sN;rw[if_neg hs];decide
  refine aR (by simp only[↓aA,aB,rE,↓reduceIte,rA];exact Dh _ (Ad hc)) (aC (aG ?_));simp only[↓aA,aB,rE,↓reduceIte,rA,aMV];refine fC (b:=S1.nx) (cs':=[.int .i64 0,.nilsl,.nilsl]) (ai) (by simp only[↓aA,aB,rE,↓reduceIte,rA];exact bM _) rZ rfl rfl ?_;intro X x nx gx;refine ah ?_;refine aU ?_;simp only[↓aA,aB,rE,↓reduceIte,rA,fZ,ld3 gx];have he:=aKq hl hs;rw[he,aAq he (by decide)];exact⟨_,rfl,x.same sSZ (by omega),xO⟩
 have hc:¬sN (nM h 0)>2000:=by unfold sN;rw[if_pos hs];omega
 refine aO (by simp only[↓aA,aB,rE,↓reduceIte,rA];exact Dh _ (Aa hc)) (aM ?_);try simp only[↓aA,aB,rE,↓reduceIte,rA]
 have lagg:dB (.ptr S.nx 0) true 3 Z.h=some (.agg [.int .i64 h.players,nv,iv]):=lQ gZ;refine cC ?_;simp only[↓aA,aB,rE,↓reduceIte,rA,lagg];refine aY ?_;refine ah ?_;refine aP (aC3 H hl (hv0.same sSZ) hT hN (by omega)) ?_;rintro _ V ⟨sV,na,jv,rfl,hA,hj,hjb⟩;have nV:=sV.1;have gV:=(sV.2 _ (show S.nx<Z.nx by omega)).trans gZ;have rV:=(sV.2 _ (show S1.nx<Z.nx by omega)).trans rZ;have sSV:=sSZ.trans sV;try simp only[↓aA,aB,rE,↓reduceIte,rA]
 refine cR ?_;intro V1 v1 m1 d1;try simp only[↓aA,aB,rE,↓reduceIte,rA]
 refine fC (b:=V.nx) (cs':=[.int .i64 h.players,na,jv]) (ai) (by simp only[↓aA,aB,rE,↓reduceIte,rA];exact bM _) d1 rfl rfl ?_;intro V2 v2 m2 d2;simp only[↓aA,aB,rE,↓reduceIte,rA];have vv:Same V V2:=v2.same v1 (Ag _);have hA2:kH 6 (NdV Z V2 na) Z V2 na ((jD h).nodes.map fun x=>(x,false,false)):=hA.move vv.1 (fun c hc=>vv.2 c (hA.blk hc).2) fun e y hE=>hE.move vv.1 fun c hc _=>vv.2 c hc;have hj2:=bB.same (E:=fP) fO hj vv;have g4:=(vv.2 _ (show S.nx<V.nx by omega)).trans gV;have r4:=(vv.2 _ (show S1.nx<V.nx by omega)).trans rV;have sS2:=sSV.trans vv;have hGn:bB 6 dJ V2 na (jD h).nodes:=by
  rcases hA2 with⟨h0,h1⟩ | ⟨b,c,cs,e0,g1,g2,g3,g4,g5,g6,g7⟩
  ·exact .inl ⟨List.map_eq_nil_iff.1 h1,.inl h0⟩
  ·rw[Az] at e0 g1;refine .inr ⟨b,0,c,true,cs,e0,g1,g4,by unfold cL;rw[g5];rfl,fun i x hi=>?_⟩;obtain⟨e,e1,e2,x1,x2,x3,rfl,h1,h2,h3,_⟩:=g7 i (x,false,false) (by rw[Be,hi];rfl);exact⟨_,e1,fun j y hj=>by rw[Ao];exact e2 j y hj,x1,x2,x3,rfl,h1,h2,h3⟩
 have hGl:(jD h).nodes.length≤100000:=by rw[aG8];omega
 have lagg:dB (.ptr V.nx 0) true 3 V2.h=some (.agg [.int .i64 h.players,na,jv]):=lQ d2;refine iP ?_;simp only[↓aA,aB,rE,↓reduceIte,rA,lagg];refine aY ?_;refine ah ?_;refine aP (aEV (g:=jD h) H hGn hj2 hGl) ?_;rintro _ W ⟨rfl,sW⟩;have nW:=sW.1;have dW:=(sW.2 _ (show V.nx<V2.nx by omega)).trans d2;have gW:=(sW.2 _ (show S.nx<V2.nx by omega)).trans g4;have rW:=(sW.2 _ (show S1.nx<V2.nx by omega)).trans r4;have sSW:=sS2.trans sW;simp only[↓aA,aB,rE,↓reduceIte,rA];by_cases hf:iH (jD h)=0;rotate_left
 ·refine aR (by simp only[↓aA,aB,rE,↓reduceIte,rA];exact Dh _ (Ad hf)) (aC (aG ?_));simp only[↓aA,aB,rE,↓reduceIte,rA,aMV];refine fC (b:=S1.nx) (cs':=[.int .i64 0,.nilsl,.nilsl]) (ai) (by simp only[↓aA,aB,rE,↓reduceIte,rA];exact bM _) rW rfl rfl ?_;intro X x nx gx;refine ah ?_;refine aU ?_;simp only[↓aA,aB,rE,↓reduceIte,rA,fZ,ld3 gx];have he:=aHx hl hs fun e=>hf e.1;rw[he,aAq he (by decide)];exact⟨_,rfl,x.same sSW (by omega),xO⟩
 refine aO (by simp only[↓aA,aB,rE,↓reduceIte,rA];exact Dh _ (Aa fun e=>e hf)) (aM ?_);try simp only[↓aA,aB,rE,↓reduceIte,rA]
 have G:=uF hf;have hGW:nS W (.agg [.int .i64 (jD h).players,na,jv]) (jD h):=⟨na,jv,rfl,bB.same (E:=dJ) cT hGn sW,bB.same (E:=fP) fO hj2 sW⟩;have lW:V.nx<W.nx:=by omega
 have sagg:cM (.agg [.int .i64 h.players,na,jv]) (.agg [.int .i64 h.players,na,jv])=true:=aJK (fV ..) (bB.self hGn) (bB.self hj2);have laggW:dB (.ptr V.nx 0) true 3 W.h=some (.agg [.int .i64 h.players,na,jv]):=lQ dW;have lgW:S.nx<W.nx:=by omega
 have snv:=bB.self hn;refine aC (bD (Q:=fun o A' X=>(o= .normal∧A'.inr=false∧Same W X∧aH2 h∧aD 2 A'.F= .ptr S1.nx 0∧aD 4 A'.F= .ptr V.nx 0)∨(o= .ret∧¬aH2 h∧Same S X∧aD 3 A'.F= .int .i64 3∧aD 2 A'.F= .ptr S1.nx 0∧X.h.get S1.nx=some (.cells [.int .i64 0,.nilsl,.nilsl] false 0))) (aC (qE (fun _=>False) ?_)) ?_)
 ·intro W1 w1 hW1 nW1;simp only[↓sU,sD,rE,↓reduceIte,rA,laggW,aE,aW,aF,lW,Ay,sagg];refine cP rfl ?_;refine am ?_;refine aP (aBX H G (h10.same (sSW.trans w1)) (fun i hi=>(wO hf i hi).1) (fun i hi=>(wO hf i hi).2) (hGW.same w1)) ?_;rintro r W2 ⟨w2,F,C,hC,hNew⟩;refine⟨w2,?_⟩;obtain⟨mn,mi,rfl,k1,k2⟩:=hNew W2 (Ag _) fun _ _ _=>rfl;have hm:(hJ (jD h) F C).nodes=h.nodes↔aH2 h:=by
   constructor
   ·intro e;exact⟨F,C,hC,e⟩
   ·rintro⟨F',C',hC',e⟩;obtain⟨rfl,rfl⟩:=aIr (iW G) hC hC';exact e
  have hln:(hJ (jD h) F C).nodes.length≤100000:=by
   show(F.map _).length≤_;rw[Az,hC.perm.length_eq];have:=qA (jD h) (jD h).nodes.length;unfold nF at this;omega
  have hbd:∀x∈(hJ (jD h) F C).nodes,x.next.length≤10000000∧x.weights.length≤10000000∧x.pay.length≤10000000:=fun x hx=>by
   obtain⟨q,hq,rfl⟩:=Dz.1 hx;have hql:=(hC.mem hq).1;have a1:=G.nxt q hql;have a2:=(wO hf q hql).2;have a3:=G.pay q hql;refine⟨?_,?_,?_⟩
   ·show((nodeAt (jD h) q).next.map _).length≤_;rw[Az];omega
   ·show(nodeAt (jD h) q).weights.length≤_;omega
   ·show(nodeAt (jD h) q).pay.length≤_;omega
  have h1:aHW (.agg [.int .i64 (hJ (jD h) F C).players,mn,mi]) false 1 1=some mn:=rfl;simp only[↓sU,sD,rE,↓reduceIte,rA,h1,aE,aW,aF,fL gW,lgW,Ay,snv];refine cP rfl ?_;simp only[↓sU,sD,rE,↓reduceIte,rA];have sSW2:=(sSW.trans w1).trans w2;refine aP (aFT H k1 (bB.same (E:=dJ) cT hn sSW2) hln hbd) ?_;rintro _ W3 ⟨⟨t,rfl,ht⟩,w3⟩;refine⟨w3,?_⟩;simp only[↓sU,sD,rE,↓reduceIte,rA,aFG,xB,fQ];have sW3:=(w1.trans w2).trans w3;have hiff:=ht.trans hm;cases t with
  | true=>
   refine aO (by simp only[↓sU,sD,rE,↓reduceIte,rA,Bp]) (aM ?_);exact .inl ⟨rfl,rfl,sW3,hiff.1 rfl,by refine⟨?_,?_⟩<;>simp only[↓sU,sD,rE,↓reduceIte,rA]⟩
  | false=>
   have rX:=(sW3.2 _ (show S1.nx<W.nx by omega)).trans rW;refine aR (by simp only[↓sU,sD,rE,↓reduceIte,rA,Bx]) (aC (aG ?_));simp only[↓aA,aB,rE,↓reduceIte,rA,aMV];refine fC (b:=S1.nx) (cs':=[.int .i64 0,.nilsl,.nilsl]) (ai) (by simp only[↓aA,aB,rE,↓reduceIte,rA];exact bM _) rX rfl rfl ?_;intro X x nx gx;refine ah ?_;refine aU ?_;refine .inr ⟨rfl,fun e=>absurd (hiff.2 e) (by decide),x.same (sSW.trans sW3) (by omega),ai,ai,gx⟩
 rintro o ⟨F,inr⟩ X (⟨rfl,q0,sX,hm,p2,p4⟩ | ⟨rfl,hm,sX,p3,p2,gX⟩);rotate_left
 ·simp only at p2 p3;have he:=aHx hl hs fun e=>hm e.2;simp only[↓aA,aB,rE,↓reduceIte,rA,p2,p3,fZ,ld3 gX];rw[he,aAq he (by decide)];exact⟨_,rfl,sX,xO⟩
 simp only at q0 p2 p4;subst q0;have he:=aJj hl hs ⟨hf,hm⟩;have ho:aHr h=jD h:=by unfold aHr;rw[if_pos he]
 have s2X:=sW.trans sX;have hAX:kH 6 (NdV Z X na) Z X na (aBg (jD h).nodes 0):=by
  rw[aKQ];exact hA2.move s2X.1 (fun c hc=>s2X.2 c (hA2.blk hc).2) fun e y hE=>hE.move s2X.1 fun c hc _=>s2X.2 c hc
 have dX:=(sX.2 _ lW).trans dW;have rX:=(sX.2 _ (show S1.nx<W.nx by omega)).trans rW;have nX:=sX.1;have lgX:V.nx<X.nx:=by omega
 have nbl:∀c,c<Z.nx→aT na≠some c:=fun c hc e=>by have:=(hA2.blk e).1;omega
 have nb4:aT na≠some V.nx:=fun e=>by have:=(hA.blk e).2;omega
 have lnn:lH na=some (.int .i64 (((jD h).nodes.length:Nat):Int)):=bB.len hGn;have lob:=fL dX;try simp only[↓aA,aB,rE,↓reduceIte,rA]
 refine aC (bD (Q:=fun o A' U=>o= .normal∧ClU Z X (.int .i64 h.players) na jv S1.nx V.nx (jD h).nodes 0 A' U) (aC (aG ?_)) ?_)
 ·simp only[↓aA,aB,rE,↓reduceIte,rA,p4,aE,aF,lob,lnn];refine aN (bT (ClU Z X (.int .i64 h.players) na jv S1.nx V.nx (jD h).nodes) ?_ (jD h).nodes.length _ _ ⟨rfl,Ag _,fun _ _ _=>rfl,aj p2,aj p4,ai,0,by omega,ai,hAX⟩);clear p2 p4 hAX;rintro k ⟨F,inr⟩ U ⟨q0,nU,kU,p2,p4,p30,i,hik,p31,hU⟩;simp only at q0 p2 p4 p30 p31;subst q0;refine cC ?_;simp only[↓aA,aB,rE,↓reduceIte,rA,p30,p31,zV];by_cases hlt:i<(jD h).nodes.length;rotate_left
  ·refine aC (aO (by simp only[↓aA,aB,rE,↓reduceIte,rA,Aa hlt]) (bK ?_));obtain rfl:k=0:=by omega
   exact⟨rfl,rfl,nU,kU,aj p2,aj p4,aj p30,i,hik,aj p31,hU⟩
  refine aC (aR (by simp only[↓aA,aB,rE,↓reduceIte,rA,Ad hlt]) (aM ?_));try simp only[↓aA,aB,rE,↓reduceIte,rA]
  obtain⟨x,hx⟩:∃x,(jD h).nodes[i]? =some x:=⟨_,Ab hlt⟩;have ex:nodeAt (jD h) i=x:=nO hx;obtain⟨a1,a2,a3⟩:=aNO hx;have bw:=(wO hf i hlt).2;have bp:=G.pay i hlt;rw[ex] at bw bp;have dU:=(kU _ lgX nb4).trans dX;have l4U:V.nx<U.nx:=by omega
  refine aC (aN (aC (aG ?_)));simp only[↓aA,aB,rE,↓reduceIte,rA,p31];refine aC (aMQ H rfl hU (by have:=sV.1;omega) a1 (by omega) (aj p4) (ai) dU l4U nb4 ?_);intro F1 U1 hk1 nU1 kU1 hU1;have dU1:=(kU1 _ l4U nb4).trans dU;have e2:=(hk1 2 (by omega)).trans (show _=AV.ptr S1.nx 0 by simp only[↓aA,aB,rE,↓reduceIte,rA,p2]);have e4:=(hk1 4 (by omega)).trans (show _=AV.ptr V.nx 0 by simp only[↓aA,aB,rE,↓reduceIte,rA,p4]);have e5:=(hk1 5 (by omega)).trans (show _=AV.int .i64 (i:Int) by simp only[↓aA,aB,rE,↓reduceIte,rA]);have e30:=(hk1 30 (by omega)).trans (show _=AV.int .i64 (((jD h).nodes.length:Nat):Int) by simp only[↓aA,aB,rE,↓reduceIte,rA,p30]);have e31:=(hk1 31 (by omega)).trans (show _=AV.int .i64 (i:Int) by simp only[↓aA,aB,rE,↓reduceIte,rA,p31]);try simp only[↓aA,aB,rE,↓reduceIte,rA]
  refine aLw H rfl hU1 (by have:=sV.1;omega) a2 (by omega) e4 e5 dU1 (by omega) nb4 ?_;intro F2 U2 hk2 nU2 kU2 hU2;rw[a3] at hU2;have f31:=(hk2 31 (by omega)).trans e31;try simp only[↓aA,aB,rE,↓reduceIte,rA]
  refine aG ?_;simp only[↓aA,aB,rE,↓reduceIte,rA,f31,fA (a:=i) (by omega)];exact⟨k - 1,by omega,rfl,by omega,fun c hc hn=>(kU2 c (by omega) hn).trans ((kU1 c (by omega) hn).trans (kU c hc hn)),by simp only[↓aA,aB,rE,↓reduceIte,rA,(hk2 2 (by omega)).trans e2],by simp only[↓aA,aB,rE,↓reduceIte,rA,(hk2 4 (by omega)).trans e4],by simp only[↓aA,aB,rE,↓reduceIte,rA,(hk2 30 (by omega)).trans e30],i+1,by omega,ai,hU2⟩
 rintro o ⟨F,inr⟩ U ⟨rfl,q0,nU,kU,p2,p4,p30,i,hik,p31,hU⟩;simp only at q0 p2 p4;subst q0;obtain rfl:i=(jD h).nodes.length:=by omega
 rw[aMX] at hU;have dU:=(kU _ lgX nb4).trans dX;have rU:=(kU _ (by omega) (nbl _ (by omega))).trans rX;have lU:dB (.ptr V.nx 0) true 3 U.h=some (.agg [.int .i64 h.players,na,jv]):=lQ dU;try simp only[↓aA,aB,rE,↓reduceIte,rA]
 refine cC ?_;simp only[↓aA,aB,rE,↓reduceIte,rA,p2,p4,lU];refine fC (b:=S1.nx) (cs':=[.int .i64 h.players,na,jv]) (aj p2) (by simp only[↓aA,aB,rE,↓reduceIte,rA];exact bM _) rU rfl rfl ?_;intro K x nk gk;refine ah ?_;refine aU ?_;simp only[↓aA,aB,rE,↓reduceIte,rA,p2,fZ,ld3 gk];rw[he,ho];have kSX:Same S X:=(sSW.trans sX);have sSU:Same S U:=⟨Ap kSX.1 nU,fun c hc=>(kU c (by have:=kSX.1;omega) (nbl c (by have:=sSZ.1;omega))).trans (kSX.2 c hc)⟩;have nK:=x.1;have hjU:bB 2 fP U jv h.infos:=by
  have hjl:∀c,aT jv=some c→c<V.nx:=fun c hc=>by
   rcases hj with⟨_,rfl | rfl⟩ | ⟨b,off,cap,o,cs,rfl,_,hb,_⟩
   ·cases hc
   ·cases hc
   ·cases hc;exact hb
  refine bB.moveB hj (by omega) (fun c hc=>?_) fun _ _ h=>h;have h1:=hjl c hc;obtain⟨h2,h3⟩:=hjb c hc;rw[kU c (by omega) h3,sX.2 c (by omega),sW.2 c (by omega),vv.2 c h1]
 have hN:=kH.newG (p:=h.players) hU hjU fun c hc=>(hjb c hc).1;exact⟨_,rfl,x.same sSU (by omega),fun X2 m2 k2=>hN X2 (by omega) fun c h1 h2=>(k2 c (by have:=sSZ.1;omega) (by omega)).trans (x.2 c h2 (by omega))⟩
end Go.Ev.Gl
