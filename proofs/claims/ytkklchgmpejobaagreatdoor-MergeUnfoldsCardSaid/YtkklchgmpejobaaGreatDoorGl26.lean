import Derived.Test.YtkklchgmpejobaaGreatDoorGl25
open Nat renaming reduceEqDiff → rE, reduceAdd → rA
set_option maxHeartbeats 16000000
set_option linter.unusedSimpArgs false
set_option linter.unusedVariables false
namespace Go.Ev.Gl
variable {fns:T cW}
theorem aEG{x y:bO}(h1:x.kind=y.kind)(h2:x.player=y.player)(h3:x.info=y.info)(h4:x.next=y.next)(h5:x.weights=y.weights)(h6:x.pay=y.pay):x=y:=by
 cases x;cases y;simp only at h1 h2 h3 h4 h5 h6;rw[h1,h2,h3,h4,h5,h6]
theorem aGy{S:St}{a b c a' b' c':AV}{x y:bO}(H:Has fns)(x1:bI .i64 S a x.next)(x2:bI .i64 S b x.weights)(x3:bI .i64 S c x.pay)(y1:bI .i64 S a' y.next)(y2:bI .i64 S b' y.weights)(y3:bI .i64 S c' y.pay)(l1:x.next.length≤10000000)(l2:x.weights.length≤10000000)(l3:x.pay.length≤10000000):
  fB fns (.fn 39 [] []) [.agg [.int .i64 x.kind,.int .i64 x.player,.int .i64 x.info,a,b,c],.agg [.int .i64 y.kind,.int .i64 y.player,.int .i64 y.info,a',b',c']] S fun r X=>(∃t,r= .bool t∧(t=true↔x=y))∧Same S X:=by
 refine bN H.f39 (by simp) ?_;simp only[↓aB,aA,rE,↓reduceIte,rA];refine bL ?_;refine cL (by simp only[↓aB,aA,rE,↓reduceIte,rA];exact bE _) ?_;intro S1 s1 n1 c1;simp only[↓aB,aA,rE,↓reduceIte,rA];refine cL (by simp only[↓aB,aA,rE,↓reduceIte,rA];exact bE _) ?_;intro S2 s2 n2 c2;simp only[↓aB,aA,rE,↓reduceIte,rA];have s12:=s1.trans s2;have d1:=(s2.2 _ (show S.nx<S1.nx by omega)).trans c1;have no:∀ {p:Prop},p→(x=y→¬p)→(false=true↔x=y):=fun {p} hp hn=>⟨(fun e=>by cases e),fun e=>absurd hp (hn e)⟩;refine bL ?_;by_cases h1:x.kind=y.kind;rotate_left
 ·simp only[↓aB,aA,rE,↓reduceIte,rA,aE,aD,eB d1,eB c2,Aa h1];refine aR ?_;simp only[↓aB,aA,rE,↓reduceIte,rA];exact⟨⟨false,rfl,no h1 fun e h=>h (by rw[e])⟩,s12⟩
 by_cases h2:x.player=y.player;rotate_left
 ·simp only[↓aB,aA,rE,↓reduceIte,rA,aE,aD,eB d1,eB c2,cO d1,cO c2,Ab h1,Aa h2];refine aR ?_;simp only[↓aB,aA,rE,↓reduceIte,rA];exact⟨⟨false,rfl,no h2 fun e h=>h (by rw[e])⟩,s12⟩
 by_cases h3:x.info=y.info;rotate_left
 ·simp only[↓aB,aA,rE,↓reduceIte,rA,aE,aD,eB d1,eB c2,cO d1,cO c2,cP d1,cP c2,Ab h1,Ab h2,Aa h3];refine aR ?_;simp only[↓aB,aA,rE,↓reduceIte,rA];exact⟨⟨false,rfl,no h3 fun e h=>h (by rw[e])⟩,s12⟩
 simp only[↓aB,aA,rE,↓reduceIte,rA,aE,aD,eB d1,eB c2,cO d1,cO c2,cP d1,cP c2,dD d1,dD c2,Ab h1,Ab h2,Ab h3];refine aY ?_;simp only[↓aB,aA,rE,↓reduceIte,rA];refine aO (aAr H (x1.same s12) (y1.same s12) l1) ?_;rintro _ Y ⟨rfl,sY⟩;have s3:=s12.trans sY;have d3:=(sY.2 _ (show S.nx<S2.nx by omega)).trans d1;have e3:=(sY.2 _ (show S1.nx<S2.nx by omega)).trans c2;by_cases h4:x.next=y.next;rotate_left
 ·simp only[↓aB,aA,rE,↓reduceIte,rA,Aa h4];refine aR ?_;simp only[↓aB,aA,rE,↓reduceIte,rA];exact⟨⟨false,rfl,no h4 fun e h=>h (by rw[e])⟩,s3⟩
 simp only[↓aB,aA,rE,↓reduceIte,rA,aE,aD,dH d3,dH e3,Ab h4];refine aY ?_;simp only[↓aB,aA,rE,↓reduceIte,rA];refine aO (aAr H (x2.same s3) (y2.same s3) l2) ?_;rintro _ Z ⟨rfl,sZ⟩;have s4:=s3.trans sZ;have nY:=sY.1;have d4:=(sZ.2 _ (show S.nx<Y.nx by omega)).trans d3;have e4:=(sZ.2 _ (show S1.nx<Y.nx by omega)).trans e3;by_cases h5:x.weights=y.weights;rotate_left
 ·simp only[↓aB,aA,rE,↓reduceIte,rA,Aa h5];refine aR ?_;simp only[↓aB,aA,rE,↓reduceIte,rA];exact⟨⟨false,rfl,no h5 fun e h=>h (by rw[e])⟩,s4⟩
 simp only[↓aB,aA,rE,↓reduceIte,rA,aE,aD,dE d4,dE e4,Ab h5];refine aY ?_;simp only[↓aB,aA,rE,↓reduceIte,rA];refine aO (aAr H (x3.same s4) (y3.same s4) l3) ?_;rintro _ V ⟨rfl,sV⟩;by_cases h6:x.pay=y.pay
 ·simp only[↓aB,aA,rE,↓reduceIte,rA,Ab h6];refine aR ?_;simp only[↓aB,aA,rE,↓reduceIte,rA];exact⟨⟨true,rfl,fun _=>aEG h1 h2 h3 h4 h5 h6,fun _=>rfl⟩,s4.trans sV⟩
 ·simp only[↓aB,aA,rE,↓reduceIte,rA,Aa h6];refine aR ?_;simp only[↓aB,aA,rE,↓reduceIte,rA];exact⟨⟨false,rfl,no h6 fun e h=>h (by rw[e])⟩,s4.trans sV⟩
def aPh(S:St)(av bv:AV)(l m:List bO)(k:Nat)(A:bH)(X:St):Prop:=A.inr=false∧Same S X∧∃i,i+k=l.length∧l.take i=m.take i∧aH 0 A.F=av∧aH 1 A.F=bv∧aH 2 A.F= .fn 39 [] []∧aH 15 A.F=av∧aH 16 A.F= .int .i64 ((l.length:Nat):Int)∧aH 17 A.F= .int .i64 (i:Int)
theorem aDH{l m:List bO}(hlm:l.length=m.length){i:Nat}(hi:i<l.length):l.take (i+1)=m.take (i+1)↔l.take i=m.take i∧l[i]? =m[i]? :=by
 rw[Bn,Bn,Ad hi,Ad (show i<m.length by omega)];simp only[Option.toList_some,Ak];constructor
 ·intro h;have h1:=List.append_inj h (by rw[Bs,Bs];omega);exact⟨h1.1,by simpa using h1.2⟩
 ·rintro⟨h1,h2⟩;rw[h1,h2]
theorem aFL{S:St}{av bv:AV}{l m:List bO}(H:Has fns)(ha:aQ 6 cC S av l)(hb:aQ 6 cC S bv m)(hl:l.length≤100000)(hB:∀x∈l,x.next.length≤10000000∧x.weights.length≤10000000∧x.pay.length≤10000000):
  fB fns (.fn 38 [] []) [av,bv,.fn 39 [] []] S fun r X=>(∃t,r= .bool t∧(t=true↔l=m))∧Same S X:=by
 refine bN H.f38 (by simp) ?_;simp only[↓aB,aA,rE,↓reduceIte,rA];refine bL ?_;simp only[↓aB,aA,rE,↓reduceIte,rA];have la:=aQ.len ha;have lb:=aQ.len hb;refine fY ?_;simp only[↓aB,aA,rE,↓reduceIte,rA,la,lb];by_cases hlm:l.length=m.length;rotate_left
 ·refine aN (by simp only[↓aB,aA,rE,↓reduceIte,rA];exact Ce _ (Ab (by omega))) (aC (aF ?_));simp only[↓aB,aA,rE,↓reduceIte,rA];refine aR ?_;simp only[↓aB,aA,rE,↓reduceIte,rA];exact⟨⟨false,rfl,(fun e=>by cases e),fun e=>absurd (by rw[e]) hlm⟩,Same.refl _⟩
 refine aL (by simp only[↓aB,aA,rE,↓reduceIte,rA];exact Ce _ (Aa (by omega))) (aI ?_);try simp only[↓aB,aA,rE,↓reduceIte,rA]
 refine aC (aT (Q:=fun o A' X=>(o= .normal∧aPh S av bv l m 0 A' X)∨(o= .ret∧Same S X∧l≠m∧aH 6 A'.F= .bool false)) (aC (aF ?_)) ?_)
 ·simp only[↓aB,aA,rE,↓reduceIte,rA,la];refine aK (bG (aPh S av bv l m) ?_ l.length _ _ ⟨rfl,Same.refl _,0,by omega,rfl,by refine⟨?_,?_,?_,?_,?_,?_⟩<;>simp only[↓aB,aA,rE,↓reduceIte,rA]⟩);rintro k ⟨F,inr⟩ X ⟨q0,hX,i,hik,he,p0,p1,p2,p15,p16,p17⟩;simp only at q0 p0 p1 p2 p15 p16 p17;subst q0;refine bL ?_;simp only[↓aB,aA,rE,↓reduceIte,rA,p16,p17,qT];by_cases hlt:i<l.length;rotate_left
  ·refine aC (aL (by simp only[↓aB,aA,rE,↓reduceIte,rA,Aa hlt]) (bD ?_));obtain rfl:k=0:=by omega
   exact .inl ⟨rfl,rfl,hX,i,hik,he,by refine⟨?_,?_,?_,?_,?_,?_⟩<;>simp only[↓aB,aA,rE,↓reduceIte,rA,p0,p1,p2,p15,p16,p17]⟩
  refine aC (aN (by simp only[↓aB,aA,rE,↓reduceIte,rA,Ab hlt]) (aI ?_));try simp only[↓aB,aA,rE,↓reduceIte,rA]
  obtain⟨x,hx⟩:∃x,l[i]? =some x:=⟨_,Ad hlt⟩;obtain⟨y,hy⟩:∃y,m[i]? =some y:=⟨_,Ad (show i<m.length by omega)⟩;obtain⟨_,b1,q1,i1,lt1,_,⟨a,b,c,rfl,x1,x2,x3⟩,d1,_⟩:=aQ.at (aQ.same (E:=cC) bR ha hX) (by decide) hx;obtain⟨_,b2,q2,i2,lt2,_,⟨a',b',c',rfl,y1,y2,y3⟩,d2,_⟩:=aQ.at (aQ.same (E:=cC) bR hb hX) (by decide) hy;obtain⟨u1,u2,u3⟩:=hB x (Ao hx);refine aC (aK (aC (aF ?_)));simp only[↓aB,aA,rE,↓reduceIte,rA,p15,p17,aG,i1,d1];refine cD ?_;intro X1 t1 m1 g1;simp only[↓aB,aA,rE,↓reduceIte,rA];refine eF (b:=X.nx) (by simp only[↓aB,aA,rE,↓reduceIte,rA]) (by simp only[↓aB,aA,rE,↓reduceIte,rA];exact bE _) g1 rfl rfl ?_;intro X2 t2 m2 g2;simp only[↓aB,aA,rE,↓reduceIte,rA];have sX2:Same X X2:=t2.same t1 (Ah _);have d2':=(mC sX2 lt2).trans d2;refine bL ?_;simp only[↓aB,aA,rE,↓reduceIte,rA,p1,p17,aG,i2,d2'];refine cD ?_;intro X3 t3 m3 g3;try simp only[↓aB,aA,rE,↓reduceIte,rA]
  refine eF (b:=X2.nx) (by simp only[↓aB,aA,rE,↓reduceIte,rA]) (by simp only[↓aB,aA,rE,↓reduceIte,rA];exact bE _) g3 rfl rfl ?_;intro X4 t4 m4 g4;simp only[↓aB,aA,rE,↓reduceIte,rA];have sX4:Same X2 X4:=t4.same t3 (Ah _);have g2':=(sX4.2 _ (show X.nx<X2.nx by omega)).trans g2;have sX:=sX2.trans sX4;refine bL ?_;simp only[↓aB,aA,rE,↓reduceIte,rA,p2,ldN g2',ldN g4];refine aY ?_;simp only[↓aB,aA,rE,↓reduceIte,rA];refine aO (aGy H (x1.same sX) (x2.same sX) (x3.same sX) (y1.same sX) (y2.same sX) (y3.same sX) u1 u2 u3) ?_;rintro _ Y ⟨⟨t,rfl,ht⟩,sY⟩;have sXY:=hX.trans (sX.trans sY);simp only[↓aB,aA,rE,↓reduceIte,rA,eC];cases t with
  | true=>
   refine aL (by simp only[↓aB,aA,rE,↓reduceIte,rA,Bd]) (aI ?_);try simp only[↓aB,aA,rE,↓reduceIte,rA]
   refine aF ?_;simp only[↓aB,aA,rE,↓reduceIte,rA,p17,dL (a:=i) (by omega)];exact⟨k - 1,by omega,rfl,sXY,i+1,by omega,(aDH hlm hlt).2 ⟨he,by rw[hx,hy,ht.1 rfl]⟩,by refine⟨?_,?_,?_,?_,?_,?_⟩<;>simp only[↓aB,aA,rE,↓reduceIte,rA,p0,p1,p2,p15,p16]⟩
  | false=>
   refine aN (by simp only[↓aB,aA,rE,↓reduceIte,rA,Bk]) (aC (aF ?_));simp only[↓aB,aA,rE,↓reduceIte,rA];refine aR ?_;refine .inr ⟨rfl,sXY,fun e=>?_,by simp only[↓aB,aA,rE,↓reduceIte,rA]⟩;rw[e,hy] at hx;cases hx;exact absurd (ht.2 rfl) (by decide)
 rintro o ⟨F,inr⟩ X (⟨rfl,q0,hX,i,hik,he, -⟩ | ⟨rfl,sX,hne,p6⟩);rotate_left
 ·simp only at p6;simp only[↓aB,aA,rE,↓reduceIte,rA,p6];exact⟨⟨false,rfl,(fun e=>by cases e),fun e=>absurd e hne⟩,sX⟩
 simp only at q0;subst q0;rw[Ay (by omega),Ay (by omega)] at he;try simp only[↓aB,aA,rE,↓reduceIte,rA]
 refine bL ?_;simp only[↓aB,aA,rE,↓reduceIte,rA];refine aR ?_;simp only[↓aB,aA,rE,↓reduceIte,rA];exact⟨⟨true,rfl,fun _=>he,fun _=>rfl⟩,hX⟩
theorem NdV.move{S X X':St}{na:AV}{e:List AV}{y:bO×Bool×Bool}(h:NdV S X na e y)(hn:X.nx≤X'.nx)(hk:∀c,c<X.nx→aX na≠some c→X'.h.get c=X.h.get c):NdV S X' na e y:=by
 obtain⟨a,b,c,rfl,h1,h2,h3,h4,h5,h6,h7⟩:=h;exact⟨a,b,c,rfl,dJ h1 hn fun q hq=>hk q (dP h1 hq) (h4 q (.inl hq)),dJ h2 hn fun q hq=>hk q (dP h2 hq) (h4 q (.inr (.inl hq))),dJ h3 hn fun q hq=>hk q (dP h3 hq) (h4 q (.inr (.inr hq))),h4,h5,h6,h7⟩
theorem qC.fieldV{S X:St}{na:AV}{l:List (bO×Bool×Bool)}(h:qC 6 (NdV S X na) S X na l){i:Nat}{y:bO×Bool×Bool}(hi:l[i]? =some y):∃nb o,eJ (.slice 6) na i=some (.ptr nb o)∧aX na=some nb∧nb<X.nx∧∃a b c,NdV S X na [.int .i64 y.1.kind,.int .i64 y.1.player,.int .i64 y.1.info,a,b,c] y∧bI .i64 X b y.1.weights∧bI .i64 X c y.1.pay∧cE (.ptr nb (o+4)) false 1 X.h=some b∧cE (.ptr nb (o+5)) false 1 X.h=some c:=by
 rcases h with⟨rfl,rfl⟩ | ⟨b,c,cs,rfl,g1,g2,g3,g4,g5,g6,g7⟩
 ·cases hi
 ·have hil:=(Af.1 hi).1;obtain⟨e,e1,e2,x1,x2,x3,rfl,h1,h2,h3,h4⟩:=g7 i y hi;refine⟨b,0+i * 6,?_,rfl,g4,x1,x2,x3,⟨x1,x2,x3,rfl,h1,h2,h3,h4⟩,h2,h3,fU g5 (by rw[Av];exact e2 4 x2 rfl),fU g5 (by rw[Av];exact e2 5 x3 rfl)⟩;show bK (Nat.blt i l.length) _ _=_;rw[show Nat.blt i l.length=true from Aj hil,aP]
theorem qC.fieldV4{S X:St}{na:AV}{l:List (bO×Bool×Bool)}(h:qC 6 (NdV S X na) S X na l){i:Nat}{x:bO}{w p:Bool}(hi:l[i]? =some (x,w,p)):∃nb o,eJ (.slice 6) na i=some (.ptr nb o)∧aX na=some nb∧nb<X.nx∧∃v,cE (.ptr nb (o+4)) false 1 X.h=some v∧bI .i64 X v x.weights:=by
 obtain⟨nb,o,k1,k2,k3,a,b,c,_,h2,h3,l4,l5⟩:=h.fieldV hi;exact⟨nb,o,k1,k2,k3,b,l4,h2⟩
theorem qC.fieldV5{S X:St}{na:AV}{l:List (bO×Bool×Bool)}(h:qC 6 (NdV S X na) S X na l){i:Nat}{x:bO}{w p:Bool}(hi:l[i]? =some (x,w,p)):∃nb o,eJ (.slice 6) na i=some (.ptr nb o)∧aX na=some nb∧nb<X.nx∧∃v,cE (.ptr nb (o+5)) false 1 X.h=some v∧bI .i64 X v x.pay:=by
 obtain⟨nb,o,k1,k2,k3,a,b,c,_,h2,h3,l4,l5⟩:=h.fieldV hi;exact⟨nb,o,k1,k2,k3,c,l5,h3⟩
theorem aMn{ops:List AO}{S X:St}{F:Fr}{inr:Bool}{g4 i:Nat}{na jv ps:AV}{x:bO}{w p:Bool}{l:List (bO×Bool×Bool)}{Q:Out→bH→St→Prop}(H:Has fns)(he:ops=aIE++aJl)(hA:qC 6 (NdV S X na) S X na l)(hS:S.nx≤X.nx)(hi:l[i]? =some (x,w,p))(hb:x.weights.length≤10000000)(p4:aH 4 F= .ptr g4 0)(p5:aH 5 F= .int .i64 (i:Int))(gg:X.h.get g4=some (.cells [ps,na,jv] false 0))(lg:g4<X.nx)(ng:aX na≠some g4)
  (hQ:∀F' Z,(∀j,j<34→aH j F'=aH j F)→X.nx≤Z.nx→(∀c,c<X.nx→aX na≠some c→Z.h.get c=X.h.get c)→qC 6 (NdV S Z na) S Z na (l.set i (x,true,p))→Q .normal ⟨F',inr⟩ Z):nO fns (.drw ops) ⟨F,inr⟩ X Q:=by
 have hlen:ops.length=13:=by rw[he];rfl
 have d1:=cN gg;have sna:=hA.self;obtain⟨nb,o,k1,k2,k3,xv,k4,ix⟩:=hA.fieldV4 hi;have sxv:=bI.self ix;refine aCQ (W:=fun _=>False) (pre:=aIE) (suf:=aJl) (K:=12) (R:=fun F' V ps=>ps= []∧Same X V∧(∀j,j<34→aH j F'=aH j F)∧aH 45 F'= .ptr nb (o+4)∧∃rv',aH 43 F'=rv'∧bI .i64 V rv' x.weights∧∀c,aX rv'=some c→X.nx≤c) he rfl rfl (fun X1 x1 hh1 nn1=>?_) ?_
 ·unfold aIE;simp only[↓sU,sD,rE,↓reduceIte,rA,p4,p5,aE,aW,aD,d1,k1,k4,lg,k3,An,sna,sxv,aG];refine bS rfl ?_;simp only[↓sU,sD,rE,↓reduceIte,rA];refine aO (qX H (ix.same x1) hb) ?_;rintro r Y1 ⟨i1,y1,kr,_⟩;refine⟨y1,?_⟩;simp only[↓sU,sD,rE,↓reduceIte,rA,p4,p5,aG,k1,aE,aW,aD,An];refine⟨x1.trans y1,fun j hj=>?_,r,rfl,i1,fun c hc=>by have:=kr c hc;have:=x1.1;omega⟩
  repeat rw[if_neg (by omega)]
 ·rintro F' V ps' hs' ls ⟨rfl,sV,hk,pA,rv',pB,i2,kr0⟩ hlast hld;have m1:∀i,i<12→Nat.testBit 4095 i=true:=by decide
  have hrc:rv'.cells=some [rv']:=bI.cells i2;have kr:∀q,aX rv'=some q→S.nx≤q:=fun q hq=>by have:=kr0 q hq;omega
  have bnb:=hA.blk k2;have hAV:qC 6 (NdV S V na) S V na l:=hA.move sV.1 (fun c hc=>sV.2 c (hA.blk hc).2) fun e y hE=>hE.move sV.1 fun c hc _=>sV.2 c hc;obtain⟨bb,pp,Z,z1,z2,z3,z4,z5,z6,z7⟩:=qC.fldU (E':=NdV S V na) (a':=(x,true,p)) (x:=rv') (q:=4) hAV hi (by decide) (fun _ _ _ _ _ h=>h) fun e hE=>by
   obtain⟨a,b,c,rfl,h1,h2,h3,h4,h5,h6,h7⟩:=hE;refine⟨a,rv',c,rfl,h1,i2,h3,fun q hq e=>?_,h5,fun _ q hq=>kr q hq,h7⟩;rcases hq with hq | hq | hq
   ·exact h4 q (.inl hq) e
   ·have:=kr0 q hq;have:=(hA.blk e).2;omega
   ·exact h4 q (.inr (.inr hq)) e
  rw[k1] at z1;cases z1;unfold aJl;refine qB (v:=.undef) (S1:=Z) (hlast _ m1) (fun call=>?_) ?_
  ·rw[dN];simp only[fV,pA,pB,bT,hrc,aM];exact z4
  rw[jP];refine⟨?_,?_⟩
  ·simp only[Cy];exact hld _ _ _ m1
  ·simp only[bT,fF];have hbn:∀c,aX na≠some c→c≠nb:=fun c hc e=>hc (by rw[e];exact k2);refine hQ _ _ hk (by have:=sV.1;show X.nx≤Z.nx;omega) (fun c hc hn=>(z7 c (hbn c hn)).trans (sV.2 c hc)) (z5.move (Ah _) (fun _ _=>rfl) fun e y hE=>hE.move (Nat.le_of_eq z6.symm) fun c _ hn=>z7 c (hbn c hn))
theorem aMp{ops:List AO}{S X:St}{F:Fr}{inr:Bool}{g4 i:Nat}{na jv ps:AV}{x:bO}{w p:Bool}{l:List (bO×Bool×Bool)}{Q:Out→bH→St→Prop}(H:Has fns)(he:ops=aJd++aIM)(hA:qC 6 (NdV S X na) S X na l)(hS:S.nx≤X.nx)(hi:l[i]? =some (x,w,p))(hb:x.pay.length≤10000000)(p4:aH 4 F= .ptr g4 0)(p5:aH 5 F= .int .i64 (i:Int))(gg:X.h.get g4=some (.cells [ps,na,jv] false 0))(lg:g4<X.nx)(ng:aX na≠some g4)
  (hQ:∀F' Z,(∀j,j<34→aH j F'=aH j F)→X.nx≤Z.nx→(∀c,c<X.nx→aX na≠some c→Z.h.get c=X.h.get c)→qC 6 (NdV S Z na) S Z na (l.set i (x,w,true))→Q .normal ⟨F',inr⟩ Z):nO fns (.drw ops) ⟨F,inr⟩ X Q:=by
 have hlen:ops.length=13:=by rw[he];rfl
 have d1:=cN gg;have sna:=hA.self;obtain⟨nb,o,k1,k2,k3,xv,k4,ix⟩:=hA.fieldV5 hi;have sxv:=bI.self ix;refine aCQ (W:=fun _=>False) (pre:=aJd) (suf:=aIM) (K:=12) (R:=fun F' V ps=>ps= []∧Same X V∧(∀j,j<34→aH j F'=aH j F)∧aH 57 F'= .ptr nb (o+5)∧∃rv',aH 55 F'=rv'∧bI .i64 V rv' x.pay∧∀c,aX rv'=some c→X.nx≤c) he rfl rfl (fun X1 x1 hh1 nn1=>?_) ?_
 ·unfold aJd;simp only[↓sU,sD,rE,↓reduceIte,rA,p4,p5,aE,aW,aD,d1,k1,k4,lg,k3,An,sna,sxv,aG];refine bS rfl ?_;simp only[↓sU,sD,rE,↓reduceIte,rA];refine aO (qX H (ix.same x1) hb) ?_;rintro r Y1 ⟨i1,y1,kr,_⟩;refine⟨y1,?_⟩;simp only[↓sU,sD,rE,↓reduceIte,rA,p4,p5,aG,k1,aE,aW,aD,An];refine⟨x1.trans y1,fun j hj=>?_,r,rfl,i1,fun c hc=>by have:=kr c hc;have:=x1.1;omega⟩
  repeat rw[if_neg (by omega)]
 ·rintro F' V ps' hs' ls ⟨rfl,sV,hk,pA,rv',pB,i2,kr0⟩ hlast hld;have m1:∀i,i<12→Nat.testBit 4095 i=true:=by decide
  have hrc:rv'.cells=some [rv']:=bI.cells i2;have kr:∀q,aX rv'=some q→S.nx≤q:=fun q hq=>by have:=kr0 q hq;omega
  have bnb:=hA.blk k2;have hAV:qC 6 (NdV S V na) S V na l:=hA.move sV.1 (fun c hc=>sV.2 c (hA.blk hc).2) fun e y hE=>hE.move sV.1 fun c hc _=>sV.2 c hc;obtain⟨bb,pp,Z,z1,z2,z3,z4,z5,z6,z7⟩:=qC.fldU (E':=NdV S V na) (a':=(x,w,true)) (x:=rv') (q:=5) hAV hi (by decide) (fun _ _ _ _ _ h=>h) fun e hE=>by
   obtain⟨a,b,c,rfl,h1,h2,h3,h4,h5,h6,h7⟩:=hE;refine⟨a,b,rv',rfl,h1,h2,i2,fun q hq e=>?_,h5,h6,fun _ q hq=>kr q hq⟩;rcases hq with hq | hq | hq
   ·exact h4 q (.inl hq) e
   ·exact h4 q (.inr (.inl hq)) e
   ·have:=kr0 q hq;have:=(hA.blk e).2;omega
  rw[k1] at z1;cases z1;unfold aIM;refine qB (v:=.undef) (S1:=Z) (hlast _ m1) (fun call=>?_) ?_
  ·rw[dN];simp only[fV,pA,pB,bT,hrc,aM];exact z4
  rw[jP];refine⟨?_,?_⟩
  ·simp only[Cy];exact hld _ _ _ m1
  ·simp only[bT,fF];have hbn:∀c,aX na≠some c→c≠nb:=fun c hc e=>hc (by rw[e];exact k2);refine hQ _ _ hk (by have:=sV.1;show X.nx≤Z.nx;omega) (fun c hc hn=>(z7 c (hbn c hn)).trans (sV.2 c hc)) (z5.move (Ah _) (fun _ _=>rfl) fun e y hE=>hE.move (Nat.le_of_eq z6.symm) fun c _ hn=>z7 c (hbn c hn))
def aDJ(h:bC):Prop:=∃F C,xC (fR h) (htL (fR h)) F C∧F.map (tE (fR h) C)=h.nodes
open Classical in
noncomputable def nC(h:bC):Int:=if jB h then(if jC h 0≤2000 then(if fH (fR h)=0∧aDJ h then 0 else 3) else 5) else 3
open Classical in
noncomputable def mH(h:bC):bC:=if nC h=0 then fR h else⟨0,[],[]⟩
theorem pQ{h:bC}(hn:¬jB h):nC h=3:=by unfold nC;rw[if_neg hn]
theorem aB1{h:bC}(hl:jB h)(hn:¬jC h 0≤2000):nC h=5:=by unfold nC;rw[if_pos hl,if_neg hn]
theorem aBb{h:bC}(hl:jB h)(hs:jC h 0≤2000)(hn:¬ (fH (fR h)=0∧aDJ h)):nC h=3:=by unfold nC;rw[if_pos hl,if_pos hs,if_neg hn]
theorem aIV{h:bC}(hl:jB h)(hs:jC h 0≤2000)(hn:fH (fR h)=0∧aDJ h):nC h=0:=by unfold nC;rw[if_pos hl,if_pos hs,if_pos hn]
theorem tR{S X:St}:aHm S X (.agg [.int .i64 0,.nilsl,.nilsl]) ⟨0,[],[]⟩:=fun _ _ _=>⟨_,_,rfl,.inl ⟨rfl,.inl rfl⟩,.inl ⟨rfl,.inl rfl⟩⟩
theorem wS{h:bC}{e:Int}(he:nC h=e)(hn:e≠0):mH h=⟨0,[],[]⟩:=by unfold mH;rw[if_neg (by rw[he];exact hn)]
def aBT(l:List bO)(i:Nat):List (bO×Bool×Bool):=(l.take i).map (fun x=>(x,true,true))++(l.drop i).map fun x=>(x,false,false)
theorem aKv(l:List bO):aBT l 0=l.map fun x=>(x,false,false):=by unfold aBT;simp
theorem aLf(l:List bO):aBT l l.length=l.map fun x=>(x,true,true):=by unfold aBT;simp
theorem aMY{l:List bO}{i:Nat}{x:bO}(hx:l[i]? =some x):(aBT l i)[i]? =some (x,false,false)∧((aBT l i).set i (x,true,false))[i]? =some (x,true,false)∧((aBT l i).set i (x,true,false)).set i (x,true,true)=aBT l (i+1):=by
 have hi:=(Af.1 hx).1;have e:l.drop i=x::l.drop (i+1):=by
  rw[Db hi];congr 1;exact(Af.1 hx).2
 have h1:(aBT l i)=(l.take i).map (fun x=>(x,true,true))++(x,false,false)::(l.drop (i+1)).map fun x=>(x,false,false):=by
  unfold aBT;rw[e];rfl
 have hl:((l.take i).map fun x=>(x,true,true)).length=i:=by rw[Ax,Bs];omega
 refine⟨?_,?_,?_⟩
 ·rw[h1,Bh (by omega),hl,De];rfl
 ·rw[Dm,if_pos rfl,if_pos];rw[h1,Al,hl,Am];omega
 ·rw[List.set_set,h1,List.set_append_right _ _ (by omega),hl,De];unfold aBT;rw[Bn,hx,Cu,Bl];rfl
theorem qC.newG{S X:St}{na jv:AV}{p:Int}{l:List bO}{is:List zA}(h:qC 6 (NdV S X na) S X na (l.map fun x=>(x,true,true)))(hj:aQ 2 dI X jv is)(hb:∀c,aX jv=some c→S.nx≤c):aHm S X (.agg [.int .i64 p,na,jv]) ⟨p,l,is⟩:=fun X2 m2 k2=>by
 have lj:∀c,aX jv=some c→c<X.nx:=fun c hc=>by
  rcases hj with⟨_,rfl | rfl⟩ | ⟨b,off,cap,o,cs,rfl,_,hb,_⟩
  ·cases hc
  ·cases hc
  ·cases hc;exact hb
 refine⟨na,jv,rfl,?_,aQ.moveB hj m2 (fun c hc=>k2 c (hb c hc) (lj c hc)) fun _ _ h=>h⟩;rcases h with⟨h0,h1⟩ | ⟨b,c,cs,e0,g1,g2,g3,g4,g5,g6,g7⟩
 ·exact .inl ⟨List.map_eq_nil_iff.1 h1,.inl h0⟩
 ·rw[Ax] at e0 g1;refine .inr ⟨b,0,c,true,cs,e0,g1,Ae g4 m2,by unfold cK;rw[k2 b g3 g4,g5];rfl,fun i x hi=>?_⟩;obtain⟨e,e1,e2,x1,x2,x3,rfl,h1,h2,h3,_,h5,h6,h7⟩:=g7 i (x,true,true) (by rw[Bc,hi];rfl);exact⟨_,e1,fun j y hj=>by rw[Av];exact e2 j y hj,x1,x2,x3,rfl,dJ h1 m2 fun q hq=>k2 q (h5 q hq) (dP h1 hq),dJ h2 m2 fun q hq=>k2 q (h6 rfl q hq) (dP h2 hq),dJ h3 m2 fun q hq=>k2 q (h7 rfl q hq) (dP h3 hq)⟩
def ClU(S X0:St)(ps na jv:AV)(rb g4:Nat)(l:List bO)(k:Nat)(A:bH)(X:St):Prop:=A.inr=false∧X0.nx≤X.nx∧(∀c,c<X0.nx→aX na≠some c→X.h.get c=X0.h.get c)∧aH 2 A.F= .ptr rb 0∧aH 4 A.F= .ptr g4 0∧aH 30 A.F= .int .i64 ((l.length:Nat):Int)∧∃i,i+k=l.length∧aH 31 A.F= .int .i64 (i:Int)∧qC 6 (NdV S X na) S X na (aBT l i)
theorem uM{S:St}{v:AV}{h:bC}(H:Has fns)(hv:gE S v h)(hT:tZ h)(hN:h.nodes.length≤100000)(h10:jH S):fB fns (.fn 19 [] []) [v] S fun r X=>∃gv,r= .tup [gv,.int .i64 (nC h)]∧Same S X∧aHm S X gv (mH h):=by
 have hv0:=hv;obtain⟨nv,iv,rfl,hn,hi⟩:=hv;have hB:∀i,i<h.nodes.length→(nodeAt h i).next.length≤140737488355328:=fun i hi=>by
  have:=(hT.2 _ (Ao (cM hi))).1;omega
 refine bN H.f19 (by simp) ?_;simp only[↓aB,aA,rE,↓reduceIte,rA];refine bL ?_;refine cL (by simp only[↓aB,aA,rE,↓reduceIte];exact bE _) ?_;intro S1 s1 n1 c1;refine cD ?_;intro S2 s2 n2 c2;simp only[↓aB,aA,rE,↓reduceIte,rA];have s12:=s1.trans s2;have g2:=(s2.2 _ (show S.nx<S1.nx by omega)).trans c1;have lagg:cE (.ptr S.nx 0) true 3 S2.h=some (.agg [.int .i64 h.players,nv,iv]):=fG g2;refine fY ?_;simp only[↓aB,aA,rE,↓reduceIte,rA,lagg];refine aY ?_;simp only[↓aB,aA,rE,↓reduceIte,rA];refine aO (aFi H (aQ.same (E:=cC) bR hn s12) hN hB) ?_;rintro _ Y ⟨⟨t,rfl,ht⟩,sY⟩;have gY:=(sY.2 _ (show S.nx<S2.nx by omega)).trans g2;have rY:=(sY.2 _ (show S1.nx<S2.nx by omega)).trans c2;have sSY:=s12.trans sY;have nY:=sY.1;simp only[↓aB,aA,rE,↓reduceIte,rA,eC];by_cases hl:jB h;rotate_left
 ·obtain rfl:t=false:=by
   cases t with
   | false=>rfl
   | true=>exact absurd (ht.1 rfl) hl
  refine aN (by simp only[↓aB,aA,rE,↓reduceIte,rA,Bk]) (aC (aF ?_));simp only[↓aB,aA,rE,↓reduceIte,rA,aLI];refine eF (b:=S1.nx) (cs':=[.int .i64 0,.nilsl,.nilsl]) (by simp only[↓aB,aA,rE,↓reduceIte,rA]) (by simp only[↓aB,aA,rE,↓reduceIte,rA];exact bE _) rY rfl rfl ?_;intro X x nx gx;simp only[↓aB,aA,rE,↓reduceIte,rA];refine aR ?_;simp only[↓aB,aA,rE,↓reduceIte,rA,fD,ld3 gx];have he:=pQ hl;rw[he,wS he (by decide)];exact⟨_,rfl,x.same sSY (by omega),tR⟩
 obtain rfl:t=true:=ht.2 hl;refine aL (by simp only[↓aB,aA,rE,↓reduceIte,rA,Bd]) (aI ?_);try simp only[↓aB,aA,rE,↓reduceIte,rA]
 have lagg:cE (.ptr S.nx 0) true 3 Y.h=some (.agg [.int .i64 h.players,nv,iv]):=fG gY;refine fY ?_;simp only[↓aB,aA,rE,↓reduceIte,rA,lagg];refine aY ?_;simp only[↓aB,aA,rE,↓reduceIte,rA];refine aO (aHW H hl (aQ.same (E:=cC) bR hn sSY) hN hB) ?_;rintro _ Z ⟨rfl,sZ⟩;have gZ:=(sZ.2 _ (show S.nx<Y.nx by omega)).trans gY;have rZ:=(sZ.2 _ (show S1.nx<Y.nx by omega)).trans rY;have sSZ:=sSY.trans sZ;have nZ:=sZ.1;simp only[↓aB,aA,rE,↓reduceIte,rA];by_cases hs:jC h 0≤2000;rotate_left
 ·have hc:jI (jC h 0)>2000:=by unfold jI;rw[if_neg hs];decide
  refine aN (by simp only[↓aB,aA,rE,↓reduceIte,rA];exact Ce _ (Ab hc)) (aC (aF ?_));simp only[↓aB,aA,rE,↓reduceIte,rA,aLI];refine eF (b:=S1.nx) (cs':=[.int .i64 0,.nilsl,.nilsl]) (by simp only[↓aB,aA,rE,↓reduceIte,rA]) (by simp only[↓aB,aA,rE,↓reduceIte,rA];exact bE _) rZ rfl rfl ?_;intro X x nx gx;simp only[↓aB,aA,rE,↓reduceIte,rA];refine aR ?_;simp only[↓aB,aA,rE,↓reduceIte,rA,fD,ld3 gx];have he:=aB1 hl hs;rw[he,wS he (by decide)];exact⟨_,rfl,x.same sSZ (by omega),tR⟩
 have hc:¬jI (jC h 0)>2000:=by unfold jI;rw[if_pos hs];omega
 refine aL (by simp only[↓aB,aA,rE,↓reduceIte,rA];exact Ce _ (Aa hc)) (aI ?_);try simp only[↓aB,aA,rE,↓reduceIte,rA]
 have lagg:cE (.ptr S.nx 0) true 3 Z.h=some (.agg [.int .i64 h.players,nv,iv]):=fG gZ;refine bL ?_;simp only[↓aB,aA,rE,↓reduceIte,rA,lagg];refine aY ?_;simp only[↓aB,aA,rE,↓reduceIte,rA];refine aO (aD8 H hl (hv0.same sSZ) hT hN (by omega)) ?_;rintro _ V ⟨sV,na,jv,rfl,hA,hj,hjb⟩;have nV:=sV.1;have gV:=(sV.2 _ (show S.nx<Z.nx by omega)).trans gZ;have rV:=(sV.2 _ (show S1.nx<Z.nx by omega)).trans rZ;have sSV:=sSZ.trans sV;try simp only[↓aB,aA,rE,↓reduceIte,rA]
 refine cD ?_;intro V1 v1 m1 d1;try simp only[↓aB,aA,rE,↓reduceIte,rA]
 refine eF (b:=V.nx) (cs':=[.int .i64 h.players,na,jv]) (by simp only[↓aB,aA,rE,↓reduceIte,rA]) (by simp only[↓aB,aA,rE,↓reduceIte,rA];exact bE _) d1 rfl rfl ?_;intro V2 v2 m2 d2;simp only[↓aB,aA,rE,↓reduceIte,rA];have vv:Same V V2:=v2.same v1 (Ah _);have hA2:qC 6 (NdV Z V2 na) Z V2 na ((fR h).nodes.map fun x=>(x,false,false)):=hA.move vv.1 (fun c hc=>vv.2 c (hA.blk hc).2) fun e y hE=>hE.move vv.1 fun c hc _=>vv.2 c hc;have hj2:=aQ.same (E:=dI) cR hj vv;have g4:=(vv.2 _ (show S.nx<V.nx by omega)).trans gV;have r4:=(vv.2 _ (show S1.nx<V.nx by omega)).trans rV;have sS2:=sSV.trans vv;have hGn:aQ 6 cC V2 na (fR h).nodes:=by
  rcases hA2 with⟨h0,h1⟩ | ⟨b,c,cs,e0,g1,g2,g3,g4,g5,g6,g7⟩
  ·exact .inl ⟨List.map_eq_nil_iff.1 h1,.inl h0⟩
  ·rw[Ax] at e0 g1;refine .inr ⟨b,0,c,true,cs,e0,g1,g4,by unfold cK;rw[g5];rfl,fun i x hi=>?_⟩;obtain⟨e,e1,e2,x1,x2,x3,rfl,h1,h2,h3,_⟩:=g7 i (x,false,false) (by rw[Bc,hi];rfl);exact⟨_,e1,fun j y hj=>by rw[Av];exact e2 j y hj,x1,x2,x3,rfl,h1,h2,h3⟩
 have hGl:(fR h).nodes.length≤100000:=by rw[aG0];omega
 have lagg:cE (.ptr V.nx 0) true 3 V2.h=some (.agg [.int .i64 h.players,na,jv]):=fG d2;refine fY ?_;simp only[↓aB,aA,rE,↓reduceIte,rA,lagg];refine aY ?_;simp only[↓aB,aA,rE,↓reduceIte,rA];refine aO (aKt (g:=fR h) H hGn hj2 hGl) ?_;rintro _ W ⟨rfl,sW⟩;have nW:=sW.1;have dW:=(sW.2 _ (show V.nx<V2.nx by omega)).trans d2;have gW:=(sW.2 _ (show S.nx<V2.nx by omega)).trans g4;have rW:=(sW.2 _ (show S1.nx<V2.nx by omega)).trans r4;have sSW:=sS2.trans sW;simp only[↓aB,aA,rE,↓reduceIte,rA];by_cases hf:fH (fR h)=0;rotate_left
 ·refine aN (by simp only[↓aB,aA,rE,↓reduceIte,rA];exact Ce _ (Ab hf)) (aC (aF ?_));simp only[↓aB,aA,rE,↓reduceIte,rA,aLI];refine eF (b:=S1.nx) (cs':=[.int .i64 0,.nilsl,.nilsl]) (by simp only[↓aB,aA,rE,↓reduceIte,rA]) (by simp only[↓aB,aA,rE,↓reduceIte,rA];exact bE _) rW rfl rfl ?_;intro X x nx gx;simp only[↓aB,aA,rE,↓reduceIte,rA];refine aR ?_;simp only[↓aB,aA,rE,↓reduceIte,rA,fD,ld3 gx];have he:=aBb hl hs fun e=>hf e.1;rw[he,wS he (by decide)];exact⟨_,rfl,x.same sSW (by omega),tR⟩
 refine aL (by simp only[↓aB,aA,rE,↓reduceIte,rA];exact Ce _ (Aa fun e=>e hf)) (aI ?_);try simp only[↓aB,aA,rE,↓reduceIte,rA]
 have G:=xU hf;have hGW:gE W (.agg [.int .i64 (fR h).players,na,jv]) (fR h):=⟨na,jv,rfl,aQ.same (E:=cC) bR hGn sW,aQ.same (E:=dI) cR hj2 sW⟩;have lW:V.nx<W.nx:=by omega
 have sagg:bW (.agg [.int .i64 h.players,na,jv]) (.agg [.int .i64 h.players,na,jv])=true:=kS (dG ..) (aQ.self hGn) (aQ.self hj2);have laggW:cE (.ptr V.nx 0) true 3 W.h=some (.agg [.int .i64 h.players,na,jv]):=fG dW;have lgW:S.nx<W.nx:=by omega
 have snv:=aQ.self hn;refine aC (aT (Q:=fun o A' X=>(o= .normal∧A'.inr=false∧Same W X∧aDJ h∧aH 2 A'.F= .ptr S1.nx 0∧aH 4 A'.F= .ptr V.nx 0)∨(o= .ret∧¬aDJ h∧Same S X∧aH 3 A'.F= .int .i64 3∧aH 2 A'.F= .ptr S1.nx 0∧X.h.get S1.nx=some (.cells [.int .i64 0,.nilsl,.nilsl] false 0))) (aC (fP (fun _=>False) ?_)) ?_)
 ·intro W1 w1 hW1 nW1;simp only[↓sU,sD,rE,↓reduceIte,rA,laggW,aE,aW,aD,lW,An,sagg];refine bS rfl ?_;simp only[↓sU,sD,rE,↓reduceIte,rA];refine aO (aGa H G (h10.same (sSW.trans w1)) (fun i hi=>(aAu hf i hi).1) (fun i hi=>(aAu hf i hi).2) (hGW.same w1)) ?_;rintro r W2 ⟨w2,F,C,hC,hNew⟩;refine⟨w2,?_⟩;obtain⟨mn,mi,rfl,k1,k2⟩:=hNew W2 (Ah _) fun _ _ _=>rfl;have hm:(aA4 (fR h) F C).nodes=h.nodes↔aDJ h:=by
   constructor
   ·intro e;exact⟨F,C,hC,e⟩
   ·rintro⟨F',C',hC',e⟩;obtain⟨rfl,rfl⟩:=aDW (iL G) hC hC';exact e
  have hln:(aA4 (fR h) F C).nodes.length≤100000:=by
   show(F.map _).length≤_;rw[Ax,hC.perm.length_eq];have:=sT (fR h) (fR h).nodes.length;unfold nQ at this;omega
  have hbd:∀x∈(aA4 (fR h) F C).nodes,x.next.length≤10000000∧x.weights.length≤10000000∧x.pay.length≤10000000:=fun x hx=>by
   obtain⟨q,hq,rfl⟩:=Ee.1 hx;have hql:=(hC.mem hq).1;have a1:=G.nxt q hql;have a2:=(aAu hf q hql).2;have a3:=G.pay q hql;refine⟨?_,?_,?_⟩
   ·show((nodeAt (fR h) q).next.map _).length≤_;rw[Ax];omega
   ·show(nodeAt (fR h) q).weights.length≤_;omega
   ·show(nodeAt (fR h) q).pay.length≤_;omega
  have h1:aHM (.agg [.int .i64 (aA4 (fR h) F C).players,mn,mi]) false 1 1=some mn:=rfl;simp only[↓sU,sD,rE,↓reduceIte,rA,h1,aE,aW,aD,cN gW,lgW,An,snv];refine bS rfl ?_;simp only[↓sU,sD,rE,↓reduceIte,rA];have sSW2:=(sSW.trans w1).trans w2;refine aO (aFL H k1 (aQ.same (E:=cC) bR hn sSW2) hln hbd) ?_;rintro _ W3 ⟨⟨t,rfl,ht⟩,w3⟩;refine⟨w3,?_⟩;simp only[↓sU,sD,rE,↓reduceIte,rA,aFs,yL,eC];have sW3:=(w1.trans w2).trans w3;have hiff:=ht.trans hm;cases t with
  | true=>
   refine aL (by simp only[↓sU,sD,rE,↓reduceIte,rA,Bd]) (aI ?_);exact .inl ⟨rfl,rfl,sW3,hiff.1 rfl,by refine⟨?_,?_⟩<;>simp only[↓sU,sD,rE,↓reduceIte,rA]⟩
  | false=>
   have rX:=(sW3.2 _ (show S1.nx<W.nx by omega)).trans rW;refine aN (by simp only[↓sU,sD,rE,↓reduceIte,rA,Bk]) (aC (aF ?_));simp only[↓aB,aA,rE,↓reduceIte,rA,aLI];refine eF (b:=S1.nx) (cs':=[.int .i64 0,.nilsl,.nilsl]) (by simp only[↓aB,aA,rE,↓reduceIte,rA]) (by simp only[↓aB,aA,rE,↓reduceIte,rA];exact bE _) rX rfl rfl ?_;intro X x nx gx;simp only[↓aB,aA,rE,↓reduceIte,rA];refine aR ?_;refine .inr ⟨rfl,fun e=>absurd (hiff.2 e) (by decide),x.same (sSW.trans sW3) (by omega),by simp only[↓aB,aA,rE,↓reduceIte,rA],by simp only[↓aB,aA,rE,↓reduceIte,rA],gx⟩
 rintro o ⟨F,inr⟩ X (⟨rfl,q0,sX,hm,p2,p4⟩ | ⟨rfl,hm,sX,p3,p2,gX⟩);rotate_left
 ·simp only at p2 p3;have he:=aBb hl hs fun e=>hm e.2;simp only[↓aB,aA,rE,↓reduceIte,rA,p2,p3,fD,ld3 gX];rw[he,wS he (by decide)];exact⟨_,rfl,sX,tR⟩
 simp only at q0 p2 p4;subst q0;have he:=aIV hl hs ⟨hf,hm⟩;have ho:mH h=fR h:=by unfold mH;rw[if_pos he]
 have s2X:=sW.trans sX;have hAX:qC 6 (NdV Z X na) Z X na (aBT (fR h).nodes 0):=by
  rw[aKv];exact hA2.move s2X.1 (fun c hc=>s2X.2 c (hA2.blk hc).2) fun e y hE=>hE.move s2X.1 fun c hc _=>s2X.2 c hc
 have dX:=(sX.2 _ lW).trans dW;have rX:=(sX.2 _ (show S1.nx<W.nx by omega)).trans rW;have nX:=sX.1;have lgX:V.nx<X.nx:=by omega
 have nbl:∀c,c<Z.nx→aX na≠some c:=fun c hc e=>by have:=(hA2.blk e).1;omega
 have nb4:aX na≠some V.nx:=fun e=>by have:=(hA.blk e).2;omega
 have lnn:kJ na=some (.int .i64 (((fR h).nodes.length:Nat):Int)):=aQ.len hGn;have lob:=cN dX;try simp only[↓aB,aA,rE,↓reduceIte,rA]
 refine aC (aT (Q:=fun o A' U=>o= .normal∧ClU Z X (.int .i64 h.players) na jv S1.nx V.nx (fR h).nodes 0 A' U) (aC (aF ?_)) ?_)
 ·simp only[↓aB,aA,rE,↓reduceIte,rA,p4,aE,aD,lob,lnn];refine aK (bG (ClU Z X (.int .i64 h.players) na jv S1.nx V.nx (fR h).nodes) ?_ (fR h).nodes.length _ _ ⟨rfl,Ah _,fun _ _ _=>rfl,by simp only[↓aB,aA,rE,↓reduceIte,rA,p2],by simp only[↓aB,aA,rE,↓reduceIte,rA,p4],by simp only[↓aB,aA,rE,↓reduceIte,rA],0,by omega,by simp only[↓aB,aA,rE,↓reduceIte,rA],hAX⟩);clear p2 p4 hAX;rintro k ⟨F,inr⟩ U ⟨q0,nU,kU,p2,p4,p30,i,hik,p31,hU⟩;simp only at q0 p2 p4 p30 p31;subst q0;refine bL ?_;simp only[↓aB,aA,rE,↓reduceIte,rA,p30,p31,qT];by_cases hlt:i<(fR h).nodes.length;rotate_left
  ·refine aC (aL (by simp only[↓aB,aA,rE,↓reduceIte,rA,Aa hlt]) (bD ?_));obtain rfl:k=0:=by omega
   exact⟨rfl,rfl,nU,kU,by simp only[↓aB,aA,rE,↓reduceIte,rA,p2],by simp only[↓aB,aA,rE,↓reduceIte,rA,p4],by simp only[↓aB,aA,rE,↓reduceIte,rA,p30],i,hik,by simp only[↓aB,aA,rE,↓reduceIte,rA,p31],hU⟩
  refine aC (aN (by simp only[↓aB,aA,rE,↓reduceIte,rA,Ab hlt]) (aI ?_));try simp only[↓aB,aA,rE,↓reduceIte,rA]
  obtain⟨x,hx⟩:∃x,(fR h).nodes[i]? =some x:=⟨_,Ad hlt⟩;have ex:nodeAt (fR h) i=x:=aAw hx;obtain⟨a1,a2,a3⟩:=aMY hx;have bw:=(aAu hf i hlt).2;have bp:=G.pay i hlt;rw[ex] at bw bp;have dU:=(kU _ lgX nb4).trans dX;have l4U:V.nx<U.nx:=by omega
  refine aC (aK (aC (aF ?_)));simp only[↓aB,aA,rE,↓reduceIte,rA,p31];refine aC (aMn H rfl hU (by have:=sV.1;omega) a1 (by omega) (by simp only[↓aB,aA,rE,↓reduceIte,rA,p4]) (by simp only[↓aB,aA,rE,↓reduceIte,rA]) dU l4U nb4 ?_);intro F1 U1 hk1 nU1 kU1 hU1;have dU1:=(kU1 _ l4U nb4).trans dU;have e2:=(hk1 2 (by omega)).trans (show _=AV.ptr S1.nx 0 by simp only[↓aB,aA,rE,↓reduceIte,rA,p2]);have e4:=(hk1 4 (by omega)).trans (show _=AV.ptr V.nx 0 by simp only[↓aB,aA,rE,↓reduceIte,rA,p4]);have e5:=(hk1 5 (by omega)).trans (show _=AV.int .i64 (i:Int) by simp only[↓aB,aA,rE,↓reduceIte,rA]);have e30:=(hk1 30 (by omega)).trans (show _=AV.int .i64 (((fR h).nodes.length:Nat):Int) by simp only[↓aB,aA,rE,↓reduceIte,rA,p30]);have e31:=(hk1 31 (by omega)).trans (show _=AV.int .i64 (i:Int) by simp only[↓aB,aA,rE,↓reduceIte,rA,p31]);try simp only[↓aB,aA,rE,↓reduceIte,rA]
  refine aMp H rfl hU1 (by have:=sV.1;omega) a2 (by omega) e4 e5 dU1 (by omega) nb4 ?_;intro F2 U2 hk2 nU2 kU2 hU2;rw[a3] at hU2;have f31:=(hk2 31 (by omega)).trans e31;try simp only[↓aB,aA,rE,↓reduceIte,rA]
  refine aF ?_;simp only[↓aB,aA,rE,↓reduceIte,rA,f31,dL (a:=i) (by omega)];exact⟨k - 1,by omega,rfl,by omega,fun c hc hn=>(kU2 c (by omega) hn).trans ((kU1 c (by omega) hn).trans (kU c hc hn)),by simp only[↓aB,aA,rE,↓reduceIte,rA,(hk2 2 (by omega)).trans e2],by simp only[↓aB,aA,rE,↓reduceIte,rA,(hk2 4 (by omega)).trans e4],by simp only[↓aB,aA,rE,↓reduceIte,rA,(hk2 30 (by omega)).trans e30],i+1,by omega,by simp only[↓aB,aA,rE,↓reduceIte,rA],hU2⟩
 rintro o ⟨F,inr⟩ U ⟨rfl,q0,nU,kU,p2,p4,p30,i,hik,p31,hU⟩;simp only at q0 p2 p4;subst q0;obtain rfl:i=(fR h).nodes.length:=by omega
 rw[aLf] at hU;have dU:=(kU _ lgX nb4).trans dX;have rU:=(kU _ (by omega) (nbl _ (by omega))).trans rX;have lU:cE (.ptr V.nx 0) true 3 U.h=some (.agg [.int .i64 h.players,na,jv]):=fG dU;try simp only[↓aB,aA,rE,↓reduceIte,rA]
 refine bL ?_;simp only[↓aB,aA,rE,↓reduceIte,rA,p2,p4,lU];refine eF (b:=S1.nx) (cs':=[.int .i64 h.players,na,jv]) (by simp only[↓aB,aA,rE,↓reduceIte,rA,p2]) (by simp only[↓aB,aA,rE,↓reduceIte,rA];exact bE _) rU rfl rfl ?_;intro K x nk gk;simp only[↓aB,aA,rE,↓reduceIte,rA];refine aR ?_;simp only[↓aB,aA,rE,↓reduceIte,rA,p2,fD,ld3 gk];rw[he,ho];have kSX:Same S X:=(sSW.trans sX);have sSU:Same S U:=⟨Ba kSX.1 nU,fun c hc=>(kU c (by have:=kSX.1;omega) (nbl c (by have:=sSZ.1;omega))).trans (kSX.2 c hc)⟩;have nK:=x.1;have hjU:aQ 2 dI U jv h.infos:=by
  have hjl:∀c,aX jv=some c→c<V.nx:=fun c hc=>by
   rcases hj with⟨_,rfl | rfl⟩ | ⟨b,off,cap,o,cs,rfl,_,hb,_⟩
   ·cases hc
   ·cases hc
   ·cases hc;exact hb
  refine aQ.moveB hj (by omega) (fun c hc=>?_) fun _ _ h=>h;have h1:=hjl c hc;obtain⟨h2,h3⟩:=hjb c hc;rw[kU c (by omega) h3,sX.2 c (by omega),sW.2 c (by omega),vv.2 c h1]
 have hN:=qC.newG (p:=h.players) hU hjU fun c hc=>(hjb c hc).1;exact⟨_,rfl,x.same sSU (by omega),fun X2 m2 k2=>hN X2 (by omega) fun c h1 h2=>(k2 c (by have:=sSZ.1;omega) (by omega)).trans (x.2 c h2 (by omega))⟩
end Go.Ev.Gl
