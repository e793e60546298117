import Derived.Test.YtkklchgmpejobaaGreatDoorGl26
open Nat renaming reduceEqDiff → rE, reduceAdd → rA
set_option maxHeartbeats 16000000
set_option linter.unusedSimpArgs false
set_option linter.unusedVariables false
namespace Go.Ev.Gl
variable {fns:T cW}
section
variable {g:bC}{F:List Nat}{C:List Int}
end
theorem aCq{S:St}{v:AV}{h:bC}(H:Has fns)(hv:gE S v h)(hT:tZ h)(hN:h.nodes.length≤100000)(h10:jH S):fB fns (.fn 10 [] []) [v] S fun r X=>r= .int .i64 (nC h)∧Same S X:=by
  have hv0:=hv;obtain⟨nv,iv,rfl,hn,hi⟩:=hv;refine bN H.f10 (by simp) ?_;simp only[↓aB,aA,rE,↓reduceIte,rA];refine bL ?_;refine cL (by simp only[↓aB,aA,rE,↓reduceIte];exact bE _) ?_;intro S1 s1 n1 c1;simp only[↓aB,aA,rE,↓reduceIte,rA];have lagg:cE (.ptr S.nx 0) true 3 S1.h=some (.agg [.int .i64 h.players,nv,iv]):=fG c1;refine bL ?_;simp only[↓aB,aA,rE,↓reduceIte,rA,lagg];refine aY ?_;simp only[↓aB,aA,rE,↓reduceIte,rA];refine aO (uM H (hv0.same s1) hT hN (h10.same s1)) ?_;rintro _ X ⟨gv,rfl,sX,hg⟩;obtain⟨a,b,rfl,_⟩:=hg X (Ah _) fun _ _ _=>rfl;simp only[↓aB,aA,rE,↓reduceIte,rA,ex0,ex1];refine cD ?_;intro X1 t1 m1 d1;try simp only[↓aB,aA,rE,↓reduceIte,rA]
  refine eF (b:=X.nx) (cs':=[.int .i64 (mH h).players,a,b]) (by simp only[↓aB,aA,rE,↓reduceIte,rA]) (by simp only[↓aB,aA,rE,↓reduceIte,rA];exact bE _) d1 rfl rfl ?_;intro X2 t2 m2 d2;simp only[↓aB,aA,rE,↓reduceIte,rA];refine bL ?_;simp only[↓aB,aA,rE,↓reduceIte,rA];refine aR ?_;simp only[↓aB,aA,rE,↓reduceIte,rA];exact(s1.trans sX).trans (t2.same t1 (Ah _))
theorem aKl{g:bC}(h:fH g=0):tZ g:=by
  have G:=xU h;refine⟨by have:=G.ni;omega,fun x hx=>?_⟩;obtain⟨j,hj,rfl⟩:=List.mem_iff_getElem.1 hx;have e:nodeAt g j=g.nodes[j]:=aAw (Ad hj);have a:=G.nxt j hj;have b:=(aAu h j hj).2;have c:=G.pay j hj;rw[e] at a b c;omega
theorem aCE{S:St}{a b c a' b' c':AV}{x y:bO}(H:Has fns)(x1:bI .i64 S a x.next)(x2:bI .i64 S b x.weights)(x3:bI .i64 S c x.pay)(y1:bI .i64 S a' y.next)(y2:bI .i64 S b' y.weights)(y3:bI .i64 S c' y.pay)(l1:x.next.length≤140737488355328)(l2:x.weights.length≤140737488355328)(l3:x.pay.length≤140737488355328):
    fB fns (.fn 24 [] []) [.agg [.int .i64 x.kind,.int .i64 x.player,.int .i64 x.info,a,b,c],.agg [.int .i64 y.kind,.int .i64 y.player,.int .i64 y.info,a',b',c']] S fun r X=>(∃t,r= .bool t∧(t=true↔x=y))∧Same S X:=by
  refine bN H.f24 (by simp) ?_;simp only[↓aB,aA,rE,↓reduceIte,rA];refine bL ?_;refine cL (by simp only[↓aB,aA,rE,↓reduceIte,rA];exact bE _) ?_;intro S1 s1 n1 c1;simp only[↓aB,aA,rE,↓reduceIte,rA];refine cL (by simp only[↓aB,aA,rE,↓reduceIte,rA];exact bE _) ?_;intro S2 s2 n2 c2;simp only[↓aB,aA,rE,↓reduceIte,rA];have s12:=s1.trans s2;have d1:=(s2.2 _ (show S.nx<S1.nx by omega)).trans c1;have no:∀ {p:Prop},p→(x=y→¬p)→(false=true↔x=y):=fun {p} hp hn=>⟨(fun e=>by cases e),fun e=>absurd hp (hn e)⟩;refine bL ?_;by_cases h1:x.kind=y.kind;rotate_left
  · simp only[↓aB,aA,rE,↓reduceIte,rA,aE,aD,eB d1,eB c2,Aa h1]
    refine aR ?_;simp only[↓aB,aA,rE,↓reduceIte,rA];exact⟨⟨false,rfl,no h1 fun e h=>h (by rw[e])⟩,s12⟩
  by_cases h2:x.player=y.player;rotate_left
  · simp only[↓aB,aA,rE,↓reduceIte,rA,aE,aD,eB d1,eB c2,cO d1,cO c2,Ab h1,Aa h2]
    refine aR ?_;simp only[↓aB,aA,rE,↓reduceIte,rA];exact⟨⟨false,rfl,no h2 fun e h=>h (by rw[e])⟩,s12⟩
  by_cases h3:x.info=y.info;rotate_left
  · simp only[↓aB,aA,rE,↓reduceIte,rA,aE,aD,eB d1,eB c2,cO d1,cO c2,cP d1,cP c2,Ab h1,Ab h2,Aa h3]
    refine aR ?_;simp only[↓aB,aA,rE,↓reduceIte,rA];exact⟨⟨false,rfl,no h3 fun e h=>h (by rw[e])⟩,s12⟩
  simp only[↓aB,aA,rE,↓reduceIte,rA,aE,aD,eB d1,eB c2,cO d1,cO c2,cP d1,cP c2,dD d1,dD c2,Ab h1,Ab h2,Ab h3];refine aY ?_;simp only[↓aB,aA,rE,↓reduceIte,rA];refine aO (jX H (x1.same s12) (y1.same s12) l1) ?_;rintro _ Y ⟨rfl,sY⟩;have s3:=s12.trans sY;have d3:=(sY.2 _ (show S.nx<S2.nx by omega)).trans d1;have e3:=(sY.2 _ (show S1.nx<S2.nx by omega)).trans c2;by_cases h4:x.next=y.next;rotate_left
  · simp only[↓aB,aA,rE,↓reduceIte,rA,Aa h4]
    refine aR ?_;simp only[↓aB,aA,rE,↓reduceIte,rA];exact⟨⟨false,rfl,no h4 fun e h=>h (by rw[e])⟩,s3⟩
  simp only[↓aB,aA,rE,↓reduceIte,rA,aE,aD,dH d3,dH e3,Ab h4];refine aY ?_;simp only[↓aB,aA,rE,↓reduceIte,rA];refine aO (jX H (x2.same s3) (y2.same s3) l2) ?_;rintro _ Z ⟨rfl,sZ⟩;have s4:=s3.trans sZ;have nY:=sY.1;have d4:=(sZ.2 _ (show S.nx<Y.nx by omega)).trans d3;have e4:=(sZ.2 _ (show S1.nx<Y.nx by omega)).trans e3;by_cases h5:x.weights=y.weights;rotate_left
  · simp only[↓aB,aA,rE,↓reduceIte,rA,Aa h5]
    refine aR ?_;simp only[↓aB,aA,rE,↓reduceIte,rA];exact⟨⟨false,rfl,no h5 fun e h=>h (by rw[e])⟩,s4⟩
  simp only[↓aB,aA,rE,↓reduceIte,rA,aE,aD,dE d4,dE e4,Ab h5];refine aY ?_;simp only[↓aB,aA,rE,↓reduceIte,rA];refine aO (jX H (x3.same s4) (y3.same s4) l3) ?_;rintro _ V ⟨rfl,sV⟩;by_cases h6:x.pay=y.pay
  · simp only[↓aB,aA,rE,↓reduceIte,rA,Ab h6]
    refine aR ?_;simp only[↓aB,aA,rE,↓reduceIte,rA];exact⟨⟨true,rfl,fun _=>aEG h1 h2 h3 h4 h5 h6,fun _=>rfl⟩,s4.trans sV⟩
  · simp only[↓aB,aA,rE,↓reduceIte,rA,Aa h6]
    refine aR ?_;simp only[↓aB,aA,rE,↓reduceIte,rA];exact⟨⟨false,rfl,no h6 fun e h=>h (by rw[e])⟩,s4.trans sV⟩
def aQC(S:St)(ca cb:Option AB)(ga gb:Nat)(l m:List bO)(k:Nat)(A:bH)(X:St):Prop:=A.inr=false∧Same S X∧ga<X.nx∧gb<X.nx∧X.h.get ga=ca∧X.h.get gb=cb∧∃i:Nat,i+k=l.length∧l.take i=m.take i∧aH 2 A.F= .ptr ga 0∧aH 3 A.F= .ptr gb 0∧aH 5 A.F= .int .i64 (i:Int)
theorem aCI{S:St}{nv iv mv jv:AV}{p:Int}{l m:List bO}{is:List zA}(H:Has fns)(hn:aQ 6 cC S nv l)(hi:aQ 2 dI S iv is)(hm:aQ 6 cC S mv m)(hj:aQ 2 dI S jv is)(hI:is.length≤140737488355328)(hB:∀x∈l,x.next.length * 8≤140737488355328∧x.weights.length * 8≤140737488355328∧x.pay.length * 8≤140737488355328)(hln:l.length≤100000):
    fB fns (.fn 22 [] []) [.agg [.int .i64 p,nv,iv],.agg [.int .i64 p,mv,jv]] S fun r S'=>(∃t,r= .bool t∧(t=true↔l=m))∧Same S S':=by
  refine bN H.f22 (by simp) ?_;simp only[↓sU,sD,rE,↓reduceIte,rA];refine bL ?_;refine cL (cs:=[.int .i64 p,nv,iv]) rfl ?_;intro S1 s1 n1 c1;refine cL (cs:=[.int .i64 p,mv,jv]) rfl ?_;intro S2 s2 n2 c2;simp only[↓sU,sD,rE,↓reduceIte,rA];have d1:=(s2.2 _ (show S.nx<S1.nx by omega)).trans c1;have sS:=s1.trans s2;have l1:S.nx<S2.nx:=by omega
  have l2:S1.nx<S2.nx:=by omega
  refine fY ?_;by_cases hlm:l.length=m.length;rotate_left
  · have hc:((l.length:Nat):Int)≠((m.length:Nat):Int):=by omega
    simp only[↓sU,sD,rE,↓reduceIte,rA,aE,aD,lC d1,lC c2,cN d1,cN c2,jD d1,jD c2,aQ.len hn,aQ.len hm,ne_eq,Bz,decide_false,Ab hc];refine aN (by simp only[↓sU,sD,rE,↓reduceIte,rA];try rfl) (aC (aF ?_));simp only[↓sU,sD,rE,↓reduceIte,rA];refine aR ?_;simp only[↓sU,sD,rE,↓reduceIte,rA];exact⟨⟨false,rfl,(fun e=>by cases e),fun e=>absurd (by rw[e]) hlm⟩,sS⟩
  have hc:¬ ((l.length:Nat):Int)≠((m.length:Nat):Int):=by omega
  simp only[↓sU,sD,rE,↓reduceIte,rA,aE,aD,lC d1,lC c2,cN d1,cN c2,jD d1,jD c2,aQ.len hn,aQ.len hm,ne_eq,Bz,decide_false,Aa hc];refine aY ?_;simp only[↓sU,sD,rE,↓reduceIte,rA];refine aO (wD H (aQ.same (E:=dI) cR hi sS) (aQ.same (E:=dI) cR hj sS) hI) ?_;rintro _ X ⟨rfl,hX⟩;have sX:=sS.trans hX;have dX:=(hX.2 _ l1).trans d1;have cX:=(hX.2 _ l2).trans c2;simp only[↓sU,sD,rE,↓reduceIte,rA,eC,Bd];refine aL (by simp only[↓sU,sD,rE,↓reduceIte,rA]) (aI ?_);try simp only[↓sU,sD,rE,↓reduceIte,rA]
  refine aC (aT (Q:=fun o A' Z=>(o= .normal∧A'.inr=false∧Same S Z∧l=m)∨(o= .ret∧Same S Z∧l≠m∧aH 4 A'.F= .bool false)) (aC (aF ?_)) ?_)
  · simp only[↓sU,sD,rE,↓reduceIte,rA]
    refine aK (bG (aQC S (some (.cells [.int .i64 p,nv,iv] false 0)) (some (.cells [.int .i64 p,mv,jv] false 0)) S.nx S1.nx l m) ?_ l.length _ _ ⟨rfl,sX,Ae l1 hX.1,Ae l2 hX.1,dX,cX,0,by omega,rfl,by refine⟨?_,?_,?_⟩<;>simp only[↓sU,sD,rE,↓reduceIte,rA]⟩);rintro k ⟨F,inr⟩ V ⟨q0,hV,la,lb,dV,cV,i,hik,he,p2,p3,p5⟩;simp only at q0 p2 p3 p5;subst q0;refine fY ?_;simp only[↓sU,sD,rE,↓reduceIte,rA,p2,p5,aE,aD,cN dV,aQ.len hn];by_cases hlt:i<l.length;rotate_left
    · refine aL (by simp only[↓sU,sD,rE,↓reduceIte,rA,Aa (show ¬ (i:Int)<((l.length:Nat):Int) by omega)]) (bD ?_)
      simp only[↓sU,sD,rE,↓reduceIte,rA];rw[Ay (by omega),Ay (by omega)] at he;exact .inl ⟨hV,he⟩
    refine aN (by simp only[↓sU,sD,rE,↓reduceIte,rA,Ab (show(i:Int)<((l.length:Nat):Int) by omega)]) (aI ?_);try simp only[↓sU,sD,rE,↓reduceIte,rA]
    obtain⟨x,hx⟩:∃x,l[i]? =some x:=⟨_,Ad hlt⟩;obtain⟨y,hy⟩:∃y,m[i]? =some y:=⟨_,Ad (show i<m.length by omega)⟩;obtain⟨_,bx,qx,iax,hbx,_,⟨xa,xw,xp,rfl,x1,x2,x3⟩,ldx,_⟩:=aQ.at (aQ.same (E:=cC) bR hn hV) (by decide) hx;obtain⟨_,by',qy,iay,hby,_,⟨ya,yw,yp,rfl,y1,y2,y3⟩,ldy,_⟩:=aQ.at (aQ.same (E:=cC) bR hm hV) (by decide) hy;obtain⟨u1,u2,u3⟩:=hB x (Ao hx);have s1':=tM (dG .i64 x.kind) (dG .i64 x.player) (dG .i64 x.info) (bI.self x1) (bI.self x2) (bI.self x3);have s2':=tM (dG .i64 y.kind) (dG .i64 y.player) (dG .i64 y.info) (bI.self y1) (bI.self y2) (bI.self y3);have snv:=aQ.self hn;have smv:=aQ.self hm;have w0:IntKind.i64.wrap ((i:Int)+1)=((i+1:Nat):Int):=by rw[wrap_i64 (by omega) (by omega)];omega
    refine aC (aK (aC (dM (fun _=>False) ?_)));intro Y sY;simp only[↓sU,sD,rE,↓reduceIte,rA,p2,p3,p5,aE,aW,aD,cN dV,cN cV,la,lb,An,snv,smv,aG,iax,iay,ldx,ldy,hbx,hby,s1',s2'];refine bS rfl ?_;simp only[↓sU,sD,rE,↓reduceIte,rA];refine aO (aCE H (x1.same sY) (x2.same sY) (x3.same sY) (y1.same sY) (y2.same sY) (y3.same sY) (by omega) (by omega) (by omega)) ?_;rintro _ Z ⟨⟨t,rfl,ht⟩,hZ⟩;refine⟨hZ,?_⟩;have sVZ:=sY.trans hZ;try simp only[↓sU,sD,rE,↓reduceIte,rA,eC]
    cases t with
    | true=>
      refine aL (by simp only[↓sU,sD,rE,↓reduceIte,rA,Bd]) (aI ?_);try simp only[↓sU,sD,rE,↓reduceIte,rA]
      refine aF ?_;simp only[↓sU,sD,rE,↓reduceIte,rA,p5,w0];exact⟨k - 1,by omega,rfl,hV.trans sVZ,Ae la sVZ.1,Ae lb sVZ.1,(sVZ.2 _ la).trans dV,(sVZ.2 _ lb).trans cV,i+1,by omega,(aDH hlm hlt).2 ⟨he,by rw[hx,hy,ht.1 rfl]⟩,by refine⟨?_,?_,?_⟩<;>simp only[↓sU,sD,rE,↓reduceIte,rA,p2,p3]⟩
    | false=>
      refine aN (by simp only[↓sU,sD,rE,↓reduceIte,rA,Bk]) (aC (aF ?_));simp only[↓sU,sD,rE,↓reduceIte,rA];refine aR ?_;refine .inr ⟨rfl,hV.trans sVZ,fun e=>?_,by simp only[↓sU,sD,rE,↓reduceIte,rA]⟩;rw[e,hy] at hx;cases hx;exact absurd (ht.2 rfl) (by decide)
  rintro o ⟨F,inr⟩ Z (⟨rfl,q0,hZ,he⟩ | ⟨rfl,hZ,hne,p4⟩);rotate_left
  · simp only at p4
    simp only[↓sU,sD,rE,↓reduceIte,rA,p4];exact⟨⟨false,rfl,(fun e=>by cases e),fun e=>absurd e hne⟩,hZ⟩
  simp only at q0;subst q0;try simp only[↓sU,sD,rE,↓reduceIte,rA]
  refine bL ?_;simp only[↓sU,sD,rE,↓reduceIte,rA];refine aR ?_;simp only[↓sU,sD,rE,↓reduceIte,rA];exact⟨⟨true,rfl,fun _=>he,fun _=>rfl⟩,hZ⟩
def PV(m:UyS)(c:Nat):Prop:=aX m.na≠some c∧∀a∈m.l,aX a.2≠some c
def NdX(S0 X:St)(m:UyS)(e:List AV)(a:bO×AV):Prop:=∃xw xp,e= [.int .i64 a.1.kind,.int .i64 a.1.player,.int .i64 a.1.info,a.2,xw,xp]∧iD 1 S0 X a.2 a.1.next.length (bF a.1.next)∧bI .i64 X xw a.1.weights∧bI .i64 X xp a.1.pay∧∀c,(aX xw=some c∨aX xp=some c)→S0.nx≤c∧PV m c
structure yZ(S0 X:St)(m:UyS):Prop where
  nod:qC 6 (NdX S0 X m) S0 X m.na m.l
  rn:∀a∈m.l,∀c,aX a.2=some c→(S0.nx≤c∧c<X.nx)∧aX m.na≠some c
  dj:∀ (i j:Nat) (a b:bO×AV),i≠j→m.l[i]? =some a→m.l[j]? =some b→∀c,aX a.2=some c→aX b.2≠some c
def yN(m:UyS)(X:St)(m':UyS)(X':St):Prop:=X.nx≤X'.nx∧∀c,c<X.nx→PV m c→X'.h.get c=X.h.get c∧PV m' c
section
variable {S0 X X':St}{m m' m'':UyS}
theorem NdX.move{e:List AV}{a:bO×AV}(h:NdX S0 X m e a)(hn:X.nx≤X'.nx)(hr:∀c,aX a.2=some c→X'.h.get c=X.h.get c)(hh:∀c,c<X.nx→PV m c→X'.h.get c=X.h.get c∧PV m' c):NdX S0 X' m' e a:=by
  obtain⟨xw,xp,rfl,h1,h2,h3,h4⟩:=h;refine⟨xw,xp,rfl,h1.move hn hr,dJ h2 hn fun c hc=>(hh c (dP h2 hc) (h4 c (.inl hc)).2).1,dJ h3 hn fun c hc=>(hh c (dP h3 hc) (h4 c (.inr hc)).2).1,fun c hc=>⟨(h4 c hc).1,?_⟩⟩;rcases hc with hc | hc
  · exact(hh c (dP h2 hc) (h4 c (.inl hc)).2).2
  · exact(hh c (dP h3 hc) (h4 c (.inr hc)).2).2
theorem yN.trans{X'':St}(h:yN m X m' X')(h':yN m' X' m'' X''):yN m X m'' X'':=
  ⟨Ba h.1 h'.1,fun c hc hp=>by
    obtain⟨a,b⟩:=h.2 c hc hp;obtain⟨a',b'⟩:=h'.2 c (Ae hc h.1) b;exact⟨a'.trans a,b'⟩⟩
theorem yN.same(h:Same X X'):yN m X m X':=⟨h.1,fun c hc hp=>⟨h.2 c hc,hp⟩⟩
theorem yZ.row_of(h:yZ S0 X m){j:Nat}{a:bO×AV}(hj:m.l[j]? =some a){c:Nat}(hc:aX a.2=some c):(S0.nx≤c∧c<X.nx)∧aX m.na≠some c:=h.rn a (Ao hj) c hc
theorem yZ.low(h:yZ S0 X m){c:Nat}(hc:c<S0.nx):PV m c:=
  ⟨fun e=>by have:=(h.nod.blk e).1;omega,fun a ha e=>by have:=(h.rn a ha c e).1;omega⟩
theorem yZ.fresh(h:yZ S0 X m){c:Nat}(hc:X.nx≤c):PV m c:=
  ⟨fun e=>by have:=(h.nod.blk e).2;omega,fun a ha e=>by have:=(h.rn a ha c e).1;omega⟩
theorem yZ.same0(h:yZ S0 X m)(K:yN m X m' X')(hS:Same S0 X):Same S0 X':=
  ⟨Ba hS.1 K.1,fun c hc=>((K.2 c (Ae hc hS.1) (h.low hc)).1).trans (hS.2 c hc)⟩
theorem yZ.same(h:yZ S0 X m)(hs:Same X X'):yZ S0 X' m:=
  ⟨by
    rcases h.nod with h0 | ⟨b,c,cs,e0,g1,g2,g3,g4,g5,g6,g7⟩
    · exact .inl h0
    · refine .inr ⟨b,c,cs,e0,g1,g2,g3,Ae g4 hs.1,(hs.2 b g4).trans g5,g6,fun i a hi=>?_⟩
      obtain⟨e,e1,e2,e3⟩:=g7 i a hi;exact⟨e,e1,e2,e3.move hs.1 (fun c hc=>hs.2 c (h.row_of hi hc).1.2) fun c hc hp=>⟨hs.2 c hc,hp⟩⟩,
   fun a ha c hc=>⟨⟨(h.rn a ha c hc).1.1,Ae (h.rn a ha c hc).1.2 hs.1⟩,(h.rn a ha c hc).2⟩,h.dj⟩
theorem yZ.pushN(h:yZ S0 X m){v':AV}{a:bO}(hn:X.nx≤X'.nx)(hk:∀c,c<X.nx→aX m.na≠some c→X'.h.get c=X.h.get c)(hb:∀c,aX v'=some c→aX m.na=some c∨X.nx≤c)(ha:qC 6 (NdX S0 X m) S0 X' v' (m.l++ [(a,.nilsl)])):yZ S0 X' ⟨v',m.l++ [(a,.nilsl)]⟩∧yN m X ⟨v',m.l++ [(a,.nilsl)]⟩ X':=by
  have mem:∀ {y c},y∈m.l++ [((a,.nilsl):bO×AV)]→aX y.2=some c→y∈m.l:=fun hy hc=>by
    rcases Bj.1 hy with h1 | h1
    · exact h1
    · rw[Ca.1 h1] at hc;cases hc
  have K:yN m X ⟨v',m.l++ [(a,.nilsl)]⟩ X':=⟨hn,fun c hc hp=>⟨hk c hc hp.1,fun e=>(hb c e).elim (fun h1=>hp.1 h1) fun h1=>absurd hc (Nat.not_lt.2 h1),fun y hy e=>hp.2 y (mem hy e) e⟩⟩;have nv:∀ {c},aX m.na≠some c→c<X.nx→aX v'≠some c:=fun h1 h2 e=>(hb _ e).elim h1 fun h3=>absurd h2 (Nat.not_lt.2 h3);refine⟨⟨?_,fun y hy c hc=>?_,fun i j x y hij hx hy c hc hc'=>?_⟩,K⟩
  · rcases ha with h0 | ⟨b,c,cs,e0,g1,g2,g3,g4,g5,g6,g7⟩
    · exact .inl h0
    · refine .inr ⟨b,c,cs,e0,g1,g2,g3,g4,g5,g6,fun i y hi=>?_⟩
      obtain⟨e,e1,e2,e3⟩:=g7 i y hi;refine⟨e,e1,e2,e3.move hn (fun c hc=>?_) K.2⟩;have:=h.rn y (mem (Ao hi) hc) c hc;exact hk c this.1.2 this.2
  · have:=h.rn y (mem hy hc) c hc
    exact⟨⟨this.1.1,Ae this.1.2 hn⟩,nv this.2 this.1.2⟩
  · rw[Di] at hx hy
    split at hx
    · split at hy
      · exact h.dj i j x y hij hx hy c hc hc'
      · have:=Ao hy
        rw[Ca] at this;rw[this] at hc';cases hc'
    · have:=Ao hx
      rw[Ca] at this;rw[this] at hc;cases hc
theorem yZ.row_at(h:yZ S0 X m){i:Nat}{a:bO}{v:AV}(hi:m.l[i]? =some (a,v)):∃b p,eJ (.slice 6) m.na i=some (.ptr b p)∧aX m.na=some b∧b<X.nx∧cE (.ptr b (p+3)) false 1 X.h=some v∧iD 1 S0 X v a.next.length (bF a.next):=by
  rcases h.nod with⟨_,h0⟩ | ⟨b,c,cs,e0,g1,g2,g3,g4,g5,g6,g7⟩
  · rw[h0] at hi;cases hi
  · obtain⟨e,e1,e2,xw,xp,rfl,e4,_⟩:=g7 i _ hi
    have hil:=(Af.1 hi).1;refine⟨b,0+i * 6,?_,by rw[e0];rfl,g4,fU g5 (by rw[Av];exact e2 3 v rfl),e4⟩;rw[e0];show bK (Nat.blt i m.l.length) _ _=_;rw[show Nat.blt i m.l.length=true from Aj hil,aP]
theorem yZ.row(h:yZ S0 X m){i:Nat}{a:bO}{v v':AV}{w:Int}(hi:m.l[i]? =some (a,v))(hn:X.nx≤X'.nx)(hk:∀c,c<X.nx→aX v≠some c→X'.h.get c=X.h.get c)(hg:iD 1 S0 X' v' (a.next++ [w]).length (bF (a.next++ [w])))(hb:∀c,aX v'=some c→X.nx≤c):
    ∃b p X'',eJ (.slice 6) m.na i=some (.ptr b p)∧aX m.na=some b∧b<X.nx∧kN (.ptr b (p+3)) 1 [v'] X'=some (.undef,X'')∧X''.nx=X'.nx∧yZ S0 X'' (vS m i a w v')∧yN m X (vS m i a w v') X'':=by
  have hil:=(Af.1 hi).1;have lv:∀ {c},aX v=some c→_:=fun hc=>h.row_of hi hc;have nav:∀ {c},aX m.na=some c→aX v≠some c:=fun hc e=>(lv e).2 hc;have hX':qC 6 (NdX S0 X m) S0 X' m.na m.l:=by
    rcases h.nod with h0 | ⟨b,c,cs,e0,g1,g2,g3,g4,g5,g6,g7⟩
    · exact .inl h0
    · exact .inr ⟨b,c,cs,e0,g1,g2,g3,Ae g4 hn,(hk b g4 (nav (by rw[e0];rfl))).trans g5,g6,g7⟩
  have mem:∀ {y},y∈m.l.set i ({a with next:=a.next++ [w]},v')→(∃j,j≠i∧m.l[j]? =some y)∨y=({a with next:=a.next++ [w]},v'):=fun {y} hy=>by
    obtain⟨j,hj,e⟩:=List.getElem_of_mem hy;rw[List.getElem_set] at e;split at e
    · exact .inr e.symm
    · rename_i hne
      rw[Be] at hj;exact .inl ⟨j,fun e=>hne e.symm,by rw[←e];exact Ad hj⟩
  have pb:∀c,c<X.nx→PV m c→PV (vS m i a w v') c:=fun c hc hp=>⟨hp.1,fun y hy e=>by
    rcases mem hy with⟨j,_,hj⟩ | rfl
    · exact hp.2 y (Ao hj) e
    · have:=hb c e;omega⟩
  have hkp:∀c,c<X.nx→PV m c→X'.h.get c=X.h.get c:=fun c hc hp=>hk c hc (hp.2 _ (Ao hi));obtain⟨bb,gp,hbb⟩:∃b,aX m.na=some b∧b<X.nx:=by
    obtain⟨b,_,_,h1,h2,_⟩:=h.row_at hi;exact⟨b,h1,h2⟩
  obtain⟨b,p,X'',k1,k2,k3,k4,k5,k6,k7⟩:=qC.fldU (E':=NdX S0 ⟨X'.h,X'.nx⟩ (vS m i a w v')) (a':=({a with next:=a.next++ [w]},v')) (x:=v') (q:=3) hX' hi (by decide) (fun j y e hj hne hE=>hE.move hn (fun c hc=>hk c (h.row_of hj hc).1.2 (h.dj j i y _ hne hj hi c hc)) fun c hc hp=>⟨hkp c hc hp,pb c hc hp⟩) fun e hE=>by
      obtain⟨xw,xp,rfl,h1,h2,h3,h4⟩:=hE;refine⟨xw,xp,rfl,hg,dJ h2 hn fun c hc=>hkp c (dP h2 hc) (h4 c (.inl hc)).2,dJ h3 hn fun c hc=>hkp c (dP h3 hc) (h4 c (.inr hc)).2,fun c hc=>⟨(h4 c hc).1,pb c ?_ (h4 c hc).2⟩⟩;rcases hc with hc | hc
      · exact dP h2 hc
      · exact dP h3 hc
  rw[gp] at k2;cases k2;refine⟨bb,p,X'',k1,gp,hbb,k4,k6,⟨?_,fun y hy c hc=>?_,fun i' j x y hij hx hy c hc hc'=>?_⟩,⟨by omega,fun c hc hp=>⟨?_,pb c hc hp⟩⟩⟩
  · rcases k5 with h0 | ⟨b',c,cs,e0,g1,g2,g3,g4,g5,g6,g7⟩
    · exact .inl h0
    · refine .inr ⟨b',c,cs,e0,g1,g2,g3,g4,g5,g6,fun j y hj=>?_⟩
      obtain⟨e,e1,e2,e3⟩:=g7 j y hj;refine⟨e,e1,e2,e3.move (by show X'.nx≤X''.nx;omega) (fun c hc=>k7 c fun e=>?_) fun c _ hp=>⟨k7 c fun e=>hp.1 (by rw[e];exact gp),hp⟩⟩;rcases mem (Ao hj) with⟨j',_,hj'⟩ | rfl
      · exact(h.row_of hj' hc).2 (by rw[e];exact gp)
      · have:=hb c hc;omega
  · rcases mem hy with⟨j,_,hj⟩ | rfl
    · have:=h.row_of hj hc
      exact⟨⟨this.1.1,by omega⟩,this.2⟩
    · have h1:=hg.blk hc
      have h2:=hb c hc;exact⟨⟨h1.1,by omega⟩,fun e=>by have:=(h.nod.blk e).2;omega⟩
  · unfold vS at hx hy
    rw[Dm] at hx hy;have hlo:∀ {q:Nat} {y:bO×AV},m.l[q]? =some y→aX y.2=some c→c<X.nx:=fun hq hc=>(h.row_of hq hc).1.2;split at hx
    · split at hy
      · rename_i e1 e2;exact hij (e1.symm.trans e2)
      · try rw[if_pos hil] at hx
        cases hx;have:=hb c hc;have:=hlo hy hc';omega
    · split at hy
      · try rw[if_pos hil] at hy
        cases hy;have:=hb c hc';have:=hlo hx hc;omega
      · exact h.dj i' j x y hij hx hy c hc hc'
  · rw[k7 c (fun e=>hp.1 (by rw[e];exact gp))]
    exact hk c hc fun e=>hp.2 _ (Ao hi) e
theorem yZ.keep(h:yZ S0 X m)(hn:X.nx≤X'.nx)(hk:∀c,S0.nx≤c→c<X.nx→X'.h.get c=X.h.get c):yZ S0 X' m:=
  ⟨by
    rcases h.nod with h0 | ⟨b,c,cs,e0,g1,g2,g3,g4,g5,g6,g7⟩
    · exact .inl h0
    · refine .inr ⟨b,c,cs,e0,g1,g2,g3,Ae g4 hn,(hk b g3 g4).trans g5,g6,fun i a hi=>?_⟩
      obtain⟨e,e1,e2,xw,xp,rfl,h1,h2,h3,h4⟩:=g7 i a hi;exact⟨_,e1,e2,xw,xp,rfl,h1.move hn fun c hc=>hk c (h.row_of hi hc).1.1 (h.row_of hi hc).1.2,dJ h2 hn fun c hc=>hk c (h4 c (.inl hc)).1 (dP h2 hc),dJ h3 hn fun c hc=>hk c (h4 c (.inr hc)).1 (dP h3 hc),h4⟩,
   fun a ha c hc=>⟨⟨(h.rn a ha c hc).1.1,Ae (h.rn a ha c hc).1.2 hn⟩,(h.rn a ha c hc).2⟩,h.dj⟩
theorem yZ.newG{S:St}(h:yZ S0 X m)(hS:S.nx≤S0.nx){p:Int}{jv:AV}{is:List zA}(hj:aQ 2 dI X jv is)(hb:∀c,aX jv=some c→S.nx≤c∧c<X.nx):aHm S X (.agg [.int .i64 p,m.na,jv]) ⟨p,m.l.map (·.1),is⟩:=fun X2 m2 k2=>by
  have k3:∀c,S0.nx≤c→c<X.nx→X2.h.get c=X.h.get c:=fun c h1 h2=>k2 c (Ba hS h1) h2;refine⟨m.na,jv,rfl,?_,aQ.moveB hj m2 (fun c hc=>k2 c (hb c hc).1 (hb c hc).2) fun _ _ h=>h⟩;rcases(h.keep m2 k3).nod with⟨h0,h1⟩ | ⟨b,c,cs,e0,g1,g2,g3,g4,g5,g6,g7⟩
  · exact .inl ⟨by show m.l.map _= [];rw[h1];rfl,.inl h0⟩
  · refine .inr ⟨b,0,c,true,cs,by show _=AV.sl b 0 (m.l.map _).length _ _;rw[Ax];exact e0,by show(m.l.map _).length≤_;rw[Ax];exact g1,g4,by unfold cK;rw[g5];rfl,fun i a hi=>?_⟩
    have hi:(m.l.map (·.1))[i]? =some a:=hi;rw[Bc,Ap] at hi;obtain⟨y,hy,rfl⟩:=hi;obtain⟨e,e1,e2,xw,xp,rfl,h1,h2,h3,h4⟩:=g7 i y hy;exact⟨_,e1,fun j x hj=>by rw[Av];exact e2 j x hj,y.2,xw,xp,rfl,h1.is,h2,h3⟩
end
theorem aOv{F:Fr}{h:Ev.T AB}{k p f:Int}{r2 r3:AV}(h1:aH 19 F= .int .i64 k)(h2:aH 21 F= .int .i64 p)(h3:aH 23 F= .int .i64 f)(h4:aH 27 F=r2)(h5:aH 31 F=r3)(hr2:r2.cells=some [r2])(hr3:r3.cells=some [r3]):gT (.build [.int .i64 0,.int .i64 0,.int .i64 0,.nilsl,.nilsl,.nilsl] [(0,1,.t 19),(1,1,.t 21),(2,1,.t 23),(4,1,.t 27),(5,1,.t 31)]) F h=some (.agg [.int .i64 k,.int .i64 p,.int .i64 f,.nilsl,r2,r3]):=by
  show(aZ (gM _ (fJ F [(0,1,.t 19),(1,1,.t 21),(2,1,.t 23),(4,1,.t 27),(5,1,.t 31)])) fun cs=>some (AV.agg cs))=_;simp only[fJ,show(cF.t 19).val F= .int .i64 k from h1,show(cF.t 21).val F= .int .i64 p from h2,show(cF.t 23).val F= .int .i64 f from h3,show(cF.t 27).val F=r2 from h4,show(cF.t 31).val F=r3 from h5,gM,cH,hr2,hr3,aM];rfl
theorem aLV{S0 W:St}{F:Fr}{inr:Bool}{nb:Nat}{x:bO}{m:UyS}{xa xw xp:AV}{Q:Out→bH→St→Prop}(hV:yZ S0 W m)(hS:S0.nx≤W.nx)(hml:m.l.length≤100000)(p2:aH 2 F=m.na)(p7:aH 7 F= .ptr nb 0)(hb:W.h.get nb=some (.cells [.int .i64 x.kind,.int .i64 x.player,.int .i64 x.info,xa,xw,xp] false 0))(lb:nb<W.nx)(pb:PV m nb)(h2:bI .i64 W xw x.weights)(h3:bI .i64 W xp x.pay)(b2:x.weights.length * 8≤140737488355328)(b3:x.pay.length * 8≤140737488355328)
    (hQ:∀F' Z v',(∀j,j<17→j≠2→aH j F'=aH j F)→aH 2 F'=v'→yZ S0 Z ⟨v',m.l++ [({x with next:=[]},.nilsl)]⟩→yN m W ⟨v',m.l++ [({x with next:=[]},.nilsl)]⟩ Z→Q .normal ⟨F',inr⟩ Z):nO fns (.drw aL3) ⟨F,inr⟩ W Q:=by
  have s2:=bI.self h2;have s3:=bI.self h3;have nnb:¬aX m.na=some nb:=pb.1;refine fP (fun c=>aX m.na=some c) ?_;intro Y hY hY0 nY;have nY:Y.nx=W.nx+19:=nY;unfold aL3;simp only[↓sU,sD,rE,↓reduceIte,rA,p2,p7,aE,aW,aD,eB hb,cO hb,cP hb,dH hb,lb,nnb,An,s2,oN];obtain⟨U1,hU1⟩:∃U:St,U=⟨Y.h.set (W.nx+7) (some (.cells [] false 0)),Y.nx⟩:=⟨_,rfl⟩;have sU1:Same W U1:=by rw[hU1];exact⟨hY.1,fun c hc=>by simp only;rw[T.get_set,if_neg (by omega)];exact hY.2 c hc⟩
  have gU1:U1.h.get (W.nx+7)=some (.cells [] false 0):=by rw[hU1];simp only;rw[T.get_set,if_pos rfl]
  have nU1:U1.nx=W.nx+19:=by rw[hU1];exact nY
  obtain⟨r2,V1,e1,i1,v1,k1,_⟩:=yA (bytes:=8) (E:=aHt) (l:=x.weights) tA Nat.one_pos gU1 (by omega) (toG (h2.same sU1)) (by unfold room;omega) (by unfold room;omega);refine lN rfl (by rw[cJ rfl];simp only[↓sU,sD,rE,↓reduceIte,rA];rw[←hU1];exact e1) ?_ ?_
  · rw[cJ rfl,←hU1]
    exact⟨v1.1,fun c hc _=>v1.2 c (by omega)⟩
  rw[cJ rfl];have sV1:=sU1.trans v1;simp only[↓sU,sD,rE,↓reduceIte,rA,p7,aE,aW,aD,dE hb,lb,nnb,An,s3,oN];obtain⟨U2,hU2⟩:∃U:St,U=⟨V1.h.set (W.nx+11) (some (.cells [] false 0)),V1.nx⟩:=⟨_,rfl⟩;have sU2:Same W U2:=by rw[hU2];exact⟨sV1.1,fun c hc=>by simp only;rw[T.get_set,if_neg (by omega)];exact sV1.2 c hc⟩
  have gU2:U2.h.get (W.nx+11)=some (.cells [] false 0):=by rw[hU2];simp only;rw[T.get_set,if_pos rfl]
  have nU2:U2.nx=V1.nx:=by rw[hU2]
  have nV1:=v1.1;have b1:∀c,aX r2=some c→c≠W.nx+11∧c≠W.nx+16∧W.nx≤c:=fun c hc=>by rcases k1 c hc with h | h<;>omega
  have i1U:bI .i64 U2 r2 x.weights:=dJ (ofG i1) (by omega) fun c hc=>by
    rw[hU2];simp only;rw[T.get_set,if_neg (b1 c hc).1]
  obtain⟨r3,V2,e2,i2,v2,k2,_⟩:=yA (bytes:=8) (E:=aHt) (l:=x.pay) tA Nat.one_pos gU2 (by omega) (toG (h3.same sU2)) (by unfold room;omega) (by unfold room;omega);refine lN rfl (by rw[cJ rfl];simp only[↓sU,sD,rE,↓reduceIte,rA];rw[←hU2];exact e2) ?_ ?_
  · rw[cJ rfl,←hU2]
    exact⟨v2.1,fun c hc _=>v2.2 c (by omega)⟩
  rw[cJ rfl];have sV2:=sU2.trans v2;have nV2:=v2.1;have b3':∀c,aX r3=some c→W.nx≤c∧c≠W.nx+16:=fun c hc=>by rcases k2 c hc with h | h<;>omega
  have i1V:=i1U.same v2;simp only[↓sU,sD,rE,↓reduceIte,rA,iV];rw[aOv (k:=x.kind) (p:=x.player) (f:=x.info) (r2:=r2) (r3:=r3) (by simp only[↓sU,sD,rE,↓reduceIte,rA]) (by simp only[↓sU,sD,rE,↓reduceIte,rA]) (by simp only[↓sU,sD,rE,↓reduceIte,rA]) (by simp only[↓sU,sD,rE,↓reduceIte,rA]) (by simp only[↓sU,sD,rE,↓reduceIte,rA]) (bI.cells i1U) (bI.cells (ofG i2))];have he1:=fun(F:Fr) (id:Nat) (h:aH 32 F= .agg [.int .i64 x.kind,.int .i64 x.player,.int .i64 x.info,.nilsl,r2,r3])=>aF2 (t:=54) (z0:=.int .i64 0) (z1:=.int .i64 0) (z2:=.int .i64 0) (z3:=.nilsl) (z4:=.nilsl) (z5:=.nilsl) (x:=.t 32) (F:=F) (id:=id) h;simp only[↓sU,sD,rE,↓reduceIte,rA,he1];obtain⟨U3,hU3⟩:∃U:St,U=⟨V2.h.set (W.nx+16) (some (.cells [.int .i64 x.kind,.int .i64 x.player,.int .i64 x.info,.nilsl,r2,r3] false 0)),V2.nx⟩:=⟨_,rfl⟩;have sU3:Same W U3:=by rw[hU3];exact⟨sV2.1,fun c hc=>by simp only;rw[T.get_set,if_neg (by omega)];exact sV2.2 c hc⟩
  have gU3:U3.h.get (W.nx+16)=some (.cells [.int .i64 x.kind,.int .i64 x.player,.int .i64 x.info,.nilsl,r2,r3] false 0):=by rw[hU3];simp only;rw[T.get_set,if_pos rfl]
  have nU3:U3.nx=V2.nx:=by rw[hU3]
  have i2U3:bI .i64 U3 r2 x.weights:=dJ i1V (by omega) fun c hc=>by
    rw[hU3];simp only;rw[T.get_set,if_neg (b1 c hc).2.1]
  have i3U3:bI .i64 U3 r3 x.pay:=dJ (ofG i2) (by omega) fun c hc=>by
    rw[hU3];simp only;rw[T.get_set,if_neg (b3' c hc).2]
  have lU:=hV.same sU3;obtain⟨v',V,eA,aV,nV,kV,bV⟩:=lU.nod.push (bytes:=96) (x:=.sl (W.nx+16) 0 1 1 false) (a:=(({x with next:=[]}:bO),AV.nilsl)) (by decide) (by omega) rfl (aOO gU3) rfl ⟨r2,r3,rfl,.inl ⟨rfl,rfl,rfl⟩,i2U3,i3U3,fun c hc=>by
    have:W.nx≤c:=by
      rcases hc with hc | hc
      · exact(b1 c hc).2.2
      · exact(b3' c hc).1
    exact⟨by omega,hV.fresh this⟩⟩ (by unfold room;omega) (by unfold room;omega)
  obtain⟨kP,kM⟩:=lU.pushN nV kV bV aV;refine lN rfl (by rw[cJ rfl];simp only[↓sU,sD,rE,↓reduceIte,rA];rw[←hU3];exact eA) ?_ ?_
  · rw[cJ rfl,←hU3]
    exact⟨nV,fun c hc hw=>kV c (by omega) hw⟩
  rw[cJ rfl];simp only[↓sU,sD,rE,↓reduceIte,rA];refine hQ _ ⟨V.h,V.nx⟩ v' (fun j hj hne=>?_) (by simp only[↓sU,sD,rE,↓reduceIte,rA]) kP ((yN.same sU3).trans kM);simp only[bQ,show ¬j=17 by omega,show ¬j=18 by omega,show ¬j=19 by omega,show ¬j=20 by omega,show ¬j=21 by omega,show ¬j=22 by omega,show ¬j=23 by omega,show ¬j=24 by omega,show ¬j=25 by omega,show ¬j=26 by omega,show ¬j=27 by omega,show ¬j=28 by omega,show ¬j=29 by omega,show ¬j=30 by omega,show ¬j=31 by omega,show ¬j=32 by omega,show ¬j=33 by omega,show ¬j=34 by omega,show ¬j=2 from hne,Bw]
end Go.Ev.Gl
