import Derived.Test.YtbmodoaceepfoaaGl25
set_option linter.all false
open Nat renaming reduceEqDiff -> rE, reduceAdd -> rA
set_option maxHeartbeats 0
namespace Go.Ev.Gl
variable {fns:T fD}
variable {S X:St}{nv iv:AV}{g:aP}{i:Nat}
def aNL{z0 z1 z2 z3:AV}{x y z w:cQ}{F:Fr}{h:T AB}(a:(x.val F).cells=some [x.val F])(b:(y.val F).cells=some [y.val F])(d:(z.val F).cells=some [z.val F])(e:(w.val F).cells=some [w.val F]):iC (.build [z0,z1,z2,z3] [(0,1,x),(1,1,y),(2,1,z),(3,1,w)]) F h=some (.agg [x.val F,y.val F,z.val F,w.val F]):=by
 show(bD (eO [z0,z1,z2,z3] (dN F [(0,1,x),(1,1,y),(2,1,z),(3,1,w)])) fun cs=>some (AV.agg cs))=_;simp only[dN,eO,a,b,d,e,aH];rfl
def aP0(k:aE 6 bT S nv g.ce)(h:jq S X)(hi:i<g.ce.length):∃b q,eY (.slice 6) nv i=some (.ptr b q)/\b<S.nx/\eE (.ptr b (q+0)) false 1 X.h=some (jr (ct g i).jk)/\eE (.ptr b (q+2)) false 1 X.h=some (jr (ct g i).jj):=by
 obtain⟨e,b,q,d,f,o,⟨a,p,r,rfl,s,l,m⟩,n,j⟩:=aE.at k az (cU hi);exact⟨b,q,d,f,(eM h f).trans (j 0 _ rfl),(eM h f).trans (j 2 _ rfl)⟩
def aLq(hi:aE 2 cC S iv g.cg)(h:jq S X)(j:i<g.cg.length):∃b q,eY (.slice 2) iv i=some (.ptr b q)/\b<S.nx/\eE (.ptr b (q+0)) false 1 X.h=some (jr (cu g (i:Int)).jl):=by
 have k:g.cg[i]? =some (cu g (i:Int)):=by
  unfold cu;rw[Am,Ad,Ab j];rfl
 have⟨e,b,q,a,f,n,d,l,m⟩:=aE.at hi az k;have d:e= [jr (cu g (i:Int)).jl,jr (cu g (i:Int)).cm]:=d;subst d;exact⟨b,q,a,f,(eM h f).trans (m 0 _ rfl)⟩
def aJ9{a:AV}(f:aE 1 nM S a (aC7 g))(h:jq S X)(hi:i<g.cg.length):∃b q rv,eY (.slice 1) a i=some (.ptr b q)/\b<S.nx/\eE (.ptr b q) false 1 X.h=some rv/\bN .i64 S rv (setN g.ce 0 i):=by
 obtain⟨e,b,q,j,d,_,⟨rv,rfl,k⟩,_,l⟩:=aE.at f az (zH hi);exact⟨b,q,rv,j,d,(eM h d).trans (l 0 rv rfl),k⟩
def aJP(i k:Nat)(s j:Nat):Prop:=s<i\/s=i/\j<k
structure FlT(F:Fr)(gb:Nat)(v uv sv:AV)(i:Nat):Prop where
 p1:aA 1 F= .ptr gb 0
 p3:aA 3 F=v
 p4:aA 4 F=uv
 p5:aA 5 F=sv
 p6:aA 6 F= .int .i64 (i:Int)
def aTV(S:St)(gb:Nat)(a b:AV)(g:aP)(k:Nat)(A:bO)(X:St):Prop:=A.inr=false/\jq S X/\∃ (i:Nat) (v:AV) (L:bo),i+k=g.cg.length/\aDg g (aJP i 0) L/\L.length<=4000 * i/\fC 4 S X v L.length (L.flatMap aQ)/\FlT A.F gb v a b i
def aRm(S:St)(gb:Nat)(a b:AV)(g:aP)(i m:Nat)(p:Int)(k:Nat)(A:bO)(X:St):Prop:=A.inr=false/\jq S X/\∃ (j:Nat) (v:AV) (L:bo),j+k=m/\aDg g (aJP i j) L/\L.length<=4000 * i+2 * j/\fC 4 S X v L.length (L.flatMap aQ)/\FlT A.F gb v a b i/\aA 7 A.F=jr p/\aA 8 A.F=jr (j:Int)
def aRt(S:St)(gb:Nat)(a:AV)(v:AV)(b:AV)(g:aP)(L:bo)(i j x:Nat)(p:Int)(k:Nat)(A:bO)(X:St):Prop:=A.inr=false/\jq S X/\fC 4 S X v L.length (L.flatMap aQ)/\(0<k->aJN g p x (k - 1))/\k<=g.ce.length/\FlT A.F gb v a b i/\aA 7 A.F=jr p/\aA 8 A.F=jr (j:Int)/\aA 9 A.F=jr (x:Int)/\aA 10 A.F=jr ((k:Int) - 1)
def aSP(S:St)(gb:Nat)(a b:AV)(g:aP)(i j x:Nat)(p:Int)(n:Nat)(A:bO)(X:St):Prop:=A.inr=false/\jq S X/\∃ (v:AV) (L:bo),aDg g (aJP i j) L/\L.length<=n/\fC 4 S X v L.length (L.flatMap aQ)/\FlT A.F gb v a b i/\aA 7 A.F=jr p/\aA 8 A.F=jr (j:Int)/\aA 9 A.F=jr (x:Int)
def aHS(H:Has fns)(G:cV g)(cc:∀o,o<g.ce.length->(ct g o).jk=2->(cu g (ct g o).jj).jl=(ct g o).jl)(hn:aE 6 bT S nv g.ce)(hi:aE 2 cC S iv g.cg):
  iK fns (.fn 56 [] []) [.agg [jr g.ch,nv,iv]] S fun r S'=>jq S S'/\∃L,aDg g (fun _ _=>True) L/\L.length<=1000000/\aE 4 ZE S' r L:=by
 have hN:=G.n2;have hI:=G.ni;refine cJ H.f56 (by simp) ?_;refine ae ?_;apply bS;refine dC (by refine ae ?_;exact bB _) ?_;intro S1 s1 n1 c1;refine ae ?_;refine bS (ae ?_);refine bS (c8 (gE c1) ?_);refine bJ (ae ?_);have bk:=aE.jo (E:=bT) bF hn s1;refine aW (aAl (iv:=iv) H G bk) ?_;rintro _ S2 ⟨s2,⟨ub,rfl⟩,up,hP,bm⟩
 have bp:=aE.jo (E:=bT) bF bk s2;have bq:=aE.jo (E:=cC) bQ hi (s1.trans s2);have c2:S2.h.get S.nx=_:=(s2.2 _ au).trans c1;obtain⟨uv,bs⟩:∃uv:AV,uv= .sl ub 0 g.ce.length g.ce.length false:=⟨_,rfl⟩;rw[<-bs] at bm;simp only[<-bs]
 refine bS (c8 (gE c2) ?_);refine bJ (ae ?_);refine aW (aCS H bp bq au au  (fun x hx hk=>by
  obtain⟨o,ho,rfl⟩:=Ce hx;have e:g.ce[o]=ct g o:=by
   have:=cU ho;rw[Ab ho] at this;exact Bk this
  rw[e] at hk ⊢;have:=G.inf o ho hk;omega)) ?_
 rintro sv S3 ⟨s3,aa⟩
 have m1:=s1.1;have m2:=s2.1;have m3:=s3.1;have c3:S3.h.get S.nx=_:=(s3.2 _ au).trans c2;have an:=aE.jo (E:=bT) bF bp s3;have ao:=aE.jo (E:=cC) bQ bq s3;have ab:=bm.jo s3;have aw:S.nx<S3.nx:=by omega
 have cy:=aE.self aa;have cz:=(bN.self ab);have cf:=aE.self an;have ch:=aE.self ao;have bv:cI (.agg [jr g.ch,nv,iv]) (.agg [jr g.ch,nv,iv])=true:=zG (dO .i64 _) cf ch;refine aB (aX (Q:=fun o A' X=>o= .normal/\aTV S3 S.nx uv sv g 0 A' X) (aB (aF ?_)) ?_)
 .refine ae ?_;refine aJ (bL (aTV S3 S.nx uv sv g) ?_ g.cg.length _ _ ⟨rfl,dy _,0,.cr,[],au,⟨fun f h=>(by cases h),fun f h=>(by cases h),fun s j _ _ h _=>by rcases h with h|h<;>omega⟩,by simp,.inl ⟨rfl,rfl,rfl⟩,⟨af,af,af,af,ag⟩⟩);rintro k ⟨F,inr⟩ X ⟨rfl,hX,i,v,L,bw,n,K,D,⟨q,A,B,z,l⟩⟩;simp only at q A B z l;have cX:X.h.get S.nx=_:=(hX.2 _ aw).trans c3;have bx:(aC7 g).length=g.cg.length:=by unfold aC7;rw[Av,Cn]
  refine fZ (ef z l aa.len bx @Ag ?_);by_cases I:i<g.cg.length;rotate_left
  .refine aK i7 (bH ?_);refine ae ?_;obtain rfl:k=0:=by omega
   exact⟨rfl,hX,i,v,L,bw,n,K,D,⟨ah q,ah A,ah B,ah z,ah l⟩⟩
  refine aM i7 (aG ?_);refine ae ?_
  have w1:=du i
  obtain⟨p,hp⟩:∃p,p=(cu g (i:Int)).jl:=⟨_,rfl⟩;have⟨ib,iq,cj,cW,a0⟩:=aLq ao hX I;rw[<-hp] at a0;have⟨rb,rq,rv,R,bz,J,U⟩:=aJ9 aa hX I;have⟨ck,cl⟩:=aMC G I;have c0:=aFl i g.ce 0;obtain⟨m,hm⟩:∃m,m=(setN g.ce 0 i).length:=⟨_,rfl⟩;refine aB (aX (Q:=fun o A' Y=>o= .normal/\aRm S3 S.nx uv sv g i m p 0 A' Y) (aJ (aB (aF ?_))) ?_)
  .refine ef q l (jE cX) cj a0 ?_;refine bS (ae ?_);refine aJ (bL (aRm S3 S.nx uv sv g i m p) ?_ m _ _ ⟨rfl,hX,0,v,L,au,n,au,D,⟨ah q,ah A,ah B,ah z,ah l⟩,af,ag⟩);rintro k' ⟨F,inr⟩ Y ⟨rfl,hY,j,v,L,bA,n,K,D,⟨q,A,B,z,l⟩,M,N⟩;simp only at q A B z l M N;have cY:Y.h.get S.nx=_:=(hY.2 _ aw).trans c3;have⟨rb,rq,rv,R,bz,J,U⟩:=aJ9 aa hY I;refine fZ (ew z l N R J U.len @Ag ?_);by_cases hj:j<m;rotate_left
   .refine aK i7 (bH ?_);refine ae ?_;obtain rfl:k'=0:=by omega
    exact⟨rfl,hY,j,v,L,bA,n,K,D,⟨ah q,ah A,ah B,ah z,ah l⟩,ah M,ah N⟩
   refine aM i7 (aG ?_);refine ae ?_
   have w2:=du j
   have a1:j<(setN g.ce 0 i).length:=by omega
   have⟨x,ex,hx,kx,ix⟩:=aG2.1 (Bl a1);have ex:(setN g.ce 0 i).getD j 0=(x:Int):=by rw[Ad,Ab a1];exact ex
   have⟨b1,q1,i1,l1,a2⟩:=zM U hY a1 ex;refine aB (aX (Q:=fun o A' Z=>o= .normal/\aRm S3 S.nx uv sv g i m p (k' - 1) {A' with F:=cT (some 8) A'.F (jr ((j+1:Nat):Int))} Z/\aA 8 A'.F=jr (j:Int)) (aJ (aB (aF ?_))) ?_);rotate_left
   .rintro o ⟨F',bC⟩ W ⟨rfl,hJ,bI⟩;simp only at bI;refine aF (dz bI w2 ?_);have⟨q0,hW,j',v',L',r1,r2,r3,r4,⟨t1,t3,t4,t5,t6⟩,t7,t8⟩:=hJ;simp only[↓sU,sD,rE,↓reduceIte,rA] at q0 t1 t3 t4 t5 t6 t7 t8;exact⟨k' - 1,au,q0,hW,j',v',L',r1,r2,r3,r4,⟨ah t1,ah t3,ah t4,ah t5,ah t6⟩,ah t7,ah t8⟩
   refine ew z l N R J i1 a2 ?_;have bM:∀ (y:Nat),y<g.ce.length->∃ (t:Nat),up.getD y 0=(t:Int) - 1/\t<=y/\(0<t->∃c,Par g (t - 1) c y):=fun y hy=>by
    by_cases h0:y=0
    .exact⟨0,by rw[h0,hP.root];rfl,Ct _,fun h=>absurd h (Bo _)⟩
    .have⟨u,c,u1,u2,u3⟩:=zT G (Fq h0) hy;have bP:Par g u c y:=⟨au,u2,u3⟩;exact⟨u+1,by rw[hP.par _ _ _ bP];omega,au,fun _=>⟨c,bP⟩⟩
   refine aB (aX (Q:=fun o A' Z=>o= .normal/\aSP S3 S.nx uv sv g i j x p (4000 * i+2 * j+1) A' Z) (aB (aF ?_)) ?_)
   .obtain⟨t,t1,t2,t3⟩:=bM x hx;obtain⟨cm,cn,a4,a5,C⟩:=mE ab (by rw[hP.len];exact hx);have C:=(eM hY a5).trans C;rw[t1] at C;simp only[↓sU,sD,rE,↓reduceIte,rA,B,a4,C];refine aJ (bL (aRt S3 S.nx uv v sv g L i j x p) ?_ t _ _ ⟨rfl,hY,D,fun h0=>by
     have⟨c,hc⟩:=t3 h0;exact⟨x,c,[],hc,hx,by simp,fun w hw=>hw⟩,au,⟨ah q,ah A,ah B,ah z,ah l⟩,ah M,ah N,af,af⟩)
    rintro k ⟨F,inr⟩ Z ⟨rfl,P,D,aZ,cq,⟨q,A,B,z,l⟩,M,N,p9,O⟩;simp only at q A B z l M N p9 O;have cZ:Z.h.get S.nx=_:=(P.2 _ aw).trans c3;refine fZ (c8 O ?_);by_cases h0:k=0
    .subst h0;refine aK (by first | rfl | (simp only[↓sU,sD,rE,↓reduceIte,rA];rfl) | simp only[↓sU,sD,rE,↓reduceIte,rA]) (bH ?_);refine ae ?_;exact⟨rfl,P,v,L,n,au,D,⟨ah q,ah A,ah B,ah z,ah l⟩,ah M,ah N,ah p9⟩
    refine aM i7 (aG ?_);refine ae ?_
    have ek:(k:Int) - 1=((k - 1:Nat):Int):=by omega
    rw[ek] at O;have ha:=aZ au;have ba:k - 1<g.ce.length:=by omega
    have⟨nb,nq,bb,c4,nk,ni⟩:=aP0 an P ba;refine aB (aX (Q:=fun o A' W=>(o= .normal/\aRt S3 S.nx uv v sv g L i j x p k A' W/\W=Z)\/(o= .exit 4/\aSP S3 S.nx uv sv g i j x p (4000 * i+2 * j+1) A' W)) (aJ (aB (aF ?_))) ?_)
    .have ji:∀F':Fr,(∀t,t<11->aA t F'=aA t F)->aRt S3 S.nx uv v sv g L i j x p k ⟨F',false⟩ Z:=fun F' hF=>⟨rfl,P,D,aZ,cq,⟨by rw[hF 1 az,q],by rw[hF 3 az,A],by rw[hF 4 az,B],by rw[hF 5 az,z],by rw[hF 6 az,l]⟩,by rw[hF 7 az,M],by rw[hF 8 az,N],by rw[hF 9 az,p9],by rw[hF 10 az,O,ek]⟩;by_cases aI:(ct g (k - 1)).jk=2;rotate_left
     .refine ew q l O (fN cZ) bb nk (Aa aI) ?_;refine aK (af) (aG ?_);refine ae ?_
      exact .inl (ji _ fun t ht=>by simp only[bE];(repeat rw[if_neg au]))
     by_cases bd:(ct g (k - 1)).jj=(i:Int);rotate_left
     .refine fe q l O (fN cZ) bb nk ni (Ac aI) (Aa bd) ?_;refine aK (af) (aG ?_);refine ae ?_
      exact .inl (ji _ fun t ht=>by simp only[bE];(repeat rw[if_neg au]))
     refine fe q l O (fN cZ) bb nk ni (Ac aI) (Ac bd) ?_;refine aM (af) ?_;have ac:aIQ g i:=aJN.bad G cc hx kx ix (by rw[<-hp];exact ha) aI bd;refine bS (ie A l p9 O @aNL @cF ?_);refine fQ (aJt (x:=.t 74) (a:=jr 1) (b:=jr (x:Int)) (c:=jr (i:Int)) (d:=jr ((k - 1:Nat):Int)) (aq)) ?_;intro T t1 nT gT;have⟨v',V,e1,e2,e3,e4,e5⟩:=aHk (bytes:=32) (r:=[1,(x:Int),(i:Int),((k - 1:Nat):Int)]) (D.step t1) (P.trans t1) gT rfl au az;refine eK (v:=v') (S1:=V) (fun call=>by refine fx @fB ?_;exact e1) ?_;refine am ?_;refine bH (ae ?_);exact .inr ⟨rfl,e3,v',_,n.push ⟨i,rfl,I,ac⟩ (fun s' j' h=>.inl h),by rw[Ai,Ax];omega,e2,⟨ah q,af,ah B,ah z,ah l⟩,ah M,ah N,ah p9⟩
    rintro o ⟨F',bC⟩ W (⟨rfl,hK,rfl⟩|⟨rfl,hE⟩)
    .obtain⟨q0,_,_,_,_,⟨r1,r3,r4,r5,r6⟩,r7,r8,r9,be⟩:=hK;simp only at q0 r1 r3 r4 r5 r6 r7 r8 r9 be;subst q0;rw[ek] at be;obtain⟨t,t1,t2,t3⟩:=bM _ ba;obtain⟨cm,cn,a4,a5,C⟩:=mE ab (by rw[hP.len];exact ba);have C:=(eM P a5).trans C;rw[t1] at C;apply aF;simp only[↓sU,sD,rE,↓reduceIte,rA,r4,be,a4,C];exact⟨t,au,rfl,P,D,fun h0=>by
      have⟨c,hc⟩:=t3 h0;exact ha.step G hc,au,⟨ah r1,ah r3,ah r4,ah r5,ah r6⟩,ah r7,ah r8,ah r9,af⟩
    .refine ae ?_;exact hE
   rintro o ⟨F,inr⟩ Z ⟨rfl,rfl,P,v,L,n,K,D,⟨q,A,B,z,l⟩,M,N,p9⟩;simp only at q A B z l M N p9;have cZ:Z.h.get S.nx=_:=(P.2 _ aw).trans c3;have mZ:=P.1;have⟨rb,rq,rv,R,bz,J,U⟩:=aJ9 aa P I;have cr:=(bN.self U);have⟨f1,f2,f3⟩:=G.fst i I;have⟨b2,q2,i2,l2,bR⟩:=zM U P cl ck;have bU:S.nx<Z.nx:=by omega
   have bV:rb<Z.nx:=by omega
   have bW:b2<Z.nx:=by omega
   refine aB (pJ (fun _=>False) ?_);intro Y1 y1 c5 c6;refine fe q z l M p9 (gE cZ) bU @Ap bv ?_;refine dT rfl ?_;refine ae ?_;have bj:=P.trans y1;refine aW (aGb H G (aE.jo (E:=bT) bF an bj) (aE.jo (E:=cC) bQ ao bj) hx) ?_;rintro r1 Y2 ⟨y2,w,hw,c7,cv⟩;refine⟨y2,?_⟩;have c':=y2.1;refine fu q z l M p9 (gE cZ) bU @Ap bv @wF R J bV cr i2 bR bW ?_;refine dT rfl ?_;refine ae ?_;have bY:=bj.trans y2;refine aW (aGb H G (aE.jo (E:=bT) bF an bY) (aE.jo (E:=cC) bQ ao bY) f1) ?_;rintro r2 Y3 ⟨y3,w',bZ,cx,cw⟩;refine⟨y3,?_⟩;have da:=y3.1
   refine dT rfl ?_;refine ae ?_;refine aW (aGM H (aE.jo (E:=ZE) aKj cv y3) cw (fun x hx=>xF x (Fm.1 hx)) (fun x hx=>xF x (Fm.1 hx)) (by unfold nD;rw[List.length_reverse,Av];omega) (by unfold nD;rw[List.length_reverse,Av];omega)) ?_;rintro _ Y4 ⟨rfl,y4⟩;refine⟨y4,?_⟩;refine c8 @iY ?_;have aV:jq Z Y4:=((y1.trans y2).trans y3).trans y4;have b0:=D.step aV;have b6:=P.trans aV;have b8:((nD w).reverse=(nD w').reverse)↔w=w':=⟨fun h=>aNr (List.reverse_inj.1 h),fun h=>by rw[h]⟩;by_cases he:w=w'
   .refine aK (jc (Ac (b8.2 he)) @Dn) (aG ?_);refine ae ?_
    refine⟨⟨rfl,b6,j+1,v,L,au,n.mono (fun s j' h1 h2 h3=>?_),au,b0,⟨ah q,ah A,ah B,ah z,ah l⟩,ah M,af⟩,N⟩;by_cases e:s=i/\j'=j
    .obtain⟨rfl,rfl⟩:=e;refine .inr fun hb=>?_;have⟨u,u',b1,b2,b3⟩:=hb;rw[ex,Am,<-hp] at b1;rw[<-hp] at b2;exact b3 (by rw[aDo G b1 hw,aDo G b2 bZ,he])
    .refine .inl ?_;unfold aJP at h3 ⊢;omega
   .refine aM (jc (Aa (fun h=>he (b8.1 h))) @Ej) ?_;have ac:aIQ g i:=aLD.bad G I hx kx ix ⟨w,w',by rw[<-hp];exact hw,by rw[<-hp];exact bZ,he⟩;have b':=(eM aV bV).trans J;have ca:=(eM aV bW).trans bR;apply aF;simp only[↓aD,aC,rE,↓reduceIte,rA,A,z,l,p9,aY,wF,R,b',i2,ca,aNL,cF];refine fQ (aJt (x:=.t 101) (a:=jr 2) (b:=jr (x:Int)) (c:=jr (i:Int)) (d:=jr ((fS g i:Nat):Int)) (aq)) ?_;intro T t1 nT gT;have⟨v',V,e1,e2,e3,e4,e5⟩:=aHk (bytes:=32) (r:=[2,(x:Int),(i:Int),((fS g i:Nat):Int)]) (b0.step t1) (b6.trans t1) gT rfl au az;refine eK (v:=v') (S1:=V) (fun call=>by refine fx @fB ?_;exact e1) ?_;refine am ?_;refine⟨⟨rfl,e3,j+1,v',_,au,n.push ⟨i,rfl,I,ac⟩ (fun s' j' h=>?_),by rw[Ai,Ax];omega,e2,⟨ah q,af,ah B,ah z,ah l⟩,ah M,af⟩,N⟩;unfold aJP at h ⊢;omega
  rintro o ⟨F,inr⟩ Y ⟨rfl,rfl,hY,j,v,L,bA,n,K,D,⟨q,A,B,z,l⟩,M,N⟩;simp only at q A B z l;refine aF (dz l w1 ?_);refine⟨k - 1,au,rfl,hY,i+1,v,L,au,n.mono (fun s j' h1 h2 h3=>.inl ?_),au,D,⟨ah q,ah A,ah B,ah z,af⟩⟩;unfold aJP at h3 ⊢;by_cases e:s=i
  .subst e;omega
  .omega
 rintro o ⟨F,inr⟩ X ⟨rfl,rfl,hX,i,v,L,bw,n,K,D,⟨q,A,B,z,l⟩⟩;simp only at A;refine ae ?_
 refine bS (c8 A ?_);refine aS (ae ?_);refine⟨((s1.trans s2).trans s3).trans hX,L,n.mono (fun s j h1 h2 _=>.inl ?_),au,fC.z D n.four⟩;unfold aJP;omega
def PfI(S:St)(gb:Nat)(v:AV)(L:bo)(g:aP)(q:Int)(k:Nat)(A:bO)(X:St):Prop:=A.inr=false/\jq S X/\∃i:Nat,i+k=L.length/\(∀j f,j<i->L[j]? =some f->(cu g (f.getD 2 0)).jl≠q)/\aA 1 A.F=jr q/\aA 2 A.F= .ptr gb 0/\aA 5 A.F=v/\aA 6 A.F=jr (i:Int)
def aFt{q:Int}(H:Has fns)(G:cV g)(y:∀o,o<g.ce.length->(ct g o).jk=2->(cu g (ct g o).jj).jl=(ct g o).jl)(hn:aE 6 bT S nv g.ce)(hi:aE 2 cC S iv g.cg):
  iK fns (.fn 35 [] []) [.agg [jr g.ch,nv,iv],jr q] S fun r S'=>jq S S'/\∃t:Bool,r= .bool t/\(t=true↔aBK g q):=by
 refine cJ H.f35 (by simp) ?_;refine ae ?_;apply bS;refine dC (by refine ae ?_;exact bB _) ?_;intro S1 s1 n1 W;refine ae ?_;refine bS (c8 (gE W) ?_);refine bJ (ae ?_);refine aW (aHS H G y (aE.jo (E:=bT) bF hn s1) (aE.jo (E:=cC) bQ hi s1)) ?_;rintro v n ⟨s2,L,z,aa,A⟩;have c2:n.h.get S.nx=_:=(s2.2 _ au).trans W;have B:=aE.jo (E:=cC) bQ hi (s1.trans s2);have m1:=s1.1;have m2:=s2.1;have C:=aE.self hi;have D:=aE.self A;have b:=z.iff G (q:=q)
 refine aB (aX (Q:=fun o Y X=>(o= .normal/\aBK g q/\Y.inr=false/\jq n X)\/(o= .ret/\¬aBK g q/\jq n X/\aA 4 Y.F= .bool false)) (aB (aF ?_)) ?_)
 .refine ae ?_;refine aJ (bL (PfI n S.nx v L g q) ?_ L.length _ _ ⟨rfl,dy _,0,au,fun j f p _=>absurd p (Bo _),af,af,af,ag⟩);rintro k ⟨F,inr⟩ X ⟨rfl,a,i,ab,I,J,K,u,w⟩;simp only at J K u w;have cX:X.h.get S.nx=_:=(a.2 _ au).trans c2;have mX:=a.1;refine fZ (ec u w A.len @Ag ?_);by_cases M:i<L.length;rotate_left
  .refine aK i7 (bH ?_);refine ae ?_;refine .inl ⟨b.2 fun f m=>?_,a⟩;have⟨j,p,e⟩:=Ce m;exact I j f au (by rw[Ab p,e])
  refine aM i7 (aG ?_);refine ae ?_
  have w1:=du i
  obtain⟨f,m⟩:∃f,L[i]? =some f:=⟨_,Ab M⟩;have d:=Bb m;have⟨s,f1,f2,f3⟩:=z.snd f d;have⟨e,fb,fq,ia,N,_,O,_,P⟩:=aE.at (E:=ZE) A az m;have O:e=aQ f:=O;have f4:=z.four f d;have e2:e[2]? =some (jr (s:Int)):=by
   rw[O];unfold aQ;rw[Ba,Ab au];rw[Ad,Ab au] at f1;show some (AV.int .i64 f[2])=_;have f1:f[2]=(s:Int):=f1;rw[f1]
  have R:=(eM a N).trans (P 2 _ e2);have⟨ib,iq,T,ac,U⟩:=aLq B a f2;have an:fb<X.nx:=by omega
  have ao:ib<X.nx:=by omega
  have aw:S.nx<X.nx:=by omega
  refine aB (aJ (aB (gI ?_)));refine fg J K u w (jE cX) ia R T U C D ?_;have:=I;by_cases x:(cu g (s:Int)).jl=q
  .refine aM (ja (Ac x)) ?_;refine bS (ae ?_);refine aS (ae ?_);refine .inr ⟨fun h=>?_,a.trans (jq.nx _ _)⟩;have:=b.1 h f d;rw[f1] at this;exact this x
  .refine aK (ja (Aa x)) (aG ?_);refine ae ?_
   refine aF (dz w w1 ?_);refine⟨k - 1,au,rfl,a.trans (jq.nx _ _),i+1,au,fun j f' p l=>?_,ah J,ah K,ah u,af⟩;by_cases e:j=i
   .subst e;rw[m] at l;cases l;rw[f1];exact x
   .exact I j f' au l
 rintro o ⟨F,inr⟩ X (⟨rfl,V,Z,a⟩|⟨rfl,V,a,p4⟩)
 .simp only at Z;subst Z;refine ae ?_
  refine bS (ae ?_);refine aS (ae ?_);exact⟨(s1.trans s2).trans a,true,rfl,fun _=>V,fun _=>rfl⟩
 .simp only at p4;refine c8 p4 ?_;exact⟨(s1.trans s2).trans a,false,rfl,(nofun),fun h=>absurd h V⟩
def aAe{q:Int}(H:Has fns)(h:cR g=0)(a:∀o,o<g.ce.length->(ct g o).jk=2->(cu g (ct g o).jj).jl=(ct g o).jl)(b:aE 6 bT S nv g.ce)(hi:aE 2 cC S iv g.cg)(j:0<=q)(k:q<g.ch):
  iK fns (.fn 13 [] []) [.agg [jr g.ch,nv,iv],jr q] S fun r S'=>jq S S'/\∃t:Bool,r= .tup [.bool t,jr 0]/\(t=true↔aBK g q):=by
 have G:=gR h;have l:=G.n2;refine cJ H.f13 (by simp) ?_;refine ae ?_;apply bS;refine dC (by refine ae ?_;exact bB _) ?_;intro S1 s1 m d;refine ae ?_;refine fZ (c8 (gE d) ?_);refine bJ (ae ?_);refine aW (vQ H (aE.jo (E:=bT) bF b s1) (aE.jo (E:=cC) bQ hi s1) au) ?_;rintro _ f ⟨rfl,s2⟩;rw[h];have e:f.h.get S.nx=_:=(s2.2 _ au).trans d
 refine bS (ae ?_);refine aK (by simp only[↓sU,sD,rE,↓reduceIte,rA];try first | rfl | trivial) (aG ?_);refine ae ?_
 apply fZ;refine d8 (pG e) (Aa (au:¬q<0)) (Aa (au:¬q≥g.ch)) ?_;refine aK (by simp only[↓sU,sD,rE,↓reduceIte,rA];try first | rfl | trivial) (aG ?_);refine ae ?_
 refine bS (c8 (gE e) ?_);refine bJ (ae ?_);refine aW (aFt (q:=q) H G a (aE.jo (E:=bT) bF b (s1.trans s2)) (aE.jo (E:=cC) bQ hi (s1.trans s2))) ?_;rintro _ n ⟨s3,t,rfl,i⟩
 refine aS (ae ?_);exact⟨(s1.trans s2).trans s3,t,rfl,i⟩
def aI3{g:aP}:∀ {L:bo},(∀m∈L,gF g m)->lI g L=0
 | [],_=>rfl
 | m::L,h=>by
  show(if jT g.ce.length m (iQ g m)≠0 then jT g.ce.length m (iQ g m) else lI g L)=0;rw[if_neg (fun e=>e (h m (Be ..)).e)];exact aI3 fun x a=>h x (Az _ a)
def aNH{L:bo}(a:cR g=0)(b:L.length<=4)(h:∀m∈L,gF g m):mI g L=0:=by
 unfold mI;rw[if_neg (fun x=>x a),if_neg au];exact aI3 h
def aNc{h:Ev.T AB}{b:Nat}{x0 x1 x2 x3 a d:AV}{o:Bool}{s:Nat}(e:h.get b=some (.cells [x0,x1,x2,x3,a,d] o s)):eE (.ptr b (0+0)) true 3 h=some (.agg [x0,x1,x2]):=by
 show bD (bD (cG h b) fun cs=>cut cs (0+0) 3) (fun cs=>some (AV.agg cs))=_;unfold cG;rw[e];rfl
def aKM(a:∀x∈g.ce,gN g.ch g.cg x):∀o,o<g.ce.length->(ct g o).jk=2->(cu g (ct g o).jj).jl=(ct g o).jl:=fun o b d=>by
 rcases a _ (Bb (cU b)) with e|e|e
 .have:=e.jk;omega
 .have:=e.jk;omega
 .unfold cu;rw[Ad,e.at_];rfl
section
variable {g:aP}{L:bo}{first:bt}{act:bo}{c:bt}
def jnN(g:aP)(first:bt)(act:bo)(s:Nat):Nat:=(kH g first act).idxOf (xB first s)
def aKD:(kK g first act).cg.length=(kH g first act).length:=by
 show(aJo g _).length=_;unfold aJo;rw[Av]
def aQZ(G:cV g)(a:iD g act){s:Nat}(b:s<g.cg.length):jnN g first act s<(kH g first act).length:=Dt.2 (aBu G a b)
def aKW(G:cV g)(a:∀x∈g.ce,gN g.ch g.cg x)(f:∀m∈L,gF g m)(h:aER g L first)(d:iD g act)(i:aEr (kK g first act) c){s:Nat}(b:s<g.cg.length):0<=c.getD (jnN g first act s) 0/\c.getD (jnN g first act s) 0<fP g s:=by
 have j:=i.ok (jnN g first act s) (by rw[aKD];exact aQZ G d b);have k:=aB3 (g:=g) (first:=first) (act:=act) (aBu G d b);have e:cu (kK g first act) ((jnN g first act s:Nat):Int)=cu g (s:Int):=by
  rw[<-aEW G a f h b];unfold cu jnN;rw[Am,Ad];show((kK g first act).cg[(kH g first act).idxOf (first.getD s 0).toNat]?).getD _=_;rw[k];rfl
 rw[e] at j;unfold fP;omega
def aRS(G:cV g)(i:∀x∈g.ce,gN g.ch g.cg x)(q:∀m∈L,gF g m)(r:aER g L first)(j:iD g act)(t:aEr (kK g first act) c){s:Nat}(k:s<g.cg.length):∃a,a<fP g s/\(act.getD s []).getD a 0=c.getD (jnN g first act s) 0:=by
 have⟨v,w⟩:=aKW G i q r j t k;have⟨_,h,u⟩:=j.2 s k;have⟨a,d,e⟩:=aEG (n:=fP g s) (f:=fun a=>((act.getD s []).getD a 0).toNat) (fun a d=>by
  have⟨b,l,o⟩:=h a d;show((act.getD s []).getD a 0).toNat<_;omega) (fun a b d p e=>by
  have e:((act.getD s []).getD a 0).toNat=((act.getD s []).getD b 0).toNat:=e;have⟨y,l,o⟩:=h a d;have⟨z,A,B⟩:=h b p;exact u a b d p au) (c.getD (jnN g first act s) 0).toNat au
 have e:((act.getD s []).getD a 0).toNat=(c.getD (jnN g first act s) 0).toNat:=e;have⟨y,l,o⟩:=h a d;exact⟨a,d,au⟩
structure aET(g:aP)(first:bt)(act:bo)(c own:bt)(i a:Nat):Prop where
 len:own.length=g.cg.length
 bef:∀s,s<i->aRJ g first act c own s
 now:∀a',a'<a->(act.getD i []).getD a' 0=c.getD (jnN g first act i) 0->own.getD i 0=(a':Int)
def aET.ji{own:bt}(h:aET g first act c own i (fP g i))(f:∃a,a<fP g i/\(act.getD i []).getD a 0=c.getD (jnN g first act i) 0):aET g first act c own (i+1) 0:=⟨h.len,fun s j=>by
 by_cases e:s=i
 .subst e;have⟨a,b,d⟩:=f;exact⟨a,h.now a b d,b,d⟩
 .exact h.bef s au,fun a' h _=>absurd h (Bo _)⟩
def aET.set{own:bt}{a:Nat}(d:iD g act)(hi:i<g.cg.length)(e:a<fP g i)(h:aET g first act c own i a)(f:(act.getD i []).getD a 0=c.getD (jnN g first act i) 0):aET g first act c (own.set i (a:Int)) i (a+1):=⟨by rw[Ar];exact h.len,fun s j=>by
 have⟨b,k,l,m⟩:=h.bef s j;exact⟨b,by rw[eJ (by rw[h.len];exact hi),if_neg au];exact k,l,m⟩,fun a' n o=>by
 rw[eJ (by rw[h.len];exact hi),if_pos rfl];have:=(d.2 i hi).2.2 a' a au e (by rw[o,f]);rw[this]⟩
def aET.skip{own:bt}{a:Nat}(h:aET g first act c own i a)(d:¬ (act.getD i []).getD a 0=c.getD (jnN g first act i) 0):aET g first act c own i (a+1):=⟨h.len,h.bef,fun a' f b=>by
 by_cases e:a'=a
 .rw[e] at b;exact absurd b d
 .exact h.now a' au b⟩
end
structure PsT(F:Fr)(lv:AV)(gb jb:Nat):Prop where
 p5:aA 5 F=lv
 p13:aA 13 F= .ptr gb 0
 p15:aA 15 F= .ptr jb 0
def PsO(S:St)(a:AV)(gb b:Nat)(d:AV)(first:bt)(n:Nat)(k:Nat)(A:bO)(X:St):Prop:=A.inr=false/\jq S X/\∃i:Nat,i+k=n/\PsT A.F a gb b/\aA 16 A.F=jr 0/\aA 18 A.F=d/\aA 20 A.F=jr ((aFu first i:Nat):Int)/\aA 21 A.F=jr (i:Int)
structure PsU(F:Fr)(gb jb:Nat)(n:Nat)(cv:AV)(ob:Nat):Prop where
 p13:aA 13 F= .ptr gb 0
 p15:aA 15 F= .ptr jb 0
 p22:aA 22 F= .int .i64 (n:Int)
 p23:aA 23 F=cv
 p24:aA 24 F= .sl ob 0 n n false
def PsI(S:St)(g:aP)(first:bt)(act:bo)(c:bt)(gb a ob:Nat)(b:AV)(k:Nat)(A:bO)(X:St):Prop:=A.inr=false/\jq S X/\∃ (i:Nat) (own:bt),i+k=g.cg.length/\aET g first act c own i 0/\X.h.get ob=js (aQ own)/\ob<X.nx/\PsU A.F gb a g.cg.length b ob/\aA 25 A.F=jr (i:Int)
def PsJ(S:St)(g:aP)(first:bt)(act:bo)(c:bt)(gb b ob:Nat)(d:AV)(i:Nat)(k:Nat)(A:bO)(X:St):Prop:=A.inr=false/\jq S X/\∃ (a:Nat) (own:bt),a+k=fP g i/\aET g first act c own i a/\X.h.get ob=js (aQ own)/\ob<X.nx/\PsU A.F gb b g.cg.length d ob/\aA 25 A.F=jr (i:Int)/\aA 26 A.F=jr (a:Int)
def PsQ(S:St)(gb a:Nat)(ps:Nat)(k:Nat)(A:bO)(X:St):Prop:=A.inr=false/\jq S X/\∃q:Nat,q+k=ps/\aA 13 A.F= .ptr gb 0/\aA 15 A.F= .ptr a 0/\aA 31 A.F=jr (q:Int)
def aM1{av:AV}{act:bo}(d:aE 1 nM S av act)(f:jq S X)(hi:i<act.length):∃b q rv,eY (.slice 1) av i=some (.ptr b q)/\b<S.nx/\eE (.ptr b q) false 1 X.h=some rv/\bN .i64 S rv (act.getD i []):=by
 obtain⟨e,b,q,h,a,_,⟨rv,rfl,j⟩,_,k⟩:=aE.at d az (Ab hi);exact⟨b,q,rv,h,a,(eM f a).trans (k 0 rv rfl),by rw[Ad,Ab hi];exact j⟩
def aRf(hi:aE 2 cC S iv g.cg)(h:jq S X)(j:i<g.cg.length):∃b q,eY (.slice 2) iv i=some (.ptr b q)/\b<S.nx/\eE (.ptr b (q+1)) false 1 X.h=some (jr (cu g (i:Int)).cm):=by
 have k:g.cg[i]? =some (cu g (i:Int)):=by
  unfold cu;rw[Am,Ad,Ab j];rfl
 have⟨e,b,q,a,f,n,d,l,m⟩:=aE.at hi az k;have d:e= [jr (cu g (i:Int)).jl,jr (cu g (i:Int)).cm]:=d;subst d;exact⟨b,q,a,f,(eM h f).trans (m 1 _ rfl)⟩
def aJ3{lv W:AV}{dl dn:bt}{p c0 i0:Int}{seen:Bool}(H:Has fns)(fr:∀S,iK fns (.fn 5 [] []) [] S fun r S'=>r= .bool true/\jq S S')(hl:bN .i64 S lv dl)(fs:dl.length<=140737488355328)(hm:bN .i64 S W dn)(fw:dn.length<=140737488355328):
  iK fns (.fn 3 [] []) [lv,jr p,jr c0,.bool seen,jr i0,W] S fun r S'=>r= .bool true/\jq S S':=by
 refine cJ H.f3 (by simp) ?_;refine ae ?_;refine bS (ae ?_);refine fZ (ae ?_);refine bJ (ae ?_);refine aW (fr S) ?_;rintro _ S2 ⟨rfl,s2⟩;refine dz @iY @Dn ?_;refine aK (af) (aG ?_);refine ae ?_
 have bP:=hl.jo s2;have dc:=hm.jo s2;apply fZ;by_cases hd:dl.length>80
 .refine d8 bP.len @Ag (Ac (au:(dl.length:Int)>80)) ?_;refine aM (af) ?_;refine bS (ae ?_);refine aS (ae ?_);exact s2
 by_cases hg:dn.length>20
 .refine ef bP.len dc.len @Ag (Aa (au:¬ (dl.length:Int)>80)) (Ac (au:(dn.length:Int)>20)) ?_;refine aM (af) ?_;refine bS (ae ?_);refine aS (ae ?_);exact s2
 refine ef bP.len dc.len @Ag (Aa (au:¬ (dl.length:Int)>80)) (Aa (au:¬ (dn.length:Int)>20)) ?_;refine aK (af) (aG ?_);refine ae ?_
 refine bS (am ?_);refine bJ (am ?_);refine aW (aJc (p:=p) (c:=c0) (k:=i0) (seen:=seen) H bP fs) ?_;rintro _ S3 ⟨s3,g,nv,iv,v,L,rfl,hf,hn,hi,hL,fy,R,bR,aa⟩;refine gh @ex0 @ex1 ?_;apply cB;intro S4 s4 n4 g4
 refine dB (b:=S3.nx) (aq) (by refine am ?_;exact bB _) g4 rfl rfl ?_;intro S5 v5 k5 g5;refine am ?_
 have bk:jq S3 S5:=v5.jo s4 (Af _);have hh:=bk.1;have K:=sH hf;have G:=K.good;have dd:=(s2.trans s3).trans bk;have cj:=aE.jo (E:=bT) bF hn bk;have ck:=aE.jo (E:=cC) bQ hi bk;have cl:=aE.jo (E:=nM) fR hL bk;obtain⟨gb,df⟩:∃gb,gb=S3.nx:=⟨_,rfl⟩;rw[<-df] at g5;have f':gb<S5.nx:=by omega
 simp only[<-df]
 have h0:=aNH hf fy R;refine bS (fx (gE g5) ?_);refine bJ (am ?_);refine aW (aKc H cj ck au cl) ?_;rintro r Y1 ⟨y1,hJ⟩;rcases hJ with⟨h1,_⟩|⟨_,first,hO,⟨hD,rfl⟩|⟨hD,act,hA,v1,rfl,nv',iv',jv,qv,pv,rfl,bU,j1,dg,di,dj⟩⟩
 .exact absurd h0 h1
 .refine gh @ex0 @ex1 ?_;apply cB;intro Y2 y2 n2 g2
  refine dB (b:=Y1.nx) (aq) (by refine am ?_;exact bB _) g2 rfl rfl ?_;intro Y3 v3 k3 g3;refine am ?_
  refine fZ (ae ?_);refine aM (by simp only[↓sU,sD,rE,↓reduceIte,rA];try first | rfl | trivial) ?_;refine bS (ae ?_);refine aS (ae ?_);exact dd.trans (y1.trans (v3.jo y2 (Af _)))
 have hR:=aGh G R hO hD hA;have hO:aER g L first:=hO;have aZ:=aFZ hf bR aa R hO hR;have KJ:=sH aZ;have P:=nN (first:=first) G hR;have bm:=aLf G aa R hO hR;obtain⟨J,hJ⟩:∃J,J=kK g first act:=⟨_,rfl⟩;have bp:J.ch=g.ch:=by rw[hJ];rfl
 have bU:aE 6 bT Y1 nv' J.ce:=by rw[hJ];exact bU
 have j1:aE 2 cC Y1 iv' J.cg:=by rw[hJ];exact j1
 refine gh @ex0 @ex1 ?_;apply cB;intro Y2 y2 n2 g2
 refine dB (b:=Y1.nx) (aq) (by refine am ?_;exact bB _) g2 rfl rfl ?_;intro Y3 v3 k3 g3;refine am ?_
 have a0:jq Y1 Y3:=v3.jo y2 (Af _);have hj:=a0.1;have bd:=y1.trans a0;have hk:=bd.1;have cm:Y3.h.get gb=_:=(bd.2 _ f').trans g5;obtain⟨m,dm⟩:∃m,m=Y1.nx:=⟨_,rfl⟩;rw[<-dm] at g3;have cn:m<Y3.nx:=by omega
 have cq:gb<Y3.nx:=by omega
 simp only[<-dm]
 have bq:=aE.jo (E:=bT) bF cj bd;have bs:=aE.jo (E:=cC) bQ ck bd;have dp:=aE.jo (E:=nM) fR cl bd;have bV:=aE.jo (E:=bT) bF bU a0;have j3:=aE.jo (E:=cC) bQ j1 a0;have dq:=dg.jo a0;have dr:=aE.jo (E:=nM) fR di a0;have dt:=dj.jo a0;have cr:=dd.trans bd;refine fZ (ae ?_);refine aK (by simp only[↓sU,sD,rE,↓reduceIte,rA];try first | rfl | trivial) (aG ?_);refine ae ?_
 refine bS (fx (gE cm) ?_);refine bJ (am ?_);refine aW (aHa H bq bs au dp) ?_;rintro _ Z ⟨z3,av,bv,rfl,_,be⟩;have⟨oa,ob',_,A,_,ga⟩:=be h0;obtain rfl:first=ob':=aQa (fun x y ⟨hx,q,hq,e⟩=>⟨hx,by have:=(aJp hf R).2 q hq;have:=this.2 x hx;omega⟩) hO ga;have dv:=A.is;rw[h0];refine gj @ex0 @ex1 @ex2 ?_;have gZ:Z.h.get gb=_:=(z3.2 _ cq).trans cm;have jZ:Z.h.get m=_:=(z3.2 _ cn).trans g3;have mZ:=z3.1;have gd:gb<Z.nx:=by omega
 have gf:m<Z.nx:=by omega
 have dw:=aE.jo (E:=bT) bF bq z3;have dM:=aE.jo (E:=cC) bQ bs z3;have dY:=aE.jo (E:=bT) bF bV z3;have dZ:=aE.jo (E:=cC) bQ j3 z3;have ea:=dq.jo z3;have eb:=aE.jo (E:=nM) fR dr z3;have ed:=dt.jo z3;have gg:=cr.trans z3;have hp:=G.ni;have cw:=aMd (first:=first) G hR hO;refine bS (ae ?_);refine aB (aX (Q:=fun o A' X=>o= .normal/\PsO Z W gb m bv first g.cg.length 0 A' X) (aB (aF ?_)) ?_)
 .refine ae ?_;refine aJ (bL (PsO Z W gb m bv first g.cg.length) ?_ g.cg.length _ _ ⟨rfl,dy _,0,au,⟨af,af,af⟩,af,af,ag,ag⟩);rintro k ⟨F,inr⟩ X ⟨rfl,w,i,bw,⟨p5,l,j⟩,ab,a1,U,ac⟩;simp only at p5 l j ab a1 U ac;refine fZ (ef a1 ac dv.len hO.len @Ag ?_);by_cases I:i<g.cg.length;rotate_left
  .refine aK i7 (bH ?_);refine ae ?_;obtain rfl:k=0:=by omega
   exact⟨rfl,w,i,bw,⟨ah p5,ah l,ah j⟩,ah ab,ah a1,ah U,ah ac⟩
  refine aM i7 (aG ?_);refine ae ?_
  have w1:=du i
  have be:aFu first i<=i:=by
   unfold aFu;exact Aq (List.length_filter_le ..) (by rw[Cn];exact Af _)
  have w2:IntKind.i64.wrap (((aFu first i:Nat):Int)+1)=((aFu first i+1:Nat):Int):=by rw[wrap_i64 au au];omega
  have⟨b1,q1,i1,l1,an⟩:=mE dv (i:=i) (by rw[hO.len];exact I);have an:=(eM w l1).trans an;have bW:=aMq (first:=first) (n:=i);refine aB (aX (Q:=fun o A' Y=>o= .normal/\Y=X/\A'.inr=false/\(∀t,t<20->aA t A'.F=aA t F)/\aA 20 A'.F=jr ((aFu first (i+1):Nat):Int)/\aA 21 A'.F=jr (i:Int)) (aJ (aB (aF ?_))) ?_)
  .refine ec a1 ac i1 an ?_;by_cases he:first.getD i 0=(i:Int)
   .rw[if_pos he] at bW;refine aM (ja (Ac he)) ?_;refine aF (d8 U w2 ac ?_);exact⟨fun t ht=>by(repeat rw[if_neg au]),by rw[bW]⟩
   .rw[if_neg he] at bW;refine aK (ja (Aa he)) (aG ?_);simp only[↓sU,sD,rE,↓reduceIte,rA,U,ac]
    exact⟨fun t ht=>by(repeat rw[if_neg au]),by rw[bW,Bw]⟩
  rintro o ⟨F',ee⟩ Y ⟨rfl,rfl,rfl,hF,b6,b8⟩;simp only at hF b6 b8;refine aF (dz b8 w1 ?_);exact⟨k - 1,au,rfl,w,i+1,au,⟨jc (hF 5 az) p5,jc (hF 13 az) l,jc (hF 15 az) j⟩,jc (hF 16 az) ab,jc (hF 18 az) a1,ah b6,af⟩
 rintro o ⟨F,inr⟩ X ⟨rfl,rfl,w,i,bw,⟨p5,l,j⟩,ab,a1,U,ac⟩;simp only at p5 l j ab U;obtain rfl:i=g.cg.length:=by omega
 rw[<-cw] at U;have mX:=w.1;have gX:X.h.get gb=_:=(w.2 _ gd).trans gZ;have jX:X.h.get m=_:=(w.2 _ gf).trans jZ;have cx:=aE.jo (E:=bT) bF dw w;have cy:=aE.jo (E:=cC) bQ dM w;have jnX:=aE.jo (E:=bT) bF dY w;have bY:=aE.jo (E:=cC) bQ dZ w;have cz:=ea.jo w;have cW:=aE.jo (E:=nM) fR eb w;have eg:=ed.jo w;have gi:=gg.trans w;have eh:J.ce.length=g.ce.length:=by rw[hJ];exact P.nlen
 have ei:J.cg.length=(kH g first act).length:=by rw[hJ];exact aKD
 have aZ:cR J=0:=by rw[hJ];exact aZ
 have KJ:aGe J:=by rw[hJ];exact KJ
 have bm:∀x∈J.ce,gN J.ch J.cg x:=by rw[hJ];exact bm
 have cX:(yG first (fV g first act g.ce.length 0 0 []).de).length=g.cg.length:=by unfold yG;rw[Av,hO.len]
 have gk:(wZ (List.replicate g.ce.length (0:Int)) 0 (fV g first act g.ce.length 0 0 []).olds).length=g.ce.length:=by rw[aDQ,Au]
 have e1:eE (.ptr m (0+0+1)) false 1 X.h=some nv':=zP jX rfl;have e0:eE (.ptr m (0+0+0)) false 1 X.h=some (jr g.ch):=zP jX rfl;have e2:eE (.ptr m (0+0+2)) false 1 X.h=some iv':=zP jX rfl;have e3:eE (.ptr m (0+3)) false 1 X.h=some jv:=zP jX rfl;have e4:eE (.ptr m (0+4)) false 1 X.h=some qv:=zP jX rfl;have e5:eE (.ptr m (0+5)) false 1 X.h=some pv:=zP jX rfl;refine bS (ec l (jE gX) cy.len @Ag ?_);apply fZ;refine ec ab j (aNc jX) (Aa (show ¬ (0:Int)≠0 from fun h=>h rfl)) ?_;refine bJ (ae ?_);have ej:=vQ (g:=J) H jnX bY au;rw[bp] at ej;refine aW ej ?_;rintro _ X1 ⟨rfl,x1⟩;rw[aZ];have hr:=x1.1;have a2:X1.h.get gb=_:=(x1.2 _ au).trans gX;have bZ:X1.h.get m=_:=(x1.2 _ au).trans jX;have dF:∀x:Int,decide (x≠x)=false:=fun x=>Aa fun h=>h rfl;have ba:gb<X1.nx:=by omega
 have bb:m<X1.nx:=by omega
 have e1:=(eM x1 (au:m<X.nx)).trans e1;have e0:=(eM x1 (au:m<X.nx)).trans e0;have e2:=(eM x1 (au:m<X.nx)).trans e2;have e3:=(eM x1 (au:m<X.nx)).trans e3;have e4:=(eM x1 (au:m<X.nx)).trans e4;have e5:=(eM x1 (au:m<X.nx)).trans e5;have cY:act.length=g.cg.length:=hA.len;simp only[↓sU,sD,rE,↓reduceIte,rA,l,j,U,pG a2,fN a2,jE a2,e0,e1,e2,e3,e4,e5,cx.len,jnX.len,bY.len,cz.len,cW.len,eg.len,eh,ei,cX,gk,cY,Ag,dF];refine aK (af) (aG ?_);refine ae ?_
 have ek:=aE.jo (E:=bT) bF cx x1;have b':=aE.jo (E:=cC) bQ cy x1;have en:=aE.jo (E:=bT) bF jnX x1;have ca:=aE.jo (E:=cC) bQ bY x1;have eo:=cz.jo x1;have ep:=aE.jo (E:=nM) fR cW x1;have bx:=gi.trans x1;have er:=fun {c} (hc:aN W=some c)=>dK hm hc;have es:=fun(F:Fr) (h:Ev.T AB) (a:aA 144 F=W)=>aUv (t:=144) (F:=F) (h:=h) a (bN.cells hm);refine bS (gh p5 es ?_);refine dC (cs:=[W,jr 0]) (by refine am ?_;exact bB _) ?_;intro B sB nB gB;have jB:B.h.get m=_:=(sB.2 _ bb).trans bZ;have hv:B.h.get gb=_:=(sB.2 _ ba).trans a2;obtain⟨db,et⟩:∃db,db=X1.nx:=⟨_,rfl⟩;rw[<-et] at gB;simp only[↓aD,aC,rE,↓reduceIte,rA,j,aU,aT,aNc jB,<-et];refine bJ (am ?_);have g':=bx.1;have gl:sP B db W dn:=⟨au,⟨0,gB,Ct _⟩,hm.jo (bx.trans sB),fun e=>by have:=er e;omega,fw⟩;have ey:=aFD (g:=J) (nv:=nv') (iv:=iv') H gl (fun X' h1 h2=>aE.jo (E:=cC) bQ ca (S':=X') ⟨ax sB.1,fun c hc=>(h2 c (ax sB.1) au).trans (sB.2 c hc)⟩) (fun i hi=>aKw aZ bm hi) KJ.good.ni;rw[bp] at ey;refine aW ey ?_;rintro cv C ⟨xC,_,c,b0,eA,_⟩;have ao:jq X1 C:=⟨by have:=xC.1;have:=sB.1;omega,fun c hc=>(xC.2 c (ax sB.1) au).trans (sB.2 c hc)⟩;have hw:=ao.1
 have gm:=eA.len;refine bS (am ?_);refine fQ (oK (n:=g.cg.length) (jd @aY) (jd @aY) ay ay) ?_;intro W0 w0 nW gW;refine am ?_;have hz:repeatL [AV.int .i64 0] g.cg.length=aQ (List.replicate g.cg.length 0):=by rw[repeatL_one];simp [aQ]
 rw[hz] at gW;obtain⟨ob,be⟩:∃ob,ob=C.nx:=⟨_,rfl⟩;rw[<-be] at gW;simp only[<-be]
 have cZ:=ao.trans w0;have mW:=cZ.1;have gn:ob<W0.nx:=by omega
 have hy:W0.h.get gb=_:=(cZ.2 _ ba).trans a2;have hB:W0.h.get m=_:=(cZ.2 _ bb).trans bZ;have gp:gb<C.nx:=by omega
 have eB:m<C.nx:=by omega
 have gq:C.h.get gb=_:=(ao.2 _ ba).trans a2;have eC:C.h.get m=_:=(ao.2 _ bb).trans bZ;have c1:aEr (kK g first act) c:=by rw[<-hJ];exact eA
 have gr:=fun {s} (hs:s<g.cg.length)=>aRS G aa R hO hR c1 hs;have hE:=fun {s} (hs:s<g.cg.length)=>aKW G aa R hO hR c1 hs;have gs:=fun {s} (hs:s<g.cg.length)=>aQZ (first:=first) (act:=act) G hR hs;have hG:(kH g first act).length=c.length:=by rw[gm,ei]
 have eD:∀ (X:St),jq C X->eE (.ptr m (0+3)) false 1 X.h=some jv/\eE (.ptr m (0+4)) false 1 X.h=some qv/\eE (.ptr gb (0+2)) false 1 X.h=some iv:=fun X w=>⟨zP ((w.2 _ eB).trans eC) rfl,zP ((w.2 _ eB).trans eC) rfl,zP ((w.2 _ gp).trans gq) rfl⟩;have cc:∀i,i<g.cg.length->(yG first (fV g first act g.ce.length 0 0 []).de).getD i 0=((jnN g first act i:Nat):Int):=fun i hi=>by
  unfold yG jnN xB;rw[Ad,Ba,Ab (by rw[hO.len];exact hi),Ad,Ab (by rw[hO.len];exact hi)];rfl
 have c2:=eo.jo ao;have c3:=aE.jo (E:=nM) fR ep ao;have eL:=aE.jo (E:=cC) bQ b' ao;have eN:=(bN.self c2);have eP:=aE.self c3;have gv:=aE.self eL;have eV:=(bN.self b0);refine aB (aX (Q:=fun o A' X=>o= .normal/\PsI C g first act c gb m ob cv 0 A' X) (aB (aF ?_)) ?_)
 .refine ae ?_;refine aJ (bL (PsI C g first act c gb m ob cv) ?_ g.cg.length _ _ ⟨rfl,w0,0,_,au,⟨Au ..,fun s hs=>absurd hs (Bo _),fun a ha _=>absurd ha (Bo _)⟩,gW,gn,⟨ah l,ah j,af,af,af⟩,ag⟩);rintro k ⟨F,inr⟩ X ⟨rfl,w,i,own,bw,D,A,cf,⟨l,j,T,N,O⟩,M⟩;simp only at l j T N O M;refine fZ (dz T M ?_);by_cases I:i<g.cg.length;rotate_left
  .refine aK i7 (bH ?_);refine ae ?_;obtain rfl:k=0:=by omega
   exact⟨rfl,w,i,own,bw,D,A,cf,⟨ah l,ah j,ah T,ah N,ah O⟩,ah M⟩
  refine aM i7 (aG ?_);refine ae ?_
  have w1:=du i
  have⟨E3,E4,E2⟩:=eD X w;have⟨b1,q1,i1,l1,an⟩:=zM c2 w (i:=i) (by rw[cX];exact I) (cc i I);have⟨b2,q2,rv,i2,l2,bz,bj⟩:=aM1 c3 w (i:=i) (by rw[cY];exact I);have⟨b3,q3,i3,l3,ld3⟩:=aRf eL w I;have bA:=hA.row i I;have hH:=aR9 G I;have gw:(cu g (i:Int)).cm=((fP g i:Nat):Int):=by
   have:=aKw hf aa I;unfold fP;omega
  have c4:=(bN.self bj);have aw:=bj.len;rw[bA] at aw;have hI:=gs I;have mX:=w.1;have hK:m<X.nx:=by omega
  have hM:gb<X.nx:=by omega
  have hN:b1<X.nx:=by omega
  have hP:b2<X.nx:=by omega
  have hQ:b3<X.nx:=by omega
  refine aB (aX (Q:=fun o A' Y=>o= .normal/\PsJ C g first act c gb m ob cv i 0 A' Y) (aJ (aB (aB (gI ?_)))) ?_)
  .simp only[↓sU,sD,rE,↓reduceIte,rA,l,j,N,M,E2,E3,E4,i1,an,i2,bz,i3,ld3,b0.len,aw,gw,eN,eP,gv,eV,c4,Ag,Aa (au:¬ ((jnN g first act i:Nat):Int)<0),Aa (au:¬ ((jnN g first act i:Nat):Int)≥(c.length:Int)),dF];refine aK (af) (aG ?_);refine ae ?_
   refine bS (ae ?_);refine aJ (bL (PsJ C g first act c gb m ob cv i) ?_ (fP g i) _ _ ⟨rfl,w.trans (jq.nx _ _),0,own,au,D,by simp only;exact A,by simp only;omega,⟨ah l,ah j,ah T,ah N,ah O⟩,ah M,ag⟩);rintro k' ⟨F,inr⟩ Y ⟨rfl,hY,a,own,eW,D,A,bC,⟨l,j,T,N,O⟩,M,a4⟩;simp only at l j T N O M a4;have⟨E3,E4,_⟩:=eD Y hY;have⟨b1,q1,i1,l1,an⟩:=zM c2 hY (i:=i) (by rw[cX];exact I) (cc i I);have⟨b2,q2,rv,i2,l2,bz,bj⟩:=aM1 c3 hY (i:=i) (by rw[cY];exact I);have c4:=(bN.self bj);have aw:=bj.len;rw[bA] at aw;refine fZ (ez j M a4 E4 i2 bz aw @Ag ?_);by_cases ha:a<fP g i;rotate_left
   .refine aK i7 (bH ?_);refine ae ?_;obtain rfl:k'=0:=by omega
    exact⟨rfl,hY,a,own,eW,D,A,bC,⟨ah l,ah j,ah T,ah N,ah O⟩,ah M,ah a4⟩
   refine aM i7 (aG ?_);refine ae ?_
   have w2:=du a
   have⟨b4,q4,i4,l4,c5⟩:=mE bj (i:=a) (by rw[bA];exact ha);have c5:=(eM hY l4).trans c5;have⟨b5,q5,i5,l5,c6⟩:=mE b0 (i:=jnN g first act i) au;have c6:=(eM hY l5).trans c6;refine aB (aX (Q:=fun o A' Z=>o= .normal/\PsJ C g first act c gb m ob cv i (k' - 1) {A' with F:=cT (some 26) A'.F (jr ((a+1:Nat):Int))} Z/\aA 26 A'.F=jr (a:Int)) (aJ (aB (gI ?_))) ?_)
   .simp only[↓sU,sD,rE,↓reduceIte,rA,j,N,M,a4,E3,E4,i1,an,i2,bz,i4,c5,i5,c6,eN,eP,c4,eV];by_cases he:(act.getD i []).getD a 0=c.getD (jnN g first act i) 0
    .refine aM (ja (Ac he)) ?_;apply aF;have gx:=eX (b:=ob) (o:=false) I;refine gy O M a4 @aY gx ?_;refine eK (fun call=>by refine gh @dE @cF ?_;exact qQ (S:=⟨Y.h,Y.nx+17⟩) A (by rw[D.len];exact I)) ?_;refine am ?_;exact⟨⟨rfl,(hY.trans (jq.nx _ _)).put au _,a+1,_,au,D.set hR I ha he,jh,by simp only;omega,⟨ah l,ah j,ah T,ah N,ah O⟩,ah M,af⟩,a4⟩
    .refine aK (ja (Aa he)) (aG ?_);refine ae ?_
     exact⟨⟨rfl,hY.trans (jq.nx _ _),a+1,own,au,D.skip he,A,by simp only;omega,⟨ah l,ah j,ah T,ah N,ah O⟩,ah M,af⟩,a4⟩
   rintro o ⟨F',ee⟩ Z ⟨rfl,gz,ch⟩;simp only at ch;refine aF (dz ch w2 ?_);have⟨q0,hZ,a',bI,r1,r2,r3,r4,⟨t13,t15,t22,t23,t24⟩,t25,t26⟩:=gz;simp only[↓sU,sD,rE,↓reduceIte,rA] at q0 t13 t15 t22 t23 t24 t25 t26;exact⟨k' - 1,au,q0,hZ,a',bI,r1,r2,r3,r4,⟨ah t13,ah t15,ah t22,ah t23,ah t24⟩,ah t25,ah t26⟩
  rintro o ⟨F,inr⟩ Y ⟨rfl,rfl,hY,a,bI,eW,c7,eZ,bC,⟨t13,t15,t22,t23,t24⟩,t25,t26⟩;simp only at t13 t15 t22 t23 t24 t25;obtain rfl:a=fP g i:=by omega
  refine aF (dz t25 w1 ?_);exact⟨k - 1,au,rfl,hY,i+1,bI,au,c7.ji (gr I),eZ,bC,⟨ah t13,ah t15,ah t22,ah t23,ah t24⟩,af⟩
 rintro o ⟨F,inr⟩ V ⟨rfl,rfl,hV,i,own,bw,D,A,e6,⟨l,j,T,N,O⟩,M⟩;simp only at l j N O;obtain rfl:i=g.cg.length:=by omega
 have hC:=fun s hs=>D.bef s hs;have c':bN .i64 V (.sl ob 0 g.cg.length g.cg.length false) own:=xK A e6 D.len;have e7:=fun {q f o} (ho:o<g.ce.length)=>aE9 (c:=c) (own:=own) (q:=q) (f:=f) (o:=o) hf (by rw[<-hJ];exact aZ) hR c1 D.len hC ho;have aI:=ao.trans hV;have mV:=aI.1;have gV:V.h.get gb=_:=(aI.2 _ ba).trans a2;have jV:V.h.get m=_:=(aI.2 _ bb).trans bZ;have e8:=aE.jo (E:=bT) bF ek aI;have gA:=aE.jo (E:=cC) bQ b' aI;have e9:=aE.jo (E:=bT) bF en aI;have gC:=aE.jo (E:=cC) bQ ca aI;have e':=b0.jo hV;have gM:=bx.trans aI;have⟨T1,gT,fa,_⟩:=G.walk;have⟨T2,gU,fb,_⟩:=KJ.good.walk;obtain⟨ps,bM⟩:∃ps:Nat,g.ch=(ps:Int):=⟨g.ch.toNat,ax K.prs⟩;have P1:aEp g T1 ps:=⟨K,gT,fa,bR,bM,aa⟩;have P2:aEp J T2 ps:=⟨KJ,gU,fb,by rw[eh];exact bR,by rw[bp];exact bM,bm⟩;have fc:gb<V.nx:=by omega
 have fd:m<V.nx:=by omega
 refine ae ?_
 refine bS (ig l O @aU @aT (pG gV) (fN gV) bM ?_);refine bJ (am ?_);refine aW (aCt (c:=own) (f:=g.ce.length) (i:=0) H P1 G.n1 au e8 c') ?_;rintro _ V1 ⟨v1,x,Q,d,rfl,hx,_,fi,_,_⟩;refine gh @ex0 @ex1 ?_;have gY:V1.h.get gb=_:=(v1.2 _ fc).trans gV;have f1:eE (.ptr m (0+0+1)) false 1 V1.h=some nv':=zP ((v1.2 _ fd).trans jV) rfl;refine bS (ik l j N @aU @aT (pG gY) f1 bM ?_);refine bJ (am ?_);refine aW (aCt (c:=c) (f:=g.ce.length) (i:=0) H P2 KJ.good.n1 au (aE.jo (E:=bT) bF e9 v1) (e'.jo v1)) ?_;rintro _ V2 ⟨v2,z,Q',d',rfl,hz,_,g0,_,_⟩;have fk:aGL (fun q=>uD g own q g.ce.length 0) ps Q' d':=by
  have e:(fun q=>uD J c q g.ce.length 0)=fun q=>uD g own q g.ce.length 0:=by
   funext q;have:=e7 (q:=q) (f:=g.ce.length) G.n1;rw[aIV G hR,<-hJ] at this;exact this
  rw[<-e];exact g0
 obtain⟨rfl,rfl⟩:=aPz fi fk;refine gh @ex0 @ex1 ?_;refine fZ (ae ?_);refine bJ (ae ?_);have hb:=K.prs;refine aW (yK H (hx.jo v2) hz (by rw[fi.len];omega)) ?_;rintro _ V3 ⟨rfl,v3⟩;simp only[↓sU,sD,rE,↓reduceIte,rA,iY,decide_true,Dn,dF];refine aK (af) (aG ?_);refine ae ?_
 have aV:=(v1.trans v2).trans v3;have hS:=aV.1;have g1:V3.h.get gb=_:=(aV.2 _ fc).trans gV;have g6:V3.h.get m=_:=(aV.2 _ fd).trans jV;have bq:=aE.jo (E:=bT) bF e8 aV;have bs:=aE.jo (E:=cC) bQ gA aV;have bV:=aE.jo (E:=bT) bF e9 aV;have g7:=aE.jo (E:=cC) bQ gC aV;have cr:=gM.trans aV;have cq:gb<V3.nx:=by omega
 have cn:m<V3.nx:=by omega
 have da:=fun {q} (h:aBK g q)=>aMh (q:=q) hf bR aa R hO hD hA hR h;refine aB (aX (Q:=fun o A' X=>o= .normal/\PsQ V3 gb m ps 0 A' X) (aB (aF ?_)) ?_)
 .refine ae ?_;refine aJ (bL (PsQ V3 gb m ps) ?_ ps _ _ ⟨rfl,dy _,0,au,ah l,ah j,ag⟩);rintro k ⟨F,inr⟩ X ⟨rfl,w,q,g8,l,j,a5⟩;simp only at l j a5;have gX:X.h.get gb=_:=(w.2 _ cq).trans g1;have jX:X.h.get m=_:=(w.2 _ cn).trans g6;have mX:=w.1;refine fZ (ec l a5 (pG gX) bM ?_);by_cases I:q<ps;rotate_left
  .refine aK i7 (bH ?_);refine ae ?_;obtain rfl:k=0:=by omega
   exact⟨rfl,w,q,g8,ah l,ah j,ah a5⟩
  refine aM i7 (aG ?_);refine ae ?_
  have w1:=du q
  refine aB (aJ (aB (aF ?_)));refine d8 l a5 (gE gX) ?_;refine bJ (ae ?_);refine aW (aAe (q:=(q:Int)) H hf (aKM aa) (aE.jo (E:=bT) bF bq w) (aE.jo (E:=cC) bQ bs w) au au) ?_;rintro _ Y ⟨hY,t,rfl,ht⟩;have jY:Y.h.get m=_:=(hY.2 _ au).trans jX;refine ae ?_;refine bS (d8 j a5 (aNc jY) ?_);refine bJ (ae ?_);have fp:=aAe (g:=J) (q:=(q:Int)) H aZ (aKM bm) (aE.jo (E:=bT) bF bV (w.trans hY)) (aE.jo (E:=cC) bQ g7 (w.trans hY)) au (by rw[bp];omega);rw[bp] at fp;refine aW fp ?_;rintro _ Z ⟨hZ,u,rfl,hu⟩;refine ae ?_;have g9:t=true->u=true:=fun h=>hu.2 (by rw[hJ];exact da (ht.1 h));have fq:=w.trans (hY.trans hZ);apply bS;cases t with
  | true=>
   obtain rfl:=g9 rfl;refine dz @iY @Dn ?_;refine aK (af) (aG ?_);refine ae ?_
   refine aF (dz a5 w1 ?_);exact⟨k - 1,au,rfl,fq,q+1,au,ah l,ah j,af⟩
  | false=>
   refine ae ?_;refine aK (af) (aG ?_);refine ae ?_
   refine aF (dz a5 w1 ?_);exact⟨k - 1,au,rfl,fq,q+1,au,ah l,ah j,af⟩
 rintro o ⟨F,inr⟩ X ⟨rfl,rfl,w,_⟩;refine ae ?_
 refine bS (ae ?_);refine aS (ae ?_);exact cr.trans w
end Go.Ev.Gl
