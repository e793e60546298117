import Derived.Test.YtbmodoaceepfoaaGl6
set_option linter.all false
open Nat renaming reduceEqDiff -> rE, reduceAdd -> rA
set_option maxHeartbeats 0
namespace Go.Ev.Gl
variable {fns:T fD}
variable {S S0 X X':St}{b sz base i j t n ob NI c:Nat}{v nv iv x w x0 x1 x2:AV}{l:bt}{ps:Int}{g:aP}{cs:bu}{F:Fr}{last:Option Nat}{Q:Fr->St->List jD->Prop}{h:T AB}{bl:AB}{inr:Bool}{L:Nat->bt}
def aJF{a:Int}(H:Has fns):iK fns (.fn 100 [] []) [jr a] S fun r S'=>r= .bool false/\S'=S:=by
 refine cJ H.f100 (by simp) ?_;refine ai ?_;refine bS (ai ?_);apply bS;refine io (Aa (show ¬a≠a from fun h=>h rfl)) ?_;apply aS;simp only[↓aD,aC,rE,↓reduceIte]
def aLX{a b:Int}(H:Has fns):iK fns (.fn 97 [] []) [jr a,jr b] S fun r S'=>r= .bool (decide (a<b))/\S'=S:=by
 refine cJ H.f97 (by simp) ?_;refine ai ?_;refine bS (ai ?_);refine bS (ai ?_);refine bJ (ai ?_);refine aW (aJF H) ?_;rintro _ X ⟨rfl,c⟩;rw[c];refine ai ?_;apply aS;simp only[↓aD,aC,rE,↓reduceIte]
def aJr(m:Int)(l:bt):Int:=l.foldl mx m
def aUr(S:St)(v:AV)(l:bt)(a:Int)(k:Nat)(A:bO)(X:St):Prop:=A.inr=false/\X=S/\∃i,i+k=l.length/\0<i/\aA 0 A.F=v/\aA 3 A.F=jr (aJr a ((l.take i).drop 1))/\aA 4 A.F=jr (i:Int)
def aOJ(H:Has fns)(c:bN .i64 S v l)(d:0<l.length)(j:l.length<=1000000):iK fns (.fn 88 [] []) [v] S fun r S'=>r=jr (aJr (l.getD 0 0) (l.drop 1))/\S'=S:=by
 refine cJ H.f88 (by simp) ?_;refine ai ?_;refine bS (ai ?_);refine fZ (iu c.len @Ag ?_);refine aK i9 (aG ?_);refine ai ?_
 have a:=c.c9 d;have b:=c.ld d;apply bS;simp only[↓aD,aC,rE,↓reduceIte,aKn,a,b];refine fZ (ai ?_);refine aJ (bL (aUr S v l (l.getD 0 0)) ?_ (l.length - 1) _ _ ⟨rfl,rfl,1,au,by decide,aj,by refine ai ?_;rw[Cw (by rw[Bx];omega)];rfl,aj⟩);rintro k ⟨F,inr⟩ X ⟨rfl,m,i,n,o,e,f,g⟩;simp only at e f g;rw[m];refine fZ (iz e g c.len @Ag ?_);by_cases hi:i<l.length
 .refine aM i9 (aG ?_);refine ai ?_
  have a:=c.c9 hi;have b:=c.ld hi;have h:(l.take (i+1)).drop 1=(l.take i).drop 1++ [l.getD i 0]:=by
   rw[Cc,Ab hi,List.drop_append,Bx,show 1 - min i l.length=0 by omega,Ad,Ab hi];rfl
  have p:=du i
  refine aB (aJ (aF ?_));simp only[↓aD,aC,rE,↓reduceIte,e,f,g,aY,a,b,aOi,aBd];refine aF (iu g p ?_);refine⟨k - 1,au,rfl,rfl,i+1,au,au,ak e,?_,aj⟩;refine ai ?_;rw[h];unfold aJr;rw[List.foldl_append];rfl
 .refine aK i9 (bH ?_);refine ai ?_;rw[Bh au] at f;refine bS (io f ?_);apply aS;simp only[↓aD,aC,rE,↓reduceIte]
def aVz(S:St)(v:AV)(l:bt)(z:Int)(k:Nat)(A:bO)(X:St):Prop:=A.inr=false/\X=S/\∃i,i+k=l.length/\¬z∈l.take i/\aA 0 A.F=v/\aA 1 A.F=jr z/\aA 7 A.F=jr (l.length:Int)/\aA 8 A.F=jr (i:Int)
def aIM{z:Int}(H:Has fns)(f:bN .i64 S v l)(s:l.length<=1000000):iK fns (.fn 96 [] []) [v,jr z] S fun r S'=>(∃j,r=jr j/\(0<=j↔z∈l))/\S'=S:=by
 refine cJ H.f96 (by simp) ?_;refine ai ?_;refine bS (ai ?_);refine fZ (iu f.len @Ag ?_);refine aJ (bL (aVz S v l z) ?_ l.length _ _ ⟨rfl,rfl,0,au,by simp,aj,aj,aj,aj⟩);rintro k ⟨F,inr⟩ X ⟨rfl,t,j,u,g,i,m,n,d⟩;simp only at i m n d;rw[t];refine bS (iu n d ?_);by_cases a:j<l.length
 .refine aB (aM i9 (aG ?_));refine ai ?_;have o:=f.c9 a;have p:=f.ld a;have b:l.getD j 0=l[j]:=by rw[Ad,Ab a];rfl
  have q:l.take (j+1)=l.take j++ [l.getD j 0]:=by rw[Cc,Ab a,b];rfl
  have c:l.getD j 0∈l:=by rw[b];exact Bl a
  generalize l.getD j 0=w at *;have x:=du j
  refine aB (aJ (aB (aF ?_)));refine io d ?_;apply bS;simp only[↓aD,aC,rE,↓reduceIte,i,m,aY,o,p];by_cases e:z=w
  .refine aM (jf (Ac e)) ?_;refine bS (ai ?_);refine aS (ai ?_);exact⟨_,rfl,⟨fun _=>by rw[e];exact c,fun _=>au⟩⟩
  .refine aK (jf (Aa e)) (aG ?_);refine ai ?_
   refine aF (iu d x ?_);refine⟨k - 1,au,rfl,rfl,j+1,au,?_,ak i,ak m,ak n,aj⟩;rw[q];intro h;rcases Bi.1 h with h|h
   .exact g h
   .simp at h;exact e h
 .refine aB (aK i9 (bH ?_));refine ai ?_;rw[Bh au] at g;refine bS (ai ?_);refine aS (ai ?_);exact⟨_,rfl,⟨fun h=>absurd h az,fun h=>absurd h g⟩⟩
def aFg{z:Int}(H:Has fns)(b:bN .i64 S v l)(a:l.length<=1000000):iK fns (.fn 93 [] []) [v,jr z] S fun r S'=>r= .bool (decide (z∈l))/\S'=S:=by
 refine cJ H.f93 (by simp) ?_;refine ai ?_;refine bS (ai ?_);refine bS (ai ?_);refine bJ (ai ?_);refine aW (aIM H b a) ?_;rintro _ Y ⟨⟨j,rfl,c⟩,d⟩;rw[d];have e:decide ((0:Int)<=j)=decide (z∈l):=by rw[Cv,Cu,Cu];exact c
 refine io e ?_;apply aS;simp only[↓aD,aC,rE,↓reduceIte]
def aRn(l:bt)(a b:Nat):Prop:=∀i,a<i->i<b->¬l.getD i 0<l.getD (i - 1) 0
def aEJ(l:bt):Prop:=aRn l 0 l.length
def aVM(S:St)(v:AV)(l:bt)(k:Nat)(A:bO)(X:St):Prop:=A.inr=false/\jq S X/\∃i:Int,(k:Int)=max i 0/\ -1<=i/\i<max 1 (l.length:Int)/\aRn l i.toNat l.length/\aA 0 A.F=v/\aA 3 A.F=jr i
def aIx(H:Has fns)(x:bN .i64 S v l)(C:l.length<=1000000):iK fns (.fn 94 [] []) [v] S fun r S'=>(∃t,r= .bool t/\(t=true↔aEJ l))/\jq S S':=by
 refine cJ H.f94 (by simp) ?_;refine ai ?_;refine bS (ai ?_);have w0:IntKind.i64.wrap ((l.length:Int) - 1)=(l.length:Int) - 1:=wrap_i64 au au;apply fZ;simp only[↓aD,aC,rE,↓reduceIte,x.len,Ag,w0];refine aJ (bL (aVM S v l) ?_ (l.length - 1) _ _ ⟨rfl,dy S,(l.length:Int) - 1,au,au,au,fun i c p=>au,aj,aj⟩);rintro k ⟨F,inr⟩ X ⟨rfl,q,i,E,G,I,d,y,s⟩;simp only at y s;have a:=x.jo q;refine fZ (io s ?_);by_cases hi:0<i
 .refine aM (jf (Ac hi)) (aG ?_);refine ai ?_
  obtain⟨n,rfl⟩:∃n:Nat,i=(n:Int):=⟨i.toNat,au⟩;have c:n<l.length:=by omega
  have u:n - 1<l.length:=by omega
  have D:IntKind.i64.wrap ((n:Int) - 1)=((n - 1:Nat):Int):=by rw[wrap_i64 au au];omega
  have e:=a.c9 c;have f:=a.c9 u;have g:=a.ld c;have m:=a.ld u;have z:=bN.self x;obtain⟨b,A⟩:∃b off cap o,v= .sl b off l.length cap o/\b<X.nx:=by
   rcases a with⟨u,_⟩|⟨b,off,cap,o,cs,rfl,_,A,_⟩
   .rw[u] at c;simp at c
   .exact⟨b,off,cap,o,rfl,A⟩
  obtain⟨off,cap,o,rfl,B⟩:=A;simp only[aA7] at e f g m;refine aB (aJ (aB (iN (fun _=>False) ?_)));intro S1 s1;refine fe y s e D f g m B @Ap ?_;refine dT rfl ?_;refine ae ?_;refine aW (aLX H) ?_;rintro _ Y ⟨rfl,J⟩;rw[J];refine⟨dy _,?_⟩
  by_cases w:l.getD n 0<l.getD (n - 1) 0
  .refine aM (ja (Ac w)) ?_;refine bS (ae ?_);refine aS (ae ?_);exact⟨⟨_,rfl,⟨nofun,fun h=>absurd w (h n au c)⟩⟩,q.trans s1⟩
  .refine aK (ja (Aa w)) (aG ?_);refine ae ?_
   refine aF (dz s D ?_);refine⟨k - 1,au,rfl,q.trans s1,((n - 1:Nat):Int),au,au,au,fun j c p=>?_,ah y,af⟩;by_cases K:j=n
   .rw[K];exact w
   .exact d j au p
 .refine aK (jf (Aa hi)) (bH ?_);refine ai ?_;refine bS (ai ?_);refine aS (ai ?_);exact⟨⟨_,rfl,⟨fun _ j c p=>d j au p,fun _=>rfl⟩⟩,q⟩
def kQ:List cD->Nat->Nat->Nat
 | [],_,_=>0
 | x::l,s,i=>if x.jk=2/\x.jj=(i:Int) then s+1 else kQ l (s+1) i
def gH(g:aP):bt:=(List.range g.cg.length).map fun i=>((kQ g.ce 0 i:Nat):Int)
def cu(g:aP)(i:Int):jL:=g.cg.getD i.toNat ⟨0,0⟩
def mis(g:aP)(x:cD):Prop:=x.jk=2/\¬ ((cu g x.jj).jl=x.jl/\(cu g x.jj).cm=(x.ji.length:Int))
instance misDec(g:aP)(x:cD):Decidable (mis g x):=by unfold mis;exact inferInstance
open Classical in
noncomputable def wU(g:aP):Int:=if ∃x∈g.ce,mis g x then 10 else if(0:Int)∈gH g then 18 else if aEJ (gH g) then 0 else 9
def aGy(g:aP):Prop:=∀x∈g.ce,x.jk=2->0<=x.jj/\x.jj<g.cg.length
def aOk(a b c d:Int):mL .neq (.struct [(0,.int),(1,.int)]) (.agg [jr a,jr b]) (.agg [jr c,jr d])=some (.bool (decide (¬ (a=c/\b=d)))):=by
 have k:∀y z:Int,xZ .int (jr y) (jr z)=some (decide (y=z)):=fun y z=>by
  show bX (keq .i64 .i64) (some (ieq y z)) none=_;rw[fH,aL,jA];congr 1
 have e:eqv (.struct [(0,.int),(1,.int)]) (.agg [jr a,jr b]) (.agg [jr c,jr d])=some (decide (a=c/\b=d)):=by
  show eqs [(0,.int),(1,.int)] [jr a,jr b] [jr c,jr d]=_;unfold eqs;show(match xZ .int (jr a) (jr c) with | some true=>_ | some false=>_ | none=>_)=_;rw[k];by_cases h:a=c
  .rw[Ac h];unfold eqs;show(match xZ .int (jr b) (jr d) with | some true=>_ | some false=>_ | none=>_)=_;rw[k];by_cases f:b=d
   .rw[Ac f,Ac ⟨h,f⟩];rfl
   .rw[Aa f,Aa (fun g=>f g.2)]
  .rw[Aa h,Aa (fun g=>h g.1)]
 show bD (eqv (.struct [(0,.int),(1,.int)]) _ _) _=_;rw[e,aH];congr 2;by_cases h:a=c/\b=d
 .rw[Ac h,Aa (fun f=>f h)];rfl
 .rw[Aa h,Ac h];rfl
def aRF(S:St)(b a:Nat)(g:aP)(k:Nat)(A:bO)(X:St):Prop:=A.inr=false/\jq S X/\∃F:bt,k<=g.ce.length/\F.length=g.cg.length/\(∀j,j<g.cg.length->F.getD j 0=((kQ (g.ce.drop k) k j:Nat):Int))/\X.h.get a=js (aQ F)/\a<X.nx/\
 aA 0 A.F= .ptr b 0/\aA 3 A.F= .sl a 0 g.cg.length g.cg.length false/\aA 4 A.F=jr ((k:Int) - 1)
def aTO(S1:St)(a:Nat)(fv nv:AV)(g:aP)(k:Nat)(A:bO)(X:St):Prop:=A.inr=false/\jq S1 X/\∃i,i+k=g.ce.length/\(∀x∈g.ce.take i,¬mis g x)/\aA 0 A.F= .ptr a 0/\aA 3 A.F=fv/\aA 47 A.F=nv/\aA 48 A.F=jr (g.ce.length:Int)/\aA 49 A.F=jr (i:Int)
def aLr{O:Nat}{pv dv lv:AV}(H:Has fns)(hW:wW S O ps nv iv pv dv lv)(hn:aE 6 bT S nv g.ce)(hi:aE 2 cC S iv g.cg)(hN:g.ce.length<=2000)(hI:g.cg.length<=200)(aw:aGy g):
  iK fns (.fn 89 [] []) [.ptr O 0] S fun r S'=>r=jr (wU g)/\jq S S':=by
 refine cJ H.f89 (by simp) ?_;refine am ?_;refine bS (am ?_);refine bS (ie @dG @dH @aU @aT (dI hW.1) hi.len ?_);refine fQ (oK (n:=g.cg.length) (jd @aY) (jd @aY) ay ay) ?_;intro S1 s1 n1 c1;refine am ?_;have hz:repeatL [AV.int .i64 0] g.cg.length=aQ (List.replicate g.cg.length 0):=by rw[repeatL_one];simp [aQ]
 rw[hz] at c1;have a5:=hW.jo s1;have w0:IntKind.i64.wrap ((g.ce.length:Int) - 1)=(g.ce.length:Int) - 1:=wrap_i64 au au;refine aB (aX (Q:=fun o A X=>o= .normal/\aRF S O S.nx g 0 A X) (aB (aF ?_)) ?_)
 .refine ig @dG @dH @aU @aT (eF a5.1) hn.len w0 ?_;refine aJ (bL (aRF S O S.nx g) ?_ g.ce.length _ _ ⟨rfl,s1,_,Af _,Au ..,fun j hj=>?_,c1,au,aq,aq,aq⟩);rotate_left
  .rw[Cw (Af _),Ad,Cj];split<;>rfl
  rintro k ⟨F,inr⟩ X ⟨rfl,v,Fl,ba,s,hF,P,U,c,d,B⟩;simp only at c d B;refine fZ (fx B ?_);by_cases hk:0<k
  .refine aM i9 (aG ?_);refine am ?_
   have e1:(k:Int) - 1=((k - 1:Nat):Int):=by omega
   rw[e1] at B;have C:k - 1<g.ce.length:=by omega
   obtain⟨x,M⟩:∃x,g.ce[k - 1]? =some x:=⟨_,Ab C⟩;have R:=Bb M;have ab:=hW.jo v;obtain⟨e,b,q,ac,hb,he,⟨a,bb,cc,rfl,ha,bd,be⟩,an,_⟩:=aE.at (aE.jo (E:=bT) bF hn v) az M;have D:g.ce.drop (k - 1)=x::g.ce.drop k:=by
    rw[Bt C,show k - 1+1=k by omega];congr 1;rw[Ab C] at M;exact Bk M
   have w1:IntKind.i64.wrap (((k - 1:Nat):Int)+1)=(k:Int):=by rw[wrap_i64 au au];omega
   have w2:IntKind.i64.wrap (((k - 1:Nat):Int) - 1)=((k - 1:Nat):Int) - 1:=wrap_i64 au au;refine aB (aJ (aB (aF ?_)));refine im c B @dG @dH @aU @aT (eF ab.1) @aY ac an ?_;apply cB;intro X1 x1 m1 d1;refine dB (b:=X.nx) (aq) (by refine am ?_;exact bB _) d1 rfl rfl ?_;intro X2 x2 m2 d2;refine am ?_;have w:jq X X2:=x2.jo x1 (Af _);have u:X2.h.get S.nx=js (aQ Fl):=by rw[w.2 _ U];exact P
   refine bS (gj @aU @aT (fF d2) ?_);have V:∀ (G:Fr) (Y:St) (I:bt),aA 0 G= .ptr O 0->aA 3 G= .sl S.nx 0 g.cg.length g.cg.length false->aA 4 G=jr ((k - 1:Nat):Int)->jq S Y->I.length=g.cg.length->(∀j,j<g.cg.length->I.getD j 0=((kQ (g.ce.drop (k - 1)) (k - 1) j:Nat):Int))->Y.h.get S.nx=js (aQ I)->S.nx<Y.nx->vG fns [mt 24 4,oq 25 (bi .sub (.t 24) (ci 1)),mt 4 25] G Y fun F' S'=>∃k',k'<k/\aRF S O S.nx g k' ⟨F',false⟩ S':=fun G Y I g0 g3 g4 W h1 h2 h3 h4=>by
    refine gh g4 w2 ?_;exact⟨k - 1,au,rfl,W,I,au,h1,h2,h3,h4,ar g0,ar g3,aq⟩
   by_cases f:x.jk=2
   .refine aM (jd (Ac f)) ?_;have⟨i0,i1⟩:=aw x R f;obtain⟨n,J⟩:∃n:Nat,x.jj=(n:Int):=⟨x.jj.toNat,au⟩;have K:n<g.cg.length:=by omega
    rw[J] at d2;have bj:=eX (b:=S.nx) (o:=false) K;apply aF;simp only[↓aD,aC,rE,↓reduceIte,rA,c,d,B,aU,aT,dI d2,w1,aY,bj];refine eK (fun call=>by refine gh @dE @cF ?_;exact qQ (S:=X2) u (by rw[s];exact K)) ?_;refine am ?_;apply aF;refine aI2 (V _ _ (Fl.set n (k:Int)) (ar c) (ar d) (ar B) (((v.trans w)).put (Af _) _) (by rw[Ar];exact s) (fun j hj=>?_) jh (by simp only;omega)) fun F' S' hh=>hh;rw[eJ (by rw[s];exact K),D,hF j hj];simp only[kQ];by_cases T:j=n
    .rw[if_pos T,if_pos ⟨f,by rw[J,T]⟩];omega
    .rw[if_neg T,if_neg (fun h=>T au),show k - 1+1=k by omega]
   .refine aK (jd (Aa f)) (aG ?_);refine am ?_
    apply aF;refine aI2 (V _ X2 Fl (ar c) (ar d) (ar B) (v.trans w) s (fun j hj=>?_) u au) fun F' S' hh=>hh;rw[D,hF j hj];simp only[kQ];rw[if_neg (fun h=>f h.1),show k - 1+1=k by omega]
  .refine aK i9 (bH ?_);refine am ?_;have ao:k=0:=by omega
   subst ao;exact⟨rfl,v,Fl,ba,s,hF,P,U,ar c,ar d,ar B⟩
 rintro o ⟨F,inr⟩ S2 ⟨rfl,rfl,s2,Fl,_,s,hF,P,u,c,d,B⟩;simp only at c d B;have aI:Fl=gH g:=by
  unfold gH;refine En (by simp [s]) fun j j1 j2=>?_;have h1:=hF j au;rw[Ad,Ab j1,Di] at h1;rw[List.getElem_map,List.getElem_range];exact h1
 subst aI;have aV:=hW.jo s2;have aZ:=aE.jo (E:=bT) bF hn s2;have bk:=aE.jo (E:=cC) bQ hi s2;refine am ?_
 refine aB (aX (Q:=fun o A X=>(o= .normal/\aTO S2 O (.sl S.nx 0 g.cg.length g.cg.length false) nv g 0 A X)\/(o= .ret/\jq S2 X/\(∃x∈g.ce,mis g x)/\aA 2 A.F=jr 10)) (aB (aF ?_)) ?_)
 .refine ig c @dG @dH @aU @aT (eF aV.1) aZ.len ?_;refine aJ (bL (aTO S2 O (.sl S.nx 0 g.cg.length g.cg.length false) nv g) ?_ g.ce.length _ _ ⟨rfl,dy _,0,au,fun x M=>(by simp at M),ar c,ar d,aq,aq,aq⟩);rintro k ⟨F,inr⟩ X ⟨rfl,v,i,a0,hm,c,d,m,p,l⟩;simp only at c d m p l;refine bS (gh p l ?_);by_cases C:i<g.ce.length
  .refine aB (aM i9 (aG ?_));refine am ?_;obtain⟨x,M⟩:∃x,g.ce[i]? =some x:=⟨_,Ab C⟩;have R:=Bb M;obtain⟨e,b,q,ac,hb,he,⟨a,bb,cc,rfl,ha,bd,be⟩,an,_⟩:=aE.at (aE.jo (E:=bT) bF aZ v) az M;have w1:=du i
   refine aB (aJ (aB (aF ?_)));refine gy m l @aY ac an ?_;apply cB;intro X1 x1 m1 d1;refine dB (b:=X.nx) (aq) (by refine am ?_;exact bB _) d1 rfl rfl ?_;intro X2 x2 m2 d2;refine am ?_;have w:jq X X2:=x2.jo x1 (Af _);have L:=v.trans w;have ab:=aV.jo L;have bm:=(ha.jo w).len;have bp:=bN.self ha;have bq:=aE.self hi;refine aB (aX (Q:=fun o A Y=>o= .normal/\A.inr=false/\jq X2 Y/\aA 0 A.F= .ptr O 0/\aA 3 A.F= .sl S.nx 0 g.cg.length g.cg.length false/\aA 47 A.F=nv/\aA 48 A.F=jr (g.ce.length:Int)/\aA 49 A.F=jr (i:Int)/\aA 73 A.F= .bool (decide (mis g x))) (gI ?_) ?_)
   .by_cases f:x.jk=2
    .have⟨i0,i1⟩:=aw x R f;obtain⟨n,J⟩:∃n:Nat,x.jj=(n:Int):=⟨x.jj.toNat,au⟩;have K:n<g.cg.length:=by omega
     obtain⟨y,hy⟩:∃y,g.cg[n]? =some y:=⟨_,Ab K⟩;obtain⟨e',b',q',a1,bx,bz,rfl,a2,_⟩:=aE.at (aE.jo (E:=cC) bQ bk L) az hy;have bs:cu g x.jj=y:=by unfold cu;rw[J,Ad,show((n:Int)).toNat=n from rfl,hy];rfl
     have a4:decide (mis g x)=decide (¬ (y.jl=x.jl/\y.cm=(x.ji.length:Int))):=by
      rw[Cv,Cu,Cu];unfold mis;rw[bs];exact⟨fun h=>h.2,fun h=>⟨f,h⟩⟩
     rw[a4];rw[J] at d2;have bv:cI (.agg [jr y.jl,jr y.cm]) (.agg [jr y.jl,jr y.cm])=true:=zR (dO ..) (dO ..);simp only[↓aD,aC,rE,↓reduceIte,rA,c,d,m,p,l,dG,fG,dH,aU,cP,aT,fF d2,eF d2,dI d2,dD d2,dI ab.1,aY,a1,a2,bm,bp,bq,bv,Ag,pI,aNF,cF,aOk,Ac f];exact jq.nx _ _
    .rw[Aa (show ¬mis g x from fun h=>f h.1)];refine im c d m p l @aU @cP @aT (fF d2) (Aa f) ?_;exact jq.nx _ _
   rintro o ⟨F,inr⟩ Y ⟨rfl,rfl,W,c,d,m,p,l,pb⟩;simp only at c d m p l pb;have Z:=L.trans W;refine am ?_
   by_cases z:mis g x
   .refine aM (je pb (Ac z)) ?_;refine bS (am ?_);refine aS (am ?_);exact .inr ⟨Z,x,R,z⟩
   .refine aK (je pb (Aa z)) (aG ?_);refine am ?_
    refine aF (gh l w1 ?_);refine⟨k - 1,au,rfl,Z,i+1,au,fun y hy=>?_,ar c,ar d,ar m,ar p,aq⟩;rw[Cc,M] at hy;rcases Bi.1 hy with h|h
    .exact hm y h
    .simp at h;rw[h];exact z
  .refine aB (aK i9 (bH ?_));refine am ?_;have ao:k=0:=by omega
   subst ao;exact .inl ⟨rfl,v,i,a0,hm,ar c,ar d,ar m,ar p,ar l⟩
 rintro o ⟨F,inr⟩ X (⟨rfl,q0,v,i,a0,hm,c,d,m,p,l⟩|⟨rfl,v,z,p2⟩);rotate_left
 .simp only at p2;simp only[↓aD,aC,rE,↓reduceIte,rA,p2];unfold wU;rw[if_pos z];exact⟨rfl,s2.trans v⟩
 simp only at q0 c d;subst q0;rw[Bh au] at hm;unfold wU;rw[if_neg (fun⟨x,h1,h2⟩=>hm x h1 h2)];have sX:=s2.trans v;have bw:X.h.get S.nx=js (aQ (gH g)):=by rw[v.2 _ u];exact P
 have aa:=xK (N:=g.cg.length) bw (Ae u v.1) s;refine am ?_
 refine fZ (fx d ?_);refine bJ (am ?_);refine aW (aFg H aa au) ?_;rintro _ Y ⟨rfl,W⟩;rw[W]
 by_cases h0:(0:Int)∈gH g
 .rw[if_pos h0];refine aM (jd (Ac h0)) ?_;refine bS (am ?_);refine aS (am ?_);exact sX
 rw[if_neg h0];refine aK (jd (Aa h0)) (aG ?_);refine am ?_
 refine fZ (fx d ?_);refine bJ (am ?_);refine aW (aIx H aa au) ?_;rintro _ Y ⟨⟨t,rfl,ht⟩,W⟩;refine fx @iY ?_;cases t with
 | false=>
  rw[if_neg (fun h=>by have:=ht.2 h;cases this)];refine aM (by simp only[↓aD,aC,rE,↓reduceIte,rA];rfl) ?_;refine bS (am ?_);refine aS (am ?_);exact sX.trans W
 | true=>
  rw[if_pos (ht.1 rfl)];refine aK (by simp only[↓aD,aC,rE,↓reduceIte,rA];rfl) (aG ?_);refine am ?_
  refine bS (am ?_);refine aS (am ?_);exact sX.trans W
def nO(g:aP):Prop:=g.ch<1\/(4:Int)<g.ch\/(g.ce.length:Int)<1\/(2000:Int)<(g.ce.length:Int)\/(200:Int)<(g.cg.length:Int)
instance badGDec(g:aP):Decidable (nO g):=by unfold nO;exact inferInstance
def kR(ps:Int)(a:Nat):List cD->Int
 | []=>0
 | x::l=>if gS ps a x≠0 then gS ps a x else kR ps a l
def fY(g:aP):Option (List cL):=eT g.ce.length (dP g) (g.ce.length+1) 0 (-1) 0
noncomputable def cR(g:aP):Int:=
 if nO g then 2 else if kR g.ch g.cg.length g.ce≠0 then kR g.ch g.cg.length g.ce else
 match fY g with
 | none=>9
 | some T=>if T.length≠g.ce.length then 9 else if 40<vT 0 T then 5 else wU g
def jF{ps:Int}{c:Nat}:∀ {l:List cD},kR ps c l=0->∀x∈l,gS ps c x=0
 | [],_,x,a=>by cases a
 | y::l,h,x,a=>by
  simp only[kR] at h;split at h
  .rename_i b;exact absurd h b
  .rename_i d;rcases Bm.1 a with rfl|a
   .exact Ed.1 d
   .exact jF h x a
def aCE{x:cD}(h:gS ps b x=0):x.ji.length<=1000:=by
 unfold gS at h;split at h
 .split at h
  .cases h
  .rename_i a;unfold oS at a;omega
 .split at h
  .split at h
   .cases h
   .rename_i a;unfold uV at a;omega
  .split at h
   .split at h
    .cases h
    .rename_i a;unfold oT at a;omega
   .cases h
def aCx{ni:Nat}{x:cD}(h:gS ps ni x=0)(a:x.jk=2):0<=x.jj/\x.jj<ni:=by
 unfold gS at h;rw[if_neg au,if_pos a] at h;split at h
 .cases h
 .split at h
  .cases h
  .omega
def xY{p:Nat}{o:Bool}(h:S.h.get b=some (.cells cs o sz))(c:p<cs.length):qZ (.ptr b p) 1 [w] S=some (.undef,⟨S.h.set b (some (.cells (cs.set p w) o sz)),S.nx⟩):=by
 have a:put cs p [w]=some (cs.set p w):=by
  rw[put_eq,if_pos (by simp;omega)];congr 1;rw[List.set_eq_take_append_cons_drop,if_pos c];simp
 simp only[qZ,uB,h,aH,aCg,a];rfl
def aBz{W:Nat->Prop}{d h':T AB}{m:Nat}{l:List AO}{ps ps':List jD}{x v:cQ}{p:Nat}{o:Bool}(a:cN m ps S.h=(ps',h'))(h:lL last m=true)(f:x.val F= .ptr b p)(g:(v.val F).cells=some [w])(j:h'.get b=some (.cells cs o sz))(k:p<cs.length)(n:W b)
  (q:gO fns W d base l (i+1) F ⟨h'.set b (some (.cells (cs.set p w) o sz)),S.nx⟩ ps' (some i) Q):gO fns W d base (⟨none,.x (.st 1 x v),none,m⟩::l) i F S ps last Q:=by
 refine qC (S1:=⟨h'.set b (some (.cells (cs.set p w) o sz)),S.nx⟩) h ?_ ?_ ?_
 .rw[a,g,aH,f];exact xY (S:=⟨h',S.nx⟩) j k
 .rw[a];refine⟨Af _,fun c s r=>?_⟩;simp only;rw[dx,if_neg (show ¬c=b from fun e=>r (by rw[e];exact n))]
 .rw[a];exact q
def pG{o:Bool}{s:Nat}(a:h.get b=some (.cells [x0,x1,x2] o s)):eE (.ptr b (0+0)) false 1 h=some x0:=zP a rfl
def fN{o:Bool}{s:Nat}(a:h.get b=some (.cells [x0,x1,x2] o s)):eE (.ptr b (0+1)) false 1 h=some x1:=zP a rfl
def jE{o:Bool}{s:Nat}(a:h.get b=some (.cells [x0,x1,x2] o s)):eE (.ptr b (0+2)) false 1 h=some x2:=zP a rfl
def gE{o:Bool}{s:Nat}(a:h.get b=some (.cells [x0,x1,x2] o s)):eE (.ptr b 0) true 3 h=some (.agg [x0,x1,x2]):=mA a rfl
def aAX{m id:Nat}{ps:List jD}(a:Nat.testBit m j=false):cN m (⟨j,id,bl⟩::ps) h=(⟨j,id,bl⟩::(cN m ps h).1,(cN m ps h).2):=by
 conv=>lhs;unfold cN
 rw[show Nat.testBit m (jD.mk j id bl).i=false from a,aR]
def iH{m id:Nat}{ps:List jD}(a:Nat.testBit m j=true):cN m (⟨j,id,bl⟩::ps) h=cN m ps (h.set id (some bl)):=by
 conv=>lhs;unfold cN
 rw[show Nat.testBit m (jD.mk j id bl).i=true from a,aL]
def qF{W:Nat->Prop}{a:T AB}{l:List AO}{ps:List jD}{d:Option Nat}{s bytes:Nat}{z:bu}{lo co:cQ}(b:gL (lo.val F)=some n)(c:gL (co.val F)=some n)(e:n<=room)(f:bytes * n<=room)
  (g:gO fns W a base l (i+1) (cT d F (.sl (base+i) 0 n n false)) S (⟨i,base+i,.cells (repeatL z n) false 0⟩::ps) last Q):aI0 fns W a base (uI (.df t s bytes z lo co) F (base+i)) d l i F S ps last Q:=by
 rw[oK b c e f,lR];exact g
def jK.full{sel:cL->Int}{P P':bt}{T:List cL}(h:jK sel P P' T 0)(c:T.length=P.length):P'=T.map sel:=by
 refine En (by rw[Av,h.1,c]) fun j d b=>?_;have a:=h.2 j;rw[Av] at b;unfold xO at a;rw[if_pos (Ct _),Ew,Ab b,Ad,Ab d] at a;rw[List.getElem_map];exact a
def aJV{T:List cL}(h:fY g=some T):∃e L,T=(-1,0,e)::L:=by
 unfold fY at h;simp only[eT] at h;split at h
 .obtain⟨L,_,rfl⟩:=Bc.1 h;exact⟨_,_,rfl⟩
 .cases h
def aNO(m:Int)(L:List cL):aJr m (L.map (·.2.1))=vT m L:=by
 unfold aJr vT;rw[List.foldl_map]
def aPs{P:T AB->Prop}{w a d:Nat}{j k g z:Option AB}(e:w≠a)(i:w≠b)(n3:w≠d)(l:a≠b)(m:a≠d)(n:b≠d)
  (H:∀h':T AB,h'.get w=g->h'.get a=z->h'.get b=z->h'.get d=z->(∀c,c≠w->c≠a->c≠b->c≠d->h'.get c=h.get c)->P h'):P ((((((h.set a z).set w j).set b z).set w k).set d z).set w g):=by
 refine H _ ?_ ?_ ?_ ?_ fun c f o p q=>?_
 .rw[dx,if_pos rfl]
 .rw[dx,if_neg (Ch e),dx,if_neg m,dx,if_neg (Ch e),dx,if_neg l,dx,if_neg (Ch e),dx,if_pos rfl]
 .rw[dx,if_neg (Ch i),dx,if_neg n,dx,if_neg (Ch i),dx,if_pos rfl]
 .rw[dx,if_neg (Ch n3),dx,if_pos rfl]
 .rw[dx,if_neg f,dx,if_neg q,dx,if_neg f,dx,if_neg p,dx,if_neg f,dx,if_neg o]
def aTS(a:St)(gb b:Nat)(nv:AV)(g:aP)(k:Nat)(A:bO)(X:St):Prop:=A.inr=false/\jq a X/\∃i,i+k=g.ce.length/\kR g.ch g.cg.length g.ce=kR g.ch g.cg.length (g.ce.drop i)/\aA 1 A.F= .ptr gb 0/\aA 4 A.F= .ptr b 0/\aA 40 A.F=nv/\aA 41 A.F=jr (g.ce.length:Int)/\aA 42 A.F=jr (i:Int)
def aRA(S S':St)(p nv iv:AV)(g:aP):Prop:=∃ (a b db lb:Nat) (T:List cL),p= .ptr a 0/\S.nx<=a/\fY g=some T/\T.length=g.ce.length/\WK S' a b db lb g.ce.length g.ch nv iv (T.map (·.1)) (T.map (·.2.1)) (T.map (·.2.2))
def aIl(H:Has fns)(K:aE 6 bT S nv g.ce)(hi:aE 2 cC S iv g.cg)(bw:g.ce.length<=100000):
  iK fns (.fn 85 [] []) [.agg [jr g.ch,nv,iv]] S fun r S'=>jq S S'/\∃p,r= .tup [p,jr (cR g)]/\(cR g=0->aRA S S' p nv iv g):=by
 refine cJ H.f85 (by simp) ?_;refine ae ?_;apply bS;refine dC (by refine ae ?_;exact bB _) ?_;intro S1 s1 n1 m;refine ae ?_;have j:=K.len;have y:=hi.len;refine aB (aB (aX (Q:=fun o R X=>o= .normal/\R.inr=false/\X=S1/\aA 1 R.F= .ptr S.nx 0/\aA 35 R.F= .bool (decide (nO g))) (aF ?_) ?_))
 .by_cases U:g.ch<1
  .rw[Ac (show nO g from .inl U)];simp only[↓sU,sD,rE,↓reduceIte,rA,pG m,fN m,jE m,j,y,Ac U]
  by_cases M:(4:Int)<g.ch
  .rw[Ac (show nO g from .inr (.inl M))];simp only[↓sU,sD,rE,↓reduceIte,rA,pG m,fN m,jE m,j,y,Aa U,Ac M]
  by_cases h3:(g.ce.length:Int)<1
  .rw[Ac (show nO g from .inr (.inr (.inl h3)))];simp only[↓sU,sD,rE,↓reduceIte,rA,pG m,fN m,jE m,j,y,Aa U,Aa M,Ac h3]
  by_cases h4:(2000:Int)<(g.ce.length:Int)
  .rw[Ac (show nO g from .inr (.inr (.inr (.inl h4))))];simp only[↓sU,sD,rE,↓reduceIte,rA,pG m,fN m,jE m,j,y,Aa U,Aa M,Aa h3,Ac h4]
  by_cases h5:(200:Int)<(g.cg.length:Int)
  .rw[Ac (show nO g from .inr (.inr (.inr (.inr h5))))];simp only[↓sU,sD,rE,↓reduceIte,rA,pG m,fN m,jE m,j,y,Aa U,Aa M,Aa h3,Aa h4,Ac h5]
  .rw[Aa (show ¬nO g by unfold nO;omega)];simp only[↓sU,sD,rE,↓reduceIte,rA,pG m,fN m,jE m,j,y,Aa U,Aa M,Aa h3,Aa h4,Aa h5]
 rintro o ⟨F,inr⟩ X ⟨rfl,rfl,z,l,pb⟩;simp only at l pb;rw[z];refine ae ?_
 by_cases bad:nO g
 .have u:cR g=2:=by unfold cR;rw[if_pos bad]
  rw[u];refine aM (jc pb (Ac bad)) ?_;refine bS (ae ?_);refine aS (ae ?_);exact⟨s1,_,rfl,nofun⟩
 refine aK (jc pb (Aa bad)) (aG ?_);refine ae ?_
 have bd:1<=g.ch/\g.ch<=4:=by unfold nO at bad;omega
 have hN:g.ce.length<=2000:=by unfold nO at bad;omega
 have bx:0<g.ce.length:=by unfold nO at bad;omega
 have hI:g.cg.length<=200:=by unfold nO at bad;omega
 have be:∀ (F:Fr) (h:T AB),aA 36 F= .agg [jr g.ch,nv,iv]->iC (.build [jr 0,.cr,.cr,.cr,.cr,.cr] [(0,3,.t 36)]) F h=some (.agg [jr g.ch,nv,iv,.cr,.cr,.cr]):=fun F h he=>by
  show(bD (eO _ (dN F [(0,3,.t 36)])) fun cs=>some (AV.agg cs))=_;simp only[dN,show(cQ.t 36).val F= .agg [jr g.ch,nv,iv] from he];rfl
 refine bS (gj l (gE m) be ?_);refine dC (by refine ai ?_;exact bB _) ?_;intro S2 s2 n2 c2;refine ae ?_;have V:jq S S2:=s1.trans s2;have hW:wW S2 S1.nx g.ch nv iv .cr .cr .cr:=⟨c2,au⟩;have bj:=aE.jo (E:=bT) bF K V;have aV:S.nx<S2.nx:=by omega
 have aZ:S2.h.get S.nx=js [jr g.ch,nv,iv]:=by rw[s2.2 _ au];exact m
 refine aB (aX (Q:=fun o R X=>(o= .normal/\aTS S2 S.nx S1.nx nv g 0 R X)\/(o= .ret/\jq S2 X/\kR g.ch g.cg.length g.ce≠0/\aA 2 R.F= .nilp/\aA 3 R.F=jr (kR g.ch g.cg.length g.ce))) (aB (aF ?_)) ?_)
 .refine d8 l (fN aZ) j ?_;refine aJ (bL (aTS S2 S.nx S1.nx nv g) ?_ g.ce.length _ _ ⟨rfl,dy _,0,au,by rw[Di],ah l,af,af,af,af⟩);rintro k ⟨F,inr⟩ X ⟨rfl,z,i,a0,u,l,A,C,D,B⟩;simp only at l A C D B;refine bS (dz D B ?_);by_cases W:i<g.ce.length
  .refine aB (aM i7 (aG ?_));refine ae ?_;obtain⟨x,hx⟩:∃x,g.ce[i]? =some x:=⟨_,Ab W⟩;have⟨e,b,q,bk,hb,he,bm,bp,_⟩:=aE.at (aE.jo (E:=bT) bF bj z) az hx;have aa:g.ce.drop i=x::g.ce.drop (i+1):=by
    rw[Bt W];congr 1;rw[Ab W] at hx;exact Bk hx
   have w1:=du i
   refine aB (aJ (aB (aF ?_)));refine gy C B @aY bk bp ?_;apply cB;intro X1 x1 m1 d1;refine dB (b:=X.nx) (aq) (by refine am ?_;exact bB _) d1 rfl he ?_;intro X2 x2 m2 d2;refine am ?_;have ab:jq X X2:=x2.jo x1 (Af _);refine bS (dz A (mA d2 he) ?_);refine bJ (ae ?_);refine aW (aLU H (bF bm ab) (hW.jo (z.trans ab)) bd y au (aE.self hi)) ?_;rintro _ Y ⟨rfl,hY⟩;have a1:=(z.trans ab).trans hY;rw[aa] at u;simp only[kR] at u
   refine bS (ae ?_);by_cases G:gS g.ch g.cg.length x=0
   .rw[if_neg (fun h=>h G)] at u;refine aK (ja (Aa (show ¬gS g.ch g.cg.length x≠0 from fun h=>h G))) (aG ?_);refine ae ?_
    refine aF (dz B w1 ?_);exact⟨k - 1,au,rfl,a1,i+1,au,u,ah l,ah A,ah C,ah D,af⟩
   .rw[if_pos G] at u;refine aM (ja (Ac (show gS g.ch g.cg.length x≠0 from G))) ?_;refine bS (ae ?_);refine aS (ae ?_);exact .inr ⟨a1,by rw[u];exact G,by rw[u]⟩
  .refine aB (aK i7 (bH ?_));refine ae ?_;have bq:k=0:=by omega
   subst bq;exact .inl ⟨rfl,z,i,a0,u,ah l,ah A,ah C,ah D,ah B⟩
 rintro o ⟨F,inr⟩ X (⟨rfl,q0,z,i,a0,u,l,A,C,D,B⟩|⟨rfl,z,a2,p2,p3⟩);rotate_left
 .simp only at p2 p3;refine dz p2 p3 ?_;have u:cR g=kR g.ch g.cg.length g.ce:=by unfold cR;rw[if_neg bad,if_pos a2]
  rw[u];exact⟨V.trans z,_,rfl,fun h=>absurd h a2⟩
 simp only at q0 l A;subst q0;rw[Cw au] at u;have a:cR g=match fY g with | none=>9 | some T=>if T.length≠g.ce.length then 9 else if 40<vT 0 T then 5 else wU g:=by
  conv=>lhs;unfold cR
  rw[if_neg bad,if_neg (fun h=>h u)]
  first | done | (cases fY g<;>rfl)
 have I:=V.trans z;have cX:X.h.get S.nx=js [jr g.ch,nv,iv]:=by rw[z.2 _ aV];exact aZ
 have wX:=(hW.jo z).1;have bz:=(hW.jo z).2;have ac:S.nx<X.nx:=Ae aV z.1;have an:¬S.nx=S1.nx:=by omega
 refine ae ?_
 refine aB (pJ (fun b=>b=S1.nx) ?_);intro X1 x1 ao a4;refine ez l A (fN cX) ac an @Ap j (aE.self K) ?_;refine qF (n:=g.ce.length) (af) (af) ay ay  ?_;refine ez l A (fN cX) ac an @Ap j (aE.self K) ?_;refine qF (n:=g.ce.length) (af) (af) ay ay  ?_;refine ez l A (fN cX) ac an @Ap j (aE.self K) ?_;refine qF (n:=g.ce.length) (af) (af) ay ay  ?_;refine dz l A ?_;have hz:repeatL [AV.int .i64 0] g.ce.length=aQ (List.replicate g.ce.length 0):=by rw[repeatL_one];simp [aQ]
 rw[hz];have n6:¬S1.nx=X.nx+6:=by omega
 have aw:¬S1.nx=X.nx+10:=by omega
 have aI:¬S1.nx=X.nx+14:=by omega
 refine aBz (b:=S1.nx) (p:=3) (w:=.sl (X.nx+6) 0 g.ce.length g.ce.length false) (cs:=[jr g.ch,nv,iv,.cr,.cr,.cr]) (o:=false) (sz:=0) ((aAX (az:Nat.testBit 98425 14=false)).trans (by rw[aAX (az:Nat.testBit 98425 10=false),iH (az:Nat.testBit 98425 6=true),bK])) rfl (af) (by simp only[↓sU,sD,rE,↓reduceIte,rA];rfl) (by rw[dx,if_neg n6,ao];exact wX) (by simp) rfl ?_;refine dz l A ?_;refine aBz (b:=S1.nx) (p:=4) (w:=.sl (X.nx+10) 0 g.ce.length g.ce.length false) (cs:=[jr g.ch,nv,iv,.sl (X.nx+6) 0 g.ce.length g.ce.length false,.cr,.cr]) (o:=false) (sz:=0) ((aAX (az:Nat.testBit 1017851 14=false)).trans (by rw[iH (az:Nat.testBit 1017851 10=true),bK])) rfl (af) (by simp only[↓sU,sD,rE,↓reduceIte,rA];rfl) (by rw[dx,if_neg aw,dx,if_pos rfl];rfl) (by simp) rfl ?_;refine dz l A ?_;refine aBz (b:=S1.nx) (p:=5) (w:=.sl (X.nx+14) 0 g.ce.length g.ce.length false) (cs:=[jr g.ch,nv,iv,.sl (X.nx+6) 0 g.ce.length g.ce.length false,.sl (X.nx+10) 0 g.ce.length g.ce.length false,.cr]) (o:=false) (sz:=0) ((iH (az:Nat.testBit 8388607 14=true)).trans (bK _ _)) rfl (af) (by simp only[↓sU,sD,rE,↓reduceIte,rA];rfl) (by rw[dx,if_neg aI,dx,if_pos rfl];rfl) (by simp) rfl ?_;refine ae ?_;refine aPs (P:=fun h'=>jN fns _ _ ⟨h',X1.nx⟩ _) n6 aw aI au au au ?_;intro Zh gw g1 g2 g3 gr;have a4:X1.nx=X.nx+24:=a4;have sZ:jq S ⟨Zh,X1.nx⟩:=⟨by show S.nx<=X1.nx;have:=I.1;omega,fun c hc=>by
  have:=I.1;show Zh.get c=S.h.get c;rw[gr c au au au au,ao];exact I.2 c hc⟩
 have cZ:Zh.get S.nx=js [jr g.ch,nv,iv]:=by
  rw[gr _ au au au au,ao];exact cX
 have hK:WK ⟨Zh,X1.nx⟩ S1.nx (X.nx+6) (X.nx+10) (X.nx+14) g.ce.length g.ch nv iv (List.replicate g.ce.length 0) (List.replicate g.ce.length 0) (List.replicate g.ce.length 0):=⟨⟨gw,by show S1.nx<X1.nx;omega⟩,g1,g2,g3,Au ..,Au ..,Au ..,by show _<X1.nx;omega,by show _<X1.nx;omega,by show _<X1.nx;omega⟩;generalize hZ:(⟨Zh,X1.nx⟩:St)=Z at *;have cZ:Z.h.get S.nx=js [jr g.ch,nv,iv]:=by rw[<-hZ];exact cZ
 have lz:S1.nx<Z.nx:=hK.w.2;have N:=jF u;refine fZ (d8 l A (fN cZ) ?_);refine bJ (ae ?_);rw[show Int.negSucc 0=(-1:Int) from rfl];refine aW (aL6 (rv:=nv) H K au (ax I.1) (ax I.1) (ax I.1) au au au n6 aw aI hN (fun x hx=>aCE (N x hx)) (g.ce.length+1) (at_:=0) (p:= -1) (d:=0) au az az au sZ hK (by rw[Di];exact K)) ?_;rintro r Y ⟨hY,P',D',L',f,O⟩;have sY:jq S Y:=hY.jo sZ (ax I.1) (ax I.1) (ax I.1);have s:match fY g with | some T=>(∃v,r= .tup [v,.bool true]/\aE 6 bT S v (g.ce.drop (0+T.length)))/\jK (·.1) (List.replicate g.ce.length 0) P' T 0/\jK (·.2.1) (List.replicate g.ce.length 0) D' T 0/\jK (·.2.2) (List.replicate g.ce.length 0) L' T 0 | none=>r= .tup [.cr,.bool false]:=O
 cases hw:fY g with
 | none=>
  rw[hw] at s a;subst s;simp only at a;rw[a];refine ae ?_;refine bS (dz @iY @Ej ?_);refine aM (af) ?_;refine bS (ae ?_);refine aS (ae ?_);exact⟨sY,_,rfl,nofun⟩
 | some T=>
  rw[hw] at s a;obtain⟨⟨v,rfl,hv⟩,rP,rD,rL⟩:=s;simp only at a;have bA:=(zL (show eT g.ce.length (dP g) (g.ce.length+1) 0 (-1) 0=some T from hw)).1;have a5:=hv.len;rw[Cz] at a5;refine ae ?_;refine bS (d8 @iY @Dn a5 ?_);by_cases hT:T.length=g.ce.length;rotate_left
  .rw[a,if_pos hT];refine aM i7 ?_;refine bS (ae ?_);refine aS (ae ?_);exact⟨sY,_,rfl,nofun⟩
  rw[if_neg (fun h=>h hT)] at a;refine aK i7 (aG ?_);refine ae ?_
  have eP:=rP.full (by rw[Au];exact hT);have eD:=rD.full (by rw[Au];exact hT);have eL:=rL.full (by rw[Au];exact hT);subst eP eD eL;have ba:=xK f.gd f.bd f.ld;have⟨e,L,bs⟩:=aJV hw;have bb:aJr ((T.map (·.2.1)).getD 0 0) ((T.map (·.2.1)).drop 1)=vT 0 T:=by
   rw[bs];show aJr 0 (L.map (·.2.1))=vT 0 ((-1,0,e)::L);rw[aNO,aGc];rfl
  refine fZ (d8 l A (dW f.w.1) ?_);refine bJ (ae ?_);refine aW (aOJ H ba (by rw[Av];omega) (by rw[Av];omega)) ?_;rintro _ Y2 ⟨rfl,bv⟩;rw[bv,bb];refine ae ?_;by_cases J:40<vT 0 T
  .rw[a,if_pos J];refine aM (ja (Ac J)) ?_;refine bS (ae ?_);refine aS (ae ?_);exact⟨sY,_,rfl,nofun⟩
  rw[if_neg J] at a;refine aK (ja (Aa J)) (aG ?_);refine ae ?_
  refine bS (dz l A ?_);refine bJ (ae ?_);refine aW (aLr H f.w (aE.jo (E:=bT) bF K sY) (aE.jo (E:=cC) bQ hi sY) hN hI (fun x hx M=>aCx (N x hx) M)) ?_;rintro _ Y3 ⟨rfl,t⟩
  refine aS (ae ?_);rw[a];refine⟨sY.trans t,_,rfl,fun _=>⟨S1.nx,_,_,_,T,rfl,au,hw,hT,⟨f.w.jo t,by rw[t.2 _ f.bp];exact f.gp,by rw[t.2 _ f.bd];exact f.gd,by rw[t.2 _ f.bl];exact f.gl,f.lp,f.ld,f.ll,Ae f.bp t.1,Ae f.bd t.1,Ae f.bl t.1⟩⟩⟩
def aFx{a:Nat}{n i p d l:AV}(H:Has fns)(b:wW S a ps n i p d l):iK fns (.fn 80 [] []) [.ptr a 0] S fun r S'=>r=p/\jq S S':=by
 refine cJ H.f80 (by simp) ?_;refine ae ?_;refine bS (ae ?_);refine bS (c8 (dD b.1) ?_);refine aS (ae ?_);exact dy _
def aQ6(S S':St)(v:AV)(g:aP):Prop:=(cR g≠0->v= .cr)/\(cR g=0->∃T,fY g=some T/\T.length=g.ce.length/\bN .i64 S' v (T.map (·.1)))
def aG7(H:Has fns)(l:aE 6 bT S nv g.ce)(hi:aE 2 cC S iv g.cg)(d:g.ce.length<=100000):
  iK fns (.fn 75 [] []) [.agg [jr g.ch,nv,iv]] S fun r S'=>∃v,r= .tup [v,jr (cR g)]/\jq S S'/\aQ6 S S' v g:=by
 refine cJ H.f75 (by simp) ?_;refine ae ?_;apply bS;refine dC (by refine ae ?_;exact bB _) ?_;intro S1 s1 s m;refine ae ?_;refine bS (c8 (gE m) ?_);refine bJ (ae ?_);have e:=aE.jo (E:=bT) bF l s1;have f:=aE.jo (E:=cC) bQ hi s1;refine aW (Q:=fun r X=>∃v,r= .tup [v,jr (cR g)]/\jq S1 X/\aQ6 S1 X v g) ?_ ?_
 .refine cJ H.f79 (by simp) ?_;refine ae ?_;apply bS;refine dC (by refine ae ?_;exact bB _) ?_;intro t s2 u n;refine ae ?_;refine bS (c8 (gE n) ?_);refine bJ (ae ?_);refine aW (aIl H (aE.jo (E:=bT) bF e s2) (aE.jo (E:=cC) bQ f s2) d) ?_;rintro _ X ⟨b,p,rfl,i⟩;refine ae ?_;refine fZ (ae ?_);by_cases a:cR g=0
  .refine aK (ja (Aa (show ¬cR g≠0 from fun h=>h a))) (aG ?_);refine ae ?_
   obtain⟨w,x,db,lb,T,rfl,_,o,j,c⟩:=i a;refine bS (ae ?_);refine bJ (ae ?_);refine aW (aFx H c.w) ?_;rintro _ Y ⟨rfl,k⟩
   refine aS (ae ?_);rw[a];refine⟨_,rfl,(s2.trans b).trans k,fun h=>absurd a h,fun _=>⟨T,o,j,?_⟩⟩;exact(xK c.gp c.bp c.lp).jo k
  .refine aM (ja (Ac (show cR g≠0 from a))) ?_;refine bS (ae ?_);refine bS (ae ?_);refine aS (ae ?_);exact⟨_,rfl,s2.trans b,fun _=>rfl,fun h=>absurd h a⟩
 rintro _ X ⟨v,rfl,b,q⟩;refine ae ?_;refine aS (ae ?_);exact⟨_,rfl,s1.trans b,q⟩
def aRG{o:Bool}(h:S.h.get t=some (.cells [x] o sz)):eS (.sl t 0 1 1 false) S.h 1 1=some [x]:=by
 show bD (cG S.h t) (fun cs=>cut cs 0 (1 * 1))=_;unfold cG;rw[h];rfl
def fC.push{bytes:Nat}{w:Int}(h:fC 1 S0 S v l.length (aQ l))(g:jq S0 S)(m:S.h.get t=js [jr w])(o:l.length+1<=room)(d:(l.length+1) * bytes<=room):
  ∃v' S',gQ bytes 1 v (.sl t 0 1 1 false) S=some (v',S')/\fC 1 S0 S' v' (l++ [w]).length (aQ (l++ [w]))/\aN v'=some S.nx/\S'.nx=S.nx+1/\∀c,c<S.nx->aN v≠some c->S'.h.get c=S.h.get c:=by
 have i:=aRG m;have p:aQ (l++ [w])=aQ l++ [jr w]:=by simp [aQ]
 have q:(l++ [w]).length=l.length+1:=by simp
 rw[p,q];generalize z:l.length=n at *;rcases h with⟨rfl,rfl,k⟩|⟨b,rfl,r,A,s,a⟩
 .refine⟨.sl S.nx 0 1 1 true,⟨S.h.set S.nx (some (.cells [jr w] true 1)),S.nx+1⟩,?_,.inr ⟨S.nx,by rw[An],g.1,by simp,?_,?_⟩,rfl,rfl,fun c a _=>(jq.alloc S _).2 c a⟩
  .show(bD (some 1) fun j=>bD (eS (.sl t 0 1 1 false) S.h 1 j) fun new=>aAz .cr bytes 1 j new S)=_;rw[aH,i,aH];show qV bytes 1 1 [jr w] S=_;unfold qV;rw[show Nat.beq 1 0=false from rfl,aR,Al au,aL,Al (by rw[An] at d;exact d),aL];rfl
  .simp only;rw[dx,if_pos rfl,k];rfl
  .rw[k];rfl
 .refine⟨.sl S.nx 0 (n+1) (n+1) true,⟨(S.h.set b none).set S.nx (some (.cells (aQ l++ [jr w]) true 1)),S.nx+1⟩,?_,.inr ⟨S.nx,rfl,g.1,by simp,?_,by rw[Ai,a,Ax,Dl,Fu]⟩,rfl,rfl,fun c a f=>?_⟩
  .show(bD (some 1) fun j=>bD (eS (.sl t 0 1 1 false) S.h 1 j) fun new=>aAz (.sl b 0 n n true) bytes 1 j new S)=_;rw[aH,i,aH];show lP bytes 1 b 0 n n true 1 [jr w] S=_;unfold lP;have u:Nat.ble (n+1) n=false:=by rw[Ck];intro h;have:=Bd h;omega
   rw[u,aR,Al o,aL,Al d,aL,s,aH];have x:cut (aQ l) 0 (n * 1)=some (aQ l):=by
    unfold cut;rw[iA,iG,Di,if_pos au,Bh au]
   have y:Nat.beq (0+n * 1) (mF (aQ l))=true:=by rw[gJ,a,Bn];omega
   simp only[xJ,x,aH,aL,y,show Nat.beq 1 1=true from rfl,grown,fT]
  .simp only;rw[dx,if_pos rfl]
  .simp only;have:c≠b:=fun e=>f (by rw[e];rfl);rw[dx,if_neg au,dx,if_neg this]
def fC.self{k:Nat}(h:fC k S0 S v n cs):cI v v=true:=by
 rcases h with⟨rfl,_⟩|⟨b,rfl,_⟩
 .rfl
 .exact nQ ..
def fC.cells{k:Nat}(h:fC k S0 S v n cs):v.cells=some [v]:=by
 rcases h with⟨rfl,_⟩|⟨b,rfl,_⟩<;>rfl
noncomputable def aQI:List AO:=[mt 25 3,
oq 26 (.dd 2 (.t 5)),
om 27 2 (ld 26),
mt 28 3,
oq 29 (.dd 2 (.t 5)),
om 30 16 (ld 29),
om 31 56 (.c9 (.slice 1) (.t 28) (.t 30)),
om 32 120 (ld 31),
mt 33 4,
⟨(some 34),(.a (.c7 3 1 1 [(.int .i64 0)] [(0,(.t 33))])),none,256⟩,
⟨(some 35),(.x (.app 3 1 8 (.t 32) (.t 34))),none,1016⟩,
om 36 2047 (.c9 (.slice 1) (.t 25) (.t 27)),
⟨none,(.x (.st 1 (.t 36) (.t 35))),none,4095⟩]
def cM{p:Nat}{o:Bool}{s:Nat}(a:h.get b=some (.cells cs o s))(c:cs[p]? =some x):eE (.ptr b p) false 1 h=some x:=by
 have:=zP (j:=p) a c;rw[An] at this;exact this
def aNv{nb:Nat}{a R U V W X:AV}{Q:Out->bO->St->Prop}(p3:aA 3 F= .sl ob 0 NI NI false)(p4:aA 4 F=jr (i:Int))(p5:aA 5 F= .ptr nb 0)
  (f:S.h.get nb=js [R,U,jr (n:Int),V,W,X]) (q:S.h.get ob=js cs) (aa:cs.length=NI) (Y:cs[n]? =some a) (Z:fC 1 S0 S a l.length (aQ l)) (hS:jq S0 S) (D:nb<S.nx) (E:ob<S.nx) (H:aN a≠some ob) (I:aN a≠some nb) (hl:l.length<=100000)
  (hQ:∀F' S' a',aA 1 F'=aA 1 F->aA 3 F'=aA 3 F->aA 4 F'=aA 4 F->S.nx<=S'.nx->S'.h.get ob=js (cs.set n a')->fC 1 S0 S' a' (l++ [(i:Int)]).length (aQ (l++ [(i:Int)]))->(∃J,aN a'=some J/\S.nx<=J/\J<S'.nx)->(∀c,c<S.nx->c≠ob->aN a≠some c->S'.h.get c=S.h.get c)->Q .normal ⟨F',inr⟩ S'):jN fns (.drw aQI) ⟨F,inr⟩ S Q:=by
 have K:n<cs.length:=(Aj.1 Y).1;have r:=eX (b:=ob) (N:=NI) (o:=false) (au:n<NI);have j:=cM q Y;have he:∀F id,aA 33 F=jr (i:Int)->uI (.c7 3 1 1 [AV.int .i64 0] [(0,.t 33)]) F id=some (.sl id 0 1 1 false,.cells [jr (i:Int)] false 0):=fun F id h=>lD h;have s:jq S ⟨S.h.set (S.nx+9) (js [jr (i:Int)]),S.nx+13⟩:=⟨by simp,fun c hc=>by simp only;rw[dx,if_neg au]⟩;have⟨a',S1,eA,gA,u,nA,rA⟩:=fC.push (bytes:=8) (t:=S.nx+9) (w:=(i:Int)) (Z.step s) (hS.trans s) jh ay ay;simp only at u nA rA;have x:S1.h.get ob=js cs:=by rw[rA _ au H];exact(s.2 _ E).trans q
 have y:S1.h.get nb=js [R,U,jr (n:Int),V,W,X]:=by rw[rA _ au I];exact(s.2 _ D).trans f
 apply rC;unfold aQI;simp only[iT,dJ,aGW,aU,aT,uT,nC,fO,bE,rE,↓reduceIte,p3,p4,p5,aY,aH,r,j,dI f,zF,oW,rK,cP,aL,aR,aFf,he,rA];refine iS (v:=a') (S1:=S1) rfl (fun call=>?_) ?_
 .rw[cK (az:Nat.testBit 1016 9=true),fB];simp only[fO,bE,rE,↓reduceIte];exact eA
 rw[cK (az:Nat.testBit 1016 9=true)];simp only[iT,dJ,uT,fO,bE,rE,↓reduceIte,aY,aH,r,oW,aR];refine iS (v:=.undef) (S1:=⟨S1.h.set ob (js (cs.set n a')),S1.nx⟩) (az:Nat.testBit 4095 10=true) (fun call=>?_) ?_
 .rw[dE];simp only[fO,bE,rE,↓reduceIte,gA.cells,aH];exact xY (S:=S1) x K
 rw[iL];have L:=Z.self;refine⟨?_,?_⟩
 .have e1:∀ (v:AV) (G:Fr) (sl p d ii:Nat) (X1 z:T AB) (b:Nat),aA sl G= .ptr b p->eE (.ptr b p) false 1 S.h=some v->cI v v=true->Nat.testBit d 10=false->Nat.testBit 1016 ii=true->eU ⟨.ld false 1 (.t sl),G,v,ii,d⟩ [(10,1016,X1),(12,4095,z)] S.h=true:=fun v G sl p d ii X1 z b g k m A B=>by
   unfold eU;have e:iC (.ld false 1 (.t sl)) G S.h=some v:=by rw[nC,fO,g];exact k
   simp only[A,B,aR,aL,e,kO,m]
  have e2:∀ (v:AV) (G:Fr) (sl p d ii:Nat) (X1 z:T AB) (b:Nat),aA sl G= .ptr b p->eE (.ptr b p) false 1 S.h=some v->eE (.ptr b p) false 1 X1=some v->cI v v=true->Nat.testBit d 10=false->Nat.testBit d 12=false->Nat.testBit 1016 ii=false->Nat.testBit 4095 ii=true->eU ⟨.ld false 1 (.t sl),G,v,ii,d⟩ [(10,1016,X1),(12,4095,z)] S.h=true:=fun v G sl p d ii X1 z b g k M m A O B h6=>by
   have e:iC (.ld false 1 (.t sl)) G S.h=some v:=by rw[nC,fO,g];exact k
   have e':iC (.ld false 1 (.t sl)) G X1=some v:=by rw[nC,fO,g];exact M
   unfold eU;simp only[A,B,aR,aL,e,kO,m];unfold eU;simp only[O,h6,aR,aL,e',kO,m]
  simp only[Cg,List.reverse_nil,Bu,Ci,pH,xL];rw[e1 a _ 31 n 120 7 _ _ ob (by simp only[bE,rE,↓reduceIte]) j L az az,e1 _ _ 29 (0+2) 16 5 _ _ nb (by simp only[bE,rE,↓reduceIte]) (dI f) (dO ..) az az,e2 _ _ 26 (0+2) 2 2 _ _ nb (by simp only[bE,rE,↓reduceIte]) (dI f) (dI y) (dO ..) az az az az];rfl
 .have C:aN a'≠some ob:=by rw[u];intro h;have:=Bk h;omega
  have P:S.nx<=S1.nx:=by omega
  refine hQ _ _ a' (af) (af) (af) P (by simp only[bK];rw[dx,if_pos rfl]) ?_ ⟨_,u,au,by show _<S1.nx;omega⟩ fun c hc g k=>?_
  .rcases gA with h|⟨b,g,k,m,A,B⟩
   .rw[h.1] at u;cases u
   .refine .inr ⟨b,g,k,m,?_,B⟩;simp only[bK];rw[dx,if_neg (fun e=>C (by rw[g,<-e];rfl))];exact A
  .simp only[bK];rw[dx,if_neg g,rA _ au k];exact s.2 _ hc
def setN:List cD->Nat->Nat->bt
 | [],_,_=>[]
 | x::l,s,i=>if x.jk=2/\x.jj=(i:Int) then(s:Int)::setN l (s+1) i else setN l (s+1) i
def aBX(x:cD)(i:Nat):∀ (l:List cD) (s:Nat),setN (l++ [x]) s i=if x.jk=2/\x.jj=(i:Int) then setN l s i++ [((s+l.length:Nat):Int)] else setN l s i
 | [],s=>by
  simp only[Bu,setN,Ca,Bw]
 | y::l,s=>by
  simp only[Ci,setN];rw[aBX x i l (s+1),Aw,show s+1+l.length=s+(l.length+1) by omega];split<;>split<;>rfl
def aFl(i:Nat):∀ (l:List cD) (s:Nat),(setN l s i).length<=l.length
 | [],_=>Af _
 | y::l,s=>by
  simp only[setN];have:=aFl i l (s+1);split
  .rw[Aw,Aw];omega
  .rw[Aw];omega
def aC7(g:aP):bo:=(List.range g.cg.length).map (setN g.ce 0)
def nM(S:St)(cs:bu)(l:bt):Prop:=∃a,cs= [a]/\bN .i64 S a l
def fR:aFq nM:=fun⟨a,h,b⟩ c=>⟨a,h,b.jo c⟩
def fC.is(h:fC 1 S0 S v l.length (aQ l)):bN .i64 S v l:=by
 rcases h with⟨rfl,a,_⟩|⟨b,rfl,e,c,d,f⟩
 .exact .inl ⟨Bj.1 a,.inl rfl⟩
 .refine .inr ⟨b,0,l.length,true,aQ l,rfl,Af _,c,by unfold cG;rw[d];rfl,fun i x hi=>?_⟩;rw[An];unfold aQ;rw[Ba,hi];rfl
def fC.blk{k:Nat}(h:fC k S0 S v n cs)(a:aN v=some c):S0.nx<=c/\c<S.nx/\S.h.get c=some (.cells cs true k):=by
 rcases h with⟨rfl,_⟩|⟨b,rfl,d,e,f,g⟩
 .cases a
 .cases a;exact⟨d,e,f⟩
def fC.off{k s:Nat}{cs':bu}(h:fC k S0 S v n cs)(a:S.h.get c=some (.cells cs' false s)):aN v≠some c:=fun e=>by
 have:=(h.blk e).2.2;rw[a] at this;cases this
structure Fam(S0 X:St)(ob NI:Nat)(cs:bu)(L:Nat->bt):Prop where
 ho:X.h.get ob=some (.cells cs false 0)
 lt:ob<X.nx
 hl:cs.length=NI
 gr:∀ (j:Nat) (a:AV),cs[j]? =some a->fC 1 S0 X a (L j).length (aQ (L j))
 dj:∀ (j k:Nat) (a b:AV),j≠k->cs[j]? =some a->cs[k]? =some b->∀c,aN a=some c->aN b≠some c
def Fam.jo(h:Fam S0 X ob NI cs L)(b:jq X X'):Fam S0 X' ob NI cs L:=⟨(b.2 _ h.lt).trans h.ho,Ae h.lt b.1,h.hl,fun j a c=>(h.gr j a c).step b,h.dj⟩
def Fam.push{a a':AV}{w:Int}(h:Fam S0 X ob NI cs L)(u:cs[n]? =some a)(v:X.nx<=X'.nx)(C:X'.h.get ob=js (cs.set n a'))(D:fC 1 S0 X' a' (L n++ [w]).length (aQ (L n++ [w])))(E:∃p,aN a'=some p/\X.nx<=p/\p<X'.nx)(F:∀c,c<X.nx->c≠ob->aN a≠some c->X'.h.get c=X.h.get c):
  Fam S0 X' ob NI (cs.set n a') (fun j=>if j=n then L n++ [w] else L j):=by
 have G:=(Aj.1 u).1;have⟨p,i,H,I⟩:=E;have get:∀ (j:Nat) (c:AV),(cs.set n a')[j]? =some c->(j=n/\c=a')\/(j≠n/\cs[j]? =some c):=fun j c d=>by
  rw[De] at d;split at d
  .rename_i e;exact .inl ⟨e.symm,(Bk d).symm⟩
  .rename_i e;exact .inr ⟨fun J=>e J.symm,d⟩
 refine⟨C,Ae h.lt v,by rw[Ar];exact h.hl,fun j c d=>?_,fun j k x y l r z c q f=>?_⟩
 .rcases get j c d with⟨rfl,rfl⟩|⟨g,d⟩
  .simp only[↓reduceIte];exact D
  .simp only[if_neg g];have s:=h.gr j c d;rcases s with K|⟨b,A,M,B,N,O⟩
   .exact .inl K
   .have m:aN c=some b:=by rw[A];rfl
    refine .inr ⟨b,A,M,Ae B v,?_,O⟩;rw[F b B (fun e=>(h.gr j c d).off h.ho (by rw[m,e])) (h.dj j n c a g d u b m)];exact N
 .rcases get j x r with⟨rfl,rfl⟩|⟨g,d⟩
  .rcases get k y z with⟨rfl,rfl⟩|⟨o,t⟩
   .exact l rfl
   .rw[i] at q;have:=((h.gr k y t).blk f).2.1;have:=Bk q;omega
  .rcases get k y z with⟨rfl,rfl⟩|⟨o,t⟩
   .rw[i] at f;have:=((h.gr j x d).blk q).2.1;have:=Bk f;omega
   .exact h.dj j k x y l d t c q f
def Fam.is(h:Fam S0 X ob NI cs L):aE 1 nM X (.sl ob 0 NI NI false) ((List.range NI).map L):=by
 refine .inr ⟨ob,0,NI,false,cs,by simp,by simp,h.lt,by unfold cG;rw[h.ho];rfl,fun i l hi=>?_⟩;rw[Ba,Bc] at hi;obtain⟨e,a,rfl⟩:=hi;have b:i<NI:=by have:=(Aj.1 a).1;rwa [Cn] at this
 rw[Cm b] at a
 .cases a;have c:cs[i]? =some (cs[i]'(by rw[h.hl];exact b)):=Ab _;refine⟨[cs[i]'(by rw[h.hl];exact b)],rfl,fun j x d=>?_,_,rfl,(h.gr i _ c).is⟩;cases j with
  | zero=>
   cases d;rw[An,Ec,Bw];exact c
  | succ j=>simp at d
def aSY(S:St)(gb ob:Nat)(nv iv:AV)(g:aP)(k:Nat)(A:bO)(X:St):Prop:=A.inr=false/\jq S X/\X.h.get gb=js [jr g.ch,nv,iv]/\gb<X.nx/\gb≠ob/\∃i cs,i+k=g.ce.length/\Fam S X ob g.cg.length cs (setN (g.ce.take i) 0)/\
 aA 1 A.F= .ptr gb 0/\aA 3 A.F= .sl ob 0 g.cg.length g.cg.length false/\aA 4 A.F=jr (i:Int)
def aCS(H:Has fns)(hn:aE 6 bT S nv g.ce)(hi:aE 2 cC S iv g.cg)(hN:g.ce.length<=100000)(hI:g.cg.length<=100000)(P:aGy g):
  iK fns (.fn 33 [] []) [.agg [jr g.ch,nv,iv]] S fun r S'=>jq S S'/\aE 1 nM S' r (aC7 g):=by
 refine cJ H.f33 (by simp) ?_;refine ae ?_;apply bS;refine dC (by refine ae ?_;exact bB _) ?_;intro S1 s1 n1 c1;refine ae ?_;refine bS (gu @aU @aT (jE c1) hi.len ?_);refine fQ (oK (n:=g.cg.length) (jd @aY) (jd @aY) ay ay) ?_;intro S2 s2 n2 c2;refine am ?_;rw[repeatL_one] at c2;have R:=s1.trans s2;have T:S2.h.get S.nx=js [jr g.ch,nv,iv]:=by rw[s2.2 _ au];exact c1
 have U:Fam S S2 S1.nx g.cg.length (List.replicate g.cg.length .cr) (setN (g.ce.take 0) 0):=by
  refine⟨c2,au,Au ..,fun j a f=>?_,fun j k a b _ f hk c V=>?_⟩
  .rw[Cj] at f;split at f
   .cases f;exact .inl ⟨rfl,rfl,rfl⟩
   .cases f
  .rw[Cj] at f;split at f
   .cases f;cases V
   .cases f
 refine aB (aX (Q:=fun o A' X=>o= .normal/\aSY S S.nx S1.nx nv iv g 0 A' X) (aB (aF ?_)) ?_)
 .refine am ?_;refine aJ (bL (aSY S S.nx S1.nx nv iv g) ?_ g.ce.length _ _ ⟨rfl,R,T,au,au,0,_,au,U,aq,aq,aq⟩);rintro k ⟨F,inr⟩ X ⟨rfl,I,J,O,p,i,cs,K,y,z,v,w⟩;simp only at z v w;have W:=aE.jo (E:=bT) bF hn I;refine fZ (ie z w @aU @aT (fN J) hn.len ?_);by_cases Y:i<g.ce.length
  .refine aM i9 (aG ?_);refine am ?_
   obtain⟨x,Z⟩:∃x,g.ce[i]? =some x:=⟨_,Ab Y⟩;have aa:=Bb Z;obtain⟨e,b,q,ab,hb,he,⟨a,bb,cc,rfl,ha,a1,a2⟩,ac,_⟩:=aE.at W az Z;have w1:=du i
   have L:g.ce.take (i+1)=g.ce.take i++ [x]:=by rw[Cc,Z];rfl
   have an:(g.ce.take i).length=i:=by rw[Bx];omega
   refine aB (aJ (aB (aF ?_)));refine ik z w @aU @aT (fN J) @aY ab ac ?_;apply cB;intro X1 x1 m1 d1;refine dB (b:=X.nx) (aq) (by refine am ?_;exact bB _) d1 rfl rfl ?_;intro X2 x2 m2 d2;refine am ?_;have u:jq X X2:=x2.jo x1 (Af _);have A:X2.h.get S.nx=js [jr g.ch,nv,iv]:=by rw[u.2 _ O];exact J
   have m:=y.jo u;have M:X.nx<X2.nx:=by omega
   have B:S.nx<X2.nx:=Ae O u.1;have d:=I.trans u;refine bS (gj @aU @aT (fF d2) ?_);by_cases s:x.jk=2
   .refine aM (jd (Ac s)) ?_;have⟨i0,i1⟩:=P x aa s;obtain⟨n,N⟩:∃n:Nat,x.jj=(n:Int):=⟨x.jj.toNat,au⟩;have ao:n<cs.length:=by rw[y.hl];omega
    rw[N] at d2;have C:cs[n]? =some cs[n]:=Ab ao;have t:=m.gr n _ C;refine aNv (S0:=S) (ob:=S1.nx) (nb:=X.nx) (n:=n) (i:=i) (NI:=g.cg.length) (cs:=cs) (a:=cs[n]) (l:=setN (g.ce.take i) 0 n) (ar v) (ar w) (aq) d2 m.ho y.hl C t d M m.lt (t.off m.ho) (t.off d2) (by have:=aFl n (g.ce.take i) 0;omega) ?_;intro F' X3 a' q1 q3 q4 D aw aI aV G;have aZ:=m.push C D aw aI aV G;refine aF (gj q4 w w1 ?_);refine⟨k - 1,au,rfl,⟨Aq d.1 D,fun c V=>?_⟩,?_,Ae B D,p,i+1,cs.set n a',au,?_,je q1 z,je q3 v,aq⟩
    .have h1:=d.1;rw[G c au au  (fun e=>by have:=(t.blk e).1;omega)];exact d.2 c V
    .rw[G _ B p (t.off A)];exact A
    .have e:(fun j=>if j=n then setN (g.ce.take i) 0 n++ [(i:Int)] else setN (g.ce.take i) 0 j)=setN (g.ce.take (i+1)) 0:=by
      funext j;rw[L,aBX,an,An];by_cases f:j=n
      .rw[if_pos f,if_pos ⟨s,by rw[N,f]⟩,f]
      .rw[if_neg f,if_neg (fun h=>f (ax h.2))]
     rw[<-e];exact aZ
   .refine aK (jd (Aa s)) (aG ?_);refine am ?_
    refine aF (gh w w1 ?_);refine⟨k - 1,au,rfl,d,A,B,p,i+1,cs,au,?_,ar z,ar v,aq⟩;have e:setN (g.ce.take i) 0=setN (g.ce.take (i+1)) 0:=by
     funext j;rw[L,aBX,if_neg (fun h=>s h.1)]
    rw[<-e];exact m
  .refine aK i9 (bH ?_);refine am ?_;have a0:k=0:=by omega
   subst a0;exact⟨rfl,I,J,O,p,i,cs,K,y,ar z,ar v,ar w⟩
 rintro o ⟨F,inr⟩ X ⟨rfl,rfl,I,J,O,p,i,cs,K,y,z,v,w⟩;simp only at v;rw[Bh au] at y;refine am ?_
 refine bS (fx v ?_);refine aS (am ?_);exact⟨I,y.is⟩
def zG{y z:AV}(a:cI x x=true)(b:cI y y=true)(c:cI z z=true):cI (.agg [x,y,z]) (.agg [x,y,z])=true:=by
 simp [cI,kG,a,b,c]
def rO(i:Nat):∀ (l:List cD) (s:Nat),(setN l s i= []/\kQ l s i=0)\/∃a L,setN l s i=((a:Nat):Int)::L/\kQ l s i=a+1
 | [],_=>.inl ⟨rfl,rfl⟩
 | x::l,s=>by
  simp only[setN,kQ];split
  .exact .inr ⟨s,_,rfl,rfl⟩
  .exact rO i l (s+1)
noncomputable def aQ5:List AO:=[oq 54 (.ld true 3 (.t 1)),
oc 55 32 [(.t 54),(.c (.int .i64 0)),(.c (.int .i64 0)),(.t 5)] 1,
oq 56 (.dd 1 (.t 1)),
om 57 4 (ld 56),
om 58 12 (.dc (.t 57)),
om 59 31 (bi .neq (.t 55) (.t 58))]
def aOr{gb db:Nat}{Q:Out->bO->St->Prop}(H:Has fns)(j:aA 1 F= .ptr gb 0)(s:aA 5 F= .ptr db 0)(k:aE 6 bT S0 nv g.ce)(hi:aE 2 cC S0 iv g.cg)(w:jq S0 S)(l:S.h.get gb=js [jr g.ch,nv,iv])(y:gb<S.nx)(z:S.h.get db=js [jr 0])(A:db<S.nx)(m:S0.nx<=db)(ne:gb≠db)(B:g.ce.length<=2000)(f:∀x∈g.ce,x.ji.length<=1000)
  (C:∀F' S' v,aJ5 S db 0 0 (fY g) (jr v) S'->aA 1 F'=aA 1 F->aA 5 F'=aA 5 F->aA 59 F'= .bool (decide (v≠(g.ce.length:Int)))->Q .normal ⟨F',inr⟩ S'):jN fns (.drw aQ5) ⟨F,inr⟩ S Q:=by
 apply rC;unfold aQ5;have i:=gE l;have n:=fN l;simp only[iT,dJ,nC,fO,bE,rE,↓reduceIte,j,s,i,rK,aL];refine aBe rfl ?_;simp only[↓sU,sD,rE,↓reduceIte,rA,s,bK];refine aW (aJL H ⟨nv,iv,rfl,k,hi⟩ m B (g.ce.length+1) (at_:=0) (p:= -1) (d:=0) (deep:=0) au az az au f (w.trans (jq.nx S 6)) (by show db<S.nx+6;omega) z) ?_;rintro r S1 a;have a:aJ5 ⟨S.h,S.nx+6⟩ db 0 0 (fY g) r S1:=a;obtain⟨v,rfl⟩:∃v,r=jr v:=by
  cases t:fY g with
  | none=>rw[t] at a;exact⟨_,a.2.1⟩
  | some T=>rw[t] at a;exact⟨_,a.2.1⟩
 have u:cA db S S1:=⟨by have:S.nx+6<=S1.nx:=a.1.1;omega,fun c M o=>a.1.2 c (by show c<S.nx+6;omega) o⟩;have q:S1.h.get gb=js [jr g.ch,nv,iv]:=by rw[u.2 _ y ne];exact l
 have b:=fN q;have D:∀ (F:Fr),iC (.ld true 3 (.t 1)) F S.h=eE (aA 1 F) true 3 S.h:=fun F=>by rw[nC,fO]
 simp only[↓sU,sD,rE,↓reduceIte,rA,iT,dJ,j,nC,rK,b,zD,k.len,iM,aDy,vM,aL,aR];rw[iL];refine⟨?_,?_⟩
 .have sn:=aE.self k;have E:=aE.self hi;have I:=zG (dO .i64 g.ch) sn E;have J:∀G:Fr,aA 56 G= .ptr gb 1->eU ⟨.ld false 1 (.t 56),G,nv,3,4⟩ [(1,1,S1.h)] S.h=true:=fun G h=>by
   have e:iC (ld 56) G S.h=some nv:=by rw[nC,fO,h];exact n
   have K:iC (ld 56) G S1.h=some nv:=by rw[nC,fO,h];exact b
   unfold eU;simp only[show Nat.testBit 4 1=false by decide,show Nat.testBit 1 3=false by decide,aR,aL,e,kO,sn];unfold eU;simp only[K,kO,sn]
  have L:eU ⟨.ld true 3 (.t 1),F,.agg [jr g.ch,nv,iv],0,0⟩ [(1,1,S1.h)] S.h=true:=by
   have e:iC (.ld true 3 (.t 1)) F S.h=some (.agg [jr g.ch,nv,iv]):=by rw[nC,fO,j];exact i
   unfold eU;simp only[show Nat.testBit 0 1=false by decide,show Nat.testBit 1 0=true by decide,aR,aL,e,kO,I]
  simp only[Cg,List.reverse_nil,Bu,pH,xL];rw[J _ (by simp only[bE,rE,↓reduceIte]),L];rfl
 .refine C _ _ v ?_ (af) (af) (af);simp only[bK];exact⟨u,a.2⟩
def aQU(S S1:St)(gb:Nat)(g:aP)(k:Nat)(A:bO)(X:St):Prop:=A.inr=false/\jq S1 X/\∃i,i+k=g.ce.length/\kR g.ch g.cg.length g.ce=kR g.ch g.cg.length (g.ce.drop i)/\aA 1 A.F= .ptr gb 0/\aA 3 A.F=jr (i:Int)
def aQ4(S1:St)(gb:Nat)(g:aP)(k:Nat)(A:bO)(X:St):Prop:=A.inr=false/\jq S1 X/\∃i,i+k=g.ce.length/\(∀x∈g.ce.take i,¬mis g x)/\aA 1 A.F= .ptr gb 0/\aA 6 A.F=jr (i:Int)
def aQX(S1:St)(a:AV)(g:aP)(k:Nat)(A:bO)(X:St):Prop:=A.inr=false/\jq S1 X/\∃i,i+k=g.cg.length/\(∀j,j<i->setN g.ce 0 j≠ [])/\aA 8 A.F=a/\aA 9 A.F=jr (i:Int)
def aQS(S1:St)(a:AV)(g:aP)(k:Nat)(A:bO)(X:St):Prop:=A.inr=false/\jq S1 X/\∃i,i+k=g.cg.length+1/\1<=i/\aRn (gH g) 0 (min i g.cg.length)/\aA 8 A.F=a/\aA 10 A.F=jr (i:Int)
def yS(a:j<g.cg.length):(gH g).getD j 0=((kQ g.ce 0 j:Nat):Int):=by
 unfold gH;rw[Ad,Ba,Cm a];rfl
def zH(a:j<g.cg.length):(aC7 g)[j]? =some (setN g.ce 0 j):=by
 unfold aC7;rw[Ba,Cm a];rfl
def aLw(g:aP):(aC7 g).length=g.cg.length:=by simp [aC7]
def aCL:(0:Int)∈gH g↔∃j,j<g.cg.length/\setN g.ce 0 j= []:=by
 unfold gH;rw[Cp];constructor
 .rintro⟨j,b,c⟩;rw[Dp] at b;rcases rO j g.ce 0 with h|⟨a,L,d,e⟩
  .exact⟨j,b,h.1⟩
  .rw[e] at c;omega
 .rintro⟨j,b,c⟩;refine⟨j,Dp.2 b,?_⟩;rcases rO j g.ce 0 with h|⟨a,L,d,e⟩
  .rw[h.2];rfl
  .rw[c] at d;cases d
def vQ(H:Has fns)(hn:aE 6 bT S nv g.ce)(hi:aE 2 cC S iv g.cg)(b6:g.ce.length<=100000):
  iK fns (.fn 9 [] []) [.agg [jr g.ch,nv,iv]] S fun r S'=>r=jr (cR g)/\jq S S':=by
 refine cJ H.f9 (by simp) ?_;refine ae ?_;apply bS;refine dC (by refine ae ?_;exact bB _) ?_;intro S1 s1 n1 t;refine ae ?_;have A:=hn.len;have D:=hi.len;have b8:=aE.jo (E:=bT) bF hn s1;have bj:=aE.jo (E:=cC) bQ hi s1;have sn:=aE.self hn;have si:=aE.self hi;have sg:=zG (dO .i64 g.ch) sn si;have aZ:S.nx<S1.nx:=by omega
 refine aB (aB (aX (Q:=fun o u X=>o= .normal/\u.inr=false/\X=S1/\aA 1 u.F= .ptr S.nx 0/\aA 36 u.F= .bool (decide (nO g))) (aF ?_) ?_))
 .by_cases h1:g.ch<1
  .rw[Ac (show nO g from .inl h1)];simp only[↓sU,sD,rE,↓reduceIte,rA,pG t,fN t,jE t,A,D,Ac h1]
  by_cases W:(4:Int)<g.ch
  .rw[Ac (show nO g from .inr (.inl W))];simp only[↓sU,sD,rE,↓reduceIte,rA,pG t,fN t,jE t,A,D,Aa h1,Ac W]
  by_cases h3:(g.ce.length:Int)<1
  .rw[Ac (show nO g from .inr (.inr (.inl h3)))];simp only[↓sU,sD,rE,↓reduceIte,rA,pG t,fN t,jE t,A,D,Aa h1,Aa W,Ac h3]
  by_cases h4:(2000:Int)<(g.ce.length:Int)
  .rw[Ac (show nO g from .inr (.inr (.inr (.inl h4))))];simp only[↓sU,sD,rE,↓reduceIte,rA,pG t,fN t,jE t,A,D,Aa h1,Aa W,Aa h3,Ac h4]
  by_cases h5:(200:Int)<(g.cg.length:Int)
  .rw[Ac (show nO g from .inr (.inr (.inr (.inr h5))))];simp only[↓sU,sD,rE,↓reduceIte,rA,pG t,fN t,jE t,A,D,Aa h1,Aa W,Aa h3,Aa h4,Ac h5]
  .rw[Aa (show ¬nO g by unfold nO;omega)];simp only[↓sU,sD,rE,↓reduceIte,rA,pG t,fN t,jE t,A,D,Aa h1,Aa W,Aa h3,Aa h4,Aa h5]
 rintro o ⟨F,inr⟩ X ⟨rfl,rfl,f,l,pb⟩;simp only at l pb;rw[f];refine ae ?_
 by_cases bad:nO g
 .have B:cR g=2:=by unfold cR;rw[if_pos bad]
  rw[B];refine aM (jc pb (Ac bad)) ?_;refine bS (ae ?_);refine aS (ae ?_);exact s1
 refine aK (jc pb (Aa bad)) (aG ?_);refine ae ?_
 have ca:1<=g.ch/\g.ch<=4:=by unfold nO at bad;omega
 have hN:g.ce.length<=2000:=by unfold nO at bad;omega
 have c2:0<g.ce.length:=by unfold nO at bad;omega
 have hI:g.cg.length<=200:=by unfold nO at bad;omega
 refine aB (aX (Q:=fun o u X=>(o= .normal/\aQU S S1 S.nx g 0 u X)\/(o= .ret/\jq S1 X/\kR g.ch g.cg.length g.ce≠0/\aA 2 u.F=jr (kR g.ch g.cg.length g.ce))) (aB (aF ?_)) ?_)
 .refine ae ?_;refine aJ (bL (aQU S S1 S.nx g) ?_ g.ce.length _ _ ⟨rfl,dy _,0,au,by rw[Di],ah l,af⟩);rintro k ⟨F,inr⟩ X ⟨rfl,f,i,m,B,l,p3⟩;simp only at l p3;have cX:X.h.get S.nx=js [jr g.ch,nv,iv]:=by rw[f.2 _ aZ];exact t
  have aa:S.nx<X.nx:=Ae aZ f.1;refine fZ (ec l p3 (fN cX) A ?_);by_cases s:i<g.ce.length
  .refine aM i7 (aG ?_);refine ae ?_
   obtain⟨x,O⟩:∃x,g.ce[i]? =some x:=⟨_,Ab s⟩;have cf:=aE.jo (E:=bT) bF b8 f;have⟨e,b,q,G,hb,he,bC,bk,_⟩:=aE.at cf az O;have bm:g.ce.drop i=x::g.ce.drop (i+1):=by
    rw[Bt s];congr 1;rw[Ab s] at O;exact Bk O
   have w1:=du i
   have se:cI (.agg e) (.agg e)=true:=by
    obtain⟨a,bb,cc,rfl,ha,bI,bM⟩:=bC;exact aCa (dO ..) (dO ..) (dO ..) (bN.self ha) (bN.self bI) (bN.self bM)
   refine aB (aJ (aB (iN (fun _=>False) ?_)));intro X1 x1;refine fh l p3 (gE cX) (fN cX) sg sn aa hb se @Ap G bk ?_;refine dT rfl ?_;refine ae ?_;refine aW (aKp H (bF bC x1) ca.2 D) ?_;rintro _ Y ⟨rfl,w⟩;refine⟨w,?_⟩;have bP:=(f.trans x1).trans w;rw[bm] at B;simp only[kR] at B
   refine bS (ae ?_);by_cases ab:gS g.ch g.cg.length x=0
   .rw[if_neg (fun h=>h ab)] at B;refine aK (ja (Aa (show ¬gS g.ch g.cg.length x≠0 from fun h=>h ab))) (aG ?_);refine ae ?_
    refine aF (dz p3 w1 ?_);exact⟨k - 1,au,rfl,bP,i+1,au,B,ah l,af⟩
   .rw[if_pos ab] at B;refine aM (ja (Ac (show gS g.ch g.cg.length x≠0 from ab))) ?_;refine bS (ae ?_);refine aS (ae ?_);exact .inr ⟨bP,by rw[B];exact ab,by rw[B]⟩
  .refine aK i7 (bH ?_);refine ae ?_;have ac:k=0:=by omega
   subst ac;exact .inl ⟨rfl,f,i,m,B,ah l,ah p3⟩
 rintro o ⟨F,inr⟩ X (⟨rfl,q0,f,i,m,B,l,p3⟩|⟨rfl,f,I,p2⟩);rotate_left
 .simp only at p2;refine c8 p2 ?_;have B:cR g=kR g.ch g.cg.length g.ce:=by unfold cR;rw[if_neg bad,if_pos I]
  rw[B];exact⟨rfl,s1.trans f⟩
 simp only at q0 l;subst q0;rw[Cw au] at B;have an:=jF B;have bR:aGy g:=fun x O W=>aCx (an x O) W;have d:cR g=match fY g with | none=>9 | some T=>if T.length≠g.ce.length then 9 else if 40<vT 0 T then 5 else wU g:=by
  conv=>lhs;unfold cR
  rw[if_neg bad,if_neg (fun h=>h B)]
  first | done | (cases fY g<;>rfl)
 have sX:=s1.trans f;have cX:X.h.get S.nx=js [jr g.ch,nv,iv]:=by rw[f.2 _ aZ];exact t
 have aa:S.nx<X.nx:=Ae aZ f.1;refine ae ?_
 apply bS;apply cB;intro X1 x1 m1 d1;refine dB (b:=X.nx) (af) (by simp only[↓sU,sD,rE,↓reduceIte,rA];rfl) d1 rfl rfl ?_;intro X2 x2 m2 d2;refine ae ?_;have J:jq X X2:=x2.jo x1 (Af _);have ao:X2.h.get S.nx=js [jr g.ch,nv,iv]:=by rw[J.2 _ aa];exact cX
 have ch:X.nx<X2.nx:=by omega
 refine aB (aB (aOr (S0:=S) (gb:=S.nx) (db:=X.nx) (g:=g) H (ah l) (af) hn hi (sX.trans J) ao au d2 ch (ax sX.1) au hN (fun x O=>aCE (an x O)) ?_));intro F' S3 v hr q1 q5 a0;simp only[↓sU,sD,rE,↓reduceIte,rA,l] at q1 q5;have bp:=sX.trans J;have c4:=sX.1;have s3:jq S S3:=⟨Aq bp.1 hr.1.1,fun c hc=>(hr.1.2 c (Ae hc bp.1) au).trans (bp.2 c hc)⟩;have c3:S3.h.get S.nx=js [jr g.ch,nv,iv]:=by rw[hr.1.2 _ au au];exact ao
 have l3:S.nx<S3.nx:=by have:=hr.1.1;omega
 cases hw:fY g with
 | none=>
  rw[hw] at hr d;have⟨_,hv,_⟩:=hr;have hv:v= -1:=by cases hv;rfl
  simp only at d;rw[d];refine aM (jc a0 (Ac (au:v≠(g.ce.length:Int)))) ?_;refine bS (ae ?_);refine aS (ae ?_);exact s3
 | some T=>
  rw[hw] at hr d;have⟨_,hv,aw⟩:=hr;have hv:v=((0+T.length:Nat):Int):=by cases hv;rfl
  simp only at d;by_cases hT:T.length=g.ce.length;rotate_left
  .rw[d,if_pos hT];refine aM (jc a0 (Ac (au:v≠(g.ce.length:Int)))) ?_;refine bS (ae ?_);refine aS (ae ?_);exact s3
  rw[if_neg (fun h=>h hT)] at d;refine aK (jc a0 (Aa (au:¬v≠(g.ce.length:Int)))) (aG ?_);refine ae ?_
  have aI:=cM (p:=0) aw rfl;refine fZ (dz q5 aI ?_);by_cases a1:40<vT 0 T
  .rw[d,if_pos a1];refine aM (ja (Ac a1)) ?_;refine bS (ae ?_);refine aS (ae ?_);exact s3
  rw[if_neg a1] at d;refine aK (ja (Aa a1)) (aG ?_);refine ae ?_
  rw[d];have cj:=aE.jo (E:=bT) bF hn s3;have ck:=aE.jo (E:=cC) bQ hi s3;refine aB (aX (Q:=fun o u Y=>(o= .normal/\aQ4 S3 S.nx g 0 u Y)\/(o= .ret/\jq S3 Y/\(∃x∈g.ce,mis g x)/\aA 2 u.F=jr 10)) (aB (aF ?_)) ?_)
  .refine am ?_;refine aJ (bL (aQ4 S3 S.nx g) ?_ g.ce.length _ _ ⟨rfl,dy _,0,au,fun x O=>(by simp at O),ar q1,aq⟩);rintro k ⟨F,inr⟩ X ⟨rfl,f,i,m,z,l,P⟩;simp only at l P;have cX:X.h.get S.nx=js [jr g.ch,nv,iv]:=by rw[f.2 _ l3];exact c3
   have aa:S.nx<X.nx:=Ae l3 f.1;refine fZ (ie l P @aU @aT (fN cX) A ?_);by_cases s:i<g.ce.length
   .refine aM i9 (aG ?_);refine am ?_
    obtain⟨x,O⟩:∃x,g.ce[i]? =some x:=⟨_,Ab s⟩;have bU:=Bb O;obtain⟨e,b,q,G,hb,he,⟨a,bb,cc,rfl,ha,bI,bM⟩,bk,_⟩:=aE.at (aE.jo (E:=bT) bF cj f) az O;have w1:=du i
    refine aB (aJ (aB (aF ?_)));refine ik l P @aU @aT (fN cX) @aY G bk ?_;apply cB;intro X1 x1 m1 d1;refine dB (b:=X.nx) (aq) (by refine am ?_;exact bB _) d1 rfl rfl ?_;intro X2 x2 m2 d2;refine am ?_;have J:jq X X2:=x2.jo x1 (Af _);have a4:=f.trans J;have ao:X2.h.get S.nx=js [jr g.ch,nv,iv]:=by rw[J.2 _ aa];exact cX
    have bV:=(ha.jo J).len;have bW:=bN.self ha;refine aB (aX (Q:=fun o u Y=>o= .normal/\u.inr=false/\jq X2 Y/\aA 1 u.F= .ptr S.nx 0/\aA 6 u.F=jr (i:Int)/\aA 101 u.F= .bool (decide (mis g x))) (gI ?_) ?_)
    .by_cases R:x.jk=2
     .have⟨i0,i1⟩:=bR x bU R;obtain⟨n,bY⟩:∃n:Nat,x.jj=(n:Int):=⟨x.jj.toNat,au⟩;have cl:n<g.cg.length:=by omega
      obtain⟨y,hy⟩:∃y,g.cg[n]? =some y:=⟨_,Ab cl⟩;obtain⟨e',b',q',K,cm,cn,rfl,cZ,M⟩:=aE.at (aE.jo (E:=cC) bQ ck a4) az hy;have bZ:=M 0 _ rfl;have b0:=M 1 _ rfl;have cq:cu g x.jj=y:=by unfold cu;rw[bY,Ad,show((n:Int)).toNat=n from rfl,hy];rfl
      have a5:mis g x↔¬ (y.jl=x.jl/\y.cm=(x.ji.length:Int)):=by
       unfold mis;rw[cq];exact⟨fun h=>h.2,fun h=>⟨R,h⟩⟩
      rw[bY] at d2;by_cases a2:y.jl=x.jl
      .have bq:decide (y.jl≠x.jl)=false:=Aa (fun h=>h a2);have bs:decide (mis g x)=decide (y.cm≠(x.ji.length:Int)):=by
        rw[Cv,Cu,Cu,a5];exact⟨fun h e=>h ⟨a2,e⟩,fun h e=>h e.2⟩
       rw[bs];simp only[↓aD,aC,rE,↓reduceIte,rA,l,P,aU,cP,aT,fF d2,eF d2,dI d2,dD d2,jE ao,aY,K,bZ,b0,bV,bW,si,Ac R,bq];exact jq.nx _ _
      .have bq:decide (y.jl≠x.jl)=true:=Ac a2;have bs:decide (mis g x)=true:=Ac (a5.2 fun h=>a2 h.1);rw[bs];simp only[↓aD,aC,rE,↓reduceIte,rA,l,P,aU,cP,aT,fF d2,eF d2,dI d2,dD d2,jE ao,aY,K,bZ,b0,bV,bW,si,Ac R,bq];exact jq.nx _ _
     .rw[Aa (show ¬mis g x from fun h=>R h.1)];refine ig l P @aU @cP @aT (fF d2) (Aa R) ?_;exact jq.nx _ _
    rintro o ⟨F,inr⟩ Y ⟨rfl,rfl,w,l,P,pb⟩;simp only at l P pb;have ba:=a4.trans w;refine am ?_
    by_cases U:mis g x
    .refine aM (je pb (Ac U)) ?_;refine bS (am ?_);refine aS (am ?_);exact .inr ⟨ba,x,bU,U⟩
    .refine aK (je pb (Aa U)) (aG ?_);refine am ?_
     refine aF (gh P w1 ?_);refine⟨k - 1,au,rfl,ba,i+1,au,fun y hy=>?_,ar l,aq⟩;rw[Cc,O] at hy;rcases Bi.1 hy with h|h
     .exact z y h
     .simp at h;rw[h];exact U
   .refine aK i9 (bH ?_);refine am ?_;have ac:k=0:=by omega
    subst ac;exact .inl ⟨rfl,f,i,m,z,ar l,ar P⟩
  rintro o ⟨F,inr⟩ Y (⟨rfl,q0,w,i,m,z,l,P⟩|⟨rfl,w,U,p2⟩);rotate_left
  .simp only at p2;simp only[↓aD,aC,rE,↓reduceIte,rA,p2];unfold wU;rw[if_pos U];exact⟨rfl,s3.trans w⟩
  simp only at q0 l;subst q0;rw[Bh au] at z;unfold wU;rw[if_neg (fun⟨x,h1,W⟩=>z x h1 W)];have sY:=s3.trans w;have cY:Y.h.get S.nx=js [jr g.ch,nv,iv]:=by rw[w.2 _ l3];exact c3
  refine am ?_
  refine bS (gh l (gE cY) ?_);refine bJ (am ?_);refine aW (aCS H (aE.jo (E:=bT) bF hn sY) (aE.jo (E:=cC) bQ hi sY) b6 au bR) ?_;rintro sv Z ⟨hZ,bv⟩
  have sZ:=sY.trans hZ;have bw:=bv.len;rw[aLw] at bw;refine aB (aX (Q:=fun o u X=>(o= .normal/\aQX Z sv g 0 u X)\/(o= .ret/\jq Z X/\(0:Int)∈gH g/\aA 2 u.F=jr 18)) (aB (aF ?_)) ?_)
  .refine am ?_;refine aJ (bL (aQX Z sv g) ?_ g.cg.length _ _ ⟨rfl,dy _,0,au,fun j hj=>au,aq,aq⟩);rintro k ⟨F,inr⟩ X ⟨rfl,f,i,m,z,C,p9⟩;simp only at C p9;refine fZ (gj C p9 bw ?_);by_cases s:i<g.cg.length
   .refine aM i9 (aG ?_);refine am ?_
    obtain⟨e,b,q,G,hb,he,⟨a,rfl,ha⟩,_,bx⟩:=aE.at (aE.jo (E:=nM) fR bv f) az (zH s);have aV:=bx 0 a rfl;rw[Bw] at aV;have cr:=ha.len;have w1:=du i
    refine aB (aJ (aB (aF ?_)));refine ie C p9 @aY G aV cr ?_;by_cases h0:setN g.ce 0 i= []
    .refine aM (jd (Ac (show(((setN g.ce 0 i).length:Nat):Int)=0 by rw[h0];rfl))) ?_;refine bS (am ?_);refine aS (am ?_);exact .inr ⟨f,aCL.2 ⟨i,s,h0⟩⟩
    .have c0:=List.length_pos_iff.2 h0;refine aK i9 (aG ?_);refine am ?_
     refine aF (gh p9 w1 ?_);refine⟨k - 1,au,rfl,f,i+1,au,fun j hj=>?_,ar C,aq⟩;by_cases bz:j=i
     .rw[bz];exact h0
     .exact z j au
   .refine aK i9 (bH ?_);refine am ?_;have ac:k=0:=by omega
    subst ac;exact .inl ⟨rfl,f,i,m,z,ar C,ar p9⟩
  rintro o ⟨F,inr⟩ X (⟨rfl,q0,f,i,m,z,C,p9⟩|⟨rfl,f,h0,p2⟩);rotate_left
  .simp only at p2;refine fx p2 ?_;rw[if_pos h0];exact⟨rfl,sZ.trans f⟩
  simp only at q0 C;subst q0;have I:∀j,j<g.cg.length->setN g.ce 0 j≠ []:=fun j hj=>z j au;rw[if_neg (fun h=>by have⟨j,hj,h0⟩:=aCL.1 h;exact I j hj h0)];refine am ?_
  refine aB (aX (Q:=fun o u Y=>(o= .normal/\∃k,aQS X sv g k u Y/\k<=1)\/(o= .ret/\jq X Y/\¬aEJ (gH g)/\aA 2 u.F=jr 9)) (aB (aF ?_)) ?_)
  .refine am ?_;refine aJ (bL (aQS X sv g) ?_ g.cg.length _ _ ⟨rfl,dy _,1,au,au,fun j j0 j1=>au,ar C,aq⟩);rintro k ⟨F,inr⟩ Y ⟨rfl,w,i,m,bj,z,C,V⟩;simp only at C V;refine fZ (gj C V bw ?_);by_cases s:i<g.cg.length
   .refine aM i9 (aG ?_);refine am ?_
    have b1:=aE.jo (E:=nM) fR bv (f.trans w);obtain⟨e,b,q,G,hb,he,⟨a,rfl,ha⟩,_,bx⟩:=aE.at b1 az (zH s);obtain⟨e',b',q',K,cm,cn,⟨a',rfl,bA⟩,_,M⟩:=aE.at b1 az (zH (au:i - 1<g.cg.length));have aV:=bx 0 a rfl;have bd:=M 0 a' rfl;rw[Bw] at aV bd;have hp:=List.length_pos_iff.2 (I i s);have b2:=List.length_pos_iff.2 (I (i - 1) au);have ia:=ha.c9 hp;have la:=ha.ld hp;have cv:=bA.c9 b2;have cw:=bA.ld b2;have sa:=bN.self ha;have cx:=bN.self bA;have be:(setN g.ce 0 i).getD 0 0<(setN g.ce 0 (i - 1)).getD 0 0↔(gH g).getD i 0<(gH g).getD (i - 1) 0:=by
     rw[yS s,yS (au:i - 1<g.cg.length)];rcases rO i g.ce 0 with h|⟨x,L,h1,W⟩
     .exact absurd h.1 (I i s)
     .rcases rO (i - 1) g.ce 0 with h|⟨x',L',cy,cz⟩
      .exact absurd h.1 (I (i - 1) au)
      .rw[h1,cy,W,cz];show(x:Int)<(x':Int)↔_;omega
    have w1:=du i
    have w2:IntKind.i64.wrap ((i:Int) - 1)=((i - 1:Nat):Int):=by rw[wrap_i64 au au];omega
    refine aB (aJ (aB (gI ?_)));simp only[↓aD,aC,rE,↓reduceIte,rA,C,V,aY,aKn,G,K,aV,bd,ia,la,cv,cw,sa,cx,w2];by_cases N:(setN g.ce 0 i).getD 0 0<(setN g.ce 0 (i - 1)).getD 0 0
    .refine aM (jd (Ac N)) ?_;refine bS (am ?_);refine aS (am ?_);refine .inr ⟨w.trans (jq.nx _ _),fun h=>?_⟩;exact h i au (by simp [gH];omega) (be.1 N)
    .refine aK (jd (Aa N)) (aG ?_);refine am ?_
     refine aF (gh V w1 ?_);refine⟨k - 1,au,rfl,w.trans (jq.nx _ _),i+1,au,au,fun j j0 j1=>?_,ar C,aq⟩;by_cases bz:j=i
     .rw[bz];exact fun h=>N (be.2 h)
     .exact z j j0 au
   .refine aK i9 (bH ?_);refine am ?_;exact .inl ⟨k,⟨rfl,w,i,m,bj,z,ar C,ar V⟩,au⟩
  rintro o ⟨F,inr⟩ Y (⟨rfl,k,⟨q0,w,i,m,bj,z,C,V⟩,hk⟩|⟨rfl,w,cW,p2⟩);rotate_left
  .simp only at p2;refine fx p2 ?_;rw[if_neg cW];exact⟨rfl,(sZ.trans f).trans w⟩
  simp only at q0;subst q0;have b3:aEJ (gH g):=by
   unfold aEJ;rw[show(gH g).length=g.cg.length by simp [gH]];rw[show min i g.cg.length=g.cg.length by omega] at z;exact z
  rw[if_pos b3];refine am ?_
  refine bS (am ?_);refine aS (am ?_);exact(sZ.trans f).trans w
end Go.Ev.Gl
