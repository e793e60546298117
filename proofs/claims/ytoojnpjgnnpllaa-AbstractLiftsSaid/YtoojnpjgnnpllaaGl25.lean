import Derived.Test.YtoojnpjgnnpllaaGl24
open Nat renaming reduceEqDiff -> rE, reduceAdd -> rA
set_option maxHeartbeats 0
set_option linter.unusedSimpArgs false
set_option linter.unusedVariables false
namespace Go.Ev.Gl
variable {fns:T dY}
theorem aIT:∀ {n:Nat} {f:Nat->Nat},(∀k,k<n->f k<n)->(∀k l,k<n->l<n->f k=f l->k=l)->∀y,y<n->∃k,k<n/\f k=y
 | 0,f,_,_,y,hy=>absurd hy (Bm _)
 | n+1,f,hf,hj,y,hy=>by
  have ih:=aIT (n:=n) (f:=fun k=>if f k=n then f n else f k) (fun k hk=>by
   have h1:=hf k ar;have h2:=hf n ar;show(if f k=n then f n else f k)<n;split
   ·rename_i e;have:f n≠n:=fun e2=>by have:=hj k n ar ar ar;omega
    omega
   ·omega) (fun k l hk hl e=>by
   have e:(if f k=n then f n else f k)=(if f l=n then f n else f l):=e;have a:=hj k l ar ar;have b:=hj k n ar ar;have c:=hj l n ar ar;split at e
   ·split at e
    ·exact a ar
    ·have:=c ar;omega
   ·split at e
    ·have:=b ar;omega
    ·exact a ar)
  by_cases e:y=f n
  ·exact⟨n,ar,e.symm⟩
  by_cases hyn:y<n
  ·have⟨k,hk,h⟩:=ih y hyn;have h:(if f k=n then f n else f k)=y:=h;split at h
   ·exact absurd h.symm e
   ·exact⟨k,ar,h⟩
  ·have hy':y=n:=by omega
   have:=hf n ar;have⟨k,hk,h⟩:=ih (f n) ar;have h:(if f k=n then f n else f k)=f n:=h;split at h
   ·rename_i e2;exact⟨k,ar,ar⟩
   ·have:=hj k n ar ar  h;omega
section
variable {g:aS}{L:a9}{m:ba}{first:ba}{act act':a9}
def aDv(g:aS)(m:ba)(x:K2):K2:=(((de g m).getD x.1 0).toNat,(((df g m).getD x.1 []).getD x.2 0).toNat)
def ChE(g:aS)(L:a9)(x y:K2):Prop:=x.1<g.bj.length/\x.2<cG g x.1/\∃m∈L,y=aDv g m x
theorem qQ(G:dE g){s:Nat}(hs:s<g.bj.length):cG g s=(b8 g (fU g s)).next.length:=by
 unfold cG;rw[pT G hs];rfl
theorem aAU(G:dE g)(A:eX g m){s:Nat}(hs:s<g.bj.length):cG g s=cG g ((de g m).getD s 0).toNat/\(∀a,a<cG g s->(((df g m).getD s []).getD a 0).toNat<cG g s/\0<=((df g m).getD s []).getD a 0)/\∀a b,a<cG g s->b<cG g s->(((df g m).getD s []).getD a 0).toNat=(((df g m).getD s []).getD b 0).toNat->a=b:=by
 have⟨f1,f2,f3⟩:=G.fst _ hs;have⟨i1,i2⟩:=aAM G A hs;have hs':((de g m).getD s 0).toNat<g.bj.length:=by omega
 have⟨k1,k2,k3⟩:=G.fst _ hs';have e0:=qQ G hs;have e1:=qQ G hs';have hk2:(b8 g (fG m (fU g s))).kind=2:=by rw[<- (A.A.like _ f1).1];exact f2
 have el:=aLL G k1 (A.M.at f1).2 k2 hk2 (by rw[k3,aFJ hs];have:=aAM G A hs;rw[aFJ hs] at this;omega);have ek:=(A.A.like _ f1).2.1;refine⟨ar,fun a ha=>?_,fun a b ha hb e=>?_⟩
 ·rw[aC8 hs ar];have:=(aIt A f1 (k:=a) ar).1;have:=A.A.kid _ a f1 ar;omega
 ·rw[aC8 hs ar,aC8 hs ar] at e;have ea:=(aIt A f1 (k:=a) ar).2;have eb:=(aIt A f1 (k:=b) ar).2;rw[e,eb] at ea;have ca:=G.kids _ f1 a ar;have cb:=G.kids _ f1 b ar;have:=A.inj ar ar  ea.symm;exact(G.only f1 ar f1 ar ar).2
def TrS(g:aS)(L:a9)(s r:Nat):Prop:=cG g s=cG g r/\∃σ:Nat->Nat,(∀a,a<cG g s->σ a<cG g r/\iO (ChE g L) (s,a) (r,σ a))/\∀a b,a<cG g s->b<cG g s->σ a=σ b->a=b
open Classical in
theorem aAP(G:dE g)(hL:∀m∈L,eX g m){s r:Nat}(h:tY (iI g.bj.length (L.map (de g))) s r):TrS g L s r:=by
 induction h with
 | edge e=>
  rename_i s r;have⟨hs,q,hq,e⟩:=e;obtain⟨m,hm,rfl⟩:=Dg.1 hq;have⟨h1,h2,h3⟩:=aAU G (hL m hm) hs;subst e;exact⟨h1,fun a=>(((df g m).getD s []).getD a 0).toNat,fun a ha=>⟨Ae (h2 a ha).1 (Eq h1),.edge ⟨hs,ha,m,hm,rfl⟩⟩,h3⟩
 | refl s=>exact⟨rfl,fun a=>a,fun a ha=>⟨ha,.refl _⟩,fun _ _ _ _ e=>e⟩
 | symm _ ih=>
  rename_i s r _;have⟨h1,σ,h2,h3⟩:=ih;have hp:=aIT (n:=cG g s) (f:=σ) (fun k hk=>by have:=(h2 k hk).1;omega) h3;refine⟨h1.symm,fun b=>if h:b<cG g s then Classical.choose (hp b h) else 0,fun b hb=>?_,fun a b ha hb e=>?_⟩
  ·have hb':b<cG g s:=by omega
   have⟨c1,c2⟩:=El (hp b hb');show(if h:b<cG g s then Classical.choose (hp b h) else 0)<_/\iO _ _ (s,if h:b<cG g s then Classical.choose (hp b h) else 0);rw[dif_pos hb'];refine⟨c1,?_⟩;have:=(h2 _ c1).2;rw[c2] at this;exact .symm this
  ·have ha':a<cG g s:=by omega
   have hb':b<cG g s:=by omega
   have e:(if h:a<cG g s then Classical.choose (hp a h) else 0)=(if h:b<cG g s then Classical.choose (hp b h) else 0):=e;rw[dif_pos ha',dif_pos hb'] at e;have c2:=(El (hp a ha')).2;have d2:=(El (hp b hb')).2;rw[e,d2] at c2;exact c2.symm
 | trans _ _ i1 i2=>
  have⟨h1,σ,h2,h3⟩:=i1;have⟨k1,τ,k2,k3⟩:=i2;refine⟨h1.trans k1,fun a=>τ (σ a),fun a ha=>?_,fun a b ha hb e=>?_⟩
  ·have⟨c1,c2⟩:=h2 a ha;have⟨d1,d2⟩:=k2 (σ a) ar;exact⟨d1,.trans c2 d2⟩
  ·exact h3 a b ha hb (k3 _ _ (by have:=(h2 a ha).1;omega) (by have:=(h2 b hb).1;omega) e)
def Dup(g:aS)(L:a9)(first:ba):Prop:=∃s a b,s<g.bj.length/\first.getD s 0=(s:Int)/\a<b/\b<cG g s/\iO (ChE g L) (s,a) (s,b)
structure qE(g:aS)(L:a9)(first:ba)(act:a9):Prop where
 len:act.length=g.bj.length
 row:∀s,s<g.bj.length->(act.getD s []).length=cG g s
 at_:∀s a,s<g.bj.length->a<cG g s->∃b:Nat,(act.getD s []).getD a 0=(b:Int)/\b<cG g (first.getD s 0).toNat/\iO (ChE g L) (s,a) ((first.getD s 0).toNat,b)
theorem aBh(hO:lD g.bj.length (iI g.bj.length (L.map (de g))) first){s:Nat}(hs:s<g.bj.length):(first.getD s 0).toNat<g.bj.length/\first.getD (first.getD s 0).toNat 0=(((first.getD s 0).toNat:Nat):Int):=by
 have h1:=hO.le s hs;have h2:=aGd (f:=fun x=>first.getD x 0) hO.inv (hO.con s hs);have h2:first.getD s 0=first.getD (first.getD s 0).toNat 0:=h2;refine⟨ar,?_⟩;rw[<-h2];omega
theorem aIV(G:dE g)(hL:∀m∈L,eX g m)(hO:lD g.bj.length (iI g.bj.length (L.map (de g))) first){s a b:Nat}(hs:s<g.bj.length)(hab:a<b)(hb:b<cG g s)(hc:iO (ChE g L) (s,a) (s,b)):Dup g L first:=by
 have⟨r1,r2⟩:=aBh hO hs;have⟨h1,σ,h2,h3⟩:=aAP G hL (hO.con s hs);have⟨a1,a2⟩:=h2 a ar;have⟨b1,b2⟩:=h2 b hb;have hne:σ a≠σ b:=fun e=>by have:=h3 a b ar hb e;omega
 have hcc:iO (ChE g L) ((first.getD s 0).toNat,σ a) ((first.getD s 0).toNat,σ b):=.trans (.symm a2) (.trans hc b2);rcases Nat.lt_or_gt_of_ne hne with h | h
 ·exact⟨_,σ a,σ b,r1,r2,h,b1,hcc⟩
 ·exact⟨_,σ b,σ a,r1,r2,h,a1,.symm hcc⟩
theorem aMF(hO:lD g.bj.length (iI g.bj.length (L.map (de g))) first)(hD:¬Dup g L first)(h:qE g L first act)(h':qE g L first act'):act=act':=by
 have hrow:∀s,s<g.bj.length->act.getD s []=act'.getD s []:=fun s hs=>oP (by rw[h.row s hs,h'.row s hs]) fun a ha=>by
  rw[h.row s hs] at ha;have⟨b,e1,e2,e3⟩:=h.at_ s a hs ha;have⟨b',k1,k2,k3⟩:=h'.at_ s a hs ha;have⟨r1,r2⟩:=aBh hO hs;rw[e1,k1];rcases Dl b b' with hlt | rfl | hlt
  ·exact absurd ⟨_,b,b',r1,r2,hlt,k2,.trans (.symm e3) k3⟩ hD
  ·rfl
  ·exact absurd ⟨_,b',b,r1,r2,hlt,e2,.trans (.symm k3) e3⟩ hD
 refine Dp (by rw[h.len,h'.len]) fun s h1 h2=>?_;have:=hrow s (by rw[<-h.len];exact h1);rw[Ad,Ab h1,Ad,Ab h2] at this;exact this
end
theorem yN{k:IntKind}{S:St}{v:AV}{l:ba}{mb:Nat}{es:List (AV×AV)}(h:bI k S v l)(hm:S.h.get mb=some (.map es)):aZ v≠some mb:=fun e=>by
 rcases h with⟨_,rfl | rfl⟩ | ⟨b,off,cap,o,cs,rfl,_,_,hc,_⟩
 ·cases e
 ·cases e
 ·cases e;unfold cK at hc;rw[hm] at hc;cases hc
theorem aLJ{S X:St}{v:AV}{L:a9}{mb:Nat}{es:List (AV×AV)}(h:aE 1 iD S v L)(hm:S.h.get mb=some (.map es))(hn:S.nx<=X.nx)(hk:∀c,c<S.nx->c≠mb->X.h.get c=S.h.get c):aE 1 iD X v L:=by
 rcases h with h | ⟨b,off,cap,o,cs,rfl,h1,h2,h3,h4⟩
 ·exact .inl h
 ·have hb:b≠mb:=fun e=>by
   subst e;unfold cK at h3;rw[hm] at h3;cases h3
  refine .inr ⟨b,off,cap,o,cs,rfl,h1,Ae h2 hn,by unfold cK at h3 ⊢;rw[hk b h2 hb];exact h3,fun i a hi=>?_⟩;have⟨e,e1,e2,r,e3,e4⟩:=h4 i a hi;exact⟨e,e1,e2,r,e3,eT e4 hn fun c hc=>hk c (eU e4 hc) fun e=>yN e4 hm (by rw[<-e];exact hc)⟩
theorem aPy{S X:St}{v:AV}{l:ba}{mb:Nat}{es:List (AV×AV)}(h:bI .i64 S v l)(hm:S.h.get mb=some (.map es))(hn:S.nx<=X.nx)(hk:∀c,c<S.nx->c≠mb->X.h.get c=S.h.get c):bI .i64 X v l:=
 eT h hn fun c hc=>hk c (eU h hc) fun e=>yN h hm (by rw[<-e];exact hc)
theorem nJ.mp{S:St}{ub mb:Nat}{u:K2->Option K2}(h:nJ S ub mb u):∃es,S.h.get mb=some (.map es):=by
 have⟨l,h1,_⟩:=h.m;exact⟨_,h1⟩
theorem aBC{h:Ev.T AB}{b p mb:Nat}{x:AV}{es:List (AV×AV)}(hl:dT (.ptr b p) false 1 h=some x)(hm:h.get mb=some (.map es)):b≠mb:=fun e=>by
 subst e;have hl:lK h b p=some x:=hl;unfold lK cK at hl;rw[hm] at hl;cases hl
theorem aK7{l:ba}{i:Nat}(h:i<l.length):l[i]? =some (l.getD i 0):=by rw[Ad,Ab h];rfl
theorem jB{S:St}{v:AV}{l:ba}{i:Nat}(h:bI .i64 S v l)(hi:i<l.length):∃b q,dO (.slice 1) v i=some (.ptr b q)/\b<S.nx/\dT (.ptr b q) false 1 S.h=some (.int .i64 (l.getD i 0)):=by
 have⟨e,b,q,h1,h2,_,h3,_,h4⟩:=aE.at (toG h) ay (aK7 hi);have h3:e= [.int .i64 (l.getD i 0)]:=h3;subst h3;have h5:=h4 0 _ rfl;rw[Br] at h5;exact⟨b,q,h1,h2,h5⟩
def qS(g:aS)(s a:Nat)(x:K2):Prop:=(x.1<s/\x.2<cG g x.1)\/(x.1=s/\x.2<a)
theorem wR{g:aS}{s:Nat}{x:K2}(h:qS g (s+1) 0 x):qS g s (cG g s) x:=by
 unfold qS at h ⊢;rcases h with⟨h1,h2⟩ | ⟨_,h2⟩
 ·rcases Cx x.1 s with h | h
  ·exact .inl ⟨h,h2⟩
  ·have e:x.1=s:=by omega
   exact .inr ⟨e,by rw[e] at h2;exact h2⟩
 ·omega
theorem qX{g:aS}{s a:Nat}{x:K2}(h:qS g s (a+1) x):qS g s a x\/x=(s,a):=by
 unfold qS at h ⊢;rcases h with h | ⟨h1,h2⟩
 ·exact .inl (.inl h)
 ·by_cases e:x.2=a
  ·have⟨x1,x2⟩:=x;simp only at h1 e;subst h1 e;exact .inr rfl
  ·exact .inl (.inr ⟨h1,ar⟩)
def aRg(X:St)(ub mb:Nat)(g:aS)(L:a9)(m:ba)(u0:K2->Option K2)(s a:Nat)(Y:St):Prop:=X.nx<Y.nx/\(∀c,c<X.nx->c≠mb->Y.h.get c=X.h.get c)/\∃u,nJ Y ub mb u/\UpK u (ChE g L)/\(∀x y,jW u0 x y->jW u x y)/\∀x,qS g s a x->jW u x (aDv g m x)
noncomputable def aOV:AC:=(.seq (.reg [mt 15 67]) (.reg [mt 16 68]))
noncomputable def aOE:AC:=qk3
theorem aPp{t1 t2:Nat}{F:Fr}{h:Ev.T AB}{a b:Nat}(e1:aD t1 F= .int .i64 (a:Int))(e2:aD t2 F= .int .i64 (b:Int)):gM (.build [.int .i64 0,.int .i64 0] [(0,1,.t t1),(1,1,.t t2)]) F h=some (jY (a,b)):=by
 show(bC (eQ _ (eH F [(0,1,.t t1),(1,1,.t t2)])) fun cs=>some (AV.agg cs))=_;simp only[eH,show(cO.t t1).val F= .int .i64 (a:Int) from e1,show(cO.t t2).val F= .int .i64 (b:Int) from e2,eQ,cR,aL];rfl
theorem aIq{z:bf}{ps:List (Nat×Nat×cO)}:dN (.build z ps)=false:=rfl
theorem aPn{S X:St}{A:bG}{g:aS}{L:a9}{m:ba}{iv fv av:AV}{u0:K2->Option K2}{ub mb b9 b12 b14 bc r:Nat}{Q:Out->bG->St->Prop}(H:Has fns)(G:dE g)(AM:eX g m)(hm:m∈L)(hi:A.inr=false)(hf:aD r A.F= .fn 147 [] [.ptr bc 0])(hb:X.h.get bc=some (.cells [iv] false 0))(hbl:bc<X.nx)
  (hS:Same S X) (hsm:S.nx<=mb) (hv:aE 2 bP S iv g.bj) (hac:∀s,s<g.bj.length->0<=(cd g (s:Int)).bt/\(cd g (s:Int)).bt<=10000)
  (hU:nJ X ub mb u0) (hup:UpK u0 (ChE g L)) (p9:aD 9 A.F= .ptr b9 0) (p12:aD 12 A.F= .ptr b12 0) (p14:aD 14 A.F= .ptr b14 0)
  (g9:X.h.get b9=some (.cells [.ptr ub 0] false 0)) (g12:X.h.get b12=some (.cells [fv] false 0)) (g14:X.h.get b14=some (.cells [av] false 0)) (l9:b9<X.nx) (l12:b12<X.nx) (l14:b14<X.nx) (n9:b9≠mb) (n12:b12≠mb) (n14:b14≠mb)
  (hI:bI .i64 X fv (de g m)) (hA:aE 1 iD X av (df g m))
  (hQ:∀Y,aRg X ub mb g L m u0 g.bj.length 0 Y->Q .normal A Y):iM fns (.rng (.t r) [67,68] aOV aOE) A X Q:=by
 have⟨es,hes⟩:=hU.mp;have hNI:=G.ni;have hmx:=hU.lm;refine tJ (S:=S) (R:=fun _=>False) (J:=aRg X ub mb g L m u0) H hi hf hv ar hac hb hbl (fun s a Y h=>⟨⟨by have:=hS.1;have:=h.1;omega,fun c hc=>by rw[h.2.1 c (Ae hc hS.1) ar];exact hS.2 c hc⟩,h.1⟩) (fun s a Y Y' h hn hk=>?_) (fun Y Y' h=>absurd h id) (fun Y hn hk=>?_) (fun s Y hs h=>⟨h.1,h.2.1,by
   have⟨u,h1,h2,h3,h4⟩:=h.2.2;exact⟨u,h1,h2,h3,fun x hx=>h4 x (wR hx)⟩⟩) (fun s a Y hs ha h=>?_) hQ (fun Y h=>absurd h id)
 ·have⟨h1,h2,u,h3,h4,h5,h6⟩:=h;have:=h3.lu;have:=h3.lm;have hux:=hU.lu;exact⟨ar,fun c hc hcm=>(hk c ar ar).trans (h2 c hc hcm),u,h3.off2 hn (hk _ h3.lu ar) (hk _ h3.lm ar),h4,h5,h6⟩
 ·exact⟨hn,fun c hc _=>hk c hc,u0,hU.off (Nat.le_of_lt hn) hk,hup,fun _ _ h=>h,fun x hx=>by unfold qS at hx;omega⟩
 ·unfold aOV;refine bO (ae ?_);refine aJ (ae ?_);intro bl;have⟨h1,h2,u,h3,h4,h5,h6⟩:=h;generalize hY':(⟨Y.h.set X.nx bl,Y.nx⟩:St)=Y';have nY:Y'.nx=Y.nx:=by rw[<-hY']
  have kY0:∀c,c≠X.nx->Y'.h.get c=Y.h.get c:=fun c hc=>by rw[<-hY'];simp only;rw[di,if_neg hc]
  have hbl':Y'.h.get X.nx=bl:=by rw[<-hY'];simp only;rw[di,if_pos rfl]
  have kY:∀c,c<X.nx->c≠mb->Y'.h.get c=X.h.get c:=fun c hc hcm=>(kY0 c ar).trans (h2 c hc hcm);have hux:=hU.lu;have hU':nJ Y' ub mb u:=h3.off2 ar (kY0 _ ar) (kY0 _ ar);have⟨es',hes'⟩:=hU'.mp;have hIY:=aPy hI hes ar kY;have hAY:=aLJ hA hes ar kY;have⟨i1,i2⟩:=aAM G AM hs;have⟨k1,k2,k3⟩:=aAU G AM hs;have hlI:(de g m).length=g.bj.length:=by simp [de]
  have hlA:(df g m).length=g.bj.length:=by simp [df]
  have hlR:((df g m).getD s []).length=cG g s:=by rw[aFI hs,Aj,Ay,qQ G hs]
  have⟨xb,xq,xi,xlt,xld⟩:=jB hIY (show s<(de g m).length by omega);rw[show(de g m).getD s 0=(((de g m).getD s 0).toNat:Int) by omega] at xld;obtain⟨_,yb,yq,yi,ylt,_,⟨ra,rfl,hra⟩,_,yld⟩:=aE.at hAY ay (aA6 (show s<(df g m).length by omega));have yld:=yld 0 _ rfl;rw[Br] at yld;have⟨zb,zq,zi,zlt,zld⟩:=jB hra (show a<((df g m).getD s []).length by omega);have hk2:=(k2 a ha).2;rw[show((df g m).getD s []).getD a 0=((((df g m).getD s []).getD a 0).toNat:Int) by omega] at zld;have nx:=aBC xld hes';have ny:=aBC yld hes';have nz:=aBC zld hes';have d9:=dI (p:=0) ((kY _ l9 n9).trans g9) rfl;have d12:=dI (p:=0) ((kY _ l12 n12).trans g12) rfl;have d14:=dI (p:=0) ((kY _ l14 n14).trans g14) rfl;have sfv:=bI.self hIY;have sav:=aE.self hAY;have sra:=bI.self hra;have b9:b9<Y'.nx:=by omega
  have b12:b12<Y'.nx:=by omega
  have b14:b14<Y'.nx:=by omega
  have hb1:=fun(F:Fr) (h:Ev.T AB) (e1:aD 70 F= .int .i64 (s:Int)) (e2:aD 71 F= .int .i64 (a:Int))=>aPp (h:=h) e1 e2;have hb2:=fun(F:Fr) (h:Ev.T AB) (e1:aD 76 F= .int .i64 (((de g m).getD s 0).toNat:Int)) (e2:aD 83 F= .int .i64 ((((df g m).getD s []).getD a 0).toNat:Int))=>aPp (h:=h) e1 e2;unfold aOE;refine aK (kJ (fun c=>c=mb) ?_);simp only[↓sU,sD,rE,↓reduceIte,rA,p9,p12,p14,d9,d12,d14,b9,b12,b14,n9,n12,n14,Ak,sfv,sav,sra,aH,xi,xld,xlt,nx,yi,yld,ylt,ny,zi,zld,zlt,nz,hb1,hb2,aIq];refine aAg rfl ?_;refine ae ?_;have hE:ChE g L (s,a) (aDv g m (s,a)):=⟨hs,ha,m,hm,rfl⟩;refine aW (aIS (a:=(s,a)) (b:=aDv g m (s,a)) H (hU'.same (Same.nx Y' _)) h4 (.edge hE)) ?_;rintro rr V ⟨v1,u',v2,v3,v4,v5⟩;refine⟨⟨v1.1,fun c hc hcm=>v1.2 c (by simp only;omega) hcm⟩,?_⟩;have nV:Y'.nx<=V.nx:=Al (Ba _ _) v1.1;try refine ae ?_
  have hXm:X.nx≠mb:=by omega
  have hXY:X.nx<Y'.nx:=by omega
  refine⟨(v1.2 _ (by simp only;omega) hXm).trans hbl',ar,.inl ⟨by show X.nx<V.nx;omega,fun c hc hcm=>(v1.2 c (by simp only;omega) hcm).trans (kY c hc hcm),u',v2,v3,fun x y h=>v4 _ _ (h5 _ _ h),fun x hx=>?_⟩⟩;rcases qX hx with hx | rfl
  ·exact v4 _ _ (h6 x hx)
  ·exact v5
def aRQ(b2 b4 b5 b7 b9:Nat)(F:Fr):Prop:=aD 2 F= .ptr b2 0/\aD 4 F= .ptr b4 0/\aD 5 F= .ptr b5 0/\aD 7 F= .ptr b7 0/\aD 9 F= .ptr b9 0
def aO9(X0:St)(ub mb b2 b4 b5 b7 b9:Nat)(mv:AV)(g:aS)(L:a9)(k:Nat)(A:bG)(X:St):Prop:=A.inr=false/\X0.nx<=X.nx/\(∀c,c<X0.nx->c≠mb->X.h.get c=X0.h.get c)/\∃ (j:Nat) (u:K2->Option K2),j+k=L.length/\nJ X ub mb u/\UpK u (ChE g L)/\(∀x:K2,x.1<g.bj.length->x.2<cG g x.1->∀q,q<j->jW u x (aDv g (L.getD q []) x))/\aRQ b2 b4 b5 b7 b9 A.F/\aD 38 A.F=mv/\aD 39 A.F= .int .i64 (L.length:Int)/\aD 40 A.F= .int .i64 (j:Int)
theorem aPf{S X0:St}{F0:Fr}{nv iv mv:AV}{g:aS}{L:a9}{ub mb b2 b4 b5 b7 b9:Nat}{u0:K2->Option K2}(H:Has fns)(hf:cT g=0)(hAll:∀m∈L,eX g m)(hL:L.length<=16)(hS:Same S X0)(hn:aE 6 bX S nv g.bh)(hi:aE 2 bP S iv g.bj)(hm:aE 1 iD S mv L)(hsm:S.nx<=mb)
  (hU:nJ X0 ub mb u0) (hup:UpK u0 (ChE g L)) (l2:b2<X0.nx) (l9:b9<X0.nx) (n2:b2≠mb) (n9:b9≠mb) (g2:X0.h.get b2=some (.cells [.int .i64 g.bo,nv,iv] false 0)) (g9:X0.h.get b9=some (.cells [.ptr ub 0] false 0))
  (hZ:aRQ b2 b4 b5 b7 b9 F0) (p38:aD 38 F0=mv) (p39:aD 39 F0= .int .i64 (L.length:Int)) (p40:aD 40 F0= .int .i64 ((0:Nat):Int)):
  iM fns aRz ⟨F0,false⟩ X0 fun o A' X=>o= .normal/\aO9 X0 ub mb b2 b4 b5 b7 b9 mv g L 0 A' X:=by
 have G:=gF hf;have hNI:=G.ni;have hac:∀s,s<g.bj.length->0<=(cd g (s:Int)).bt/\(cd g (s:Int)).bt<=10000:=fun s hs=>by
  have⟨f1,_,_⟩:=G.fst s hs;rw[pT G hs];have:=G.nxt _ f1;omega
 refine aK (bH (aO9 X0 ub mb b2 b4 b5 b7 b9 mv g L) ?_ L.length _ _ ⟨rfl,Ag _,fun _ _ _=>rfl,0,u0,ar,hU,hup,fun _ _ _ q hq=>ar,hZ,p38,p39,p40⟩);have hU0:=hU;have hux:=hU.lu;have hmx:=hU.lm;clear hZ p38 p39 p40 hU hup;rintro k ⟨F,inr⟩ X ⟨q0,nX,kX,j,u,hjk,hU,hup,hd,⟨p2,p4,p5,p7,p9⟩,p38,p39,p40⟩;simp only at q0 p2 p4 p5 p7 p9 p38 p39 p40;subst q0;have sX:Same S X:=⟨Al hS.1 nX,fun c hc=>by rw[kX c (Ae hc hS.1) ar];exact hS.2 c hc⟩;refine bO (dn p39 p40 ?_);by_cases hlt:j<L.length;rotate_left
 ·refine aA (aM (by simp only[↓sU,sD,rE,↓reduceIte,rA,Aa (show ¬ (j:Int)<(L.length:Int) by omega)]) (bJ ?_));refine ae ?_;obtain rfl:k=0:=by omega
  exact⟨rfl,nX,kX,j,u,hjk,hU,hup,hd,(by refine⟨?_,?_,?_,?_,?_⟩<;>simp only[↓sU,sD,rE,↓reduceIte,rA,p2,p4,p5,p7,p9]),by refine⟨?_,?_,?_⟩<;>simp only[↓sU,sD,rE,↓reduceIte,rA,p38,p39,p40]⟩
 refine aA (aN (by simp only[↓sU,sD,rE,↓reduceIte,rA,Ac (show(j:Int)<(L.length:Int) by omega)]) (aI ?_));try refine ae ?_
 have w1:=dh j
 have⟨xb,xq,a,xi,xs,xlt,xl⟩:=pQ hm hlt;have xl:=xl X sX;have hmem:L.getD j []∈L:=by rw[Ad,Ab hlt];exact Bo hlt
 obtain⟨m,hme⟩:∃m,L.getD j []=m:=⟨_,rfl⟩;rw[hme] at xs hmem;have AM:=hAll m hmem;have gX2:=(kX _ l2 n2).trans g2;have gX9:=(kX _ l9 n9).trans g9;have lx2:b2<X.nx:=by omega
 have lx9:b9<X.nx:=by omega
 refine aA (aK (aA (aJ ?_)));refine dr p38 p40 @aH xi xl ?_;refine bO (dy p2 (eJ gX2) ?_);refine bD (am ?_);refine aW (aGD H hf (aE.same (E:=bX) bL hn sX) (aE.same (E:=bP) bK hi sX) (xs.same sX) AM) ?_;rintro _ X1 ⟨x1,fv,rfl,hI1⟩;refine dy @rN @sA ?_;refine cA ?_;intro X2 x2 m2 c2;try refine am ?_
 refine cQ (b:=X1.nx) (cs':=[fv]) (ap) (by refine am ?_;exact bI.cells hI1) c2 rfl rfl ?_;intro X3 x3 m3 c3;try refine am ?_
 have s13:Same X1 X3:=x3.same x2 (Ag _);have s3:Same X X3:=x1.trans s13;clear x2 x3 c2;try refine ae ?_
 have d0:decide ((0:Int)≠0)=false:=rfl;refine fC ?_;simp only[↓sU,sD,rE,↓reduceIte,rA,d0,Dk];refine aM (by simp only[↓sU,sD,rE,↓reduceIte,rA];try first | rfl | trivial) (aI ?_);try refine ae ?_
 have gX32:=(s3.2 _ lx2).trans gX2;have sS3:=sX.trans s3;refine bO (dy p2 (eJ gX32) ?_);refine bD (am ?_);refine aW (aEU H hf (aE.same (E:=bX) bL hn sS3) (aE.same (E:=bP) bK hi sS3) (xs.same sS3) AM) ?_;rintro _ X4 ⟨x4,av,rfl,hA4⟩;refine dy @rN @sA ?_;refine cA ?_;intro X5 x5 m5 c5;try refine am ?_
 refine cQ (b:=X4.nx) (cs':=[av]) (ap) (by refine am ?_;exact lI hA4) c5 rfl rfl ?_;intro X6 x6 m6 c6;try refine am ?_
 have s46:Same X4 X6:=x6.same x5 (Ag _);have s36:Same X3 X6:=x4.trans s46;clear x5 x6 c5;try refine ae ?_
 refine fC ?_;simp only[↓sU,sD,rE,↓reduceIte,rA,d0,Dk];refine aM (by simp only[↓sU,sD,rE,↓reduceIte,rA];try first | rfl | trivial) (aI ?_);try refine ae ?_
 have s06:Same X X6:=s3.trans s36;have gX62:=(s06.2 _ lx2).trans gX2;have hic:=lI hi;refine bO (dq p2 @aC @aB (fH gX62) ?_);refine bD (ae ?_);refine aW (lT H hic) ?_;rintro _ X7 ⟨x7,bc,rfl,bc1,bc2,gbc⟩;try refine ae ?_
 have s07:=s06.trans x7;have l12:X1.nx<X3.nx:=by omega
 have l14:X4.nx<X6.nx:=by omega
 have nx3:X.nx<=X1.nx:=x1.1;have nx4:X.nx<=X4.nx:=Al s3.1 x4.1;have hmX:=hU.lm;have g12:=((s36.trans x7).2 _ l12).trans c3;have g14:=(x7.2 _ l14).trans c6;have n37:=(s36.trans x7).1;have n67:=x7.1;refine aK (aPn (S:=S) (X:=X7) (g:=g) (L:=L) (m:=m) (iv:=iv) (fv:=fv) (av:=av) (u0:=u) (ub:=ub) (mb:=mb) (b9:=b9) (b12:=X1.nx) (b14:=X4.nx) (bc:=bc) (r:=66) H G AM hmem rfl (af) gbc bc2 (sX.trans s07) hsm hi hac (hU.same s07) hup (ah p9) (af) (af) ((s07.2 _ lx9).trans gX9) g12 g14 ar ar ar n9 ar ar  (hI1.same ((s13.trans s36).trans x7)) (aE.same (E:=iD) cm hA4 (s46.trans x7)) fun Y hJ=>?_);have⟨h1,h2,u',h3,h4,h5,h6⟩:=hJ;try refine ae ?_
 refine aJ (dn p40 w1 ?_);refine⟨k - 1,ar,rfl,ar,fun c hc hcm=>?_,j+1,u',ar,h3,h4,fun x hx1 hx2 q hq=>?_,(by refine⟨?_,?_,?_,?_,?_⟩<;>simp only[↓sU,sD,rE,↓reduceIte,rA,p2,p4,p5,p7,p9]),by refine⟨?_,?_,?_⟩<;>simp only[↓sU,sD,rE,↓reduceIte,rA,p38,p39]⟩
 ·rw[h2 c (au s07.1) hcm,s07.2 c ar];exact kX c hc hcm
 ·by_cases e:q=j
  ·subst e;rw[hme];exact h6 x (.inl ⟨hx1,hx2⟩)
  ·exact h5 _ _ (hd x hx1 hx2 q ar)
def evN(n:Nat):AV:=.int .i64 (n:Int)
theorem aLx{V:Type}{ev:V->AV}{h:Ev.T AB}{b:Nat}{f:K2->Option V}(hm:aCF ev h b f){k:K2}{z:AV}{m x:cO}{F:Fr}{v:V}(h1:m.val F= .map b)(h2:x.val F=jY k)(h3:f k=some v):gM (.lookup (.struct [(0,.int),(1,.int)]) z false m x) F h=some (ev v):=aHv aJv hm h1 h2 h3
theorem aIv{g:aS}{L:a9}{first:ba}(hO:lD g.bj.length (iI g.bj.length (L.map (de g))) first){x y:K2}(h:iO (ChE g L) x y):first.getD x.1 0=first.getD y.1 0:=by
 induction h with
 | edge e=>
  obtain⟨h1,_,m,hm,rfl⟩:=e;exact hO.inv _ _ ⟨h1,_,Ez hm,rfl⟩
 | refl x=>rfl
 | symm _ ih=>exact ih.symm
 | trans _ _ i1 i2=>exact i1.trans i2
theorem aFy{g:aS}{s a:Nat}{x:K2}(h:qS g s a x):qS g s (a+1) x:=by
 unfold qS at h ⊢;omega
structure aQU(g:aS)(first:ba)(u0:K2->Option K2)(s a:Nat)(f:K2->Option Nat):Prop where
 f1:∀r b,f r=some b->∃s':Nat,first.getD s' 0=(s':Int)/\s'<g.bj.length/\qS g s a (s',b)/\dW u0 (s',b) r
 f2:∀s' b:Nat,first.getD s' 0=(s':Int)->s'<g.bj.length->qS g s a (s',b)->∀r,dW u0 (s',b) r->f r=some b
structure aSE(g:aS)(L:a9)(first:ba)(s a:Nat)(R:Nat->ba):Prop where
 r1:∀s',s'<s->(R s').length=cG g s'
 r2:(R s).length=a
 r3:∀s',s<s'->R s'= []
 r4:∀s' a',s'<g.bj.length->a'<(R s').length->∃b:Nat,(R s').getD a' 0=(b:Int)/\b<cG g (first.getD s' 0).toNat/\iO (ChE g L) (s',a') ((first.getD s' 0).toNat,b)
structure aPb(X:St)(ub mb fm ob:Nat)(g:aS)(L:a9)(first:ba)(u0:K2->Option K2)(s a:Nat)(Y:St):Prop where
 lt:X.nx<Y.nx
 fr:∀c,c<X.nx->c≠mb->c≠fm->c≠ob->Y.h.get c=X.h.get c
 un:∃u,nJ Y ub mb u/\UpK u (ChE g L)/\∀x r,dW u0 x r->dW u x r
 fn:∃f,aCF evN Y.h fm f/\aQU g first u0 s a f
 fa:∃cs R,Fam ⟨X.h,X.nx+1⟩ Y ob g.bj.length cs R/\aSE g L first s a R
theorem Fam.moveX{S0 Y Y':St}{ob NI:Nat}{cs:bf}{R:Nat->ba}(h:Fam S0 Y ob NI cs R)(hn:Y.nx<=Y'.nx)(ho:Y'.h.get ob=Y.h.get ob)(hk:∀c,S0.nx<=c->c<Y.nx->Y'.h.get c=Y.h.get c):Fam S0 Y' ob NI cs R:=
 ⟨ho.trans h.ho,Ae h.lt hn,h.hl,fun j a hj=>(h.gr j a hj).move hn fun c hc=>hk c ((h.gr j a hj).blk hc).1 ((h.gr j a hj).blk hc).2.1,h.dj⟩
theorem aLy{sk:tZ}{m k v:cO}{call:fA}{F:Fr}{S:St}:evX (.mapUpd sk m k v) call F S=qK (m.val F) sk (k.val F) (v.val F) S:=rfl
theorem aOc{S0 Z:St}{F:Fr}{inr:Bool}{ob fm b17 b18 b21 NI s:Nat}{fv:AV}{cs:bf}{R:Nat->ba}{f:K2->Option Nat}{r:K2}{w:Nat}{Q:Out->bG->St->Prop}(hF:Fam S0 Z ob NI cs R)(hs:s<NI)(hNI:NI<=1000)(hR:(R s).length<=20000)(hS0:S0.nx<=Z.nx)(hob:ob<S0.nx)
  (p17:aD 17 F= .ptr b17 0) (p18:aD 18 F= .ptr b18 0) (p19:aD 19 F= .int .i64 (s:Int)) (p21:aD 21 F= .ptr b21 0)
  (g17:Z.h.get b17=some (.cells [.map fm] false 0)) (g18:Z.h.get b18=some (.cells [fv,.sl ob 0 NI NI false] false 0)) (g21:yV Z.h b21 r) (hm:aCF evN Z.h fm f) (hfr:f r=some w) (l17:b17<Z.nx) (l18:b18<Z.nx) (l21:b21<Z.nx) (lfm:fm<Z.nx)
  (hQ:∀F' V cs',Z.nx<=V.nx->(∀c,c<Z.nx->c≠ob->c<S0.nx->V.h.get c=Z.h.get c)->Fam S0 V ob NI cs' (fun j=>if j=s then R s++ [(w:Int)] else R j)->Q .normal ⟨F',inr⟩ V):
  iM fns (.drw (apP++apX)) ⟨F,inr⟩ Z Q:=by
 have hlt:s<cs.length:=by rw[hF.hl];exact hs
 obtain⟨rv,hrv⟩:∃rv,cs[s]? =some rv:=⟨_,Ab hlt⟩;have hG:=hF.gr s rv hrv;have hoff:∀ {c cs' sz},Z.h.get c=some (.cells cs' false sz)->aZ rv≠some c:=fun h=>hG.off h;have⟨lm,hlm,hlf⟩:=id hm;have nfm:aZ rv≠some fm:=fun e=>by
  have:=(hG.blk e).2.2;rw[hlm] at this;cases this
 have n17:=hoff g17;have n18:=hoff g18;have n21:=hoff g21;have nob:=hoff hF.ho;have d17:=dI (p:=0) g17 rfl;have d18:=aFm g18;have d21:=lH g21;have dob:=dI hF.ho hrv;have hia:=dR (b:=ob) (o:=false) hs;have srv:=hG.self;have lob:=hF.lt;have hlk1:∀F':Fr,aD 129 F'= .map fm->aD 130 F'=jY r->gM (.lookup (.struct [(0,.int),(1,.int)]) (.int .i64 0) false (.t 129) (.t 130)) F' Z.h=some (.int .i64 (w:Int)):=fun F' a b=>aLx hm a b hfr;have hol1:∀F':Fr,aD 129 F'= .map fm->aBz (fun c=>aZ rv=some c) Z.nx (.lookup (.struct [(0,.int),(1,.int)]) (.int .i64 0) false (.t 129) (.t 130)) F':=fun F' a=>xT a lfm nfm;have il:dN (.lookup (.struct [(0,.int),(1,.int)]) (.int .i64 0) false (.t 129) (.t 130))=true:=rfl;have he1:=fun(F:Fr) (id:Nat) (h:aD 131 F= .int .i64 (w:Int))=>nQ (t:=3) (z:=.int .i64 0) (x:=.t 131) (F:=F) (id:=id) (k:=.i64) (n:=(w:Int)) h;refine nI (W:=fun c=>aZ rv=some c) (pre:=apP) (suf:=apX) (K:=14) (R:=fun F' V ps=>ps= []/\aD 134 F'= .ptr ob s/\∃rv',aD 133 F'=rv'/\Z.nx<=V.nx/\(∀c,c<Z.nx->aZ rv≠some c->V.h.get c=Z.h.get c)/\fY 1 S0 V rv' (R s++ [(w:Int)]).length (aU (R s++ [(w:Int)]))/\∃b',aZ rv'=some b'/\Z.nx<=b'/\b'<V.nx) rfl rfl rfl (fun X1 x1 hh1 nn1=>?_) ?_
 ·unfold apP;simp only[↓sU,sD,rE,↓reduceIte,rA,p17,p18,p19,p21,aC,aQ,aB,d17,d18,d21,dob,l17,l18,l21,lob,n17,n18,n21,nob,Ak,xE,vF,srv,aH,hia,hlk1,hol1,il,he1];have hf1:cJ 4088 [⟨11,Z.nx+11,.cells [.int .i64 (w:Int)] false 0⟩] X1.h=([],X1.h.set (Z.nx+11) (some (.cells [.int .i64 (w:Int)] false 0))):=cP (m:=4088) rfl;have nX1:Z.nx+15<=X1.nx:=by rw[nn1];exact Ag _
  obtain⟨U,hU⟩:∃U:St,U=⟨X1.h.set (Z.nx+11) (some (.cells [.int .i64 (w:Int)] false 0)),X1.nx⟩:=⟨_,rfl⟩;have nU:U.nx=X1.nx:=by rw[hU]
  have kU:∀c,c<Z.nx->U.h.get c=Z.h.get c:=fun c hc=>by rw[hU];simp only;rw[di,if_neg ar,hh1]
  have sUu:Same Z U:=⟨ar,kU⟩;have gU:U.h.get (Z.nx+11)=some (.cells [.int .i64 (w:Int)] false 0):=by rw[hU];simp only;rw[di,if_pos rfl]
  have hGU:=hG.step sUu;have hSU:Same S0 ⟨U.h,U.nx⟩\/True:=.inr trivial;have⟨rv',V,eA,gA,bA,nA,rA⟩:=fY.push (bytes:=8) (S0:=⟨U.h,S0.nx⟩) (S:=U) (t:=Z.nx+11) (w:=(w:Int)) hGU ⟨by show S0.nx<=U.nx;omega,fun _ _=>rfl⟩ gU ax ax;refine lQ (r:=rv') (S1:=V) rfl ?_ ?_ ?_
  ·refine ae ?_;rw[hf1,<-hU];exact eA
  ·rw[hf1,<-hU];exact⟨ar,fun c hc hcm=>rA c ar hcm⟩
  rw[hf1];refine dn @aH hia ?_;exact⟨rv',rfl,ar,fun c hc hcm=>(rA c ar hcm).trans (kU c hc),by exact gA,U.nx,bA,ar,ar⟩
 ·rintro F' V ps hs' ls ⟨rfl,p134,rv',p133,nV,kV,gV,b',hb1,hb2,hb3⟩ hlast hld;have m1:∀i,i<14->Nat.testBit 16383 i=true:=by decide
  have hoV:V.h.get ob=some (.cells cs false 0):=(kV _ lob nob).trans hF.ho;have hrc:rv'.cells=some [rv']:=fY.cells gV;unfold apX;refine jZ (v:=.undef) (S1:=⟨V.h.set ob (some (.cells (cs.set s rv') false 0)),V.nx⟩) (hlast _ m1) (fun call=>?_) ?_
  ·rw[dS];simp only[fE,p134,p133,bF,hrc,aL];exact stc (cs:=cs) (p:=s) (S:=V) hoV hlt
  rw[gG];refine⟨?_,?_⟩
  ·simp only[Bz];exact hld _ _ _ m1
  ·simp only[bF,eF];refine hQ _ _ (cs.set s rv') nV (fun c hc hco hc0=>?_) (hF.push hrv nV fk ?_ ⟨b',hb1,hb2,hb3⟩ fun c hc hco hcr=>?_)
   ·simp only;rw[di,if_neg hco];exact kV c hc fun e=>by have:=(hG.blk e).1;omega
   ·refine gV.move (Ag _) fun c hc=>?_;simp only;rw[di,if_neg (fun e=>by rw[hb1] at hc;cases hc;omega)]
   ·simp only;rw[di,if_neg hco];exact kV c hc hcr
noncomputable def aOz:AC:=(.seq (.reg [mt 19 97]) (.reg [mt 20 98]))
noncomputable def aOG:AC:=aRT
structure aSU(S X:St)(A:bG)(ub mb fm ob b4 b5 b7 b9 b17 b18:Nat)(fv:AV)(NI:Nat):Prop where
 p4:aD 4 A.F= .ptr b4 0
 p5:aD 5 A.F= .ptr b5 0
 p7:aD 7 A.F= .ptr b7 0
 p9:aD 9 A.F= .ptr b9 0
 p17:aD 17 A.F= .ptr b17 0
 p18:aD 18 A.F= .ptr b18 0
 g4:∃x y,X.h.get b4=some (.cells [x,y] false 0)
 g5:∃x,X.h.get b5=some (.cells [x] false 0)
 g7:X.h.get b7=some (.cells [fv] false 0)
 g9:X.h.get b9=some (.cells [.ptr ub 0] false 0)
 g17:X.h.get b17=some (.cells [.map fm] false 0)
 g18:X.h.get b18=some (.cells [fv,.sl ob 0 NI NI false] false 0)
 l:b4<X.nx/\b5<X.nx/\b7<X.nx/\b9<X.nx/\b17<X.nx/\b18<X.nx/\mb<X.nx/\fm<X.nx/\ob<X.nx
 s:S.nx<=b4/\S.nx<=b5/\S.nx<=mb/\S.nx<=fm/\S.nx<=ob
 nm:b4≠mb/\b5≠mb/\b7≠mb/\b9≠mb/\b17≠mb/\b18≠mb/\fm≠mb/\ob≠mb
 nf:b4≠fm/\b5≠fm/\b7≠fm/\b9≠fm/\b17≠fm/\b18≠fm/\ob≠fm/\ub≠fm
 no:b4≠ob/\b5≠ob/\b7≠ob/\b9≠ob/\b17≠ob/\b18≠ob/\ub≠ob
 n45:b4≠b5
def aNL(S:St)(g:aS)(L:a9)(first:ba)(b4 b5:Nat)(Y:St):Prop:=Same S Y/\Dup g L first/\b4<Y.nx/\b5<Y.nx/\Y.h.get b4=some (.cells [.bw,.bw] false 0)/\Y.h.get b5=some (.cells [.int .i64 13] false 0)
theorem aOo{S X:St}{A:bG}{g:aS}{L:a9}{first:ba}{iv fv:AV}{u0:K2->Option K2}{f0:K2->Option Nat}{ub mb fm ob b4 b5 b7 b9 b17 b18 bc r:Nat}{cs0:bf}{Q:Out->bG->St->Prop}(H:Has fns)(G:dE g)(hAll:∀m∈L,eX g m)(hO:lD g.bj.length (iI g.bj.length (L.map (de g))) first)(hi:A.inr=false)(hf:aD r A.F= .fn 147 [] [.ptr bc 0])(hb:X.h.get bc=some (.cells [iv] false 0))(hbl:bc<X.nx)
  (hS:Same S X) (hv:aE 2 bP S iv g.bj) (hB:aSU S X A ub mb fm ob b4 b5 b7 b9 b17 b18 fv g.bj.length) (hac:∀s,s<g.bj.length->0<=(cd g (s:Int)).bt/\(cd g (s:Int)).bt<=10000)
  (hU:nJ X ub mb u0) (hup:UpK u0 (ChE g L)) (hsm:∀x y,ChE g L x y->jW u0 x y) (hfv:bI .i64 X fv first) (hfo:aZ fv≠some ob) (hm0:aCF evN X.h fm f0) (hf0:∀k,f0 k=none) (hrow0:X.h.get ob=some (.cells cs0 false 0)) (hcs0:cs0.length=g.bj.length) (hnil:∀ (j:Nat) (a:AV),cs0[j]? =some a->a=AV.bw)
  (hQ:∀Y,aPb X ub mb fm ob g L first u0 g.bj.length 0 Y->Q .normal A Y) (hQr:∀Y,aNL S g L first b4 b5 Y->Q .ret A Y):iM fns (.rng (.t r) [97,98] aOz aOG) A X Q:=by
 have⟨p4,p5,p7,p9,p17,p18,⟨x4,y4,g4⟩,⟨x5,g5⟩,g7,g9,g17,g18,⟨l4,l5,l7,l9,l17,l18,lmb,lfm,lob⟩,⟨s4,s5,smb,sfm,sob⟩,⟨m4,m5,m7,m9,m17,m18,mfm,mob⟩,⟨q4,q5,q7,q9,q17,q18,qob,qub⟩,⟨o4,o5,o7,o9,o17,o18,oub⟩,n45⟩:=hB;have hNI:=G.ni;have⟨es,hes⟩:=hU.mp;have hux:=hU.lu;have⟨lm00,hfm0X,_⟩:=id hm0;have hSX:=hS.1;refine tJ (S:=S) (R:=aNL S g L first b4 b5) (J:=aPb X ub mb fm ob g L first u0) H hi hf hv ar hac hb hbl (fun s a Y h=>⟨⟨au h.lt,fun c hc=>by rw[h.fr c ar ar ar ar];exact hS.2 c hc⟩,h.lt⟩) (fun s a Y Y' h hn hk=>?_) (fun Y Y' h hn hk=>?_) (fun Y hn hk=>?_) (fun s Y hs h=>?_) (fun s a Y hs ha h=>?_) hQ hQr
 ·-- the iterator's own steps
  have⟨h1,h2,⟨u,h3,h4,h5⟩,⟨f,h6,h7⟩,cs,R,h8,h9⟩:=h;have⟨lm,e1,e2⟩:=h6;refine⟨ar,fun c hc a1 a2 a3=>(hk c ar ar).trans (h2 c hc a1 a2 a3),⟨u,h3.off2 hn (hk _ h3.lu ar) (hk _ h3.lm ar),h4,h5⟩,⟨f,⟨lm,(hk _ ar ar).trans e1,e2⟩,h7⟩,cs,R,h8.moveX hn (hk _ h8.lt ar) fun c hc1 hc2=>hk c hc2 (by have:X.nx+1<=c:=hc1;omega),h9⟩
 ·have⟨h1,h2,h3,h4,h5,h6⟩:=h;exact⟨⟨Al h1.1 hn,fun c hc=>(hk c (Ae hc h1.1) ar).trans (h1.2 c hc)⟩,h2,ar,ar,(hk _ h3 ar).trans h5,(hk _ h4 ar).trans h6⟩
 ·-- the start
  have⟨lm,e1,e2⟩:=hm0;refine⟨hn,fun c hc _ _ _=>hk c hc,⟨u0,hU.off (Nat.le_of_lt hn) hk,hup,fun _ _ h=>h⟩,⟨f0,⟨lm,(hk _ lfm).trans e1,e2⟩,⟨fun r b h=>(by rw[hf0] at h;cases h),fun s' b _ _ h=>(by unfold qS at h;omega)⟩⟩,cs0,fun _=>[],⟨(hk _ lob).trans hrow0,ar,hcs0,fun j a hj=>.inl ⟨hnil j a hj,rfl,rfl⟩,fun j k a b _ hj _ c hc=>by rw[hnil j a hj] at hc;cases hc⟩,⟨fun s' h=>ar,rfl,fun _ _=>rfl,fun s' a' _ h=>by simp at h⟩⟩
 ·-- the next set
  have⟨h1,h2,h3,⟨f,h6,h7⟩,cs,R,h8,h9⟩:=h;refine⟨h1,h2,h3,⟨f,h6,⟨fun r b e=>?_,fun s' b e1 e2 e3=>h7.f2 s' b e1 e2 (wR e3)⟩⟩,cs,R,h8,⟨fun s' h=>?_,h9.r3 _ (Dj s) ▸ rfl,fun s' h=>h9.r3 s' ar,h9.r4⟩⟩
  ·have⟨s',k1,k2,k3,k4⟩:=h7.f1 r b e;refine⟨s',k1,k2,?_,k4⟩;unfold qS at k3 ⊢;simp only at k3 ⊢;rcases k3 with⟨a1,a2⟩ | ⟨a1,a2⟩
   ·exact .inl ⟨ar,a2⟩
   ·exact .inl ⟨ar,by rw[a1];exact a2⟩
  ·by_cases e:s'=s
   ·rw[e];exact h9.r2
   ·exact h9.r1 s' ar
 unfold aOz;refine bO (ae ?_);refine aJ (ae ?_);intro bl;have⟨h1,h2,⟨u,h3,h4,h5⟩,⟨f,h6,h7⟩,cs,R,h8,h9⟩:=h;generalize hY':(⟨Y.h.set X.nx bl,Y.nx⟩:St)=Y';have nY:Y'.nx=Y.nx:=by rw[<-hY']
 have kY0:∀c,c≠X.nx->Y'.h.get c=Y.h.get c:=fun c hc=>by rw[<-hY'];simp only;rw[di,if_neg hc]
 have hbl':Y'.h.get X.nx=bl:=by rw[<-hY'];simp only;rw[di,if_pos rfl]
 clear hY';have kY:∀c,c<X.nx->c≠mb->c≠fm->c≠ob->Y'.h.get c=X.h.get c:=fun c hc a1 a2 a3=>(kY0 c ar).trans (h2 c hc a1 a2 a3);have hU':nJ Y' ub mb u:=h3.off2 ar (kY0 _ ar) (kY0 _ ar);have hF':Fam ⟨X.h,X.nx+1⟩ Y' ob g.bj.length cs R:=h8.moveX ar (kY0 _ ar) fun c hc1 hc2=>kY0 c (by have:X.nx+1<=c:=hc1;omega);have hM':aCF evN Y'.h fm f:=by
  have⟨lm,e1,e2⟩:=h6;exact⟨lm,(kY0 _ ar).trans e1,e2⟩
 have⟨rt,hrt⟩:=hup.ex (s,a);have d9:=dI (p:=0) ((kY _ l9 m9 q9 o9).trans g9) rfl;have hb1:=fun(F:Fr) (h:Ev.T AB) (e1:aD 100 F= .int .i64 (s:Int)) (e2:aD 101 F= .int .i64 (a:Int))=>aPp (h:=h) e1 e2;unfold aOG;refine aK (aA (aJ ?_));refine dz p9 d9 hb1 ?_;refine bD (am ?_);refine aW (zN H hU' h4 (h5 _ _ hrt)) ?_;rintro _ V1 ⟨rfl,v1,u1,hU1,hup1,hro1⟩;try refine am ?_
 refine cA ?_;intro V2 v2 k2 c2;try refine am ?_
 refine cQ (b:=V1.nx) (ap) (by refine am ?_;exact pG _) c2 rfl rfl ?_;intro V3 v3 k3 c3;try refine am ?_
 have s13:Same V1 V3:=v3.same v2 (Ag _);clear v2 v3 c2;have nV1:=v1.1;have nV3:=s13.1;have c3':yV V3.h V1.nx rt:=c3;have kV:∀c,c<Y'.nx->c≠mb->V3.h.get c=Y'.h.get c:=fun c hc hcm=>(s13.2 c ar).trans (v1.2 c hc hcm);have kX:∀c,c<X.nx->c≠mb->c≠fm->c≠ob->V3.h.get c=X.h.get c:=fun c hc a1 a2 a3=>(kV c ar a1).trans (kY c hc a1 a2 a3);have hU3:nJ V3 ub mb u1:=hU1.same s13;have hF3:Fam ⟨X.h,X.nx+1⟩ V3 ob g.bj.length cs R:=hF'.moveX ar (kV _ ar mob) fun c hc1 hc2=>kV c hc2 (by have:X.nx+1<=c:=hc1;omega);have hM3:aCF evN V3.h fm f:=by
  have⟨lm,e1,e2⟩:=hM';exact⟨lm,(kV _ ar mfm).trans e1,e2⟩
 have⟨lm0,hfm0,_⟩:=id hM3;have d7:=dI (p:=0) ((kX _ l7 m7 q7 o7).trans g7) rfl;have hfs:bI .i64 V3 fv first:=eT hfv (show X.nx<=V3.nx by omega) fun c hc=>kX c (eU hfv hc) (fun e=>yN hfv hes (by rw[<-e];exact hc)) (fun e=>yN hfv hfm0X (by rw[<-e];exact hc)) fun e=>hfo (by rw[<-e];exact hc);have⟨qb,qq,h_i,h_l,h_ld⟩:=jB hfs (i:=s) (by rw[hO.len];exact hs);have hle:=hO.le s hs;have g17V:=(kX _ l17 m17 q17 o17).trans g17;have d17:=dI (p:=0) g17V rfl;have g18V:=(kX _ l18 m18 q18 o18).trans g18;have d21:=lH c3';have aNI:=(hac s hs);have eacs:cG g s=(cd g (s:Int)).bt.toNat:=rfl;have kXn:V3.h.get X.nx=bl:=(kV _ ar ar).trans hbl';refine aA (aX (Q:=fun o A1 Z=>(o= .ret/\Z.h.get X.nx=bl/\Y.nx<=Z.nx/\aNL S g L first b4 b5 Z)\/(o= .normal/\A1.inr=true/\aD 17 A1.F= .ptr b17 0/\aD 18 A1.F= .ptr b18 0/\aD 19 A1.F= .int .i64 (s:Int)/\aD 21 A1.F= .ptr V1.nx 0/\Z.nx=V3.nx/\(∀c,c≠fm->Z.h.get c=V3.h.get c)/\∃ (w:Nat) (f':K2->Option Nat),aCF evN Z.h fm f'/\f' rt=some w/\aQU g first u0 s (a+1) f'/\w<cG g (first.getD s 0).toNat/\iO (ChE g L) (s,a) ((first.getD s 0).toNat,w))) ?_ ?_)
 ·refine bO (dr p7 d7 @aH h_i h_ld ?_);by_cases er:first.getD s 0=(s:Int);rotate_left
  ·-- not a representative
   refine aM (by simp only[↓sU,sD,rE,↓reduceIte,rA,Aa er]) (aI ?_);have⟨r1,r2⟩:=aBh hO hs;have⟨t1,σ,t2,t3⟩:=aAP G hAll (hO.con s hs);have⟨σ1,σ2⟩:=t2 a ha;have⟨r',z1,z2⟩:=aFk hup hsm σ2;obtain rfl:=z1.uni hrt;refine .inr ⟨rfl,rfl,ah p17,ah p18,af,af,rfl,fun _ _=>rfl,σ a,f,hM3,h7.f2 _ _ r2 r1 (.inl ⟨ar,σ1⟩) _ z2,⟨fun r b e=>?_,fun s' b e1 e2 e3 r e4=>?_⟩,σ1,σ2⟩
   ·have⟨s',k1,k2,k3,k4⟩:=h7.f1 r b e;exact⟨s',k1,k2,aFy k3,k4⟩
   ·rcases qX e3 with e3 | e3
    ·exact h7.f2 s' b e1 e2 e3 r e4
    ·cases e3;exact absurd e1 er
  ·refine aN (by simp only[↓sU,sD,rE,↓reduceIte,rA,Ac er]) ?_;have d22:=fun(F:Fr) (h1:aD 111 F= .map fm) (h2:aD 112 F=jY rt)=>aJE (z:=.int .i64 0) (m:=.t 111) (x:=.t 112) (F:=F) hM3 h1 h2;refine fC (dq p17 d17 d21 d22 ?_);cases efr:f rt with
   | some b=>
    refine dn @rN @sA ?_;refine bO (ae ?_);refine aN (by simp only[↓sU,sD,rE,↓reduceIte,rA];try first | rfl | trivial) ?_;have g4V:=(kX _ l4 m4 q4 o4).trans g4;have g5V:=(kX _ l5 m5 q5 o5).trans g5;have hbn:∀ (F:Fr) (h:Ev.T AB),gM (.build [.bw,.bw] []) F h=some (.agg [.bw,.bw]):=fun _ _=>rfl;refine bO (dx hbn ?_);refine cQ (b:=b4) (cs':=[.bw,.bw]) (aq p4) (by simp only[↓aF,aG,rE,↓reduceIte,rA];rfl) g4V rfl rfl ?_;intro V4 v4 k4 c4;try refine am ?_
    refine cQ (b:=b5) (cs':=[.int .i64 13]) (aq p5) (by simp only[↓aF,aG,rE,↓reduceIte,rA];rfl) ((v4.2 _ ar (Bt n45)).trans g5V) rfl rfl ?_;intro V5 v5 k5 c5;try refine am ?_
    refine aP ?_;have⟨s',z1,z2,z3,z4⟩:=h7.f1 rt b efr;have zc:iO (ChE g L) (s',b) (s,a):=jW.conn hup ⟨rt,z4,hrt⟩;have zf:=aIv hO zc;simp only at zf;obtain rfl:s'=s:=by omega
    unfold qS at z3;simp only at z3;refine .inl ⟨rfl,?_,ar,⟨ar,fun c hc=>?_⟩,⟨s',b,a,hs,er,ar,ha,zc⟩,ar,ar,(v5.2 _ ar n45).trans c4,c5⟩
    ·exact(v5.2 _ ar ar).trans ((v4.2 _ ar ar).trans kXn)
    ·exact(v5.2 _ ar ar).trans ((v4.2 _ ar ar).trans ((kX c ar ar ar ar).trans (hS.2 c hc)))
   | none=>
    refine dn @rN @sA ?_;refine bO (ae ?_);refine aM (by simp only[↓sU,sD,rE,↓reduceIte,rA];try first | rfl | trivial) (aI ?_);try refine ae ?_
    refine aJ (dz p17 d17 d21 ?_);have⟨Z,hZ1,hZ2,hZ3,hZ4⟩:=aEh (S:=V3) hM3 rt a;refine fI (v:=.undef) (S1:=Z) (fun call=>?_) ?_
    ·rw[aLy];refine am ?_;exact hZ1
    refine am ?_;refine .inr ⟨p17,p18,hZ2,hZ3,a,_,hZ4,by unfold oK;rw[if_pos rfl],⟨fun r b e=>?_,fun s' b e1 e2 e3 r e4=>?_⟩,by rw[er];exact ha,by rw[er];exact .refl _⟩
    ·unfold oK at e;split at e
     ·rename_i e0;cases e;subst e0;exact⟨s,er,hs,.inr ⟨rfl,Dj _⟩,hrt⟩
     ·have⟨s',k1,k2,k3,k4⟩:=h7.f1 r b e;exact⟨s',k1,k2,aFy k3,k4⟩
    ·unfold oK;rcases qX e3 with e3 | e3
     ·have:=h7.f2 s' b e1 e2 e3 r e4;rw[if_neg (fun e0=>by rw[e0,efr] at this;cases this)];exact this
     ·cases e3;rw[if_pos (e4.uni hrt)]
 ·rintro o ⟨F,inr⟩ Z hZ;rcases hZ with⟨rfl,z1,z2,z3⟩ | ⟨rfl,e1,z17,z18,z19,z21,nZ,kZ,w,f',hmZ,hw,hS',hw2,hcw⟩
  ·exact⟨z1,z2,.inr ⟨rfl,z3⟩⟩
  simp only at e1 z17 z18 z19 z21;subst e1;have hlenR:(R s).length=a:=h9.r2;have hFZ:Fam ⟨X.h,X.nx+1⟩ Z ob g.bj.length cs R:=hF3.moveX ar (kZ _ qob) fun c hc1 hc2=>kZ c (by have:X.nx+1<=c:=hc1;omega);refine aOc hFZ hs ar ar  (by show X.nx+1<=Z.nx;omega) (by show ob<X.nx+1;omega) z17 z18 z19 z21 ((kZ _ q17).trans g17V) ((kZ _ q18).trans g18V) ((kZ _ ar).trans c3') hmZ hw ar ar ar ar  fun F' V cs' hn hk hFam=>?_;have hk1:∀c,c<X.nx+1->c≠ob->c≠fm->c≠mb->V.h.get c=Y'.h.get c:=fun c hc a1 a2 a3=>(hk c ar a1 hc).trans ((kZ c a2).trans (kV c ar a3));refine⟨(hk1 _ ar ar ar ar).trans hbl',ar,.inl ⟨rfl,⟨ar,fun c hc a1 a2 a3=>(hk1 c ar a3 a2 a1).trans (kY c hc a1 a2 a3),⟨u1,?_,hup1,fun x r hxr=>hro1 _ _ (h5 x r hxr)⟩,⟨f',?_,hS'⟩,cs',_,hFam,?_⟩⟩⟩
  ·have e1:V.h.get ub=V3.h.get ub:=(hk _ ar oub (show ub<X.nx+1 by omega)).trans (kZ _ qub);have e2:V.h.get mb=V3.h.get mb:=(hk _ ar (Bt mob) (show mb<X.nx+1 by omega)).trans (kZ _ (Bt mfm));exact hU3.off2 ar e1 e2
  ·have⟨lm,y1,y2⟩:=hmZ;exact⟨lm,(hk _ ar (Bt qob) (show fm<X.nx+1 by omega)).trans y1,y2⟩
  ·refine⟨fun s' h=>by rw[if_neg ar];exact h9.r1 s' h,by rw[if_pos rfl,Ao,hlenR,Bl],fun s' h=>by rw[if_neg ar];exact h9.r3 s' h,fun s' a' h1 h2=>?_⟩;by_cases e:s'=s
   ·subst e;rw[if_pos rfl] at h2 ⊢;by_cases e2:a'<a
    ·have⟨b,y1,y2⟩:=h9.r4 s' a' h1 ar;refine⟨b,?_,y2⟩;rw[Ad,Bg ar,<-Ad];exact y1
    ·rw[Ao,Bl] at h2;obtain rfl:a'=(R s').length:=by omega
     refine⟨w,?_,hw2,by rw[hlenR];exact hcw⟩;rw[Ad,Be (Ag _),Eh];rfl
   ·rw[if_neg e] at h2 ⊢;exact h9.r4 s' a' h1 h2
def aSA(g:aS)(L:a9)(S':St)(fv av:AV)(e:Int):Prop:=(jH g L≠0/\e=jH g L/\fv= .bw/\av= .bw)\/(jH g L=0/\∃first,lD g.bj.length (iI g.bj.length (L.map (de g))) first/\((e=13/\Dup g L first/\fv= .bw/\av= .bw)\/(e=0/\¬Dup g L first/\∃act,qE g L first act/\bI .i64 S' fv first/\aE 1 iD S' av act)))
theorem aN2{b q n m:Nat}{bb:Bool}{t1 t2:Nat}{F:Fr}{h:Ev.T AB}{fv:AV}(h1:aD t1 F=fv)(hc:fv.cells=some [fv])(h2:aD t2 F= .sl b q n m bb):gM (.build [.bw,.bw] [(0,1,.t t1),(1,1,.t t2)]) F h=some (.agg [fv,.sl b q n m bb]):=aEY h1 h2 hc rfl
theorem xP{S:St}{nv iv mv:AV}{g:aS}{L:a9}(H:Has fns)(hn:aE 6 bX S nv g.bh)(hi:aE 2 bP S iv g.bj)(hln:g.bh.length<=100000)(hm:aE 1 iD S mv L):
  fZ fns (.fn 96 [] []) [.agg [.int .i64 g.bo,nv,iv],mv] S fun r S'=>Same S S'/\∃fv av e,r= .tup [.agg [fv,av],.int .i64 e]/\aSA g L S' fv av e:=by
 refine cF H.f96 (by simp) ?_;refine am ?_;refine bO ?_;refine cI (by refine am ?_;exact aY _) ?_;intro S1 s1 n1 g1;refine am ?_;refine cA ?_;intro S2 s2 n2 g2;try refine am ?_
 refine cA ?_;intro S3 s3 n3 g3;try refine am ?_
 have hbn:∀ (F:Fr) (h:Ev.T AB),gM (.build [.bw,.bw] []) F h=some (.agg [.bw,.bw]):=fun _ _=>rfl;have s03:=s1.trans (s2.trans s3);have hi3:=aE.same (E:=bP) bK hi s03;have hm3:=aE.same (E:=iD) cm hm s03;refine bO ?_;refine dx (eJ ((s3.2 _ ar).trans ((s2.2 _ ar).trans g1))) ?_;refine bD (am ?_);refine aW (aGy H (aE.same (E:=bX) bL hn s03) hi3 hln hm3) ?_;rintro _ S4 ⟨s4,xv,fv,rfl,hbad,hgood⟩;refine dz @rN @sA @ex2 ?_;refine cA ?_;intro S5 s5 n5 g5;try refine am ?_
 have hfc:fv.cells=some [fv]:=by
  by_cases h0:jH g L=0
  ·have⟨_,_,_,hb,_⟩:=hgood h0;exact bI.cells hb.is
  ·rw[(hbad h0).2];rfl
 refine cQ (b:=S4.nx) (cs':=[fv]) (ap) (by refine am ?_;exact hfc) g5 rfl rfl ?_;intro S6 s6 n6 g6;try refine am ?_
 have s46:Same S4 S6:=s6.same s5 (Ag _);have s36:=s4.trans s46;have s06:=s03.trans s36;have m3:=s36.1;have m4:=s4.1;have c2:S6.h.get S.nx=some (.cells [.int .i64 g.bo,nv,iv] false 0):=(s36.2 _ ar).trans ((s3.2 _ ar).trans ((s2.2 _ ar).trans g1));have c4:S6.h.get S1.nx=some (.cells [.bw,.bw] false 0):=(s36.2 _ ar).trans ((s3.2 _ ar).trans g2);have c5:S6.h.get S2.nx=some (.cells [.int .i64 0] false 0):=(s36.2 _ ar).trans g3;try refine am ?_
 refine fC (ae ?_);by_cases h0:jH g L=0;rotate_left
 ·refine aN (by simp only[↓sU,sD,rE,↓reduceIte,rA,Ac (show jH g L≠0 from h0)]) ?_;refine bO (dx hbn ?_);refine cQ (b:=S1.nx) (cs':=[.bw,.bw]) (ap) (by simp only[↓aF,aG,rE,↓reduceIte,rA];rfl) c4 rfl rfl ?_;intro V4 v4 k4 d4;try refine am ?_
  refine cQ (b:=S2.nx) (cs':=[.int .i64 (jH g L)]) (ap) (by simp only[↓aF,aG,rE,↓reduceIte,rA];rfl) ((v4.2 _ ar ar).trans c5) rfl rfl ?_;intro V5 v5 k5 d5;try refine am ?_
  refine aP ?_;have ld4:=jM (n:=2) ((v5.2 _ ar ar).trans d4) rfl;have ld5:=dI (p:=0) d5 rfl;refine dz @dJ ld4 ld5 ?_;exact⟨⟨ar,fun c hc=>(v5.2 c ar ar).trans ((v4.2 c ar ar).trans (s06.2 c hc))⟩,_,_,_,rfl,.inl ⟨h0,rfl,rfl,rfl⟩⟩
 rw[h0];refine aM (by simp only[↓sU,sD,rE,↓reduceIte,rA];try first | rfl | trivial) (aI ?_);try refine ae ?_
 have⟨hf0,hL16,hims⟩:=iS h0;have⟨_,first,_,hOw,_,hO⟩:=hgood h0;have hAll:∀m∈L,eX g m:=fun m hm=>gR (iC hims m hm);have G:=gF hf0;have hNI:=G.ni;have hac:∀s,s<g.bj.length->0<=(cd g (s:Int)).bt/\(cd g (s:Int)).bt<=10000:=fun s hs=>by
  have⟨f1,_,_⟩:=G.fst s hs;rw[pT G hs];have:=G.nxt _ f1;omega
 refine bO ?_;refine fN (v:=.map S6.nx) (bl:=.map []) rfl ?_;intro S7 s7 n7 g7;refine am ?_;have hbm:∀ (F:Fr) (h:Ev.T AB),aD 35 F= .map S6.nx->gM (.build [.nilmap] [(0,1,.t 35)]) F h=some (.agg [.map S6.nx]):=fun F h e=>by
  show(bC (eQ _ (eH F [(0,1,.t 35)])) fun cs=>some (AV.agg cs))=_;simp only[eH,show(cO.t 35).val F= .map S6.nx from e,eQ];rfl
 refine dx hbm ?_;refine cI (cs:=[.map S6.nx]) (by simp only[↓aF,aG,rE,↓reduceIte,rA];rfl) ?_;intro S8 s8 n8 g8;try refine am ?_
 refine cA ?_;intro S9 s9 n9 g9;try refine am ?_
 refine cQ (b:=S8.nx) (cs':=[.ptr S7.nx 0]) (ap) (by simp only[↓aF,aG,rE,↓reduceIte,rA];rfl) g9 rfl rfl ?_;intro X0 x0 m0 g10;try refine am ?_
 have s8X:Same S8 X0:=x0.same s9 (Ag _);have s6X:Same S6 X0:=s7.trans (s8.trans s8X);have s0X:=s06.trans s6X;have nX0:X0.nx=S6.nx+3:=by omega
 have hU0:nJ X0 S7.nx S6.nx (fun _=>none):=⟨(s8X.2 _ ar).trans g8,⟨[],(s8X.2 _ ar).trans ((s8.2 _ ar).trans g7),fun _=>rfl⟩,ar,ar,ar⟩;have hup0:UpK (fun _=>none) (ChE g L):=⟨⟨fun _=>0,fun _ _ h=>by cases h⟩,fun _ _ h=>by cases h⟩;refine aA (aX (Q:=fun o A' X=>o= .normal/\aO9 X0 S7.nx S6.nx S.nx S1.nx S2.nx S4.nx S8.nx mv g L 0 A' X) (aA (aJ ?_)) ?_)
 ·refine dn hm.len @Ah ?_;exact aPf (S:=S) H hf0 hAll hL16 s0X hn hi hm ar hU0 hup0 ar ar ar ar  ((s6X.2 _ ar).trans c2) g10 (by refine⟨?_,?_,?_,?_,?_⟩<;>simp only[↓sU,sD,rE,↓reduceIte,rA]) (af) (af) (ag)
 rintro o ⟨F,inr⟩ X ⟨rfl,q0,nX,kX,j,u,hjk,hU,hup,hsm,⟨p2,p4,p5,p7,p9⟩,_⟩;simp only at q0 p2 p4 p5 p7 p9;subst q0;obtain rfl:j=L.length:=by omega
 have sSX:Same S X:=⟨au s0X.1,fun c hc=>(kX c (au s0X.1) (au s06.1)).trans (s0X.2 c hc)⟩;refine bO ?_;refine fN (v:=.map X.nx) (bl:=.map []) rfl ?_;intro Y1 y1 k1 e1;refine am ?_;refine cA ?_;intro Y2 y2 k2 e2;try refine am ?_
 refine cQ (b:=Y1.nx) (cs':=[.map X.nx]) (ap) (by simp only[↓aF,aG,rE,↓reduceIte,rA];rfl) e2 rfl rfl ?_;intro Y3 y3 k3 e3;try refine am ?_
 have s13:Same Y1 Y3:=y3.same y2 (Ag _);have sXY:Same X Y3:=y1.trans s13;have nY:Y3.nx=X.nx+2:=by omega
 have fmY:Y3.h.get X.nx=some (.map []):=(s13.2 _ ar).trans e1;have o0:=s06.1;have hk0:∀c,c<X0.nx->c≠S6.nx->Y3.h.get c=X0.h.get c:=fun c hc hm=>(sXY.2 c ar).trans (kX c hc hm);have hk6:∀c,c<S6.nx->Y3.h.get c=S6.h.get c:=fun c hc=>(hk0 c ar ar).trans (s6X.2 c hc);have e7:Y3.h.get S4.nx=some (.cells [fv] false 0):=(hk6 _ ar).trans g6;have e2':Y3.h.get S.nx=some (.cells [.int .i64 g.bo,nv,iv] false 0):=(hk6 _ ar).trans c2;have d7:=dI (p:=0) e7 rfl;have lb2:S.nx<Y3.nx:=by omega
 have lb7:S4.nx<Y3.nx:=by omega
 have same_fv:cE fv fv=true:=by
  have⟨b,e,_⟩:=id hOw;rw[e];simp only[↓sU,sD,rE,↓reduceIte,rA]
 have hmk:=fun F id (x:cO) (hx:fP (x.val F)=some g.bj.length)=>lN (t:=22) (s:=1) (bytes:=24) (z:=[AV.bw]) (l:=x) (c:=x) (F:=F) (id:=id) (n:=g.bj.length) hx hx ax ax;refine aA (kJ (fun _=>False) ?_);simp only[↓sU,sD,rE,↓reduceIte,rA,p7,p2,d7,aC,aQ,aB,fH e2',lb2,lb7,same_fv,hi.len,Ah];have hB1:∀F h,aD 88 F=fv->aD 92 F= .sl (Y3.nx+4) 0 g.bj.length g.bj.length false->gM (.build [.bw,.bw] [(0,1,.t 88),(1,1,.t 92)]) F h=some (.agg [fv,.sl (Y3.nx+4) 0 g.bj.length g.bj.length false]):=fun F h a b=>aN2 a hfc b;refine⟨not_false,⟨aE.self hi,not_false⟩,pN (n:=g.bj.length) (af) (af) ax ax  ?_⟩;have ilb:dN (.build [.bw,.bw] [(0,1,.t 88),(1,1,.t 92)])=false:=rfl;have hal:∀F,uW (.alloc 146 [.bw,.bw]) F (Y3.nx+6)=some (.ptr (Y3.nx+6) 0,.cells [.bw,.bw] false 0):=fun _=>rfl;refine dq hB1 ilb hal @mM ?_;rw[repeatL_one];obtain⟨Z0,hZ0⟩:∃Z0:St,Z0=⟨((Y3.h.set (Y3.nx+6) (some (.cells [.bw,.bw] false 0))).set (Y3.nx+4) (some (.cells (List.replicate g.bj.length .bw) false 0))),Y3.nx+8⟩:=⟨_,rfl⟩;have hfl:cJ 127 [⟨6,Y3.nx+6,.cells [.bw,.bw] false 0⟩,⟨4,Y3.nx+4,.cells (List.replicate g.bj.length .bw) false 0⟩] Y3.h=([],Z0.h):=by
  rw[hZ0];rw[fD (show Nat.testBit 127 6=true by decide),fD (show Nat.testBit 127 4=true by decide),bF]
 have b6:Z0.h.get (Y3.nx+6)=some (.cells [.bw,.bw] false 0):=by rw[hZ0];simp only;rw[di,if_neg ar,di,if_pos rfl]
 have b4':Z0.h.get (Y3.nx+4)=some (.cells (List.replicate g.bj.length .bw) false 0):=by rw[hZ0];simp only;rw[di,if_pos rfl]
 have bk:∀c,c<Y3.nx->Z0.h.get c=Y3.h.get c:=fun c hc=>by rw[hZ0];simp only;rw[di,if_neg ar,di,if_neg ar]
 refine pD (S1:=⟨Z0.h.set (Y3.nx+6) (some (.cells [fv,.sl (Y3.nx+4) 0 g.bj.length g.bj.length false] false 0)),Y3.nx+8⟩) rfl ?_ ?_ ?_
 ·refine ae ?_;rw[hfl,aY,aL];exact kH (S:=⟨Z0.h,Y3.nx+8⟩) b6 rfl rfl
 ·refine⟨Ag _,fun c hc _=>?_⟩;simp only;rw[hfl,di,if_neg ar]
 rw[hfl];refine dm @bF ?_;obtain⟨Z,hZ⟩:∃Z:St,Z=⟨Z0.h.set (Y3.nx+6) (some (.cells [fv,.sl (Y3.nx+4) 0 g.bj.length g.bj.length false] false 0)),Y3.nx+8⟩:=⟨_,rfl⟩;rw[<-hZ];have nZ:Z.nx=Y3.nx+8:=by rw[hZ]
 have kZ:∀c,c<Y3.nx->Z.h.get c=Y3.h.get c:=fun c hc=>by rw[hZ];simp only;rw[di,if_neg ar];exact bk c hc
 have z18:Z.h.get (Y3.nx+6)=some (.cells [fv,.sl (Y3.nx+4) 0 g.bj.length g.bj.length false] false 0):=by rw[hZ];simp only;rw[di,if_pos rfl]
 have zob:Z.h.get (Y3.nx+4)=some (.cells (List.replicate g.bj.length .bw) false 0):=by rw[hZ];simp only;rw[di,if_neg ar];exact b4'
 clear hZ hZ0 hfl b6 b4' bk;have sYZ:Same Y3 Z:=⟨ar,kZ⟩;have sXZ:=sXY.trans sYZ;have sSZ:=sSX.trans sXZ;have kZ6:∀c,c<S6.nx->Z.h.get c=S6.h.get c:=fun c hc=>(kZ c ar).trans (hk6 c hc);refine aA (aX (Q:=fun o A' V=>(o= .normal/\∃V0,Same Z V0/\aPb V0 S7.nx S6.nx X.nx (Y3.nx+4) g L first u g.bj.length 0 V/\aD 18 A'.F= .ptr (Y3.nx+6) 0/\aD 4 A'.F= .ptr S1.nx 0/\aD 5 A'.F= .ptr S2.nx 0)\/(o= .ret/\aD 4 A'.F= .ptr S1.nx 0/\aD 5 A'.F= .ptr S2.nx 0/\aNL S g L first S1.nx S2.nx V)) (aA (aJ ?_)) ?_)
 ·refine dq p2 @aC @aB (fH ((kZ _ lb2).trans e2')) ?_;refine bD (ae ?_);refine aW (lT H (lI hi)) ?_;rintro _ V0 ⟨v0,bc,rfl,bc1,bc2,gbc⟩;try refine ae ?_
  have sSV:=sSZ.trans v0;have hfvV:bI .i64 V0 fv first:=hOw.is.same (s46.trans (Same.trans (⟨ar,kZ6⟩:Same S6 Z) v0));have hfob:aZ fv≠some (Y3.nx+4):=fun e=>by
   have:=eU hOw.is e;have:=s46.1;omega
  have m46:=s46.1;refine aK (aOo (S:=S) (X:=V0) (g:=g) (L:=L) (first:=first) (iv:=iv) (fv:=fv) (u0:=u) (f0:=fun _=>none) (ub:=S7.nx) (mb:=S6.nx) (fm:=X.nx) (ob:=Y3.nx+4) (b4:=S1.nx) (b5:=S2.nx) (b7:=S4.nx) (b9:=S8.nx) (b17:=Y1.nx) (b18:=Y3.nx+6) (bc:=bc) (r:=96) (cs0:=List.replicate g.bj.length .bw) H G hAll hO rfl (af) gbc bc2 sSV hi ?_ hac ((hU.same sXZ).same v0) hup ?_ hfvV hfob ⟨[],(v0.2 _ ar).trans ((kZ _ ar).trans fmY),fun _=>rfl⟩ (fun _=>rfl) ((v0.2 _ ar).trans zob) (Au ..) (fun j a hj=>?_) (fun V hJ=>?_) fun V hE=>?_)
  ·have kV:∀c,c<S6.nx->V0.h.get c=S6.h.get c:=fun c hc=>(v0.2 c ar).trans (kZ6 c hc);have v01:=v0.1;have t1:=s06.1;exact⟨ah p4,ah p5,ah p7,ah p9,af,af,⟨_,_,(kV _ ar).trans c4⟩,⟨_,(kV _ ar).trans c5⟩,(kV _ ar).trans g6,(v0.2 _ ar).trans ((kZ _ ar).trans ((hk0 _ ar ar).trans g10)),(v0.2 _ ar).trans ((kZ _ ar).trans e3),(v0.2 _ ar).trans z18,ar,ar,ar,ar,ar,ar⟩
  ·rintro x y ⟨a1,a2,m,hmL,rfl⟩;obtain⟨q,hq,rfl⟩:=Cm hmL;have:=hsm x a1 a2 q hq;rw[Ad,Ab hq] at this;exact this
  ·rw[Ch] at hj;split at hj
   ·cases hj;rfl
   ·cases hj
  ·exact .inl ⟨rfl,V0,v0,hJ,by refine⟨?_,?_,?_⟩<;>simp only[↓sU,sD,rE,↓reduceIte,rA,p4,p5]⟩
  ·exact .inr ⟨rfl,ah p4,ah p5,hE⟩
 rintro o ⟨F',inr⟩ V hV;have m46:=s46.1;rcases hV with⟨rfl,V0,v0,hJ,q18,q4,q5⟩ | ⟨rfl,q4,q5,hE⟩
 rotate_left
 ·simp only at q4 q5;have⟨h1,h2,h3,h4,h5,h6⟩:=hE;have ld4:=jM (n:=2) h5 rfl;have ld5:=dI (p:=0) h6 rfl;refine ef @dJ q4 q5 ld4 ld5 ?_;exact⟨h1,_,_,_,rfl,.inr ⟨h0,first,hO,.inl ⟨rfl,h2,rfl,rfl⟩⟩⟩
 simp only at q18 q4 q5;have⟨j1,j2,⟨u',j3,j4,j5⟩,⟨f,j6,j7⟩,cs,R,j8,j9⟩:=hJ;have v01:=v0.1;have t1:=s06.1;have sSV:=sSZ.trans v0;have kV:∀c,c<Z.nx->c≠S6.nx->c≠X.nx->c≠Y3.nx+4->V.h.get c=Z.h.get c:=fun c hc a1 a2 a3=>(j2 c ar a1 a2 a3).trans (v0.2 c ar);have w18:=(kV _ ar ar ar ar).trans z18;have w4:=(kV _ ar ar ar ar).trans ((kZ6 S1.nx ar).trans c4);have w5:=(kV _ ar ar ar ar).trans ((kZ6 S2.nx ar).trans c5);have ld18:=jM (n:=2) w18 rfl;try refine am ?_
 refine bO (dy q18 ld18 ?_);refine cQ (b:=S1.nx) (cs':=[fv,.sl (Y3.nx+4) 0 g.bj.length g.bj.length false]) (aq q4) (by refine am ?_;exact aY _) w4 rfl rfl ?_;intro V4 v4 k4 d4;try refine am ?_
 refine cQ (b:=S2.nx) (cs':=[.int .i64 0]) (aq q5) (by simp only[↓aF,aG,rE,↓reduceIte,rA];rfl) ((v4.2 _ ar ar).trans w5) rfl rfl ?_;intro V5 v5 k5 d5;try refine am ?_
 refine aP ?_;have ld4:=jM (n:=2) ((v5.2 _ ar ar).trans d4) rfl;have ld5:=dI (p:=0) d5 rfl;have m46':=s46.1;have kF:∀c,c<V.nx->c≠S1.nx->c≠S2.nx->V5.h.get c=V.h.get c:=fun c hc a1 a2=>(v5.2 c ar a2).trans (v4.2 c hc a1);refine ef @dJ q4 q5 ld4 ld5 ?_;have hget:∀s,s<g.bj.length->(((List.range g.bj.length).map R).getD s [])=R s:=fun s hs=>by rw[Ad,Am,Bf hs];rfl
 have hFam:=(j8.moveX (Y':=V5) ar (kF _ j8.lt ar ar) fun c hc1 hc2=>kF c hc2 (by have:V0.nx+1<=c:=hc1;omega) (by have:V0.nx+1<=c:=hc1;omega)).is;refine⟨⟨ar,fun c hc=>(kF c ar ar ar).trans ((kV c (au sSZ.1) ar ar ar).trans (sSZ.2 c hc))⟩,_,_,_,rfl,.inr ⟨h0,first,hO,.inr ⟨rfl,?_,(List.range g.bj.length).map R,⟨by rw[Aj,Ay],fun s hs=>by rw[hget s hs];exact j9.r1 s hs,fun s a hs ha=>?_⟩,?_,hFam⟩⟩⟩
 ·rintro⟨s,a,b,a1,a2,a3,a4,a5⟩;have hsame:=aFk hup (fun x y ⟨a1,a2,m,hmL,e⟩=>by
   subst e;obtain⟨q,hq,rfl⟩:=Cm hmL;have:=hsm x a1 a2 q hq;rw[Ad,Ab hq] at this;exact this) a5
  have⟨r,y1,y2⟩:=hsame;have z1:=j7.f2 s a a2 a1 (.inl ⟨a1,Nat.lt_trans a3 a4⟩) r y1;have z2:=j7.f2 s b a2 a1 (.inl ⟨a1,a4⟩) r y2;rw[z1] at z2;cases z2;omega
 ·rw[hget s hs];exact j9.r4 s a hs (by rw[j9.r1 s hs];exact ha)
 ·refine eT hOw.is ar fun c hc=>?_;have hcl:=eU hOw.is hc;have hge:S3.nx<=c:=by
   obtain⟨b,rfl,e1,_⟩:=hOw;cases hc;exact e1
  rw[kF c ar ar ar,kV c ar ar ar ar,kZ6 c ar];exact s46.2 c hcl
end Go.Ev.Gl
