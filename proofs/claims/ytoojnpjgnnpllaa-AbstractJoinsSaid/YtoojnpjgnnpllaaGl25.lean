import Derived.Test.YtoojnpjgnnpllaaGl24
open Nat renaming reduceEqDiff → rE, reduceAdd → rA
set_option maxHeartbeats 16000000
set_option linter.unusedSimpArgs false
set_option linter.unusedVariables false
namespace Go.Ev.Gl
variable {fns:T eG}
theorem aGY:∀ {n:Nat} {f:Nat→Nat},(∀k,k<n→f k<n)→(∀k l,k<n→l<n→f k=f l→k=l)→∀y,y<n→∃k,k<n∧f k=y
 | 0,f,_,_,y,hy=>absurd hy (Bs _)
 | n+1,f,hf,hj,y,hy=>by
  have ih:=aGY (n:=n) (f:=fun k=>if f k=n then f n else f k) (fun k hk=>by
   have h1:=hf k (by omega);have h2:=hf n (by omega);show(if f k=n then f n else f k)<n;split
   ·rename_i e;have:f n≠n:=fun e2=>by have:=hj k n (by omega) (by omega) (by omega);omega
    omega
   ·omega) (fun k l hk hl e=>by
   have e:(if f k=n then f n else f k)=(if f l=n then f n else f l):=e;have a:=hj k l (by omega) (by omega);have b:=hj k n (by omega) (by omega);have c:=hj l n (by omega) (by omega);split at e
   ·split at e
    ·exact a (by omega)
    ·have:=c (by omega);omega
   ·split at e
    ·have:=b (by omega);omega
    ·exact a (by omega))
  by_cases e:y=f n
  ·exact⟨n,by omega,e.symm⟩
  by_cases hyn:y<n
  ·obtain⟨k,hk,h⟩:=ih y hyn;have h:(if f k=n then f n else f k)=y:=h;split at h
   ·exact absurd h.symm e
   ·exact⟨k,by omega,h⟩
  ·have hy':y=n:=by omega
   have:=hf n (by omega);obtain⟨k,hk,h⟩:=ih (f n) (by omega);have h:(if f k=n then f n else f k)=f n:=h;split at h
   ·rename_i e2;exact⟨k,by omega,by omega⟩
   ·have:=hj k n (by omega) (by omega) h;omega
section
variable {g:aR}{L:List (List Int)}{m:List Int}{first:List Int}{act act':List (List Int)}
def aCJ(g:aR)(m:List Int)(x:K2):K2:=(((imgI g m).getD x.1 0).toNat,(((imgA g m).getD x.1 []).getD x.2 0).toNat)
def ChE(g:aR)(L:List (List Int))(x y:K2):Prop:=x.1<g.infos.length∧x.2<cR g x.1∧∃m∈L,y=aCJ g m x
theorem oZ(G:dL g){s:Nat}(hs:s<g.infos.length):cR g s=(nodeAt g (fM g s)).next.length:=by
 unfold cR;rw[pW G hs];rfl
theorem aAj(G:dL g)(A:fH g m){s:Nat}(hs:s<g.infos.length):cR g s=cR g ((imgI g m).getD s 0).toNat∧(∀a,a<cR g s→(((imgA g m).getD s []).getD a 0).toNat<cR g s∧0≤((imgA g m).getD s []).getD a 0)∧∀a b,a<cR g s→b<cR g s→(((imgA g m).getD s []).getD a 0).toNat=(((imgA g m).getD s []).getD b 0).toNat→a=b:=by
 obtain⟨f1,f2,f3⟩:=G.fst _ hs;obtain⟨i1,i2⟩:=aAg G A hs;have hs':((imgI g m).getD s 0).toNat<g.infos.length:=by omega
 obtain⟨k1,k2,k3⟩:=G.fst _ hs';have e0:=oZ G hs;have e1:=oZ G hs';have hk2:(nodeAt g (fA m (fM g s))).kind=2:=by rw[← (A.A.like _ f1).1];exact f2
 have el:=aJ5 G k1 (A.M.at f1).2 k2 hk2 (by rw[k3,aEv hs];have:=aAg G A hs;rw[aEv hs] at this;omega);have ek:=(A.A.like _ f1).2.1;refine⟨by omega,fun a ha=>?_,fun a b ha hb e=>?_⟩
 ·rw[aDB hs (by omega)];have:=(aG0 A f1 (k:=a) (by omega)).1;have:=A.A.kid _ a f1 (by omega);omega
 ·rw[aDB hs (by omega),aDB hs (by omega)] at e;have ea:=(aG0 A f1 (k:=a) (by omega)).2;have eb:=(aG0 A f1 (k:=b) (by omega)).2;rw[e,eb] at ea;have ca:=G.kids _ f1 a (by omega);have cb:=G.kids _ f1 b (by omega);have:=A.inj (by omega) (by omega) ea.symm;exact(G.only f1 (by omega) f1 (by omega) (by omega)).2
def TrS(g:aR)(L:List (List Int))(s r:Nat):Prop:=cR g s=cR g r∧∃σ:Nat→Nat,(∀a,a<cR g s→σ a<cR g r∧iB (ChE g L) (s,a) (r,σ a))∧∀a b,a<cR g s→b<cR g s→σ a=σ b→a=b
open Classical in
theorem zN(G:dL g)(hL:∀m∈L,fH g m){s r:Nat}(h:rK (gJ g.infos.length (L.map (imgI g))) s r):TrS g L s r:=by
 induction h with
 | edge e=>
  rename_i s r;obtain⟨hs,q,hq,e⟩:=e;obtain⟨m,hm,rfl⟩:=Du.1 hq;obtain⟨h1,h2,h3⟩:=aAj G (hL m hm) hs;subst e;exact⟨h1,fun a=>(((imgA g m).getD s []).getD a 0).toNat,fun a ha=>⟨Ae (h2 a ha).1 (Et h1),.edge ⟨hs,ha,m,hm,rfl⟩⟩,h3⟩
 | refl s=>exact⟨rfl,fun a=>a,fun a ha=>⟨ha,.refl _⟩,fun _ _ _ _ e=>e⟩
 | symm _ ih=>
  rename_i s r _;obtain⟨h1,σ,h2,h3⟩:=ih;have hp:=aGY (n:=cR g s) (f:=σ) (fun k hk=>by have:=(h2 k hk).1;omega) h3;refine⟨h1.symm,fun b=>if h:b<cR g s then Classical.choose (hp b h) else 0,fun b hb=>?_,fun a b ha hb e=>?_⟩
  ·have hb':b<cR g s:=by omega
   obtain⟨c1,c2⟩:=Ea (hp b hb');show(if h:b<cR g s then Classical.choose (hp b h) else 0)<_∧iB _ _ (s,if h:b<cR g s then Classical.choose (hp b h) else 0);rw[dif_pos hb'];refine⟨c1,?_⟩;have:=(h2 _ c1).2;rw[c2] at this;exact .symm this
  ·have ha':a<cR g s:=by omega
   have hb':b<cR g s:=by omega
   have e:(if h:a<cR g s then Classical.choose (hp a h) else 0)=(if h:b<cR g s then Classical.choose (hp b h) else 0):=e;rw[dif_pos ha',dif_pos hb'] at e;have c2:=(Ea (hp a ha')).2;have d2:=(Ea (hp b hb')).2;rw[e,d2] at c2;exact c2.symm
 | trans _ _ i1 i2=>
  obtain⟨h1,σ,h2,h3⟩:=i1;obtain⟨k1,τ,k2,k3⟩:=i2;refine⟨h1.trans k1,fun a=>τ (σ a),fun a ha=>?_,fun a b ha hb e=>?_⟩
  ·obtain⟨c1,c2⟩:=h2 a ha;obtain⟨d1,d2⟩:=k2 (σ a) (by omega);exact⟨d1,.trans c2 d2⟩
  ·exact h3 a b ha hb (k3 _ _ (by have:=(h2 a ha).1;omega) (by have:=(h2 b hb).1;omega) e)
def Dup(g:aR)(L:List (List Int))(first:List Int):Prop:=∃s a b,s<g.infos.length∧first.getD s 0=(s:Int)∧a<b∧b<cR g s∧iB (ChE g L) (s,a) (s,b)
structure aBC(g:aR)(L:List (List Int))(first:List Int)(act:List (List Int)):Prop where
 len:act.length=g.infos.length
 row:∀s,s<g.infos.length→(act.getD s []).length=cR g s
 at_:∀s a,s<g.infos.length→a<cR g s→∃b:Nat,(act.getD s []).getD a 0=(b:Int)∧b<cR g (first.getD s 0).toNat∧iB (ChE g L) (s,a) ((first.getD s 0).toNat,b)
theorem aFp(hO:kT g.infos.length (gJ g.infos.length (L.map (imgI g))) first){s:Nat}(hs:s<g.infos.length):(first.getD s 0).toNat<g.infos.length∧first.getD (first.getD s 0).toNat 0=(((first.getD s 0).toNat:Nat):Int):=by
 have h1:=hO.le s hs;have h2:=aEB (f:=fun x=>first.getD x 0) hO.inv (hO.con s hs);have h2:first.getD s 0=first.getD (first.getD s 0).toNat 0:=h2;refine⟨by omega,?_⟩;rw[←h2];omega
theorem aHO(G:dL g)(hL:∀m∈L,fH g m)(hO:kT g.infos.length (gJ g.infos.length (L.map (imgI g))) first){s a b:Nat}(hs:s<g.infos.length)(hab:a<b)(hb:b<cR g s)(hc:iB (ChE g L) (s,a) (s,b)):Dup g L first:=by
 obtain⟨r1,r2⟩:=aFp hO hs;obtain⟨h1,σ,h2,h3⟩:=zN G hL (hO.con s hs);obtain⟨a1,a2⟩:=h2 a (by omega);obtain⟨b1,b2⟩:=h2 b hb;have hne:σ a≠σ b:=fun e=>by have:=h3 a b (by omega) hb e;omega
 have hcc:iB (ChE g L) ((first.getD s 0).toNat,σ a) ((first.getD s 0).toNat,σ b):=.trans (.symm a2) (.trans hc b2);rcases Nat.lt_or_gt_of_ne hne with h | h
 ·exact⟨_,σ a,σ b,r1,r2,h,b1,hcc⟩
 ·exact⟨_,σ b,σ a,r1,r2,h,a1,.symm hcc⟩
theorem aKO(hO:kT g.infos.length (gJ g.infos.length (L.map (imgI g))) first)(hD:¬Dup g L first)(h:aBC g L first act)(h':aBC g L first act'):act=act':=by
 have hrow:∀s,s<g.infos.length→act.getD s []=act'.getD s []:=fun s hs=>nF (by rw[h.row s hs,h'.row s hs]) fun a ha=>by
  rw[h.row s hs] at ha;obtain⟨b,e1,e2,e3⟩:=h.at_ s a hs ha;obtain⟨b',k1,k2,k3⟩:=h'.at_ s a hs ha;obtain⟨r1,r2⟩:=aFp hO hs;rw[e1,k1];rcases Dg b b' with hlt | rfl | hlt
  ·exact absurd ⟨_,b,b',r1,r2,hlt,k2,.trans (.symm e3) k3⟩ hD
  ·rfl
  ·exact absurd ⟨_,b',b,r1,r2,hlt,e2,.trans (.symm k3) e3⟩ hD
 refine Dp (by rw[h.len,h'.len]) fun s h1 h2=>?_;have:=hrow s (by rw[←h.len];exact h1);rw[Ad,Ab h1,Ad,Ab h2] at this;exact this
end
theorem wM{k:IntKind}{S:St}{v:AV}{l:List Int}{mb:Nat}{es:List (AV×AV)}(h:bK k S v l)(hm:S.h.get mb=some (.map es)):bD v≠some mb:=fun e=>by
 rcases h with⟨_,rfl | rfl⟩ | ⟨b,off,cap,o,cs,rfl,_,_,hc,_⟩
 ·cases e
 ·cases e
 ·cases e;unfold cN at hc;rw[hm] at hc;cases hc
theorem aLb{S X:St}{v:AV}{L:List (List Int)}{mb:Nat}{es:List (AV×AV)}(h:aH 1 iX S v L)(hm:S.h.get mb=some (.map es))(hn:S.nx≤X.nx)(hk:∀c,c<S.nx→c≠mb→X.h.get c=S.h.get c):aH 1 iX X v L:=by
 rcases h with h | ⟨b,off,cap,o,cs,rfl,h1,h2,h3,h4⟩
 ·exact .inl h
 ·have hb:b≠mb:=fun e=>by
   subst e;unfold cN at h3;rw[hm] at h3;cases h3
  refine .inr ⟨b,off,cap,o,cs,rfl,h1,Ae h2 hn,by unfold cN at h3 ⊢;rw[hk b h2 hb];exact h3,fun i a hi=>?_⟩;obtain⟨e,e1,e2,r,e3,e4⟩:=h4 i a hi;exact⟨e,e1,e2,r,e3,eO e4 hn fun c hc=>hk c (fE e4 hc) fun e=>wM e4 hm (by rw[←e];exact hc)⟩
theorem aNY{S X:St}{v:AV}{l:List Int}{mb:Nat}{es:List (AV×AV)}(h:bK .i64 S v l)(hm:S.h.get mb=some (.map es))(hn:S.nx≤X.nx)(hk:∀c,c<S.nx→c≠mb→X.h.get c=S.h.get c):bK .i64 X v l:=
 eO h hn fun c hc=>hk c (fE h hc) fun e=>wM h hm (by rw[←e];exact hc)
theorem mN.mp{S:St}{ub mb:Nat}{u:K2→Option K2}(h:mN S ub mb u):∃es,S.h.get mb=some (.map es):=by
 obtain⟨l,h1,_⟩:=h.m;exact⟨_,h1⟩
theorem aBd{h:Ev.T AB}{b p mb:Nat}{x:AV}{es:List (AV×AV)}(hl:eH (.ptr b p) false 1 h=some x)(hm:h.get mb=some (.map es)):b≠mb:=fun e=>by
 subst e;have hl:kL h b p=some x:=hl;unfold kL cN at hl;rw[hm] at hl;cases hl
theorem aIV{l:List Int}{i:Nat}(h:i<l.length):l[i]? =some (l.getD i 0):=by rw[Ad,Ab h];rfl
theorem iQ{S:St}{v:AV}{l:List Int}{i:Nat}(h:bK .i64 S v l)(hi:i<l.length):∃b q,eU (.slice 1) v i=some (.ptr b q)∧b<S.nx∧eH (.ptr b q) false 1 S.h=some (.int .i64 (l.getD i 0)):=by
 obtain⟨e,b,q,h1,h2,_,h3,_,h4⟩:=aH.at (toG h) (by decide) (aIV hi);have h3:e= [.int .i64 (l.getD i 0)]:=h3;subst h3;have h5:=h4 0 _ rfl;rw[Br] at h5;exact⟨b,q,h1,h2,h5⟩
def wZ(g:aR)(s a:Nat)(x:K2):Prop:=(x.1<s∧x.2<cR g x.1)∨(x.1=s∧x.2<a)
theorem aGc{g:aR}{s:Nat}{x:K2}(h:wZ g (s+1) 0 x):wZ g s (cR g s) x:=by
 unfold wZ at h ⊢;rcases h with⟨h1,h2⟩ | ⟨_,h2⟩
 ·rcases Cr x.1 s with h | h
  ·exact .inl ⟨h,h2⟩
  ·have e:x.1=s:=by omega
   exact .inr ⟨e,by rw[e] at h2;exact h2⟩
 ·omega
theorem aA1{g:aR}{s a:Nat}{x:K2}(h:wZ g s (a+1) x):wZ g s a x∨x=(s,a):=by
 unfold wZ at h ⊢;rcases h with h | ⟨h1,h2⟩
 ·exact .inl (.inl h)
 ·by_cases e:x.2=a
  ·obtain⟨x1,x2⟩:=x;simp only at h1 e;subst h1 e;exact .inr rfl
  ·exact .inl (.inr ⟨h1,by omega⟩)
def aO8(X:St)(ub mb:Nat)(g:aR)(L:List (List Int))(m:List Int)(u0:K2→Option K2)(s a:Nat)(Y:St):Prop:=X.nx<Y.nx∧(∀c,c<X.nx→c≠mb→Y.h.get c=X.h.get c)∧∃u,mN Y ub mb u∧UpK u (ChE g L)∧(∀x y,jB u0 x y→jB u x y)∧∀x,wZ g s a x→jB u x (aCJ g m x)
noncomputable def aMN:AC:=(.seq (.reg [mt 15 67]) (.reg [mt 16 68]))
noncomputable def aMI:AC:=qk3
theorem aNz{t1 t2:Nat}{F:Fr}{h:Ev.T AB}{a b:Nat}(e1:aB t1 F= .int .i64 (a:Int))(e2:aB t2 F= .int .i64 (b:Int)):fV (.build [.int .i64 0,.int .i64 0] [(0,1,.t t1),(1,1,.t t2)]) F h=some (jD (a,b)):=by
 show(aZ (eS _ (eB F [(0,1,.t t1),(1,1,.t t2)])) fun cs=>some (AV.agg cs))=_;simp only[eB,show(cL.t t1).val F= .int .i64 (a:Int) from e1,show(cL.t t2).val F= .int .i64 (b:Int) from e2,eS,cO,aK];rfl
theorem aHG{z:List AV}{ps:List (Nat×Nat×cL)}:dI (.build z ps)=false:=rfl
theorem aOe{S X:St}{A:bH}{g:aR}{L:List (List Int)}{m:List Int}{iv fv av:AV}{u0:K2→Option K2}{ub mb b9 b12 b14 bc r:Nat}{Q:Out→bH→St→Prop}(H:Has fns)(G:dL g)(AM:fH g m)(hm:m∈L)(hi:A.inr=false)(hf:aB r A.F= .fn 147 [] [.ptr bc 0])(hb:X.h.get bc=some (.cells [iv] false 0))(hbl:bc<X.nx)
  (hS:Same S X) (hsm:S.nx≤mb) (hv:aH 2 cA S iv g.infos) (hac:∀s,s<g.infos.length→0≤(infoAt g (s:Int)).actions∧(infoAt g (s:Int)).actions≤10000)
  (hU:mN X ub mb u0) (hup:UpK u0 (ChE g L)) (p9:aB 9 A.F= .ptr b9 0) (p12:aB 12 A.F= .ptr b12 0) (p14:aB 14 A.F= .ptr b14 0)
  (g9:X.h.get b9=some (.cells [.ptr ub 0] false 0)) (g12:X.h.get b12=some (.cells [fv] false 0)) (g14:X.h.get b14=some (.cells [av] false 0)) (l9:b9<X.nx) (l12:b12<X.nx) (l14:b14<X.nx) (n9:b9≠mb) (n12:b12≠mb) (n14:b14≠mb)
  (hI:bK .i64 X fv (imgI g m)) (hA:aH 1 iX X av (imgA g m))
  (hQ:∀Y,aO8 X ub mb g L m u0 g.infos.length 0 Y→Q .normal A Y):iH fns (.rng (.t r) [67,68] aMN aMI) A X Q:=by
 obtain⟨es,hes⟩:=hU.mp;have hNI:=G.ni;have hmx:=hU.lm;refine aBq (S:=S) (R:=fun _=>False) (J:=aO8 X ub mb g L m u0) H hi hf hv (by omega) hac hb hbl (fun s a Y h=>⟨⟨by have:=hS.1;have:=h.1;omega,fun c hc=>by rw[h.2.1 c (Ae hc hS.1) (by omega)];exact hS.2 c hc⟩,h.1⟩) (fun s a Y Y' h hn hk=>?_) (fun Y Y' h=>absurd h id) (fun Y hn hk=>?_) (fun s Y hs h=>⟨h.1,h.2.1,by
   obtain⟨u,h1,h2,h3,h4⟩:=h.2.2;exact⟨u,h1,h2,h3,fun x hx=>h4 x (aGc hx)⟩⟩) (fun s a Y hs ha h=>?_) hQ (fun Y h=>absurd h id)
 ·obtain⟨h1,h2,u,h3,h4,h5,h6⟩:=h;have:=h3.lu;have:=h3.lm;have hux:=hU.lu;exact⟨by omega,fun c hc hcm=>(hk c (by omega) (by omega)).trans (h2 c hc hcm),u,h3.off2 hn (hk _ h3.lu (by omega)) (hk _ h3.lm (by omega)),h4,h5,h6⟩
 ·exact⟨hn,fun c hc _=>hk c hc,u0,hU.off (Nat.le_of_lt hn) hk,hup,fun _ _ h=>h,fun x hx=>by unfold wZ at hx;omega⟩
 ·unfold aMN;refine bQ ?_;simp only[↓sU,sD,rE,↓reduceIte,rA];refine aJ ?_;simp only[↓sU,sD,rE,↓reduceIte,rA];intro bl;obtain⟨h1,h2,u,h3,h4,h5,h6⟩:=h;generalize hY':(⟨Y.h.set X.nx bl,Y.nx⟩:St)=Y';have nY:Y'.nx=Y.nx:=by rw[←hY']
  have kY0:∀c,c≠X.nx→Y'.h.get c=Y.h.get c:=fun c hc=>by rw[←hY'];simp only;rw[T.get_set,if_neg hc]
  have hbl':Y'.h.get X.nx=bl:=by rw[←hY'];simp only;rw[T.get_set,if_pos rfl]
  have kY:∀c,c<X.nx→c≠mb→Y'.h.get c=X.h.get c:=fun c hc hcm=>(kY0 c (by omega)).trans (h2 c hc hcm);have hux:=hU.lu;have hU':mN Y' ub mb u:=h3.off2 (by omega) (kY0 _ (by omega)) (kY0 _ (by omega));obtain⟨es',hes'⟩:=hU'.mp;have hIY:=aNY hI hes (by omega) kY;have hAY:=aLb hA hes (by omega) kY;obtain⟨i1,i2⟩:=aAg G AM hs;obtain⟨k1,k2,k3⟩:=aAj G AM hs;have hlI:(imgI g m).length=g.infos.length:=by simp [imgI]
  have hlA:(imgA g m).length=g.infos.length:=by simp [imgA]
  have hlR:((imgA g m).getD s []).length=cR g s:=by rw[aE3 hs,Aj,Bk,oZ G hs]
  obtain⟨xb,xq,xi,xlt,xld⟩:=iQ hIY (show s<(imgI g m).length by omega);rw[show(imgI g m).getD s 0=(((imgI g m).getD s 0).toNat:Int) by omega] at xld;obtain⟨_,yb,yq,yi,ylt,_,⟨ra,rfl,hra⟩,_,yld⟩:=aH.at hAY (by decide) (zY (show s<(imgA g m).length by omega));have yld:=yld 0 _ rfl;rw[Br] at yld;obtain⟨zb,zq,zi,zlt,zld⟩:=iQ hra (show a<((imgA g m).getD s []).length by omega);have hk2:=(k2 a ha).2;rw[show((imgA g m).getD s []).getD a 0=((((imgA g m).getD s []).getD a 0).toNat:Int) by omega] at zld;have nx:=aBd xld hes';have ny:=aBd yld hes';have nz:=aBd zld hes';have d9:=eE (p:=0) ((kY _ l9 n9).trans g9) rfl;have d12:=eE (p:=0) ((kY _ l12 n12).trans g12) rfl;have d14:=eE (p:=0) ((kY _ l14 n14).trans g14) rfl;have sfv:=bK.self hIY;have sav:=aH.self hAY;have sra:=bK.self hra;have b9:b9<Y'.nx:=by omega
  have b12:b12<Y'.nx:=by omega
  have b14:b14<Y'.nx:=by omega
  have hb1:=fun(F:Fr) (h:Ev.T AB) (e1:aB 70 F= .int .i64 (s:Int)) (e2:aB 71 F= .int .i64 (a:Int))=>aNz (h:=h) e1 e2;have hb2:=fun(F:Fr) (h:Ev.T AB) (e1:aB 76 F= .int .i64 (((imgI g m).getD s 0).toNat:Int)) (e2:aB 83 F= .int .i64 ((((imgA g m).getD s []).getD a 0).toNat:Int))=>aNz (h:=h) e1 e2;unfold aMI;refine aL (jN (fun c=>c=mb) ?_);simp only[↓sU,sD,rE,↓reduceIte,rA,p9,p12,p14,d9,d12,d14,b9,b12,b14,n9,n12,n14,Al,sfv,sav,sra,aG,xi,xld,xlt,nx,yi,yld,ylt,ny,zi,zld,zlt,nz,hb1,hb2,aHG];refine yM rfl ?_;simp only[↓sU,sD,rE,↓reduceIte,rA];have hE:ChE g L (s,a) (aCJ g m (s,a)):=⟨hs,ha,m,hm,rfl⟩;refine aX (aHE (a:=(s,a)) (b:=aCJ g m (s,a)) H (hU'.same (Same.nx Y' _)) h4 (.edge hE)) ?_;rintro rr V ⟨v1,u',v2,v3,v4,v5⟩;refine⟨⟨v1.1,fun c hc hcm=>v1.2 c (by simp only;omega) hcm⟩,?_⟩;have nV:Y'.nx≤V.nx:=Ak (Av _ _) v1.1;try simp only[↓sU,sD,rE,↓reduceIte,rA]
  have hXm:X.nx≠mb:=by omega
  have hXY:X.nx<Y'.nx:=by omega
  refine⟨(v1.2 _ (by simp only;omega) hXm).trans hbl',by omega,.inl ⟨by show X.nx<V.nx;omega,fun c hc hcm=>(v1.2 c (by simp only;omega) hcm).trans (kY c hc hcm),u',v2,v3,fun x y h=>v4 _ _ (h5 _ _ h),fun x hx=>?_⟩⟩;rcases aA1 hx with hx | rfl
  ·exact v4 _ _ (h6 x hx)
  ·exact v5
def aPy(b2 b4 b5 b7 b9:Nat)(F:Fr):Prop:=aB 2 F= .ptr b2 0∧aB 4 F= .ptr b4 0∧aB 5 F= .ptr b5 0∧aB 7 F= .ptr b7 0∧aB 9 F= .ptr b9 0
def aNH(X0:St)(ub mb b2 b4 b5 b7 b9:Nat)(mv:AV)(g:aR)(L:List (List Int))(k:Nat)(A:bH)(X:St):Prop:=A.inr=false∧X0.nx≤X.nx∧(∀c,c<X0.nx→c≠mb→X.h.get c=X0.h.get c)∧∃ (j:Nat) (u:K2→Option K2),j+k=L.length∧mN X ub mb u∧UpK u (ChE g L)∧(∀x:K2,x.1<g.infos.length→x.2<cR g x.1→∀q,q<j→jB u x (aCJ g (L.getD q []) x))∧aPy b2 b4 b5 b7 b9 A.F∧aB 38 A.F=mv∧aB 39 A.F= .int .i64 (L.length:Int)∧aB 40 A.F= .int .i64 (j:Int)
theorem aNO{S X0:St}{F0:Fr}{nv iv mv:AV}{g:aR}{L:List (List Int)}{ub mb b2 b4 b5 b7 b9:Nat}{u0:K2→Option K2}(H:Has fns)(hf:cP g=0)(hAll:∀m∈L,fH g m)(hL:L.length≤16)(hS:Same S X0)(hn:aH 6 bP S nv g.nodes)(hi:aH 2 cA S iv g.infos)(hm:aH 1 iX S mv L)(hsm:S.nx≤mb)
  (hU:mN X0 ub mb u0) (hup:UpK u0 (ChE g L)) (l2:b2<X0.nx) (l9:b9<X0.nx) (n2:b2≠mb) (n9:b9≠mb) (g2:X0.h.get b2=some (.cells [.int .i64 g.players,nv,iv] false 0)) (g9:X0.h.get b9=some (.cells [.ptr ub 0] false 0))
  (hZ:aPy b2 b4 b5 b7 b9 F0) (p38:aB 38 F0=mv) (p39:aB 39 F0= .int .i64 (L.length:Int)) (p40:aB 40 F0= .int .i64 ((0:Nat):Int)):
  iH fns aPE ⟨F0,false⟩ X0 fun o A' X=>o= .normal∧aNH X0 ub mb b2 b4 b5 b7 b9 mv g L 0 A' X:=by
 have G:=iK hf;have hNI:=G.ni;have hac:∀s,s<g.infos.length→0≤(infoAt g (s:Int)).actions∧(infoAt g (s:Int)).actions≤10000:=fun s hs=>by
  obtain⟨f1,_,_⟩:=G.fst s hs;rw[pW G hs];have:=G.nxt _ f1;omega
 refine aL (bL (aNH X0 ub mb b2 b4 b5 b7 b9 mv g L) ?_ L.length _ _ ⟨rfl,Ah _,fun _ _ _=>rfl,0,u0,by omega,hU,hup,fun _ _ _ q hq=>by omega,hZ,p38,p39,p40⟩);have hU0:=hU;have hux:=hU.lu;have hmx:=hU.lm;clear hZ p38 p39 p40 hU hup;rintro k ⟨F,inr⟩ X ⟨q0,nX,kX,j,u,hjk,hU,hup,hd,⟨p2,p4,p5,p7,p9⟩,p38,p39,p40⟩;simp only at q0 p2 p4 p5 p7 p9 p38 p39 p40;subst q0;have sX:Same S X:=⟨Ak hS.1 nX,fun c hc=>by rw[kX c (Ae hc hS.1) (by omega)];exact hS.2 c hc⟩;refine bQ ?_;simp only[↓sU,sD,rE,↓reduceIte,rA,p39,p40];by_cases hlt:j<L.length;rotate_left
 ·refine aA (aN (by simp only[↓sU,sD,rE,↓reduceIte,rA,Aa (show ¬ (j:Int)<((L.length:Nat):Int) by omega)]) (bM ?_));simp only[↓sU,sD,rE,↓reduceIte,rA];obtain rfl:k=0:=by omega
  exact⟨rfl,nX,kX,j,u,hjk,hU,hup,hd,(by refine⟨?_,?_,?_,?_,?_⟩<;>simp only[↓sU,sD,rE,↓reduceIte,rA,p2,p4,p5,p7,p9]),by refine⟨?_,?_,?_⟩<;>simp only[↓sU,sD,rE,↓reduceIte,rA,p38,p39,p40]⟩
 refine aA (aO (by simp only[↓sU,sD,rE,↓reduceIte,rA,Ac (show(j:Int)<((L.length:Nat):Int) by omega)]) (aI ?_));try simp only[↓sU,sD,rE,↓reduceIte,rA]
 have w1:IntKind.i64.wrap ((j:Int)+1)=((j+1:Nat):Int):=by rw[wrap_i64 (by omega) (by omega)];omega
 obtain⟨xb,xq,a,xi,xs,xlt,xl⟩:=oN hm hlt;have xl:=xl X sX;have hmem:L.getD j []∈L:=by rw[Ad,Ab hlt];exact Bo hlt
 obtain⟨m,hme⟩:∃m,L.getD j []=m:=⟨_,rfl⟩;rw[hme] at xs hmem;have AM:=hAll m hmem;have gX2:=(kX _ l2 n2).trans g2;have gX9:=(kX _ l9 n9).trans g9;have lx2:b2<X.nx:=by omega
 have lx9:b9<X.nx:=by omega
 refine aA (aL (aA (aJ ?_)));simp only[↓sU,sD,rE,↓reduceIte,rA,p38,p40,aG,xi,xl];refine bQ ?_;simp only[↓aF,aE,rE,↓reduceIte,rA,p2,fR gX2];refine bG ?_;simp only[↓aF,aE,rE,↓reduceIte,rA];refine aX (aGM H hf (aH.same (E:=bP) bF hn sX) (aH.same (E:=cA) bO hi sX) (xs.same sX) AM) ?_;rintro _ X1 ⟨x1,fv,rfl,hI1⟩;simp only[↓aF,aE,rE,↓reduceIte,rA,uW,vE];refine cH ?_;intro X2 x2 m2 c2;try simp only[↓aF,aE,rE,↓reduceIte,rA]
 refine dB (b:=X1.nx) (cs':=[fv]) (by simp only[↓aF,aE,rE,↓reduceIte,rA]) (by simp only[↓aF,aE,rE,↓reduceIte,rA];exact bK.cells hI1) c2 rfl rfl ?_;intro X3 x3 m3 c3;try simp only[↓aF,aE,rE,↓reduceIte,rA]
 have s13:Same X1 X3:=x3.same x2 (Ah _);have s3:Same X X3:=x1.trans s13;clear x2 x3 c2;try simp only[↓sU,sD,rE,↓reduceIte,rA]
 have d0:decide ((0:Int)≠0)=false:=rfl;refine gC ?_;simp only[↓sU,sD,rE,↓reduceIte,rA,d0,Eb];refine aN (by simp only[↓sU,sD,rE,↓reduceIte,rA];try first | rfl | trivial) (aI ?_);try simp only[↓sU,sD,rE,↓reduceIte,rA]
 have gX32:=(s3.2 _ lx2).trans gX2;have sS3:=sX.trans s3;refine bQ ?_;simp only[↓aF,aE,rE,↓reduceIte,rA,p2,fR gX32];refine bG ?_;simp only[↓aF,aE,rE,↓reduceIte,rA];refine aX (aDP H hf (aH.same (E:=bP) bF hn sS3) (aH.same (E:=cA) bO hi sS3) (xs.same sS3) AM) ?_;rintro _ X4 ⟨x4,av,rfl,hA4⟩;simp only[↓aF,aE,rE,↓reduceIte,rA,uW,vE];refine cH ?_;intro X5 x5 m5 c5;try simp only[↓aF,aE,rE,↓reduceIte,rA]
 refine dB (b:=X4.nx) (cs':=[av]) (by simp only[↓aF,aE,rE,↓reduceIte,rA]) (by simp only[↓aF,aE,rE,↓reduceIte,rA];exact aAU hA4) c5 rfl rfl ?_;intro X6 x6 m6 c6;try simp only[↓aF,aE,rE,↓reduceIte,rA]
 have s46:Same X4 X6:=x6.same x5 (Ah _);have s36:Same X3 X6:=x4.trans s46;clear x5 x6 c5;try simp only[↓sU,sD,rE,↓reduceIte,rA]
 refine gC ?_;simp only[↓sU,sD,rE,↓reduceIte,rA,d0,Eb];refine aN (by simp only[↓sU,sD,rE,↓reduceIte,rA];try first | rfl | trivial) (aI ?_);try simp only[↓sU,sD,rE,↓reduceIte,rA]
 have s06:Same X X6:=s3.trans s36;have gX62:=(s06.2 _ lx2).trans gX2;have hic:=aAU hi;refine bQ ?_;simp only[↓sU,sD,rE,↓reduceIte,rA,p2,aC,aD,gG gX62];refine bG ?_;simp only[↓sU,sD,rE,↓reduceIte,rA];refine aX (xG H hic) ?_;rintro _ X7 ⟨x7,bc,rfl,bc1,bc2,gbc⟩;try simp only[↓sU,sD,rE,↓reduceIte,rA]
 have s07:=s06.trans x7;have l12:X1.nx<X3.nx:=by omega
 have l14:X4.nx<X6.nx:=by omega
 have nx3:X.nx≤X1.nx:=x1.1;have nx4:X.nx≤X4.nx:=Ak s3.1 x4.1;have hmX:=hU.lm;have g12:=((s36.trans x7).2 _ l12).trans c3;have g14:=(x7.2 _ l14).trans c6;have n37:=(s36.trans x7).1;have n67:=x7.1;refine aL (aOe (S:=S) (X:=X7) (g:=g) (L:=L) (m:=m) (iv:=iv) (fv:=fv) (av:=av) (u0:=u) (ub:=ub) (mb:=mb) (b9:=b9) (b12:=X1.nx) (b14:=X4.nx) (bc:=bc) (r:=66) H G AM hmem rfl (by simp only[↓sU,sD,rE,↓reduceIte,rA]) gbc bc2 (sX.trans s07) hsm hi hac (hU.same s07) hup (by simp only[↓sU,sD,rE,↓reduceIte,rA,p9]) (by simp only[↓sU,sD,rE,↓reduceIte,rA]) (by simp only[↓sU,sD,rE,↓reduceIte,rA]) ((s07.2 _ lx9).trans gX9) g12 g14 (by omega) (by omega) (by omega) n9 (by omega) (by omega) (hI1.same ((s13.trans s36).trans x7)) (aH.same (E:=iX) firm_sl hA4 (s46.trans x7)) fun Y hJ=>?_);obtain⟨h1,h2,u',h3,h4,h5,h6⟩:=hJ;try simp only[↓sU,sD,rE,↓reduceIte,rA]
 refine aJ ?_;simp only[↓sU,sD,rE,↓reduceIte,rA,p40,w1];refine⟨k - 1,by omega,rfl,by omega,fun c hc hcm=>?_,j+1,u',by omega,h3,h4,fun x hx1 hx2 q hq=>?_,(by refine⟨?_,?_,?_,?_,?_⟩<;>simp only[↓sU,sD,rE,↓reduceIte,rA,p2,p4,p5,p7,p9]),by refine⟨?_,?_,?_⟩<;>simp only[↓sU,sD,rE,↓reduceIte,rA,p38,p39]⟩
 ·rw[h2 c (by have:=s07.1;omega) hcm,s07.2 c (by omega)];exact kX c hc hcm
 ·by_cases e:q=j
  ·subst e;rw[hme];exact h6 x (.inl ⟨hx1,hx2⟩)
  ·exact h5 _ _ (hd x hx1 hx2 q (by omega))
def evN(n:Nat):AV:=.int .i64 (n:Int)
theorem aKD{V:Type}{ev:V→AV}{h:Ev.T AB}{b:Nat}{f:K2→Option V}(hm:aBO ev h b f){k:K2}{z:AV}{m x:cL}{F:Fr}{v:V}(h1:m.val F= .map b)(h2:x.val F=jD k)(h3:f k=some v):fV (.lookup (.struct [(0,.int),(1,.int)]) z false m x) F h=some (ev v):=aFQ aIg hm h1 h2 h3
theorem aGV{g:aR}{L:List (List Int)}{first:List Int}(hO:kT g.infos.length (gJ g.infos.length (L.map (imgI g))) first){x y:K2}(h:iB (ChE g L) x y):first.getD x.1 0=first.getD y.1 0:=by
 induction h with
 | edge e=>
  obtain⟨h1,_,m,hm,rfl⟩:=e;exact hO.inv _ _ ⟨h1,_,List.mem_map_of_mem hm,rfl⟩
 | refl x=>rfl
 | symm _ ih=>exact ih.symm
 | trans _ _ i1 i2=>exact i1.trans i2
theorem aEu{g:aR}{s a:Nat}{x:K2}(h:wZ g s a x):wZ g s (a+1) x:=by
 unfold wZ at h ⊢;omega
structure aPI(g:aR)(first:List Int)(u0:K2→Option K2)(s a:Nat)(f:K2→Option Nat):Prop where
 f1:∀r b,f r=some b→∃s':Nat,first.getD s' 0=(s':Int)∧s'<g.infos.length∧wZ g s a (s',b)∧dP u0 (s',b) r
 f2:∀s' b:Nat,first.getD s' 0=(s':Int)→s'<g.infos.length→wZ g s a (s',b)→∀r,dP u0 (s',b) r→f r=some b
structure aQ1(g:aR)(L:List (List Int))(first:List Int)(s a:Nat)(R:Nat→List Int):Prop where
 r1:∀s',s'<s→(R s').length=cR g s'
 r2:(R s).length=a
 r3:∀s',s<s'→R s'= []
 r4:∀s' a',s'<g.infos.length→a'<(R s').length→∃b:Nat,(R s').getD a' 0=(b:Int)∧b<cR g (first.getD s' 0).toNat∧iB (ChE g L) (s',a') ((first.getD s' 0).toNat,b)
structure aNU(X:St)(ub mb fm ob:Nat)(g:aR)(L:List (List Int))(first:List Int)(u0:K2→Option K2)(s a:Nat)(Y:St):Prop where
 lt:X.nx<Y.nx
 fr:∀c,c<X.nx→c≠mb→c≠fm→c≠ob→Y.h.get c=X.h.get c
 un:∃u,mN Y ub mb u∧UpK u (ChE g L)∧∀x r,dP u0 x r→dP u x r
 fn:∃f,aBO evN Y.h fm f∧aPI g first u0 s a f
 fa:∃cs R,Fam ⟨X.h,X.nx+1⟩ Y ob g.infos.length cs R∧aQ1 g L first s a R
theorem Fam.moveX{S0 Y Y':St}{ob NI:Nat}{cs:List AV}{R:Nat→List Int}(h:Fam S0 Y ob NI cs R)(hn:Y.nx≤Y'.nx)(ho:Y'.h.get ob=Y.h.get ob)(hk:∀c,S0.nx≤c→c<Y.nx→Y'.h.get c=Y.h.get c):Fam S0 Y' ob NI cs R:=
 ⟨ho.trans h.ho,Ae h.lt hn,h.hl,fun j a hj=>(h.gr j a hj).move hn fun c hc=>hk c ((h.gr j a hj).blk hc).1 ((h.gr j a hj).blk hc).2.1,h.dj⟩
theorem aJM{sk:sC}{m k v:cL}{call:eQ}{F:Fr}{S:St}:zB (.mapUpd sk m k v) call F S=pD (m.val F) sk (k.val F) (v.val F) S:=rfl
theorem aLo{S0 Z:St}{F:Fr}{inr:Bool}{ob fm b17 b18 b21 NI s:Nat}{fv:AV}{cs:List AV}{R:Nat→List Int}{f:K2→Option Nat}{r:K2}{w:Nat}{Q:Out→bH→St→Prop}(hF:Fam S0 Z ob NI cs R)(hs:s<NI)(hNI:NI≤1000)(hR:(R s).length≤20000)(hS0:S0.nx≤Z.nx)(hob:ob<S0.nx)
  (p17:aB 17 F= .ptr b17 0) (p18:aB 18 F= .ptr b18 0) (p19:aB 19 F= .int .i64 (s:Int)) (p21:aB 21 F= .ptr b21 0)
  (g17:Z.h.get b17=some (.cells [.map fm] false 0)) (g18:Z.h.get b18=some (.cells [fv,.sl ob 0 NI NI false] false 0)) (g21:wV Z.h b21 r) (hm:aBO evN Z.h fm f) (hfr:f r=some w) (l17:b17<Z.nx) (l18:b18<Z.nx) (l21:b21<Z.nx) (lfm:fm<Z.nx)
  (hQ:∀F' V cs',Z.nx≤V.nx→(∀c,c<Z.nx→c≠ob→c<S0.nx→V.h.get c=Z.h.get c)→Fam S0 V ob NI cs' (fun j=>if j=s then R s++ [(w:Int)] else R j)→Q .normal ⟨F',inr⟩ V):
  iH fns (.drw (apP++apX)) ⟨F,inr⟩ Z Q:=by
 have hlt:s<cs.length:=by rw[hF.hl];exact hs
 obtain⟨rv,hrv⟩:∃rv,cs[s]? =some rv:=⟨_,Ab hlt⟩;have hG:=hF.gr s rv hrv;have hoff:∀ {c cs' sz},Z.h.get c=some (.cells cs' false sz)→bD rv≠some c:=fun h=>hG.off h;obtain⟨lm,hlm,hlf⟩:=id hm;have nfm:bD rv≠some fm:=fun e=>by
  have:=(hG.blk e).2.2;rw[hlm] at this;cases this
 have n17:=hoff g17;have n18:=hoff g18;have n21:=hoff g21;have nob:=hoff hF.ho;have d17:=eE (p:=0) g17 rfl;have d18:=aH8 g18;have d21:=kH g21;have dob:=eE hF.ho hrv;have hia:=dT (b:=ob) (o:=false) hs;have srv:=hG.self;have lob:=hF.lt;have hlk1:∀F':Fr,aB 129 F'= .map fm→aB 130 F'=jD r→fV (.lookup (.struct [(0,.int),(1,.int)]) (.int .i64 0) false (.t 129) (.t 130)) F' Z.h=some (.int .i64 (w:Int)):=fun F' a b=>aKD hm a b hfr;have hol1:∀F':Fr,aB 129 F'= .map fm→aAr (fun c=>bD rv=some c) Z.nx (.lookup (.struct [(0,.int),(1,.int)]) (.int .i64 0) false (.t 129) (.t 130)) F':=fun F' a=>vQ a lfm nfm;have il:dI (.lookup (.struct [(0,.int),(1,.int)]) (.int .i64 0) false (.t 129) (.t 130))=true:=rfl;have he1:=fun(F:Fr) (id:Nat) (h:aB 131 F= .int .i64 (w:Int))=>mH (t:=3) (z:=.int .i64 0) (x:=.t 131) (F:=F) (id:=id) (k:=.i64) (n:=(w:Int)) h;refine nQ (W:=fun c=>bD rv=some c) (pre:=apP) (suf:=apX) (K:=14) (R:=fun F' V ps=>ps= []∧aB 134 F'= .ptr ob s∧∃rv',aB 133 F'=rv'∧Z.nx≤V.nx∧(∀c,c<Z.nx→bD rv≠some c→V.h.get c=Z.h.get c)∧fP 1 S0 V rv' (R s++ [(w:Int)]).length (aP (R s++ [(w:Int)]))∧∃b',bD rv'=some b'∧Z.nx≤b'∧b'<V.nx) rfl rfl rfl (fun X1 x1 hh1 nn1=>?_) ?_
 ·unfold apP;simp only[↓sU,sD,rE,↓reduceIte,rA,p17,p18,p19,p21,aC,aU,aD,d17,d18,d21,dob,l17,l18,l21,lob,n17,n18,n21,nob,Al,wD,tM,srv,aG,hia,hlk1,hol1,il,he1];have hf1:cF 4088 [⟨11,Z.nx+11,.cells [.int .i64 (w:Int)] false 0⟩] X1.h=([],X1.h.set (Z.nx+11) (some (.cells [.int .i64 (w:Int)] false 0))):=dF (m:=4088) rfl;have nX1:Z.nx+15≤X1.nx:=by rw[nn1];exact Ah _
  obtain⟨U,hU⟩:∃U:St,U=⟨X1.h.set (Z.nx+11) (some (.cells [.int .i64 (w:Int)] false 0)),X1.nx⟩:=⟨_,rfl⟩;have nU:U.nx=X1.nx:=by rw[hU]
  have kU:∀c,c<Z.nx→U.h.get c=Z.h.get c:=fun c hc=>by rw[hU];simp only;rw[T.get_set,if_neg (by omega),hh1]
  have sUu:Same Z U:=⟨by omega,kU⟩;have gU:U.h.get (Z.nx+11)=some (.cells [.int .i64 (w:Int)] false 0):=by rw[hU];simp only;rw[T.get_set,if_pos rfl]
  have hGU:=hG.step sUu;have hSU:Same S0 ⟨U.h,U.nx⟩∨True:=.inr trivial;obtain⟨rv',V,eA,gA,bA,nA,rA⟩:=fP.push (bytes:=8) (S0:=⟨U.h,S0.nx⟩) (S:=U) (t:=Z.nx+11) (w:=(w:Int)) hGU ⟨by show S0.nx≤U.nx;omega,fun _ _=>rfl⟩ gU (by unfold room;omega) (by unfold room;omega);refine qF (r:=rv') (S1:=V) rfl ?_ ?_ ?_
  ·simp only[↓sU,sD,rE,↓reduceIte,rA];rw[hf1,←hU];exact eA
  ·rw[hf1,←hU];exact⟨by omega,fun c hc hcm=>rA c (by omega) hcm⟩
  rw[hf1];simp only[↓sU,sD,rE,↓reduceIte,rA,aG,hia];exact⟨rv',rfl,by omega,fun c hc hcm=>(rA c (by omega) hcm).trans (kU c hc),by exact gA,U.nx,bA,by omega,by omega⟩
 ·rintro F' V ps hs' ls ⟨rfl,p134,rv',p133,nV,kV,gV,b',hb1,hb2,hb3⟩ hlast hld;have m1:∀i,i<14→Nat.testBit 16383 i=true:=by decide
  have hoV:V.h.get ob=some (.cells cs false 0):=(kV _ lob nob).trans hF.ho;have hrc:rv'.cells=some [rv']:=fP.cells gV;unfold apX;refine jP (v:=.undef) (S1:=⟨V.h.set ob (some (.cells (cs.set s rv') false 0)),V.nx⟩) (hlast _ m1) (fun call=>?_) ?_
  ·rw[dN];simp only[fD,p134,p133,bE,hrc,aK];exact stc (cs:=cs) (p:=s) (S:=V) hoV hlt
  rw[fZ];refine⟨?_,?_⟩
  ·simp only[Bz];exact hld _ _ _ m1
  ·simp only[bE,eF];refine hQ _ _ (cs.set s rv') nV (fun c hc hco hc0=>?_) (hF.push hrv nV (by simp only;rw[T.get_set,if_pos rfl]) ?_ ⟨b',hb1,hb2,hb3⟩ fun c hc hco hcr=>?_)
   ·simp only;rw[T.get_set,if_neg hco];exact kV c hc fun e=>by have:=(hG.blk e).1;omega
   ·refine gV.move (Ah _) fun c hc=>?_;simp only;rw[T.get_set,if_neg (fun e=>by rw[hb1] at hc;cases hc;omega)]
   ·simp only;rw[T.get_set,if_neg hco];exact kV c hc hcr
noncomputable def aMR:AC:=(.seq (.reg [mt 19 97]) (.reg [mt 20 98]))
noncomputable def aMT:AC:=aO6
structure aQq(S X:St)(A:bH)(ub mb fm ob b4 b5 b7 b9 b17 b18:Nat)(fv:AV)(NI:Nat):Prop where
 p4:aB 4 A.F= .ptr b4 0
 p5:aB 5 A.F= .ptr b5 0
 p7:aB 7 A.F= .ptr b7 0
 p9:aB 9 A.F= .ptr b9 0
 p17:aB 17 A.F= .ptr b17 0
 p18:aB 18 A.F= .ptr b18 0
 g4:∃x y,X.h.get b4=some (.cells [x,y] false 0)
 g5:∃x,X.h.get b5=some (.cells [x] false 0)
 g7:X.h.get b7=some (.cells [fv] false 0)
 g9:X.h.get b9=some (.cells [.ptr ub 0] false 0)
 g17:X.h.get b17=some (.cells [.map fm] false 0)
 g18:X.h.get b18=some (.cells [fv,.sl ob 0 NI NI false] false 0)
 l:b4<X.nx∧b5<X.nx∧b7<X.nx∧b9<X.nx∧b17<X.nx∧b18<X.nx∧mb<X.nx∧fm<X.nx∧ob<X.nx
 s:S.nx≤b4∧S.nx≤b5∧S.nx≤mb∧S.nx≤fm∧S.nx≤ob
 nm:b4≠mb∧b5≠mb∧b7≠mb∧b9≠mb∧b17≠mb∧b18≠mb∧fm≠mb∧ob≠mb
 nf:b4≠fm∧b5≠fm∧b7≠fm∧b9≠fm∧b17≠fm∧b18≠fm∧ob≠fm∧ub≠fm
 no:b4≠ob∧b5≠ob∧b7≠ob∧b9≠ob∧b17≠ob∧b18≠ob∧ub≠ob
 n45:b4≠b5
def aLI(S:St)(g:aR)(L:List (List Int))(first:List Int)(b4 b5:Nat)(Y:St):Prop:=Same S Y∧Dup g L first∧b4<Y.nx∧b5<Y.nx∧Y.h.get b4=some (.cells [.nilsl,.nilsl] false 0)∧Y.h.get b5=some (.cells [.int .i64 13] false 0)
theorem aMo{S X:St}{A:bH}{g:aR}{L:List (List Int)}{first:List Int}{iv fv:AV}{u0:K2→Option K2}{f0:K2→Option Nat}{ub mb fm ob b4 b5 b7 b9 b17 b18 bc r:Nat}{cs0:List AV}{Q:Out→bH→St→Prop}(H:Has fns)(G:dL g)(hAll:∀m∈L,fH g m)(hO:kT g.infos.length (gJ g.infos.length (L.map (imgI g))) first)(hi:A.inr=false)(hf:aB r A.F= .fn 147 [] [.ptr bc 0])(hb:X.h.get bc=some (.cells [iv] false 0))(hbl:bc<X.nx)
  (hS:Same S X) (hv:aH 2 cA S iv g.infos) (hB:aQq S X A ub mb fm ob b4 b5 b7 b9 b17 b18 fv g.infos.length) (hac:∀s,s<g.infos.length→0≤(infoAt g (s:Int)).actions∧(infoAt g (s:Int)).actions≤10000)
  (hU:mN X ub mb u0) (hup:UpK u0 (ChE g L)) (hsm:∀x y,ChE g L x y→jB u0 x y) (hfv:bK .i64 X fv first) (hfo:bD fv≠some ob) (hm0:aBO evN X.h fm f0) (hf0:∀k,f0 k=none) (hrow0:X.h.get ob=some (.cells cs0 false 0)) (hcs0:cs0.length=g.infos.length) (hnil:∀ (j:Nat) (a:AV),cs0[j]? =some a→a=AV.nilsl)
  (hQ:∀Y,aNU X ub mb fm ob g L first u0 g.infos.length 0 Y→Q .normal A Y) (hQr:∀Y,aLI S g L first b4 b5 Y→Q .ret A Y):iH fns (.rng (.t r) [97,98] aMR aMT) A X Q:=by
 obtain⟨p4,p5,p7,p9,p17,p18,⟨x4,y4,g4⟩,⟨x5,g5⟩,g7,g9,g17,g18,⟨l4,l5,l7,l9,l17,l18,lmb,lfm,lob⟩,⟨s4,s5,smb,sfm,sob⟩,⟨m4,m5,m7,m9,m17,m18,mfm,mob⟩,⟨q4,q5,q7,q9,q17,q18,qob,qub⟩,⟨o4,o5,o7,o9,o17,o18,oub⟩,n45⟩:=hB;have hNI:=G.ni;obtain⟨es,hes⟩:=hU.mp;have hux:=hU.lu;obtain⟨lm00,hfm0X,_⟩:=id hm0;have hSX:=hS.1;refine aBq (S:=S) (R:=aLI S g L first b4 b5) (J:=aNU X ub mb fm ob g L first u0) H hi hf hv (by omega) hac hb hbl (fun s a Y h=>⟨⟨by have:=h.lt;omega,fun c hc=>by rw[h.fr c (by omega) (by omega) (by omega) (by omega)];exact hS.2 c hc⟩,h.lt⟩) (fun s a Y Y' h hn hk=>?_) (fun Y Y' h hn hk=>?_) (fun Y hn hk=>?_) (fun s Y hs h=>?_) (fun s a Y hs ha h=>?_) hQ hQr
 ·-- the iterator's own steps
  obtain⟨h1,h2,⟨u,h3,h4,h5⟩,⟨f,h6,h7⟩,cs,R,h8,h9⟩:=h;obtain⟨lm,e1,e2⟩:=h6;refine⟨by omega,fun c hc a1 a2 a3=>(hk c (by omega) (by omega)).trans (h2 c hc a1 a2 a3),⟨u,h3.off2 hn (hk _ h3.lu (by omega)) (hk _ h3.lm (by omega)),h4,h5⟩,⟨f,⟨lm,(hk _ (by omega) (by omega)).trans e1,e2⟩,h7⟩,cs,R,h8.moveX hn (hk _ h8.lt (by omega)) fun c hc1 hc2=>hk c hc2 (by have:X.nx+1≤c:=hc1;omega),h9⟩
 ·obtain⟨h1,h2,h3,h4,h5,h6⟩:=h;exact⟨⟨Ak h1.1 hn,fun c hc=>(hk c (Ae hc h1.1) (by omega)).trans (h1.2 c hc)⟩,h2,by omega,by omega,(hk _ h3 (by omega)).trans h5,(hk _ h4 (by omega)).trans h6⟩
 ·-- the start
  obtain⟨lm,e1,e2⟩:=hm0;refine⟨hn,fun c hc _ _ _=>hk c hc,⟨u0,hU.off (Nat.le_of_lt hn) hk,hup,fun _ _ h=>h⟩,⟨f0,⟨lm,(hk _ lfm).trans e1,e2⟩,⟨fun r b h=>(by rw[hf0] at h;cases h),fun s' b _ _ h=>(by unfold wZ at h;omega)⟩⟩,cs0,fun _=>[],⟨(hk _ lob).trans hrow0,by omega,hcs0,fun j a hj=>.inl ⟨hnil j a hj,rfl,rfl⟩,fun j k a b _ hj _ c hc=>by rw[hnil j a hj] at hc;cases hc⟩,⟨fun s' h=>by omega,rfl,fun _ _=>rfl,fun s' a' _ h=>by simp at h⟩⟩
 ·-- the next set
  obtain⟨h1,h2,h3,⟨f,h6,h7⟩,cs,R,h8,h9⟩:=h;refine⟨h1,h2,h3,⟨f,h6,⟨fun r b e=>?_,fun s' b e1 e2 e3=>h7.f2 s' b e1 e2 (aGc e3)⟩⟩,cs,R,h8,⟨fun s' h=>?_,h9.r3 _ (Cw s) ▸ rfl,fun s' h=>h9.r3 s' (by omega),h9.r4⟩⟩
  ·obtain⟨s',k1,k2,k3,k4⟩:=h7.f1 r b e;refine⟨s',k1,k2,?_,k4⟩;unfold wZ at k3 ⊢;simp only at k3 ⊢;rcases k3 with⟨a1,a2⟩ | ⟨a1,a2⟩
   ·exact .inl ⟨by omega,a2⟩
   ·exact .inl ⟨by omega,by rw[a1];exact a2⟩
  ·by_cases e:s'=s
   ·rw[e];exact h9.r2
   ·exact h9.r1 s' (by omega)
 unfold aMR;refine bQ ?_;simp only[↓sU,sD,rE,↓reduceIte,rA];refine aJ ?_;simp only[↓sU,sD,rE,↓reduceIte,rA];intro bl;obtain⟨h1,h2,⟨u,h3,h4,h5⟩,⟨f,h6,h7⟩,cs,R,h8,h9⟩:=h;generalize hY':(⟨Y.h.set X.nx bl,Y.nx⟩:St)=Y';have nY:Y'.nx=Y.nx:=by rw[←hY']
 have kY0:∀c,c≠X.nx→Y'.h.get c=Y.h.get c:=fun c hc=>by rw[←hY'];simp only;rw[T.get_set,if_neg hc]
 have hbl':Y'.h.get X.nx=bl:=by rw[←hY'];simp only;rw[T.get_set,if_pos rfl]
 clear hY';have kY:∀c,c<X.nx→c≠mb→c≠fm→c≠ob→Y'.h.get c=X.h.get c:=fun c hc a1 a2 a3=>(kY0 c (by omega)).trans (h2 c hc a1 a2 a3);have hU':mN Y' ub mb u:=h3.off2 (by omega) (kY0 _ (by omega)) (kY0 _ (by omega));have hF':Fam ⟨X.h,X.nx+1⟩ Y' ob g.infos.length cs R:=h8.moveX (by omega) (kY0 _ (by omega)) fun c hc1 hc2=>kY0 c (by have:X.nx+1≤c:=hc1;omega);have hM':aBO evN Y'.h fm f:=by
  obtain⟨lm,e1,e2⟩:=h6;exact⟨lm,(kY0 _ (by omega)).trans e1,e2⟩
 obtain⟨rt,hrt⟩:=hup.ex (s,a);have d9:=eE (p:=0) ((kY _ l9 m9 q9 o9).trans g9) rfl;have hb1:=fun(F:Fr) (h:Ev.T AB) (e1:aB 100 F= .int .i64 (s:Int)) (e2:aB 101 F= .int .i64 (a:Int))=>aNz (h:=h) e1 e2;unfold aMT;refine aL (aA (aJ ?_));simp only[↓aF,aE,rE,↓reduceIte,rA,p9,d9,hb1];refine bG ?_;simp only[↓aF,aE,rE,↓reduceIte,rA];refine aX (yH H hU' h4 (h5 _ _ hrt)) ?_;rintro _ V1 ⟨rfl,v1,u1,hU1,hup1,hro1⟩;try simp only[↓aF,aE,rE,↓reduceIte,rA]
 refine cH ?_;intro V2 v2 k2 c2;try simp only[↓aF,aE,rE,↓reduceIte,rA]
 refine dB (b:=V1.nx) (by simp only[↓aF,aE,rE,↓reduceIte,rA]) (by simp only[↓aF,aE,rE,↓reduceIte,rA];exact nR _) c2 rfl rfl ?_;intro V3 v3 k3 c3;try simp only[↓aF,aE,rE,↓reduceIte,rA]
 have s13:Same V1 V3:=v3.same v2 (Ah _);clear v2 v3 c2;have nV1:=v1.1;have nV3:=s13.1;have c3':wV V3.h V1.nx rt:=c3;have kV:∀c,c<Y'.nx→c≠mb→V3.h.get c=Y'.h.get c:=fun c hc hcm=>(s13.2 c (by omega)).trans (v1.2 c hc hcm);have kX:∀c,c<X.nx→c≠mb→c≠fm→c≠ob→V3.h.get c=X.h.get c:=fun c hc a1 a2 a3=>(kV c (by omega) a1).trans (kY c hc a1 a2 a3);have hU3:mN V3 ub mb u1:=hU1.same s13;have hF3:Fam ⟨X.h,X.nx+1⟩ V3 ob g.infos.length cs R:=hF'.moveX (by omega) (kV _ (by omega) mob) fun c hc1 hc2=>kV c hc2 (by have:X.nx+1≤c:=hc1;omega);have hM3:aBO evN V3.h fm f:=by
  obtain⟨lm,e1,e2⟩:=hM';exact⟨lm,(kV _ (by omega) mfm).trans e1,e2⟩
 obtain⟨lm0,hfm0,_⟩:=id hM3;have d7:=eE (p:=0) ((kX _ l7 m7 q7 o7).trans g7) rfl;have hfs:bK .i64 V3 fv first:=eO hfv (show X.nx≤V3.nx by omega) fun c hc=>kX c (fE hfv hc) (fun e=>wM hfv hes (by rw[←e];exact hc)) (fun e=>wM hfv hfm0X (by rw[←e];exact hc)) fun e=>hfo (by rw[←e];exact hc);obtain⟨qb,qq,h_i,h_l,h_ld⟩:=iQ hfs (i:=s) (by rw[hO.len];exact hs);have hle:=hO.le s hs;have g17V:=(kX _ l17 m17 q17 o17).trans g17;have d17:=eE (p:=0) g17V rfl;have g18V:=(kX _ l18 m18 q18 o18).trans g18;have d21:=kH c3';have aNI:=(hac s hs);have eacs:cR g s=(infoAt g (s:Int)).actions.toNat:=rfl;have kXn:V3.h.get X.nx=bl:=(kV _ (by omega) (by omega)).trans hbl';refine aA (aY (Q:=fun o A1 Z=>(o= .ret∧Z.h.get X.nx=bl∧Y.nx≤Z.nx∧aLI S g L first b4 b5 Z)∨(o= .normal∧A1.inr=true∧aB 17 A1.F= .ptr b17 0∧aB 18 A1.F= .ptr b18 0∧aB 19 A1.F= .int .i64 (s:Int)∧aB 21 A1.F= .ptr V1.nx 0∧Z.nx=V3.nx∧(∀c,c≠fm→Z.h.get c=V3.h.get c)∧∃ (w:Nat) (f':K2→Option Nat),aBO evN Z.h fm f'∧f' rt=some w∧aPI g first u0 s (a+1) f'∧w<cR g (first.getD s 0).toNat∧iB (ChE g L) (s,a) ((first.getD s 0).toNat,w))) ?_ ?_)
 ·refine bQ ?_;simp only[↓sU,sD,rE,↓reduceIte,rA,p7,d7,aG,h_i,h_ld];by_cases er:first.getD s 0=(s:Int);rotate_left
  ·-- not a representative
   refine aN (by simp only[↓sU,sD,rE,↓reduceIte,rA,Aa er]) (aI ?_);obtain⟨r1,r2⟩:=aFp hO hs;obtain⟨t1,σ,t2,t3⟩:=zN G hAll (hO.con s hs);obtain⟨σ1,σ2⟩:=t2 a ha;obtain⟨r',z1,z2⟩:=aD5 hup hsm σ2;obtain rfl:=z1.uni hrt;refine .inr ⟨rfl,rfl,by simp only[↓sU,sD,rE,↓reduceIte,rA,p17],by simp only[↓sU,sD,rE,↓reduceIte,rA,p18],by simp only[↓sU,sD,rE,↓reduceIte,rA],by simp only[↓sU,sD,rE,↓reduceIte,rA],rfl,fun _ _=>rfl,σ a,f,hM3,h7.f2 _ _ r2 r1 (.inl ⟨by omega,σ1⟩) _ z2,⟨fun r b e=>?_,fun s' b e1 e2 e3 r e4=>?_⟩,σ1,σ2⟩
   ·obtain⟨s',k1,k2,k3,k4⟩:=h7.f1 r b e;exact⟨s',k1,k2,aEu k3,k4⟩
   ·rcases aA1 e3 with e3 | e3
    ·exact h7.f2 s' b e1 e2 e3 r e4
    ·cases e3;exact absurd e1 er
  ·refine aO (by simp only[↓sU,sD,rE,↓reduceIte,rA,Ac er]) ?_;have d22:=fun(F:Fr) (h1:aB 111 F= .map fm) (h2:aB 112 F=jD rt)=>aIm (z:=.int .i64 0) (m:=.t 111) (x:=.t 112) (F:=F) hM3 h1 h2;refine gC ?_;simp only[↓sU,sD,rE,↓reduceIte,rA,p17,d17,d21,d22];cases efr:f rt with
   | some b=>
    simp only[↓sU,sD,rE,↓reduceIte,rA,uW,vE];refine bQ ?_;simp only[↓sU,sD,rE,↓reduceIte,rA];refine aO (by simp only[↓sU,sD,rE,↓reduceIte,rA];try first | rfl | trivial) ?_;have g4V:=(kX _ l4 m4 q4 o4).trans g4;have g5V:=(kX _ l5 m5 q5 o5).trans g5;have hbn:∀ (F:Fr) (h:Ev.T AB),fV (.build [.nilsl,.nilsl] []) F h=some (.agg [.nilsl,.nilsl]):=fun _ _=>rfl;refine bQ ?_;simp only[↓aF,aE,rE,↓reduceIte,rA,hbn];refine dB (b:=b4) (cs':=[.nilsl,.nilsl]) (by simp only[↓aF,aE,rE,↓reduceIte,rA,p4]) (by simp only[↓aF,aE,rE,↓reduceIte,rA];rfl) g4V rfl rfl ?_;intro V4 v4 k4 c4;try simp only[↓aF,aE,rE,↓reduceIte,rA]
    refine dB (b:=b5) (cs':=[.int .i64 13]) (by simp only[↓aF,aE,rE,↓reduceIte,rA,p5]) (by simp only[↓aF,aE,rE,↓reduceIte,rA];rfl) ((v4.2 _ (by omega) (Bq n45)).trans g5V) rfl rfl ?_;intro V5 v5 k5 c5;try simp only[↓aF,aE,rE,↓reduceIte,rA]
    refine aS ?_;obtain⟨s',z1,z2,z3,z4⟩:=h7.f1 rt b efr;have zc:iB (ChE g L) (s',b) (s,a):=jB.conn hup ⟨rt,z4,hrt⟩;have zf:=aGV hO zc;simp only at zf;obtain rfl:s'=s:=by omega
    unfold wZ at z3;simp only at z3;refine .inl ⟨rfl,?_,by omega,⟨by omega,fun c hc=>?_⟩,⟨s',b,a,hs,er,by omega,ha,zc⟩,by omega,by omega,(v5.2 _ (by omega) n45).trans c4,c5⟩
    ·exact(v5.2 _ (by omega) (by omega)).trans ((v4.2 _ (by omega) (by omega)).trans kXn)
    ·exact(v5.2 _ (by omega) (by omega)).trans ((v4.2 _ (by omega) (by omega)).trans ((kX c (by omega) (by omega) (by omega) (by omega)).trans (hS.2 c hc)))
   | none=>
    simp only[↓sU,sD,rE,↓reduceIte,rA,uW,vE];refine bQ ?_;simp only[↓sU,sD,rE,↓reduceIte,rA];refine aN (by simp only[↓sU,sD,rE,↓reduceIte,rA];try first | rfl | trivial) (aI ?_);try simp only[↓sU,sD,rE,↓reduceIte,rA]
    refine aJ ?_;simp only[↓aF,aE,rE,↓reduceIte,rA,p17,d17,d21];obtain⟨Z,hZ1,hZ2,hZ3,hZ4⟩:=aDH (S:=V3) hM3 rt a;refine fJ (v:=.undef) (S1:=Z) (fun call=>?_) ?_
    ·rw[aJM];simp only[↓aF,aE,rE,↓reduceIte,rA];exact hZ1
    simp only[↓aF,aE,rE,↓reduceIte,rA];refine .inr ⟨p17,p18,hZ2,hZ3,a,_,hZ4,by unfold nJ;rw[if_pos rfl],⟨fun r b e=>?_,fun s' b e1 e2 e3 r e4=>?_⟩,by rw[er];exact ha,by rw[er];exact .refl _⟩
    ·unfold nJ at e;split at e
     ·rename_i e0;cases e;subst e0;exact⟨s,er,hs,.inr ⟨rfl,Cw _⟩,hrt⟩
     ·obtain⟨s',k1,k2,k3,k4⟩:=h7.f1 r b e;exact⟨s',k1,k2,aEu k3,k4⟩
    ·unfold nJ;rcases aA1 e3 with e3 | e3
     ·have:=h7.f2 s' b e1 e2 e3 r e4;rw[if_neg (fun e0=>by rw[e0,efr] at this;cases this)];exact this
     ·cases e3;rw[if_pos (e4.uni hrt)]
 ·rintro o ⟨F,inr⟩ Z hZ;rcases hZ with⟨rfl,z1,z2,z3⟩ | ⟨rfl,e1,z17,z18,z19,z21,nZ,kZ,w,f',hmZ,hw,hS',hw2,hcw⟩
  ·exact⟨z1,z2,.inr ⟨rfl,z3⟩⟩
  simp only at e1 z17 z18 z19 z21;subst e1;have hlenR:(R s).length=a:=h9.r2;have hFZ:Fam ⟨X.h,X.nx+1⟩ Z ob g.infos.length cs R:=hF3.moveX (by omega) (kZ _ qob) fun c hc1 hc2=>kZ c (by have:X.nx+1≤c:=hc1;omega);refine aLo hFZ hs (by omega) (by omega) (by show X.nx+1≤Z.nx;omega) (by show ob<X.nx+1;omega) z17 z18 z19 z21 ((kZ _ q17).trans g17V) ((kZ _ q18).trans g18V) ((kZ _ (by omega)).trans c3') hmZ hw (by omega) (by omega) (by omega) (by omega) fun F' V cs' hn hk hFam=>?_;have hk1:∀c,c<X.nx+1→c≠ob→c≠fm→c≠mb→V.h.get c=Y'.h.get c:=fun c hc a1 a2 a3=>(hk c (by omega) a1 hc).trans ((kZ c a2).trans (kV c (by omega) a3));refine⟨(hk1 _ (by omega) (by omega) (by omega) (by omega)).trans hbl',by omega,.inl ⟨rfl,⟨by omega,fun c hc a1 a2 a3=>(hk1 c (by omega) a3 a2 a1).trans (kY c hc a1 a2 a3),⟨u1,?_,hup1,fun x r hxr=>hro1 _ _ (h5 x r hxr)⟩,⟨f',?_,hS'⟩,cs',_,hFam,?_⟩⟩⟩
  ·have e1:V.h.get ub=V3.h.get ub:=(hk _ (by omega) oub (show ub<X.nx+1 by omega)).trans (kZ _ qub);have e2:V.h.get mb=V3.h.get mb:=(hk _ (by omega) (Bq mob) (show mb<X.nx+1 by omega)).trans (kZ _ (Bq mfm));exact hU3.off2 (by omega) e1 e2
  ·obtain⟨lm,y1,y2⟩:=hmZ;exact⟨lm,(hk _ (by omega) (Bq qob) (show fm<X.nx+1 by omega)).trans y1,y2⟩
  ·refine⟨fun s' h=>by rw[if_neg (by omega)];exact h9.r1 s' h,by rw[if_pos rfl,Am,hlenR,Bi],fun s' h=>by rw[if_neg (by omega)];exact h9.r3 s' h,fun s' a' h1 h2=>?_⟩;by_cases e:s'=s
   ·subst e;rw[if_pos rfl] at h2 ⊢;by_cases e2:a'<a
    ·obtain⟨b,y1,y2⟩:=h9.r4 s' a' h1 (by omega);refine⟨b,?_,y2⟩;rw[Ad,Bg (by omega),←Ad];exact y1
    ·rw[Am,Bi] at h2;obtain rfl:a'=(R s').length:=by omega
     refine⟨w,?_,hw2,by rw[hlenR];exact hcw⟩;rw[Ad,Bd (Ah _),Dw];rfl
   ·rw[if_neg e] at h2 ⊢;exact h9.r4 s' a' h1 h2
def aQQ(g:aR)(L:List (List Int))(S':St)(fv av:AV)(e:Int):Prop:=(jI g L≠0∧e=jI g L∧fv= .nilsl∧av= .nilsl)∨(jI g L=0∧∃first,kT g.infos.length (gJ g.infos.length (L.map (imgI g))) first∧((e=13∧Dup g L first∧fv= .nilsl∧av= .nilsl)∨(e=0∧¬Dup g L first∧∃act,aBC g L first act∧bK .i64 S' fv first∧aH 1 iX S' av act)))
theorem aLB{b q n m:Nat}{bb:Bool}{t1 t2:Nat}{F:Fr}{h:Ev.T AB}{fv:AV}(h1:aB t1 F=fv)(hc:fv.cells=some [fv])(h2:aB t2 F= .sl b q n m bb):fV (.build [.nilsl,.nilsl] [(0,1,.t t1),(1,1,.t t2)]) F h=some (.agg [fv,.sl b q n m bb]):=aEg h1 h2 hc rfl
theorem aGI{S:St}{nv iv mv:AV}{g:aR}{L:List (List Int)}(H:Has fns)(hn:aH 6 bP S nv g.nodes)(hi:aH 2 cA S iv g.infos)(hln:g.nodes.length≤100000)(hm:aH 1 iX S mv L):
  gH fns (.fn 96 [] []) [.agg [.int .i64 g.players,nv,iv],mv] S fun r S'=>Same S S'∧∃fv av e,r= .tup [.agg [fv,av],.int .i64 e]∧aQQ g L S' fv av e:=by
 refine cI H.f96 (by simp) ?_;simp only[↓aF,aE,rE,↓reduceIte,rA];refine bQ ?_;refine cM (by simp only[↓aF,aE,rE,↓reduceIte,rA];exact bB _) ?_;intro S1 s1 n1 g1;simp only[↓aF,aE,rE,↓reduceIte,rA];refine cH ?_;intro S2 s2 n2 g2;try simp only[↓aF,aE,rE,↓reduceIte,rA]
 refine cH ?_;intro S3 s3 n3 g3;try simp only[↓aF,aE,rE,↓reduceIte,rA]
 have hbn:∀ (F:Fr) (h:Ev.T AB),fV (.build [.nilsl,.nilsl] []) F h=some (.agg [.nilsl,.nilsl]):=fun _ _=>rfl;have s03:=s1.trans (s2.trans s3);have hi3:=aH.same (E:=cA) bO hi s03;have hm3:=aH.same (E:=iX) firm_sl hm s03;refine bQ ?_;simp only[↓aF,aE,rE,↓reduceIte,rA,fR ((s3.2 _ (by omega)).trans ((s2.2 _ (by omega)).trans g1))];refine bG ?_;simp only[↓aF,aE,rE,↓reduceIte,rA];refine aX (aFc H (aH.same (E:=bP) bF hn s03) hi3 hln hm3) ?_;rintro _ S4 ⟨s4,xv,fv,rfl,hbad,hgood⟩;simp only[↓aF,aE,rE,↓reduceIte,rA,uW,vE,ex2];refine cH ?_;intro S5 s5 n5 g5;try simp only[↓aF,aE,rE,↓reduceIte,rA]
 have hfc:fv.cells=some [fv]:=by
  by_cases h0:jI g L=0
  ·obtain⟨_,_,_,hb,_⟩:=hgood h0;exact bK.cells hb.is
  ·rw[(hbad h0).2];rfl
 refine dB (b:=S4.nx) (cs':=[fv]) (by simp only[↓aF,aE,rE,↓reduceIte,rA]) (by simp only[↓aF,aE,rE,↓reduceIte,rA];exact hfc) g5 rfl rfl ?_;intro S6 s6 n6 g6;try simp only[↓aF,aE,rE,↓reduceIte,rA]
 have s46:Same S4 S6:=s6.same s5 (Ah _);have s36:=s4.trans s46;have s06:=s03.trans s36;have m3:=s36.1;have m4:=s4.1;have c2:S6.h.get S.nx=some (.cells [.int .i64 g.players,nv,iv] false 0):=(s36.2 _ (by omega)).trans ((s3.2 _ (by omega)).trans ((s2.2 _ (by omega)).trans g1));have c4:S6.h.get S1.nx=some (.cells [.nilsl,.nilsl] false 0):=(s36.2 _ (by omega)).trans ((s3.2 _ (by omega)).trans g2);have c5:S6.h.get S2.nx=some (.cells [.int .i64 0] false 0):=(s36.2 _ (by omega)).trans g3;try simp only[↓aF,aE,rE,↓reduceIte,rA]
 refine gC ?_;simp only[↓sU,sD,rE,↓reduceIte,rA];by_cases h0:jI g L=0;rotate_left
 ·refine aO (by simp only[↓sU,sD,rE,↓reduceIte,rA,Ac (show jI g L≠0 from h0)]) ?_;refine bQ ?_;simp only[↓aF,aE,rE,↓reduceIte,rA,hbn];refine dB (b:=S1.nx) (cs':=[.nilsl,.nilsl]) (by simp only[↓aF,aE,rE,↓reduceIte,rA]) (by simp only[↓aF,aE,rE,↓reduceIte,rA];rfl) c4 rfl rfl ?_;intro V4 v4 k4 d4;try simp only[↓aF,aE,rE,↓reduceIte,rA]
  refine dB (b:=S2.nx) (cs':=[.int .i64 (jI g L)]) (by simp only[↓aF,aE,rE,↓reduceIte,rA]) (by simp only[↓aF,aE,rE,↓reduceIte,rA];rfl) ((v4.2 _ (by omega) (by omega)).trans c5) rfl rfl ?_;intro V5 v5 k5 d5;try simp only[↓aF,aE,rE,↓reduceIte,rA]
  refine aS ?_;have ld4:=iA (n:=2) ((v5.2 _ (by omega) (by omega)).trans d4) rfl;have ld5:=eE (p:=0) d5 rfl;simp only[↓aF,aE,rE,↓reduceIte,rA,dK,ld4,ld5];exact⟨⟨by omega,fun c hc=>(v5.2 c (by omega) (by omega)).trans ((v4.2 c (by omega) (by omega)).trans (s06.2 c hc))⟩,_,_,_,rfl,.inl ⟨h0,rfl,rfl,rfl⟩⟩
 rw[h0];refine aN (by simp only[↓sU,sD,rE,↓reduceIte,rA];try first | rfl | trivial) (aI ?_);try simp only[↓sU,sD,rE,↓reduceIte,rA]
 obtain⟨hf0,hL16,hims⟩:=sE h0;obtain⟨_,first,_,hOw,_,hO⟩:=hgood h0;have hAll:∀m∈L,fH g m:=fun m hm=>nI (nG hims m hm);have G:=iK hf0;have hNI:=G.ni;have hac:∀s,s<g.infos.length→0≤(infoAt g (s:Int)).actions∧(infoAt g (s:Int)).actions≤10000:=fun s hs=>by
  obtain⟨f1,_,_⟩:=G.fst s hs;rw[pW G hs];have:=G.nxt _ f1;omega
 refine bQ ?_;refine gM (v:=.map S6.nx) (bl:=.map []) rfl ?_;intro S7 s7 n7 g7;simp only[↓aF,aE,rE,↓reduceIte,rA];have hbm:∀ (F:Fr) (h:Ev.T AB),aB 35 F= .map S6.nx→fV (.build [.nilmap] [(0,1,.t 35)]) F h=some (.agg [.map S6.nx]):=fun F h e=>by
  show(aZ (eS _ (eB F [(0,1,.t 35)])) fun cs=>some (AV.agg cs))=_;simp only[eB,show(cL.t 35).val F= .map S6.nx from e,eS];rfl
 simp only[↓aF,aE,rE,↓reduceIte,rA,hbm];refine cM (cs:=[.map S6.nx]) (by simp only[↓aF,aE,rE,↓reduceIte,rA];rfl) ?_;intro S8 s8 n8 g8;try simp only[↓aF,aE,rE,↓reduceIte,rA]
 refine cH ?_;intro S9 s9 n9 g9;try simp only[↓aF,aE,rE,↓reduceIte,rA]
 refine dB (b:=S8.nx) (cs':=[.ptr S7.nx 0]) (by simp only[↓aF,aE,rE,↓reduceIte,rA]) (by simp only[↓aF,aE,rE,↓reduceIte,rA];rfl) g9 rfl rfl ?_;intro X0 x0 m0 g10;try simp only[↓aF,aE,rE,↓reduceIte,rA]
 have s8X:Same S8 X0:=x0.same s9 (Ah _);have s6X:Same S6 X0:=s7.trans (s8.trans s8X);have s0X:=s06.trans s6X;have nX0:X0.nx=S6.nx+3:=by omega
 have hU0:mN X0 S7.nx S6.nx (fun _=>none):=⟨(s8X.2 _ (by omega)).trans g8,⟨[],(s8X.2 _ (by omega)).trans ((s8.2 _ (by omega)).trans g7),fun _=>rfl⟩,by omega,by omega,by omega⟩;have hup0:UpK (fun _=>none) (ChE g L):=⟨⟨fun _=>0,fun _ _ h=>by cases h⟩,fun _ _ h=>by cases h⟩;refine aA (aY (Q:=fun o A' X=>o= .normal∧aNH X0 S7.nx S6.nx S.nx S1.nx S2.nx S4.nx S8.nx mv g L 0 A' X) (aA (aJ ?_)) ?_)
 ·simp only[↓sU,sD,rE,↓reduceIte,rA,hm.len,Ag];exact aNO (S:=S) H hf0 hAll hL16 s0X hn hi hm (by omega) hU0 hup0 (by omega) (by omega) (by omega) (by omega) ((s6X.2 _ (by omega)).trans c2) g10 (by refine⟨?_,?_,?_,?_,?_⟩<;>simp only[↓sU,sD,rE,↓reduceIte,rA]) (by simp only[↓sU,sD,rE,↓reduceIte,rA]) (by simp only[↓sU,sD,rE,↓reduceIte,rA]) (by simp only[↓sU,sD,rE,↓reduceIte,rA];try rfl)
 rintro o ⟨F,inr⟩ X ⟨rfl,q0,nX,kX,j,u,hjk,hU,hup,hsm,⟨p2,p4,p5,p7,p9⟩,_⟩;simp only at q0 p2 p4 p5 p7 p9;subst q0;obtain rfl:j=L.length:=by omega
 have sSX:Same S X:=⟨by have:=s0X.1;omega,fun c hc=>(kX c (by have:=s0X.1;omega) (by have:=s06.1;omega)).trans (s0X.2 c hc)⟩;refine bQ ?_;refine gM (v:=.map X.nx) (bl:=.map []) rfl ?_;intro Y1 y1 k1 e1;simp only[↓aF,aE,rE,↓reduceIte,rA];refine cH ?_;intro Y2 y2 k2 e2;try simp only[↓aF,aE,rE,↓reduceIte,rA]
 refine dB (b:=Y1.nx) (cs':=[.map X.nx]) (by simp only[↓aF,aE,rE,↓reduceIte,rA]) (by simp only[↓aF,aE,rE,↓reduceIte,rA];rfl) e2 rfl rfl ?_;intro Y3 y3 k3 e3;try simp only[↓aF,aE,rE,↓reduceIte,rA]
 have s13:Same Y1 Y3:=y3.same y2 (Ah _);have sXY:Same X Y3:=y1.trans s13;have nY:Y3.nx=X.nx+2:=by omega
 have fmY:Y3.h.get X.nx=some (.map []):=(s13.2 _ (by omega)).trans e1;have o0:=s06.1;have hk0:∀c,c<X0.nx→c≠S6.nx→Y3.h.get c=X0.h.get c:=fun c hc hm=>(sXY.2 c (by omega)).trans (kX c hc hm);have hk6:∀c,c<S6.nx→Y3.h.get c=S6.h.get c:=fun c hc=>(hk0 c (by omega) (by omega)).trans (s6X.2 c hc);have e7:Y3.h.get S4.nx=some (.cells [fv] false 0):=(hk6 _ (by omega)).trans g6;have e2':Y3.h.get S.nx=some (.cells [.int .i64 g.players,nv,iv] false 0):=(hk6 _ (by omega)).trans c2;have d7:=eE (p:=0) e7 rfl;have lb2:S.nx<Y3.nx:=by omega
 have lb7:S4.nx<Y3.nx:=by omega
 have same_fv:cC fv fv=true:=by
  obtain⟨b,e,_⟩:=id hOw;rw[e];simp only[↓sU,sD,rE,↓reduceIte,rA]
 have hmk:=fun F id (x:cL) (hx:fI (x.val F)=some g.infos.length)=>nK (t:=22) (s:=1) (bytes:=24) (z:=[AV.nilsl]) (l:=x) (c:=x) (F:=F) (id:=id) (n:=g.infos.length) hx hx (by unfold room;omega) (by unfold room;omega);refine aA (jN (fun _=>False) ?_);simp only[↓sU,sD,rE,↓reduceIte,rA,p7,p2,d7,aC,aU,aD,gG e2',lb2,lb7,same_fv,hi.len,Ag];have hB1:∀F h,aB 88 F=fv→aB 92 F= .sl (Y3.nx+4) 0 g.infos.length g.infos.length false→fV (.build [.nilsl,.nilsl] [(0,1,.t 88),(1,1,.t 92)]) F h=some (.agg [fv,.sl (Y3.nx+4) 0 g.infos.length g.infos.length false]):=fun F h a b=>aLB a hfc b;refine⟨not_false,⟨aH.self hi,not_false⟩,oI (n:=g.infos.length) (by simp only[↓sU,sD,rE,↓reduceIte,rA]) (by simp only[↓sU,sD,rE,↓reduceIte,rA]) (by unfold room;omega) (by unfold room;omega) ?_⟩;have ilb:dI (.build [.nilsl,.nilsl] [(0,1,.t 88),(1,1,.t 92)])=false:=rfl;have hal:∀F,uL (.alloc 146 [.nilsl,.nilsl]) F (Y3.nx+6)=some (.ptr (Y3.nx+6) 0,.cells [.nilsl,.nilsl] false 0):=fun _=>rfl;simp only[↓sU,sD,rE,↓reduceIte,rA,hB1,ilb,hal,nL];rw[repeatL_one];obtain⟨Z0,hZ0⟩:∃Z0:St,Z0=⟨((Y3.h.set (Y3.nx+6) (some (.cells [.nilsl,.nilsl] false 0))).set (Y3.nx+4) (some (.cells (List.replicate g.infos.length .nilsl) false 0))),Y3.nx+8⟩:=⟨_,rfl⟩;have hfl:cF 127 [⟨6,Y3.nx+6,.cells [.nilsl,.nilsl] false 0⟩,⟨4,Y3.nx+4,.cells (List.replicate g.infos.length .nilsl) false 0⟩] Y3.h=([],Z0.h):=by
  rw[hZ0];rw[eT (show Nat.testBit 127 6=true by decide),eT (show Nat.testBit 127 4=true by decide),bE]
 have b6:Z0.h.get (Y3.nx+6)=some (.cells [.nilsl,.nilsl] false 0):=by rw[hZ0];simp only;rw[T.get_set,if_neg (by omega),T.get_set,if_pos rfl]
 have b4':Z0.h.get (Y3.nx+4)=some (.cells (List.replicate g.infos.length .nilsl) false 0):=by rw[hZ0];simp only;rw[T.get_set,if_pos rfl]
 have bk:∀c,c<Y3.nx→Z0.h.get c=Y3.h.get c:=fun c hc=>by rw[hZ0];simp only;rw[T.get_set,if_neg (by omega),T.get_set,if_neg (by omega)]
 refine rG (S1:=⟨Z0.h.set (Y3.nx+6) (some (.cells [fv,.sl (Y3.nx+4) 0 g.infos.length g.infos.length false] false 0)),Y3.nx+8⟩) rfl ?_ ?_ ?_
 ·simp only[↓sU,sD,rE,↓reduceIte,rA];rw[hfl,bB,aK];exact kD (S:=⟨Z0.h,Y3.nx+8⟩) b6 rfl rfl
 ·refine⟨Ah _,fun c hc _=>?_⟩;simp only;rw[hfl,T.get_set,if_neg (by omega)]
 rw[hfl];simp only[↓sU,sD,rE,↓reduceIte,rA,bE];obtain⟨Z,hZ⟩:∃Z:St,Z=⟨Z0.h.set (Y3.nx+6) (some (.cells [fv,.sl (Y3.nx+4) 0 g.infos.length g.infos.length false] false 0)),Y3.nx+8⟩:=⟨_,rfl⟩;rw[←hZ];have nZ:Z.nx=Y3.nx+8:=by rw[hZ]
 have kZ:∀c,c<Y3.nx→Z.h.get c=Y3.h.get c:=fun c hc=>by rw[hZ];simp only;rw[T.get_set,if_neg (by omega)];exact bk c hc
 have z18:Z.h.get (Y3.nx+6)=some (.cells [fv,.sl (Y3.nx+4) 0 g.infos.length g.infos.length false] false 0):=by rw[hZ];simp only;rw[T.get_set,if_pos rfl]
 have zob:Z.h.get (Y3.nx+4)=some (.cells (List.replicate g.infos.length .nilsl) false 0):=by rw[hZ];simp only;rw[T.get_set,if_neg (by omega)];exact b4'
 clear hZ hZ0 hfl b6 b4' bk;have sYZ:Same Y3 Z:=⟨by omega,kZ⟩;have sXZ:=sXY.trans sYZ;have sSZ:=sSX.trans sXZ;have kZ6:∀c,c<S6.nx→Z.h.get c=S6.h.get c:=fun c hc=>(kZ c (by omega)).trans (hk6 c hc);refine aA (aY (Q:=fun o A' V=>(o= .normal∧∃V0,Same Z V0∧aNU V0 S7.nx S6.nx X.nx (Y3.nx+4) g L first u g.infos.length 0 V∧aB 18 A'.F= .ptr (Y3.nx+6) 0∧aB 4 A'.F= .ptr S1.nx 0∧aB 5 A'.F= .ptr S2.nx 0)∨(o= .ret∧aB 4 A'.F= .ptr S1.nx 0∧aB 5 A'.F= .ptr S2.nx 0∧aLI S g L first S1.nx S2.nx V)) (aA (aJ ?_)) ?_)
 ·simp only[↓sU,sD,rE,↓reduceIte,rA,p2,aC,aD,gG ((kZ _ lb2).trans e2')];refine bG ?_;simp only[↓sU,sD,rE,↓reduceIte,rA];refine aX (xG H (aAU hi)) ?_;rintro _ V0 ⟨v0,bc,rfl,bc1,bc2,gbc⟩;try simp only[↓sU,sD,rE,↓reduceIte,rA]
  have sSV:=sSZ.trans v0;have hfvV:bK .i64 V0 fv first:=hOw.is.same (s46.trans (Same.trans (⟨by omega,kZ6⟩:Same S6 Z) v0));have hfob:bD fv≠some (Y3.nx+4):=fun e=>by
   have:=fE hOw.is e;have:=s46.1;omega
  have m46:=s46.1;refine aL (aMo (S:=S) (X:=V0) (g:=g) (L:=L) (first:=first) (iv:=iv) (fv:=fv) (u0:=u) (f0:=fun _=>none) (ub:=S7.nx) (mb:=S6.nx) (fm:=X.nx) (ob:=Y3.nx+4) (b4:=S1.nx) (b5:=S2.nx) (b7:=S4.nx) (b9:=S8.nx) (b17:=Y1.nx) (b18:=Y3.nx+6) (bc:=bc) (r:=96) (cs0:=List.replicate g.infos.length .nilsl) H G hAll hO rfl (by simp only[↓sU,sD,rE,↓reduceIte,rA]) gbc bc2 sSV hi ?_ hac ((hU.same sXZ).same v0) hup ?_ hfvV hfob ⟨[],(v0.2 _ (by omega)).trans ((kZ _ (by omega)).trans fmY),fun _=>rfl⟩ (fun _=>rfl) ((v0.2 _ (by omega)).trans zob) (Ar ..) (fun j a hj=>?_) (fun V hJ=>?_) fun V hE=>?_)
  ·have kV:∀c,c<S6.nx→V0.h.get c=S6.h.get c:=fun c hc=>(v0.2 c (by omega)).trans (kZ6 c hc);have v01:=v0.1;have t1:=s06.1;exact⟨by simp only[↓sU,sD,rE,↓reduceIte,rA,p4],by simp only[↓sU,sD,rE,↓reduceIte,rA,p5],by simp only[↓sU,sD,rE,↓reduceIte,rA,p7],by simp only[↓sU,sD,rE,↓reduceIte,rA,p9],by simp only[↓sU,sD,rE,↓reduceIte,rA],by simp only[↓sU,sD,rE,↓reduceIte,rA],⟨_,_,(kV _ (by omega)).trans c4⟩,⟨_,(kV _ (by omega)).trans c5⟩,(kV _ (by omega)).trans g6,(v0.2 _ (by omega)).trans ((kZ _ (by omega)).trans ((hk0 _ (by omega) (by omega)).trans g10)),(v0.2 _ (by omega)).trans ((kZ _ (by omega)).trans e3),(v0.2 _ (by omega)).trans z18,by omega,by omega,by omega,by omega,by omega,by omega⟩
  ·rintro x y ⟨a1,a2,m,hmL,rfl⟩;obtain⟨q,hq,rfl⟩:=Cb hmL;have:=hsm x a1 a2 q hq;rw[Ad,Ab hq] at this;exact this
  ·rw[Cn] at hj;split at hj
   ·cases hj;rfl
   ·cases hj
  ·exact .inl ⟨rfl,V0,v0,hJ,by refine⟨?_,?_,?_⟩<;>simp only[↓sU,sD,rE,↓reduceIte,rA,p4,p5]⟩
  ·exact .inr ⟨rfl,by simp only[↓sU,sD,rE,↓reduceIte,rA,p4],by simp only[↓sU,sD,rE,↓reduceIte,rA,p5],hE⟩
 rintro o ⟨F',inr⟩ V hV;have m46:=s46.1;rcases hV with⟨rfl,V0,v0,hJ,q18,q4,q5⟩ | ⟨rfl,q4,q5,hE⟩
 rotate_left
 ·simp only at q4 q5;obtain⟨h1,h2,h3,h4,h5,h6⟩:=hE;have ld4:=iA (n:=2) h5 rfl;have ld5:=eE (p:=0) h6 rfl;simp only[↓aF,aE,rE,↓reduceIte,rA,dK,q4,q5,ld4,ld5];exact⟨h1,_,_,_,rfl,.inr ⟨h0,first,hO,.inl ⟨rfl,h2,rfl,rfl⟩⟩⟩
 simp only at q18 q4 q5;obtain⟨j1,j2,⟨u',j3,j4,j5⟩,⟨f,j6,j7⟩,cs,R,j8,j9⟩:=hJ;have v01:=v0.1;have t1:=s06.1;have sSV:=sSZ.trans v0;have kV:∀c,c<Z.nx→c≠S6.nx→c≠X.nx→c≠Y3.nx+4→V.h.get c=Z.h.get c:=fun c hc a1 a2 a3=>(j2 c (by omega) a1 a2 a3).trans (v0.2 c (by omega));have w18:=(kV _ (by omega) (by omega) (by omega) (by omega)).trans z18;have w4:=(kV _ (by omega) (by omega) (by omega) (by omega)).trans ((kZ6 S1.nx (by omega)).trans c4);have w5:=(kV _ (by omega) (by omega) (by omega) (by omega)).trans ((kZ6 S2.nx (by omega)).trans c5);have ld18:=iA (n:=2) w18 rfl;try simp only[↓aF,aE,rE,↓reduceIte,rA]
 refine bQ ?_;simp only[↓aF,aE,rE,↓reduceIte,rA,q18,ld18];refine dB (b:=S1.nx) (cs':=[fv,.sl (Y3.nx+4) 0 g.infos.length g.infos.length false]) (by simp only[↓aF,aE,rE,↓reduceIte,rA,q4]) (by simp only[↓aF,aE,rE,↓reduceIte,rA];exact bB _) w4 rfl rfl ?_;intro V4 v4 k4 d4;try simp only[↓aF,aE,rE,↓reduceIte,rA]
 refine dB (b:=S2.nx) (cs':=[.int .i64 0]) (by simp only[↓aF,aE,rE,↓reduceIte,rA,q5]) (by simp only[↓aF,aE,rE,↓reduceIte,rA];rfl) ((v4.2 _ (by omega) (by omega)).trans w5) rfl rfl ?_;intro V5 v5 k5 d5;try simp only[↓aF,aE,rE,↓reduceIte,rA]
 refine aS ?_;have ld4:=iA (n:=2) ((v5.2 _ (by omega) (by omega)).trans d4) rfl;have ld5:=eE (p:=0) d5 rfl;have m46':=s46.1;have kF:∀c,c<V.nx→c≠S1.nx→c≠S2.nx→V5.h.get c=V.h.get c:=fun c hc a1 a2=>(v5.2 c (by omega) a2).trans (v4.2 c hc a1);simp only[↓aF,aE,rE,↓reduceIte,rA,dK,q4,q5,ld4,ld5];have hget:∀s,s<g.infos.length→(((List.range g.infos.length).map R).getD s [])=R s:=fun s hs=>by rw[Ad,Aq,Bl hs];rfl
 have hFam:=(j8.moveX (Y':=V5) (by omega) (kF _ j8.lt (by omega) (by omega)) fun c hc1 hc2=>kF c hc2 (by have:V0.nx+1≤c:=hc1;omega) (by have:V0.nx+1≤c:=hc1;omega)).is;refine⟨⟨by omega,fun c hc=>(kF c (by omega) (by omega) (by omega)).trans ((kV c (by have:=sSZ.1;omega) (by omega) (by omega) (by omega)).trans (sSZ.2 c hc))⟩,_,_,_,rfl,.inr ⟨h0,first,hO,.inr ⟨rfl,?_,(List.range g.infos.length).map R,⟨by rw[Aj,Bk],fun s hs=>by rw[hget s hs];exact j9.r1 s hs,fun s a hs ha=>?_⟩,?_,hFam⟩⟩⟩
 ·rintro⟨s,a,b,a1,a2,a3,a4,a5⟩;have hsame:=aD5 hup (fun x y ⟨a1,a2,m,hmL,e⟩=>by
   subst e;obtain⟨q,hq,rfl⟩:=Cb hmL;have:=hsm x a1 a2 q hq;rw[Ad,Ab hq] at this;exact this) a5
  obtain⟨r,y1,y2⟩:=hsame;have z1:=j7.f2 s a a2 a1 (.inl ⟨a1,Nat.lt_trans a3 a4⟩) r y1;have z2:=j7.f2 s b a2 a1 (.inl ⟨a1,a4⟩) r y2;rw[z1] at z2;cases z2;omega
 ·rw[hget s hs];exact j9.r4 s a hs (by rw[j9.r1 s hs];exact ha)
 ·refine eO hOw.is (by omega) fun c hc=>?_;have hcl:=fE hOw.is hc;have hge:S3.nx≤c:=by
   obtain⟨b,rfl,e1,_⟩:=hOw;cases hc;exact e1
  rw[kF c (by omega) (by omega) (by omega),kV c (by omega) (by omega) (by omega) (by omega),kZ6 c (by omega)];exact s46.2 c hcl
end Go.Ev.Gl
