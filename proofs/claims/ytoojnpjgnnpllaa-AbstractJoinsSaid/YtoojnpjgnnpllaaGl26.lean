import Derived.Test.YtoojnpjgnnpllaaGl25
open Nat renaming reduceEqDiff → rE, reduceAdd → rA
set_option maxHeartbeats 16000000
set_option linter.unusedSimpArgs false
set_option linter.unusedVariables false
namespace Go.Ev.Gl
variable {fns:T eG}
def oE(row next:List Int):Nat→List Int
 | 0=>next
 | a+1=>(oE row next a).set (row.getD a 0).toNat (next.getD a 0)
def eJ(act:List (List Int))(x:dG):List Int:=if x.kind=2 then oE (act.getD x.info.toNat []) x.next x.next.length else x.next
def lC(reps:List Nat)(r:Nat):List Nat×Nat:=if r∈reps then(reps,reps.idxOf r) else(reps++ [r],reps.length)
structure aCm where
 nodes:List dG
 olds:List Nat
 reps:List Nat
def eK(lay:Nat→Nat→List Nat→aCm):List Int→Nat→List Nat→List Int×aCm
 | [],_,reps=>([],⟨[],[],reps⟩)
 | k::ks,i,reps=>((i:Int)::(eK lay ks (i+(lay k.toNat i reps).nodes.length) (lay k.toNat i reps).reps).1,⟨(lay k.toNat i reps).nodes++(eK lay ks (i+(lay k.toNat i reps).nodes.length) (lay k.toNat i reps).reps).2.nodes,(lay k.toNat i reps).olds++(eK lay ks (i+(lay k.toNat i reps).nodes.length) (lay k.toNat i reps).reps).2.olds,(eK lay ks (i+(lay k.toNat i reps).nodes.length) (lay k.toNat i reps).reps).2.reps⟩)
def eX(first:List Int)(reps:List Nat)(x:dG):List Nat×Int:=if x.kind=2 then((lC reps (first.getD x.info.toNat 0).toNat).1,((lC reps (first.getD x.info.toNat 0).toNat).2:Int)) else(reps,x.info)
def fB(g:aR)(first:List Int)(act:List (List Int)):Nat→Nat→Nat→List Nat→aCm
 | 0,_,_,reps=>⟨[],[],reps⟩
 | f+1,old,i,reps=>⟨{nodeAt g old with info:=(eX first reps (nodeAt g old)).2,next:=(eK (fB g first act f) (eJ act (nodeAt g old)) (i+1) (eX first reps (nodeAt g old)).1).1}::(eK (fB g first act f) (eJ act (nodeAt g old)) (i+1) (eX first reps (nodeAt g old)).1).2.nodes,old::(eK (fB g first act f) (eJ act (nodeAt g old)) (i+1) (eX first reps (nodeAt g old)).1).2.olds,(eK (fB g first act f) (eJ act (nodeAt g old)) (i+1) (eX first reps (nodeAt g old)).1).2.reps⟩
def oG:List Int→Nat→List Nat→List Int
 | pl,_,[]=>pl
 | pl,i,o::os=>oG (pl.set o (i:Int)) (i+1) os
theorem aDg:∀ {os os':List Nat} {pl:List Int} {i:Nat},oG pl i (os++os')=oG (oG pl i os) (i+os.length) os'
 | [],_,_,_=>rfl
 | o::os,os',pl,i=>by
  show oG (pl.set o (i:Int)) (i+1) (os++os')=oG (oG (pl.set o (i:Int)) (i+1) os) (i+(os.length+1)) os';rw[aDg,show i+1+os.length=i+(os.length+1) by omega]
theorem zS:∀ {os:List Nat} {pl:List Int} {i:Nat},(oG pl i os).length=pl.length
 | [],_,_=>rfl
 | o::os,pl,i=>by
  show(oG (pl.set o (i:Int)) (i+1) os).length=_;rw[zS,Ap]
theorem yZ{lay:Nat→Nat→List Nat→aCm}:∀ {l:List Int} {k:Int} {i:Nat} {reps:List Nat},eK lay (l++ [k]) i reps=((eK lay l i reps).1++ [((i+(eK lay l i reps).2.nodes.length:Nat):Int)],⟨(eK lay l i reps).2.nodes++(lay k.toNat (i+(eK lay l i reps).2.nodes.length) (eK lay l i reps).2.reps).nodes,(eK lay l i reps).2.olds++(lay k.toNat (i+(eK lay l i reps).2.nodes.length) (eK lay l i reps).2.reps).olds,(lay k.toNat (i+(eK lay l i reps).2.nodes.length) (eK lay l i reps).2.reps).reps⟩)
 | [],k,i,reps=>by
  show(_,_)=(_,_);simp [eK]
 | x::l,k,i,reps=>by
  rw[Cf]
  conv=>lhs;unfold eK
  rw[yZ]
  conv=>rhs;unfold eK
  simp [Co]
theorem wH{lay:Nat→Nat→List Nat→aCm}:∀ {l:List Int} {i:Nat} {reps:List Nat},(eK lay l i reps).1.length=l.length
 | [],_,_=>rfl
 | x::l,i,reps=>by
  unfold eK;simp only[Ay];rw[wH]
theorem tU{lay:Nat→Nat→List Nat→aCm}(h:∀o i reps,(lay o i reps).olds.length=(lay o i reps).nodes.length):∀ {l:List Int} {i:Nat} {reps:List Nat},(eK lay l i reps).2.olds.length=(eK lay l i reps).2.nodes.length
 | [],_,_=>rfl
 | x::l,i,reps=>by
  unfold eK;simp only[Am];rw[h,tU h]
theorem aAS{g:aR}{first:List Int}{act:List (List Int)}:∀ {f:Nat} {o i:Nat} {reps:List Nat},(fB g first act f o i reps).olds.length=(fB g first act f o i reps).nodes.length
 | 0,_,_,_=>rfl
 | f+1,o,i,reps=>by
  unfold fB;simp only[Ay];rw[tU fun o i reps=>aAS]
theorem pU{row next:List Int}:∀ {n:Nat},(oE row next n).length=next.length
 | 0=>rfl
 | n+1=>by
  unfold oE;rw[Ap,pU]
theorem aIj{row next:List Int}(hin:∀a,a<next.length→(row.getD a 0).toNat<next.length)(hinj:∀a b,a<next.length→b<next.length→(row.getD a 0).toNat=(row.getD b 0).toNat→a=b):∀ {n:Nat},n≤next.length→∀a,a<n→(oE row next n).getD (row.getD a 0).toNat 0=next.getD a 0
 | 0,_,a,ha=>absurd ha (Bs a)
 | n+1,hn,a,ha=>by
  unfold oE;rw[fX (by rw[pU];exact hin n (by omega))];by_cases e:a=n
  ·subst e;rw[if_pos rfl]
  ·rw[if_neg (fun h=>e (hinj a n (by omega) (by omega) h))];exact aIj hin hinj (by omega) a (by omega)
theorem aCY{l m:List Nat}(h:l.Perm m):l.sum=m.sum:=by
 induction h with
 | nil=>rfl
 | cons x _ ih=>rw[Dr,Dr,ih]
 | swap x y l=>rw[Dr,Dr,Dr,Dr];omega
 | trans _ _ a b=>exact a.trans b
theorem aJs{row next:List Int}(hin:∀a,a<next.length→(row.getD a 0).toNat<next.length)(hinj:∀a b,a<next.length→b<next.length→(row.getD a 0).toNat=(row.getD b 0).toNat→a=b):(oE row next next.length).Perm next:=by
 have h1:next=((List.range next.length).map fun a=>(row.getD a 0).toNat).map fun i=>(oE row next next.length).getD i 0:=by
  rw[List.map_map];refine Dp (by rw[Aj,Bk]) fun a h1 h2=>?_;rw[List.getElem_map,List.getElem_range];show _=(oE row next next.length).getD (row.getD a 0).toNat 0;rw[aIj hin hinj (Ah _) a h1,Ad,Ab h1];rfl
 have h2:oE row next next.length=(List.range next.length).map fun i=>(oE row next next.length).getD i 0:=by
  refine Dp (by rw[Aj,Bk,pU]) fun a h1 h2=>?_;rw[List.getElem_map,List.getElem_range,Ad,Ab h1];rfl
 have h3:((List.range next.length).map fun a=>(row.getD a 0).toNat).Perm (List.range next.length):=by
  refine(List.perm_ext_iff_of_nodup ?_ List.nodup_range).2 fun x=>?_
  ·unfold List.Nodup;rw[List.pairwise_map];refine List.Pairwise.imp_of_mem (fun {a b} ha hb h e=>h (hinj a b (Dj.1 ha) (Dj.1 hb) e)) List.nodup_range
  ·rw[Du,Dj];constructor
   ·rintro⟨a,ha,rfl⟩;exact hin a (Dj.1 ha)
   ·intro hx;obtain⟨k,hk,e⟩:=aGY (n:=next.length) (f:=fun a=>(row.getD a 0).toNat) hin hinj x hx;exact⟨k,Dj.2 hk,e⟩
 have h4:=h3.map fun i=>(oE row next next.length).getD i 0;rw[←h1,←h2] at h4;exact h4.symm
def rM(g:aR)(act:List (List Int)):Prop:=act.length=g.infos.length∧∀s,s<g.infos.length→(act.getD s []).length=cR g s∧(∀a,a<cR g s→∃b:Nat,(act.getD s []).getD a 0=(b:Int)∧b<cR g s)∧∀a b,a<cR g s→b<cR g s→(act.getD s []).getD a 0=(act.getD s []).getD b 0→a=b
theorem aA3{g:aR}{L:List (List Int)}{first:List Int}{act:List (List Int)}(G:dL g)(hL:∀m∈L,fH g m)(hO:kT g.infos.length (gJ g.infos.length (L.map (imgI g))) first)(hD:¬Dup g L first)(h:aBC g L first act):rM g act:=by
 refine⟨h.len,fun s hs=>⟨h.row s hs,fun a ha=>?_,fun a b ha hb e=>?_⟩⟩
 ·obtain⟨b,e1,e2,_⟩:=h.at_ s a hs ha;exact⟨b,e1,by rw[(zN G hL (hO.con s hs)).1];exact e2⟩
 ·obtain⟨x,e1,e2,e3⟩:=h.at_ s a hs ha;obtain⟨y,k1,k2,k3⟩:=h.at_ s b hs hb;rw[e1,k1] at e;obtain rfl:x=y:=by omega
  rcases Dg a b with hlt | rfl | hlt
  ·exact absurd (aHO G hL hO hs hlt hb (.trans e3 (.symm k3))) hD
  ·rfl
  ·exact absurd (aHO G hL hO hs hlt ha (.trans k3 (.symm e3))) hD
theorem aCx{g:aR}(G:dL g){i:Nat}(hi:i<g.nodes.length)(hk:(nodeAt g i).kind=2):(nodeAt g i).info.toNat<g.infos.length∧cR g (nodeAt g i).info.toNat=(nodeAt g i).next.length∧((nodeAt g i).info.toNat:Int)=(nodeAt g i).info:=by
 obtain⟨h1,h2,h3⟩:=G.inf i hi hk;refine⟨by omega,?_,by omega⟩;unfold cR;rw[show(((nodeAt g i).info.toNat:Nat):Int)=(nodeAt g i).info by omega,h3];omega
theorem iR{g:aR}{act:List (List Int)}(G:dL g)(hR:rM g act){i:Nat}(hi:i<g.nodes.length):(eJ act (nodeAt g i)).Perm (nodeAt g i).next:=by
 unfold eJ;split
 ·rename_i hk;obtain⟨h1,h2,_⟩:=aCx G hi hk;obtain⟨_,h4,h5⟩:=hR.2 _ h1;refine aJs (fun a ha=>?_) fun a b ha hb e=>?_
  ·obtain⟨b,e1,e2⟩:=h4 a (by omega);omega
  ·obtain⟨x,e1,e2⟩:=h4 a (by omega);obtain⟨y,k1,k2⟩:=h4 b (by omega);exact h5 a b (by omega) (by omega) (by omega)
 ·exact List.Perm.refl _
theorem qP{T:List dH}{lay:Nat→Nat→List Nat→aCm}:∀ {l:List Int} (_:∀k∈l,∀i reps,(lay k.toNat i reps).nodes.length≤mS T k.toNat) {i:Nat} {reps:List Nat},(eK lay l i reps).2.nodes.length≤((l.map Int.toNat).map (mS T)).sum
 | [],_,_,_=>Ah _
 | x::l,h,i,reps=>by
  unfold eK;simp only[Am,Cx,Dr];have h1:=h x (Bu ..) i reps;have h2:=qP (l:=l) (fun k hk=>h k (Bj _ hk)) (i:=i+(lay x.toNat i reps).nodes.length) (reps:=(lay x.toNat i reps).reps);omega
theorem qE{g:aR}{first:List Int}{act:List (List Int)}{T:List dH}(G:dL g)(hR:rM g act)(hT:gS g=some T)(hl:T.length=g.nodes.length):∀ {f o i:Nat} {reps:List Nat},o<g.nodes.length→(fB g first act f o i reps).nodes.length≤mS T o
 | 0,_,_,_,_=>De _
 | f+1,o,i,reps,ho=>by
  unfold fB;simp only[Ay];have hp:=iR G hR ho;have h1:=qP (T:=T) (lay:=fB g first act f) (l:=eJ act (nodeAt g o)) (fun k hk i reps=>qE G hR hT hl (by
   obtain⟨q,hq,rfl⟩:=Cb (hp.mem_iff.1 hk);have:=G.kids o ho q hq;rw[Ad,Ab hq] at this;simp only[Cy] at this;omega)) (i:=i+1) (reps:=(eX first reps (nodeAt g o)).1)
  have h2:=aB6 hT hl ho;have h3:=aCY ((hp.map Int.toNat).map (mS T));omega
section
variable {α:Type}{k:Nat}{E E':List AV→α→Prop}{S0 X:St}{v:AV}{l:List α}
theorem ArB.fld(h:ArB k E S0 X v l){i q:Nat}{a a':α}{x:AV}(hi:l[i]? =some a)(hq:q<k)(h1:∀ (j:Nat) (b:α) (e:List AV),l[j]? =some b→j≠i→E e b→E' e b)(h2:∀e,E e a→E' (e.set q x) a'):
  ∃b p X',eU (.slice k) v i=some (.ptr b p)∧bD v=some b∧b<X.nx∧rU (.ptr b (p+q)) 1 [x] X=some (.undef,X')∧ArB k E' S0 X' v (l.set i a')∧X'.nx=X.nx∧∀c,c≠b→X'.h.get c=X.h.get c:=by
 have hil:=(Ai.1 hi).1;rcases h with⟨rfl,rfl⟩ | ⟨b,c,cs,rfl,g1,g2,g3,g4,g5,g6,g7⟩
 ·cases hi
 ·have hp:i * k+q+ [x].length≤cs.length:=by
   have:=qV hil hq;have:=Ec k g1;rw[g2];simp only[Bi];omega
  refine⟨b,0+i * k,⟨X.h.set b (some (.cells (cs.take (i * k+q)++ [x]++cs.drop (i * k+q+ [x].length)) true k)),X.nx⟩,?_,rfl,g4,?_,.inr ⟨b,c,cs.take (i * k+q)++ [x]++cs.drop (i * k+q+ [x].length),by rw[Ap],by rw[Ap];exact g1,by simp only[Bi] at hp;simp;omega,g3,g4,by simp only;rw[T.get_set,if_pos rfl],g6,fun j a0 hj=>?_⟩,rfl,fun c' hne=>by simp only;rw[T.get_set,if_neg hne]⟩
  ·show bN (Nat.blt i l.length) _ _=_;rw[show Nat.blt i l.length=true from Au hil,aQ]
  ·rw[Ao];exact aNJ g5 hp rfl
  ·rw[Ct] at hj;split at hj
   ·rename_i e0;subst e0;try rw[if_pos hil] at hj
    cases hj;obtain⟨e,e1,e2,e3⟩:=g7 i a hi;refine⟨e.set q x,by rw[Ap,e1],fun r y hr=>?_,h2 e e3⟩;have hrk:r<k:=by
     have:=(Ai.1 hr).1;rw[Ap,e1] at this;exact this
    rw[Ct] at hr;rw[zP hp];split at hr
    ·rename_i e0;subst e0;try rw[if_pos (show q<e.length by omega)] at hr
     cases hr;rw[if_neg (by omega),if_pos (by simp),Dw];rfl
    ·rename_i hne;have h3:=e2 r y hr;by_cases hlt:r<q
     ·rw[if_pos (by omega)];exact h3
     ·rw[if_neg (by omega),if_neg (by simp only[Bi];omega)];exact h3
   ·rename_i hne;obtain⟨e,e1,e2,e3⟩:=g7 j a0 hj;refine⟨e,e1,fun r y hr=>?_,h1 j a0 e hj (fun e=>hne e.symm) e3⟩;have hrk:r<k:=by rw[←e1];exact(Ai.1 hr).1
    have h3:=e2 r y hr;rw[zP hp];rcases Nat.lt_or_gt_of_ne hne with h4 | h4
    ·have:=qV h4 hq;have:(i+1) * k≤j * k:=Ec k h4;rw[Dy,Nat.one_mul] at this;rw[if_neg (by omega),if_neg (by simp only[Bi];omega)];exact h3
    ·have:(j+1) * k≤i * k:=Ec k h4;rw[Dy,Nat.one_mul] at this;rw[if_pos (by omega)];exact h3
end
structure LyS where
 na:AV
 ia:AV
 l:List (dG×AV)
 reps:List Nat
def oK(W:Nat→Prop)(m:LyS)(c:Nat):Prop:=¬W c∧bD m.na≠some c∧bD m.ia≠some c∧∀a∈m.l,bD a.2≠some c
def NdE(S0 X:St)(P:Nat→Prop)(e:List AV)(a:dG×AV):Prop:=∃xw xp,e= [.int .i64 a.1.kind,.int .i64 a.1.player,.int .i64 a.1.info,a.2,xw,xp]∧fP 1 S0 X a.2 a.1.next.length (aP a.1.next)∧bK .i64 X xw a.1.weights∧bK .i64 X xp a.1.pay∧∀c,(bD xw=some c∨bD xp=some c)→P c
theorem NdE.move{S0 X X':St}{P P':Nat→Prop}{e:List AV}{a:dG×AV}(h:NdE S0 X P e a)(hn:X.nx≤X'.nx)(hr:∀c,bD a.2=some c→X'.h.get c=X.h.get c)(hh:∀c,c<X.nx→P c→X'.h.get c=X.h.get c∧P' c):NdE S0 X' P' e a:=by
 obtain⟨xw,xp,rfl,h1,h2,h3,h4⟩:=h;refine⟨xw,xp,rfl,h1.move hn hr,eO h2 hn fun c hc=>(hh c (fE h2 hc) (h4 c (.inl hc))).1,eO h3 hn fun c hc=>(hh c (fE h3 hc) (h4 c (.inr hc))).1,fun c hc=>?_⟩;rcases hc with hc | hc
 ·exact(hh c (fE h2 hc) (h4 c (.inl hc))).2
 ·exact(hh c (fE h3 hc) (h4 c (.inr hc))).2
structure oV(W P:Nat→Prop)(g:aR)(S0 X:St)(m:LyS):Prop where
 nod:ArB 6 (NdE S0 X fun c=>oK W m c∧P c) S0 X m.na m.l
 inf:ArB 2 aMs S0 X m.ia (m.reps.map fun r:Nat=>infoAt g (r:Int))
 rn:∀a∈m.l,∀c,bD a.2=some c→(S0.nx≤c∧c<X.nx)∧¬W c∧bD m.na≠some c∧bD m.ia≠some c
 dj:∀ (i j:Nat) (a b:dG×AV),i≠j→m.l[i]? =some a→m.l[j]? =some b→∀c,bD a.2=some c→bD b.2≠some c
 d1:∀c,bD m.na=some c→¬W c∧bD m.ia≠some c
 d2:∀c,bD m.ia=some c→¬W c
 wg:∀c,W c→S0.nx≤c∧c<X.nx
def fY(W:Nat→Prop)(m:LyS)(X:St)(m':LyS)(X':St):Prop:=X.nx≤X'.nx∧∀c,c<X.nx→oK W m c→X'.h.get c=X.h.get c∧oK W m' c
section
variable {W P:Nat→Prop}{g:aR}{S0 X X':St}{m m' m'':LyS}
theorem fY.refl:fY W m X m X:=⟨Ah _,fun _ _ h=>⟨rfl,h⟩⟩
theorem fY.trans{X'':St}(h:fY W m X m' X')(h':fY W m' X' m'' X''):fY W m X m'' X'':=
 ⟨Ak h.1 h'.1,fun c hc hp=>by
  obtain⟨a,b⟩:=h.2 c hc hp;obtain⟨a',b'⟩:=h'.2 c (Ae hc h.1) b;exact⟨a'.trans a,b'⟩⟩
theorem fY.off(hn:X.nx≤X'.nx)(hk:∀c,c<X.nx→oK W m c→X'.h.get c=X.h.get c):fY W m X m X':=⟨hn,fun c hc h=>⟨hk c hc h,h⟩⟩
theorem fY.same(h:Same X X'):fY W m X m X':=.off h.1 fun c hc _=>h.2 c hc
theorem oV.row_of(h:oV W P g S0 X m){j:Nat}{a:dG×AV}(hj:m.l[j]? =some a){c:Nat}(hc:bD a.2=some c):(S0.nx≤c∧c<X.nx)∧¬W c∧bD m.na≠some c∧bD m.ia≠some c:=h.rn a (Bc hj) c hc
theorem oV.low(h:oV W P g S0 X m){c:Nat}(hc:c<S0.nx):oK W m c:=
 ⟨fun e=>by have:=(h.wg c e).1;omega,fun e=>by have:=(h.nod.blk e).1;omega,fun e=>by have:=(h.inf.blk e).1;omega,fun a ha e=>by have:=(h.rn a ha c e).1;omega⟩
theorem oV.fresh(h:oV W P g S0 X m){c:Nat}(hc:X.nx≤c):oK W m c:=
 ⟨fun e=>by have:=(h.wg c e).2;omega,fun e=>by have:=(h.nod.blk e).2;omega,fun e=>by have:=(h.inf.blk e).2;omega,fun a ha e=>by have:=(h.rn a ha c e).1;omega⟩
theorem oV.same0(h:oV W P g S0 X m)(K:fY W m X m' X')(hS:Same S0 X):Same S0 X':=
 ⟨Ak hS.1 K.1,fun c hc=>((K.2 c (Ae hc hS.1) (h.low hc)).1).trans (hS.2 c hc)⟩
theorem oV.local(h:oV W P g S0 X m)(hn:X.nx≤X'.nx)(hk:∀c,c<X.nx→¬W c→(oK W m c→P c)→X'.h.get c=X.h.get c):oV W P g S0 X' m where
 nod:=by
  rcases h.nod with h0 | ⟨b,c,cs,e0,g1,g2,g3,g4,g5,g6,g7⟩
  ·exact .inl h0
  ·have hb:bD m.na=some b:=by rw[e0];rfl
   refine .inr ⟨b,c,cs,e0,g1,g2,g3,Ae g4 hn,(hk b g4 (h.d1 b hb).1 fun hp=>absurd hb hp.2.1).trans g5,g6,fun i a hi=>?_⟩;obtain⟨e,e1,e2,e3⟩:=g7 i a hi;exact⟨e,e1,e2,e3.move hn (fun c hc=>hk c (h.row_of hi hc).1.2 (h.row_of hi hc).2.1 fun hp=>absurd hc (hp.2.2.2 a (Bc hi))) fun c hc hp=>⟨hk c hc hp.1.1 fun _=>hp.2,hp⟩⟩
 inf:=h.inf.move hn (fun c hc=>hk c (h.inf.blk hc).2 (h.d2 c hc) fun hp=>absurd hc hp.2.2.1) fun _ _ hE=>hE
 rn:=fun a ha c hc=>⟨⟨(h.rn a ha c hc).1.1,Ae (h.rn a ha c hc).1.2 hn⟩,(h.rn a ha c hc).2⟩
 dj:=h.dj
 d1:=h.d1
 d2:=h.d2
 wg:=fun c hc=>⟨(h.wg c hc).1,Ae (h.wg c hc).2 hn⟩
theorem oV.same(h:oV W P g S0 X m)(hs:Same X X'):oV W P g S0 X' m:=h.local hs.1 fun c hc _ _=>hs.2 c hc
theorem oV.mono{P':Nat→Prop}(h:oV W P g S0 X m)(hP:∀c,c<X.nx→P c→P' c):oV W P' g S0 X m where
 nod:=h.nod.move (Ah _) (fun _ _=>rfl) fun e a hE=>hE.move (Ah _) (fun _ _=>rfl) fun c hc hp=>⟨rfl,hp.1,hP c hc hp.2⟩
 inf:=h.inf
 rn:=h.rn
 dj:=h.dj
 d1:=h.d1
 d2:=h.d2
 wg:=h.wg
theorem oV.pushN(h:oV W P g S0 X m){v':AV}{a:dG}(hn:X.nx≤X'.nx)(hk:∀c,c<X.nx→bD m.na≠some c→X'.h.get c=X.h.get c)(hb:∀c,bD v'=some c→bD m.na=some c∨X.nx≤c)(ha:ArB 6 (NdE S0 X fun c=>oK W m c∧P c) S0 X' v' (m.l++ [(a,.nilsl)])):oV W P g S0 X' {m with na:=v',l:=m.l++ [(a,.nilsl)]}∧fY W m X {m with na:=v',l:=m.l++ [(a,.nilsl)]} X':=by
 have mem:∀ {y c},y∈m.l++ [((a,.nilsl):dG×AV)]→bD y.2=some c→y∈m.l:=fun hy hc=>by
  rcases Bx.1 hy with h1 | h1
  ·exact h1
  ·rw[List.mem_singleton.1 h1] at hc;cases hc
 have K:fY W m X {m with na:=v',l:=m.l++ [(a,.nilsl)]} X':=⟨hn,fun c hc hp=>⟨hk c hc hp.2.1,hp.1,fun e=>(hb c e).elim (fun h1=>hp.2.1 h1) fun h1=>absurd hc (Nat.not_lt.2 h1),hp.2.2.1,fun y hy e=>hp.2.2.2 y (mem hy e) e⟩⟩;have nv:∀ {c},bD m.na≠some c→c<X.nx→bD v'≠some c:=fun h1 h2 e=>(hb _ e).elim h1 fun h3=>absurd h2 (Nat.not_lt.2 h3);refine⟨⟨?_,h.inf.move hn (fun c hc=>hk c (h.inf.blk hc).2 fun e=>(h.d1 c e).2 hc) fun _ _ hE=>hE,fun y hy c hc=>?_,fun i j x y hij hx hy c hc hc'=>?_,fun c hc=>?_,h.d2,fun c hc=>⟨(h.wg c hc).1,Ae (h.wg c hc).2 hn⟩⟩,K⟩
 ·rcases ha with h0 | ⟨b,c,cs,e0,g1,g2,g3,g4,g5,g6,g7⟩
  ·exact .inl h0
  ·refine .inr ⟨b,c,cs,e0,g1,g2,g3,g4,g5,g6,fun i y hi=>?_⟩;obtain⟨e,e1,e2,e3⟩:=g7 i y hi;refine⟨e,e1,e2,e3.move hn (fun c hc=>?_) fun c hc hp=>⟨(K.2 c hc hp.1).1,(K.2 c hc hp.1).2,hp.2⟩⟩;have:=h.rn y (mem (Bc hi) hc) c hc;exact hk c this.1.2 this.2.2.1
 ·have:=h.rn y (mem hy hc) c hc;exact⟨⟨this.1.1,Ae this.1.2 hn⟩,this.2.1,nv this.2.2.1 this.1.2,this.2.2.2⟩
 ·rw[Ed] at hx hy;split at hx
  ·split at hy
   ·exact h.dj i j x y hij hx hy c hc hc'
   ·have:=Bc hy;rw[List.mem_singleton] at this;rw[this] at hc';cases hc'
  ·have:=Bc hx;rw[List.mem_singleton] at this;rw[this] at hc;cases hc
 ·rcases hb c hc with h1 | h1
  ·exact h.d1 c h1
  ·exact⟨fun e=>by have:=(h.wg c e).2;omega,fun e=>by have:=(h.inf.blk e).2;omega⟩
theorem oV.pushI(h:oV W P g S0 X m){v':AV}{r:Nat}(hn:X.nx≤X'.nx)(hk:∀c,c<X.nx→bD m.ia≠some c→X'.h.get c=X.h.get c)(hb:∀c,bD v'=some c→bD m.ia=some c∨X.nx≤c)(ha:ArB 2 aMs S0 X' v' ((m.reps.map fun r:Nat=>infoAt g (r:Int))++ [infoAt g (r:Int)])):oV W P g S0 X' {m with ia:=v',reps:=m.reps++ [r]}∧fY W m X {m with ia:=v',reps:=m.reps++ [r]} X':=by
 have K:fY W m X {m with ia:=v',reps:=m.reps++ [r]} X':=⟨hn,fun c hc hp=>⟨hk c hc hp.2.2.1,hp.1,hp.2.1,fun e=>(hb c e).elim (fun h1=>hp.2.2.1 h1) fun h1=>absurd hc (Nat.not_lt.2 h1),hp.2.2.2⟩⟩;have nv:∀ {c},bD m.ia≠some c→c<X.nx→bD v'≠some c:=fun h1 h2 e=>(hb _ e).elim h1 fun h3=>absurd h2 (Nat.not_lt.2 h3);refine⟨⟨?_,by simp only[Dx,Cx,List.map_nil];exact ha,fun y hy c hc=>?_,h.dj,fun c hc=>⟨(h.d1 c hc).1,nv (h.d1 c hc).2 (h.nod.blk hc).2⟩,fun c hc=>?_,fun c hc=>⟨(h.wg c hc).1,Ae (h.wg c hc).2 hn⟩⟩,K⟩
 ·rcases h.nod with h0 | ⟨b,c,cs,e0,g1,g2,g3,g4,g5,g6,g7⟩
  ·exact .inl h0
  ·have hbb:bD m.na=some b:=by rw[e0];rfl
   refine .inr ⟨b,c,cs,e0,g1,g2,g3,Ae g4 hn,(hk b g4 (h.d1 b hbb).2).trans g5,g6,fun i y hi=>?_⟩;obtain⟨e,e1,e2,e3⟩:=g7 i y hi;refine⟨e,e1,e2,e3.move hn (fun c hc=>?_) fun c hc hp=>⟨(K.2 c hc hp.1).1,(K.2 c hc hp.1).2,hp.2⟩⟩;have:=h.row_of hi hc;exact hk c this.1.2 this.2.2.2
 ·have:=h.rn y hy c hc;exact⟨⟨this.1.1,Ae this.1.2 hn⟩,this.2.1,this.2.2.1,nv this.2.2.2 this.1.2⟩
 ·rcases hb c hc with h1 | h1
  ·exact h.d2 c h1
  ·exact fun e=>by have:=(h.wg c e).2;omega
theorem oV.row_at(h:oV W P g S0 X m){i:Nat}{a:dG}{v:AV}(hi:m.l[i]? =some (a,v)):∃b p,eU (.slice 6) m.na i=some (.ptr b p)∧bD m.na=some b∧b<X.nx∧eH (.ptr b (p+3)) false 1 X.h=some v∧fP 1 S0 X v a.next.length (aP a.next):=by
 rcases h.nod with⟨_,h0⟩ | ⟨b,c,cs,e0,g1,g2,g3,g4,g5,g6,g7⟩
 ·rw[h0] at hi;cases hi
 ·obtain⟨e,e1,e2,xw,xp,rfl,e4,_⟩:=g7 i _ hi;have hil:=(Ai.1 hi).1;refine⟨b,0+i * 6,?_,by rw[e0];rfl,g4,eE g5 (by rw[Ao];exact e2 3 v rfl),e4⟩;rw[e0];show bN (Nat.blt i m.l.length) _ _=_;rw[show Nat.blt i m.l.length=true from Au hil,aQ]
theorem oV.row(h:oV W P g S0 X m){i:Nat}{a:dG}{v v':AV}{w:Int}(hi:m.l[i]? =some (a,v))(hn:X.nx≤X'.nx)(hk:∀c,c<X.nx→bD v≠some c→X'.h.get c=X.h.get c)(hg:fP 1 S0 X' v' (a.next++ [w]).length (aP (a.next++ [w])))(hb:∀c,bD v'=some c→X.nx≤c):
  ∃b p X'',eU (.slice 6) m.na i=some (.ptr b p)∧bD m.na=some b∧b<X.nx∧rU (.ptr b (p+3)) 1 [v'] X'=some (.undef,X'')∧X''.nx=X'.nx∧(∀c,c≠b→X''.h.get c=X'.h.get c)∧oV W P g S0 X'' {m with l:=m.l.set i ({a with next:=a.next++ [w]},v')}∧fY W m X {m with l:=m.l.set i ({a with next:=a.next++ [w]},v')} X'':=by
 have hil:=(Ai.1 hi).1;have lv:∀ {c},bD v=some c→_:=fun hc=>h.row_of hi hc;have nav:∀ {c},bD m.na=some c→bD v≠some c:=fun hc e=>(lv e).2.2.1 hc;have hX':ArB 6 (fun e y=>NdE S0 X (fun c=>oK W m c∧P c) e y) S0 X' m.na m.l:=by
  rcases h.nod with h0 | ⟨b,c,cs,e0,g1,g2,g3,g4,g5,g6,g7⟩
  ·exact .inl h0
  ·exact .inr ⟨b,c,cs,e0,g1,g2,g3,Ae g4 hn,(hk b g4 (nav (by rw[e0];rfl))).trans g5,g6,g7⟩
 have mem:∀ {y},y∈m.l.set i ({a with next:=a.next++ [w]},v')→(∃j,j≠i∧m.l[j]? =some y)∨y=({a with next:=a.next++ [w]},v'):=fun {y} hy=>by
  obtain⟨j,hj,e⟩:=Cb hy;rw[List.getElem_set] at e;split at e
  ·exact .inr e.symm
  ·rename_i hne;rw[Ap] at hj;exact .inl ⟨j,fun e=>hne e.symm,by rw[←e];exact Ab hj⟩
 have pb:∀c,c<X.nx→oK W m c→oK W {m with l:=m.l.set i ({a with next:=a.next++ [w]},v')} c:=fun c hc hp=>⟨hp.1,hp.2.1,hp.2.2.1,fun y hy e=>by
  rcases mem hy with⟨j,_,hj⟩ | rfl
  ·exact hp.2.2.2 y (Bc hj) e
  ·have:=hb c e;omega⟩
 obtain⟨bb,gp,hbb⟩:∃b,bD m.na=some b∧b<X.nx:=by
  obtain⟨b,_,_,h1,h2,_⟩:=h.row_at hi;exact⟨b,h1,h2⟩
 obtain⟨b,p,X'',k1,k2,k3,k4,k5,k6,k7⟩:=ArB.fld (E':=NdE S0 ⟨X'.h,X'.nx⟩ fun c=>oK W {m with l:=m.l.set i ({a with next:=a.next++ [w]},v')} c∧P c) (a':=({a with next:=a.next++ [w]},v')) (x:=v') (q:=3) hX' hi (by decide) (fun j y e hj hne hE=>hE.move hn (fun c hc=>hk c (h.row_of hj hc).1.2 (h.dj j i y _ hne hj hi c hc)) fun c hc hp=>⟨hk c hc (fun e=>hp.1.2.2.2 _ (Bc hi) e),pb c hc hp.1,hp.2⟩) fun e hE=>by
   obtain⟨xw,xp,rfl,h1,h2,h3,h4⟩:=hE;have hmem:=Bc hi;refine⟨xw,xp,rfl,hg,eO h2 hn fun c hc=>hk c (fE h2 hc) fun e=>(h4 c (.inl hc)).1.2.2.2 _ hmem e,eO h3 hn fun c hc=>hk c (fE h3 hc) fun e=>(h4 c (.inr hc)).1.2.2.2 _ hmem e,fun c hc=>?_⟩;have hcl:c<X.nx:=by
    rcases hc with hc | hc
    ·exact fE h2 hc
    ·exact fE h3 hc
   exact⟨pb c hcl (h4 c hc).1,(h4 c hc).2⟩
 rw[gp] at k2;cases k2;have nb:∀c,bD m.na=some c→c=bb:=fun c hc=>by rw[gp] at hc;cases hc;rfl
 refine⟨bb,p,X'',k1,gp,hbb,k4,k6,k7,⟨?_,?_,fun y hy c hc=>?_,fun i' j x y hij hx hy c hc hc'=>?_,h.d1,h.d2,fun c hc=>⟨(h.wg c hc).1,by have:=(h.wg c hc).2;omega⟩⟩,⟨by omega,fun c hc hp=>⟨?_,pb c hc hp⟩⟩⟩
 ·rcases k5 with h0 | ⟨b',c,cs,e0,g1,g2,g3,g4,g5,g6,g7⟩
  ·exact .inl h0
  ·refine .inr ⟨b',c,cs,e0,g1,g2,g3,g4,g5,g6,fun j y hj=>?_⟩;obtain⟨e,e1,e2,e3⟩:=g7 j y hj;refine⟨e,e1,e2,e3.move (by show X'.nx≤X''.nx;omega) (fun c hc=>k7 c fun e=>?_) fun c _ hp=>⟨k7 c fun e=>hp.1.2.1 (by rw[e];exact gp),hp⟩⟩;rcases mem (Bc hj) with⟨j',_,hj'⟩ | rfl
   ·exact(h.row_of hj' hc).2.2.1 (by rw[e];exact gp)
   ·have:=hb c hc;omega
 ·exact h.inf.move (by omega) (fun c hc=>(k7 c fun e=>(h.d1 bb gp).2 (by rw[←e];exact hc)).trans (hk c (h.inf.blk hc).2 fun e=>(lv e).2.2.2 hc)) fun _ _ hE=>hE
 ·rcases mem hy with⟨j,_,hj⟩ | rfl
  ·have:=h.row_of hj hc;exact⟨⟨this.1.1,by omega⟩,this.2⟩
  ·have h1:=hg.blk hc;have h2:=hb c hc;exact⟨⟨h1.1,by omega⟩,fun e=>by have:=(h.wg c e).2;omega,fun e=>by have:=(h.nod.blk e).2;omega,fun e=>by have:=(h.inf.blk e).2;omega⟩
 ·rw[Ct] at hx hy;have hlo:∀ {q:Nat} {y:dG×AV},m.l[q]? =some y→bD y.2=some c→c<X.nx:=fun hq hc=>(h.row_of hq hc).1.2;split at hx
  ·split at hy
   ·rename_i e1 e2;exact hij (e1.symm.trans e2)
   ·try rw[if_pos hil] at hx
    cases hx;have:=hb c hc;have:=hlo hy hc';omega
  ·split at hy
   ·try rw[if_pos hil] at hy
    cases hy;have:=hb c hc';have:=hlo hx hc;omega
   ·exact h.dj i' j x y hij hx hy c hc hc'
 ·rw[k7 c (fun e=>hp.2.1 (by rw[e];exact gp))];exact hk c hc fun e=>hp.2.2.2 _ (Bc hi) e
theorem oV.nodes(h:oV W P g S0 X m):aH 6 bP X m.na (m.l.map (·.1)):=by
 rcases h.nod with⟨h0,h1⟩ | ⟨b,c,cs,e0,g1,g2,g3,g4,g5,g6,g7⟩
 ·exact .inl ⟨by rw[h1];rfl,.inl h0⟩
 ·refine .inr ⟨b,0,c,true,cs,by rw[Aj];exact e0,by rw[Aj];exact g1,g4,by unfold cN;rw[g5];rfl,fun i a hi=>?_⟩;rw[Aq,Aw] at hi;obtain⟨y,hy,rfl⟩:=hi;obtain⟨e,e1,e2,xw,xp,rfl,h1,h2,h3,_⟩:=g7 i y hy;exact⟨_,e1,fun j x hj=>by rw[Ao];exact e2 j x hj,y.2,xw,xp,rfl,h1.is,h2,h3⟩
theorem oV.infos(h:oV W P g S0 X m):aH 2 cA X m.ia (m.reps.map fun r:Nat=>infoAt g (r:Int)):=h.inf.is fun _ _ hE=>hE
end
theorem nT{S:St}{v:AV}{l:List Int}(H:Has fns)(h:bK .i64 S v l)(hl:l.length≤100000):gH fns (.fn 92 [] []) [v] S fun r X=>Same S X∧bK .i64 X r l∧(∀c,bD r=some c→S.nx≤c)∧(l≠ []→fP 1 S X r l.length (aP l)):=by
 refine cI H.f92 (by simp) ?_;simp only[↓sU,sD,rE,↓reduceIte,rA];refine bQ ?_;simp only[↓sU,sD,rE,↓reduceIte,rA];by_cases hv:v= .nilsl
 ·have hl0:l= []:=by
   rcases h with⟨h,_⟩ | ⟨b,off,cap,o,cs,rfl,_⟩
   ·exact h
   ·cases hv
  subst hv;subst hl0;have he:pO .eql (.p .slice) .nilsl .nilsl=some (.bool true):=rfl;refine gC ?_;simp only[↓sU,sD,rE,↓reduceIte,rA,he];refine aO (by simp only[↓sU,sD,rE,↓reduceIte,rA]) ?_;refine bQ ?_;simp only[↓sU,sD,rE,↓reduceIte,rA];refine aS ?_;simp only[↓sU,sD,rE,↓reduceIte,rA];exact⟨Same.refl S,.inl ⟨rfl,.inl rfl⟩,fun c hc=>(by cases hc),fun h=>absurd rfl h⟩
 ·have he:pO .eql (.p .slice) v .nilsl=some (.bool false):=by
   rcases h with⟨_,rfl | rfl⟩ | ⟨b,off,cap,o,cs,rfl,_⟩
   ·exact absurd rfl hv
   ·rfl
   ·rfl
  refine gC ?_;simp only[↓sU,sD,rE,↓reduceIte,rA,he];refine aN (by simp only[↓sU,sD,rE,↓reduceIte,rA]) (aI ?_);try simp only[↓sU,sD,rE,↓reduceIte,rA]
  refine bQ ?_;refine gM aAc ?_;intro S1 s1 n1 g1;simp only[↓aF,aE,rE,↓reduceIte,rA];obtain⟨r,S2,e,s2,hr⟩:=zW g1 (h.same s1) hl;refine fJ (fun call=>by simp only[↓aF,aE,rE,↓reduceIte,rA,iG];exact e) ?_;simp only[↓aF,aE,rE,↓reduceIte,rA];refine aS ?_;simp only[↓aF,aE,rE,↓reduceIte,rA];refine⟨s1.trans s2,?_⟩;rcases hr with⟨rfl,rfl,rfl⟩ | ⟨hg,hne⟩
  ·refine⟨.inr ⟨S.nx,0,0,false,[],rfl,Ah _,by omega,by unfold cN;rw[g1];rfl,fun i a hi=>by simp at hi⟩,fun c hc=>by cases hc;exact Ah _,fun h=>absurd rfl h⟩
  ·exact⟨hg.is,fun c hc=>Ak s1.1 (hg.blk hc).1,fun _=>hg.low s1.1⟩
def aNK(X1:St)(cb n:Nat)(o:Bool)(sz:Nat)(row next:List Int)(xa:AV)(F0:Fr)(k:Nat)(A:bH)(X:St):Prop:=A.inr=false∧Same X1 X∧∃a,a+k=n∧X.h.get cb=some (.cells (aP (oE row next a)) o sz)∧cb<X.nx∧(∀j,j<13→aB j A.F=aB j F0)∧aB 39 A.F=xa∧aB 40 A.F= .int .i64 (n:Int)∧aB 41 A.F= .int .i64 (a:Int)
theorem aKv{j:Nat}(h:j<13):j=0∨j=1∨j=2∨j=3∨j=4∨j=5∨j=6∨j=7∨j=8∨j=9∨j=10∨j=11∨j=12:=by omega
theorem aM4{X1 X0:St}{F0:Fr}{lb xb cb s sz:Nat}{o:Bool}{fv av xa xw xp vk vp:AV}{act:List (List Int)}{next:List Int}(hX:Same X1 X0)(hcb:X1.nx≤cb)(hcl:cb<X0.nx)(ha:aH 1 iX X1 av act)(hn:bK .i64 X1 xa next)(hnl:next.length≤100000)(hs:s<act.length)(hrl:(act.getD s []).length=next.length)(hrow:∀a,a<next.length→∃b:Nat,(act.getD s []).getD a 0=(b:Int)∧b<next.length)
  (gl:X1.h.get lb=some (.cells [fv,av] false 0)) (gx:X1.h.get xb=some (.cells [vk,vp,.int .i64 (s:Int),xa,xw,xp] false 0)) (ll:lb<X1.nx) (lx:xb<X1.nx) (gc:X0.h.get cb=some (.cells (aP next) o sz)) (p4:aB 4 F0= .ptr lb 0) (p11:aB 11 F0= .ptr xb 0) (p12:aB 12 F0= .sl cb 0 next.length next.length o) (p39:aB 39 F0=xa) (p40:aB 40 F0= .int .i64 (next.length:Int)) (p41:aB 41 F0= .int .i64 ((0:Nat):Int)):
  iH fns qk4 ⟨F0,false⟩ X0 fun oo A' X=>oo= .normal∧aNK X1 cb next.length o sz (act.getD s []) next xa F0 0 A' X:=by
 refine aL (bL (aNK X1 cb next.length o sz (act.getD s []) next xa F0) ?_ next.length _ _ ⟨rfl,hX,0,by omega,gc,hcl,fun _ _=>rfl,p39,p40,p41⟩);rintro k ⟨F,inr⟩ X ⟨q0,sX,a,hak,gX,lX,hk,q39,q40,q41⟩;simp only at q0 hk q39 q40 q41;subst q0;have q4:=(hk 4 (by omega)).trans p4;have q11:=(hk 11 (by omega)).trans p11;have q12:=(hk 12 (by omega)).trans p12;refine bQ ?_;simp only[↓sU,sD,rE,↓reduceIte,rA,q40,q41];by_cases hlt:a<next.length;rotate_left
 ·refine aA (aN (by simp only[↓sU,sD,rE,↓reduceIte,rA,Aa (show ¬ (a:Int)<((next.length:Nat):Int) by omega)]) (bM ?_));simp only[↓sU,sD,rE,↓reduceIte,rA];obtain rfl:k=0:=by omega
  refine⟨rfl,sX,a,hak,gX,lX,fun j hj=>?_,by refine⟨?_,?_,?_⟩<;>simp only[↓sU,sD,rE,↓reduceIte,rA,q39,q40,q41]⟩;rw[←hk j hj];rcases aKv hj with rfl | rfl | rfl | rfl | rfl | rfl | rfl | rfl | rfl | rfl | rfl | rfl | rfl<;>simp only[↓sU,sD,rE,↓reduceIte,rA]
 refine aA (aO (by simp only[↓sU,sD,rE,↓reduceIte,rA,Ac (show(a:Int)<((next.length:Nat):Int) by omega)]) (aI ?_));try simp only[↓sU,sD,rE,↓reduceIte,rA]
 have w1:IntKind.i64.wrap ((a:Int)+1)=((a+1:Nat):Int):=by rw[wrap_i64 (by omega) (by omega)];omega
 obtain⟨b,hb,hbl⟩:=hrow a hlt;obtain⟨qb,qq,i1,i2,i3⟩:=iQ (hn.same sX) hlt;obtain⟨rb,rq,ra,r1,r2,r3,r4⟩:=oN (aH.same (E:=iX) firm_sl ha sX) hs;have r4:=r4 X (Same.refl X);obtain⟨ub,uq,u1,u2,u3⟩:=iQ r2 (i:=a) (by omega);rw[hb] at u3;have gl':=(sX.2 _ ll).trans gl;have gx':=(sX.2 _ lx).trans gx;have hia:=dT (b:=cb) (o:=o) hbl;refine aA (aL (aA (aJ ?_)));simp only[↓sU,sD,rE,↓reduceIte,rA,q39,q41,aG,i1,i3];refine aJ ?_;simp only[↓sU,sD,rE,↓reduceIte,rA,q4,q11,q12,aC,aD,aH8 gl',cQ gx',aG,r1,r4,u1,u3,hia];refine fJ (fun call=>by simp only[↓sU,sD,rE,↓reduceIte,rA,dN,cO];exact qL (S:=X) gX (by rw[pU];exact hbl)) ?_;simp only[↓sU,sD,rE,↓reduceIte,rA];refine aJ ?_;simp only[↓sU,sD,rE,↓reduceIte,rA,q41,w1];refine⟨k - 1,by omega,rfl,⟨sX.1,fun c hc=>?_⟩,a+1,by omega,?_,lX,fun j hj=>?_,by refine⟨?_,?_,?_⟩<;>simp only[↓sU,sD,rE,↓reduceIte,rA,q39,q40]⟩
 ·simp only;rw[T.get_set,if_neg (by omega)];exact sX.2 c hc
 ·simp only;rw[T.get_set,if_pos rfl];show _=some (AB.cells (aP ((oE (act.getD s []) next a).set ((act.getD s []).getD a 0).toNat (next.getD a 0))) o sz);rw[hb];rfl
 ·rw[←hk j hj];rcases aKv hj with rfl | rfl | rfl | rfl | rfl | rfl | rfl | rfl | rfl | rfl | rfl | rfl | rfl<;>simp only[↓sU,sD,rE,↓reduceIte,rA]
def aQW(W:St)(F:Fr)(xb:Nat)(lw lp:List Int)(F':Fr)(Z:St)(ps:List iJ):Prop:=ps= []∧Same W Z∧(∀j,j<80→aB j F'=aB j F)∧aB 94 F'= .ptr xb (0+3)∧bK .i64 Z (aB 90 F') lw∧bK .i64 Z (aB 93 F') lp∧∀c,(bD (aB 90 F')=some c∨bD (aB 93 F')=some c)→W.nx≤c
theorem aL9{ops:List AO}{W:St}{F:Fr}{inr:Bool}{xb:Nat}{k p f:AV}{xa xw xp:AV}{lw lp:List Int}{Q:Out→bH→St→Prop}(H:Has fns)(he:ops=aNF++aNS)(p11:aB 11 F= .ptr xb 0)(hb:W.h.get xb=some (.cells [k,p,f,xa,xw,xp] false 0))(lb:xb<W.nx)(h2:bK .i64 W xw lw)(h3:bK .i64 W xp lp)(b2:lw.length≤100000)(b3:lp.length≤100000)
  (hQ:∀F' Z rw rp,(∀j,j<80→aB j F'=aB j F)→bS xb W Z→Z.h.get xb=some (.cells [k,p,f,.nilsl,rw,rp] false 0)→bK .i64 Z rw lw→bK .i64 Z rp lp→(∀c,(bD rw=some c∨bD rp=some c)→W.nx≤c)→Q .normal ⟨F',inr⟩ Z):iH fns (.drw ops) ⟨F,inr⟩ W Q:=by
 have hlen:ops.length=12:=by rw[he];rfl
 refine nQ (W:=fun _=>False) (K:=7) (R:=aQW W F xb lw lp) he rfl rfl (fun Y hY hh nY=>?_) ?_
 ·have s2:=bK.self h2;have s3:=bK.self h3;unfold aNF;simp only[↓sU,sD,rE,↓reduceIte,rA,p11,aC,aU,aD,dC hb,lb,Al,s2];refine dS rfl ?_;simp only[↓sU,sD,rE,↓reduceIte,rA];refine aX (nT H (h2.same hY) b2) ?_;rintro r1 Y1 ⟨s1,i1,k1,_⟩;refine⟨s1,?_⟩;have sY1:=hY.trans s1;simp only[↓sU,sD,rE,↓reduceIte,rA,p11,aC,aU,aD,dM hb,lb,Al,s3];refine dS rfl ?_;simp only[↓sU,sD,rE,↓reduceIte,rA];refine aX (nT H (h3.same sY1) b3) ?_;rintro r2 Y2 ⟨s2',i2,k2,_⟩;refine⟨s2',?_⟩;simp only[↓sU,sD,rE,↓reduceIte,rA,p11,aC,aU,aD];refine⟨rfl,sY1.trans s2',fun j hj=>?_,by simp only[↓sU,sD,rE,↓reduceIte,rA],by simp only[↓sU,sD,rE,↓reduceIte,rA];exact i1.same s2',by simp only[↓sU,sD,rE,↓reduceIte,rA];exact i2,fun c hc=>?_⟩
  ·simp only[cE];rw[if_neg (by omega),if_neg (by omega),if_neg (by omega),if_neg (by omega),if_neg (by omega),if_neg (by omega),if_neg (by omega)]
  ·simp only[↓sU,sD,rE,↓reduceIte,rA] at hc;have a1:=hY.1;have a2:=s1.1;rcases hc with hc | hc
   ·have:=k1 c hc;omega
   ·have:=k2 c hc;omega
 rintro F' S' ps hs ls ⟨rfl,sZ,hk,p94,i1,i2,hbk⟩ hlast hld;have p11':aB 11 F'= .ptr xb 0:=(hk 11 (by omega)).trans p11;have hb':=(sZ.2 _ lb).trans hb;generalize hr1:aB 90 F'=r1 at i1 hbk;generalize hr2:aB 93 F'=r2 at i2 hbk;have m1:∀i,i<7→Nat.testBit 127 i=true:=by decide
 unfold aNS;refine jP (v:=.undef) (S1:=⟨S'.h.set xb (some (.cells [k,p,f,.nilsl,xw,xp] false 0)),S'.nx⟩) (hlast _ m1) (fun call=>?_) ?_
 ·rw[dN];simp only[fD,aH5,p94,bE];exact stc (S:=S') hb' (by simp)
 simp only[lA,dW,aC,aD,aU,aW,fD,bE,eF,cE,p11',rE,↓reduceIte,rA];refine jP (v:=.undef) (S1:=⟨(S'.h.set xb (some (.cells [k,p,f,.nilsl,xw,xp] false 0))).set xb (some (.cells [k,p,f,.nilsl,r1,xp] false 0)),S'.nx⟩) (show Nat.testBit 511 7=true by decide) (fun call=>?_) ?_
 ·rw[dN];simp only[fD,cE,rE,↓reduceIte,hr1,bE,bK.cells i1,aK];exact stc (cs:=[k,p,f,.nilsl,xw,xp]) (p:=4) (S:=⟨S'.h.set xb (some (.cells [k,p,f,.nilsl,xw,xp] false 0)),S'.nx⟩) (by simp only;rw[T.get_set,if_pos rfl]) (by simp)
 simp only[lA,dW,aC,aD,aU,aW,fD,bE,eF,cE,p11',rE,↓reduceIte,rA];refine jP (v:=.undef) (S1:=⟨((S'.h.set xb (some (.cells [k,p,f,.nilsl,xw,xp] false 0))).set xb (some (.cells [k,p,f,.nilsl,r1,xp] false 0))).set xb (some (.cells [k,p,f,.nilsl,r1,r2] false 0)),S'.nx⟩) (show Nat.testBit 2047 9=true by decide) (fun call=>?_) ?_
 ·rw[dN];simp only[fD,cE,rE,↓reduceIte,hr2,bE,bK.cells i2,aK];exact stc (cs:=[k,p,f,.nilsl,r1,xp]) (p:=5) (S:=⟨(S'.h.set xb (some (.cells [k,p,f,.nilsl,xw,xp] false 0))).set xb (some (.cells [k,p,f,.nilsl,r1,xp] false 0)),S'.nx⟩) (by simp only;rw[T.get_set,if_pos rfl]) (by simp)
 rw[fZ];refine⟨?_,?_⟩
 ·simp only[Bz,Cd,Di,Cf,Cc];exact hld _ _ _ m1
 ·simp only[bE,eF];have hne:∀ {v:AV} {l:List Int},bK .i64 S' v l→(∀c,bD v=some c→W.nx≤c)→bK .i64 ⟨((S'.h.set xb (some (.cells [k,p,f,.nilsl,xw,xp] false 0))).set xb (some (.cells [k,p,f,.nilsl,r1,xp] false 0))).set xb (some (.cells [k,p,f,.nilsl,r1,r2] false 0)),S'.nx⟩ v l:=fun {v l} h hc=>eO h (Ah _) fun c hcc=>by
   have:=hc c hcc;simp only;rw[T.get_set,if_neg (by omega),T.get_set,if_neg (by omega),T.get_set,if_neg (by omega)]
  refine hQ _ _ r1 r2 (fun j hj=>?_) ⟨sZ.1,fun c hc hn=>?_⟩ (by simp only;rw[T.get_set,if_pos rfl]) (hne i1 fun c hc=>hbk c (.inl hc)) (hne i2 fun c hc=>hbk c (.inr hc)) hbk
  ·rw[cE,if_neg (by omega),cE,if_neg (by omega)];exact hk j hj
  ·simp only;rw[T.get_set,if_neg hn,T.get_set,if_neg hn,T.get_set,if_neg hn];exact sZ.2 c hc
theorem aLR{ops:List AO}{W P:Nat→Prop}{g:aR}{S0 X:St}{F:Fr}{inr:Bool}{gb ic:Nat}{m:LyS}{pv nv iv:AV}{r:Nat}{Q:Out→bH→St→Prop}(he:ops=aJL++aKR)(hL:oV W P g S0 X m)(hS:S0.nx≤X.nx)(p3:aB 3 F= .ptr gb 0)(p6:aB 6 F= .ptr ic 0)(p15:aB 15 F= .int .i64 (r:Int))
  (gg:X.h.get gb=some (.cells [pv,nv,iv] false 0)) (gi:X.h.get ic=some (.cells [m.ia] false 0)) (lg:gb<X.nx) (hic:W ic) (hi:aH 2 cA X iv g.infos) (hr:r<g.infos.length) (hv:m.reps.length≤100000)
  (hQ:∀F' Z ia',(∀j,j<78→aB j F'=aB j F)→oV W P g S0 Z {m with ia:=ia',reps:=m.reps++ [r]}→fY W m X {m with ia:=ia',reps:=m.reps++ [r]} Z→Z.h.get ic=some (.cells [ia'] false 0)→(∀c,c<X.nx→W c→c≠ic→Z.h.get c=X.h.get c)→Q .normal ⟨F',inr⟩ Z):iH fns (.drw ops) ⟨F,inr⟩ X Q:=by
 have hlen:ops.length=9:=by rw[he];rfl
 have lic:ic<X.nx:=(hL.wg ic hic).2;have d6:=eE (p:=0) gi rfl;have d3:=eE (p:=2) gg rfl;have sia:=hL.inf.self;have siv:=aH.self hi;obtain⟨_,qb,qq,i1,lqb,_,rfl,i3,_⟩:=aH.at hi (by decide) (oJ hr);have hs2:cC (.agg [.int .i64 (infoAt g (r:Int)).player,.int .i64 (infoAt g (r:Int)).actions]) (.agg [.int .i64 (infoAt g (r:Int)).player,.int .i64 (infoAt g (r:Int)).actions])=true:=wJ (cS ..) (cS ..);refine nQ (W:=fun _=>False) (K:=7) (R:=fun F' Z ps=>ps= [⟨6,X.nx+6,.cells [.int .i64 (infoAt g (r:Int)).player,.int .i64 (infoAt g (r:Int)).actions] false 0⟩]∧Z.h=X.h∧Z.nx=X.nx+9∧(∀j,j<78→aB j F'=aB j F)∧aB 78 F'=m.ia∧aB 84 F'= .sl (X.nx+6) 0 1 1 false) he rfl rfl (fun X1 x1 hh1 nn1=>?_) ?_
 ·have he1:=fun(F:Fr) (id:Nat) (h:aB 83 F= .agg [.int .i64 (infoAt g (r:Int)).player,.int .i64 (infoAt g (r:Int)).actions])=>aHM (t:=48) (z0:=.int .i64 0) (z1:=.int .i64 0) (x:=.t 83) (F:=F) (id:=id) h;unfold aJL;simp only[↓sU,sD,rE,↓reduceIte,rA,p3,p6,p15,aC,aU,aD,d3,d6,sia,siv,lg,lic,lqb,Al,aG,i1,i3,hs2,he1];refine⟨hh1,by rw[nn1,hlen],fun j hj=>?_⟩;rw[if_neg (by omega),if_neg (by omega),if_neg (by omega),if_neg (by omega),if_neg (by omega),if_neg (by omega),if_neg (by omega)]
 rintro F' S' ps hs' ls ⟨rfl,hZ,nZ,hk,pA,pB⟩ hlast hld;have m1:∀i,i<7→Nat.testBit 127 i=true:=by decide
 have q6:aB 6 F'= .ptr ic 0:=(hk 6 (by omega)).trans p6;obtain⟨U,hU⟩:∃U:St,U=⟨S'.h.set (X.nx+6) (some (.cells [.int .i64 (infoAt g (r:Int)).player,.int .i64 (infoAt g (r:Int)).actions] false 0)),S'.nx⟩:=⟨_,rfl⟩;have nU:U.nx=X.nx+9:=by rw[hU];exact nZ
 have sUx:Same X U:=⟨by omega,fun c hc=>by rw[hU];simp only;rw[T.get_set,if_neg (by omega),hZ]⟩;have gU:U.h.get (X.nx+6)=some (.cells [.int .i64 (infoAt g (r:Int)).player,.int .i64 (infoAt g (r:Int)).actions] false 0):=by rw[hU];simp only;rw[T.get_set,if_pos rfl]
 have hLU:=hL.same sUx;obtain⟨v',V,eA,aV,nV,kV,bV⟩:=hLU.inf.push (bytes:=16) (x:=.sl (X.nx+6) 0 1 1 false) (a:=infoAt g (r:Int)) (by decide) (by omega) rfl (aLt gU rfl) rfl (show aMs [.int .i64 (infoAt g (r:Int)).player,.int .i64 (infoAt g (r:Int)).actions] (infoAt g (r:Int)) from rfl) (by rw[Aj];unfold room;omega) (by rw[Aj];unfold room;omega);obtain⟨kP,kM⟩:=hLU.pushI nV kV bV aV;have giV:V.h.get ic=some (.cells [m.ia] false 0):=(kV ic (by omega) fun e=>hLU.d2 ic e hic).trans ((sUx.2 ic lic).trans gi);unfold aKR;refine jP (v:=v') (S1:=V) (hlast _ m1) (fun call=>?_) ?_
 ·rw[dF (show Nat.testBit 127 6=true by decide),iG];simp only[fD,pA,pB];rw[←hU];exact eA
 rw[dF (show Nat.testBit 127 6=true by decide)];have gAc:v'.cells=some [v']:=aV.cells;refine jP (v:=.undef) (S1:=⟨V.h.set ic (some (.cells [v'] false 0)),V.nx⟩) (show Nat.testBit 255 7=true by decide) (fun call=>?_) ?_
 ·rw[dN];simp only[fD,cE,rE,↓reduceIte,bE,gAc,aK,q6];exact stc (cs:=[m.ia]) (p:=0) (S:=V) giV (show 0<1 by omega)
 rw[fZ];refine⟨?_,?_⟩
 ·simp only[Bz,Cd,Di,Cf,Cc];exact hld _ _ _ m1
 ·simp only[bE,eF];have kS:∀c,c≠ic→(V.h.set ic (some (.cells [v'] false 0))).get c=V.h.get c:=fun c hc=>by rw[T.get_set,if_neg hc]
  refine hQ _ _ v' (fun j hj=>?_) (kP.local (Ah _) fun c _ hc _=>kS c fun e=>hc (by rw[e];exact hic)) (((fY.same sUx).trans kM).trans (.off (Ah _) fun c _ hp=>kS c fun e=>hp.1 (by rw[e];exact hic))) (by simp only;rw[T.get_set,if_pos rfl]) fun c hc hw hne=>?_
  ·rw[cE,if_neg (by omega)];exact hk j hj
  ·simp only;rw[kS c hne];exact(kV c (by omega) fun e=>hLU.d2 c e hw).trans (sUx.2 c hc)
theorem aKo{W P:Nat→Prop}{g:aR}{S0 X:St}{F:Fr}{inr:Bool}{nc i:Nat}{m:LyS}{a:dG}{v:AV}{w:Int}{ops:List AO}{Q:Out→bH→St→Prop}(he:ops=aIt++aIa)(hL:oV W P g S0 X m)(hS:S0.nx≤X.nx)(hi:m.l[i]? =some (a,v))(ha:a.next.length≤100000)(p1:aB 1 F= .ptr nc 0)(p10:aB 10 F= .int .i64 (i:Int))(p20:aB 20 F= .int .i64 w)
  (gn:X.h.get nc=some (.cells [m.na] false 0)) (hnc:W nc)
  (hQ:∀F' Z v',(∀j,j<110→aB j F'=aB j F)→oV W P g S0 Z {m with l:=m.l.set i ({a with next:=a.next++ [w]},v')}→fY W m X {m with l:=m.l.set i ({a with next:=a.next++ [w]},v')} Z→(∀c,c<X.nx→W c→Z.h.get c=X.h.get c)→Q .normal ⟨F',inr⟩ Z):iH fns (.drw ops) ⟨F,inr⟩ X Q:=by
 subst he;have lnc:nc<X.nx:=(hL.wg nc hnc).2;have d1:=eE (p:=0) gn rfl;have sna:=hL.nod.self;obtain⟨b,p,k1,k2,k3,k4,hG⟩:=hL.row_at hi;have hrow:=fun {c} (hc:bD v=some c)=>hL.row_of hi hc;have n1:bD v≠some nc:=fun e=>(hrow e).2.1 hnc;have nb:bD v≠some b:=fun e=>(hrow e).2.2.1 k2;have srv:=hG.self;have he1:=fun(F:Fr) (id:Nat) (h:aB 117 F= .int .i64 w)=>mH (t:=3) (z:=.int .i64 0) (x:=.t 117) (F:=F) (id:=id) (k:=.i64) (n:=w) h;refine nQ (W:=fun c=>bD v=some c) (pre:=aIt) (suf:=aIa) (K:=12) (R:=fun F' V ps=>ps= []∧(∀j,j<110→aB j F'=aB j F)∧aB 121 F'= .ptr b (p+3)∧∃rv',aB 119 F'=rv'∧X.nx≤V.nx∧(∀c,c<X.nx→bD v≠some c→V.h.get c=X.h.get c)∧fP 1 S0 V rv' (a.next++ [w]).length (aP (a.next++ [w]))∧∃b',bD rv'=some b'∧X.nx≤b'∧b'<V.nx) rfl rfl rfl (fun X1 x1 hh1 nn1=>?_) ?_
 ·unfold aIt;simp only[↓sU,sD,rE,↓reduceIte,rA,p1,p10,p20,aC,aU,aD,d1,k1,k4,lnc,k3,n1,nb,Al,sna,srv,aG,he1];have hf1:cF 508 [⟨8,X.nx+8,.cells [.int .i64 w] false 0⟩] X1.h=([],X1.h.set (X.nx+8) (some (.cells [.int .i64 w] false 0))):=dF (m:=508) rfl;have nX1:X.nx+13≤X1.nx:=by rw[nn1];exact Ah _
  obtain⟨U,hU⟩:∃U:St,U=⟨X1.h.set (X.nx+8) (some (.cells [.int .i64 w] false 0)),X1.nx⟩:=⟨_,rfl⟩;have nU:U.nx=X1.nx:=by rw[hU]
  have kU:∀c,c<X.nx→U.h.get c=X.h.get c:=fun c hc=>by rw[hU];simp only;rw[T.get_set,if_neg (by omega),hh1]
  have sUu:Same X U:=⟨by omega,kU⟩;have gU:U.h.get (X.nx+8)=some (.cells [.int .i64 w] false 0):=by rw[hU];simp only;rw[T.get_set,if_pos rfl]
  have hGU:=hG.step sUu;obtain⟨rv',V,eA,gA,bA,nA,rA⟩:=fP.push (bytes:=8) (S0:=⟨U.h,S0.nx⟩) (S:=U) (t:=X.nx+8) (w:=w) hGU ⟨by show S0.nx≤U.nx;omega,fun _ _=>rfl⟩ gU (by unfold room;omega) (by unfold room;omega);refine qF (r:=rv') (S1:=V) rfl ?_ ?_ ?_
  ·simp only[↓sU,sD,rE,↓reduceIte,rA];rw[hf1,←hU];exact eA
  ·rw[hf1,←hU];exact⟨by omega,fun c hc hcm=>rA c (by omega) hcm⟩
  rw[hf1];simp only[↓sU,sD,rE,↓reduceIte,rA,aG,k1,aC,aU,aD,Al];refine⟨fun j hj=>?_,rv',rfl,by omega,fun c hc hcm=>(rA c (by omega) hcm).trans (kU c hc),by exact gA,U.nx,bA,by omega,by omega⟩
  repeat rw[if_neg (by omega)]
 ·rintro F' V ps hs' ls ⟨rfl,hk,p121,rv',p119,nV,kV,gV,b',hb1,hb2,hb3⟩ hlast hld;have m1:∀i,i<12→Nat.testBit 4095 i=true:=by decide
  have hrc:rv'.cells=some [rv']:=fP.cells gV;obtain⟨bb,pp,Z,z1,z2,z3,z4,z5,z6,z7,z8⟩:=hL.row (v':=rv') (w:=w) (X':=V) hi nV kV gV fun c hc=>by rw[hb1] at hc;cases hc;exact hb2
  rw[k1] at z1;cases z1;unfold aIa;refine jP (v:=.undef) (S1:=Z) (hlast _ m1) (fun call=>?_) ?_
  ·rw[dN];simp only[fD,p121,p119,bE,hrc,aK];exact z4
  rw[fZ];refine⟨?_,?_⟩
  ·simp only[Bz];exact hld _ _ _ m1
  ·simp only[bE,eF];refine hQ _ _ rv' hk z7 z8 fun c hc hw=>?_;rw[z6 c fun e=>(hL.d1 b k2).1 (by rw[←e];exact hw)];exact kV c hc fun e=>(hrow e).2.1 hw
def encI(n:Nat):AV:=.int .i64 (n:Int)
theorem aKd(a b:Nat):eqv (.p .int) (encI a) (encI b)=some (decide (a=b)):=by
 show bN (keq .i64 .i64) (some (ieq (a:Int) (b:Int))) none=_;rw[fC,aQ,iL];by_cases e:a=b
 ·rw[Ac e,e,Eb]
 ·rw[Aa e,beq_eq_false_iff_ne.2 (by omega)]
def aDX(reps:List Nat)(r:Nat):Option Nat:=if r∈reps then some (reps.idxOf r) else none
theorem aJw{reps:List Nat}{r:Nat}(h:r∉reps):nJ (aDX reps) r reps.length=aDX (reps++ [r]):=by
 funext q;unfold nJ aDX;rw[List.idxOf_append];by_cases e:q=r
 ·subst e;rw[if_pos rfl,if_pos (by simp),if_neg h];simp
 ·rw[if_neg e];by_cases hq:q∈reps
  ·rw[if_pos hq,if_pos (by simp [hq]),if_pos hq]
  ·rw[if_neg hq,if_neg (by simp [hq,e])]
structure LC where
 (nc ic qb mb pc mc fc gb lb:Nat) (pv nv iv fv av:AV)
def LC.fn(C:LC):AV:=.fn 139 [] [.ptr C.nc 0,.ptr C.pc 0,.ptr C.gb 0,.ptr C.lb 0,.ptr C.mc 0,.ptr C.ic 0,.ptr C.fc 0]
def LC.W(C:LC)(c:Nat):Prop:=c=C.nc∨c=C.ic∨c=C.qb∨c=C.mb
structure pQ(C:LC)(P:Nat→Prop)(g:aR)(S0 X:St)(m:LyS)(pl:List Int):Prop where
 b:oV C.W P g S0 X m
 gn:X.h.get C.nc=some (.cells [m.na] false 0)
 gi:X.h.get C.ic=some (.cells [m.ia] false 0)
 gq:X.h.get C.qb=some (.cells (aP pl) false 0)
 gm:aC5 encI encI X.h C.mb (aDX m.reps)
 gp:X.h.get C.pc=some (.cells [.sl C.qb 0 g.nodes.length g.nodes.length false] false 0)
 gc:X.h.get C.mc=some (.cells [.map C.mb] false 0)
 gf:X.h.get C.fc=some (.cells [C.fn] false 0)
 gg:X.h.get C.gb=some (.cells [C.pv,C.nv,C.iv] false 0)
 gl:X.h.get C.lb=some (.cells [C.fv,C.av] false 0)
 kp:oK C.W m C.pc∧C.pc<X.nx
 kc:oK C.W m C.mc∧C.mc<X.nx
 kf:oK C.W m C.fc∧C.fc<X.nx
 lg:C.gb<S0.nx
 ll:C.lb<S0.nx
 n1:C.nc≠C.ic∧C.nc≠C.qb∧C.nc≠C.mb∧C.ic≠C.qb∧C.ic≠C.mb∧C.qb≠C.mb
 pll:pl.length=g.nodes.length
 s:Same S0 X
section
variable {C:LC}{P P':Nat→Prop}{g:aR}{S0 X X':St}{m m':LyS}{pl:List Int}
theorem LC.wn:C.W C.nc:=.inl rfl
theorem LC.wi:C.W C.ic:=.inr (.inl rfl)
theorem LC.wq:C.W C.qb:=.inr (.inr (.inl rfl))
theorem LC.wm:C.W C.mb:=.inr (.inr (.inr rfl))
theorem pQ.next(h:pQ C P g S0 X m pl)(hb:oV C.W P' g S0 X' m')(K:fY C.W m X m' X'){pl':List Int}(hpl:pl'.length=pl.length)(gn:X'.h.get C.nc=some (.cells [m'.na] false 0))(gi:X'.h.get C.ic=some (.cells [m'.ia] false 0))(gq:X'.h.get C.qb=some (.cells (aP pl') false 0))(gm:aC5 encI encI X'.h C.mb (aDX m'.reps)):pQ C P' g S0 X' m' pl':=by
 have l0:=h.s.1;have kp:=K.2 _ h.kp.2 h.kp.1;have kc:=K.2 _ h.kc.2 h.kc.1;have kf:=K.2 _ h.kf.2 h.kf.1;have kg:=K.2 C.gb (Ae h.lg l0) (h.b.low h.lg);have kl:=K.2 C.lb (Ae h.ll l0) (h.b.low h.ll);exact⟨hb,gn,gi,gq,gm,kp.1.trans h.gp,kc.1.trans h.gc,kf.1.trans h.gf,kg.1.trans h.gg,kl.1.trans h.gl,⟨kp.2,Ae h.kp.2 K.1⟩,⟨kc.2,Ae h.kc.2 K.1⟩,⟨kf.2,Ae h.kf.2 K.1⟩,h.lg,h.ll,h.n1,hpl.trans h.pll,h.b.same0 K h.s⟩
theorem aC5.move{K V:Type} [DecidableEq K]{ek:K→AV}{ev:V→AV}{h h':Ev.T AB}{b:Nat}{f:K→Option V}(hm:aC5 ek ev h b f)(e:h'.get b=h.get b):aC5 ek ev h' b f:=by
 obtain⟨l,h1,h2⟩:=hm;exact⟨l,e.trans h1,h2⟩
theorem pQ.same(h:pQ C P g S0 X m pl)(hs:Same X X'):pQ C P g S0 X' m pl:=
 have w:=h.b.wg
 h.next (h.b.same hs) (.same hs) rfl ((hs.2 _ (w _ LC.wn).2).trans h.gn) ((hs.2 _ (w _ LC.wi).2).trans h.gi) ((hs.2 _ (w _ LC.wq).2).trans h.gq) (h.gm.move (hs.2 _ (w _ LC.wm).2))
theorem pQ.but{xb:Nat}(h:pQ C P g S0 X m pl)(hx:oK C.W m xb)(hp:¬P xb)(hc:xb≠C.pc∧xb≠C.mc∧xb≠C.fc∧S0.nx≤xb)(hs:bS xb X X'):pQ C P g S0 X' m pl:=by
 have w:=h.b.wg;have hw:∀ {c},C.W c→c≠xb:=fun hw e=>hx.1 (by rw[←e];exact hw);have lg:=h.lg;have ll:=h.ll;have l0:=h.s.1;have k:∀c,c<X.nx→c≠xb→X'.h.get c=X.h.get c:=fun c hl hn=>hs.2 c hl hn;exact⟨h.b.local hs.1 fun c hl _ hpc=>k c hl fun e=>hp (by rw[←e];exact hpc (by rw[e];exact hx)),(k _ (w _ LC.wn).2 (hw LC.wn)).trans h.gn,(k _ (w _ LC.wi).2 (hw LC.wi)).trans h.gi,(k _ (w _ LC.wq).2 (hw LC.wq)).trans h.gq,h.gm.move (k _ (w _ LC.wm).2 (hw LC.wm)),(k _ h.kp.2 (Bq hc.1)).trans h.gp,(k _ h.kc.2 (Bq hc.2.1)).trans h.gc,(k _ h.kf.2 (Bq hc.2.2.1)).trans h.gf,(k _ (by omega) (by omega)).trans h.gg,(k _ (by omega) (by omega)).trans h.gl,⟨h.kp.1,Ae h.kp.2 hs.1⟩,⟨h.kc.1,Ae h.kc.2 hs.1⟩,⟨h.kf.1,Ae h.kf.2 hs.1⟩,h.lg,h.ll,h.n1,h.pll,⟨Ak l0 hs.1,fun c hl=>(k c (by omega) (by omega)).trans (h.s.2 c hl)⟩⟩
theorem pQ.mono(h:pQ C P g S0 X m pl)(hP:∀c,c<X.nx→P c→P' c):pQ C P' g S0 X m pl:=
 ⟨h.b.mono hP,h.gn,h.gi,h.gq,h.gm,h.gp,h.gc,h.gf,h.gg,h.gl,h.kp,h.kc,h.kf,h.lg,h.ll,h.n1,h.pll,h.s⟩
end
def LyT(C:LC)(F:Fr):Prop:=aB 1 F= .ptr C.nc 0∧aB 2 F= .ptr C.pc 0∧aB 3 F= .ptr C.gb 0∧aB 4 F= .ptr C.lb 0∧aB 5 F= .ptr C.mc 0∧aB 6 F= .ptr C.ic 0∧aB 7 F= .ptr C.fc 0
def HdJ(C:LC)(P:Nat→Prop)(g:aR)(S0 Xe:St)(m:LyS)(pl first row next:List Int)(s xb:Nat)(k p xa xw xp v12 x10:AV)(o:Out)(A:bH)(Z:St):Prop:=o= .normal∧A.inr=false∧∃m',pQ C P g S0 Z m' pl∧m'.l=m.l∧m'.reps=(lC m.reps (first.getD s 0).toNat).1∧fY C.W m Xe m' Z∧Z.h.get xb=some (.cells [k,p,.int .i64 ((lC m.reps (first.getD s 0).toNat).2:Int),xa,xw,xp] false 0)∧oK C.W m' xb∧xb<Z.nx∧bK .i64 Z v12 (oE row next next.length)∧(∀c,bD v12=some c→oK C.W m' c∧c≠xb)∧LyT C A.F∧aB 10 A.F=x10∧aB 11 A.F= .ptr xb 0∧aB 12 A.F=v12
theorem aNs{C:LC}{P:Nat→Prop}{g:aR}{S0 Xe X0 X1:St}{m:LyS}{pl first:List Int}{act:List (List Int)}{F:Fr}{s xb cb:Nat}{k p xa xw xp x10:AV}{next:List Int}(hS:pQ C P g S0 X1 m pl)(hPnx:¬P xb)(hXe:fY C.W m Xe m X1)(hex:Xe.nx≤xb)(h01:Same X1 X0)(hcb:X1.nx≤cb)(hcl:cb<X0.nx)(hxb:S0.nx≤xb)(hxl:xb<X1.nx)(hxp:oK C.W m xb)(hxc:xb≠C.pc∧xb≠C.mc∧xb≠C.fc)
  (ha:aH 1 iX S0 C.av act) (hf:bK .i64 S0 C.fv first) (hi:aH 2 cA S0 C.iv g.infos) (hn:bK .i64 S0 xa next) (hnl:next.length≤100000) (hs:s<act.length) (hs':s<first.length) (hrl:(act.getD s []).length=next.length) (hrow:∀a,a<next.length→∃b:Nat,(act.getD s []).getD a 0=(b:Int)∧b<next.length) (hfr:∃r:Nat,first.getD s 0=(r:Int)∧r<g.infos.length) (hreps:m.reps.length≤100000)
  (gx:X1.h.get xb=some (.cells [k,p,.int .i64 (s:Int),xa,xw,xp] false 0)) (gc:X0.h.get cb=some (.cells (aP next) true 1)) (hT:LyT C F) (p10:aB 10 F=x10) (p11:aB 11 F= .ptr xb 0) (p12:aB 12 F= .sl cb 0 next.length next.length true):
  iH fns aOt ⟨F,false⟩ X0 (HdJ C P g S0 Xe m pl first (act.getD s []) next s xb k p xa xw xp (.sl cb 0 next.length next.length true) x10):=by
 obtain⟨p1,p2,p3,p4,p5,p6,p7⟩:=hT;obtain⟨r,hr,hrl'⟩:=hfr;have l01:=hS.s;have hn1:=hn.same hS.s;have gx0:=(h01.2 _ hxl).trans gx;refine aA (aY (Q:=fun oo A' X=>oo= .normal∧aNK X1 cb next.length true 1 (act.getD s []) next xa F 0 A' X) (aA (aJ ?_)) ?_)
 ·simp only[↓sU,sD,rE,↓reduceIte,rA,p11,aC,aD,cT gx0,hn1.len,Ag];refine aY (aM4 (X1:=X1) (xw:=xw) (xp:=xp) (vk:=k) (vp:=p) (lb:=C.lb) (xb:=xb) (s:=s) (fv:=C.fv) (av:=C.av) (act:=act) h01 hcb hcl (aH.same (E:=iX) firm_sl ha l01) hn1 hnl hs hrl hrow hS.gl gx (Ae hS.ll l01.1) hxl gc (by simp only[↓sU,sD,rE,↓reduceIte,rA,p4]) (by simp only[↓sU,sD,rE,↓reduceIte,rA,p11]) (by simp only[↓sU,sD,rE,↓reduceIte,rA,p12]) (by simp only[↓sU,sD,rE,↓reduceIte,rA]) (by simp only[↓sU,sD,rE,↓reduceIte,rA]) (by simp only[↓sU,sD,rE,↓reduceIte,rA];try rfl)) ?_;rintro o A' X ⟨h1,h2,h3,a,h4,h5,h6,h7,h8,h9,h10⟩;refine⟨h1,h2,h3,a,h4,h5,h6,fun j hj=>(h7 j hj).trans ?_,h8,h9,h10⟩;rcases aKv hj with rfl | rfl | rfl | rfl | rfl | rfl | rfl | rfl | rfl | rfl | rfl | rfl | rfl<;>simp only[↓sU,sD,rE,↓reduceIte,rA]
 rintro o ⟨F2,inr⟩ X2 ⟨rfl,q0,h12,a,hak,gc2,hcl2,hk, -, -, -⟩;simp only at q0 hk;subst q0;obtain rfl:a=next.length:=by omega
 have hS2:=hS.same h12;have gx2:=(h12.2 _ hxl).trans gx;have q1:=(hk 1 (by omega)).trans p1;have q2:=(hk 2 (by omega)).trans p2;have q3:=(hk 3 (by omega)).trans p3;have q4:=(hk 4 (by omega)).trans p4;have q5:=(hk 5 (by omega)).trans p5;have q6:=(hk 6 (by omega)).trans p6;have q7:=(hk 7 (by omega)).trans p7;have q10:=(hk 10 (by omega)).trans p10;have q11:=(hk 11 (by omega)).trans p11;have q12:=(hk 12 (by omega)).trans p12;obtain⟨fb,fq,f1,f2,f3⟩:=iQ (hf.same hS2.s) hs';rw[hr] at f3;have hrt:(first.getD s 0).toNat=r:=by omega
 have B1:fY C.W m X1 m X2:=.same h12;have lf4:=eE (p:=0) hS2.gl rfl;have lf5:=eE (p:=0) hS2.gc rfl;have fcb:oK C.W m cb:=hS.b.fresh hcb;have nbx:cb≠xb:=by omega
 refine bQ ?_;simp only[↓sU,sD,rE,↓reduceIte,rA,q4,q11,aC,aD,lf4,cQ gx2,aG,f1,f3];refine bQ ?_;have hlk:∀F:Fr,aB 66 F= .map C.mb→aB 67 F= .int .i64 (r:Int)→fV (.lookup (.p .int) (.int .i64 0) true (.t 66) (.t 67)) F X2.h=some (.tup [.int .i64 (match aDX m.reps r with | some i=>(i:Int) | none=>0),.bool (decide (r∈m.reps))]):=fun F a b=>by
  rw[aHW (m:=.t 66) (x:=.t 67) aKd hS2.gm a b];unfold aDX;by_cases e:r∈m.reps
  ·rw[if_pos e,Ac e];rfl
  ·rw[if_neg e,Aa e]
 simp only[↓sU,sD,rE,↓reduceIte,rA,q5,lf5,hlk,uW,vE];refine aA (aY (Q:=fun o A' Z=>o= .normal∧A'.inr=false∧∃m',pQ C P g S0 Z m' pl∧m'.l=m.l∧m'.reps=(lC m.reps r).1∧fY C.W m X2 m' Z∧aB 16 A'.F= .int .i64 ((lC m.reps r).2:Int)∧∀j,j<13→aB j A'.F=aB j F2) (aA (aJ ?_)) ?_)
 ·by_cases e:r∈m.reps
  ·simp only[↓sU,sD,rE,↓reduceIte,rA,Ac e,gE,Cz];refine aN (by simp only[↓sU,sD,rE,↓reduceIte,rA]) (aI ?_);refine⟨rfl,rfl,m,hS2,rfl,by unfold lC;rw[if_pos e],.refl,?_,fun j hj=>?_⟩
   ·simp only[↓sU,sD,rE,↓reduceIte,rA];unfold aDX lC;rw[if_pos e,if_pos e]
   ·rcases aKv hj with rfl | rfl | rfl | rfl | rfl | rfl | rfl | rfl | rfl | rfl | rfl | rfl | rfl<;>simp only[↓sU,sD,rE,↓reduceIte,rA]
  ·simp only[↓sU,sD,rE,↓reduceIte,rA,Aa e,gE,Ee];refine aO (by simp only[↓sU,sD,rE,↓reduceIte,rA]) ?_;have lf6:=eE (p:=0) hS2.gi rfl;refine bQ ?_;have hil:=hS2.b.inf.len;rw[Aj] at hil;simp only[↓sU,sD,rE,↓reduceIte,rA,q6,lf6,hil];obtain⟨V,eV,nV,kV,mV⟩:=aGR (S:=X2) aKd hS2.gm r m.reps.length;rw[aJw e] at mV;refine bQ ?_;simp only[↓sU,sD,rE,↓reduceIte,rA,q5,lf5];refine fJ (v:=.undef) (S1:=V) (fun call=>?_) ?_
   ·rw[aJM];simp only[↓sU,sD,rE,↓reduceIte,rA];exact eV
   simp only[↓sU,sD,rE,↓reduceIte,rA];have wg:=hS2.b.wg;obtain⟨d1,d2,d3,d4,d5,d6⟩:=hS.n1;have lV:=Et nV.symm;have hbV:oV C.W P g S0 V m:=hS2.b.local lV fun c _ hw _=>kV c fun e=>hw (by rw[e];exact LC.wm);have KV:fY C.W m X2 m V:=.off lV fun c _ hp=>kV c fun e=>hp.1 (by rw[e];exact LC.wm);have ggV:=(kV C.gb fun e=>((hS2.b.low (c:=C.gb) hS2.lg).1 (by rw[e];exact LC.wm))).trans hS2.gg;have giV:=(kV _ d5).trans hS2.gi;have sV:Same S0 V:=hS2.b.same0 KV hS2.s;refine aLR (W:=C.W) (g:=g) (S0:=S0) (X:=V) (gb:=C.gb) (ic:=C.ic) (m:=m) (r:=r) rfl hbV sV.1 (by simp only[↓sU,sD,rE,↓reduceIte,rA,q3]) (by simp only[↓sU,sD,rE,↓reduceIte,rA,q6]) (by simp only[↓sU,sD,rE,↓reduceIte,rA]) ggV giV (Ae hS2.lg sV.1) LC.wi (aH.same (E:=cA) bO hi sV) hrl' hreps ?_;intro F' Z ia' hk' hbZ KZ giZ kZ;have kw:∀c,C.W c→c≠C.ic→Z.h.get c=V.h.get c:=fun c hw hne=>kZ c (by have:=(wg c hw).2;omega) hw hne;refine⟨rfl,rfl,{m with ia:=ia',reps:=m.reps++ [r]},hS2.next hbZ (KV.trans KZ) rfl ?_ giZ ?_ ?_,rfl,?_,KV.trans KZ,?_,fun j hj=>?_⟩
   ·exact(kw _ LC.wn d1).trans ((kV _ d3).trans hS2.gn)
   ·exact(kw _ LC.wq (Bq d4)).trans ((kV _ d6).trans hS2.gq)
   ·exact mV.move (kw _ LC.wm (Bq d5))
   ·unfold lC;rw[if_neg e]
   ·rw[hk' 16 (by omega)];unfold lC;rw[if_neg e];simp only[↓sU,sD,rE,↓reduceIte,rA]
   ·rw[hk' j (by omega)];rcases aKv hj with rfl | rfl | rfl | rfl | rfl | rfl | rfl | rfl | rfl | rfl | rfl | rfl | rfl<;>simp only[↓sU,sD,rE,↓reduceIte,rA]
 rintro o ⟨F3,inr⟩ Z ⟨rfl,q0,m',hZ,e1,e2,KZ,p16,hk3⟩;simp only at q0 p16 hk3;subst q0;have hPx:oK C.W m xb:=hxp;have gxZ:=(KZ.2 xb (by have:=h12.1;omega) hxp).1.trans gx2;have pxZ:=(KZ.2 xb (by have:=h12.1;omega) hxp).2;have gcZ:=(KZ.2 cb hcl2 fcb).1.trans gc2;have pcZ:=(KZ.2 cb hcl2 fcb).2;have r11:=(hk3 11 (by omega)).trans q11;have hxc':xb≠C.pc∧xb≠C.mc∧xb≠C.fc∧S0.nx≤xb:=⟨hxc.1,hxc.2.1,hxc.2.2,hxb⟩;refine aJ ?_;simp only[↓sU,sD,rE,↓reduceIte,rA,p16,r11,aC,aD];refine fJ (v:=.undef) (S1:=⟨Z.h.set xb (some (.cells [k,p,.int .i64 ((lC m.reps r).2:Int),xa,xw,xp] false 0)),Z.nx⟩) (fun call=>?_) ?_
 ·simp only[↓sU,sD,rE,↓reduceIte,rA,dN,cO];exact stc (cs:=[k,p,.int .i64 (s:Int),xa,xw,xp]) (p:=2) (S:=Z) gxZ (by simp)
 simp only[↓sU,sD,rE,↓reduceIte,rA];have hsb:bS xb Z ⟨Z.h.set xb (some (.cells [k,p,.int .i64 ((lC m.reps r).2:Int),xa,xw,xp] false 0)),Z.nx⟩:=(bS.refl xb Z).put _;have hw:=hZ.but pxZ hPnx hxc' hsb;have hne:cb≠xb:=nbx;have hE:fY C.W m Xe m' ⟨Z.h.set xb (some (.cells [k,p,.int .i64 ((lC m.reps r).2:Int),xa,xw,xp] false 0)),Z.nx⟩:=by
  have t:fY C.W m Xe m X2:=hXe.trans (.same h12);refine⟨Ak t.1 KZ.1,fun c hc hp=>?_⟩;have h1:=KZ.2 c (Ae hc t.1) hp;refine⟨?_,h1.2⟩;simp only;rw[T.get_set,if_neg (by omega),h1.1];exact(t.2 c hc hp).1
 rw[←hrt] at e2;have gcW:(Z.h.set xb (some (.cells [k,p,.int .i64 ((lC m.reps r).2:Int),xa,xw,xp] false 0))).get cb=some (.cells (aP (oE (act.getD s []) next next.length)) true 1):=by
  rw[T.get_set,if_neg hne];exact gcZ
 have hv12:fP 1 X1 ⟨Z.h.set xb (some (.cells [k,p,.int .i64 ((lC m.reps r).2:Int),xa,xw,xp] false 0)),Z.nx⟩ (.sl cb 0 next.length next.length true) (oE (act.getD s []) next next.length).length (aP (oE (act.getD s []) next next.length)):=.inr ⟨cb,by rw[pU],hcb,by have:=KZ.1;show cb<Z.nx;omega,gcW,by rw[mI,Dh]⟩;refine⟨rfl,rfl,m',hw,e1,e2,hE,by simp only;rw[T.get_set,if_pos rfl,hrt],pxZ,by have:=KZ.1;have:=h12.1;show xb<Z.nx;omega,hv12.is,fun c hc=>by cases hc;exact⟨pcZ,hne⟩,?_,?_,?_,?_⟩
 ·refine⟨?_,?_,?_,?_,?_,?_,?_⟩
  ·simp only[↓sU,sD,rE,↓reduceIte,rA];exact(hk3 1 (by omega)).trans q1
  ·simp only[↓sU,sD,rE,↓reduceIte,rA];exact(hk3 2 (by omega)).trans q2
  ·simp only[↓sU,sD,rE,↓reduceIte,rA];exact(hk3 3 (by omega)).trans q3
  ·simp only[↓sU,sD,rE,↓reduceIte,rA];exact(hk3 4 (by omega)).trans q4
  ·simp only[↓sU,sD,rE,↓reduceIte,rA];exact(hk3 5 (by omega)).trans q5
  ·simp only[↓sU,sD,rE,↓reduceIte,rA];exact(hk3 6 (by omega)).trans q6
  ·simp only[↓sU,sD,rE,↓reduceIte,rA];exact(hk3 7 (by omega)).trans q7
 ·simp only[↓sU,sD,rE,↓reduceIte,rA];exact(hk3 10 (by omega)).trans q10
 ·simp only[↓sU,sD,rE,↓reduceIte,rA];exact r11
 ·simp only[↓sU,sD,rE,↓reduceIte,rA];exact(hk3 12 (by omega)).trans q12
end Go.Ev.Gl
