import Derived.Test.YtoojnpjgnnpllaaGl25
open Nat renaming reduceEqDiff -> rE, reduceAdd -> rA
set_option maxHeartbeats 0
set_option linter.unusedSimpArgs false
set_option linter.unusedVariables false
namespace Go.Ev.Gl
variable {fns:T dY}
def pL(row next:ba):Nat->ba
 | 0=>next
 | a+1=>(pL row next a).set (row.getD a 0).toNat (next.getD a 0)
def eO(act:a9)(x:dP):ba:=if x.kind=2 then pL (act.getD x.info.toNat []) x.next x.next.length else x.next
def kR(da:bg)(r:Nat):bg×Nat:=if r∈da then(da,da.idxOf r) else(da++ [r],da.length)
structure aDe where
 bh:List dP
 olds:bg
 da:bg
def eR(lay:Nat->Nat->bg->aDe):ba->Nat->bg->ba×aDe
 | [],_,da=>([],⟨[],[],da⟩)
 | k::ks,i,da=>((i:Int)::(eR lay ks (i+(lay k.toNat i da).bh.length) (lay k.toNat i da).da).1,⟨(lay k.toNat i da).bh++(eR lay ks (i+(lay k.toNat i da).bh.length) (lay k.toNat i da).da).2.bh,(lay k.toNat i da).olds++(eR lay ks (i+(lay k.toNat i da).bh.length) (lay k.toNat i da).da).2.olds,(eR lay ks (i+(lay k.toNat i da).bh.length) (lay k.toNat i da).da).2.da⟩)
def fB(first:ba)(da:bg)(x:dP):bg×Int:=if x.kind=2 then((kR da (first.getD x.info.toNat 0).toNat).1,((kR da (first.getD x.info.toNat 0).toNat).2:Int)) else(da,x.info)
def fQ(g:aS)(first:ba)(act:a9):Nat->Nat->Nat->bg->aDe
 | 0,_,_,da=>⟨[],[],da⟩
 | f+1,old,i,da=>⟨{b8 g old with info:=(fB first da (b8 g old)).2,next:=(eR (fQ g first act f) (eO act (b8 g old)) (i+1) (fB first da (b8 g old)).1).1}::(eR (fQ g first act f) (eO act (b8 g old)) (i+1) (fB first da (b8 g old)).1).2.bh,old::(eR (fQ g first act f) (eO act (b8 g old)) (i+1) (fB first da (b8 g old)).1).2.olds,(eR (fQ g first act f) (eO act (b8 g old)) (i+1) (fB first da (b8 g old)).1).2.da⟩
def qD:ba->Nat->bg->ba
 | pl,_,[]=>pl
 | pl,i,o::os=>qD (pl.set o (i:Int)) (i+1) os
theorem aEu:∀ {os os':bg} {pl:ba} {i:Nat},qD pl i (os++os')=qD (qD pl i os) (i+os.length) os'
 | [],_,_,_=>rfl
 | o::os,os',pl,i=>by
  show qD (pl.set o (i:Int)) (i+1) (os++os')=qD (qD (pl.set o (i:Int)) (i+1) os) (i+(os.length+1)) os';rw[aEu,show i+1+os.length=i+(os.length+1) by omega]
theorem aD7:∀ {os:bg} {pl:ba} {i:Nat},(qD pl i os).length=pl.length
 | [],_,_=>rfl
 | o::os,pl,i=>by
  show(qD (pl.set o (i:Int)) (i+1) os).length=_;rw[aD7,Aq]
theorem zM{lay:Nat->Nat->bg->aDe}:∀ {l:ba} {k:Int} {i:Nat} {da:bg},eR lay (l++ [k]) i da=((eR lay l i da).1++ [((i+(eR lay l i da).2.bh.length:Nat):Int)],⟨(eR lay l i da).2.bh++(lay k.toNat (i+(eR lay l i da).2.bh.length) (eR lay l i da).2.da).bh,(eR lay l i da).2.olds++(lay k.toNat (i+(eR lay l i da).2.bh.length) (eR lay l i da).2.da).olds,(lay k.toNat (i+(eR lay l i da).2.bh.length) (eR lay l i da).2.da).da⟩)
 | [],k,i,da=>by
  show(_,_)=(_,_);simp [eR]
 | x::l,k,i,da=>by
  rw[Ck]
  conv=>lhs;unfold eR
  rw[zM]
  conv=>rhs;unfold eR
  simp [Cq]
theorem aBs{lay:Nat->Nat->bg->aDe}:∀ {l:ba} {i:Nat} {da:bg},(eR lay l i da).1.length=l.length
 | [],_,_=>rfl
 | x::l,i,da=>by
  unfold eR;simp only[Ax];rw[aBs]
theorem vY{lay:Nat->Nat->bg->aDe}(h:∀o i da,(lay o i da).olds.length=(lay o i da).bh.length):∀ {l:ba} {i:Nat} {da:bg},(eR lay l i da).2.olds.length=(eR lay l i da).2.bh.length
 | [],_,_=>rfl
 | x::l,i,da=>by
  unfold eR;simp only[Ao];rw[h,vY h]
theorem aBT{g:aS}{first:ba}{act:a9}:∀ {f:Nat} {o i:Nat} {da:bg},(fQ g first act f o i da).olds.length=(fQ g first act f o i da).bh.length
 | 0,_,_,_=>rfl
 | f+1,o,i,da=>by
  unfold fQ;simp only[Ax];rw[vY fun o i da=>aBT]
theorem sI{row next:ba}:∀ {n:Nat},(pL row next n).length=next.length
 | 0=>rfl
 | n+1=>by
  unfold pL;rw[Aq,sI]
theorem aJX{row next:ba}(hin:∀a,a<next.length->(row.getD a 0).toNat<next.length)(hinj:∀a b,a<next.length->b<next.length->(row.getD a 0).toNat=(row.getD b 0).toNat->a=b):∀ {n:Nat},n<=next.length->∀a,a<n->(pL row next n).getD (row.getD a 0).toNat 0=next.getD a 0
 | 0,_,a,ha=>absurd ha (Bm a)
 | n+1,hn,a,ha=>by
  unfold pL;rw[gJ (by rw[sI];exact hin n ar)];by_cases e:a=n
  ·subst e;rw[if_pos rfl]
  ·rw[if_neg (fun h=>e (hinj a n ar ar  h))];exact aJX hin hinj ar a ar
theorem aEC{l m:bg}(h:l.Perm m):l.sum=m.sum:=by
 induction h with
 | nil=>rfl
 | cons x _ ih=>rw[Ef,Ef,ih]
 | swap x y l=>rw[Ef,Ef,Ef,Ef];omega
 | trans _ _ a b=>exact a.trans b
theorem aKe{row next:ba}(hin:∀a,a<next.length->(row.getD a 0).toNat<next.length)(hinj:∀a b,a<next.length->b<next.length->(row.getD a 0).toNat=(row.getD b 0).toNat->a=b):(pL row next next.length).Perm next:=by
 have h1:next=((List.range next.length).map fun a=>(row.getD a 0).toNat).map fun i=>(pL row next next.length).getD i 0:=by
  rw[List.map_map];refine Dp (by rw[Aj,Ay]) fun a h1 h2=>?_;rw[List.getElem_map,List.getElem_range];show _=(pL row next next.length).getD (row.getD a 0).toNat 0;rw[aJX hin hinj (Ag _) a h1,Ad,Ab h1];rfl
 have h2:pL row next next.length=(List.range next.length).map fun i=>(pL row next next.length).getD i 0:=by
  refine Dp (by rw[Aj,Ay,sI]) fun a h1 h2=>?_;rw[List.getElem_map,List.getElem_range,Ad,Ab h1];rfl
 have h3:((List.range next.length).map fun a=>(row.getD a 0).toNat).Perm (List.range next.length):=by
  refine(List.perm_ext_iff_of_nodup ?_ List.nodup_range).2 fun x=>?_
  ·unfold List.Nodup;rw[List.pairwise_map];refine List.Pairwise.imp_of_mem (fun {a b} ha hb h e=>h (hinj a b (Da.1 ha) (Da.1 hb) e)) List.nodup_range
  ·rw[Dg,Da];constructor
   ·rintro⟨a,ha,rfl⟩;exact hin a (Da.1 ha)
   ·intro hx;have⟨k,hk,e⟩:=aIT (n:=next.length) (f:=fun a=>(row.getD a 0).toNat) hin hinj x hx;exact⟨k,Da.2 hk,e⟩
 have h4:=h3.map fun i=>(pL row next next.length).getD i 0;rw[<-h1,<-h2] at h4;exact h4.symm
def qA(g:aS)(act:a9):Prop:=act.length=g.bj.length/\∀s,s<g.bj.length->(act.getD s []).length=cG g s/\(∀a,a<cG g s->∃b:Nat,(act.getD s []).getD a 0=(b:Int)/\b<cG g s)/\∀a b,a<cG g s->b<cG g s->(act.getD s []).getD a 0=(act.getD s []).getD b 0->a=b
theorem nC{g:aS}{L:a9}{first:ba}{act:a9}(G:dE g)(hL:∀m∈L,eX g m)(hO:lD g.bj.length (iI g.bj.length (L.map (de g))) first)(hD:¬Dup g L first)(h:qE g L first act):qA g act:=by
 refine⟨h.len,fun s hs=>⟨h.row s hs,fun a ha=>?_,fun a b ha hb e=>?_⟩⟩
 ·have⟨b,e1,e2,_⟩:=h.at_ s a hs ha;exact⟨b,e1,by rw[(aAP G hL (hO.con s hs)).1];exact e2⟩
 ·have⟨x,e1,e2,e3⟩:=h.at_ s a hs ha;have⟨y,k1,k2,k3⟩:=h.at_ s b hs hb;rw[e1,k1] at e;obtain rfl:x=y:=by omega
  rcases Dl a b with hlt | rfl | hlt
  ·exact absurd (aIV G hL hO hs hlt hb (.trans e3 (.symm k3))) hD
  ·rfl
  ·exact absurd (aIV G hL hO hs hlt ha (.trans k3 (.symm e3))) hD
theorem aDV{g:aS}(G:dE g){i:Nat}(hi:i<g.bh.length)(hk:(b8 g i).kind=2):(b8 g i).info.toNat<g.bj.length/\cG g (b8 g i).info.toNat=(b8 g i).next.length/\((b8 g i).info.toNat:Int)=(b8 g i).info:=by
 have⟨h1,h2,h3⟩:=G.inf i hi hk;refine⟨ar,?_,ar⟩;unfold cG;rw[show(((b8 g i).info.toNat:Nat):Int)=(b8 g i).info by omega,h3];omega
theorem jD{g:aS}{act:a9}(G:dE g)(hR:qA g act){i:Nat}(hi:i<g.bh.length):(eO act (b8 g i)).Perm (b8 g i).next:=by
 unfold eO;split
 ·rename_i hk;have⟨h1,h2,_⟩:=aDV G hi hk;have⟨_,h4,h5⟩:=hR.2 _ h1;refine aKe (fun a ha=>?_) fun a b ha hb e=>?_
  ·have⟨b,e1,e2⟩:=h4 a ar;omega
  ·have⟨x,e1,e2⟩:=h4 a ar;have⟨y,k1,k2⟩:=h4 b ar;exact h5 a b ar ar ar
 ·exact List.Perm.refl _
theorem tG{T:List dM}{lay:Nat->Nat->bg->aDe}:∀ {l:ba} (_:∀k∈l,∀i da,(lay k.toNat i da).bh.length<=oC T k.toNat) {i:Nat} {da:bg},(eR lay l i da).2.bh.length<=((l.map Int.toNat).map (oC T)).sum
 | [],_,_,_=>Ag _
 | x::l,h,i,da=>by
  unfold eR;simp only[Ao,Dc,Ef];have h1:=h x (Bv ..) i da;have h2:=tG (l:=l) (fun k hk=>h k (Bk _ hk)) (i:=i+(lay x.toNat i da).bh.length) (da:=(lay x.toNat i da).da);omega
theorem rQ{g:aS}{first:ba}{act:a9}{T:List dM}(G:dE g)(hR:qA g act)(hT:iN g=some T)(hl:T.length=g.bh.length):∀ {f o i:Nat} {da:bg},o<g.bh.length->(fQ g first act f o i da).bh.length<=oC T o
 | 0,_,_,_,_=>Du _
 | f+1,o,i,da,ho=>by
  unfold fQ;simp only[Ax];have hp:=jD G hR ho;have h1:=tG (T:=T) (lay:=fQ g first act f) (l:=eO act (b8 g o)) (fun k hk i da=>rQ G hR hT hl (by
   obtain⟨q,hq,rfl⟩:=Cm (hp.mem_iff.1 hk);have:=G.kids o ho q hq;rw[Ad,Ab hq] at this;simp only[Dq] at this;omega)) (i:=i+1) (da:=(fB first da (b8 g o)).1)
  have h2:=aEk hT hl ho;have h3:=aEC ((hp.map Int.toNat).map (oC T));omega
section
variable {α:Type}{k:Nat}{E E':bf->α->Prop}{S0 X:St}{v:AV}{l:List α}
theorem sJ.fld(h:sJ k E S0 X v l){i q:Nat}{a a':α}{x:AV}(hi:l[i]? =some a)(hq:q<k)(h1:∀ (j:Nat) (b:α) (e:bf),l[j]? =some b->j≠i->E e b->E' e b)(h2:∀e,E e a->E' (e.set q x) a'):
  ∃b p X',dO (.slice k) v i=some (.ptr b p)/\aZ v=some b/\b<X.nx/\sO (.ptr b (p+q)) 1 [x] X=some (.undef,X')/\sJ k E' S0 X' v (l.set i a')/\X'.nx=X.nx/\∀c,c≠b->X'.h.get c=X.h.get c:=by
 have hil:=(Ai.1 hi).1;rcases h with⟨rfl,rfl⟩ | ⟨b,c,cs,rfl,g1,g2,g3,g4,g5,g6,g7⟩
 ·cases hi
 ·have hp:i * k+q+ [x].length<=cs.length:=by
   have:=sP hil hq;have:=Dm k g1;rw[g2];simp only[Bl];omega
  refine⟨b,0+i * k,⟨X.h.set b (some (.cells (cs.take (i * k+q)++ [x]++cs.drop (i * k+q+ [x].length)) true k)),X.nx⟩,?_,rfl,g4,?_,.inr ⟨b,c,cs.take (i * k+q)++ [x]++cs.drop (i * k+q+ [x].length),by rw[Aq],by rw[Aq];exact g1,by simp only[Bl] at hp;simp;omega,g3,g4,fk,g6,fun j a0 hj=>?_⟩,rfl,fun c' hne=>by simp only;rw[di,if_neg hne]⟩
  ·show bQ (Nat.blt i l.length) _ _=_;rw[show Nat.blt i l.length=true from Av hil,aR]
  ·rw[An];exact aLS g5 hp rfl
  ·rw[Cu] at hj;split at hj
   ·rename_i e0;subst e0;try rw[if_pos hil] at hj
    cases hj;have⟨e,e1,e2,e3⟩:=g7 i a hi;refine⟨e.set q x,by rw[Aq,e1],fun r y hr=>?_,h2 e e3⟩;have hrk:r<k:=by
     have:=(Ai.1 hr).1;rw[Aq,e1] at this;exact this
    rw[Cu] at hr;rw[uJ hp];split at hr
    ·rename_i e0;subst e0;try rw[if_pos (show q<e.length by omega)] at hr
     cases hr;rw[if_neg ar,if_pos (by simp),Eh];rfl
    ·rename_i hne;have h3:=e2 r y hr;by_cases hlt:r<q
     ·rw[if_pos ar];exact h3
     ·rw[if_neg ar,if_neg (by simp only[Bl];omega)];exact h3
   ·rename_i hne;have⟨e,e1,e2,e3⟩:=g7 j a0 hj;refine⟨e,e1,fun r y hr=>?_,h1 j a0 e hj (fun e=>hne e.symm) e3⟩;have hrk:r<k:=by rw[<-e1];exact(Ai.1 hr).1
    have h3:=e2 r y hr;rw[uJ hp];rcases Nat.lt_or_gt_of_ne hne with h4 | h4
    ·have:=sP h4 hq;have:(i+1) * k<=j * k:=Dm k h4;rw[Ec,Nat.one_mul] at this;rw[if_neg ar,if_neg (by simp only[Bl];omega)];exact h3
    ·have:(j+1) * k<=i * k:=Dm k h4;rw[Ec,Nat.one_mul] at this;rw[if_pos ar];exact h3
end
structure LyS where
 na:AV
 ia:AV
 l:List (dP×AV)
 da:bg
def pI(W:Nat->Prop)(m:LyS)(c:Nat):Prop:=¬W c/\aZ m.na≠some c/\aZ m.ia≠some c/\∀a∈m.l,aZ a.2≠some c
def NdE(S0 X:St)(P:Nat->Prop)(e:bf)(a:dP×AV):Prop:=∃xw xp,e= [.int .i64 a.1.kind,.int .i64 a.1.player,.int .i64 a.1.info,a.2,xw,xp]/\fY 1 S0 X a.2 a.1.next.length (aU a.1.next)/\bI .i64 X xw a.1.weights/\bI .i64 X xp a.1.pay/\∀c,(aZ xw=some c\/aZ xp=some c)->P c
theorem NdE.move{S0 X X':St}{P P':Nat->Prop}{e:bf}{a:dP×AV}(h:NdE S0 X P e a)(hn:X.nx<=X'.nx)(hr:∀c,aZ a.2=some c->X'.h.get c=X.h.get c)(hh:∀c,c<X.nx->P c->X'.h.get c=X.h.get c/\P' c):NdE S0 X' P' e a:=by
 obtain⟨xw,xp,rfl,h1,h2,h3,h4⟩:=h;refine⟨xw,xp,rfl,h1.move hn hr,eT h2 hn fun c hc=>(hh c (eU h2 hc) (h4 c (.inl hc))).1,eT h3 hn fun c hc=>(hh c (eU h3 hc) (h4 c (.inr hc))).1,fun c hc=>?_⟩;rcases hc with hc | hc
 ·exact(hh c (eU h2 hc) (h4 c (.inl hc))).2
 ·exact(hh c (eU h3 hc) (h4 c (.inr hc))).2
structure qC(W P:Nat->Prop)(g:aS)(S0 X:St)(m:LyS):Prop where
 nod:sJ 6 (NdE S0 X fun c=>pI W m c/\P c) S0 X m.na m.l
 inf:sJ 2 aNF S0 X m.ia (m.da.map fun r:Nat=>cd g (r:Int))
 rn:∀a∈m.l,∀c,aZ a.2=some c->(S0.nx<=c/\c<X.nx)/\¬W c/\aZ m.na≠some c/\aZ m.ia≠some c
 dj:∀ (i j:Nat) (a b:dP×AV),i≠j->m.l[i]? =some a->m.l[j]? =some b->∀c,aZ a.2=some c->aZ b.2≠some c
 d1:∀c,aZ m.na=some c->¬W c/\aZ m.ia≠some c
 d2:∀c,aZ m.ia=some c->¬W c
 wg:∀c,W c->S0.nx<=c/\c<X.nx
def gL(W:Nat->Prop)(m:LyS)(X:St)(m':LyS)(X':St):Prop:=X.nx<=X'.nx/\∀c,c<X.nx->pI W m c->X'.h.get c=X.h.get c/\pI W m' c
section
variable {W P:Nat->Prop}{g:aS}{S0 X X':St}{m m' m'':LyS}
theorem gL.refl:gL W m X m X:=⟨Ag _,fun _ _ h=>⟨rfl,h⟩⟩
theorem gL.trans{X'':St}(h:gL W m X m' X')(h':gL W m' X' m'' X''):gL W m X m'' X'':=
 ⟨Al h.1 h'.1,fun c hc hp=>by
  have⟨a,b⟩:=h.2 c hc hp;have⟨a',b'⟩:=h'.2 c (Ae hc h.1) b;exact⟨a'.trans a,b'⟩⟩
theorem gL.off(hn:X.nx<=X'.nx)(hk:∀c,c<X.nx->pI W m c->X'.h.get c=X.h.get c):gL W m X m X':=⟨hn,fun c hc h=>⟨hk c hc h,h⟩⟩
theorem gL.same(h:Same X X'):gL W m X m X':=.off h.1 fun c hc _=>h.2 c hc
theorem qC.row_of(h:qC W P g S0 X m){j:Nat}{a:dP×AV}(hj:m.l[j]? =some a){c:Nat}(hc:aZ a.2=some c):(S0.nx<=c/\c<X.nx)/\¬W c/\aZ m.na≠some c/\aZ m.ia≠some c:=h.rn a (Ar hj) c hc
theorem qC.low(h:qC W P g S0 X m){c:Nat}(hc:c<S0.nx):pI W m c:=
 ⟨fun e=>by have:=(h.wg c e).1;omega,fun e=>by have:=(h.nod.blk e).1;omega,fun e=>by have:=(h.inf.blk e).1;omega,fun a ha e=>by have:=(h.rn a ha c e).1;omega⟩
theorem qC.fresh(h:qC W P g S0 X m){c:Nat}(hc:X.nx<=c):pI W m c:=
 ⟨fun e=>by have:=(h.wg c e).2;omega,fun e=>by have:=(h.nod.blk e).2;omega,fun e=>by have:=(h.inf.blk e).2;omega,fun a ha e=>by have:=(h.rn a ha c e).1;omega⟩
theorem qC.same0(h:qC W P g S0 X m)(K:gL W m X m' X')(hS:Same S0 X):Same S0 X':=
 ⟨Al hS.1 K.1,fun c hc=>((K.2 c (Ae hc hS.1) (h.low hc)).1).trans (hS.2 c hc)⟩
theorem qC.local(h:qC W P g S0 X m)(hn:X.nx<=X'.nx)(hk:∀c,c<X.nx->¬W c->(pI W m c->P c)->X'.h.get c=X.h.get c):qC W P g S0 X' m where
 nod:=by
  rcases h.nod with h0 | ⟨b,c,cs,e0,g1,g2,g3,g4,g5,g6,g7⟩
  ·exact .inl h0
  ·have hb:aZ m.na=some b:=by rw[e0];rfl
   refine .inr ⟨b,c,cs,e0,g1,g2,g3,Ae g4 hn,(hk b g4 (h.d1 b hb).1 fun hp=>absurd hb hp.2.1).trans g5,g6,fun i a hi=>?_⟩;have⟨e,e1,e2,e3⟩:=g7 i a hi;exact⟨e,e1,e2,e3.move hn (fun c hc=>hk c (h.row_of hi hc).1.2 (h.row_of hi hc).2.1 fun hp=>absurd hc (hp.2.2.2 a (Ar hi))) fun c hc hp=>⟨hk c hc hp.1.1 fun _=>hp.2,hp⟩⟩
 inf:=h.inf.move hn (fun c hc=>hk c (h.inf.blk hc).2 (h.d2 c hc) fun hp=>absurd hc hp.2.2.1) fun _ _ hE=>hE
 rn:=fun a ha c hc=>⟨⟨(h.rn a ha c hc).1.1,Ae (h.rn a ha c hc).1.2 hn⟩,(h.rn a ha c hc).2⟩
 dj:=h.dj
 d1:=h.d1
 d2:=h.d2
 wg:=fun c hc=>⟨(h.wg c hc).1,Ae (h.wg c hc).2 hn⟩
theorem qC.same(h:qC W P g S0 X m)(hs:Same X X'):qC W P g S0 X' m:=h.local hs.1 fun c hc _ _=>hs.2 c hc
theorem qC.mono{P':Nat->Prop}(h:qC W P g S0 X m)(hP:∀c,c<X.nx->P c->P' c):qC W P' g S0 X m where
 nod:=h.nod.move (Ag _) (fun _ _=>rfl) fun e a hE=>hE.move (Ag _) (fun _ _=>rfl) fun c hc hp=>⟨rfl,hp.1,hP c hc hp.2⟩
 inf:=h.inf
 rn:=h.rn
 dj:=h.dj
 d1:=h.d1
 d2:=h.d2
 wg:=h.wg
theorem qC.pushN(h:qC W P g S0 X m){v':AV}{a:dP}(hn:X.nx<=X'.nx)(hk:∀c,c<X.nx->aZ m.na≠some c->X'.h.get c=X.h.get c)(hb:∀c,aZ v'=some c->aZ m.na=some c\/X.nx<=c)(ha:sJ 6 (NdE S0 X fun c=>pI W m c/\P c) S0 X' v' (m.l++ [(a,.bw)])):qC W P g S0 X' {m with na:=v',l:=m.l++ [(a,.bw)]}/\gL W m X {m with na:=v',l:=m.l++ [(a,.bw)]} X':=by
 have mem:∀ {y c},y∈m.l++ [((a,.bw):dP×AV)]->aZ y.2=some c->y∈m.l:=fun hy hc=>by
  rcases Cb.1 hy with h1 | h1
  ·exact h1
  ·rw[Et.1 h1] at hc;cases hc
 have K:gL W m X {m with na:=v',l:=m.l++ [(a,.bw)]} X':=⟨hn,fun c hc hp=>⟨hk c hc hp.2.1,hp.1,fun e=>(hb c e).elim (fun h1=>hp.2.1 h1) fun h1=>absurd hc (Nat.not_lt.2 h1),hp.2.2.1,fun y hy e=>hp.2.2.2 y (mem hy e) e⟩⟩;have nv:∀ {c},aZ m.na≠some c->c<X.nx->aZ v'≠some c:=fun h1 h2 e=>(hb _ e).elim h1 fun h3=>absurd h2 (Nat.not_lt.2 h3);refine⟨⟨?_,h.inf.move hn (fun c hc=>hk c (h.inf.blk hc).2 fun e=>(h.d1 c e).2 hc) fun _ _ hE=>hE,fun y hy c hc=>?_,fun i j x y hij hx hy c hc hc'=>?_,fun c hc=>?_,h.d2,fun c hc=>⟨(h.wg c hc).1,Ae (h.wg c hc).2 hn⟩⟩,K⟩
 ·rcases ha with h0 | ⟨b,c,cs,e0,g1,g2,g3,g4,g5,g6,g7⟩
  ·exact .inl h0
  ·refine .inr ⟨b,c,cs,e0,g1,g2,g3,g4,g5,g6,fun i y hi=>?_⟩;have⟨e,e1,e2,e3⟩:=g7 i y hi;refine⟨e,e1,e2,e3.move hn (fun c hc=>?_) fun c hc hp=>⟨(K.2 c hc hp.1).1,(K.2 c hc hp.1).2,hp.2⟩⟩;have:=h.rn y (mem (Ar hi) hc) c hc;exact hk c this.1.2 this.2.2.1
 ·have:=h.rn y (mem hy hc) c hc;exact⟨⟨this.1.1,Ae this.1.2 hn⟩,this.2.1,nv this.2.2.1 this.1.2,this.2.2.2⟩
 ·rw[En] at hx hy;split at hx
  ·split at hy
   ·exact h.dj i j x y hij hx hy c hc hc'
   ·have:=Ar hy;rw[Et] at this;rw[this] at hc';cases hc'
  ·have:=Ar hx;rw[Et] at this;rw[this] at hc;cases hc
 ·rcases hb c hc with h1 | h1
  ·exact h.d1 c h1
  ·exact⟨fun e=>by have:=(h.wg c e).2;omega,fun e=>by have:=(h.inf.blk e).2;omega⟩
theorem qC.pushI(h:qC W P g S0 X m){v':AV}{r:Nat}(hn:X.nx<=X'.nx)(hk:∀c,c<X.nx->aZ m.ia≠some c->X'.h.get c=X.h.get c)(hb:∀c,aZ v'=some c->aZ m.ia=some c\/X.nx<=c)(ha:sJ 2 aNF S0 X' v' ((m.da.map fun r:Nat=>cd g (r:Int))++ [cd g (r:Int)])):qC W P g S0 X' {m with ia:=v',da:=m.da++ [r]}/\gL W m X {m with ia:=v',da:=m.da++ [r]} X':=by
 have K:gL W m X {m with ia:=v',da:=m.da++ [r]} X':=⟨hn,fun c hc hp=>⟨hk c hc hp.2.2.1,hp.1,hp.2.1,fun e=>(hb c e).elim (fun h1=>hp.2.2.1 h1) fun h1=>absurd hc (Nat.not_lt.2 h1),hp.2.2.2⟩⟩;have nv:∀ {c},aZ m.ia≠some c->c<X.nx->aZ v'≠some c:=fun h1 h2 e=>(hb _ e).elim h1 fun h3=>absurd h2 (Nat.not_lt.2 h3);refine⟨⟨?_,by simp only[Dz,Dc,List.map_nil];exact ha,fun y hy c hc=>?_,h.dj,fun c hc=>⟨(h.d1 c hc).1,nv (h.d1 c hc).2 (h.nod.blk hc).2⟩,fun c hc=>?_,fun c hc=>⟨(h.wg c hc).1,Ae (h.wg c hc).2 hn⟩⟩,K⟩
 ·rcases h.nod with h0 | ⟨b,c,cs,e0,g1,g2,g3,g4,g5,g6,g7⟩
  ·exact .inl h0
  ·have hbb:aZ m.na=some b:=by rw[e0];rfl
   refine .inr ⟨b,c,cs,e0,g1,g2,g3,Ae g4 hn,(hk b g4 (h.d1 b hbb).2).trans g5,g6,fun i y hi=>?_⟩;have⟨e,e1,e2,e3⟩:=g7 i y hi;refine⟨e,e1,e2,e3.move hn (fun c hc=>?_) fun c hc hp=>⟨(K.2 c hc hp.1).1,(K.2 c hc hp.1).2,hp.2⟩⟩;have:=h.row_of hi hc;exact hk c this.1.2 this.2.2.2
 ·have:=h.rn y hy c hc;exact⟨⟨this.1.1,Ae this.1.2 hn⟩,this.2.1,this.2.2.1,nv this.2.2.2 this.1.2⟩
 ·rcases hb c hc with h1 | h1
  ·exact h.d2 c h1
  ·exact fun e=>by have:=(h.wg c e).2;omega
theorem qC.row_at(h:qC W P g S0 X m){i:Nat}{a:dP}{v:AV}(hi:m.l[i]? =some (a,v)):∃b p,dO (.slice 6) m.na i=some (.ptr b p)/\aZ m.na=some b/\b<X.nx/\dT (.ptr b (p+3)) false 1 X.h=some v/\fY 1 S0 X v a.next.length (aU a.next):=by
 rcases h.nod with⟨_,h0⟩ | ⟨b,c,cs,e0,g1,g2,g3,g4,g5,g6,g7⟩
 ·rw[h0] at hi;cases hi
 ·obtain⟨e,e1,e2,xw,xp,rfl,e4,_⟩:=g7 i _ hi;have hil:=(Ai.1 hi).1;refine⟨b,0+i * 6,?_,by rw[e0];rfl,g4,dI g5 (by rw[An];exact e2 3 v rfl),e4⟩;rw[e0];show bQ (Nat.blt i m.l.length) _ _=_;rw[show Nat.blt i m.l.length=true from Av hil,aR]
theorem qC.row(h:qC W P g S0 X m){i:Nat}{a:dP}{v v':AV}{w:Int}(hi:m.l[i]? =some (a,v))(hn:X.nx<=X'.nx)(hk:∀c,c<X.nx->aZ v≠some c->X'.h.get c=X.h.get c)(hg:fY 1 S0 X' v' (a.next++ [w]).length (aU (a.next++ [w])))(hb:∀c,aZ v'=some c->X.nx<=c):
  ∃b p X'',dO (.slice 6) m.na i=some (.ptr b p)/\aZ m.na=some b/\b<X.nx/\sO (.ptr b (p+3)) 1 [v'] X'=some (.undef,X'')/\X''.nx=X'.nx/\(∀c,c≠b->X''.h.get c=X'.h.get c)/\qC W P g S0 X'' {m with l:=m.l.set i ({a with next:=a.next++ [w]},v')}/\gL W m X {m with l:=m.l.set i ({a with next:=a.next++ [w]},v')} X'':=by
 have hil:=(Ai.1 hi).1;have lv:∀ {c},aZ v=some c->_:=fun hc=>h.row_of hi hc;have nav:∀ {c},aZ m.na=some c->aZ v≠some c:=fun hc e=>(lv e).2.2.1 hc;have hX':sJ 6 (fun e y=>NdE S0 X (fun c=>pI W m c/\P c) e y) S0 X' m.na m.l:=by
  rcases h.nod with h0 | ⟨b,c,cs,e0,g1,g2,g3,g4,g5,g6,g7⟩
  ·exact .inl h0
  ·exact .inr ⟨b,c,cs,e0,g1,g2,g3,Ae g4 hn,(hk b g4 (nav (by rw[e0];rfl))).trans g5,g6,g7⟩
 have mem:∀ {y},y∈m.l.set i ({a with next:=a.next++ [w]},v')->(∃j,j≠i/\m.l[j]? =some y)\/y=({a with next:=a.next++ [w]},v'):=fun {y} hy=>by
  have⟨j,hj,e⟩:=Cm hy;rw[List.getElem_set] at e;split at e
  ·exact .inr e.symm
  ·rename_i hne;rw[Aq] at hj;exact .inl ⟨j,fun e=>hne e.symm,by rw[<-e];exact Ab hj⟩
 have pb:∀c,c<X.nx->pI W m c->pI W {m with l:=m.l.set i ({a with next:=a.next++ [w]},v')} c:=fun c hc hp=>⟨hp.1,hp.2.1,hp.2.2.1,fun y hy e=>by
  rcases mem hy with⟨j,_,hj⟩ | rfl
  ·exact hp.2.2.2 y (Ar hj) e
  ·have:=hb c e;omega⟩
 obtain⟨bb,gp,hbb⟩:∃b,aZ m.na=some b/\b<X.nx:=by
  have⟨b,_,_,h1,h2,_⟩:=h.row_at hi;exact⟨b,h1,h2⟩
 have⟨b,p,X'',k1,k2,k3,k4,k5,k6,k7⟩:=sJ.fld (E':=NdE S0 ⟨X'.h,X'.nx⟩ fun c=>pI W {m with l:=m.l.set i ({a with next:=a.next++ [w]},v')} c/\P c) (a':=({a with next:=a.next++ [w]},v')) (x:=v') (q:=3) hX' hi ay (fun j y e hj hne hE=>hE.move hn (fun c hc=>hk c (h.row_of hj hc).1.2 (h.dj j i y _ hne hj hi c hc)) fun c hc hp=>⟨hk c hc (fun e=>hp.1.2.2.2 _ (Ar hi) e),pb c hc hp.1,hp.2⟩) fun e hE=>by
   obtain⟨xw,xp,rfl,h1,h2,h3,h4⟩:=hE;have hmem:=Ar hi;refine⟨xw,xp,rfl,hg,eT h2 hn fun c hc=>hk c (eU h2 hc) fun e=>(h4 c (.inl hc)).1.2.2.2 _ hmem e,eT h3 hn fun c hc=>hk c (eU h3 hc) fun e=>(h4 c (.inr hc)).1.2.2.2 _ hmem e,fun c hc=>?_⟩;have hcl:c<X.nx:=by
    rcases hc with hc | hc
    ·exact eU h2 hc
    ·exact eU h3 hc
   exact⟨pb c hcl (h4 c hc).1,(h4 c hc).2⟩
 rw[gp] at k2;cases k2;have nb:∀c,aZ m.na=some c->c=bb:=fun c hc=>by rw[gp] at hc;cases hc;rfl
 refine⟨bb,p,X'',k1,gp,hbb,k4,k6,k7,⟨?_,?_,fun y hy c hc=>?_,fun i' j x y hij hx hy c hc hc'=>?_,h.d1,h.d2,fun c hc=>⟨(h.wg c hc).1,by have:=(h.wg c hc).2;omega⟩⟩,⟨ar,fun c hc hp=>⟨?_,pb c hc hp⟩⟩⟩
 ·rcases k5 with h0 | ⟨b',c,cs,e0,g1,g2,g3,g4,g5,g6,g7⟩
  ·exact .inl h0
  ·refine .inr ⟨b',c,cs,e0,g1,g2,g3,g4,g5,g6,fun j y hj=>?_⟩;have⟨e,e1,e2,e3⟩:=g7 j y hj;refine⟨e,e1,e2,e3.move (by show X'.nx<=X''.nx;omega) (fun c hc=>k7 c fun e=>?_) fun c _ hp=>⟨k7 c fun e=>hp.1.2.1 (by rw[e];exact gp),hp⟩⟩;rcases mem (Ar hj) with⟨j',_,hj'⟩ | rfl
   ·exact(h.row_of hj' hc).2.2.1 (by rw[e];exact gp)
   ·have:=hb c hc;omega
 ·exact h.inf.move ar (fun c hc=>(k7 c fun e=>(h.d1 bb gp).2 (by rw[<-e];exact hc)).trans (hk c (h.inf.blk hc).2 fun e=>(lv e).2.2.2 hc)) fun _ _ hE=>hE
 ·rcases mem hy with⟨j,_,hj⟩ | rfl
  ·have:=h.row_of hj hc;exact⟨⟨this.1.1,ar⟩,this.2⟩
  ·have h1:=hg.blk hc;have h2:=hb c hc;exact⟨⟨h1.1,ar⟩,fun e=>by have:=(h.wg c e).2;omega,fun e=>by have:=(h.nod.blk e).2;omega,fun e=>by have:=(h.inf.blk e).2;omega⟩
 ·rw[Cu] at hx hy;have hlo:∀ {q:Nat} {y:dP×AV},m.l[q]? =some y->aZ y.2=some c->c<X.nx:=fun hq hc=>(h.row_of hq hc).1.2;split at hx
  ·split at hy
   ·rename_i e1 e2;exact hij (e1.symm.trans e2)
   ·try rw[if_pos hil] at hx
    cases hx;have:=hb c hc;have:=hlo hy hc';omega
  ·split at hy
   ·try rw[if_pos hil] at hy
    cases hy;have:=hb c hc';have:=hlo hx hc;omega
   ·exact h.dj i' j x y hij hx hy c hc hc'
 ·rw[k7 c (fun e=>hp.2.1 (by rw[e];exact gp))];exact hk c hc fun e=>hp.2.2.2 _ (Ar hi) e
theorem qC.bh(h:qC W P g S0 X m):aE 6 bX X m.na (m.l.map (·.1)):=by
 rcases h.nod with⟨h0,h1⟩ | ⟨b,c,cs,e0,g1,g2,g3,g4,g5,g6,g7⟩
 ·exact .inl ⟨by rw[h1];rfl,.inl h0⟩
 ·refine .inr ⟨b,0,c,true,cs,by rw[Aj];exact e0,by rw[Aj];exact g1,g4,by unfold cK;rw[g5];rfl,fun i a hi=>?_⟩;rw[Am,Aw] at hi;obtain⟨y,hy,rfl⟩:=hi;obtain⟨e,e1,e2,xw,xp,rfl,h1,h2,h3,_⟩:=g7 i y hy;exact⟨_,e1,fun j x hj=>by rw[An];exact e2 j x hj,y.2,xw,xp,rfl,h1.is,h2,h3⟩
theorem qC.bj(h:qC W P g S0 X m):aE 2 bP X m.ia (m.da.map fun r:Nat=>cd g (r:Int)):=h.inf.is fun _ _ hE=>hE
end
theorem pE{S:St}{v:AV}{l:ba}(H:Has fns)(h:bI .i64 S v l)(hl:l.length<=100000):fZ fns (.fn 92 [] []) [v] S fun r X=>Same S X/\bI .i64 X r l/\(∀c,aZ r=some c->S.nx<=c)/\(l≠ []->fY 1 S X r l.length (aU l)):=by
 refine cF H.f92 (by simp) ?_;refine ae ?_;refine bO (ae ?_);by_cases hv:v= .bw
 ·have hl0:l= []:=by
   rcases h with⟨h,_⟩ | ⟨b,off,cap,o,cs,rfl,_⟩
   ·exact h
   ·cases hv
  subst hv;subst hl0;have he:pV .eql (.p .slice) .bw .bw=some (.bool true):=rfl;refine fC (dm he ?_);refine aN (af) ?_;refine bO (ae ?_);refine aP (ae ?_);exact⟨dk S,.inl ⟨rfl,.inl rfl⟩,fun c hc=>(by cases hc),fun h=>absurd rfl h⟩
 ·have he:pV .eql (.p .slice) v .bw=some (.bool false):=by
   rcases h with⟨_,rfl | rfl⟩ | ⟨b,off,cap,o,cs,rfl,_⟩
   ·exact absurd rfl hv
   ·rfl
   ·rfl
  refine fC (dm he ?_);refine aM (af) (aI ?_);try refine ae ?_
  refine bO ?_;refine fN rG ?_;intro S1 s1 n1 g1;refine am ?_;have⟨r,S2,e,s2,hr⟩:=aAD g1 (h.same s1) hl;refine fI (fun call=>by refine dx @gO ?_;exact e) ?_;refine am ?_;refine aP (am ?_);refine⟨s1.trans s2,?_⟩;rcases hr with⟨rfl,rfl,rfl⟩ | ⟨hg,hne⟩
  ·refine⟨.inr ⟨S.nx,0,0,false,[],rfl,Ag _,ar,by unfold cK;rw[g1];rfl,fun i a hi=>by simp at hi⟩,fun c hc=>by cases hc;exact Ag _,fun h=>absurd rfl h⟩
  ·exact⟨hg.is,fun c hc=>Al s1.1 (hg.blk hc).1,fun _=>hg.low s1.1⟩
def aPo(X1:St)(cb n:Nat)(o:Bool)(sz:Nat)(row next:ba)(xa:AV)(F0:Fr)(k:Nat)(A:bG)(X:St):Prop:=A.inr=false/\Same X1 X/\∃a,a+k=n/\X.h.get cb=some (.cells (aU (pL row next a)) o sz)/\cb<X.nx/\(∀j,j<13->aD j A.F=aD j F0)/\aD 39 A.F=xa/\aD 40 A.F= .int .i64 (n:Int)/\aD 41 A.F= .int .i64 (a:Int)
theorem aLp{j:Nat}(h:j<13):j=0\/j=1\/j=2\/j=3\/j=4\/j=5\/j=6\/j=7\/j=8\/j=9\/j=10\/j=11\/j=12:=by omega
theorem aPq{X1 X0:St}{F0:Fr}{lb xb cb s sz:Nat}{o:Bool}{fv av xa xw xp vk vp:AV}{act:a9}{next:ba}(hX:Same X1 X0)(hcb:X1.nx<=cb)(hcl:cb<X0.nx)(ha:aE 1 iD X1 av act)(hn:bI .i64 X1 xa next)(hnl:next.length<=100000)(hs:s<act.length)(hrl:(act.getD s []).length=next.length)(hrow:∀a,a<next.length->∃b:Nat,(act.getD s []).getD a 0=(b:Int)/\b<next.length)
  (gl:X1.h.get lb=some (.cells [fv,av] false 0)) (gx:X1.h.get xb=some (.cells [vk,vp,.int .i64 (s:Int),xa,xw,xp] false 0)) (ll:lb<X1.nx) (lx:xb<X1.nx) (gc:X0.h.get cb=some (.cells (aU next) o sz)) (p4:aD 4 F0= .ptr lb 0) (p11:aD 11 F0= .ptr xb 0) (p12:aD 12 F0= .sl cb 0 next.length next.length o) (p39:aD 39 F0=xa) (p40:aD 40 F0= .int .i64 (next.length:Int)) (p41:aD 41 F0= .int .i64 ((0:Nat):Int)):
  iM fns qk4 ⟨F0,false⟩ X0 fun oo A' X=>oo= .normal/\aPo X1 cb next.length o sz (act.getD s []) next xa F0 0 A' X:=by
 refine aK (bH (aPo X1 cb next.length o sz (act.getD s []) next xa F0) ?_ next.length _ _ ⟨rfl,hX,0,ar,gc,hcl,fun _ _=>rfl,p39,p40,p41⟩);rintro k ⟨F,inr⟩ X ⟨q0,sX,a,hak,gX,lX,hk,q39,q40,q41⟩;simp only at q0 hk q39 q40 q41;subst q0;have q4:=(hk 4 ar).trans p4;have q11:=(hk 11 ar).trans p11;have q12:=(hk 12 ar).trans p12;refine bO (dn q40 q41 ?_);by_cases hlt:a<next.length;rotate_left
 ·refine aA (aM (by simp only[↓sU,sD,rE,↓reduceIte,rA,Aa (show ¬ (a:Int)<(next.length:Int) by omega)]) (bJ ?_));refine ae ?_;obtain rfl:k=0:=by omega
  refine⟨rfl,sX,a,hak,gX,lX,fun j hj=>?_,by refine⟨?_,?_,?_⟩<;>simp only[↓sU,sD,rE,↓reduceIte,rA,q39,q40,q41]⟩;rw[<-hk j hj];rcases aLp hj with rfl | rfl | rfl | rfl | rfl | rfl | rfl | rfl | rfl | rfl | rfl | rfl | rfl<;>simp only[↓sU,sD,rE,↓reduceIte,rA]
 refine aA (aN (by simp only[↓sU,sD,rE,↓reduceIte,rA,Ac (show(a:Int)<(next.length:Int) by omega)]) (aI ?_));try refine ae ?_
 have w1:=dh a
 have⟨b,hb,hbl⟩:=hrow a hlt;have⟨qb,qq,i1,i2,i3⟩:=jB (hn.same sX) hlt;have⟨rb,rq,ra,r1,r2,r3,r4⟩:=pQ (aE.same (E:=iD) cm ha sX) hs;have r4:=r4 X (dk X);have⟨ub,uq,u1,u2,u3⟩:=jB r2 (i:=a) ar;rw[hb] at u3;have gl':=(sX.2 _ ll).trans gl;have gx':=(sX.2 _ lx).trans gx;have hia:=dR (b:=cb) (o:=o) hbl;refine aA (aK (aA (aJ ?_)));refine dr q39 q41 @aH i1 i3 ?_;refine aJ ?_;simp only[↓sU,sD,rE,↓reduceIte,rA,q4,q11,q12,aC,aB,aFm gl',cV gx',aH,r1,r4,u1,u3,hia];refine fI (fun call=>by refine dn @dS @cR ?_;exact sM (S:=X) gX (by rw[sI];exact hbl)) ?_;refine ae ?_;refine aJ (dn q41 w1 ?_);refine⟨k - 1,ar,rfl,⟨sX.1,fun c hc=>?_⟩,a+1,ar,?_,lX,fun j hj=>?_,by refine⟨?_,?_,?_⟩<;>simp only[↓sU,sD,rE,↓reduceIte,rA,q39,q40]⟩
 ·simp only;rw[di,if_neg ar];exact sX.2 c hc
 ·simp only;rw[di,if_pos rfl];show _=some (AB.cells (aU ((pL (act.getD s []) next a).set ((act.getD s []).getD a 0).toNat (next.getD a 0))) o sz);rw[hb];rfl
 ·rw[<-hk j hj];rcases aLp hj with rfl | rfl | rfl | rfl | rfl | rfl | rfl | rfl | rfl | rfl | rfl | rfl | rfl<;>simp only[↓sU,sD,rE,↓reduceIte,rA]
def aS0(W:St)(F:Fr)(xb:Nat)(lw lp:ba)(F':Fr)(Z:St)(ps:List iQ):Prop:=ps= []/\Same W Z/\(∀j,j<80->aD j F'=aD j F)/\aD 94 F'= .ptr xb (0+3)/\bI .i64 Z (aD 90 F') lw/\bI .i64 Z (aD 93 F') lp/\∀c,(aZ (aD 90 F')=some c\/aZ (aD 93 F')=some c)->W.nx<=c
theorem aOh{ops:List AO}{W:St}{F:Fr}{inr:Bool}{xb:Nat}{k p f:AV}{xa xw xp:AV}{lw lp:ba}{Q:Out->bG->St->Prop}(H:Has fns)(he:ops=aPa++aPP)(p11:aD 11 F= .ptr xb 0)(hb:W.h.get xb=some (.cells [k,p,f,xa,xw,xp] false 0))(lb:xb<W.nx)(h2:bI .i64 W xw lw)(h3:bI .i64 W xp lp)(b2:lw.length<=100000)(b3:lp.length<=100000)
  (hQ:∀F' Z rw rp,(∀j,j<80->aD j F'=aD j F)->bT xb W Z->Z.h.get xb=some (.cells [k,p,f,.bw,rw,rp] false 0)->bI .i64 Z rw lw->bI .i64 Z rp lp->(∀c,(aZ rw=some c\/aZ rp=some c)->W.nx<=c)->Q .normal ⟨F',inr⟩ Z):iM fns (.drw ops) ⟨F,inr⟩ W Q:=by
 have hlen:ops.length=12:=by rw[he];rfl
 refine nI (W:=fun _=>False) (K:=7) (R:=aS0 W F xb lw lp) he rfl rfl (fun Y hY hh nY=>?_) ?_
 ·have s2:=bI.self h2;have s3:=bI.self h3;unfold aPa;refine dw p11 @aC @aQ @aB (dF hb) lb @Ak @s2 ?_;refine cU rfl ?_;refine ae ?_;refine aW (pE H (h2.same hY) b2) ?_;rintro r1 Y1 ⟨s1,i1,k1,_⟩;refine⟨s1,?_⟩;have sY1:=hY.trans s1;refine dw p11 @aC @aQ @aB (dZ hb) lb @Ak @s3 ?_;refine cU rfl ?_;refine ae ?_;refine aW (pE H (h3.same sY1) b3) ?_;rintro r2 Y2 ⟨s2',i2,k2,_⟩;refine⟨s2',?_⟩;refine dq p11 @aC @aQ @aB ?_;refine⟨rfl,sY1.trans s2',fun j hj=>?_,af,by refine ae ?_;exact i1.same s2',by refine ae ?_;exact i2,fun c hc=>?_⟩
  ·simp only[bS];rw[if_neg ar,if_neg ar,if_neg ar,if_neg ar,if_neg ar,if_neg ar,if_neg ar]
  ·simp only[↓sU,sD,rE,↓reduceIte,rA] at hc;have a1:=hY.1;have a2:=s1.1;rcases hc with hc | hc
   ·have:=k1 c hc;omega
   ·have:=k2 c hc;omega
 rintro F' S' ps hs ls ⟨rfl,sZ,hk,p94,i1,i2,hbk⟩ hlast hld;have p11':aD 11 F'= .ptr xb 0:=(hk 11 ar).trans p11;have hb':=(sZ.2 _ lb).trans hb;generalize hr1:aD 90 F'=r1 at i1 hbk;generalize hr2:aD 93 F'=r2 at i2 hbk;have m1:∀i,i<7->Nat.testBit 127 i=true:=by decide
 unfold aPP;refine jZ (v:=.undef) (S1:=⟨S'.h.set xb (some (.cells [k,p,f,.bw,xw,xp] false 0)),S'.nx⟩) (hlast _ m1) (fun call=>?_) ?_
 ·rw[dS];simp only[fE,aJM,p94,bF];exact stc (S:=S') hb' (by simp)
 simp only[lM,eC,aC,aB,aQ,bB,fE,bF,eF,bS,p11',rE,↓reduceIte,rA];refine jZ (v:=.undef) (S1:=⟨(S'.h.set xb (some (.cells [k,p,f,.bw,xw,xp] false 0))).set xb (some (.cells [k,p,f,.bw,r1,xp] false 0)),S'.nx⟩) (show Nat.testBit 511 7=true by decide) (fun call=>?_) ?_
 ·rw[dS];simp only[fE,bS,rE,↓reduceIte,hr1,bF,bI.cells i1,aL];exact stc (cs:=[k,p,f,.bw,xw,xp]) (p:=4) (S:=⟨S'.h.set xb (some (.cells [k,p,f,.bw,xw,xp] false 0)),S'.nx⟩) fk (by simp)
 simp only[lM,eC,aC,aB,aQ,bB,fE,bF,eF,bS,p11',rE,↓reduceIte,rA];refine jZ (v:=.undef) (S1:=⟨((S'.h.set xb (some (.cells [k,p,f,.bw,xw,xp] false 0))).set xb (some (.cells [k,p,f,.bw,r1,xp] false 0))).set xb (some (.cells [k,p,f,.bw,r1,r2] false 0)),S'.nx⟩) (show Nat.testBit 2047 9=true by decide) (fun call=>?_) ?_
 ·rw[dS];simp only[fE,bS,rE,↓reduceIte,hr2,bF,bI.cells i2,aL];exact stc (cs:=[k,p,f,.bw,r1,xp]) (p:=5) (S:=⟨(S'.h.set xb (some (.cells [k,p,f,.bw,xw,xp] false 0))).set xb (some (.cells [k,p,f,.bw,r1,xp] false 0)),S'.nx⟩) fk (by simp)
 rw[gG];refine⟨?_,?_⟩
 ·simp only[Bz,Cj,Dw,Ck,Cg];exact hld _ _ _ m1
 ·simp only[bF,eF];have hne:∀ {v:AV} {l:ba},bI .i64 S' v l->(∀c,aZ v=some c->W.nx<=c)->bI .i64 ⟨((S'.h.set xb (some (.cells [k,p,f,.bw,xw,xp] false 0))).set xb (some (.cells [k,p,f,.bw,r1,xp] false 0))).set xb (some (.cells [k,p,f,.bw,r1,r2] false 0)),S'.nx⟩ v l:=fun {v l} h hc=>eT h (Ag _) fun c hcc=>by
   have:=hc c hcc;simp only;rw[di,if_neg ar,di,if_neg ar,di,if_neg ar]
  refine hQ _ _ r1 r2 (fun j hj=>?_) ⟨sZ.1,fun c hc hn=>?_⟩ fk (hne i1 fun c hc=>hbk c (.inl hc)) (hne i2 fun c hc=>hbk c (.inr hc)) hbk
  ·rw[bS,if_neg ar,bS,if_neg ar];exact hk j hj
  ·simp only;rw[di,if_neg hn,di,if_neg hn,di,if_neg hn];exact sZ.2 c hc
theorem aNS{ops:List AO}{W P:Nat->Prop}{g:aS}{S0 X:St}{F:Fr}{inr:Bool}{gb ic:Nat}{m:LyS}{pv nv iv:AV}{r:Nat}{Q:Out->bG->St->Prop}(he:ops=aLj++aL8)(hL:qC W P g S0 X m)(hS:S0.nx<=X.nx)(p3:aD 3 F= .ptr gb 0)(p6:aD 6 F= .ptr ic 0)(p15:aD 15 F= .int .i64 (r:Int))
  (gg:X.h.get gb=some (.cells [pv,nv,iv] false 0)) (gi:X.h.get ic=some (.cells [m.ia] false 0)) (lg:gb<X.nx) (hic:W ic) (hi:aE 2 bP X iv g.bj) (hr:r<g.bj.length) (hv:m.da.length<=100000)
  (hQ:∀F' Z ia',(∀j,j<78->aD j F'=aD j F)->qC W P g S0 Z {m with ia:=ia',da:=m.da++ [r]}->gL W m X {m with ia:=ia',da:=m.da++ [r]} Z->Z.h.get ic=some (.cells [ia'] false 0)->(∀c,c<X.nx->W c->c≠ic->Z.h.get c=X.h.get c)->Q .normal ⟨F',inr⟩ Z):iM fns (.drw ops) ⟨F,inr⟩ X Q:=by
 have hlen:ops.length=9:=by rw[he];rfl
 have lic:ic<X.nx:=(hL.wg ic hic).2;have d6:=dI (p:=0) gi rfl;have d3:=dI (p:=2) gg rfl;have sia:=hL.inf.self;have siv:=aE.self hi;obtain⟨_,qb,qq,i1,lqb,_,rfl,i3,_⟩:=aE.at hi ay (pJ hr);have hs2:cE (.agg [.int .i64 (cd g (r:Int)).player,.int .i64 (cd g (r:Int)).bt]) (.agg [.int .i64 (cd g (r:Int)).player,.int .i64 (cd g (r:Int)).bt])=true:=aB8 (dH ..) (dH ..);refine nI (W:=fun _=>False) (K:=7) (R:=fun F' Z ps=>ps= [⟨6,X.nx+6,.cells [.int .i64 (cd g (r:Int)).player,.int .i64 (cd g (r:Int)).bt] false 0⟩]/\Z.h=X.h/\Z.nx=X.nx+9/\(∀j,j<78->aD j F'=aD j F)/\aD 78 F'=m.ia/\aD 84 F'= .sl (X.nx+6) 0 1 1 false) he rfl rfl (fun X1 x1 hh1 nn1=>?_) ?_
 ·have he1:=fun(F:Fr) (id:Nat) (h:aD 83 F= .agg [.int .i64 (cd g (r:Int)).player,.int .i64 (cd g (r:Int)).bt])=>aI1 (t:=48) (z0:=.int .i64 0) (z1:=.int .i64 0) (x:=.t 83) (F:=F) (id:=id) h;unfold aLj;simp only[↓sU,sD,rE,↓reduceIte,rA,p3,p6,p15,aC,aQ,aB,d3,d6,sia,siv,lg,lic,lqb,Ak,aH,i1,i3,hs2,he1];refine⟨hh1,by rw[nn1,hlen],fun j hj=>?_⟩;rw[if_neg ar,if_neg ar,if_neg ar,if_neg ar,if_neg ar,if_neg ar,if_neg ar]
 rintro F' S' ps hs' ls ⟨rfl,hZ,nZ,hk,pA,pB⟩ hlast hld;have m1:∀i,i<7->Nat.testBit 127 i=true:=by decide
 have q6:aD 6 F'= .ptr ic 0:=(hk 6 ar).trans p6;obtain⟨U,hU⟩:∃U:St,U=⟨S'.h.set (X.nx+6) (some (.cells [.int .i64 (cd g (r:Int)).player,.int .i64 (cd g (r:Int)).bt] false 0)),S'.nx⟩:=⟨_,rfl⟩;have nU:U.nx=X.nx+9:=by rw[hU];exact nZ
 have sUx:Same X U:=⟨ar,fun c hc=>by rw[hU];simp only;rw[di,if_neg ar,hZ]⟩;have gU:U.h.get (X.nx+6)=some (.cells [.int .i64 (cd g (r:Int)).player,.int .i64 (cd g (r:Int)).bt] false 0):=by rw[hU];simp only;rw[di,if_pos rfl]
 have hLU:=hL.same sUx;have⟨v',V,eA,aV,nV,kV,bV⟩:=hLU.inf.push (bytes:=16) (x:=.sl (X.nx+6) 0 1 1 false) (a:=cd g (r:Int)) ay ar rfl (aNk gU rfl) rfl (show aNF [.int .i64 (cd g (r:Int)).player,.int .i64 (cd g (r:Int)).bt] (cd g (r:Int)) from rfl) (by rw[Aj];unfold room;omega) (by rw[Aj];unfold room;omega);have⟨kP,kM⟩:=hLU.pushI nV kV bV aV;have giV:V.h.get ic=some (.cells [m.ia] false 0):=(kV ic ar fun e=>hLU.d2 ic e hic).trans ((sUx.2 ic lic).trans gi);unfold aL8;refine jZ (v:=v') (S1:=V) (hlast _ m1) (fun call=>?_) ?_
 ·rw[cP (show Nat.testBit 127 6=true by decide),gO];simp only[fE,pA,pB];rw[<-hU];exact eA
 rw[cP (show Nat.testBit 127 6=true by decide)];have gAc:v'.cells=some [v']:=aV.cells;refine jZ (v:=.undef) (S1:=⟨V.h.set ic (some (.cells [v'] false 0)),V.nx⟩) (show Nat.testBit 255 7=true by decide) (fun call=>?_) ?_
 ·rw[dS];simp only[fE,bS,rE,↓reduceIte,bF,gAc,aL,q6];exact stc (cs:=[m.ia]) (p:=0) (S:=V) giV (show 0<1 by omega)
 rw[gG];refine⟨?_,?_⟩
 ·simp only[Bz,Cj,Dw,Ck,Cg];exact hld _ _ _ m1
 ·simp only[bF,eF];have kS:∀c,c≠ic->(V.h.set ic (some (.cells [v'] false 0))).get c=V.h.get c:=fun c hc=>by rw[di,if_neg hc]
  refine hQ _ _ v' (fun j hj=>?_) (kP.local (Ag _) fun c _ hc _=>kS c fun e=>hc (by rw[e];exact hic)) (((gL.same sUx).trans kM).trans (.off (Ag _) fun c _ hp=>kS c fun e=>hp.1 (by rw[e];exact hic))) fk fun c hc hw hne=>?_
  ·rw[bS,if_neg ar];exact hk j hj
  ·simp only;rw[kS c hne];exact(kV c ar fun e=>hLU.d2 c e hw).trans (sUx.2 c hc)
theorem aMR{W P:Nat->Prop}{g:aS}{S0 X:St}{F:Fr}{inr:Bool}{nc i:Nat}{m:LyS}{a:dP}{v:AV}{w:Int}{ops:List AO}{Q:Out->bG->St->Prop}(he:ops=aJg++aJw)(hL:qC W P g S0 X m)(hS:S0.nx<=X.nx)(hi:m.l[i]? =some (a,v))(ha:a.next.length<=100000)(p1:aD 1 F= .ptr nc 0)(p10:aD 10 F= .int .i64 (i:Int))(p20:aD 20 F= .int .i64 w)
  (gn:X.h.get nc=some (.cells [m.na] false 0)) (hnc:W nc)
  (hQ:∀F' Z v',(∀j,j<110->aD j F'=aD j F)->qC W P g S0 Z {m with l:=m.l.set i ({a with next:=a.next++ [w]},v')}->gL W m X {m with l:=m.l.set i ({a with next:=a.next++ [w]},v')} Z->(∀c,c<X.nx->W c->Z.h.get c=X.h.get c)->Q .normal ⟨F',inr⟩ Z):iM fns (.drw ops) ⟨F,inr⟩ X Q:=by
 subst he;have lnc:nc<X.nx:=(hL.wg nc hnc).2;have d1:=dI (p:=0) gn rfl;have sna:=hL.nod.self;have⟨b,p,k1,k2,k3,k4,hG⟩:=hL.row_at hi;have hrow:=fun {c} (hc:aZ v=some c)=>hL.row_of hi hc;have n1:aZ v≠some nc:=fun e=>(hrow e).2.1 hnc;have nb:aZ v≠some b:=fun e=>(hrow e).2.2.1 k2;have srv:=hG.self;have he1:=fun(F:Fr) (id:Nat) (h:aD 117 F= .int .i64 w)=>nQ (t:=3) (z:=.int .i64 0) (x:=.t 117) (F:=F) (id:=id) (k:=.i64) (n:=w) h;refine nI (W:=fun c=>aZ v=some c) (pre:=aJg) (suf:=aJw) (K:=12) (R:=fun F' V ps=>ps= []/\(∀j,j<110->aD j F'=aD j F)/\aD 121 F'= .ptr b (p+3)/\∃rv',aD 119 F'=rv'/\X.nx<=V.nx/\(∀c,c<X.nx->aZ v≠some c->V.h.get c=X.h.get c)/\fY 1 S0 V rv' (a.next++ [w]).length (aU (a.next++ [w]))/\∃b',aZ rv'=some b'/\X.nx<=b'/\b'<V.nx) rfl rfl rfl (fun X1 x1 hh1 nn1=>?_) ?_
 ·unfold aJg;simp only[↓sU,sD,rE,↓reduceIte,rA,p1,p10,p20,aC,aQ,aB,d1,k1,k4,lnc,k3,n1,nb,Ak,sna,srv,aH,he1];have hf1:cJ 508 [⟨8,X.nx+8,.cells [.int .i64 w] false 0⟩] X1.h=([],X1.h.set (X.nx+8) (some (.cells [.int .i64 w] false 0))):=cP (m:=508) rfl;have nX1:X.nx+13<=X1.nx:=by rw[nn1];exact Ag _
  obtain⟨U,hU⟩:∃U:St,U=⟨X1.h.set (X.nx+8) (some (.cells [.int .i64 w] false 0)),X1.nx⟩:=⟨_,rfl⟩;have nU:U.nx=X1.nx:=by rw[hU]
  have kU:∀c,c<X.nx->U.h.get c=X.h.get c:=fun c hc=>by rw[hU];simp only;rw[di,if_neg ar,hh1]
  have sUu:Same X U:=⟨ar,kU⟩;have gU:U.h.get (X.nx+8)=some (.cells [.int .i64 w] false 0):=by rw[hU];simp only;rw[di,if_pos rfl]
  have hGU:=hG.step sUu;have⟨rv',V,eA,gA,bA,nA,rA⟩:=fY.push (bytes:=8) (S0:=⟨U.h,S0.nx⟩) (S:=U) (t:=X.nx+8) (w:=w) hGU ⟨by show S0.nx<=U.nx;omega,fun _ _=>rfl⟩ gU ax ax;refine lQ (r:=rv') (S1:=V) rfl ?_ ?_ ?_
  ·refine ae ?_;rw[hf1,<-hU];exact eA
  ·rw[hf1,<-hU];exact⟨ar,fun c hc hcm=>rA c ar hcm⟩
  rw[hf1];refine dt @aH k1 @aC @aQ @aB @Ak ?_;refine⟨fun j hj=>?_,rv',rfl,ar,fun c hc hcm=>(rA c ar hcm).trans (kU c hc),by exact gA,U.nx,bA,ar,ar⟩
  repeat rw[if_neg ar]
 ·rintro F' V ps hs' ls ⟨rfl,hk,p121,rv',p119,nV,kV,gV,b',hb1,hb2,hb3⟩ hlast hld;have m1:∀i,i<12->Nat.testBit 4095 i=true:=by decide
  have hrc:rv'.cells=some [rv']:=fY.cells gV;have⟨bb,pp,Z,z1,z2,z3,z4,z5,z6,z7,z8⟩:=hL.row (v':=rv') (w:=w) (X':=V) hi nV kV gV fun c hc=>by rw[hb1] at hc;cases hc;exact hb2
  rw[k1] at z1;cases z1;unfold aJw;refine jZ (v:=.undef) (S1:=Z) (hlast _ m1) (fun call=>?_) ?_
  ·rw[dS];simp only[fE,p121,p119,bF,hrc,aL];exact z4
  rw[gG];refine⟨?_,?_⟩
  ·simp only[Bz];exact hld _ _ _ m1
  ·simp only[bF,eF];refine hQ _ _ rv' hk z7 z8 fun c hc hw=>?_;rw[z6 c fun e=>(hL.d1 b k2).1 (by rw[<-e];exact hw)];exact kV c hc fun e=>(hrow e).2.1 hw
def encI(n:Nat):AV:=.int .i64 (n:Int)
theorem aLs(a b:Nat):eqv (.p .int) (encI a) (encI b)=some (decide (a=b)):=by
 show bQ (keq .i64 .i64) (some (ieq (a:Int) (b:Int))) none=_;rw[fL,aR,jP];by_cases e:a=b
 ·rw[Ac e,e,Dk]
 ·rw[Aa e,beq_eq_false_iff_ne.2 ar]
def aEO(da:bg)(r:Nat):Option Nat:=if r∈da then some (da.idxOf r) else none
theorem aJ9{da:bg}{r:Nat}(h:r∉da):oK (aEO da) r da.length=aEO (da++ [r]):=by
 funext q;unfold oK aEO;rw[List.idxOf_append];by_cases e:q=r
 ·subst e;rw[if_pos rfl,if_pos (by simp),if_neg h];simp
 ·rw[if_neg e];by_cases hq:q∈da
  ·rw[if_pos hq,if_pos (by simp [hq]),if_pos hq]
  ·rw[if_neg hq,if_neg (by simp [hq,e])]
structure LC where
 (nc ic qb mb pc mc fc gb lb:Nat) (pv nv iv fv av:AV)
def LC.fn(C:LC):AV:=.fn 139 [] [.ptr C.nc 0,.ptr C.pc 0,.ptr C.gb 0,.ptr C.lb 0,.ptr C.mc 0,.ptr C.ic 0,.ptr C.fc 0]
def LC.W(C:LC)(c:Nat):Prop:=c=C.nc\/c=C.ic\/c=C.qb\/c=C.mb
structure rH(C:LC)(P:Nat->Prop)(g:aS)(S0 X:St)(m:LyS)(pl:ba):Prop where
 b:qC C.W P g S0 X m
 gn:X.h.get C.nc=some (.cells [m.na] false 0)
 gi:X.h.get C.ic=some (.cells [m.ia] false 0)
 gq:X.h.get C.qb=some (.cells (aU pl) false 0)
 gm:aD6 encI encI X.h C.mb (aEO m.da)
 gp:X.h.get C.pc=some (.cells [.sl C.qb 0 g.bh.length g.bh.length false] false 0)
 gc:X.h.get C.mc=some (.cells [.map C.mb] false 0)
 gf:X.h.get C.fc=some (.cells [C.fn] false 0)
 gg:X.h.get C.gb=some (.cells [C.pv,C.nv,C.iv] false 0)
 gl:X.h.get C.lb=some (.cells [C.fv,C.av] false 0)
 kp:pI C.W m C.pc/\C.pc<X.nx
 kc:pI C.W m C.mc/\C.mc<X.nx
 kf:pI C.W m C.fc/\C.fc<X.nx
 lg:C.gb<S0.nx
 ll:C.lb<S0.nx
 n1:C.nc≠C.ic/\C.nc≠C.qb/\C.nc≠C.mb/\C.ic≠C.qb/\C.ic≠C.mb/\C.qb≠C.mb
 pll:pl.length=g.bh.length
 s:Same S0 X
section
variable {C:LC}{P P':Nat->Prop}{g:aS}{S0 X X':St}{m m':LyS}{pl:ba}
theorem LC.wn:C.W C.nc:=.inl rfl
theorem LC.wi:C.W C.ic:=.inr (.inl rfl)
theorem LC.wq:C.W C.qb:=.inr (.inr (.inl rfl))
theorem LC.wm:C.W C.mb:=.inr (.inr (.inr rfl))
theorem rH.next(h:rH C P g S0 X m pl)(hb:qC C.W P' g S0 X' m')(K:gL C.W m X m' X'){pl':ba}(hpl:pl'.length=pl.length)(gn:X'.h.get C.nc=some (.cells [m'.na] false 0))(gi:X'.h.get C.ic=some (.cells [m'.ia] false 0))(gq:X'.h.get C.qb=some (.cells (aU pl') false 0))(gm:aD6 encI encI X'.h C.mb (aEO m'.da)):rH C P' g S0 X' m' pl':=by
 have l0:=h.s.1;have kp:=K.2 _ h.kp.2 h.kp.1;have kc:=K.2 _ h.kc.2 h.kc.1;have kf:=K.2 _ h.kf.2 h.kf.1;have kg:=K.2 C.gb (Ae h.lg l0) (h.b.low h.lg);have kl:=K.2 C.lb (Ae h.ll l0) (h.b.low h.ll);exact⟨hb,gn,gi,gq,gm,kp.1.trans h.gp,kc.1.trans h.gc,kf.1.trans h.gf,kg.1.trans h.gg,kl.1.trans h.gl,⟨kp.2,Ae h.kp.2 K.1⟩,⟨kc.2,Ae h.kc.2 K.1⟩,⟨kf.2,Ae h.kf.2 K.1⟩,h.lg,h.ll,h.n1,hpl.trans h.pll,h.b.same0 K h.s⟩
theorem aD6.move{K V:Type} [DecidableEq K]{ek:K->AV}{ev:V->AV}{h h':Ev.T AB}{b:Nat}{f:K->Option V}(hm:aD6 ek ev h b f)(e:h'.get b=h.get b):aD6 ek ev h' b f:=by
 have⟨l,h1,h2⟩:=hm;exact⟨l,e.trans h1,h2⟩
theorem rH.same(h:rH C P g S0 X m pl)(hs:Same X X'):rH C P g S0 X' m pl:=
 have w:=h.b.wg
 h.next (h.b.same hs) (.same hs) rfl ((hs.2 _ (w _ LC.wn).2).trans h.gn) ((hs.2 _ (w _ LC.wi).2).trans h.gi) ((hs.2 _ (w _ LC.wq).2).trans h.gq) (h.gm.move (hs.2 _ (w _ LC.wm).2))
theorem rH.but{xb:Nat}(h:rH C P g S0 X m pl)(hx:pI C.W m xb)(hp:¬P xb)(hc:xb≠C.pc/\xb≠C.mc/\xb≠C.fc/\S0.nx<=xb)(hs:bT xb X X'):rH C P g S0 X' m pl:=by
 have w:=h.b.wg;have hw:∀ {c},C.W c->c≠xb:=fun hw e=>hx.1 (by rw[<-e];exact hw);have lg:=h.lg;have ll:=h.ll;have l0:=h.s.1;have k:∀c,c<X.nx->c≠xb->X'.h.get c=X.h.get c:=fun c hl hn=>hs.2 c hl hn;exact⟨h.b.local hs.1 fun c hl _ hpc=>k c hl fun e=>hp (by rw[<-e];exact hpc (by rw[e];exact hx)),(k _ (w _ LC.wn).2 (hw LC.wn)).trans h.gn,(k _ (w _ LC.wi).2 (hw LC.wi)).trans h.gi,(k _ (w _ LC.wq).2 (hw LC.wq)).trans h.gq,h.gm.move (k _ (w _ LC.wm).2 (hw LC.wm)),(k _ h.kp.2 (Bt hc.1)).trans h.gp,(k _ h.kc.2 (Bt hc.2.1)).trans h.gc,(k _ h.kf.2 (Bt hc.2.2.1)).trans h.gf,(k _ ar ar).trans h.gg,(k _ ar ar).trans h.gl,⟨h.kp.1,Ae h.kp.2 hs.1⟩,⟨h.kc.1,Ae h.kc.2 hs.1⟩,⟨h.kf.1,Ae h.kf.2 hs.1⟩,h.lg,h.ll,h.n1,h.pll,⟨Al l0 hs.1,fun c hl=>(k c ar ar).trans (h.s.2 c hl)⟩⟩
theorem rH.mono(h:rH C P g S0 X m pl)(hP:∀c,c<X.nx->P c->P' c):rH C P' g S0 X m pl:=
 ⟨h.b.mono hP,h.gn,h.gi,h.gq,h.gm,h.gp,h.gc,h.gf,h.gg,h.gl,h.kp,h.kc,h.kf,h.lg,h.ll,h.n1,h.pll,h.s⟩
end
def LyT(C:LC)(F:Fr):Prop:=aD 1 F= .ptr C.nc 0/\aD 2 F= .ptr C.pc 0/\aD 3 F= .ptr C.gb 0/\aD 4 F= .ptr C.lb 0/\aD 5 F= .ptr C.mc 0/\aD 6 F= .ptr C.ic 0/\aD 7 F= .ptr C.fc 0
def HdJ(C:LC)(P:Nat->Prop)(g:aS)(S0 Xe:St)(m:LyS)(pl first row next:ba)(s xb:Nat)(k p xa xw xp v12 x10:AV)(o:Out)(A:bG)(Z:St):Prop:=o= .normal/\A.inr=false/\∃m',rH C P g S0 Z m' pl/\m'.l=m.l/\m'.da=(kR m.da (first.getD s 0).toNat).1/\gL C.W m Xe m' Z/\Z.h.get xb=some (.cells [k,p,.int .i64 ((kR m.da (first.getD s 0).toNat).2:Int),xa,xw,xp] false 0)/\pI C.W m' xb/\xb<Z.nx/\bI .i64 Z v12 (pL row next next.length)/\(∀c,aZ v12=some c->pI C.W m' c/\c≠xb)/\LyT C A.F/\aD 10 A.F=x10/\aD 11 A.F= .ptr xb 0/\aD 12 A.F=v12
theorem aQi{C:LC}{P:Nat->Prop}{g:aS}{S0 Xe X0 X1:St}{m:LyS}{pl first:ba}{act:a9}{F:Fr}{s xb cb:Nat}{k p xa xw xp x10:AV}{next:ba}(hS:rH C P g S0 X1 m pl)(hPnx:¬P xb)(hXe:gL C.W m Xe m X1)(hex:Xe.nx<=xb)(h01:Same X1 X0)(hcb:X1.nx<=cb)(hcl:cb<X0.nx)(hxb:S0.nx<=xb)(hxl:xb<X1.nx)(hxp:pI C.W m xb)(hxc:xb≠C.pc/\xb≠C.mc/\xb≠C.fc)
  (ha:aE 1 iD S0 C.av act) (hf:bI .i64 S0 C.fv first) (hi:aE 2 bP S0 C.iv g.bj) (hn:bI .i64 S0 xa next) (hnl:next.length<=100000) (hs:s<act.length) (hs':s<first.length) (hrl:(act.getD s []).length=next.length) (hrow:∀a,a<next.length->∃b:Nat,(act.getD s []).getD a 0=(b:Int)/\b<next.length) (hfr:∃r:Nat,first.getD s 0=(r:Int)/\r<g.bj.length) (hreps:m.da.length<=100000)
  (gx:X1.h.get xb=some (.cells [k,p,.int .i64 (s:Int),xa,xw,xp] false 0)) (gc:X0.h.get cb=some (.cells (aU next) true 1)) (hT:LyT C F) (p10:aD 10 F=x10) (p11:aD 11 F= .ptr xb 0) (p12:aD 12 F= .sl cb 0 next.length next.length true):
  iM fns aRI ⟨F,false⟩ X0 (HdJ C P g S0 Xe m pl first (act.getD s []) next s xb k p xa xw xp (.sl cb 0 next.length next.length true) x10):=by
 have⟨p1,p2,p3,p4,p5,p6,p7⟩:=hT;have⟨r,hr,hrl'⟩:=hfr;have l01:=hS.s;have hn1:=hn.same hS.s;have gx0:=(h01.2 _ hxl).trans gx;refine aA (aX (Q:=fun oo A' X=>oo= .normal/\aPo X1 cb next.length true 1 (act.getD s []) next xa F 0 A' X) (aA (aJ ?_)) ?_)
 ·refine dt p11 @aC @aB (dC gx0) hn1.len @Ah ?_;refine aX (aPq (X1:=X1) (xw:=xw) (xp:=xp) (vk:=k) (vp:=p) (lb:=C.lb) (xb:=xb) (s:=s) (fv:=C.fv) (av:=C.av) (act:=act) h01 hcb hcl (aE.same (E:=iD) cm ha l01) hn1 hnl hs hrl hrow hS.gl gx (Ae hS.ll l01.1) hxl gc (ah p4) (ah p11) (ah p12) (af) (af) (ag)) ?_;rintro o A' X ⟨h1,h2,h3,a,h4,h5,h6,h7,h8,h9,h10⟩;refine⟨h1,h2,h3,a,h4,h5,h6,fun j hj=>(h7 j hj).trans ?_,h8,h9,h10⟩;rcases aLp hj with rfl | rfl | rfl | rfl | rfl | rfl | rfl | rfl | rfl | rfl | rfl | rfl | rfl<;>simp only[↓sU,sD,rE,↓reduceIte,rA]
 rintro o ⟨F2,inr⟩ X2 ⟨rfl,q0,h12,a,hak,gc2,hcl2,hk, -, -, -⟩;simp only at q0 hk;subst q0;obtain rfl:a=next.length:=by omega
 have hS2:=hS.same h12;have gx2:=(h12.2 _ hxl).trans gx;have q1:=(hk 1 ar).trans p1;have q2:=(hk 2 ar).trans p2;have q3:=(hk 3 ar).trans p3;have q4:=(hk 4 ar).trans p4;have q5:=(hk 5 ar).trans p5;have q6:=(hk 6 ar).trans p6;have q7:=(hk 7 ar).trans p7;have q10:=(hk 10 ar).trans p10;have q11:=(hk 11 ar).trans p11;have q12:=(hk 12 ar).trans p12;have⟨fb,fq,f1,f2,f3⟩:=jB (hf.same hS2.s) hs';rw[hr] at f3;have hrt:(first.getD s 0).toNat=r:=by omega
 have B1:gL C.W m X1 m X2:=.same h12;have lf4:=dI (p:=0) hS2.gl rfl;have lf5:=dI (p:=0) hS2.gc rfl;have fcb:pI C.W m cb:=hS.b.fresh hcb;have nbx:cb≠xb:=by omega
 refine bO ?_;simp only[↓sU,sD,rE,↓reduceIte,rA,q4,q11,aC,aB,lf4,cV gx2,aH,f1,f3];refine bO ?_;have hlk:∀F:Fr,aD 66 F= .map C.mb->aD 67 F= .int .i64 (r:Int)->gM (.lookup (.p .int) (.int .i64 0) true (.t 66) (.t 67)) F X2.h=some (.tup [.int .i64 (match aEO m.da r with | some i=>(i:Int) | none=>0),.bool (decide (r∈m.da))]):=fun F a b=>by
  rw[aJr (m:=.t 66) (x:=.t 67) aLs hS2.gm a b];unfold aEO;by_cases e:r∈m.da
  ·rw[if_pos e,Ac e];rfl
  ·rw[if_neg e,Aa e]
 refine dr q5 lf5 hlk @rN @sA ?_;refine aA (aX (Q:=fun o A' Z=>o= .normal/\A'.inr=false/\∃m',rH C P g S0 Z m' pl/\m'.l=m.l/\m'.da=(kR m.da r).1/\gL C.W m X2 m' Z/\aD 16 A'.F= .int .i64 ((kR m.da r).2:Int)/\∀j,j<13->aD j A'.F=aD j F2) (aA (aJ ?_)) ?_)
 ·by_cases e:r∈m.da
  ·refine dp (Ac e) @eM @Cc ?_;refine aM (af) (aI ?_);refine⟨rfl,rfl,m,hS2,rfl,by unfold kR;rw[if_pos e],.refl,?_,fun j hj=>?_⟩
   ·simp only[↓sU,sD,rE,↓reduceIte,rA];unfold aEO kR;rw[if_pos e,if_pos e]
   ·rcases aLp hj with rfl | rfl | rfl | rfl | rfl | rfl | rfl | rfl | rfl | rfl | rfl | rfl | rfl<;>simp only[↓sU,sD,rE,↓reduceIte,rA]
  ·refine dp (Aa e) @eM @Ci ?_;refine aN (af) ?_;have lf6:=dI (p:=0) hS2.gi rfl;refine bO ?_;have hil:=hS2.b.inf.len;rw[Aj] at hil;refine dp q6 lf6 hil ?_;have⟨V,eV,nV,kV,mV⟩:=aG2 (S:=X2) aLs hS2.gm r m.da.length;rw[aJ9 e] at mV;refine bO (dn q5 lf5 ?_);refine fI (v:=.undef) (S1:=V) (fun call=>?_) ?_
   ·rw[aLy];refine ae ?_;exact eV
   refine ae ?_;have wg:=hS2.b.wg;have⟨d1,d2,d3,d4,d5,d6⟩:=hS.n1;have lV:=Eq nV.symm;have hbV:qC C.W P g S0 V m:=hS2.b.local lV fun c _ hw _=>kV c fun e=>hw (by rw[e];exact LC.wm);have KV:gL C.W m X2 m V:=.off lV fun c _ hp=>kV c fun e=>hp.1 (by rw[e];exact LC.wm);have ggV:=(kV C.gb fun e=>((hS2.b.low (c:=C.gb) hS2.lg).1 (by rw[e];exact LC.wm))).trans hS2.gg;have giV:=(kV _ d5).trans hS2.gi;have sV:Same S0 V:=hS2.b.same0 KV hS2.s;refine aNS (W:=C.W) (g:=g) (S0:=S0) (X:=V) (gb:=C.gb) (ic:=C.ic) (m:=m) (r:=r) rfl hbV sV.1 (ah q3) (ah q6) (af) ggV giV (Ae hS2.lg sV.1) LC.wi (aE.same (E:=bP) bK hi sV) hrl' hreps ?_;intro F' Z ia' hk' hbZ KZ giZ kZ;have kw:∀c,C.W c->c≠C.ic->Z.h.get c=V.h.get c:=fun c hw hne=>kZ c (by have:=(wg c hw).2;omega) hw hne;refine⟨rfl,rfl,{m with ia:=ia',da:=m.da++ [r]},hS2.next hbZ (KV.trans KZ) rfl ?_ giZ ?_ ?_,rfl,?_,KV.trans KZ,?_,fun j hj=>?_⟩
   ·exact(kw _ LC.wn d1).trans ((kV _ d3).trans hS2.gn)
   ·exact(kw _ LC.wq (Bt d4)).trans ((kV _ d6).trans hS2.gq)
   ·exact mV.move (kw _ LC.wm (Bt d5))
   ·unfold kR;rw[if_neg e]
   ·rw[hk' 16 ar];unfold kR;rw[if_neg e];simp only[↓sU,sD,rE,↓reduceIte,rA]
   ·rw[hk' j ar];rcases aLp hj with rfl | rfl | rfl | rfl | rfl | rfl | rfl | rfl | rfl | rfl | rfl | rfl | rfl<;>simp only[↓sU,sD,rE,↓reduceIte,rA]
 rintro o ⟨F3,inr⟩ Z ⟨rfl,q0,m',hZ,e1,e2,KZ,p16,hk3⟩;simp only at q0 p16 hk3;subst q0;have hPx:pI C.W m xb:=hxp;have gxZ:=(KZ.2 xb (au h12.1) hxp).1.trans gx2;have pxZ:=(KZ.2 xb (au h12.1) hxp).2;have gcZ:=(KZ.2 cb hcl2 fcb).1.trans gc2;have pcZ:=(KZ.2 cb hcl2 fcb).2;have r11:=(hk3 11 ar).trans q11;have hxc':xb≠C.pc/\xb≠C.mc/\xb≠C.fc/\S0.nx<=xb:=⟨hxc.1,hxc.2.1,hxc.2.2,hxb⟩;refine aJ (dq p16 r11 @aC @aB ?_);refine fI (v:=.undef) (S1:=⟨Z.h.set xb (some (.cells [k,p,.int .i64 ((kR m.da r).2:Int),xa,xw,xp] false 0)),Z.nx⟩) (fun call=>?_) ?_
 ·refine dn @dS @cR ?_;exact stc (cs:=[k,p,.int .i64 (s:Int),xa,xw,xp]) (p:=2) (S:=Z) gxZ (by simp)
 refine ae ?_;have hsb:bT xb Z ⟨Z.h.set xb (some (.cells [k,p,.int .i64 ((kR m.da r).2:Int),xa,xw,xp] false 0)),Z.nx⟩:=(bT.refl xb Z).put _;have hw:=hZ.but pxZ hPnx hxc' hsb;have hne:cb≠xb:=nbx;have hE:gL C.W m Xe m' ⟨Z.h.set xb (some (.cells [k,p,.int .i64 ((kR m.da r).2:Int),xa,xw,xp] false 0)),Z.nx⟩:=by
  have t:gL C.W m Xe m X2:=hXe.trans (.same h12);refine⟨Al t.1 KZ.1,fun c hc hp=>?_⟩;have h1:=KZ.2 c (Ae hc t.1) hp;refine⟨?_,h1.2⟩;simp only;rw[di,if_neg ar,h1.1];exact(t.2 c hc hp).1
 rw[<-hrt] at e2;have gcW:(Z.h.set xb (some (.cells [k,p,.int .i64 ((kR m.da r).2:Int),xa,xw,xp] false 0))).get cb=some (.cells (aU (pL (act.getD s []) next next.length)) true 1):=by
  rw[di,if_neg hne];exact gcZ
 have hv12:fY 1 X1 ⟨Z.h.set xb (some (.cells [k,p,.int .i64 ((kR m.da r).2:Int),xa,xw,xp] false 0)),Z.nx⟩ (.sl cb 0 next.length next.length true) (pL (act.getD s []) next next.length).length (aU (pL (act.getD s []) next next.length)):=.inr ⟨cb,by rw[sI],hcb,by have:=KZ.1;show cb<Z.nx;omega,gcW,by rw[nF,Cr]⟩;refine⟨rfl,rfl,m',hw,e1,e2,hE,by simp only;rw[di,if_pos rfl,hrt],pxZ,by have:=KZ.1;have:=h12.1;show xb<Z.nx;omega,hv12.is,fun c hc=>by cases hc;exact⟨pcZ,hne⟩,?_,?_,?_,?_⟩
 ·refine⟨?_,?_,?_,?_,?_,?_,?_⟩
  ·refine ae ?_;exact(hk3 1 ar).trans q1
  ·refine ae ?_;exact(hk3 2 ar).trans q2
  ·refine ae ?_;exact(hk3 3 ar).trans q3
  ·refine ae ?_;exact(hk3 4 ar).trans q4
  ·refine ae ?_;exact(hk3 5 ar).trans q5
  ·refine ae ?_;exact(hk3 6 ar).trans q6
  ·refine ae ?_;exact(hk3 7 ar).trans q7
 ·refine ae ?_;exact(hk3 10 ar).trans q10
 ·refine ae ?_;exact r11
 ·refine ae ?_;exact(hk3 12 ar).trans q12
end Go.Ev.Gl
