import Derived.Test.YtbmodoaceepfoaaGl22
set_option linter.all false
open Nat renaming reduceEqDiff -> rE, reduceAdd -> rA
set_option maxHeartbeats 0
namespace Go.Ev.Gl
variable {fns:T fD}
variable {l first:bt}{g:aP}{L A:bo}{i j c r lb xb cb ob br qr:Nat}{S0 X X' S X1:St}{P P':Nat->Prop}{v' v fv av xa xw xp pv nv iv B D G I qv:AV}{w:Int}{F:Fr}{inr:Bool}{Q:Out->bO->St->Prop}{de:cd}{cs:bu}
def vI(row ji:bt):Nat->bt
 | 0=>ji
 | a+1=>(vI row ji a).set (row.getD a 0).toNat (ji.getD a 0)
def gP(act:bo)(x:cD):bt:=if x.jk=2 then vI (act.getD x.jj.toNat []) x.ji x.ji.length else x.ji
def oJ(de:cd)(r:Nat):cd×Nat:=if r∈de then(de,de.idxOf r) else(de++ [r],de.length)
structure aA4 where
 ce:List cD
 olds:cd
 de:cd
def eG(lay:Nat->Nat->cd->aA4):bt->Nat->cd->bt×aA4
 | [],_,de=>([],⟨[],[],de⟩)
 | k::a,i,de=>((i:Int)::(eG lay a (i+(lay k.toNat i de).ce.length) (lay k.toNat i de).de).1,⟨(lay k.toNat i de).ce++(eG lay a (i+(lay k.toNat i de).ce.length) (lay k.toNat i de).de).2.ce,(lay k.toNat i de).olds++(eG lay a (i+(lay k.toNat i de).ce.length) (lay k.toNat i de).de).2.olds,(eG lay a (i+(lay k.toNat i de).ce.length) (lay k.toNat i de).de).2.de⟩)
def gG(first:bt)(de:cd)(x:cD):cd×Int:=if x.jk=2 then((oJ de (first.getD x.jj.toNat 0).toNat).1,((oJ de (first.getD x.jj.toNat 0).toNat).2:Int)) else(de,x.jj)
def fV(g:aP)(first:bt)(act:bo):Nat->Nat->Nat->cd->aA4
 | 0,_,_,de=>⟨[],[],de⟩
 | f+1,old,i,de=>⟨{ct g old with jj:=(gG first de (ct g old)).2,ji:=(eG (fV g first act f) (gP act (ct g old)) (i+1) (gG first de (ct g old)).1).1}::(eG (fV g first act f) (gP act (ct g old)) (i+1) (gG first de (ct g old)).1).2.ce,old::(eG (fV g first act f) (gP act (ct g old)) (i+1) (gG first de (ct g old)).1).2.olds,(eG (fV g first act f) (gP act (ct g old)) (i+1) (gG first de (ct g old)).1).2.de⟩
def wZ:bt->Nat->cd->bt
 | pl,_,[]=>pl
 | pl,i,o::os=>wZ (pl.set o (i:Int)) (i+1) os
def aIb:∀ {os a:cd} {pl:bt} {i:Nat},wZ pl i (os++a)=wZ (wZ pl i os) (i+os.length) a
 | [],_,_,_=>rfl
 | o::os,a,pl,i=>by
  show wZ (pl.set o (i:Int)) (i+1) (os++a)=wZ (wZ (pl.set o (i:Int)) (i+1) os) (i+(os.length+1)) a;rw[aIb,show i+1+os.length=i+(os.length+1) by omega]
def aDQ:∀ {os:cd} {pl:bt} {i:Nat},(wZ pl i os).length=pl.length
 | [],_,_=>rfl
 | o::os,pl,i=>by
  show(wZ (pl.set o (i:Int)) (i+1) os).length=_;rw[aDQ,Ar]
def aDO{lay:Nat->Nat->cd->aA4}:∀ {l:bt} {k:Int} {i:Nat} {de:cd},eG lay (l++ [k]) i de=((eG lay l i de).1++ [((i+(eG lay l i de).2.ce.length:Nat):Int)],⟨(eG lay l i de).2.ce++(lay k.toNat (i+(eG lay l i de).2.ce.length) (eG lay l i de).2.de).ce,(eG lay l i de).2.olds++(lay k.toNat (i+(eG lay l i de).2.ce.length) (eG lay l i de).2.de).olds,(lay k.toNat (i+(eG lay l i de).2.ce.length) (eG lay l i de).2.de).de⟩)
 | [],k,i,de=>by
  show(_,_)=(_,_);simp [eG]
 | x::l,k,i,de=>by
  rw[Ci]
  conv=>lhs;unfold eG
  rw[aDO]
  conv=>rhs;unfold eG
  simp [Da]
def zC{lay:Nat->Nat->cd->aA4}:∀ {l:bt} {i:Nat} {de:cd},(eG lay l i de).1.length=l.length
 | [],_,_=>rfl
 | x::l,i,de=>by
  unfold eG;simp only[Aw];rw[zC]
def aAB{lay:Nat->Nat->cd->aA4}(h:∀o i de,(lay o i de).olds.length=(lay o i de).ce.length):∀ {l:bt} {i:Nat} {de:cd},(eG lay l i de).2.olds.length=(eG lay l i de).2.ce.length
 | [],_,_=>rfl
 | x::l,i,de=>by
  unfold eG;simp only[Ai];rw[h,aAB h]
def aF5{g:aP}{first:bt}{act:bo}:∀ {f:Nat} {o i:Nat} {de:cd},(fV g first act f o i de).olds.length=(fV g first act f o i de).ce.length
 | 0,_,_,_=>rfl
 | f+1,o,i,de=>by
  unfold fV;simp only[Aw];rw[aAB fun o i de=>aF5]
def xQ{row ji:bt}:∀ {n:Nat},(vI row ji n).length=ji.length
 | 0=>rfl
 | n+1=>by
  unfold vI;rw[Ar,xQ]
def aDB{row ji:bt}(d:∀a,a<ji.length->(row.getD a 0).toNat<ji.length)(c:∀a b,a<ji.length->b<ji.length->(row.getD a 0).toNat=(row.getD b 0).toNat->a=b):∀ {n:Nat},n<=ji.length->∀a,a<n->(vI row ji n).getD (row.getD a 0).toNat 0=ji.getD a 0
 | 0,_,a,f=>absurd f (Bo a)
 | n+1,i,a,f=>by
  unfold vI;rw[eJ (by rw[xQ];exact d n au)];by_cases e:a=n
  .subst e;rw[if_pos rfl]
  .rw[if_neg (fun h=>e (c a n au au  h))];exact aDB d c au a au
def aHW{l m:cd}(h:l.Perm m):l.sum=m.sum:=by
 induction h with
 | nil=>rfl
 | cons x _ c=>rw[Er,Er,c]
 | swap x y l=>rw[Er,Er,Er,Er];omega
 | trans _ _ a b=>exact a.trans b
def aLt{row ji:bt}(d:∀a,a<ji.length->(row.getD a 0).toNat<ji.length)(c:∀a b,a<ji.length->b<ji.length->(row.getD a 0).toNat=(row.getD b 0).toNat->a=b):(vI row ji ji.length).Perm ji:=by
 have j:ji=((List.range ji.length).map fun a=>(row.getD a 0).toNat).map fun i=>(vI row ji ji.length).getD i 0:=by
  rw[Eu];refine En (by rw[Av,Cn]) fun a j o=>?_;rw[List.getElem_map,List.getElem_range];show _=(vI row ji ji.length).getD (row.getD a 0).toNat 0;rw[aDB d c (Af _) a j,Ad,Ab j];rfl
 have o:vI row ji ji.length=(List.range ji.length).map fun i=>(vI row ji ji.length).getD i 0:=by
  refine En (by rw[Av,Cn,xQ]) fun a j o=>?_;rw[List.getElem_map,List.getElem_range,Ad,Ab j];rfl
 have r:((List.range ji.length).map fun a=>(row.getD a 0).toNat).Perm (List.range ji.length):=by
  refine(List.perm_ext_iff_of_nodup ?_ List.nodup_range).2 fun x=>?_
  .unfold List.Nodup;rw[List.pairwise_map];refine List.Pairwise.imp_of_mem (fun {a b} p s h e=>h (c a b (Dp.1 p) (Dp.1 s) e)) List.nodup_range
  .rw[Cp,Dp];constructor
   .rintro⟨a,p,rfl⟩;exact d a (Dp.1 p)
   .intro t;have⟨k,u,e⟩:=aEG (n:=ji.length) (f:=fun a=>(row.getD a 0).toNat) d c x t;exact⟨k,Dp.2 u,e⟩
 have q:=r.map fun i=>(vI row ji ji.length).getD i 0;rw[<-j,<-o] at q;exact q.symm
def iD(g:aP)(act:bo):Prop:=act.length=g.cg.length/\∀s,s<g.cg.length->(act.getD s []).length=fP g s/\(∀a,a<fP g s->∃b:Nat,(act.getD s []).getD a 0=(b:Int)/\b<fP g s)/\∀a b,a<fP g s->b<fP g s->(act.getD s []).getD a 0=(act.getD s []).getD b 0->a=b
def aGh{act:bo}(G:cV g)(i:∀m∈L,gF g m)(j:tZ g.cg.length (mJ g.cg.length (L.map (dh g))) first)(o:¬Dup g L first)(h:aJa g L first act):iD g act:=by
 refine⟨h.len,fun s c=>⟨h.row s c,fun a f=>?_,fun a b f p e=>?_⟩⟩
 .have⟨b,n,q,_⟩:=h.at_ s a c f;exact⟨b,n,by rw[(aDT G i (j.con s c)).1];exact q⟩
 .have⟨x,n,q,r⟩:=h.at_ s a c f;have⟨y,u,w,t⟩:=h.at_ s b c p;rw[n,u] at e;obtain rfl:x=y:=by omega
  rcases Ei a b with d|rfl|d
  .exact absurd (aOn G i j c d p (.trans r (.symm t))) o
  .rfl
  .exact absurd (aOn G i j c d f (.trans t (.symm r))) o
def sG(G:cV g)(hi:i<g.ce.length)(a:(ct g i).jk=2):(ct g i).jj.toNat<g.cg.length/\fP g (ct g i).jj.toNat=(ct g i).ji.length/\((ct g i).jj.toNat:Int)=(ct g i).jj:=by
 have⟨c,d,b⟩:=G.inf i hi a;refine⟨au,?_,au⟩;unfold fP;rw[show(((ct g i).jj.toNat:Nat):Int)=(ct g i).jj by omega,b];omega
def mQ{act:bo}(G:cV g)(d:iD g act)(hi:i<g.ce.length):(gP act (ct g i)).Perm (ct g i).ji:=by
 unfold gP;split
 .rename_i f;have⟨h,q,_⟩:=sG G hi f;have⟨_,c,j⟩:=d.2 _ h;refine aLt (fun a n=>?_) fun a b n r e=>?_
  .have⟨b,o,p⟩:=c a au;omega
  .have⟨x,o,p⟩:=c a au;have⟨y,s,t⟩:=c b au;exact j a b au au au
 .exact List.Perm.refl _
def yP{T:List cL}{lay:Nat->Nat->cd->aA4}:∀ {l:bt} (_:∀k∈l,∀i de,(lay k.toNat i de).ce.length<=dR T k.toNat) {i:Nat} {de:cd},(eG lay l i de).2.ce.length<=((l.map Int.toNat).map (dR T)).sum
 | [],_,_,_=>Af _
 | x::l,h,i,de=>by
  unfold eG;simp only[Ai,Dh,Er];have b:=h x (Be ..) i de;have c:=yP (l:=l) (fun k a=>h k (Az _ a)) (i:=i+(lay x.toNat i de).ce.length) (de:=(lay x.toNat i de).de);omega
def aAV{g:aP}{first:bt}{act:bo}{T:List cL}(G:cV g)(b:iD g act)(c:fY g=some T)(d:T.length=g.ce.length):∀ {f o i:Nat} {de:cd},o<g.ce.length->(fV g first act f o i de).ce.length<=dR T o
 | 0,_,_,_,_=>Ct _
 | f+1,o,i,de,a=>by
  unfold fV;simp only[Aw];have e:=mQ G b a;have n:=yP (T:=T) (lay:=fV g first act f) (l:=gP act (ct g o)) (fun k j i de=>aAV G b c d (by
   obtain⟨q,h,rfl⟩:=Ce (e.mem_iff.1 j);have:=G.kids o a q h;rw[Ad,Ab h] at this;simp only[Ea] at this;omega)) (i:=i+1) (de:=(gG first de (ct g o)).1)
  have p:=zA c d a;have r:=aHW ((e.map Int.toNat).map (dR T));omega
section
variable {α:Type}{k:Nat}{E E':bu->α->Prop}{S0 X:St}{v:AV}{l:List α}
def qX.fld(h:qX k E S0 X v l){q:Nat}{a a':α}{x:AV}(hi:l[i]? =some a)(F:q<k)(K:∀ (j:Nat) (b:α) (e:bu),l[j]? =some b->j≠i->E e b->E' e b)(L:∀e,E e a->E' (e.set q x) a'):
  ∃b p X',eY (.slice k) v i=some (.ptr b p)/\aN v=some b/\b<X.nx/\qZ (.ptr b (p+q)) 1 [x] X=some (.undef,X')/\qX k E' S0 X' v (l.set i a')/\X'.nx=X.nx/\∀c,c≠b->X'.h.get c=X.h.get c:=by
 have n:=(Aj.1 hi).1;rcases h with⟨rfl,rfl⟩|⟨b,c,cs,rfl,G,M,N,H,O,Q,I⟩
 .cases hi
 .have u:i * k+q+ [x].length<=cs.length:=by
   have:=qI n F;have:=Co k G;rw[M];simp only[Ax];omega
  refine⟨b,0+i * k,⟨X.h.set b (some (.cells (cs.take (i * k+q)++ [x]++cs.drop (i * k+q+ [x].length)) true k)),X.nx⟩,?_,rfl,H,?_,.inr ⟨b,c,cs.take (i * k+q)++ [x]++cs.drop (i * k+q+ [x].length),by rw[Ar],by rw[Ar];exact G,by simp only[Ax] at u;simp;omega,N,H,jh,Q,fun j J o=>?_⟩,rfl,fun S d=>by simp only;rw[dx,if_neg d]⟩
  .show bX (Nat.blt i l.length) _ _=_;rw[show Nat.blt i l.length=true from Al n,aL]
  .rw[An];exact aM4 O u rfl
  .rw[De] at o;split at o
   .rename_i z;subst z;try rw[if_pos n] at o
    cases o;have⟨e,s,A,B⟩:=I i a hi;refine⟨e.set q x,by rw[Ar,s],fun r y f=>?_,L e B⟩;have D:r<k:=by
     have:=(Aj.1 f).1;rw[Ar,s] at this;exact this
    rw[De] at f;rw[uL u];split at f
    .rename_i z;subst z;try rw[if_pos (au:q<e.length)] at f
     cases f;rw[if_neg au,if_pos (by simp),Dv];rfl
    .rename_i d;have t:=A r y f;by_cases R:r<q
     .rw[if_pos au];exact t
     .rw[if_neg au,if_neg (by simp only[Ax];omega)];exact t
   .rename_i d;have⟨e,s,A,B⟩:=I j J o;refine⟨e,s,fun r y f=>?_,K j J e o (fun e=>d e.symm) B⟩;have D:r<k:=by rw[<-s];exact(Aj.1 f).1
    have t:=A r y f;rw[uL u];rcases Nat.lt_or_gt_of_ne d with w|w
    .have:=qI w F;have:(i+1) * k<=j * k:=Co k w;rw[Dl,Fu] at this;rw[if_neg au,if_neg (by simp only[Ax];omega)];exact t
    .have:(j+1) * k<=i * k:=Co k w;rw[Dl,Fu] at this;rw[if_pos au];exact t
end
structure LyS where
 na:AV
 ia:AV
 l:List (cD×AV)
 de:cd
def PBl(W:Nat->Prop)(m:LyS)(c:Nat):Prop:=¬W c/\aN m.na≠some c/\aN m.ia≠some c/\∀a∈m.l,aN a.2≠some c
def NdE(S0 X:St)(P:Nat->Prop)(e:bu)(a:cD×AV):Prop:=∃xw xp,e= [jr a.1.jk,jr a.1.jl,jr a.1.jj,a.2,xw,xp]/\fC 1 S0 X a.2 a.1.ji.length (aQ a.1.ji)/\bN .i64 X xw a.1.jm/\bN .i64 X xp a.1.jn/\∀c,(aN xw=some c\/aN xp=some c)->P c
def NdE.move{e:bu}{a:cD×AV}(h:NdE S0 X P e a)(i:X.nx<=X'.nx)(o:∀c,aN a.2=some c->X'.h.get c=X.h.get c)(d:∀c,c<X.nx->P c->X'.h.get c=X.h.get c/\P' c):NdE S0 X' P' e a:=by
 obtain⟨xw,xp,rfl,p,j,n,f⟩:=h;refine⟨xw,xp,rfl,p.move i o,eH j i fun c b=>(d c (dK j b) (f c (.inl b))).1,eH n i fun c b=>(d c (dK n b) (f c (.inr b))).1,fun c b=>?_⟩;rcases b with b|b
 .exact(d c (dK j b) (f c (.inl b))).2
 .exact(d c (dK n b) (f c (.inr b))).2
structure tU(W P:Nat->Prop)(g:aP)(S0 X:St)(m:LyS):Prop where
 nod:qX 6 (NdE S0 X fun c=>PBl W m c/\P c) S0 X m.na m.l
 inf:qX 2 aIT S0 X m.ia (m.de.map fun r:Nat=>cu g (r:Int))
 rn:∀a∈m.l,∀c,aN a.2=some c->(S0.nx<=c/\c<X.nx)/\¬W c/\aN m.na≠some c/\aN m.ia≠some c
 dj:∀ (i j:Nat) (a b:cD×AV),i≠j->m.l[i]? =some a->m.l[j]? =some b->∀c,aN a.2=some c->aN b.2≠some c
 d1:∀c,aN m.na=some c->¬W c/\aN m.ia≠some c
 d2:∀c,aN m.ia=some c->¬W c
 wg:∀c,W c->S0.nx<=c/\c<X.nx
def lQ(W:Nat->Prop)(m:LyS)(X:St)(m':LyS)(X':St):Prop:=X.nx<=X'.nx/\∀c,c<X.nx->PBl W m c->X'.h.get c=X.h.get c/\PBl W m' c
section
variable {W P:Nat->Prop}{g:aP}{S0 X X':St}{m m' m'':LyS}
def lQ.refl:lQ W m X m X:=⟨Af _,fun _ _ h=>⟨rfl,h⟩⟩
def lQ.trans{X'':St}(h:lQ W m X m' X')(h':lQ W m' X' m'' X''):lQ W m X m'' X'':=
 ⟨Aq h.1 h'.1,fun c d e=>by
  have⟨a,b⟩:=h.2 c d e;have⟨a',f⟩:=h'.2 c (Ae d h.1) b;exact⟨a'.trans a,f⟩⟩
def lQ.off(a:X.nx<=X'.nx)(b:∀c,c<X.nx->PBl W m c->X'.h.get c=X.h.get c):lQ W m X m X':=⟨a,fun c d h=>⟨b c d h,h⟩⟩
def lQ.jo(h:jq X X'):lQ W m X m X':=.off h.1 fun c a _=>h.2 c a
def tU.row_of(h:tU W P g S0 X m){a:cD×AV}(b:m.l[j]? =some a)(d:aN a.2=some c):(S0.nx<=c/\c<X.nx)/\¬W c/\aN m.na≠some c/\aN m.ia≠some c:=h.rn a (Bb b) c d
def tU.low(h:tU W P g S0 X m)(d:c<S0.nx):PBl W m c:=
 ⟨fun e=>by have:=(h.wg c e).1;omega,fun e=>by have:=(h.nod.blk e).1;omega,fun e=>by have:=(h.inf.blk e).1;omega,fun a b e=>by have:=(h.rn a b c e).1;omega⟩
def tU.fresh(h:tU W P g S0 X m)(d:X.nx<=c):PBl W m c:=
 ⟨fun e=>by have:=(h.wg c e).2;omega,fun e=>by have:=(h.nod.blk e).2;omega,fun e=>by have:=(h.inf.blk e).2;omega,fun a b e=>by have:=(h.rn a b c e).1;omega⟩
def tU.same0(h:tU W P g S0 X m)(K:lQ W m X m' X')(a:jq S0 X):jq S0 X':=
 ⟨Aq a.1 K.1,fun c b=>((K.2 c (Ae b a.1) (h.low b)).1).trans (a.2 c b)⟩
def tU.local(h:tU W P g S0 X m)(j:X.nx<=X'.nx)(n:∀c,c<X.nx->¬W c->(PBl W m c->P c)->X'.h.get c=X.h.get c):tU W P g S0 X' m where
 nod:=by
  rcases h.nod with s|⟨b,c,cs,p,t,u,w,q,x,y,z⟩
  .exact .inl s
  .have r:aN m.na=some b:=by rw[p];rfl
   refine .inr ⟨b,c,cs,p,t,u,w,Ae q j,(n b q (h.d1 b r).1 fun f=>absurd r f.2.1).trans x,y,fun i a hi=>?_⟩;have⟨e,A,B,D⟩:=z i a hi;exact⟨e,A,B,D.move j (fun c d=>n c (h.row_of hi d).1.2 (h.row_of hi d).2.1 fun f=>absurd d (f.2.2.2 a (Bb hi))) fun c d f=>⟨n c d f.1.1 fun _=>f.2,f⟩⟩
 inf:=h.inf.move j (fun c d=>n c (h.inf.blk d).2 (h.d2 c d) fun f=>absurd d f.2.2.1) fun _ _ F=>F
 rn:=fun a o c d=>⟨⟨(h.rn a o c d).1.1,Ae (h.rn a o c d).1.2 j⟩,(h.rn a o c d).2⟩
 dj:=h.dj
 d1:=h.d1
 d2:=h.d2
 wg:=fun c d=>⟨(h.wg c d).1,Ae (h.wg c d).2 j⟩
def tU.jo(h:tU W P g S0 X m)(a:jq X X'):tU W P g S0 X' m:=h.local a.1 fun c b _ _=>a.2 c b
def tU.mono(h:tU W P g S0 X m)(d:∀c,c<X.nx->P c->P' c):tU W P' g S0 X m where
 nod:=h.nod.move (Af _) (fun _ _=>rfl) fun e a f=>f.move (Af _) (fun _ _=>rfl) fun c i b=>⟨rfl,b.1,d c i b.2⟩
 inf:=h.inf
 rn:=h.rn
 dj:=h.dj
 d1:=h.d1
 d2:=h.d2
 wg:=h.wg
def tU.pushN(h:tU W P g S0 X m){a:cD}(q:X.nx<=X'.nx)(s:∀c,c<X.nx->aN m.na≠some c->X'.h.get c=X.h.get c)(t:∀c,aN v'=some c->aN m.na=some c\/X.nx<=c)(w:qX 6 (NdE S0 X fun c=>PBl W m c/\P c) S0 X' v' (m.l++ [(a,.cr)])):tU W P g S0 X' {m with na:=v',l:=m.l++ [(a,.cr)]}/\lQ W m X {m with na:=v',l:=m.l++ [(a,.cr)]} X':=by
 have mem:∀ {y c},y∈m.l++ [((a,.cr):cD×AV)]->aN y.2=some c->y∈m.l:=fun n d=>by
  rcases Bi.1 n with f|f
  .exact f
  .rw[Bz.1 f] at d;cases d
 have K:lQ W m X {m with na:=v',l:=m.l++ [(a,.cr)]} X':=⟨q,fun c d o=>⟨s c d o.2.1,o.1,fun e=>(t c e).elim (fun f=>o.2.1 f) fun f=>absurd d (Nat.not_lt.2 f),o.2.2.1,fun y n e=>o.2.2.2 y (mem n e) e⟩⟩;have nv:∀ {c},aN m.na≠some c->c<X.nx->aN v'≠some c:=fun f z e=>(t _ e).elim f fun A=>absurd z (Nat.not_lt.2 A);refine⟨⟨?_,h.inf.move q (fun c d=>s c (h.inf.blk d).2 fun e=>(h.d1 c e).2 d) fun _ _ B=>B,fun y n c d=>?_,fun i j x y u r n c d p=>?_,fun c d=>?_,h.d2,fun c d=>⟨(h.wg c d).1,Ae (h.wg c d).2 q⟩⟩,K⟩
 .rcases w with D|⟨b,c,cs,F,G,H,I,J,L,M,N⟩
  .exact .inl D
  .refine .inr ⟨b,c,cs,F,G,H,I,J,L,M,fun i y hi=>?_⟩;have⟨e,O,Q,R⟩:=N i y hi;refine⟨e,O,Q,R.move q (fun c d=>?_) fun c d o=>⟨(K.2 c d o.1).1,(K.2 c d o.1).2,o.2⟩⟩;have:=h.rn y (mem (Bb hi) d) c d;exact s c this.1.2 this.2.2.1
 .have:=h.rn y (mem n d) c d;exact⟨⟨this.1.1,Ae this.1.2 q⟩,this.2.1,nv this.2.2.1 this.1.2,this.2.2.2⟩
 .rw[Eg] at r n;split at r
  .split at n
   .exact h.dj i j x y u r n c d p
   .have:=Bb n;rw[Bz] at this;rw[this] at p;cases p
  .have:=Bb r;rw[Bz] at this;rw[this] at d;cases d
 .rcases t c d with f|f
  .exact h.d1 c f
  .exact⟨fun e=>by have:=(h.wg c e).2;omega,fun e=>by have:=(h.inf.blk e).2;omega⟩
def tU.pushI(h:tU W P g S0 X m)(j:X.nx<=X'.nx)(n:∀c,c<X.nx->aN m.ia≠some c->X'.h.get c=X.h.get c)(o:∀c,aN v'=some c->aN m.ia=some c\/X.nx<=c)(t:qX 2 aIT S0 X' v' ((m.de.map fun r:Nat=>cu g (r:Int))++ [cu g (r:Int)])):tU W P g S0 X' {m with ia:=v',de:=m.de++ [r]}/\lQ W m X {m with ia:=v',de:=m.de++ [r]} X':=by
 have K:lQ W m X {m with ia:=v',de:=m.de++ [r]} X':=⟨j,fun c a d=>⟨n c a d.2.2.1,d.1,d.2.1,fun e=>(o c e).elim (fun f=>d.2.2.1 f) fun f=>absurd a (Nat.not_lt.2 f),d.2.2.2⟩⟩;have nv:∀ {c},aN m.ia≠some c->c<X.nx->aN v'≠some c:=fun f u e=>(o _ e).elim f fun w=>absurd u (Nat.not_lt.2 w);refine⟨⟨?_,by simp only[Cf,Dh,List.map_nil];exact t,fun y x c a=>?_,h.dj,fun c a=>⟨(h.d1 c a).1,nv (h.d1 c a).2 (h.nod.blk a).2⟩,fun c a=>?_,fun c a=>⟨(h.wg c a).1,Ae (h.wg c a).2 j⟩⟩,K⟩
 .rcases h.nod with z|⟨b,c,cs,q,A,B,D,s,F,G,H⟩
  .exact .inl z
  .have p:aN m.na=some b:=by rw[q];rfl
   refine .inr ⟨b,c,cs,q,A,B,D,Ae s j,(n b s (h.d1 b p).2).trans F,G,fun i y hi=>?_⟩;have⟨e,I,J,L⟩:=H i y hi;refine⟨e,I,J,L.move j (fun c a=>?_) fun c a d=>⟨(K.2 c a d.1).1,(K.2 c a d.1).2,d.2⟩⟩;have:=h.row_of hi a;exact n c this.1.2 this.2.2.2
 .have:=h.rn y x c a;exact⟨⟨this.1.1,Ae this.1.2 j⟩,this.2.1,this.2.2.1,nv this.2.2.2 this.1.2⟩
 .rcases o c a with f|f
  .exact h.d2 c f
  .exact fun e=>by have:=(h.wg c e).2;omega
def tU.row_at(h:tU W P g S0 X m){a:cD}(hi:m.l[i]? =some (a,v)):∃b p,eY (.slice 6) m.na i=some (.ptr b p)/\aN m.na=some b/\b<X.nx/\eE (.ptr b (p+3)) false 1 X.h=some v/\fC 1 S0 X v a.ji.length (aQ a.ji):=by
 rcases h.nod with⟨_,j⟩|⟨b,c,cs,f,t,u,w,n,o,x,q⟩
 .rw[j] at hi;cases hi
 .obtain⟨e,y,r,xw,xp,rfl,s,_⟩:=q i _ hi;have d:=(Aj.1 hi).1;refine⟨b,0+i * 6,?_,by rw[f];rfl,n,cM o (by rw[An];exact r 3 v rfl),s⟩;rw[f];show bX (Nat.blt i m.l.length) _ _=_;rw[show Nat.blt i m.l.length=true from Al d,aL]
def tU.row(h:tU W P g S0 X m){a:cD}(hi:m.l[i]? =some (a,v))(K:X.nx<=X'.nx)(s:∀c,c<X.nx->aN v≠some c->X'.h.get c=X.h.get c)(hg:fC 1 S0 X' v' (a.ji++ [w]).length (aQ (a.ji++ [w])))(D:∀c,aN v'=some c->X.nx<=c):
  ∃b p X'',eY (.slice 6) m.na i=some (.ptr b p)/\aN m.na=some b/\b<X.nx/\qZ (.ptr b (p+3)) 1 [v'] X'=some (.undef,X'')/\X''.nx=X'.nx/\(∀c,c≠b->X''.h.get c=X'.h.get c)/\tU W P g S0 X'' {m with l:=m.l.set i ({a with ji:=a.ji++ [w]},v')}/\lQ W m X {m with l:=m.l.set i ({a with ji:=a.ji++ [w]},v')} X'':=by
 have F:=(Aj.1 hi).1;have lv:∀ {c},aN v=some c->_:=fun d=>h.row_of hi d;have Q:∀ {c},aN m.na=some c->aN v≠some c:=fun d e=>(lv e).2.2.1 d;have R:qX 6 (fun e y=>NdE S0 X (fun c=>PBl W m c/\P c) e y) S0 X' m.na m.l:=by
  rcases h.nod with S|⟨b,c,cs,L,T,U,V,M,Y,Z,g7⟩
  .exact .inl S
  .exact .inr ⟨b,c,cs,L,T,U,V,Ae M K,(s b M (Q (by rw[L];rfl))).trans Y,Z,g7⟩
 have mem:∀ {y},y∈m.l.set i ({a with ji:=a.ji++ [w]},v')->(∃j,j≠i/\m.l[j]? =some y)\/y=({a with ji:=a.ji++ [w]},v'):=fun {y} n=>by
  have⟨j,o,e⟩:=Ce n;rw[List.getElem_set] at e;split at e
  .exact .inr e.symm
  .rename_i t;rw[Ar] at o;exact .inl ⟨j,fun e=>t e.symm,by rw[<-e];exact Ab o⟩
 have pb:∀c,c<X.nx->PBl W m c->PBl W {m with l:=m.l.set i ({a with ji:=a.ji++ [w]},v')} c:=fun c d f=>⟨f.1,f.2.1,f.2.2.1,fun y n e=>by
  rcases mem n with⟨j,_,o⟩|rfl
  .exact f.2.2.2 y (Bb o) e
  .have:=D c e;omega⟩
 obtain⟨bb,u,aa⟩:∃b,aN m.na=some b/\b<X.nx:=by
  have⟨b,_,_,N,A,_⟩:=h.row_at hi;exact⟨b,N,A⟩
 have⟨b,p,X'',k1,k2,k3,k4,k5,k6,G⟩:=qX.fld (E':=NdE S0 ⟨X'.h,X'.nx⟩ fun c=>PBl W {m with l:=m.l.set i ({a with ji:=a.ji++ [w]},v')} c/\P c) (a':=({a with ji:=a.ji++ [w]},v')) (x:=v') (q:=3) R hi az (fun j y e o t H=>H.move K (fun c d=>s c (h.row_of o d).1.2 (h.dj j i y _ t o hi c d)) fun c d f=>⟨s c d (fun e=>f.1.2.2.2 _ (Bb hi) e),pb c d f.1,f.2⟩) fun e H=>by
   obtain⟨xw,xp,rfl,N,A,h3,O⟩:=H;have r:=Bb hi;refine⟨xw,xp,rfl,hg,eH A K fun c d=>s c (dK A d) fun e=>(O c (.inl d)).1.2.2.2 _ r e,eH h3 K fun c d=>s c (dK h3 d) fun e=>(O c (.inr d)).1.2.2.2 _ r e,fun c d=>?_⟩;have ab:c<X.nx:=by
    rcases d with d|d
    .exact dK A d
    .exact dK h3 d
   exact⟨pb c ab (O c d).1,(O c d).2⟩
 rw[u] at k2;cases k2;have nb:∀c,aN m.na=some c->c=bb:=fun c d=>by rw[u] at d;cases d;rfl
 refine⟨bb,p,X'',k1,u,aa,k4,k6,G,⟨?_,?_,fun y n c d=>?_,fun i' j x y I B n c d z=>?_,h.d1,h.d2,fun c d=>⟨(h.wg c d).1,by have:=(h.wg c d).2;omega⟩⟩,⟨au,fun c d f=>⟨?_,pb c d f⟩⟩⟩
 .rcases k5 with S|⟨b',c,cs,L,T,U,V,M,Y,Z,g7⟩
  .exact .inl S
  .refine .inr ⟨b',c,cs,L,T,U,V,M,Y,Z,fun j y o=>?_⟩;have⟨e,e1,e2,e3⟩:=g7 j y o;refine⟨e,e1,e2,e3.move (by show X'.nx<=X''.nx;omega) (fun c d=>G c fun e=>?_) fun c _ f=>⟨G c fun e=>f.1.2.1 (by rw[e];exact u),f⟩⟩;rcases mem (Bb o) with⟨j',_,ac⟩|rfl
   .exact(h.row_of ac d).2.2.1 (by rw[e];exact u)
   .have:=D c d;omega
 .exact h.inf.move au (fun c d=>(G c fun e=>(h.d1 bb u).2 (by rw[<-e];exact d)).trans (s c (h.inf.blk d).2 fun e=>(lv e).2.2.2 d)) fun _ _ H=>H
 .rcases mem n with⟨j,_,o⟩|rfl
  .have:=h.row_of o d;exact⟨⟨this.1.1,au⟩,this.2⟩
  .have N:=hg.blk d;have A:=D c d;exact⟨⟨N.1,au⟩,fun e=>by have:=(h.wg c e).2;omega,fun e=>by have:=(h.nod.blk e).2;omega,fun e=>by have:=(h.inf.blk e).2;omega⟩
 .rw[De] at B n;have J:∀ {q:Nat} {y:cD×AV},m.l[q]? =some y->aN y.2=some c->c<X.nx:=fun hq d=>(h.row_of hq d).1.2;split at B
  .split at n
   .rename_i e1 e2;exact I (e1.symm.trans e2)
   .try rw[if_pos F] at B
    cases B;have:=D c d;have:=J n z;omega
  .split at n
   .try rw[if_pos F] at n
    cases n;have:=D c z;have:=J B d;omega
   .exact h.dj i' j x y I B n c d z
 .rw[G c (fun e=>f.2.1 (by rw[e];exact u))];exact s c d fun e=>f.2.2.2 _ (Bb hi) e
def tU.ce(h:tU W P g S0 X m):aE 6 bT X m.na (m.l.map (·.1)):=by
 rcases h.nod with⟨f,d⟩|⟨b,c,cs,n,o,B,D,p,q,F,r⟩
 .exact .inl ⟨by rw[d];rfl,.inl f⟩
 .refine .inr ⟨b,0,c,true,cs,by rw[Av];exact n,by rw[Av];exact o,p,by unfold cG;rw[q];rfl,fun i a hi=>?_⟩;rw[Ba,Bc] at hi;obtain⟨y,s,rfl⟩:=hi;obtain⟨e,t,u,xw,xp,rfl,d,w,z,_⟩:=r i y s;exact⟨_,t,fun j x A=>by rw[An];exact u j x A,y.2,xw,xp,rfl,d.is,w,z⟩
def tU.cg(h:tU W P g S0 X m):aE 2 cC X m.ia (m.de.map fun r:Nat=>cu g (r:Int)):=h.inf.is fun _ _ a=>a
end
def qD(H:Has fns)(h:bN .i64 S v l)(s:l.length<=100000):iK fns (.fn 54 [] []) [v] S fun r X=>jq S X/\bN .i64 X r l/\(∀c,aN r=some c->S.nx<=c)/\(l≠ []->fC 1 S X r l.length (aQ l)):=by
 refine cJ H.f54 (by simp) ?_;refine ae ?_;refine bS (ae ?_);by_cases f:v= .cr
 .have j:l= []:=by
   rcases h with⟨h,_⟩|⟨b,off,cap,o,cs,rfl,_⟩
   .exact h
   .cases f
  subst f;subst j;have n:mL .eql (.p .slice) .cr .cr=some (.bool true):=rfl;refine fZ (c8 n ?_);refine aM (af) ?_;refine bS (ae ?_);refine aS (ae ?_);exact⟨dy S,.inl ⟨rfl,.inl rfl⟩,fun c d=>(by cases d),fun h=>absurd rfl h⟩
 .have n:mL .eql (.p .slice) v .cr=some (.bool false):=by
   rcases h with⟨_,rfl|rfl⟩|⟨b,off,cap,o,cs,rfl,_⟩
   .exact absurd rfl f
   .rfl
   .rfl
  refine fZ (c8 n ?_);refine aK (af) (aG ?_);refine ae ?_
  apply bS;refine fQ sO ?_;intro S1 s1 w q;refine am ?_;have⟨r,x,e,s2,t⟩:=aBj q (h.jo s1) s;refine eK (fun call=>by refine fx @fB ?_;exact e) ?_;refine am ?_;refine aS (am ?_);refine⟨s1.trans s2,?_⟩;rcases t with⟨rfl,rfl,rfl⟩|⟨p,u⟩
  .refine⟨.inr ⟨S.nx,0,0,false,[],rfl,Af _,au,by unfold cG;rw[q];rfl,fun i a hi=>by simp at hi⟩,fun c d=>by cases d;exact Af _,fun h=>absurd rfl h⟩
  .exact⟨p.is,fun c d=>Aq s1.1 (p.blk d).1,fun _=>p.low s1.1⟩
def aQ9(X1:St)(cb n:Nat)(o:Bool)(sz:Nat)(row ji:bt)(xa:AV)(b:Fr)(k:Nat)(A:bO)(X:St):Prop:=A.inr=false/\jq X1 X/\∃a,a+k=n/\X.h.get cb=some (.cells (aQ (vI row ji a)) o sz)/\cb<X.nx/\(∀j,j<13->aA j A.F=aA j b)/\aA 39 A.F=xa/\aA 40 A.F=jr (n:Int)/\aA 41 A.F=jr (a:Int)
def aN0(h:j<13):j=0\/j=1\/j=2\/j=3\/j=4\/j=5\/j=6\/j=7\/j=8\/j=9\/j=10\/j=11\/j=12:=by omega
def aRo{w:St}{e:Fr}{s sz:Nat}{o:Bool}{vk vp:AV}{act:bo}{ji:bt}(T:jq X1 w)(U:X1.nx<=cb)(x:cb<w.nx)(V:aE 1 nM X1 av act)(Y:bN .i64 X1 xa ji)(Z:ji.length<=100000)(hs:s<act.length)(aa:(act.getD s []).length=ji.length)(q:∀a,a<ji.length->∃b:Nat,(act.getD s []).getD a 0=(b:Int)/\b<ji.length)
  (gl:X1.h.get lb=js [fv,av]) (gx:X1.h.get xb=js [vk,vp,jr (s:Int),xa,xw,xp]) (ll:lb<X1.nx) (lx:xb<X1.nx) (gc:w.h.get cb=some (.cells (aQ ji) o sz)) (p4:aA 4 e= .ptr lb 0) (y:aA 11 e= .ptr xb 0) (z:aA 12 e= .sl cb 0 ji.length ji.length o) (A:aA 39 e=xa) (B:aA 40 e=jr (ji.length:Int)) (D:aA 41 e=jr ((0:Nat):Int)):
  jN fns qk7 ⟨e,false⟩ w fun oo A' X=>oo= .normal/\aQ9 X1 cb ji.length o sz (act.getD s []) ji xa e 0 A' X:=by
 refine aJ (bL (aQ9 X1 cb ji.length o sz (act.getD s []) ji xa e) ?_ ji.length _ _ ⟨rfl,T,0,au,gc,x,fun _ _=>rfl,A,B,D⟩);rintro k ⟨F,inr⟩ X ⟨rfl,n,a,G,N,O,p,f,h,d⟩;simp only at p f h d;have q4:=(p 4 au).trans p4;have H:=(p 11 au).trans y;have I:=(p 12 au).trans z;refine bS (dz h d ?_);by_cases r:a<ji.length;rotate_left
 .refine aB (aK i7 (bH ?_));refine ae ?_;obtain rfl:k=0:=by omega
  refine⟨rfl,n,a,G,N,O,fun j t=>?_,ah f,ah h,ah d⟩;rw[<-p j t];rcases aN0 t with rfl|rfl|rfl|rfl|rfl|rfl|rfl|rfl|rfl|rfl|rfl|rfl|rfl<;>simp only[↓sU,sD,rE,↓reduceIte,rA]
 refine aB (aM i7 (aG ?_));refine ae ?_
 have w1:=du a
 have⟨b,Q,u⟩:=q a r;have⟨qb,qq,i1,i2,i3⟩:=mE (Y.jo n) r;have⟨rb,rq,ra,r1,r2,r3,J⟩:=xI (aE.jo (E:=nM) fR V n) hs;have J:=J X (dy X);have⟨ub,uq,u1,u2,R⟩:=mE r2 (i:=a) au;rw[Q] at R;have K:=(n.2 _ ll).trans gl;have L:=(n.2 _ lx).trans gx;have M:=eX (b:=cb) (o:=o) u;refine aB (aJ (aB (aF ?_)));refine ec f d i1 i3 ?_;refine aF (ff q4 H I (aCY K) (dI L) r1 J u1 R M ?_);refine eK (fun call=>by refine dz @dE @cF ?_;exact qQ (S:=X) N (by rw[xQ];exact u)) ?_;refine ae ?_;refine aF (dz d w1 ?_);refine⟨k - 1,au,rfl,⟨n.1,fun c hc=>?_⟩,a+1,au,?_,O,fun j t=>?_,ah f,ah h,af⟩
 .simp only;rw[dx,if_neg au];exact n.2 c hc
 .simp only;rw[dx,if_pos rfl];show _=some (AB.cells (aQ ((vI (act.getD s []) ji a).set ((act.getD s []).getD a 0).toNat (ji.getD a 0))) o sz);rw[Q];rfl
 .rw[<-p j t];rcases aN0 t with rfl|rfl|rfl|rfl|rfl|rfl|rfl|rfl|rfl|rfl|rfl|rfl|rfl<;>simp only[↓sU,sD,rE,↓reduceIte,rA]
def aVA(W:St)(F:Fr)(xb:Nat)(a b:bt)(F':Fr)(Z:St)(ps:List jD):Prop:=ps= []/\jq W Z/\(∀j,j<80->aA j F'=aA j F)/\aA 94 F'= .ptr xb (0+3)/\bN .i64 Z (aA 90 F') a/\bN .i64 Z (aA 93 F') b/\∀c,(aN (aA 90 F')=some c\/aN (aA 93 F')=some c)->W.nx<=c
def aQq{o:List AO}{W:St}{k p f:AV}{x y:bt}(H:Has fns)(U:o=aR5++aRQ)(d:aA 11 F= .ptr xb 0)(A:W.h.get xb=js [k,p,f,xa,xw,xp])(lb:xb<W.nx)(V:bN .i64 W xw x)(h3:bN .i64 W xp y)(b2:x.length<=100000)(b3:y.length<=100000)
  (hQ:∀F' Z rw B,(∀j,j<80->aA j F'=aA j F)->cA xb W Z->Z.h.get xb=js [k,p,f,.cr,rw,B]->bN .i64 Z rw x->bN .i64 Z B y->(∀c,(aN rw=some c\/aN B=some c)->W.nx<=c)->Q .normal ⟨F',inr⟩ Z):jN fns (.drw o) ⟨F,inr⟩ W Q:=by
 have aa:o.length=12:=by rw[U];rfl
 refine qA (W:=fun _=>False) (K:=7) (R:=aVA W F xb x y) U rfl rfl (fun Y D hh nY=>?_) ?_
 .have s2:=bN.self V;have s3:=bN.self h3;unfold aR5;refine ef d (dW A) lb @Ap @s2 ?_;refine dT rfl ?_;refine ae ?_;refine aW (qD H (V.jo D) b2) ?_;rintro e Y1 ⟨s1,s,k1,_⟩;refine⟨s1,?_⟩;have t:=D.trans s1;refine ef d (fA A) lb @Ap @s3 ?_;refine dT rfl ?_;refine ae ?_;refine aW (qD H (h3.jo t) b3) ?_;rintro z Y2 ⟨q,u,k2,_⟩;refine⟨q,?_⟩;refine c8 d ?_;refine⟨rfl,t.trans q,fun j hj=>?_,af,by refine ae ?_;exact s.jo q,by refine ae ?_;exact u,fun c a=>?_⟩
  .simp only[bE];rw[if_neg au,if_neg au,if_neg au,if_neg au,if_neg au,if_neg au,if_neg au]
  .simp only[↓sU,sD,rE,↓reduceIte,rA] at a;have a1:=D.1;have a2:=s1.1;rcases a with a|a
   .have:=k1 c a;omega
   .have:=k2 c a;omega
 rintro F' S' ps hs ls ⟨rfl,G,hk,I,s,u,b⟩ r J;have n:aA 11 F'= .ptr xb 0:=(hk 11 au).trans d;have L:=(G.2 _ lb).trans A;generalize M:aA 90 F'=e at s b;generalize N:aA 93 F'=z at u b;have m1:∀i,i<7->Nat.testBit 127 i=true:=by decide
 unfold aRQ;refine iS (v:=.undef) (S1:=⟨S'.h.set xb (js [k,p,f,.cr,xw,xp]),S'.nx⟩) (r _ m1) (fun call=>?_) ?_
 .rw[dE];simp only[fO,aCJ,I,bK];exact xY (S:=S') L (by simp)
 simp only[iT,dJ,aU,aT,cP,aR,fO,bK,fK,bE,n,rE,↓reduceIte,rA];refine iS (v:=.undef) (S1:=⟨(S'.h.set xb (js [k,p,f,.cr,xw,xp])).set xb (js [k,p,f,.cr,e,xp]),S'.nx⟩) (az:Nat.testBit 511 7=true) (fun call=>?_) ?_
 .rw[dE];simp only[fO,bE,rE,↓reduceIte,M,bK,bN.cells s,aH];exact xY (cs:=[k,p,f,.cr,xw,xp]) (p:=4) (S:=⟨S'.h.set xb (js [k,p,f,.cr,xw,xp]),S'.nx⟩) jh (by simp)
 simp only[iT,dJ,aU,aT,cP,aR,fO,bK,fK,bE,n,rE,↓reduceIte,rA];refine iS (v:=.undef) (S1:=⟨((S'.h.set xb (js [k,p,f,.cr,xw,xp])).set xb (js [k,p,f,.cr,e,xp])).set xb (js [k,p,f,.cr,e,z]),S'.nx⟩) (az:Nat.testBit 2047 9=true) (fun call=>?_) ?_
 .rw[dE];simp only[fO,bE,rE,↓reduceIte,N,bK,bN.cells u,aH];exact xY (cs:=[k,p,f,.cr,e,xp]) (p:=5) (S:=⟨(S'.h.set xb (js [k,p,f,.cr,xw,xp])).set xb (js [k,p,f,.cr,e,xp]),S'.nx⟩) jh (by simp)
 rw[iL];refine⟨?_,?_⟩
 .simp only[Cg,Bg,Cr,Ci,Bu];exact J _ _ _ m1
 .simp only[bK,fK];have w:∀ {v:AV} {l:bt},bN .i64 S' v l->(∀c,aN v=some c->W.nx<=c)->bN .i64 ⟨((S'.h.set xb (js [k,p,f,.cr,xw,xp])).set xb (js [k,p,f,.cr,e,xp])).set xb (js [k,p,f,.cr,e,z]),S'.nx⟩ v l:=fun {v l} h a=>eH h (Af _) fun c O=>by
   have:=a c O;simp only;rw[dx,if_neg au,dx,if_neg au,dx,if_neg au]
  refine hQ _ _ e z (fun j hj=>?_) ⟨G.1,fun c a T=>?_⟩ jh (w s fun c a=>b c (.inl a)) (w u fun c a=>b c (.inr a)) b
  .rw[bE,if_neg au,bE,if_neg au];exact hk j hj
  .simp only;rw[dx,if_neg T,dx,if_neg T,dx,if_neg T];exact G.2 c a
def aPR{n:List AO}{W:Nat->Prop}{gb ic:Nat}{m:LyS}(he:n=aPd++aMY)(z:tU W P g S0 X m)(hS:S0.nx<=X.nx)(p3:aA 3 F= .ptr gb 0)(p6:aA 6 F= .ptr ic 0)(A:aA 15 F=jr (r:Int))
  (gg:X.h.get gb=js [pv,nv,iv]) (gi:X.h.get ic=js [m.ia]) (lg:gb<X.nx) (b:W ic) (hi:aE 2 cC X iv g.cg) (hr:r<g.cg.length) (hv:m.de.length<=100000)
  (hQ:∀F' Z o,(∀j,j<78->aA j F'=aA j F)->tU W P g S0 Z {m with ia:=o,de:=m.de++ [r]}->lQ W m X {m with ia:=o,de:=m.de++ [r]} Z->Z.h.get ic=js [o]->(∀c,c<X.nx->W c->c≠ic->Z.h.get c=X.h.get c)->Q .normal ⟨F',inr⟩ Z):jN fns (.drw n) ⟨F,inr⟩ X Q:=by
 have u:n.length=9:=by rw[he];rfl
 have w:ic<X.nx:=(z.wg ic b).2;have d6:=cM (p:=0) gi rfl;have d3:=cM (p:=2) gg rfl;have B:=z.inf.self;have D:=aE.self hi;obtain⟨_,qb,qq,i1,G,_,rfl,i3,_⟩:=aE.at hi az (aC5 hr);have H:cI (.agg [jr (cu g (r:Int)).jl,jr (cu g (r:Int)).cm]) (.agg [jr (cu g (r:Int)).jl,jr (cu g (r:Int)).cm])=true:=zR (dO ..) (dO ..);refine qA (W:=fun _=>False) (K:=7) (R:=fun F' Z ps=>ps= [⟨6,X.nx+6,.cells [jr (cu g (r:Int)).jl,jr (cu g (r:Int)).cm] false 0⟩]/\Z.h=X.h/\Z.nx=X.nx+9/\(∀j,j<78->aA j F'=aA j F)/\aA 78 F'=m.ia/\aA 84 F'= .sl (X.nx+6) 0 1 1 false) he rfl rfl (fun X1 x1 I J=>?_) ?_
 .have L:=fun(F:Fr) (id:Nat) (h:aA 83 F= .agg [jr (cu g (r:Int)).jl,jr (cu g (r:Int)).cm])=>aEQ (t:=44) (z0:=jr 0) (z1:=jr 0) (x:=.t 83) (F:=F) (id:=id) h;unfold aPd;refine ft p3 p6 A d3 d6 B D lg w G @Ap i1 i3 H L ?_;refine⟨I,by rw[J,u],fun j hj=>?_⟩;rw[if_neg au,if_neg au,if_neg au,if_neg au,if_neg au,if_neg au,if_neg au]
 rintro F' S' ps ab ls ⟨rfl,hZ,nZ,hk,pA,pB⟩ q M;have m1:∀i,i<7->Nat.testBit 127 i=true:=by decide
 have q6:aA 6 F'= .ptr ic 0:=(hk 6 au).trans p6;obtain⟨U,y⟩:∃U:St,U=⟨S'.h.set (X.nx+6) (js [jr (cu g (r:Int)).jl,jr (cu g (r:Int)).cm]),S'.nx⟩:=⟨_,rfl⟩;have nU:U.nx=X.nx+9:=by rw[y];exact nZ
 have d:jq X U:=⟨au,fun c s=>by rw[y];simp only;rw[dx,if_neg au,hZ]⟩;have gU:U.h.get (X.nx+6)=js [jr (cu g (r:Int)).jl,jr (cu g (r:Int)).cm]:=by rw[y];simp only;rw[dx,if_pos rfl]
 have f:=z.jo d;have⟨v',V,eA,aV,nV,N,bV⟩:=f.inf.push (bytes:=16) (x:=.sl (X.nx+6) 0 1 1 false) (a:=cu g (r:Int)) az au rfl (aKk gU rfl) rfl (show aIT [jr (cu g (r:Int)).jl,jr (cu g (r:Int)).cm] (cu g (r:Int)) from rfl) (by rw[Av];unfold room;omega) (by rw[Av];unfold room;omega);have⟨kP,kM⟩:=f.pushI nV N bV aV;have O:V.h.get ic=js [m.ia]:=(N ic au fun e=>f.d2 ic e b).trans ((d.2 ic w).trans gi);unfold aMY;refine iS (v:=v') (S1:=V) (q _ m1) (fun call=>?_) ?_
 .rw[cK (az:Nat.testBit 127 6=true),fB];simp only[fO,pA,pB];rw[<-y];exact eA
 rw[cK (az:Nat.testBit 127 6=true)];have T:v'.cells=some [v']:=aV.cells;refine iS (v:=.undef) (S1:=⟨V.h.set ic (js [v']),V.nx⟩) (az:Nat.testBit 255 7=true) (fun call=>?_) ?_
 .rw[dE];simp only[fO,bE,rE,↓reduceIte,bK,T,aH,q6];exact xY (cs:=[m.ia]) (p:=0) (S:=V) O (au:0<1)
 rw[iL];refine⟨?_,?_⟩
 .simp only[Cg,Bg,Cr,Ci,Bu];exact M _ _ _ m1
 .simp only[bK,fK];have Y:∀c,c≠ic->(V.h.set ic (js [v'])).get c=V.h.get c:=fun c s=>by rw[dx,if_neg s]
  refine hQ _ _ v' (fun j hj=>?_) (kP.local (Af _) fun c _ s _=>Y c fun e=>s (by rw[e];exact b)) (((lQ.jo d).trans kM).trans (.off (Af _) fun c _ hp=>Y c fun e=>hp.1 (by rw[e];exact b))) jh fun c s hw aa=>?_
  .rw[bE,if_neg au];exact hk j hj
  .simp only;rw[Y c aa];exact(N c au fun e=>f.d2 c e hw).trans (d.2 c s)
def aN5{W:Nat->Prop}{nc:Nat}{m:LyS}{a:cD}{A:List AO}(he:A=aKJ++aKZ)(y:tU W P g S0 X m)(hS:S0.nx<=X.nx)(hi:m.l[i]? =some (a,v))(ha:a.ji.length<=100000)(p1:aA 1 F= .ptr nc 0)(J:aA 10 F=jr (i:Int))(L:aA 20 F=jr w)
  (gn:X.h.get nc=js [m.na]) (B:W nc)
  (hQ:∀F' Z v',(∀j,j<110->aA j F'=aA j F)->tU W P g S0 Z {m with l:=m.l.set i ({a with ji:=a.ji++ [w]},v')}->lQ W m X {m with l:=m.l.set i ({a with ji:=a.ji++ [w]},v')} Z->(∀c,c<X.nx->W c->Z.h.get c=X.h.get c)->Q .normal ⟨F',inr⟩ Z):jN fns (.drw A) ⟨F,inr⟩ X Q:=by
 subst he;have M:nc<X.nx:=(y.wg nc B).2;have d1:=cM (p:=0) gn rfl;have N:=y.nod.self;have⟨b,p,O,k2,k3,k4,hG⟩:=y.row_at hi;have f:=fun {c} (o:aN v=some c)=>y.row_of hi o;have n1:aN v≠some nc:=fun e=>(f e).2.1 B;have nb:aN v≠some b:=fun e=>(f e).2.2.1 k2;have T:=hG.self;have Y:=fun(F:Fr) (id:Nat) (h:aA 117 F=jr w)=>lD (t:=3) (z:=jr 0) (x:=.t 117) (F:=F) (id:=id) (k:=.i64) (n:=w) h;refine qA (W:=fun c=>aN v=some c) (pre:=aKJ) (suf:=aKZ) (K:=12) (R:=fun F' V ps=>ps= []/\(∀j,j<110->aA j F'=aA j F)/\aA 121 F'= .ptr b (p+3)/\∃d,aA 119 F'=d/\X.nx<=V.nx/\(∀c,c<X.nx->aN v≠some c->V.h.get c=X.h.get c)/\fC 1 S0 V d (a.ji++ [w]).length (aQ (a.ji++ [w]))/\∃I,aN d=some I/\X.nx<=I/\I<V.nx) rfl rfl rfl (fun X1 x1 aa ab=>?_) ?_
 .unfold aKJ;refine fo p1 J L d1 O k4 M k3 n1 nb @Ap N T Y ?_;have q:cN 508 [⟨8,X.nx+8,.cells [jr w] false 0⟩] X1.h=([],X1.h.set (X.nx+8) (js [jr w])):=cK (m:=508) rfl;have aZ:X.nx+13<=X1.nx:=by rw[ab];exact Af _
  obtain⟨U,D⟩:∃U:St,U=⟨X1.h.set (X.nx+8) (js [jr w]),X1.nx⟩:=⟨_,rfl⟩;have nU:U.nx=X1.nx:=by rw[D]
  have kU:∀c,c<X.nx->U.h.get c=X.h.get c:=fun c o=>by rw[D];simp only;rw[dx,if_neg au,aa]
  have ac:jq X U:=⟨au,kU⟩;have gU:U.h.get (X.nx+8)=js [jr w]:=by rw[D];simp only;rw[dx,if_pos rfl]
  have an:=hG.step ac;have⟨d,V,eA,gA,bA,nA,rA⟩:=fC.push (bytes:=8) (S0:=⟨U.h,S0.nx⟩) (S:=U) (t:=X.nx+8) (w:=w) an ⟨by show S0.nx<=U.nx;omega,fun _ _=>rfl⟩ gU ay ay;refine qH (r:=d) (S1:=V) rfl ?_ ?_ ?_
  .refine ae ?_;rw[q,<-D];exact eA
  .rw[q,<-D];exact⟨au,fun c o s=>rA c au s⟩
  rw[q];refine dz O @Ap ?_;refine⟨fun j hj=>?_,d,rfl,au,fun c o s=>(rA c au s).trans (kU c o),by exact gA,U.nx,bA,au,au⟩
  repeat rw[if_neg au]
 .rintro F' V ps a0 ls ⟨rfl,hk,G,d,H,nV,kV,gV,I,ao,aw,a1⟩ u aI;have m1:∀i,i<12->Nat.testBit 4095 i=true:=by decide
  have aV:d.cells=some [d]:=fC.cells gV;have⟨bb,pp,Z,z1,z2,z3,z4,z5,z6,z7,z8⟩:=y.row (v':=d) (w:=w) (X':=V) hi nV kV gV fun c o=>by rw[ao] at o;cases o;exact aw
  rw[O] at z1;cases z1;unfold aKZ;refine iS (v:=.undef) (S1:=Z) (u _ m1) (fun call=>?_) ?_
  .rw[dE];simp only[fO,G,H,bK,aV,aH];exact z4
  rw[iL];refine⟨?_,?_⟩
  .simp only[Cg];exact aI _ _ _ m1
  .simp only[bK,fK];refine hQ _ _ d hk z7 z8 fun c o hw=>?_;rw[z6 c fun e=>(y.d1 b k2).1 (by rw[<-e];exact hw)];exact kV c o fun e=>(f e).2.1 hw
def encI(n:Nat):AV:=jr (n:Int)
def aOt(a b:Nat):eqv (.p .int) (encI a) (encI b)=some (decide (a=b)):=by
 show bX (keq .i64 .i64) (some (ieq (a:Int) (b:Int))) none=_;rw[fH,aL,jA];by_cases e:a=b
 .rw[Ac e,e,Dr]
 .rw[Aa e,beq_eq_false_iff_ne.2 au]
def aFC(de:cd)(r:Nat):Option Nat:=if r∈de then some (de.idxOf r) else none
def aLP(h:r∉de):pV (aFC de) r de.length=aFC (de++ [r]):=by
 funext q;unfold pV aFC;rw[List.idxOf_append];by_cases e:q=r
 .subst e;rw[if_pos rfl,if_pos (by simp),if_neg h];simp
 .rw[if_neg e];by_cases a:q∈de
  .rw[if_pos a,if_pos (by simp [a]),if_pos a]
  .rw[if_neg a,if_neg (by simp [a,e])]
structure LC where
 (nc ic qb mb pc mc fc gb lb:Nat) (pv nv iv fv av:AV)
variable {C:LC}
def LC.fn(C:LC):AV:=.fn 53 [] [.ptr C.nc 0,.ptr C.pc 0,.ptr C.gb 0,.ptr C.lb 0,.ptr C.mc 0,.ptr C.ic 0,.ptr C.fc 0]
def LC.W(C:LC)(c:Nat):Prop:=c=C.nc\/c=C.ic\/c=C.qb\/c=C.mb
structure rU(C:LC)(P:Nat->Prop)(g:aP)(S0 X:St)(m:LyS)(pl:bt):Prop where
 b:tU C.W P g S0 X m
 gn:X.h.get C.nc=some (.cells [m.na] false 0)
 gi:X.h.get C.ic=some (.cells [m.ia] false 0)
 gq:X.h.get C.qb=some (.cells (aQ pl) false 0)
 gm:aEP encI encI X.h C.mb (aFC m.de)
 gp:X.h.get C.pc=some (.cells [.sl C.qb 0 g.ce.length g.ce.length false] false 0)
 gc:X.h.get C.mc=some (.cells [.map C.mb] false 0)
 gf:X.h.get C.fc=some (.cells [C.fn] false 0)
 gg:X.h.get C.gb=some (.cells [C.pv,C.nv,C.iv] false 0)
 gl:X.h.get C.lb=some (.cells [C.fv,C.av] false 0)
 kp:PBl C.W m C.pc/\C.pc<X.nx
 kc:PBl C.W m C.mc/\C.mc<X.nx
 kf:PBl C.W m C.fc/\C.fc<X.nx
 lg:C.gb<S0.nx
 ll:C.lb<S0.nx
 n1:C.nc≠C.ic/\C.nc≠C.qb/\C.nc≠C.mb/\C.ic≠C.qb/\C.ic≠C.mb/\C.qb≠C.mb
 pll:pl.length=g.ce.length
 s:jq S0 X
section
variable {C:LC}{P P':Nat->Prop}{g:aP}{S0 X X':St}{m m':LyS}{pl:bt}
def LC.wn:C.W C.nc:=.inl rfl
def LC.wi:C.W C.ic:=.inr (.inl rfl)
def LC.wq:C.W C.qb:=.inr (.inr (.inl rfl))
def LC.wm:C.W C.mb:=.inr (.inr (.inr rfl))
def rU.ji(h:rU C P g S0 X m pl)(f:tU C.W P' g S0 X' m')(K:lQ C.W m X m' X'){pl':bt}(a:pl'.length=pl.length)(i:X'.h.get C.nc=js [m'.na])(j:X'.h.get C.ic=js [m'.ia])(n:X'.h.get C.qb=js (aQ pl'))(o:aEP encI encI X'.h C.mb (aFC m'.de)):rU C P' g S0 X' m' pl':=by
 have b:=h.s.1;have c:=K.2 _ h.kp.2 h.kp.1;have d:=K.2 _ h.kc.2 h.kc.1;have e:=K.2 _ h.kf.2 h.kf.1;have p:=K.2 C.gb (Ae h.lg b) (h.b.low h.lg);have q:=K.2 C.lb (Ae h.ll b) (h.b.low h.ll);exact⟨f,i,j,n,o,c.1.trans h.gp,d.1.trans h.gc,e.1.trans h.gf,p.1.trans h.gg,q.1.trans h.gl,⟨c.2,Ae h.kp.2 K.1⟩,⟨d.2,Ae h.kc.2 K.1⟩,⟨e.2,Ae h.kf.2 K.1⟩,h.lg,h.ll,h.n1,a.trans h.pll,h.b.same0 K h.s⟩
def aEP.move{K V:Type} [DecidableEq K]{a:K->AV}{ev:V->AV}{h h':Ev.T AB}{b:Nat}{f:K->Option V}(c:aEP a ev h b f)(e:h'.get b=h.get b):aEP a ev h' b f:=by
 have⟨l,d,i⟩:=c;exact⟨l,e.trans d,i⟩
def rU.jo(h:rU C P g S0 X m pl)(a:jq X X'):rU C P g S0 X' m pl:=
 have w:=h.b.wg
 h.ji (h.b.jo a) (.jo a) rfl ((a.2 _ (w _ LC.wn).2).trans h.gn) ((a.2 _ (w _ LC.wi).2).trans h.gi) ((a.2 _ (w _ LC.wq).2).trans h.gq) (h.gm.move (a.2 _ (w _ LC.wm).2))
def rU.but(h:rU C P g S0 X m pl)(j:PBl C.W m xb)(n:¬P xb)(f:xb≠C.pc/\xb≠C.mc/\xb≠C.fc/\S0.nx<=xb)(a:cA xb X X'):rU C P g S0 X' m pl:=by
 have w:=h.b.wg;have b:∀ {c},C.W c->c≠xb:=fun b e=>j.1 (by rw[<-e];exact b);have q:=h.lg;have r:=h.ll;have o:=h.s.1;have k:∀c,c<X.nx->c≠xb->X'.h.get c=X.h.get c:=fun c d p=>a.2 c d p;exact⟨h.b.local a.1 fun c d _ i=>k c d fun e=>n (by rw[<-e];exact i (by rw[e];exact j)),(k _ (w _ LC.wn).2 (b LC.wn)).trans h.gn,(k _ (w _ LC.wi).2 (b LC.wi)).trans h.gi,(k _ (w _ LC.wq).2 (b LC.wq)).trans h.gq,h.gm.move (k _ (w _ LC.wm).2 (b LC.wm)),(k _ h.kp.2 (Ch f.1)).trans h.gp,(k _ h.kc.2 (Ch f.2.1)).trans h.gc,(k _ h.kf.2 (Ch f.2.2.1)).trans h.gf,(k _ au au).trans h.gg,(k _ au au).trans h.gl,⟨h.kp.1,Ae h.kp.2 a.1⟩,⟨h.kc.1,Ae h.kc.2 a.1⟩,⟨h.kf.1,Ae h.kf.2 a.1⟩,h.lg,h.ll,h.n1,h.pll,⟨Aq o a.1,fun c d=>(k c au au).trans (h.s.2 c d)⟩⟩
def rU.mono(h:rU C P g S0 X m pl)(a:∀c,c<X.nx->P c->P' c):rU C P' g S0 X m pl:=
 ⟨h.b.mono a,h.gn,h.gi,h.gq,h.gm,h.gp,h.gc,h.gf,h.gg,h.gl,h.kp,h.kc,h.kf,h.lg,h.ll,h.n1,h.pll,h.s⟩
end
def LyT(C:LC)(F:Fr):Prop:=aA 1 F= .ptr C.nc 0/\aA 2 F= .ptr C.pc 0/\aA 3 F= .ptr C.gb 0/\aA 4 F= .ptr C.lb 0/\aA 5 F= .ptr C.mc 0/\aA 6 F= .ptr C.ic 0/\aA 7 F= .ptr C.fc 0
def HdJ(C:LC)(P:Nat->Prop)(g:aP)(S0 Xe:St)(m:LyS)(pl first row ji:bt)(s xb:Nat)(k p xa xw xp a x10:AV)(o:Out)(A:bO)(Z:St):Prop:=o= .normal/\A.inr=false/\∃m',rU C P g S0 Z m' pl/\m'.l=m.l/\m'.de=(oJ m.de (first.getD s 0).toNat).1/\lQ C.W m Xe m' Z/\Z.h.get xb=js [k,p,jr ((oJ m.de (first.getD s 0).toNat).2:Int),xa,xw,xp]/\PBl C.W m' xb/\xb<Z.nx/\bN .i64 Z a (vI row ji ji.length)/\(∀c,aN a=some c->PBl C.W m' c/\c≠xb)/\LyT C A.F/\aA 10 A.F=x10/\aA 11 A.F= .ptr xb 0/\aA 12 A.F=a
def aRw{Xe X0:St}{m:LyS}{pl:bt}{act:bo}{s:Nat}{k p x10:AV}{ji:bt}(w:rU C P g S0 X1 m pl)(L:¬P xb)(a2:lQ C.W m Xe m X1)(b0:Xe.nx<=xb)(M:jq X1 X0)(y:X1.nx<=cb)(a4:cb<X0.nx)(a5:S0.nx<=xb)(z:xb<X1.nx)(A:PBl C.W m xb)(B:xb≠C.pc/\xb≠C.mc/\xb≠C.fc)
  (ha:aE 1 nM S0 C.av act) (hf:bN .i64 S0 C.fv first) (hi:aE 2 cC S0 C.iv g.cg) (hn:bN .i64 S0 xa ji) (ba:ji.length<=100000) (hs:s<act.length) (bb:s<first.length) (bd:(act.getD s []).length=ji.length) (N:∀a,a<ji.length->∃b:Nat,(act.getD s []).getD a 0=(b:Int)/\b<ji.length) (be:∃r:Nat,first.getD s 0=(r:Int)/\r<g.cg.length) (D:m.de.length<=100000)
  (gx:X1.h.get xb=js [k,p,jr (s:Int),xa,xw,xp]) (gc:X0.h.get cb=some (.cells (aQ ji) true 1)) (hT:LyT C F) (bj:aA 10 F=x10) (G:aA 11 F= .ptr xb 0) (O:aA 12 F= .sl cb 0 ji.length ji.length true):
  jN fns aS5 ⟨F,false⟩ X0 (HdJ C P g S0 Xe m pl first (act.getD s []) ji s xb k p xa xw xp (.sl cb 0 ji.length ji.length true) x10):=by
 have⟨p1,p2,p3,p4,p5,p6,p7⟩:=hT;have⟨r,hr,R⟩:=be;have T:=w.s;have U:=hn.jo w.s;have bk:=(M.2 _ z).trans gx;refine aB (aX (Q:=fun oo H X=>oo= .normal/\aQ9 X1 cb ji.length true 1 (act.getD s []) ji xa F 0 H X) (aB (aF ?_)) ?_)
 .refine ec G (dD bk) U.len @Ag ?_;refine aX (aRo (X1:=X1) (xw:=xw) (xp:=xp) (vk:=k) (vp:=p) (lb:=C.lb) (xb:=xb) (s:=s) (fv:=C.fv) (av:=C.av) (act:=act) M y a4 (aE.jo (E:=nM) fR ha T) U ba hs bd N w.gl gx (Ae w.ll T.1) z gc (ah p4) (ah G) (ah O) (af) (af) (ag)) ?_;rintro o H X ⟨h1,h2,h3,a,h4,h5,h6,h7,h8,h9,bm⟩;refine⟨h1,h2,h3,a,h4,h5,h6,fun j I=>(h7 j I).trans ?_,h8,h9,bm⟩;rcases aN0 I with rfl|rfl|rfl|rfl|rfl|rfl|rfl|rfl|rfl|rfl|rfl|rfl|rfl<;>simp only[↓sU,sD,rE,↓reduceIte,rA]
 rintro o ⟨F2,inr⟩ X2 ⟨rfl,rfl,h,a,b1,bp,u,n, -, -, -⟩;simp only at n;obtain rfl:a=ji.length:=by omega
 have d:=w.jo h;have Y:=(h.2 _ z).trans gx;have q1:=(n 1 au).trans p1;have q2:=(n 2 au).trans p2;have q3:=(n 3 au).trans p3;have q4:=(n 4 au).trans p4;have q5:=(n 5 au).trans p5;have q6:=(n 6 au).trans p6;have q7:=(n 7 au).trans p7;have bq:=(n 10 au).trans bj;have aa:=(n 11 au).trans G;have bs:=(n 12 au).trans O;have⟨fb,fq,f1,f2,f3⟩:=mE (hf.jo d.s) bb;rw[hr] at f3;have ab:(first.getD s 0).toNat=r:=by omega
 have B1:lQ C.W m X1 m X2:=.jo h;have bv:=cM (p:=0) d.gl rfl;have ac:=cM (p:=0) d.gc rfl;have an:PBl C.W m cb:=w.b.fresh y;have bw:cb≠xb:=by omega
 refine bS (eu q4 aa bv (dI Y) f1 f3 ?_);apply bS;have bx:∀F:Fr,aA 66 F= .map C.mb->aA 67 F=jr (r:Int)->iC (.lookup (.p .int) (jr 0) true (.t 66) (.t 67)) F X2.h=some (.tup [jr (match aFC m.de r with | some i=>(i:Int) | none=>0),.bool (decide (r∈m.de))]):=fun F a b=>by
  rw[aKF (m:=.t 66) (x:=.t 67) aOt d.gm a b];unfold aFC;by_cases e:r∈m.de
  .rw[if_pos e,Ac e];rfl
  .rw[if_neg e,Aa e]
 refine d8 q5 ac bx ?_;refine aB (aX (Q:=fun o H Z=>o= .normal/\H.inr=false/\∃m',rU C P g S0 Z m' pl/\m'.l=m.l/\m'.de=(oJ m.de r).1/\lQ C.W m X2 m' Z/\aA 16 H.F=jr ((oJ m.de r).2:Int)/\∀j,j<13->aA j H.F=aA j F2) (aB (aF ?_)) ?_)
 .by_cases e:r∈m.de
  .refine d8 (Ac e) @iY @Dn ?_;refine aK (af) (aG ?_);refine⟨rfl,rfl,m,d,rfl,by unfold oJ;rw[if_pos e],.refl,?_,fun j I=>?_⟩
   .simp only[↓sU,sD,rE,↓reduceIte,rA];unfold aFC oJ;rw[if_pos e,if_pos e]
   .rcases aN0 I with rfl|rfl|rfl|rfl|rfl|rfl|rfl|rfl|rfl|rfl|rfl|rfl|rfl<;>simp only[↓sU,sD,rE,↓reduceIte,rA]
  .refine d8 (Aa e) @iY @Ej ?_;refine aM (af) ?_;have bz:=cM (p:=0) d.gi rfl;apply bS;have ao:=d.b.inf.len;rw[Av] at ao;refine d8 q6 bz ao ?_;have⟨V,eV,nV,J,mV⟩:=aIo (S:=X2) aOt d.gm r m.de.length;rw[aLP e] at mV;refine bS (dz q5 ac ?_);refine eK (v:=.undef) (S1:=V) (fun call=>?_) ?_
   .rw[aNg];refine ae ?_;exact eV
   refine ae ?_;have wg:=d.b.wg;have⟨d1,d2,d3,d4,d5,d6⟩:=w.n1;have lV:=Fy nV.symm;have bA:tU C.W P g S0 V m:=d.b.local lV fun c _ K _=>J c fun e=>K (by rw[e];exact LC.wm);have KV:lQ C.W m X2 m V:=.off lV fun c _ hp=>J c fun e=>hp.1 (by rw[e];exact LC.wm);have bC:=(J C.gb fun e=>((d.b.low (c:=C.gb) d.lg).1 (by rw[e];exact LC.wm))).trans d.gg;have bI:=(J _ d5).trans d.gi;have sV:jq S0 V:=d.b.same0 KV d.s;refine aPR (W:=C.W) (g:=g) (S0:=S0) (X:=V) (gb:=C.gb) (ic:=C.ic) (m:=m) (r:=r) rfl bA sV.1 (ah q3) (ah q6) (af) bC bI (Ae d.lg sV.1) LC.wi (aE.jo (E:=cC) bQ hi sV) R D ?_;intro F' Z bM aw bP KZ bR kZ;have kw:∀c,C.W c->c≠C.ic->Z.h.get c=V.h.get c:=fun c K q=>kZ c (by have:=(wg c K).2;omega) K q;refine⟨rfl,rfl,{m with ia:=bM,de:=m.de++ [r]},d.ji bP (KV.trans KZ) rfl ?_ bR ?_ ?_,rfl,?_,KV.trans KZ,?_,fun j I=>?_⟩
   .exact(kw _ LC.wn d1).trans ((J _ d3).trans d.gn)
   .exact(kw _ LC.wq (Ch d4)).trans ((J _ d6).trans d.gq)
   .exact mV.move (kw _ LC.wm (Ch d5))
   .unfold oJ;rw[if_neg e]
   .rw[aw 16 au];unfold oJ;rw[if_neg e];simp only[↓sU,sD,rE,↓reduceIte,rA]
   .rw[aw j au];rcases aN0 I with rfl|rfl|rfl|rfl|rfl|rfl|rfl|rfl|rfl|rfl|rfl|rfl|rfl<;>simp only[↓sU,sD,rE,↓reduceIte,rA]
 rintro o ⟨F3,inr⟩ Z ⟨rfl,rfl,m',hZ,e1,e2,KZ,aI,f⟩;simp only at aI f;have b2:PBl C.W m xb:=A;have bU:=(KZ.2 xb (ax h.1) A).1.trans Y;have aV:=(KZ.2 xb (ax h.1) A).2;have bV:=(KZ.2 cb u an).1.trans bp;have bW:=(KZ.2 cb u an).2;have aZ:=(f 11 au).trans aa;have a0:xb≠C.pc/\xb≠C.mc/\xb≠C.fc/\S0.nx<=xb:=⟨B.1,B.2.1,B.2.2,a5⟩;refine aF (dz aI aZ ?_);refine eK (v:=.undef) (S1:=⟨Z.h.set xb (js [k,p,jr ((oJ m.de r).2:Int),xa,xw,xp]),Z.nx⟩) (fun call=>?_) ?_
 .refine dz @dE @cF ?_;exact xY (cs:=[k,p,jr (s:Int),xa,xw,xp]) (p:=2) (S:=Z) bU (by simp)
 refine ae ?_;have bY:cA xb Z ⟨Z.h.set xb (js [k,p,jr ((oJ m.de r).2:Int),xa,xw,xp]),Z.nx⟩:=(cA.refl xb Z).put _;have K:=hZ.but aV L a0 bY;have q:cb≠xb:=bw;have hE:lQ C.W m Xe m' ⟨Z.h.set xb (js [k,p,jr ((oJ m.de r).2:Int),xa,xw,xp]),Z.nx⟩:=by
  have t:lQ C.W m Xe m X2:=a2.trans (.jo h);refine⟨Aq t.1 KZ.1,fun c hc hp=>?_⟩;have h1:=KZ.2 c (Ae hc t.1) hp;refine⟨?_,h1.2⟩;simp only;rw[dx,if_neg au,h1.1];exact(t.2 c hc hp).1
 rw[<-ab] at e2;have bZ:(Z.h.set xb (js [k,p,jr ((oJ m.de r).2:Int),xa,xw,xp])).get cb=some (.cells (aQ (vI (act.getD s []) ji ji.length)) true 1):=by
  rw[dx,if_neg q];exact bV
 have a1:fC 1 X1 ⟨Z.h.set xb (js [k,p,jr ((oJ m.de r).2:Int),xa,xw,xp]),Z.nx⟩ (.sl cb 0 ji.length ji.length true) (vI (act.getD s []) ji ji.length).length (aQ (vI (act.getD s []) ji ji.length)):=.inr ⟨cb,by rw[xQ],y,by have:=KZ.1;show cb<Z.nx;omega,bZ,by rw[yL,Ec]⟩;refine⟨rfl,rfl,m',K,e1,e2,hE,by simp only;rw[dx,if_pos rfl,ab],aV,by have:=KZ.1;have:=h.1;show xb<Z.nx;omega,a1.is,fun c hc=>by cases hc;exact⟨bW,q⟩,?_,?_,?_,?_⟩
 .refine⟨?_,?_,?_,?_,?_,?_,?_⟩
  .refine ae ?_;exact(f 1 au).trans q1
  .refine ae ?_;exact(f 2 au).trans q2
  .refine ae ?_;exact(f 3 au).trans q3
  .refine ae ?_;exact(f 4 au).trans q4
  .refine ae ?_;exact(f 5 au).trans q5
  .refine ae ?_;exact(f 6 au).trans q6
  .refine ae ?_;exact(f 7 au).trans q7
 .refine ae ?_;exact(f 10 au).trans bq
 .refine ae ?_;exact aZ
 .refine ae ?_;exact(f 12 au).trans bs
def HdK(C:LC)(P:Nat->Prop)(g:aP)(S0 Xe:St)(m:LyS)(pl first:bt)(act:bo)(old xb:Nat)(xa xw xp a:AV)(o:Out)(A:bO)(Z:St):Prop:=o= .normal/\A.inr=false/\∃m',rU C (fun c=>c≠xb/\P c) g S0 Z m' pl/\m'.l=m.l/\m'.de=(gG first m.de (ct g old)).1/\lQ C.W m Xe m' Z/\Z.h.get xb=js [jr (ct g old).jk,jr (ct g old).jl,jr (gG first m.de (ct g old)).2,xa,xw,xp]/\PBl C.W m' xb/\xb<Z.nx/\bN .i64 Z a (gP act (ct g old))/\(∀c,aN a=some c->PBl C.W m' c/\c≠xb)/\LyT C A.F/\aA 10 A.F=jr (m.l.length:Int)/\aA 11 A.F= .ptr xb 0/\aA 12 A.F=a
def aDc(first:bt)(de:cd)(x:cD)(a:bt):cD:={x with jj:=(gG first de x).2,ji:=a}
def aQQ(C:LC)(P:Nat->Prop)(g:aP)(S0 Xe:St)(m:LyS)(pl first:bt)(act:bo)(f old:Nat)(a:AV)(k:Nat)(A:bO)(Z:St):Prop:=A.inr=false/\∃j,j+k=(gP act (ct g old)).length/\∃m' v b,rU C P g S0 Z m' (wZ pl m.l.length (old::(eG (fV g first act f) ((gP act (ct g old)).take j) (m.l.length+1) (gG first m.de (ct g old)).1).2.olds))/\m'.l=m.l++((aDc first m.de (ct g old) (eG (fV g first act f) ((gP act (ct g old)).take j) (m.l.length+1) (gG first m.de (ct g old)).1).1,v)::b)/\b.map (·.1)=(eG (fV g first act f) ((gP act (ct g old)).take j) (m.l.length+1) (gG first m.de (ct g old)).1).2.ce/\m'.de=(eG (fV g first act f) ((gP act (ct g old)).take j) (m.l.length+1) (gG first m.de (ct g old)).1).2.de/\m'.de.length<=m'.l.length/\lQ C.W m Xe m' Z/\bN .i64 Z a (gP act (ct g old))/\(∀c,aN a=some c->PBl C.W m' c)/\LyT C A.F/\aA 10 A.F=jr (m.l.length:Int)/\aA 101 A.F=a/\aA 102 A.F=jr (((gP act (ct g old)).length:Nat):Int)/\aA 103 A.F=jr (j:Int)
def aOM:(oJ de r).1.length<=de.length+1:=by
 unfold oJ;split
 .exact Nat.le_succ _
 .rw[Ai];exact Af _
def aFW{x:cD}:(gG first de x).1.length<=de.length+1:=by
 unfold gG;split
 .exact aOM
 .exact Nat.le_succ _
def aMc{l:cd}(h:j<l.length):(l.take j).sum+l.getD j 0<=l.sum:=by
 have e:=List.sum_append_nat (l₁:=l.take j) (l₂:=l.drop j);rw[Em] at e;rw[e,Bt h,Er,Ad,Ab h];simp only[Ea];omega
def aOY{act:bo}{Tr:List cL}(H:Has fns)(hP:∀c,S0.nx<=c->P c)(G:aGe g)(hR:iD g act)(cq:first.length=g.cg.length)(cr:∀s,s<g.cg.length->∃r:Nat,first.getD s 0=(r:Int)/\r<g.cg.length)(hn:aE 6 bT S0 C.nv g.ce)(hi:aE 2 cC S0 C.iv g.cg)(hf:bN .i64 S0 C.fv first)(ha:aE 1 nM S0 C.av act)(hT:fY g=some Tr)(bz:Tr.length=g.ce.length)(cv:∀i,i<g.ce.length->(ct g i).jm.length<=100000):
  ∀ (f:Nat) {X:St} {m:LyS} {pl:bt} {old:Nat},g.ce.length<=f+old->old<g.ce.length->m.l.length+dR Tr old<=g.ce.length->m.de.length<=m.l.length->rU C P g S0 X m pl->
  iK fns C.fn [jr (old:Int)] X fun r Z=>r=jr (m.l.length:Int)/\∃m' l',rU C P g S0 Z m' (wZ pl m.l.length (fV g first act f old m.l.length m.de).olds)/\m'.l=m.l++l'/\l'.map (·.1)=(fV g first act f old m.l.length m.de).ce/\m'.de=(fV g first act f old m.l.length m.de).de/\m'.de.length<=m'.l.length/\lQ C.W m X m' Z:=by
 have Gg:=G.good;have hN:=Gg.n2;intro f
 induction f with
 | zero=>intro X m pl old h1 h2;omega
 | succ f ih=>
  intro X m pl old dZ d bA d' hS;have ea:=zA hT bz d;show iK fns (.fn 53 [] [.ptr C.nc 0,.ptr C.pc 0,.ptr C.gb 0,.ptr C.lb 0,.ptr C.mc 0,.ptr C.ic 0,.ptr C.fc 0]) _ _ _;refine cJ H.f53 (by simp) ?_;refine ae ?_;refine bS (ae ?_);have ln:=cM (p:=0) hS.gn rfl;have lp:=cM (p:=0) hS.gp rfl;have cw:=hS.b.nod.len;refine bS (dz ln cw ?_);have eb:=hS.pll;have cx:=eX (b:=C.qb) (o:=false) d;refine bS (dz lp cx ?_);refine eK (fun call=>by refine dz @dE @cF ?_;exact qQ (S:=X) hS.gq au) ?_;refine ae ?_;have⟨d1,d2,d3,d4,d5,d6⟩:=hS.n1;obtain⟨X1,ao⟩:∃X1:St,X1=⟨X.h.set C.qb (js (aQ (pl.set old (m.l.length:Int)))),X.nx⟩:=⟨_,rfl⟩;have n1:X1.nx=X.nx:=by rw[ao]
  have k1:∀c,c≠C.qb->X1.h.get c=X.h.get c:=fun c t=>by rw[ao];simp only;rw[dx,if_neg t]
  rw[<-ao];have K1:lQ C.W m X m X1:=.off (Fy n1.symm) fun c _ hp=>k1 c fun e=>hp.1 (by rw[e];exact LC.wq);have J:rU C P g S0 X1 m (pl.set old (m.l.length:Int)):=hS.ji (hS.b.local (Fy n1.symm) fun c _ hw _=>k1 c fun e=>hw (by rw[e];exact LC.wq)) K1 (by rw[Ar]) ((k1 _ d2).trans hS.gn) ((k1 _ d4).trans hS.gi) (by rw[ao];simp only;rw[dx,if_pos rfl]) (hS.gm.move (k1 _ (Ch d6)));have bC:=J.s;obtain⟨_,bx,qx,bI,cy,_,⟨xa,xw,xp,rfl,bM,cz,cW⟩,ab,_⟩:=aE.at hn az (cU d);rw[<-eM bC cy] at ab;have bP:=cM (p:=1) J.gg rfl;refine bS (ig @aU @aT @An bP @aY bI ab ?_);apply cB;intro X2 x2 n2 g2
  refine dB (b:=X1.nx) (cs':=[jr (ct g old).jk,jr (ct g old).jl,jr (ct g old).jj,xa,xw,xp]) (aq) (by refine am ?_;exact bB _) g2 rfl rfl ?_;intro X3 x3 n3 g3;refine am ?_;have bR:jq X1 X3:=x3.jo x2 (Af _);obtain⟨xb,aw⟩:∃xb,xb=X1.nx:=⟨_,rfl⟩;rw[<-aw] at g3;simp only[<-aw];have ac:rU C (fun c=>c≠xb/\P c) g S0 X3 m (pl.set old (m.l.length:Int)):=(J.mono (P':=fun c=>c≠xb/\P c) fun c t hp=>⟨au,hp⟩).jo bR;have bU:PBl C.W m xb:=J.b.fresh (Fy aw.symm);have aI:xb≠C.pc/\xb≠C.mc/\xb≠C.fc:=by
   have a:=J.kp.2;have b:=J.kc.2;have c:=J.kf.2;omega
  have bW:S0.nx<=xb:=by rw[aw];exact bC.1
  have bm:xb<X3.nx:=by omega
  have cX:=bM.jo ac.s;have bY:=dD g3;refine bS (gj @aU @aT bY ?_);refine bJ (am ?_);have ed:=Gg.nxt old d;refine aW (qD H cX au) ?_;rintro D X4 ⟨s4,i4,b4,g4⟩
  have bZ:=ac.jo s4;have bp:=(s4.2 _ bm).trans g3;have bq:lQ C.W m X m X3:=K1.trans (.jo bR);refine aB (aX (Q:=HdK C P g S0 X m (pl.set old (m.l.length:Int)) first act old xb xa xw xp D) (aB (aF ?_)) ?_)
  .refine c8 (fF bp) ?_;by_cases hk:(ct g old).jk=2
   .refine aM (ja (Ac hk)) ?_;have⟨a1,a2,a3⟩:=sG Gg d hk;have⟨r1,r2,r3⟩:=hR.2 _ a1;have aZ:(ct g old).ji≠ []:=fun e=>by
     have:=(G.mov old d hk).1;rw[e] at this;exact absurd this az
    rcases g4 aZ with⟨_,e,_⟩|⟨cb,rfl,c1,c2,c3,_⟩
    .exact absurd (Bj.1 e) aZ
    .refine aX (aRw (P:=fun c=>c≠xb/\P c) (Xe:=X) (s:=(ct g old).jj.toNat) (act:=act) (first:=first) (x10:=jr (m.l.length:Int)) (xb:=xb) (cb:=cb) (k:=jr (ct g old).jk) (p:=jr (ct g old).jl) (xa:=xa) (xw:=xw) (xp:=xp) ac (fun h=>h.1 rfl) bq au s4 c1 c2 bW bm bU aI ha hf hi bM au (by rw[hR.1];exact a1) (by rw[cq];exact a1) (by rw[r1];exact a2) (by rw[<-a2];exact r2) (cr _ a1) au (by rw[a3];exact g3) c3 ⟨af,af,af,af,af,af,af⟩ (af) (af) (af)) ?_;rintro o A' Z ⟨h1,h2,m',h3,h4,h5,h6,h7,h8,z,h9,cY,cZ,c0,c4,c5⟩;have eh:gG first m.de (ct g old)=((oJ m.de (first.getD (ct g old).jj.toNat 0).toNat).1,((oJ m.de (first.getD (ct g old).jj.toNat 0).toNat).2:Int)):=by unfold gG;rw[if_pos hk]
     have eo:gP act (ct g old)=vI (act.getD (ct g old).jj.toNat []) (ct g old).ji (ct g old).ji.length:=by unfold gP;rw[if_pos hk]
     exact⟨h1,h2,m',h3,h4,by rw[eh];exact h5,h6,by rw[eh];exact h7,h8,z,by rw[eo];exact h9,cY,cZ,c0,c4,c5⟩
   .refine aK (ja (Aa hk)) (aG ?_);have eh:gG first m.de (ct g old)=(m.de,(ct g old).jj):=by unfold gG;rw[if_neg hk]
    have eo:gP act (ct g old)=(ct g old).ji:=by unfold gP;rw[if_neg hk]
    exact⟨rfl,rfl,m,bZ,rfl,by rw[eh],bq.trans (.jo s4),by rw[eh];exact bp,bU,Ae bm s4.1,by rw[eo];exact i4,fun c t=>⟨ac.b.fresh (b4 c t),by have:=b4 c t;omega⟩,⟨af,af,af,af,af,af,af⟩,af,af,af⟩
  rintro o ⟨F1,inr⟩ Z ⟨rfl,rfl,m1,hZ,el,er,KZ,c6,c7,c',bb,bd,b0,b1,bs,b2⟩;simp only at b0 b1 bs b2;refine ae ?_
  refine aB (aQq H rfl bs c6 c' (cz.jo hZ.s) (cW.jo hZ.s) (cv old d) (by have:=Gg.jn old d;omega) ?_);intro F2 Z2 da rp A R dc iw ip dd;have bv:=hZ.but c7 (fun h=>h.1 rfl) ⟨aI.1,aI.2.1,aI.2.2,bW⟩ R;have K2:lQ C.W m X m1 Z2:=⟨Aq KZ.1 R.1,fun c t hp=>⟨(R.2 c (Ae t KZ.1) au).trans (KZ.2 c t hp).1,(KZ.2 c t hp).2⟩⟩;have⟨t1,t2,t3,t4,t5,t6,t7⟩:=b0;have q1:=(A 1 au).trans t1;have q2:=(A 2 au).trans t2;have q3:=(A 3 au).trans t3;have q4:=(A 4 au).trans t4;have q5:=(A 5 au).trans t5;have q6:=(A 6 au).trans t6;have q7:=(A 7 au).trans t7;have df:=(A 10 au).trans b1;have dg:=(A 11 au).trans bs;have di:=(A 12 au).trans b2;refine ae ?_
  have dj:=cM (p:=0) bv.gn rfl;have dm:=mA (n:=6) dc rfl;refine bS (gu q1 dg dj dm ?_);refine fQ (aFo (by simp only[↓aD,aC,rE,↓reduceIte,rA];try rfl)) ?_;intro U u1 u2 u3;have u:=bv.jo u1;have⟨v',V,eA,aV,nV,kV,bV⟩:=u.b.nod.push (bytes:=96) (x:=.sl Z2.nx 0 1 1 false) (a:=(aDc first m.de (ct g old) [],AV.cr)) az u.s.1 rfl (aKk u3 rfl) rfl ⟨da,rp,rfl,.inl ⟨rfl,rfl,rfl⟩,iw.jo u1,ip.jo u1,fun c t=>by
   have:=dd c t;exact⟨hZ.b.fresh this,au,hP c (ax hZ.s.1)⟩⟩ (by have:=bA;rw[el];unfold room;omega) (by have:=bA;rw[el];unfold room;omega)
  have⟨kP,kM⟩:=u.b.pushN nV kV bV aV;refine eK (fun call=>by refine fx @fB ?_;exact eA) ?_
  have wg:=u.b.wg;have b3:=(kV _ (wg _ LC.wn).2 fun e=>(u.b.d1 _ e).1 LC.wn).trans u.gn;have dn:v'.cells=some [v']:=aV.cells;refine eK (v:=.undef) (S1:=⟨V.h.set C.nc (js [v']),V.nx⟩) (fun call=>by refine gu @dE q1 dn @aH ?_;exact xY (cs:=[m1.na]) (p:=0) (S:=V) b3 (by simp)) ?_;refine am ?_;obtain⟨Y,hY⟩:∃Y:St,Y=⟨V.h.set C.nc (js [v']),V.nx⟩:=⟨_,rfl⟩;rw[<-hY];have nY:Y.nx=V.nx:=by rw[hY]
  have kY:∀c,c≠C.nc->Y.h.get c=V.h.get c:=fun c t=>by rw[hY];simp only;rw[dx,if_neg t]
  have KY:lQ C.W {m1 with na:=v',l:=m1.l++ [(aDc first m.de (ct g old) [],AV.cr)]} V {m1 with na:=v',l:=m1.l++ [(aDc first m.de (ct g old) [],AV.cr)]} Y:=.off (Fy nY.symm) fun c _ hp=>kY c fun e=>hp.1 (by rw[e];exact LC.wn);have aa:=kM.trans KY;have kw:∀c,C.W c->c≠C.nc->Y.h.get c=U.h.get c:=fun c hw aZ=>(kY c aZ).trans (kV c (wg c hw).2 fun e=>(u.b.d1 _ e).1 hw);have b6:tU C.W P g S0 Y {m1 with na:=v',l:=m1.l++ [(aDc first m.de (ct g old) [],AV.cr)]}:=(kP.local (Fy nY.symm) fun c _ hw _=>kY c fun e=>hw (by rw[e];exact LC.wn)).mono fun _ _ h=>h.2;have b8:rU C P g S0 Y {m1 with na:=v',l:=m1.l++ [(aDc first m.de (ct g old) [],AV.cr)]} (pl.set old (m.l.length:Int)):=(u.mono (P':=P) fun _ _ h=>h.2).ji b6 aa rfl (by rw[hY];simp only;rw[dx,if_pos rfl]) ((kw _ LC.wi (Ch d1)).trans u.gi) ((kw _ LC.wq (Ch d2)).trans u.gq) (u.gm.move (kw _ LC.wm (Ch d3)));have lU:∀c,aN D=some c->c<Z.nx:=fun c t=>dK bb t;have b':lQ C.W m X {m1 with na:=v',l:=m1.l++ [(aDc first m.de (ct g old) [],AV.cr)]} Y:=K2.trans ((lQ.jo u1).trans aa);have M:bN .i64 Y D (gP act (ct g old))/\∀c,aN D=some c->PBl C.W {m1 with na:=v',l:=m1.l++ [(aDc first m.de (ct g old) [],AV.cr)]} c:=by
   have h1:∀c,aN D=some c->c<U.nx/\PBl C.W m1 c/\U.h.get c=Z.h.get c:=fun c t=>by
    have a:=lU c t;have b:=R.1;have e:=u1.1;exact⟨au,(bd c t).1,(u1.2 c au).trans (R.2 c a (bd c t).2)⟩
   refine⟨eH bb (by have:=R.1;have:=u1.1;have:=aa.1;omega) fun c t=>?_,fun c t=>?_⟩
   .have⟨a,b,e⟩:=h1 c t;exact(aa.2 c a b).1.trans e
   .have⟨a,b,e⟩:=h1 c t;exact(aa.2 c a b).2
  have dY:=aFW (first:=first) (de:=m.de) (x:=ct g old);have ee:(gP act (ct g old)).length=(ct g old).ji.length:=(mQ Gg hR d).length_eq;have ca:=M.1.len;refine aB (aX (Q:=fun o A' W=>o= .normal/\aQQ C P g S0 X m pl first act f old D 0 A' W) (aB (aF ?_)) ?_)
  .refine d8 di ca @Ag ?_;refine aJ (bL (aQQ C P g S0 X m pl first act f old D) ?_ (gP act (ct g old)).length _ _ ⟨rfl,0,au,_,AV.cr,[],b8,by rw[List.take_zero,<-el];rfl,by rw[List.take_zero];rfl,by rw[List.take_zero];exact er,by show m1.de.length<=(m1.l++ [_]).length;rw[er,el,Ai,Ax];omega,b',M.1,M.2,⟨ah q1,ah q2,ah q3,ah q4,ah q5,ah q6,ah q7⟩,ah df,af,af,ag⟩);rintro k ⟨F,inr⟩ W ⟨rfl,j,cc,m',v,l2,hW,e1,e2,e3,e4,e5,e6,e7,⟨t1,t2,t3,t4,t5,t6,t7⟩,L,N,O,K⟩;simp only at t1 t2 t3 t4 t5 t6 t7 L N O K;refine bS (dz O K ?_);by_cases z:j<(gP act (ct g old)).length;rotate_left
   .refine aB (aK i7 (bH ?_));refine ae ?_;obtain rfl:k=0:=by omega
    exact⟨rfl,j,cc,m',v,l2,hW,e1,e2,e3,e4,e5,e6,e7,⟨ah t1,ah t2,ah t3,ah t4,ah t5,ah t6,ah t7⟩,ah L,ah N,ah O,ah K⟩
   refine aB (aM i7 (aG ?_));refine ae ?_
   have w1:=du j
   have⟨kb,kq,i1,_,i3⟩:=mE e6 z;have cf:(gP act (ct g old)).getD j 0∈(ct g old).ji:=(mQ Gg hR d).mem_iff.1 (by rw[Ad,Ab z];exact Bl z);have⟨q,hq,dp⟩:=Ce cf;have be:=Gg.kids old d q hq;rw[show(ct g old).ji.getD q 0=(ct g old).ji[q] by rw[Ad,Ab hq];rfl,dp] at be;obtain⟨cn,bw⟩:∃cn:Nat,(gP act (ct g old)).getD j 0=(cn:Int):=⟨((gP act (ct g old)).getD j 0).toNat,au⟩;rw[bw] at i3 be;have dq:(gP act (ct g old)).take (j+1)=(gP act (ct g old)).take j++ [(cn:Int)]:=by
    rw[Cc,Ab z,<-bw,Ad,Ab z];rfl
   generalize a0:eG (fV g first act f) ((gP act (ct g old)).take j) (m.l.length+1) (gG first m.de (ct g old)).1=I at *;have dr:l2.length=I.2.ce.length:=by rw[<-e2,Av]
   have ch:m'.l.length=m.l.length+1+I.2.ce.length:=by rw[e1,Ai,Aw,dr];omega
   have cj:m'.l.length+dR Tr cn<=g.ce.length:=by
    have h1:=yP (T:=Tr) (lay:=fV g first act f) (l:=(gP act (ct g old)).take j) (fun k hk i de=>aAV Gg hR hT bz (by
     obtain⟨q,hq,rfl⟩:=Ce ((mQ Gg hR d).mem_iff.1 (Ee hk));have:=Gg.kids old d q hq;rw[Ad,Ab hq] at this;simp only[Ea] at this;omega)) (i:=m.l.length+1) (de:=(gG first m.de (ct g old)).1)
    rw[a0] at h1;have h2:=aHW (((mQ Gg hR d).map Int.toNat).map (dR Tr));have h3:=aMc (l:=((gP act (ct g old)).map Int.toNat).map (dR Tr)) (j:=j) (by rw[Av,Av];exact z);rw[<-List.map_take,<-List.map_take] at h3;have h4:(((gP act (ct g old)).map Int.toNat).map (dR Tr)).getD j 0=dR Tr cn:=by
     rw[Ad,Ba,Ba,Ab z];have:(gP act (ct g old))[j]=(cn:Int):=by rw[<-bw,Ad,Ab z];rfl
     rw[this];rfl
    omega
   have lf:=cM (p:=0) hW.gf rfl;refine aB (aJ (aB (aF ?_)));refine ec N K i1 i3 ?_;refine bS (dz t7 lf ?_);refine bJ (ae ?_);refine aW (ih au au  cj e4 hW) ?_;rintro _ W2 ⟨rfl,m2,l3,B,a1,a2,a3,a4,a5⟩
   rw[ch] at B a2 a3;have dt:m2.l[m.l.length]? =some (aDc first m.de (ct g old) I.1,v):=by
    rw[a1,e1,Bg,Ao (Af _),Dv];rfl
   have dv:=zC (lay:=fV g first act f) (l:=(gP act (ct g old)).take j) (i:=m.l.length+1) (de:=(gG first m.de (ct g old)).1);rw[a0,Bx] at dv;refine aN5 (W:=C.W) (g:=g) (S0:=S0) (nc:=C.nc) (i:=m.l.length) (m:=m2) (v:=v) (a:=aDc first m.de (ct g old) I.1) (w:=(m'.l.length:Int)) rfl B.b B.s.1 dt (by show I.1.length<=100000;omega) (ah t1) (ah L) (af) B.gn LC.wn ?_;intro F' V v2 y dw KV kV;have ba:=B.b.wg;have an:=(y 103 au);simp only[↓sU,sD,rE,↓reduceIte,rA,K] at an;refine ae ?_
   refine aF (dz an w1 ?_);have g1:=y 1 au;have g2:=y 2 au;have g3:=y 3 au;have g4:=y 4 au;have g5:=y 5 au;have g6:=y 6 au;have g7:=y 7 au;have ck:=y 10 au;have bj:=y 101 au;have bk:=y 102 au;simp only[↓sU,sD,rE,↓reduceIte,rA,t1,t2,t3,t4,t5,t6,t7,L,N,O] at g1 g2 g3 g4 g5 g6 g7 ck bj bk;have kk:=aDO (lay:=fV g first act f) (l:=(gP act (ct g old)).take j) (k:=(cn:Int)) (i:=m.l.length+1) (de:=(gG first m.de (ct g old)).1);rw[a0,<-dq,Am,<-e3] at kk;have eg:=a3;have cl:bN .i64 V D (gP act (ct g old))/\∀c,aN D=some c->PBl C.W {m2 with l:=m2.l.set m.l.length ({aDc first m.de (ct g old) I.1 with ji:=I.1++ [(m'.l.length:Int)]},v2)} c:=by
    have KK:=a5.trans KV;exact⟨eH e6 KK.1 fun c t=>(KK.2 c (dK e6 t) (e7 c t)).1,fun c t=>(KK.2 c (dK e6 t) (e7 c t)).2⟩
   refine⟨k - 1,au,rfl,j+1,au,{m2 with l:=m2.l.set m.l.length ({aDc first m.de (ct g old) I.1 with ji:=I.1++ [(m'.l.length:Int)]},v2)},v2,l2++l3,?_,?_,?_,?_,?_,e5.trans (a5.trans KV),cl.1,cl.2,⟨ah g1,ah g2,ah g3,ah g4,ah g5,ah g6,ah g7⟩,ah ck,ah bj,ah bk,af⟩
   .rw[kk];simp only;have cm:I.2.olds.length=I.2.ce.length:=by rw[<-a0];exact aAB fun o i de=>aF5
    have dF:wZ pl m.l.length (old::(I.2.olds++(fV g first act f cn (m.l.length+1+I.2.ce.length) m'.de).olds))=wZ (wZ pl m.l.length (old::I.2.olds)) (m.l.length+1+I.2.ce.length) (fV g first act f cn (m.l.length+1+I.2.ce.length) m'.de).olds:=by
     rw[<-Ci,aIb,Aw,cm,show m.l.length+(I.2.ce.length+1)=m.l.length+1+I.2.ce.length by omega]
    rw[dF];exact B.ji dw KV rfl ((kV _ (ba _ LC.wn).2 LC.wn).trans B.gn) ((kV _ (ba _ LC.wi).2 LC.wi).trans B.gi) ((kV _ (ba _ LC.wq).2 LC.wq).trans B.gq) (B.gm.move (kV _ (ba _ LC.wm).2 LC.wm))
   .rw[kk];simp only;rw[ch,a1,e1,Bg,List.set_append_right _ _ (Af _),Dv];rfl
   .rw[kk];simp only;rw[Cf,e2,a2]
   .rw[kk];exact a3
   .simp only;rw[Ar];exact a4
  rintro o ⟨F3,inr⟩ W ⟨rfl,rfl,j,cc,m',v,l2,hW,e1,e2,e3,e4,e5,e6,e7,dM,L, -, -, -⟩;simp only at dM L;obtain rfl:j=(gP act (ct g old)).length:=by omega
  rw[Eo] at hW e1 e2 e3;refine bS (c8 L ?_);refine aS (ae ?_);refine⟨m',_,hW,e1,?_,e3,e4,e5⟩;rw[Dh,e2];rfl
structure Clo(g:aP)(first:bt)(de:cd)(B:aA4):Prop where
 kid:∀o∈B.olds,∀k∈(ct g o).ji,k.toNat∈B.olds
 rep:∀o∈B.olds,(ct g o).jk=2->(first.getD (ct g o).jj.toNat 0).toNat∈B.de
 mono:∀r∈de,r∈B.de
def aDU:r∈(oJ de r).1/\∀q∈de,q∈(oJ de r).1:=by
 unfold oJ;split
 .rename_i h;exact⟨h,fun _ h=>h⟩
 .exact⟨by simp,fun q h=>by simp [h]⟩
def aGm{g:aP}{first:bt}{lay:Nat->Nat->cd->aA4}:∀ {l:bt} (_:∀k∈l,∀i de,Clo g first de (lay k.toNat i de)/\k.toNat∈(lay k.toNat i de).olds) {i:Nat} {de:cd},Clo g first de (eG lay l i de).2/\∀k∈l,k.toNat∈(eG lay l i de).2.olds
 | [],_,i,de=>⟨⟨fun o h=>(by cases h),fun o h=>(by cases h),fun r h=>h⟩,fun k h=>by cases h⟩
 | x::l,h,i,de=>by
  have⟨d,m1⟩:=h x (Be ..) i de;have⟨c,f⟩:=aGm (l:=l) (fun k a=>h k (Az _ a)) (i:=i+(lay x.toNat i de).ce.length) (de:=(lay x.toNat i de).de);unfold eG;refine⟨⟨fun o e k a=>?_,fun o e a=>?_,fun r j=>c.mono r (d.mono r j)⟩,fun k a=>?_⟩
  .rcases Bi.1 e with b|b
   .exact Dc _ (d.kid o b k a)
   .exact Cq _ (c.kid o b k a)
  .rcases Bi.1 e with b|b
   .exact c.mono _ (d.rep o b a)
   .exact c.rep o b a
  .rcases Bm.1 a with rfl|b
   .exact Dc _ m1
   .exact Cq _ (f k b)
def aFm{g:aP}{first:bt}{act:bo}(G:cV g)(j:iD g act):∀ {f o i:Nat} {de:cd},g.ce.length<=f+o->o<g.ce.length->Clo g first de (fV g first act f o i de)/\o∈(fV g first act f o i de).olds
 | 0,o,i,de,t,u=>absurd u au
 | f+1,o,i,de,t,n=>by
  unfold fV;have p:=mQ G j n;have⟨c,m⟩:=aGm (g:=g) (first:=first) (lay:=fV g first act f) (l:=gP act (ct g o)) (fun k a i de=>by
   obtain⟨q,s,rfl⟩:=Ce (p.mem_iff.1 a);have:=G.kids o n q s;rw[Ad,Ab s] at this;simp only[Ea] at this;exact aFm G j au au) (i:=i+1) (de:=(gG first de (ct g o)).1)
  have w:∀r∈de,r∈(gG first de (ct g o)).1:=fun r d=>by
   unfold gG;split
   .exact aDU.2 r d
   .exact d
  refine⟨⟨fun e b k a=>?_,fun e b a=>?_,fun r d=>c.mono r (w r d)⟩,Be ..⟩
  .rcases Bm.1 b with rfl|h
   .exact Az _ (m k (p.mem_iff.2 a))
   .exact Az _ (c.kid e h k a)
  .rcases Bm.1 b with rfl|h
   .refine c.mono _ ?_;unfold gG;rw[if_pos a];exact aDU.1
   .exact c.rep e h a
def aHz{act:bo}(G:cV g)(d:iD g act)(e:j<g.ce.length):j∈(fV g first act g.ce.length 0 0 []).olds:=by
 have⟨c,m⟩:=aFm (first:=first) G d (f:=g.ce.length) (o:=0) (i:=0) (de:=[]) au G.n1
 induction j using Nat.strongRecOn with
 | ind j h=>
  by_cases a:j=0
  .rw[a];exact m
  .have⟨q,k,n,b,p⟩:=zT G (Fq a) e;have:=c.kid q (h q n au) ((ct g q).ji.getD k 0) (by rw[Ad,Ab b];exact Bl b);rw[p] at this;exact this
def aBu{act:bo}(G:cV g)(a:iD g act){s:Nat}(b:s<g.cg.length):(first.getD s 0).toNat∈(fV g first act g.ce.length 0 0 []).de:=by
 have⟨c,_⟩:=aFm (first:=first) G a (f:=g.ce.length) (o:=0) (i:=0) (de:=[]) au G.n1;have⟨f1,f2,f3⟩:=G.fst s b;have:=c.rep _ (aHz G a f1) f2;rw[f3] at this;exact this
def aTA(W:St)(F:Fr)(qv:AV)(l:bt)(F':Fr)(Z:St)(ps:List jD):Prop:=ps= [⟨8,W.nx+8,.cells [aA 51 F'] false 0⟩]/\jq W Z/\W.nx+12<=Z.nx/\(∀j,j<44->aA j F'=aA j F)/\aA 45 F'=qv/\aA 52 F'= .sl (W.nx+8) 0 1 1 false/\bN .i64 Z (aA 51 F') l/\∀c,aN (aA 51 F')=some c->W.nx<=c/\c≠W.nx+8
def aO5{W Y:St}{J a:AV}(H:Has fns)(b:aA 10 F= .ptr ob 0)(K:aA 2 F= .ptr lb 0)(d:aA 11 F=jr (i:Int))(e:W.h.get ob=js [B,D,G,I,qv,J])(f:W.h.get lb=js [fv,av])(n:ob<W.nx)(o:lb<W.nx)(p:eY (.slice 1) av i=some (.ptr br qr))(q:eE (.ptr br qr) false 1 W.h=some a)(r:br<W.nx)(u:bN .i64 W a l)(L:l.length<=100000)(M:cI av av=true)(s:cI qv qv=true)
  (w:jq W Y) (S:Y.nx=W.nx+12):gO fns (fun _=>False) W.h W.nx aLo 0 F Y [] none (aTA W F qv l):=by
 have N:=bN.self u;unfold aLo;refine fo K b d (dW e) (aCY f) n o r @Ap M s N p q ?_;refine dT rfl ?_;refine ae ?_;refine aW (qD H (u.jo w) L) ?_;rintro O T ⟨s1,y,Q,_⟩;refine⟨s1,?_⟩;have R:=fun(F:Fr) (id:Nat) (h:aA 51 F=O)=>aBD (t:=22) (z:=.cr) (x:=.t 51) (F:=F) (id:=id) y h;refine c8 R ?_;refine⟨af,w.trans s1,ax s1.1,fun j U=>?_,af,af,by refine ae ?_;exact y,fun c A=>?_⟩
 .simp only[bE];rw[if_neg au,if_neg au,if_neg au,if_neg au,if_neg au,if_neg au,if_neg au,if_neg au,if_neg au]
 .simp only[↓sU,sD,rE,↓reduceIte,rA] at A;have:=Q c A;omega
def aQG{u:List AO}{W:St}{n:Nat}{A a:AV}(H:Has fns)(he:u=aLo++aNu)(J:aA 10 F= .ptr ob 0)(p2:aA 2 F= .ptr lb 0)(V:aA 11 F=jr (i:Int))(L:W.h.get ob=js [A,B,D,G,qv,I])(Y:W.h.get lb=js [fv,av])(a0:ob<S0.nx)(aa:lb<W.nx)(ab:eY (.slice 1) av i=some (.ptr br qr))(w:eE (.ptr br qr) false 1 W.h=some a)(ac:br<W.nx)(ha:bN .i64 W a l)(hl:l.length<=100000)(sv:cI av av=true)
  (T:fC 1 S0 W qv n cs) (hS:S0.nx<=W.nx) (hn:n<=100000)
  (hQ:∀F' Z r d,(∀j,j<44->aA j F'=aA j F)->W.nx<=Z.nx->Z.h.get ob=js [A,B,D,G,d,I]->(∀c,c<W.nx->c≠ob->aN qv≠some c->Z.h.get c=W.h.get c)->bN .i64 Z r l->fC 1 S0 Z d (n+1) (cs++ [r])->(∀c,aN r=some c->W.nx<=c/\aN d≠some c)->(∀c,aN d=some c->W.nx<=c)->Q .normal ⟨F',inr⟩ Z):jN fns (.drw u) ⟨F,inr⟩ W Q:=by
 have M:u.length=12:=by rw[he];rfl
 refine qA (K:=9) (R:=aTA W F qv l) he rfl rfl (fun S1 s h n=>aO5 H J p2 V L Y au aa ab w ac ha hl sv T.self s (by rw[n,M])) ?_;rintro F' S' ps hs ls ⟨rfl,sZ,nZ,hk,an,ao,i1,q⟩ y w;have N:aA 10 F'= .ptr ob 0:=(hk 10 au).trans J;generalize aw:aA 51 F'=r at i1 q;have m1:∀i,i<9->Nat.testBit 511 i=true:=by decide
 obtain⟨U,O⟩:∃U:St,U=⟨S'.h.set (W.nx+8) (js [r]),S'.nx⟩:=⟨_,rfl⟩;have f:jq W U:=by rw[O];exact⟨sZ.1,fun c b=>by simp only;rw[dx,if_neg au];exact sZ.2 c b⟩
 have gU:U.h.get (W.nx+8)=js [r]:=by rw[O];simp only;rw[dx,if_pos rfl]
 have nU:U.nx=S'.nx:=by rw[O]
 have iU:bN .i64 U r l:=eH i1 au fun c b=>by
  rw[O];simp only;rw[dx,if_neg (q c b).2]
 have o:∀ {c},aN qv=some c->S0.nx<=c/\c<W.nx:=fun b=>⟨(T.blk b).1,(T.blk b).2.1⟩;have aI:fC 1 ⟨U.h,S0.nx⟩ U qv n cs:=T.move f.1 fun c b=>f.2 c (o b).2;have⟨d,X,eA,gA,bA,nA,rA⟩:=fC.push1 (bytes:=24) (x:=r) aI ⟨by show S0.nx<=U.nx;have:=f.1;omega,fun _ _=>rfl⟩ gU ay ay;have aV:X.h.get ob=js [A,B,D,G,qv,I]:=by
  rw[rA ob (ax f.1) (fun e=>by have:=(o e).1;omega)];exact(f.2 ob au).trans L
 unfold aNu;refine iS (v:=d) (S1:=X) (y _ m1) (fun call=>?_) ?_
 .rw[cK (az:Nat.testBit 511 8=true),fB];simp only[fO,an,ao,aw];rw[<-O];exact eA
 rw[cK (az:Nat.testBit 511 8=true)];simp only[iT,dJ,aU,aT,cP,aR,fO,bK,bE,N,rE,↓reduceIte,rA];have aZ:d.cells=some [d]:=fC.cells gA;refine iS (v:=.undef) (S1:=⟨X.h.set ob (js [A,B,D,G,d,I]),X.nx⟩) (az:Nat.testBit 2047 9=true) (fun call=>?_) ?_
 .rw[dE];simp only[fO,bE,rE,↓reduceIte,bK,aZ,aH];exact xY (cs:=[A,B,D,G,qv,I]) (p:=4) (S:=X) aV (by simp)
 rw[iL];have z:∀ {c},aN d=some c->c=U.nx:=fun b=>by rw[bA] at b;exact(Bk b).symm
 have a1:=f.1;refine⟨?_,?_⟩
 .simp only[Cg,Bg,Cr,Ci,Bu];exact w _ _ _ m1
 .simp only[bK,fK];have t:∀ {c},aN r=some c->c<U.nx:=fun b=>dK iU b;refine hQ _ _ r d (fun j hj=>?_) (by show W.nx<=X.nx;omega) jh (fun c b h1 h2=>?_) ?_ ?_ (fun c b=>⟨(q c b).1,fun h=>?_⟩) (fun c b=>?_)
  .rw[bE,if_neg au,bE,if_neg au];exact hk j hj
  .simp only;rw[dx,if_neg h1,rA c au h2];exact f.2 c b
  .refine eH iU (by show U.nx<=X.nx;omega) fun c b=>?_;have h1:=(q c b).1;simp only;rw[dx,if_neg au,rA c (t b) (fun e=>by have:=(o e).2;omega)]
  .refine fC.move (S:=X) (by exact gA) (Af _) fun c b=>?_;have:=z b;simp only;rw[dx,if_neg au]
  .have:=z h;have:=t b;omega
  .have:=z b;omega
def yG(first:bt)(de:cd):bt:=first.map fun r=>((de.idxOf r.toNat:Nat):Int)
def aQM(g:aP)(first:bt)(act:bo)(Z:St)(r:AV):Prop:=∃nv iv a qv pv,r= .agg [jr g.ch,nv,iv,a,qv,pv]/\aE 6 bT Z nv (fV g first act g.ce.length 0 0 []).ce/\aE 2 cC Z iv ((fV g first act g.ce.length 0 0 []).de.map fun r:Nat=>cu g (r:Int))/\bN .i64 Z a (yG first (fV g first act g.ce.length 0 0 []).de)/\aE 1 nM Z qv act/\bN .i64 Z pv (wZ (List.replicate g.ce.length 0) 0 (fV g first act g.ce.length 0 0 []).olds)
def aTd(g:aP)(first:bt)(act:bo)(S Z:St)(r:AV):Prop:=∀Z',Z.nx<=Z'.nx->(∀c,S.nx<=c->c<Z.nx->Z'.h.get c=Z.h.get c)->aQM g first act Z' r
def aST(Y0:St)(ob lb b mb:Nat)(d e f pl fv:AV)(de:cd)(first:bt)(act:bo)(h:Nat)(k:Nat)(A:bO)(X:St):Prop:=A.inr=false/\Y0.nx<=X.nx/\(∀c,c<Y0.nx->c≠ob->X.h.get c=Y0.h.get c)/\∃i a qv cs,i+k=first.length/\X.h.get ob=js [d,e,f,a,qv,pl]/\fC 1 Y0 X a ((yG first de).take i).length (aQ ((yG first de).take i))/\fC 1 Y0 X qv i cs/\qJ Y0 X qv cs (act.take i)/\(∀c,aN a=some c->aN qv≠some c/\∀r∈cs,aN r≠some c)/\aA 2 A.F= .ptr lb 0/\aA 4 A.F= .ptr h 0/\aA 5 A.F= .ptr b 0/\aA 10 A.F= .ptr ob 0/\aA 29 A.F=fv/\aA 30 A.F=jr (first.length:Int)/\aA 31 A.F=jr (i:Int)
def tU.nodesM{W:Nat->Prop}{m:LyS}(h:tU W (fun c=>S0.nx<=c) g S0 X m)(a:X.nx<=X'.nx)(b:∀c,S0.nx<=c->c<X.nx->X'.h.get c=X.h.get c):tU W (fun c=>S0.nx<=c) g S0 X' m:=
 h.local a fun c d _ f=>b c (by
  by_cases e:c<S0.nx
  .exact f (h.low e)
  .omega) d
def qJ.moveR(h:qJ S0 X pv cs A)(e:X.nx<=X'.nx)(f:∀r∈cs,∀c,aN r=some c->S0.nx<=c->X'.h.get c=X.h.get c):qJ S0 X' pv cs A:=
 ⟨h.1,fun j i=>by
  have⟨r,a,n,b⟩:=h.2 j i;exact⟨r,a,eH n e fun c d=>f r (Bb a) c d (b c d).1,b⟩⟩
def qJ.low{r:AV}(h:qJ S0 X pv cs A)(d:r∈cs)(e:aN r=some c):c<X.nx:=by
 obtain⟨j,a,rfl⟩:=Ce d;have⟨i,b,f,_⟩:=h.2 j (by rw[<-h.1];exact a);rw[Ab a] at b;cases b;exact dK f e
theorem aHN{S:St}{nv iv fv av:AV}{g:aP}{first:bt}{act:bo}{Tr:List cL}(H:Has fns)(G:aGe g)(hR:iD g act)(hFl:first.length=g.cg.length)(hFr:∀s,s<g.cg.length->∃r:Nat,first.getD s 0=(r:Int)/\r<g.cg.length)(hn:aE 6 bT S nv g.ce)(hi:aE 2 cC S iv g.cg)(hf:bN .i64 S fv first)(ha:aE 1 nM S av act)(hT:fY g=some Tr)(hTl:Tr.length=g.ce.length)(hwl:∀i,i<g.ce.length->(ct g i).jm.length<=100000):
  iK fns (.fn 27 [] []) [.agg [fv,av],.agg [.int .i64 g.ch,nv,iv]] S fun r Z=>jq S Z/\aTd g first act S Z r:=by
 have Gg:=G.good;have hN:=Gg.n2;have sfv:=bN.self hf;refine cJ H.f27 (by simp) ?_;refine am ?_;refine bS ?_;refine dC (by refine am ?_;exact bB _) ?_;intro S1 s1 n1 g1;refine am ?_;refine dC (by refine am ?_;exact bB _) ?_;intro S2 s2 n2 g2;try refine am ?_
 refine cB ?_;intro S0 s3 n3 g3;try refine am ?_
 have s03:=s1.trans (s2.trans s3);have gl0:S0.h.get S.nx=_:=(s3.2 _ au).trans ((s2.2 _ au).trans g1);have gg0:S0.h.get S1.nx=_:=(s3.2 _ au).trans g2;refine bS ?_;refine fQ (v:=.map S0.nx) (bl:=.map []) rfl ?_;intro X1 x1 k1 e1;refine am ?_;refine cB ?_;intro X2 x2 k2 e2;try refine am ?_
 refine dB (b:=X1.nx) (cs':=[.map S0.nx]) (aq) (by simp only[↓aD,aC,rE,↓reduceIte,rA];rfl) e2 rfl rfl ?_;intro X3 x3 k3 e3;try refine am ?_
 have s13:jq X1 X3:=x3.jo x2 (Af _);refine bS ?_;refine cB ?_;intro X4 x4 k4 e4;try refine am ?_
 refine bS ?_;refine cB ?_;intro X5 x5 k5 e5;try refine am ?_
 have s05:jq S0 X5:=x1.trans (s13.trans (x4.trans x5));have gg5:=(s05.2 _ au).trans gg0;have lg5:=fN gg5;have hnl:=hn.len;have hmk:=fun F id (x:cQ) (hx:gL (x.val F)=some g.ce.length)=>oK (t:=3) (s:=1) (bytes:=8) (z:=[AV.int .i64 0]) (l:=x) (c:=x) (F:=F) (id:=id) (n:=g.ce.length) hx hx ay ay;refine bS (gu @aU @aT lg5 hnl ?_);refine fQ (hmk _ _ _ (jd @aY)) ?_;intro X6 x6 k6 e6;try refine am ?_
 refine cB ?_;intro X7 x7 k7 e7;try refine am ?_
 refine dB (b:=X6.nx) (cs':=[.sl X5.nx 0 g.ce.length g.ce.length false]) (aq) (by simp only[↓aD,aC,rE,↓reduceIte,rA];rfl) e7 rfl rfl ?_;intro X8 x8 k8 e8;try refine am ?_
 have s68:jq X6 X8:=x8.jo x7 (Af _);refine bS ?_;refine cB ?_;intro X9 x9 k9 e9;try refine am ?_
 refine bS (fx @aBJ ?_);obtain⟨C,hC⟩:∃C:LC,C=⟨X4.nx,X3.nx,X5.nx,S0.nx,X6.nx,X1.nx,X8.nx,S1.nx,S.nx,.int .i64 g.ch,nv,iv,fv,av⟩:=⟨_,rfl⟩;have hfn:C.fn= .fn 53 [] [.ptr X4.nx 0,.ptr X6.nx 0,.ptr S1.nx 0,.ptr S.nx 0,.ptr X1.nx 0,.ptr X3.nx 0,.ptr X8.nx 0]:=by rw[hC];rfl
 refine dB (b:=X8.nx) (cs':=[C.fn]) (aq) (by refine am ?_;rw[hfn];rfl) e9 rfl rfl ?_;intro X x10 k10 e10;try refine am ?_
 have s8X:jq X8 X:=x10.jo x9 (Af _);have s6X:=s68.trans s8X;have s5X:=x6.trans s6X;have s0X:=s05.trans s5X;have s3X:jq X3 X:=x4.trans (x5.trans s5X);have hrp:AB.cells (repeatL [AV.int .i64 0] g.ce.length) false 0=AB.cells (aQ (List.replicate g.ce.length 0)) false 0:=by rw[rG]
 have hS:rU C (fun c=>S0.nx<=c) g S0 X ⟨.cr,.cr,[],[]⟩ (List.replicate g.ce.length 0):=by
  have w:∀c,C.W c->S0.nx<=c/\c<X.nx:=fun c hc=>by
   rw[hC] at hc;rcases hc with hc | hc | hc | hc<;>simp only at hc<;>omega
  have p:∀c,¬C.W c->PBl C.W ⟨.cr,.cr,[],[]⟩ c:=fun c hc=>⟨hc,fun e=>(by cases e),fun e=>(by cases e),fun a h=>(by cases h)⟩;have nw:∀c,(c=X6.nx\/c=X1.nx\/c=X8.nx)->¬C.W c:=fun c hc hw=>by
   rw[hC] at hw;rcases hw with hw | hw | hw | hw<;>simp only at hw<;>omega
  refine⟨⟨.none,.none,fun a h=>(by cases h),fun i j a b _ h=>(by cases h),fun c h=>(by cases h),fun c h=>(by cases h),w⟩,?_,?_,?_,?_,?_,?_,?_,?_,?_,⟨p _ (nw _ (by rw[hC];exact .inl rfl)),?_⟩,⟨p _ (nw _ (by rw[hC];exact .inr (.inl rfl))),?_⟩,⟨p _ (nw _ (by rw[hC];exact .inr (.inr rfl))),?_⟩,?_,?_,?_,Au,s0X⟩
  all_goals rw[hC]
  all_goals simp only
  ·exact(s5X.2 _ au).trans e5
  ·exact((x5.trans s5X).2 _ au).trans e4
  ·rw[<-hrp];exact(s6X.2 _ au).trans e6
  ·exact⟨[],((s13.trans s3X).2 _ au).trans e1,fun _=>rfl⟩
  ·exact(s8X.2 _ au).trans e8
  ·exact(s3X.2 _ au).trans e3
  ·rw[e10,hC]
  ·exact(s0X.2 _ au).trans gg0
  ·exact(s0X.2 _ au).trans gl0
  all_goals first | omega | trace_state
 have lf:=cM (p:=0) e10 rfl;have hsz:([]:List (cD×AV)).length+dR Tr 0<=g.ce.length:=by
  rw[Ca,An,<-hTl];exact(qE (mP az (show eT g.ce.length (dP g) (g.ce.length+1) 0 (-1) 0=some Tr from hT)) (by rw[hTl];exact Gg.n1)).2.1
 refine bS (fx lf ?_);refine bJ (am ?_);have e0:C.nv=nv/\C.iv=iv/\C.fv=fv/\C.av=av:=by rw[hC];exact⟨rfl,rfl,rfl,rfl⟩
 have gn0:=aE.jo (E:=bT) bF hn s03;have gi0:=aE.jo (E:=cC) bQ hi s03;have gf0:=hf.jo s03;have ga0:=aE.jo (E:=nM) fR ha s03;rw[<-e0.1] at gn0;rw[<-e0.2.1] at gi0;rw[<-e0.2.2.1] at gf0;rw[<-e0.2.2.2] at ga0;refine aW (aOY (first:=first) (act:=act) (Tr:=Tr) (P:=fun c=>S0.nx<=c) H (fun _ h=>h) G hR hFl hFr gn0 gi0 gf0 ga0 hT hTl hwl g.ce.length (old:=0) au Gg.n1 hsz (Af _) hS) ?_;rintro _ Y ⟨-,m,l',hY,a1,a2,a3,a4,a5⟩;try refine am ?_
 generalize hB:fV g first act g.ce.length 0 0 []=B at *;have rall:=fun s hs=>aBu (first:=first) Gg hR (s:=s) hs;rw[hB] at rall;have sSY:jq S Y:=⟨by have:=s03.1;have:=hY.s.1;omega,fun c hc=>(hY.s.2 c (ax s03.1)).trans (s03.2 c hc)⟩;have gnY:Y.h.get X4.nx=some (.cells [m.na] false 0):=by have:=hY.gn;rw[hC] at this;exact this
 have giY:Y.h.get X3.nx=some (.cells [m.ia] false 0):=by have:=hY.gi;rw[hC] at this;exact this
 have gpY:Y.h.get X6.nx=some (.cells [.sl X5.nx 0 g.ce.length g.ce.length false] false 0):=by have:=hY.gp;rw[hC] at this;exact this
 have ggY:Y.h.get S1.nx=some (.cells [.int .i64 g.ch,nv,iv] false 0):=by have:=hY.gg;rw[hC] at this;exact this
 have glY:Y.h.get S.nx=some (.cells [fv,av] false 0):=by have:=hY.gl;rw[hC] at this;exact this
 have gcY:Y.h.get X1.nx=some (.cells [.map S0.nx] false 0):=by have:=hY.gc;rw[hC] at this;exact this
 have gqY:Y.h.get X5.nx=some (.cells (aQ (wZ (List.replicate g.ce.length 0) 0 B.olds)) false 0):=by have:=hY.gq;rw[hC] at this;exact this
 have gmY:aEP encI encI Y.h S0.nx (aFC m.de):=by have:=hY.gm;rw[hC] at this;exact this
 have lq:X5.nx<Y.nx:=by have:=hY.b.wg X5.nx (by rw[hC];exact .inr (.inr (.inl rfl)));exact this.2
 have lmb:S0.nx<Y.nx:=by have:=hY.b.wg S0.nx (by rw[hC];exact .inr (.inr (.inr rfl)));exact this.2
 have lmc:X1.nx<Y.nx:=by have:=hY.kc.2;rw[hC] at this;exact this
 have hbY:=hY.b;have cna:m.na.cells=some [m.na]:=hY.b.nod.cells;have cia:m.ia.cells=some [m.ia]:=hY.b.inf.cells;rw[Bu] at a1;rw[<-a1] at a2;rw[a3] at gmY;obtain⟨na,hna⟩:∃na,na=m.na:=⟨_,rfl⟩;obtain⟨ia,hia⟩:∃ia,ia=m.ia:=⟨_,rfl⟩;rw[<-hna] at gnY cna;rw[<-hia] at giY cia;obtain⟨r4,hr4⟩:∃r4,r4=S2.nx:=⟨_,rfl⟩;have g4Y:Y.h.get r4=some (.cells [.int .i64 0,.cr,.cr,.cr,.cr,.cr] false 0):=by rw[hr4];exact(hY.s.2 _ au).trans g3
 have l4:r4<Y.nx:=by have:=hY.s.1;omega
 have n4:S.nx<=r4:=by omega
 have hT5:=aDQ (os:=B.olds) (pl:=List.replicate g.ce.length 0) (i:=0);rw[Au] at hT5;simp only[<-hr4];have r4l:r4<S0.nx:=by omega
 clear hS hY a1 a4 a5 lf e10 e9 e8 e7 e6 e5 e4 e3 e2 e1 g1 g2 g3 gn0 gi0 gf0 ga0 hfn s0X s3X s5X s6X;have hB1:∀ (F:Fr) (h:Ev.T AB),aA 22 F= .int .i64 g.ch->aA 23 F=na->aA 24 F=ia->iC (.build [.int .i64 0,.cr,.cr] [(0,1,.t 22),(1,1,.t 23),(2,1,.t 24)]) F h=some (.agg [.int .i64 g.ch,na,ia]):=fun F h h1 h2 h3=>by
  show(bD (eO _ (dN F [(0,1,.t 22),(1,1,.t 23),(2,1,.t 24)])) fun cs=>some (AV.agg cs))=_;simp only[dN,show(cQ.t 22).val F= .int .i64 g.ch from h1,show(cQ.t 23).val F=na from h2,show(cQ.t 24).val F=ia from h3,eO,cF,cna,cia,aH];rfl
 have hB2:∀ (F:Fr) (h:Ev.T AB),aA 25 F= .agg [.int .i64 g.ch,na,ia]->aA 26 F= .sl X5.nx 0 g.ce.length g.ce.length false->iC (.build [.int .i64 0,.cr,.cr,.cr,.cr,.cr] [(0,3,.t 25),(5,1,.t 26)]) F h=some (.agg [.int .i64 g.ch,na,ia,.cr,.cr,.sl X5.nx 0 g.ce.length g.ce.length false]):=fun F h h1 h2=>by
  show(bD (eO _ (dN F [(0,3,.t 25),(5,1,.t 26)])) fun cs=>some (AV.agg cs))=_;simp only[dN,show(cQ.t 25).val F= .agg [.int .i64 g.ch,na,ia] from h1,show(cQ.t 26).val F= .sl X5.nx 0 g.ce.length g.ce.length false from h2,eO,bB,aH];rfl
 have ld22:=pG ggY;have ld23:=cM (p:=0) gnY rfl;have ld24:=cM (p:=0) giY rfl;have ld26:=cM (p:=0) gpY rfl;refine bS (ik @aU @aT ld22 ld23 ld24 ld26 hB1 hB2 ?_);refine cB ?_;intro Z1 z1 m1 d1;try refine am ?_
 refine dB (b:=Y.nx) (cs':=[.int .i64 g.ch,na,ia,.cr,.cr,.sl X5.nx 0 g.ce.length g.ce.length false]) (aq) (by refine am ?_;exact bB _) d1 rfl rfl ?_;intro Y0 z2 m2 d2;try refine am ?_
 have sY0:jq Y Y0:=z2.jo z1 (Af _);obtain⟨ob,hob⟩:∃ob,ob=Y.nx:=⟨_,rfl⟩;rw[<-hob] at d2;simp only[<-hob];have nY0:Y0.nx=ob+1:=by omega
 have glZ:=(sY0.2 _ (ax sSY.1)).trans glY;have gcZ:=(sY0.2 _ lmc).trans gcY;have gmZ:=gmY.move (sY0.2 _ lmb);have ld29:=cM (p:=0) glZ rfl;have hfl:=hf.len;have hnumL:(yG first B.de).length=first.length:=by unfold yG;rw[Av]
 refine aB (aX (Q:=fun o A' W=>o= .normal/\aST Y0 ob S.nx X1.nx S0.nx (.int .i64 g.ch) na ia (.sl X5.nx 0 g.ce.length g.ce.length false) fv B.de first act r4 0 A' W) (aB (aF ?_)) ?_)
 ·refine d8 ld29 hfl @Ag ?_;refine aJ (bL (aST Y0 ob S.nx X1.nx S0.nx (.int .i64 g.ch) na ia (.sl X5.nx 0 g.ce.length g.ce.length false) fv B.de first act r4) ?_ first.length _ _ ⟨rfl,Af _,fun _ _ _=>rfl,0,.cr,.cr,[],au,d2,.inl ⟨rfl,rfl,rfl⟩,.inl ⟨rfl,rfl,rfl⟩,⟨rfl,fun j hj=>absurd hj (Bo j)⟩,fun c hc=>(by cases hc),af,af,af,af,af,af,ag⟩);rintro k ⟨F,inr⟩ X ⟨q0,nX,kX,i,jv,qv,cs,hik,gX,hj,hq,hRw,hd,p2,p4,p5,p10,p29,p30,p31⟩;simp only at q0 p2 p4 p5 p10 p29 p30 p31;subst q0;refine bS (dz p30 p31 ?_);by_cases hlt:i<first.length;rotate_left
  ·refine aB (aK i7 (bH ?_));refine ae ?_;obtain rfl:k=0:=by omega
   exact⟨rfl,nX,kX,i,jv,qv,cs,hik,gX,hj,hq,hRw,hd,ah p2,ah p4,ah p5,ah p10,ah p29,ah p30,ah p31⟩
  refine aB (aM i7 (aG ?_));try refine ae ?_
  have hNI:=Gg.ni;have w1:=du i
  have sSX:jq S X:=⟨ax sSY.1,fun c hc=>(kX c (ax sSY.1) (ax sSY.1)).trans ((sY0.2 c (ax sSY.1)).trans (sSY.2 c hc))⟩;have⟨r,hr,hrl⟩:=hFr i au;have hrm:=rall i au;rw[hr,Am] at hrm;have⟨fb,fq,f1,f2,f3⟩:=mE (hf.jo sSX) hlt;rw[hr] at f3;have gcX:=(kX _ au au).trans gcZ;have glX:=(kX S.nx (ax sSY.1) (ax sSY.1)).trans glZ;have gmX:=gmZ.move (kX _ au au);have lcm:=cM (p:=0) gcX rfl;have hlk:∀F:Fr,aA 38 F= .map S0.nx->aA 39 F= .int .i64 (r:Int)->iC (.lookup (.p .int) (.int .i64 0) false (.t 38) (.t 39)) F X.h=some (.int .i64 ((B.de.idxOf r:Nat):Int)):=fun F a b=>aH1 (m:=.t 38) (x:=.t 39) aOt gmX a b (by unfold aFC;rw[if_pos hrm]);have htk:(yG first B.de).take (i+1)=(yG first B.de).take i++ [((B.de.idxOf r:Nat):Int)]:=by
   rw[Cc];unfold yG;rw[Ba,Ab hlt];have:first[i]=(r:Int):=by rw[<-hr,Ad,Ab hlt];rfl
   rw[this,Es,Am];rfl
  have hjl:((yG first B.de).take i).length=i:=by rw[Bx,hnumL];omega
  have he1:=fun(F:Fr) (id:Nat) (h:aA 40 F= .int .i64 ((B.de.idxOf r:Nat):Int))=>lD (t:=3) (z:=.int .i64 0) (x:=.t 40) (F:=F) (id:=id) (k:=.i64) (n:=((B.de.idxOf r:Nat):Int)) h;refine aB (aJ (aB (aF ?_)));refine ec p29 p31 f1 f3 ?_;refine bS (ig p5 p10 @aU @aT (dD gX) lcm hlk ?_);refine fQ (he1 _ _ (aq)) ?_;intro U u1 u2 u3;try refine am ?_
  have⟨jv',V,eA,gA,bA,nA,kA⟩:=fC.push (bytes:=8) (S0:=⟨U.h,Y0.nx⟩) (S:=U) (t:=X.nx) (w:=((B.de.idxOf r:Nat):Int)) (hj.step u1) ⟨by show Y0.nx<=U.nx;omega,fun _ _=>rfl⟩ u3 (by rw[hjl];unfold room;omega) (by rw[hjl];unfold room;omega);rw[<-htk] at gA;refine eK (fun call=>by refine fx @fB ?_;exact eA) ?_;have hcl:jv'.cells=some [jv']:=gA.cells;have lob:ob<X.nx:=by omega
  have jne:aN jv≠some ob:=fun e=>by have:=(hj.blk e).1;omega
  have gXV:V.h.get ob=some (.cells [.int .i64 g.ch,na,ia,jv,qv,.sl X5.nx 0 g.ce.length g.ce.length false] false 0):=(kA ob au jne).trans ((u1.2 _ lob).trans gX);refine gj p10 @aU @aT ?_;refine eK (v:=.undef) (S1:=⟨V.h.set ob (some (.cells [.int .i64 g.ch,na,ia,jv',qv,.sl X5.nx 0 g.ce.length g.ce.length false] false 0)),V.nx⟩) (fun call=>by refine gj @dE hcl @aH ?_;exact xY (cs:=[.int .i64 g.ch,na,ia,jv,qv,.sl X5.nx 0 g.ce.length g.ce.length false]) (p:=3) (S:=V) gXV (by simp)) ?_;refine am ?_;obtain⟨X1,hX1⟩:∃X1:St,X1=⟨V.h.set ob (some (.cells [.int .i64 g.ch,na,ia,jv',qv,.sl X5.nx 0 g.ce.length g.ce.length false] false 0)),V.nx⟩:=⟨_,rfl⟩;rw[<-hX1];have nX1:X1.nx=V.nx:=by rw[hX1]
  have nV:=nA;have g1:X1.h.get ob=some (.cells [.int .i64 g.ch,na,ia,jv',qv,.sl X5.nx 0 g.ce.length g.ce.length false] false 0):=by rw[hX1];simp only;rw[dx,if_pos rfl]
  have k1:∀c,c<X.nx->c≠ob->aN jv≠some c->X1.h.get c=X.h.get c:=fun c hc h1 h2=>by
   rw[hX1];simp only;rw[dx,if_neg h1,kA c au h2];exact u1.2 c hc
  have hj1:fC 1 Y0 X1 jv' ((yG first B.de).take (i+1)).length (aQ ((yG first B.de).take (i+1))):=fC.move (S:=V) (by exact gA) au fun c hc=>by
   rw[bA] at hc;cases hc;rw[hX1];simp only;rw[dx,if_neg au]
  have qno:∀ {c},aN qv=some c->c<X.nx/\c≠ob/\aN jv≠some c:=fun hc=>⟨(hq.blk hc).2.1,by have:=(hq.blk hc).1;omega,fun e=>(hd _ e).1 hc⟩;have hq1:fC 1 Y0 X1 qv i cs:=hq.move au fun c hc=>k1 c (qno hc).1 (qno hc).2.1 (qno hc).2.2;have hRw1:qJ Y0 X1 qv cs (act.take i):=hRw.moveR au fun r hr c hc h0=>k1 c (hRw.low hr hc) au fun e=>(hd c e).2 r hr hc;have sS1:jq S X1:=⟨ax sSX.1,fun c hc=>(k1 c (ax sSX.1) (ax sSY.1) (fun e=>by have:=(hj.blk e).1;have:=sSY.1;omega)).trans (sSX.2 c hc)⟩;have gl1:=(k1 S.nx (ax sSY.1) (ax sSY.1) (fun e=>by have:=(hj.blk e).1;have:=sSY.1;omega)).trans glX;have hal:i<act.length:=by rw[hR.1];omega
  have⟨rb,rq,ra,r1,r2,r3,r4⟩:=xI (aE.jo (E:=nM) fR ha sS1) hal;have hrlen:=(hR.2 i au).1;have hacl:(act.getD i []).length<=100000:=by
   rw[hrlen];have⟨f1,_,_⟩:=Gg.fst i au;have:=Gg.nxt _ f1;unfold fP;rw[xH Gg au];omega
  refine aQG (S0:=Y0) (ob:=ob) (lb:=S.nx) (br:=rb) (qr:=rq) (i:=i) (n:=i) (qv:=qv) (fv:=fv) (av:=av) (a:=ra) (cs:=cs) (l:=act.getD i []) H rfl (ah p10) (ah p2) (af) g1 gl1 au (by have:=sS1.1;have:=sSY.1;omega) r1 (r4 X1 (dy _)) r3 r2 hacl (aE.self ha) hq1 au au  ?_;intro F' Z rr qv' hk nZ gZ kZ hrr hgZ hbr hbp;have h2':=hk 2 au;have h4':=hk 4 au;have h5':=hk 5 au;have h10':=hk 10 au;have h29':=hk 29 au;have h30':=hk 30 au;have h31':=hk 31 au;simp only[↓sU,sD,rE,↓reduceIte,rA,p2,p4,p5,p10,p29,p30,p31] at h2' h4' h5' h10' h29' h30' h31';have hRZ:=hRw1.push (Z:=Z) (l:=act.getD i []) au nZ (fun c h1 h2 h3=>kZ c h1 au h3) hrr hbr hbp;have hta:act.take (i+1)=act.take i++ [act.getD i []]:=aLR hal;rw[<-hta] at hRZ;have jbk:∀ {c},aN jv'=some c->c=U.nx:=fun hc=>by rw[bA] at hc;exact(Bk hc).symm
  try refine ae ?_
  refine aF (dz h31' w1 ?_);refine⟨k - 1,au,rfl,au,fun c hc hne=>?_,i+1,jv',qv',_,au,gZ,?_,hgZ,hRZ,fun c hc=>⟨fun e=>?_,fun r' hr' e=>?_⟩,ah h2',ah h4',ah h5',ah h10',ah h29',ah h30',af⟩
  ·exact(kZ c au hne (fun e=>by have:=(hq.blk e).1;omega)).trans ((k1 c au hne (fun e=>by have:=(hj.blk e).1;omega)).trans (kX c hc hne))
  ·exact hj1.move nZ fun c hc=>kZ c (by have:=jbk hc;omega) (by have:=jbk hc;omega) fun e=>by have:=jbk hc;have:=(qno e).1;omega
  ·have:=jbk hc;have:=hbp c e;omega
  ·have:=jbk hc;rcases Bi.1 hr' with h | h
   ·have:=hRw.low h e;omega
   ·rw[Bz.1 h] at e;have:=(hbr c e).1;omega
 rintro o ⟨F3,inr⟩ W ⟨rfl,q0,nW,kW,i,jv,qv,cs,hik,gW,hj,hq,hR',hd,r2,r4',r5,r10, -, -, -⟩;simp only at q0 r2 r4' r5 r10;subst q0;obtain rfl:i=first.length:=by omega
 have cW:∀c,c<Y.nx->W.h.get c=Y.h.get c:=fun c hc=>(kW c au au).trans (sY0.2 c hc);have lall:=mA (n:=6) gW rfl;have g4W:=(cW _ l4).trans g4Y;refine bS (gj r4' r10 lall ?_);refine dB (b:=r4) (cs':=[.int .i64 g.ch,na,ia,jv,qv,.sl X5.nx 0 g.ce.length g.ce.length false]) (ar r4') (by refine am ?_;exact bB _) g4W rfl rfl ?_;intro V v1 n1' d4;try refine am ?_
 have ld4:=mA (n:=6) d4 rfl;refine aS (gj r4' @eI ld4 ?_);refine⟨⟨by have:=sSY.1;have:=v1.1;omega,fun c hc=>(v1.2 c (ax sSY.1) au).trans ((cW c (ax sSY.1)).trans (sSY.2 c hc))⟩,fun V2 hn2 hk2=>?_⟩;have hV:∀c,c≠r4->S.nx<=c->c<W.nx->V2.h.get c=W.h.get c:=fun c hc h0 hl=>(hk2 c h0 (Ae hl v1.1)).trans (v1.2 c hl hc);have nV:W.nx<=V2.nx:=Aq v1.1 hn2;have l00:=s03.1;have hbV:=hbY.nodesM (X':=V2) au fun c h0 hc=>(hV c au au au).trans (cW c hc);have hnV:=hbV.ce;have hiV:=hbV.cg;rw[a2,<-hna] at hnV;rw[a3,<-hia] at hiV;rw[Bh (by rw[hnumL];exact Af _)] at hj;rw[Bh (by rw[hR.1,hFl];exact Af _)] at hR';have lYS:=sSY.1;have hqV:fC 1 Y0 V2 qv first.length cs:=hq.move nV fun c hc=>hV c (by have:=(hq.blk hc).1;omega) (by have:=(hq.blk hc).1;omega) (hq.blk hc).2.1;have hjV:fC 1 Y0 V2 jv (yG first B.de).length (aQ (yG first B.de)):=hj.move nV fun c hc=>hV c (by have:=(hj.blk hc).1;omega) (by have:=(hj.blk hc).1;omega) (hj.blk hc).2.1;have hRV:qJ Y0 V2 qv cs act:=hR'.moveR nV fun r hr c hc h0=>hV c au au  (hR'.low hr hc);have gqV:=(hV X5.nx au au au).trans ((cW _ lq).trans gqY);refine⟨na,ia,jv,qv,_,rfl,?_,?_,by rw[hB];exact hjV.is,hRV.is hqV (by rw[hR.1,hFl]),?_⟩
 ·rw[hB];exact hnV
 ·rw[hB];exact hiV
 ·rw[hB];refine .inr ⟨X5.nx,0,g.ce.length,false,aQ (wZ (List.replicate g.ce.length 0) 0 B.olds),by rw[hT5],by rw[hT5];exact Af _,au,by unfold cG;rw[gqV];rfl,fun i x hi=>?_⟩;rw[An];unfold aQ;rw[Ba,hi];rfl
def aNd:AV:=.agg [jr 0,.cr,.cr,.cr,.cr,.cr]
def aUe(g:aP)(L:bo)(Z:St)(r:AV):Prop:=(mI g L≠0/\r= .tup [aNd,jr (mI g L)])\/(mI g L=0/\∃first,tZ g.cg.length (mJ g.cg.length (L.map (dh g))) first/\((Dup g L first/\r= .tup [aNd,jr 13])\/(¬Dup g L first/\∃act,aJa g L first act/\∃v,r= .tup [v,jr 0]/\aQM g first act Z v)))
def aQr(h:cR g=0):∀i,i<g.ce.length->(ct g i).jm.length<=100000:=fun i hi=>by
 have G:=sH h;have a:gS g.ch g.cg.length (ct g i)=0:=by
  unfold cR at h;split at h
  .cases h
  split at h
  .rename_i d;exact absurd h d
  rename_i e;exact jF (Ed.1 e) _ (Bb (cU hi))
 rcases G.knd i hi with b|b|b
 .have:=G.good.wts i hi b;have:=G.good.nxt i hi;omega
 .unfold gS at a;rw[if_neg au,if_pos b] at a;split at a
  .cases a
  .rename_i c;unfold uV at c;omega
 .unfold gS at a;rw[if_neg au,if_neg au,if_pos b] at a;split at a
  .cases a
  .rename_i c;unfold oT at c;omega
def aRv(a:tZ g.cg.length (mJ g.cg.length (L.map (dh g))) first):∀s,s<g.cg.length->∃r:Nat,first.getD s 0=(r:Int)/\r<g.cg.length:=fun s b=>by
 have c:=a.le s b;exact⟨(first.getD s 0).toNat,au,au⟩
def aKc{mv:AV}(H:Has fns)(J:aE 6 bT S nv g.ce)(hi:aE 2 cC S iv g.cg)(w:g.ce.length<=100000)(x:aE 1 nM S mv L):
  iK fns (.fn 7 [] []) [.agg [jr g.ch,nv,iv],mv] S fun r S'=>jq S S'/\aUe g L S' r:=by
 have Z:∀ (F:Fr) (h:Ev.T AB),iC (.build [jr 0,.cr,.cr,.cr,.cr,.cr] []) F h=some aNd:=fun _ _=>rfl;refine cJ H.f7 (by simp) ?_;refine am ?_;apply bS;refine dC (by refine am ?_;exact bB _) ?_;intro S1 s1 n1 g1;refine am ?_;apply cB;intro S2 s2 n2 g2;refine am ?_
 have f:=s1.trans s2;have K:S2.h.get S.nx=_:=(s2.2 _ au).trans g1;refine bS (fx (gE K) ?_);refine bJ (am ?_);refine aW (aI8 H (aE.jo (E:=bT) bF J f) (aE.jo (E:=cC) bQ hi f) w (aE.jo (E:=nM) fR x f)) ?_;rintro _ M ⟨s3,fv,av,e,rfl,N⟩;refine gh @ex0 @ex1 ?_;apply cB;intro S4 s4 n4 g4
 refine dB (b:=M.nx) (cs':=[fv,av]) (aq) (by refine am ?_;exact bB _) g4 rfl rfl ?_;intro S5 s5 n5 g5;refine am ?_
 have d:jq M S5:=s5.jo s4 (Af _);have a:=f.trans (s3.trans d);have c5:S5.h.get S.nx=_:=((s3.trans d).2 _ au).trans K;have O:S5.h.get S1.nx=_:=((s3.trans d).2 _ au).trans g2;refine fZ (am ?_);have y:∀ (V:St),cA S1.nx S5 V->jq S V:=fun V Q=>⟨by have:=a.1;have:=Q.1;omega,fun c o=>(Q.2 c (ax a.1) au).trans (a.2 c o)⟩;by_cases z:e=0;rotate_left
 .refine aM (ja (Ac (show e≠0 from z))) ?_;refine bS (fx Z ?_);refine dB (b:=S1.nx) (cs':=[jr 0,.cr,.cr,.cr,.cr,.cr]) (aq) (by refine am ?_;exact bB _) O rfl rfl ?_;intro V v1 k1 d1;refine am ?_
  have ld:=mA (n:=6) d1 rfl;refine aS (gh @eI @ld ?_);refine⟨y V v1,?_⟩;rcases N with⟨i,rfl,_⟩|⟨i,first,j,⟨rfl,t,_⟩|⟨rfl,_⟩⟩
  .exact .inl ⟨i,rfl⟩
  .exact .inr ⟨i,first,j,.inl ⟨t,rfl⟩⟩
  .exact absurd rfl z
 subst z;refine aK (by simp only[↓sU,sD,rE,↓reduceIte,rA];try first | rfl | trivial) (aG ?_);refine am ?_
 rcases N with⟨i,A,_⟩|⟨i,first,j,⟨A,_⟩|⟨_,t,act,R,hf,ha⟩⟩
 .exact absurd A.symm i
 .cases A
 have⟨p,T,q⟩:=aCc i;have s:∀m∈L,gF g m:=fun m x=>rV (uR q m x);have G:=sH p;have⟨Tr,hT,B,_⟩:=G.good.walk;refine bS (gh (gE c5) (aOp g5) ?_);refine bJ (am ?_);refine aW (aHN (first:=first) (act:=act) (Tr:=Tr) H G (aGh G.good s j t R) j.len (aRv j) (aE.jo (E:=bT) bF J a) (aE.jo (E:=cC) bQ hi a) (hf.jo d) (aE.jo (E:=nM) fR ha d) hT B (aQr p)) ?_;rintro r U ⟨u,Y⟩;have aa:S1.nx<S5.nx:=by have:=(s3.trans d).1;omega
 obtain⟨D,I,jv,qv,pv,rfl, -⟩:=Y U (Af _) fun _ _ _=>rfl
 have r6:U.h.get S1.nx=_:=(u.2 _ au).trans O;refine dB (b:=S1.nx) (cs':=[jr g.ch,D,I,jv,qv,pv]) (aq) (by refine am ?_;exact bB _) r6 rfl rfl ?_;intro V v1 k1 d1;refine am ?_
 have ld:=mA (n:=6) d1 rfl;refine aS (gh @eI @ld ?_);exact⟨⟨by have:=a.1;have:=u.1;omega,fun c o=>(v1.2 c (by have:=a.1;have:=u.1;omega) au).trans ((u.2 c (ax a.1)).trans (a.2 c o))⟩,.inr ⟨i,first,j,.inr ⟨t,act,R,_,rfl,Y V v1.1 fun c h0 o=>v1.2 c o au⟩⟩⟩
def aDF{lay:Nat->Nat->cd->aA4}:∀ {l:bt} (_:∀k∈l,∀i de,(lay k.toNat i de).de.length<=de.length+(lay k.toNat i de).ce.length) {i:Nat} {de:cd},(eG lay l i de).2.de.length<=de.length+(eG lay l i de).2.ce.length
 | [],_,_,_=>Af _
 | y::l,h,i,de=>by
  unfold eG;have b:=h y (Be ..) i de;have c:=aDF (l:=l) (fun k a=>h k (Az _ a)) (i:=i+(lay y.toNat i de).ce.length) (de:=(lay y.toNat i de).de);simp only[Ai];omega
def aFV{g:aP}{first:bt}{act:bo}:∀ {f o i:Nat} {de:cd},(fV g first act f o i de).de.length<=de.length+(fV g first act f o i de).ce.length
 | 0,_,_,_=>Af _
 | f+1,o,i,de=>by
  unfold fV;have a:=aFW (first:=first) (de:=de) (x:=ct g o);have b:=aDF (lay:=fV g first act f) (l:=gP act (ct g o)) (fun k _ i de=>aFV) (i:=i+1) (de:=(gG first de (ct g o)).1);simp only[Aw];omega
def aR9(G:cV g){s:Nat}(a:s<g.cg.length):fP g s<=1000:=by
 rw[aDv G a];exact G.nxt _ (G.fst s a).1
def aER(g:aP)(L:bo)(first:bt):Prop:=tZ g.cg.length (mJ g.cg.length (L.map (dh g))) first
def kH(g:aP)(first:bt)(act:bo):cd:=(fV g first act g.ce.length 0 0 []).de
def xB(first:bt)(i:Nat):Nat:=(first.getD i 0).toNat
def aJo(g:aP)(de:cd):List jL:=de.map fun r:Nat=>cu g (r:Int)
def vU(g:aP)(first:bt)(de:cd):Prop:=de.Nodup/\∀r∈de,r<g.cg.length/\first.getD r 0=(r:Int)
def aQs(h:vU g first de)(f:r<g.cg.length/\first.getD r 0=(r:Int)):vU g first (oJ de r).1:=by
 unfold oJ;split
 .exact h
 .rename_i i;refine⟨List.nodup_append.2 ⟨h.1,by simp,fun a j b d e=>?_⟩,fun x c=>?_⟩
  .rw[Bz] at d;subst d;subst e;exact i j
  .rcases Bi.1 c with c|c
   .exact h.2 x c
   .rw[Bz] at c;subst c;exact f
def aIw{g:aP}{first:bt}{lay:Nat->Nat->cd->aA4}:∀ {l:bt} (_:∀k∈l,∀i de,vU g first de->vU g first (lay k.toNat i de).de) {i:Nat} {de:cd},vU g first de->vU g first (eG lay l i de).2.de
 | [],_,_,_=>fun h=>h
 | y::l,h,i,de=>fun a=>by
  unfold eG;exact aIw (l:=l) (fun k b=>h k (Az _ b)) (h y (Be ..) i de a)
def aLj{g:aP}{L:bo}{first:bt}{act:bo}(G:cV g)(c:iD g act)(d:aER g L first):∀ {f o i:Nat} {de:cd},o<g.ce.length->vU g first de->vU g first (fV g first act f o i de).de
 | 0,_,_,_=>fun _ h=>h
 | f+1,o,i,de=>fun a h=>by
  unfold fV;refine aIw (fun k b i de j=>?_) ?_
  .have n:=mQ G c a;obtain⟨q,e,rfl⟩:=Ce (n.mem_iff.1 b);have:=G.kids o a q e;rw[Ad,Ab e] at this;simp only[Ea] at this;exact aLj G c d au j
  .unfold gG;split
   .rename_i b;have⟨p,r,_⟩:=G.inf o a b;exact aQs h (aDl d au)
   .exact h
def aNl{act:bo}(G:cV g)(a:iD g act)(b:aER g L first):vU g first (kH g first act):=aLj G a b G.n1 ⟨List.nodup_nil,fun _ h=>by cases h⟩
end Go.Ev.Gl
