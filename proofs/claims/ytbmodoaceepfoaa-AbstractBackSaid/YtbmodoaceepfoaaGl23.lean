import Derived.Test.YtbmodoaceepfoaaGl22
set_option linter.all false
open Nat renaming reduceEqDiff -> rE, reduceAdd -> rA
set_option maxHeartbeats 0
namespace Go.Ev.Gl
variable {fns:T eY}
variable {l first:bu}{g:aX}{L A:bt}{i j c r lb xb cb ob br qr:Nat}{S0 X X' S X1:St}{P P':Nat->Prop}{v' v fv av xa xw xp pv nv iv B D G I qv:AV}{w:Int}{F:Fr}{inr:Bool}{Q:Out->bO->St->Prop}{dt:ce}{cs:cd}
def tS(row next:bu):Nat->bu
 | 0=>next
 | a+1=>(tS row next a).set (row.getD a 0).toNat (next.getD a 0)
def jW(act:bt)(x:cJ):bu:=if x.kind=2 then tS (act.getD x.info.toNat []) x.next x.next.length else x.next
def qP(dt:ce)(r:Nat):ce×Nat:=if r∈dt then(dt,dt.idxOf r) else(dt++ [r],dt.length)
structure aDm where
 cg:List cJ
 olds:ce
 dt:ce
def fZ(lay:Nat->Nat->ce->aDm):bu->Nat->ce->bu×aDm
 | [],_,dt=>([],⟨[],[],dt⟩)
 | k::a,i,dt=>((i:Int)::(fZ lay a (i+(lay k.toNat i dt).cg.length) (lay k.toNat i dt).dt).1,⟨(lay k.toNat i dt).cg++(fZ lay a (i+(lay k.toNat i dt).cg.length) (lay k.toNat i dt).dt).2.cg,(lay k.toNat i dt).olds++(fZ lay a (i+(lay k.toNat i dt).cg.length) (lay k.toNat i dt).dt).2.olds,(fZ lay a (i+(lay k.toNat i dt).cg.length) (lay k.toNat i dt).dt).2.dt⟩)
def jC(first:bu)(dt:ce)(x:cJ):ce×Int:=if x.kind=2 then((qP dt (first.getD x.info.toNat 0).toNat).1,((qP dt (first.getD x.info.toNat 0).toNat).2:Int)) else(dt,x.info)
def jR(g:aX)(first:bu)(act:bt):Nat->Nat->Nat->ce->aDm
 | 0,_,_,dt=>⟨[],[],dt⟩
 | f+1,old,i,dt=>⟨{cu g old with info:=(jC first dt (cu g old)).2,next:=(fZ (jR g first act f) (jW act (cu g old)) (i+1) (jC first dt (cu g old)).1).1}::(fZ (jR g first act f) (jW act (cu g old)) (i+1) (jC first dt (cu g old)).1).2.cg,old::(fZ (jR g first act f) (jW act (cu g old)) (i+1) (jC first dt (cu g old)).1).2.olds,(fZ (jR g first act f) (jW act (cu g old)) (i+1) (jC first dt (cu g old)).1).2.dt⟩
def vK:bu->Nat->ce->bu
 | pl,_,[]=>pl
 | pl,i,o::os=>vK (pl.set o (i:Int)) (i+1) os
theorem aHR:∀ {os a:ce} {pl:bu} {i:Nat},vK pl i (os++a)=vK (vK pl i os) (i+os.length) a
 | [],_,_,_=>rfl
 | o::os,a,pl,i=>by
  show vK (pl.set o (i:Int)) (i+1) (os++a)=vK (vK (pl.set o (i:Int)) (i+1) os) (i+(os.length+1)) a;rw[aHR,show i+1+os.length=i+(os.length+1) by omega]
theorem aBf:∀ {os:ce} {pl:bu} {i:Nat},(vK pl i os).length=pl.length
 | [],_,_=>rfl
 | o::os,pl,i=>by
  show(vK (pl.set o (i:Int)) (i+1) os).length=_;rw[aBf,Aw]
theorem aDU{lay:Nat->Nat->ce->aDm}:∀ {l:bu} {k:Int} {i:Nat} {dt:ce},fZ lay (l++ [k]) i dt=((fZ lay l i dt).1++ [((i+(fZ lay l i dt).2.cg.length:Nat):Int)],⟨(fZ lay l i dt).2.cg++(lay k.toNat (i+(fZ lay l i dt).2.cg.length) (fZ lay l i dt).2.dt).cg,(fZ lay l i dt).2.olds++(lay k.toNat (i+(fZ lay l i dt).2.cg.length) (fZ lay l i dt).2.dt).olds,(lay k.toNat (i+(fZ lay l i dt).2.cg.length) (fZ lay l i dt).2.dt).dt⟩)
 | [],k,i,dt=>by
  show(_,_)=(_,_);simp [fZ]
 | x::l,k,i,dt=>by
  rw[Cf]
  conv=>lhs;unfold fZ
  rw[aDU]
  conv=>rhs;unfold fZ
  simp [Cy]
theorem aFH{lay:Nat->Nat->ce->aDm}:∀ {l:bu} {i:Nat} {dt:ce},(fZ lay l i dt).1.length=l.length
 | [],_,_=>rfl
 | x::l,i,dt=>by
  unfold fZ;simp only[Ax];rw[aFH]
theorem aAC{lay:Nat->Nat->ce->aDm}(h:∀o i dt,(lay o i dt).olds.length=(lay o i dt).cg.length):∀ {l:bu} {i:Nat} {dt:ce},(fZ lay l i dt).2.olds.length=(fZ lay l i dt).2.cg.length
 | [],_,_=>rfl
 | x::l,i,dt=>by
  unfold fZ;simp only[Aj];rw[h,aAC h]
theorem aF0{g:aX}{first:bu}{act:bt}:∀ {f:Nat} {o i:Nat} {dt:ce},(jR g first act f o i dt).olds.length=(jR g first act f o i dt).cg.length
 | 0,_,_,_=>rfl
 | f+1,o,i,dt=>by
  unfold jR;simp only[Ax];rw[aAC fun o i dt=>aF0]
theorem yC{row next:bu}:∀ {n:Nat},(tS row next n).length=next.length
 | 0=>rfl
 | n+1=>by
  unfold tS;rw[Aw,yC]
theorem aK4{row next:bu}(d:∀a,a<next.length->(row.getD a 0).toNat<next.length)(c:∀a b,a<next.length->b<next.length->(row.getD a 0).toNat=(row.getD b 0).toNat->a=b):∀ {n:Nat},n<=next.length->∀a,a<n->(tS row next n).getD (row.getD a 0).toNat 0=next.getD a 0
 | 0,_,a,f=>absurd f (Ca a)
 | n+1,i,a,f=>by
  unfold tS;rw[iE (by rw[yC];exact d n au)];by_cases e:a=n
  .subst e;rw[if_pos rfl]
  .rw[if_neg (fun h=>e (c a n au au  h))];exact aK4 d c au a au
theorem aHA{l m:ce}(h:l.Perm m):l.sum=m.sum:=by
 induction h with
 | nil=>rfl
 | cons x _ c=>rw[En,En,c]
 | swap x y l=>rw[En,En,En,En];omega
 | trans _ _ a b=>exact a.trans b
def aK8{row next:bu}(d:∀a,a<next.length->(row.getD a 0).toNat<next.length)(c:∀a b,a<next.length->b<next.length->(row.getD a 0).toNat=(row.getD b 0).toNat->a=b):(tS row next next.length).Perm next:=by
 have j:next=((List.range next.length).map fun a=>(row.getD a 0).toNat).map fun i=>(tS row next next.length).getD i 0:=by
  rw[Fi];refine Dc (by rw[Al,Bj]) fun a j o=>?_;rw[Ej,Ek];show _=(tS row next next.length).getD (row.getD a 0).toNat 0;rw[aK4 d c (Af _) a j,Ad,Ab j];rfl
 have o:tS row next next.length=(List.range next.length).map fun i=>(tS row next next.length).getD i 0:=by
  refine Dc (by rw[Al,Bj,yC]) fun a j o=>?_;rw[Ej,Ek,Ad,Ab j];rfl
 have r:((List.range next.length).map fun a=>(row.getD a 0).toNat).Perm (List.range next.length):=by
  refine(List.perm_ext_iff_of_nodup ?_ List.nodup_range).2 fun x=>?_
  .unfold List.Nodup;rw[List.pairwise_map];refine List.Pairwise.imp_of_mem (fun {a b} p s h e=>h (c a b (Dk.1 p) (Dk.1 s) e)) List.nodup_range
  .rw[Cq,Dk];constructor
   .rintro⟨a,p,rfl⟩;exact d a (Dk.1 p)
   .intro t;have⟨k,u,e⟩:=aJS (n:=next.length) (f:=fun a=>(row.getD a 0).toNat) d c x t;exact⟨k,Dk.2 u,e⟩
 have q:=r.map fun i=>(tS row next next.length).getD i 0;rw[<-j,<-o] at q;exact q.symm
def pX(g:aX)(act:bt):Prop:=act.length=g.ch.length/\∀s,s<g.ch.length->(act.getD s []).length=fJ g s/\(∀a,a<fJ g s->∃b:Nat,(act.getD s []).getD a 0=(b:Int)/\b<fJ g s)/\∀a b,a<fJ g s->b<fJ g s->(act.getD s []).getD a 0=(act.getD s []).getD b 0->a=b
def vI{act:bt}(G:eO g)(i:∀m∈L,gT g m)(j:vC g.ch.length (tY g.ch.length (L.map (dx g))) first)(o:¬Dup g L first)(h:sL g L first act):pX g act:=by
 refine⟨h.len,fun s c=>⟨h.row s c,fun a f=>?_,fun a b f p e=>?_⟩⟩
 .have⟨b,n,q,_⟩:=h.at_ s a c f;exact⟨b,n,by rw[(aDY G i (j.con s c)).1];exact q⟩
 .have⟨x,n,q,r⟩:=h.at_ s a c f;have⟨y,u,w,t⟩:=h.at_ s b c p;rw[n,u] at e;obtain rfl:x=y:=by omega
  rcases Dw a b with d|rfl|d
  .exact absurd (aN4 G i j c d p (.trans r (.symm t))) o
  .rfl
  .exact absurd (aN4 G i j c d f (.trans t (.symm r))) o
def aD9(G:eO g)(hi:i<g.cg.length)(a:(cu g i).kind=2):(cu g i).info.toNat<g.ch.length/\fJ g (cu g i).info.toNat=(cu g i).next.length/\((cu g i).info.toNat:Int)=(cu g i).info:=by
 have⟨c,d,b⟩:=G.inf i hi a;refine⟨au,?_,au⟩;unfold fJ;rw[show(((cu g i).info.toNat:Nat):Int)=(cu g i).info by omega,b];omega
def pY{act:bt}(G:eO g)(d:pX g act)(hi:i<g.cg.length):(jW act (cu g i)).Perm (cu g i).next:=by
 unfold jW;split
 .rename_i f;have⟨h,q,_⟩:=aD9 G hi f;have⟨_,c,j⟩:=d.2 _ h;refine aK8 (fun a n=>?_) fun a b n r e=>?_
  .have⟨b,o,p⟩:=c a au;omega
  .have⟨x,o,p⟩:=c a au;have⟨y,s,t⟩:=c b au;exact j a b au au au
 .exact List.Perm.refl _
theorem yW{T:List cS}{lay:Nat->Nat->ce->aDm}:∀ {l:bu} (_:∀k∈l,∀i dt,(lay k.toNat i dt).cg.length<=eJ T k.toNat) {i:Nat} {dt:ce},(fZ lay l i dt).2.cg.length<=((l.map Int.toNat).map (eJ T)).sum
 | [],_,_,_=>Af _
 | x::l,h,i,dt=>by
  unfold fZ;simp only[Aj,Dg,En];have b:=h x (Bk ..) i dt;have c:=yW (l:=l) (fun k a=>h k (Bf _ a)) (i:=i+(lay x.toNat i dt).cg.length) (dt:=(lay x.toNat i dt).dt);omega
theorem wY{g:aX}{first:bu}{act:bt}{T:List cS}(G:eO g)(b:pX g act)(c:gP g=some T)(d:T.length=g.cg.length):∀ {f o i:Nat} {dt:ce},o<g.cg.length->(jR g first act f o i dt).cg.length<=eJ T o
 | 0,_,_,_,_=>Ck _
 | f+1,o,i,dt,a=>by
  unfold jR;simp only[Ax];have e:=pY G b a;have n:=yW (T:=T) (lay:=jR g first act f) (l:=jW act (cu g o)) (fun k j i dt=>wY G b c d (by
   obtain⟨q,h,rfl⟩:=Cp (e.mem_iff.1 j);have:=G.kids o a q h;rw[Ad,Ab h] at this;simp only[Eb] at this;omega)) (i:=i+1) (dt:=(jC first dt (cu g o)).1)
  have p:=aIR c d a;have r:=aHA ((e.map Int.toNat).map (eJ T));omega
section
variable {α:Type}{k:Nat}{E E':cd->α->Prop}{S0 X:St}{v:AV}{l:List α}
def mL.fld(h:mL k E S0 X v l){q:Nat}{a a':α}{x:AV}(hi:l[i]? =some a)(F:q<k)(K:∀ (j:Nat) (b:α) (e:cd),l[j]? =some b->j≠i->E e b->E' e b)(L:∀e,E e a->E' (e.set q x) a'):
  ∃b p X',eQ (.slice k) v i=some (.ptr b p)/\aM v=some b/\b<X.nx/\qX (.ptr b (p+q)) 1 [x] X=some (.undef,X')/\mL k E' S0 X' v (l.set i a')/\X'.nx=X.nx/\∀c,c≠b->X'.h.get c=X.h.get c:=by
 have n:=(Ai.1 hi).1;rcases h with⟨rfl,rfl⟩|⟨b,c,cs,rfl,G,M,N,H,O,Q,I⟩
 .cases hi
 .have u:i * k+q+ [x].length<=cs.length:=by
   have:=qH n F;have:=Db k G;rw[M];simp only[Ba];omega
  refine⟨b,0+i * k,⟨X.h.set b (some (.cells (cs.take (i * k+q)++ [x]++cs.drop (i * k+q+ [x].length)) true k)),X.nx⟩,?_,rfl,H,?_,.inr ⟨b,c,cs.take (i * k+q)++ [x]++cs.drop (i * k+q+ [x].length),by rw[Aw],by rw[Aw];exact G,by simp only[Ba] at u;simp;omega,N,H,jd,Q,fun j J o=>?_⟩,rfl,fun S d=>by simp only;rw[ef,if_neg d]⟩
  .show cC (Nat.blt i l.length) _ _=_;rw[show Nat.blt i l.length=true from Ak n,aN]
  .rw[Am];exact aMK O u rfl
  .rw[Cw] at o;split at o
   .rename_i z;subst z;try rw[if_pos n] at o
    cases o;have⟨e,s,A,B⟩:=I i a hi;refine⟨e.set q x,by rw[Aw,s],fun r y f=>?_,L e B⟩;have D:r<k:=by
     have:=(Ai.1 f).1;rw[Aw,s] at this;exact this
    rw[Cw] at f;rw[uQ u];split at f
    .rename_i z;subst z;try rw[if_pos (au:q<e.length)] at f
     cases f;rw[if_neg au,if_pos (by simp),Dt];rfl
    .rename_i d;have t:=A r y f;by_cases R:r<q
     .rw[if_pos au];exact t
     .rw[if_neg au,if_neg (by simp only[Ba];omega)];exact t
   .rename_i d;have⟨e,s,A,B⟩:=I j J o;refine⟨e,s,fun r y f=>?_,K j J e o (fun e=>d e.symm) B⟩;have D:r<k:=by rw[<-s];exact(Ai.1 f).1
    have t:=A r y f;rw[uQ u];rcases Nat.lt_or_gt_of_ne d with w|w
    .have:=qH w F;have:(i+1) * k<=j * k:=Db k w;rw[Du,Fp] at this;rw[if_neg au,if_neg (by simp only[Ba];omega)];exact t
    .have:(j+1) * k<=i * k:=Db k w;rw[Du,Fp] at this;rw[if_pos au];exact t
end
structure LyS where
 na:AV
 ia:AV
 l:List (cJ×AV)
 dt:ce
def PBl(W:Nat->Prop)(m:LyS)(c:Nat):Prop:=¬W c/\aM m.na≠some c/\aM m.ia≠some c/\∀a∈m.l,aM a.2≠some c
def NdE(S0 X:St)(P:Nat->Prop)(e:cd)(a:cJ×AV):Prop:=∃xw xp,e= [je a.1.kind,je a.1.player,je a.1.info,a.2,xw,xp]/\fP 1 S0 X a.2 a.1.next.length (bD a.1.next)/\bN .i64 X xw a.1.weights/\bN .i64 X xp a.1.pay/\∀c,(aM xw=some c\/aM xp=some c)->P c
def NdE.move{e:cd}{a:cJ×AV}(h:NdE S0 X P e a)(i:X.nx<=X'.nx)(o:∀c,aM a.2=some c->X'.h.get c=X.h.get c)(d:∀c,c<X.nx->P c->X'.h.get c=X.h.get c/\P' c):NdE S0 X' P' e a:=by
 obtain⟨xw,xp,rfl,p,j,n,f⟩:=h;refine⟨xw,xp,rfl,p.move i o,eT j i fun c b=>(d c (dP j b) (f c (.inl b))).1,eT n i fun c b=>(d c (dP n b) (f c (.inr b))).1,fun c b=>?_⟩;rcases b with b|b
 .exact(d c (dP j b) (f c (.inl b))).2
 .exact(d c (dP n b) (f c (.inr b))).2
structure tT(W P:Nat->Prop)(g:aX)(S0 X:St)(m:LyS):Prop where
 nod:mL 6 (NdE S0 X fun c=>PBl W m c/\P c) S0 X m.na m.l
 inf:mL 2 aIv S0 X m.ia (m.dt.map fun r:Nat=>cv g (r:Int))
 rn:∀a∈m.l,∀c,aM a.2=some c->(S0.nx<=c/\c<X.nx)/\¬W c/\aM m.na≠some c/\aM m.ia≠some c
 dj:∀ (i j:Nat) (a b:cJ×AV),i≠j->m.l[i]? =some a->m.l[j]? =some b->∀c,aM a.2=some c->aM b.2≠some c
 d1:∀c,aM m.na=some c->¬W c/\aM m.ia≠some c
 d2:∀c,aM m.ia=some c->¬W c
 wg:∀c,W c->S0.nx<=c/\c<X.nx
def lS(W:Nat->Prop)(m:LyS)(X:St)(m':LyS)(X':St):Prop:=X.nx<=X'.nx/\∀c,c<X.nx->PBl W m c->X'.h.get c=X.h.get c/\PBl W m' c
section
variable {W P:Nat->Prop}{g:aX}{S0 X X':St}{m m' m'':LyS}
def lS.refl:lS W m X m X:=⟨Af _,fun _ _ h=>⟨rfl,h⟩⟩
def lS.trans{X'':St}(h:lS W m X m' X')(h':lS W m' X' m'' X''):lS W m X m'' X'':=
 ⟨Av h.1 h'.1,fun c d e=>by
  have⟨a,b⟩:=h.2 c d e;have⟨a',f⟩:=h'.2 c (Ae d h.1) b;exact⟨a'.trans a,f⟩⟩
def lS.off(a:X.nx<=X'.nx)(b:∀c,c<X.nx->PBl W m c->X'.h.get c=X.h.get c):lS W m X m X':=⟨a,fun c d h=>⟨b c d h,h⟩⟩
def lS.same(h:Same X X'):lS W m X m X':=.off h.1 fun c a _=>h.2 c a
def tT.row_of(h:tT W P g S0 X m){a:cJ×AV}(b:m.l[j]? =some a)(d:aM a.2=some c):(S0.nx<=c/\c<X.nx)/\¬W c/\aM m.na≠some c/\aM m.ia≠some c:=h.rn a (Ar b) c d
def tT.low(h:tT W P g S0 X m)(d:c<S0.nx):PBl W m c:=
 ⟨fun e=>by have:=(h.wg c e).1;omega,fun e=>by have:=(h.nod.blk e).1;omega,fun e=>by have:=(h.inf.blk e).1;omega,fun a b e=>by have:=(h.rn a b c e).1;omega⟩
def tT.fresh(h:tT W P g S0 X m)(d:X.nx<=c):PBl W m c:=
 ⟨fun e=>by have:=(h.wg c e).2;omega,fun e=>by have:=(h.nod.blk e).2;omega,fun e=>by have:=(h.inf.blk e).2;omega,fun a b e=>by have:=(h.rn a b c e).1;omega⟩
def tT.same0(h:tT W P g S0 X m)(K:lS W m X m' X')(a:Same S0 X):Same S0 X':=
 ⟨Av a.1 K.1,fun c b=>((K.2 c (Ae b a.1) (h.low b)).1).trans (a.2 c b)⟩
def tT.local(h:tT W P g S0 X m)(j:X.nx<=X'.nx)(n:∀c,c<X.nx->¬W c->(PBl W m c->P c)->X'.h.get c=X.h.get c):tT W P g S0 X' m where
 nod:=by
  rcases h.nod with s|⟨b,c,cs,p,t,u,w,q,x,y,z⟩
  .exact .inl s
  .have r:aM m.na=some b:=by rw[p];rfl
   refine .inr ⟨b,c,cs,p,t,u,w,Ae q j,(n b q (h.d1 b r).1 fun f=>absurd r f.2.1).trans x,y,fun i a hi=>?_⟩;have⟨e,A,B,D⟩:=z i a hi;exact⟨e,A,B,D.move j (fun c d=>n c (h.row_of hi d).1.2 (h.row_of hi d).2.1 fun f=>absurd d (f.2.2.2 a (Ar hi))) fun c d f=>⟨n c d f.1.1 fun _=>f.2,f⟩⟩
 inf:=h.inf.move j (fun c d=>n c (h.inf.blk d).2 (h.d2 c d) fun f=>absurd d f.2.2.1) fun _ _ F=>F
 rn:=fun a o c d=>⟨⟨(h.rn a o c d).1.1,Ae (h.rn a o c d).1.2 j⟩,(h.rn a o c d).2⟩
 dj:=h.dj
 d1:=h.d1
 d2:=h.d2
 wg:=fun c d=>⟨(h.wg c d).1,Ae (h.wg c d).2 j⟩
def tT.same(h:tT W P g S0 X m)(a:Same X X'):tT W P g S0 X' m:=h.local a.1 fun c b _ _=>a.2 c b
def tT.mono(h:tT W P g S0 X m)(d:∀c,c<X.nx->P c->P' c):tT W P' g S0 X m where
 nod:=h.nod.move (Af _) (fun _ _=>rfl) fun e a f=>f.move (Af _) (fun _ _=>rfl) fun c i b=>⟨rfl,b.1,d c i b.2⟩
 inf:=h.inf
 rn:=h.rn
 dj:=h.dj
 d1:=h.d1
 d2:=h.d2
 wg:=h.wg
def tT.pushN(h:tT W P g S0 X m){a:cJ}(q:X.nx<=X'.nx)(s:∀c,c<X.nx->aM m.na≠some c->X'.h.get c=X.h.get c)(t:∀c,aM v'=some c->aM m.na=some c\/X.nx<=c)(w:mL 6 (NdE S0 X fun c=>PBl W m c/\P c) S0 X' v' (m.l++ [(a,.ct)])):tT W P g S0 X' {m with na:=v',l:=m.l++ [(a,.ct)]}/\lS W m X {m with na:=v',l:=m.l++ [(a,.ct)]} X':=by
 have mem:∀ {y c},y∈m.l++ [((a,.ct):cJ×AV)]->aM y.2=some c->y∈m.l:=fun n d=>by
  rcases Bi.1 n with f|f
  .exact f
  .rw[Cc.1 f] at d;cases d
 have K:lS W m X {m with na:=v',l:=m.l++ [(a,.ct)]} X':=⟨q,fun c d o=>⟨s c d o.2.1,o.1,fun e=>(t c e).elim (fun f=>o.2.1 f) fun f=>absurd d (Nat.not_lt.2 f),o.2.2.1,fun y n e=>o.2.2.2 y (mem n e) e⟩⟩;have nv:∀ {c},aM m.na≠some c->c<X.nx->aM v'≠some c:=fun f z e=>(t _ e).elim f fun A=>absurd z (Nat.not_lt.2 A);refine⟨⟨?_,h.inf.move q (fun c d=>s c (h.inf.blk d).2 fun e=>(h.d1 c e).2 d) fun _ _ B=>B,fun y n c d=>?_,fun i j x y u r n c d p=>?_,fun c d=>?_,h.d2,fun c d=>⟨(h.wg c d).1,Ae (h.wg c d).2 q⟩⟩,K⟩
 .rcases w with D|⟨b,c,cs,F,G,H,I,J,L,M,N⟩
  .exact .inl D
  .refine .inr ⟨b,c,cs,F,G,H,I,J,L,M,fun i y hi=>?_⟩;have⟨e,O,Q,R⟩:=N i y hi;refine⟨e,O,Q,R.move q (fun c d=>?_) fun c d o=>⟨(K.2 c d o.1).1,(K.2 c d o.1).2,o.2⟩⟩;have:=h.rn y (mem (Ar hi) d) c d;exact s c this.1.2 this.2.2.1
 .have:=h.rn y (mem n d) c d;exact⟨⟨this.1.1,Ae this.1.2 q⟩,this.2.1,nv this.2.2.1 this.1.2,this.2.2.2⟩
 .rw[Ec] at r n;split at r
  .split at n
   .exact h.dj i j x y u r n c d p
   .have:=Ar n;rw[Cc] at this;rw[this] at p;cases p
  .have:=Ar r;rw[Cc] at this;rw[this] at d;cases d
 .rcases t c d with f|f
  .exact h.d1 c f
  .exact⟨fun e=>by have:=(h.wg c e).2;omega,fun e=>by have:=(h.inf.blk e).2;omega⟩
def tT.pushI(h:tT W P g S0 X m)(j:X.nx<=X'.nx)(n:∀c,c<X.nx->aM m.ia≠some c->X'.h.get c=X.h.get c)(o:∀c,aM v'=some c->aM m.ia=some c\/X.nx<=c)(t:mL 2 aIv S0 X' v' ((m.dt.map fun r:Nat=>cv g (r:Int))++ [cv g (r:Int)])):tT W P g S0 X' {m with ia:=v',dt:=m.dt++ [r]}/\lS W m X {m with ia:=v',dt:=m.dt++ [r]} X':=by
 have K:lS W m X {m with ia:=v',dt:=m.dt++ [r]} X':=⟨j,fun c a d=>⟨n c a d.2.2.1,d.1,d.2.1,fun e=>(o c e).elim (fun f=>d.2.2.1 f) fun f=>absurd a (Nat.not_lt.2 f),d.2.2.2⟩⟩;have nv:∀ {c},aM m.ia≠some c->c<X.nx->aM v'≠some c:=fun f u e=>(o _ e).elim f fun w=>absurd u (Nat.not_lt.2 w);refine⟨⟨?_,by simp only[Co,Dg,List.map_nil];exact t,fun y x c a=>?_,h.dj,fun c a=>⟨(h.d1 c a).1,nv (h.d1 c a).2 (h.nod.blk a).2⟩,fun c a=>?_,fun c a=>⟨(h.wg c a).1,Ae (h.wg c a).2 j⟩⟩,K⟩
 .rcases h.nod with z|⟨b,c,cs,q,A,B,D,s,F,G,H⟩
  .exact .inl z
  .have p:aM m.na=some b:=by rw[q];rfl
   refine .inr ⟨b,c,cs,q,A,B,D,Ae s j,(n b s (h.d1 b p).2).trans F,G,fun i y hi=>?_⟩;have⟨e,I,J,L⟩:=H i y hi;refine⟨e,I,J,L.move j (fun c a=>?_) fun c a d=>⟨(K.2 c a d.1).1,(K.2 c a d.1).2,d.2⟩⟩;have:=h.row_of hi a;exact n c this.1.2 this.2.2.2
 .have:=h.rn y x c a;exact⟨⟨this.1.1,Ae this.1.2 j⟩,this.2.1,this.2.2.1,nv this.2.2.2 this.1.2⟩
 .rcases o c a with f|f
  .exact h.d2 c f
  .exact fun e=>by have:=(h.wg c e).2;omega
def tT.row_at(h:tT W P g S0 X m){a:cJ}(hi:m.l[i]? =some (a,v)):∃b p,eQ (.slice 6) m.na i=some (.ptr b p)/\aM m.na=some b/\b<X.nx/\eK (.ptr b (p+3)) false 1 X.h=some v/\fP 1 S0 X v a.next.length (bD a.next):=by
 rcases h.nod with⟨_,j⟩|⟨b,c,cs,f,t,u,w,n,o,x,q⟩
 .rw[j] at hi;cases hi
 .obtain⟨e,y,r,xw,xp,rfl,s,_⟩:=q i _ hi;have d:=(Ai.1 hi).1;refine⟨b,0+i * 6,?_,by rw[f];rfl,n,cH o (by rw[Am];exact r 3 v rfl),s⟩;rw[f];show cC (Nat.blt i m.l.length) _ _=_;rw[show Nat.blt i m.l.length=true from Ak d,aN]
def tT.row(h:tT W P g S0 X m){a:cJ}(hi:m.l[i]? =some (a,v))(K:X.nx<=X'.nx)(s:∀c,c<X.nx->aM v≠some c->X'.h.get c=X.h.get c)(hg:fP 1 S0 X' v' (a.next++ [w]).length (bD (a.next++ [w])))(D:∀c,aM v'=some c->X.nx<=c):
  ∃b p X'',eQ (.slice 6) m.na i=some (.ptr b p)/\aM m.na=some b/\b<X.nx/\qX (.ptr b (p+3)) 1 [v'] X'=some (.undef,X'')/\X''.nx=X'.nx/\(∀c,c≠b->X''.h.get c=X'.h.get c)/\tT W P g S0 X'' {m with l:=m.l.set i ({a with next:=a.next++ [w]},v')}/\lS W m X {m with l:=m.l.set i ({a with next:=a.next++ [w]},v')} X'':=by
 have F:=(Ai.1 hi).1;have lv:∀ {c},aM v=some c->_:=fun d=>h.row_of hi d;have Q:∀ {c},aM m.na=some c->aM v≠some c:=fun d e=>(lv e).2.2.1 d;have R:mL 6 (fun e y=>NdE S0 X (fun c=>PBl W m c/\P c) e y) S0 X' m.na m.l:=by
  rcases h.nod with S|⟨b,c,cs,L,T,U,V,M,Y,Z,g7⟩
  .exact .inl S
  .exact .inr ⟨b,c,cs,L,T,U,V,Ae M K,(s b M (Q (by rw[L];rfl))).trans Y,Z,g7⟩
 have mem:∀ {y},y∈m.l.set i ({a with next:=a.next++ [w]},v')->(∃j,j≠i/\m.l[j]? =some y)\/y=({a with next:=a.next++ [w]},v'):=fun {y} n=>by
  have⟨j,o,e⟩:=Cp n;rw[List.getElem_set] at e;split at e
  .exact .inr e.symm
  .rename_i t;rw[Aw] at o;exact .inl ⟨j,fun e=>t e.symm,by rw[<-e];exact Ab o⟩
 have pb:∀c,c<X.nx->PBl W m c->PBl W {m with l:=m.l.set i ({a with next:=a.next++ [w]},v')} c:=fun c d f=>⟨f.1,f.2.1,f.2.2.1,fun y n e=>by
  rcases mem n with⟨j,_,o⟩|rfl
  .exact f.2.2.2 y (Ar o) e
  .have:=D c e;omega⟩
 obtain⟨bb,u,aa⟩:∃b,aM m.na=some b/\b<X.nx:=by
  have⟨b,_,_,N,A,_⟩:=h.row_at hi;exact⟨b,N,A⟩
 have⟨b,p,X'',k1,k2,k3,k4,k5,k6,G⟩:=mL.fld (E':=NdE S0 ⟨X'.h,X'.nx⟩ fun c=>PBl W {m with l:=m.l.set i ({a with next:=a.next++ [w]},v')} c/\P c) (a':=({a with next:=a.next++ [w]},v')) (x:=v') (q:=3) R hi az (fun j y e o t H=>H.move K (fun c d=>s c (h.row_of o d).1.2 (h.dj j i y _ t o hi c d)) fun c d f=>⟨s c d (fun e=>f.1.2.2.2 _ (Ar hi) e),pb c d f.1,f.2⟩) fun e H=>by
   obtain⟨xw,xp,rfl,N,A,h3,O⟩:=H;have r:=Ar hi;refine⟨xw,xp,rfl,hg,eT A K fun c d=>s c (dP A d) fun e=>(O c (.inl d)).1.2.2.2 _ r e,eT h3 K fun c d=>s c (dP h3 d) fun e=>(O c (.inr d)).1.2.2.2 _ r e,fun c d=>?_⟩;have ab:c<X.nx:=by
    rcases d with d|d
    .exact dP A d
    .exact dP h3 d
   exact⟨pb c ab (O c d).1,(O c d).2⟩
 rw[u] at k2;cases k2;have nb:∀c,aM m.na=some c->c=bb:=fun c d=>by rw[u] at d;cases d;rfl
 refine⟨bb,p,X'',k1,u,aa,k4,k6,G,⟨?_,?_,fun y n c d=>?_,fun i' j x y I B n c d z=>?_,h.d1,h.d2,fun c d=>⟨(h.wg c d).1,by have:=(h.wg c d).2;omega⟩⟩,⟨au,fun c d f=>⟨?_,pb c d f⟩⟩⟩
 .rcases k5 with S|⟨b',c,cs,L,T,U,V,M,Y,Z,g7⟩
  .exact .inl S
  .refine .inr ⟨b',c,cs,L,T,U,V,M,Y,Z,fun j y o=>?_⟩;have⟨e,e1,e2,e3⟩:=g7 j y o;refine⟨e,e1,e2,e3.move (by show X'.nx<=X''.nx;omega) (fun c d=>G c fun e=>?_) fun c _ f=>⟨G c fun e=>f.1.2.1 (by rw[e];exact u),f⟩⟩;rcases mem (Ar o) with⟨j',_,ac⟩|rfl
   .exact(h.row_of ac d).2.2.1 (by rw[e];exact u)
   .have:=D c d;omega
 .exact h.inf.move au (fun c d=>(G c fun e=>(h.d1 bb u).2 (by rw[<-e];exact d)).trans (s c (h.inf.blk d).2 fun e=>(lv e).2.2.2 d)) fun _ _ H=>H
 .rcases mem n with⟨j,_,o⟩|rfl
  .have:=h.row_of o d;exact⟨⟨this.1.1,au⟩,this.2⟩
  .have N:=hg.blk d;have A:=D c d;exact⟨⟨N.1,au⟩,fun e=>by have:=(h.wg c e).2;omega,fun e=>by have:=(h.nod.blk e).2;omega,fun e=>by have:=(h.inf.blk e).2;omega⟩
 .rw[Cw] at B n;have J:∀ {q:Nat} {y:cJ×AV},m.l[q]? =some y->aM y.2=some c->c<X.nx:=fun hq d=>(h.row_of hq d).1.2;split at B
  .split at n
   .rename_i e1 e2;exact I (e1.symm.trans e2)
   .try rw[if_pos F] at B
    cases B;have:=D c d;have:=J n z;omega
  .split at n
   .try rw[if_pos F] at n
    cases n;have:=D c z;have:=J B d;omega
   .exact h.dj i' j x y I B n c d z
 .rw[G c (fun e=>f.2.1 (by rw[e];exact u))];exact s c d fun e=>f.2.2.2 _ (Ar hi) e
def tT.cg(h:tT W P g S0 X m):aG 6 cF X m.na (m.l.map (·.1)):=by
 rcases h.nod with⟨f,d⟩|⟨b,c,cs,n,o,B,D,p,q,F,r⟩
 .exact .inl ⟨by rw[d];rfl,.inl f⟩
 .refine .inr ⟨b,0,c,true,cs,by rw[Al];exact n,by rw[Al];exact o,p,by unfold cI;rw[q];rfl,fun i a hi=>?_⟩;rw[Az,Bb] at hi;obtain⟨y,s,rfl⟩:=hi;obtain⟨e,t,u,xw,xp,rfl,d,w,z,_⟩:=r i y s;exact⟨_,t,fun j x A=>by rw[Am];exact u j x A,y.2,xw,xp,rfl,d.is,w,z⟩
def tT.ch(h:tT W P g S0 X m):aG 2 cE X m.ia (m.dt.map fun r:Nat=>cv g (r:Int)):=h.inf.is fun _ _ a=>a
end
def qB(H:Has fns)(h:bN .i64 S v l)(s:l.length<=100000):iI fns (.fn 54 [] []) [v] S fun r X=>Same S X/\bN .i64 X r l/\(∀c,aM r=some c->S.nx<=c)/\(l≠ []->fP 1 S X r l.length (bD l)):=by
 refine cK H.f54 (by simp) ?_;refine ae ?_;refine cA (ae ?_);by_cases f:v= .ct
 .have j:l= []:=by
   rcases h with⟨h,_⟩|⟨b,off,cap,o,cs,rfl,_⟩
   .exact h
   .cases f
  subst f;subst j;have n:nH .eql (.p .slice) .ct .ct=some (.bool true):=rfl;refine gH (de n ?_);refine aS (af) ?_;refine cA (ae ?_);refine aT (ae ?_);exact⟨eu S,.inl ⟨rfl,.inl rfl⟩,fun c d=>(by cases d),fun h=>absurd rfl h⟩
 .have n:nH .eql (.p .slice) v .ct=some (.bool false):=by
   rcases h with⟨_,rfl|rfl⟩|⟨b,off,cap,o,cs,rfl,_⟩
   .exact absurd rfl f
   .rfl
   .rfl
  refine gH (de n ?_);refine aQ (af) (aK ?_);refine ae ?_
  refine cA ?_;refine fW sK ?_;intro S1 s1 w q;refine am ?_;have⟨r,x,e,s2,t⟩:=aD4 q (h.same s1) s;refine fN (fun call=>by refine fl @fK ?_;exact e) ?_;refine am ?_;refine aT (am ?_);refine⟨s1.trans s2,?_⟩;rcases t with⟨rfl,rfl,rfl⟩|⟨p,u⟩
  .refine⟨.inr ⟨S.nx,0,0,false,[],rfl,Af _,au,by unfold cI;rw[q];rfl,fun i a hi=>by simp at hi⟩,fun c d=>by cases d;exact Af _,fun h=>absurd rfl h⟩
  .exact⟨p.is,fun c d=>Av s1.1 (p.blk d).1,fun _=>p.low s1.1⟩
def aQQ(X1:St)(cb n:Nat)(o:Bool)(sz:Nat)(row next:bu)(xa:AV)(b:Fr)(k:Nat)(A:bO)(X:St):Prop:=A.inr=false/\Same X1 X/\∃a,a+k=n/\X.h.get cb=some (.cells (bD (tS row next a)) o sz)/\cb<X.nx/\(∀j,j<13->aC j A.F=aC j b)/\aC 39 A.F=xa/\aC 40 A.F=je (n:Int)/\aC 41 A.F=je (a:Int)
def aNE(h:j<13):j=0\/j=1\/j=2\/j=3\/j=4\/j=5\/j=6\/j=7\/j=8\/j=9\/j=10\/j=11\/j=12:=by omega
def aQ4{w:St}{e:Fr}{s sz:Nat}{o:Bool}{vk vp:AV}{act:bt}{next:bu}(U:Same X1 w)(V:X1.nx<=cb)(x:cb<w.nx)(Y:aG 1 nK X1 av act)(Z:bN .i64 X1 xa next)(aa:next.length<=100000)(hs:s<act.length)(ab:(act.getD s []).length=next.length)(q:∀a,a<next.length->∃b:Nat,(act.getD s []).getD a 0=(b:Int)/\b<next.length)
  (gl:X1.h.get lb=jf [fv,av]) (gx:X1.h.get xb=jf [vk,vp,je (s:Int),xa,xw,xp]) (ll:lb<X1.nx) (lx:xb<X1.nx) (gc:w.h.get cb=some (.cells (bD next) o sz)) (p4:aC 4 e= .ptr lb 0) (y:aC 11 e= .ptr xb 0) (z:aC 12 e= .sl cb 0 next.length next.length o) (A:aC 39 e=xa) (B:aC 40 e=je (next.length:Int)) (D:aC 41 e=je ((0:Nat):Int)):
  jP fns qk5 ⟨e,false⟩ w fun oo A' X=>oo= .normal/\aQQ X1 cb next.length o sz (act.getD s []) next xa e 0 A' X:=by
 refine aO (bX (aQQ X1 cb next.length o sz (act.getD s []) next xa e) ?_ next.length _ _ ⟨rfl,U,0,au,gc,x,fun _ _=>rfl,A,B,D⟩);rintro k ⟨F,inr⟩ X ⟨N,n,a,G,O,Q,p,f,h,d⟩;simp only at N p f h d;subst N;have q4:=(p 4 au).trans p4;have H:=(p 11 au).trans y;have I:=(p 12 au).trans z;refine cA (ew h d ?_);by_cases r:a<next.length;rotate_left
 .refine aD (aQ im (bT ?_));refine ae ?_;obtain rfl:k=0:=by omega
  refine⟨rfl,n,a,G,O,Q,fun j t=>?_,by refine⟨?_,?_,?_⟩<;>simp only[↓sU,sD,rE,↓reduceIte,rA,f,h,d]⟩;rw[<-p j t];rcases aNE t with rfl|rfl|rfl|rfl|rfl|rfl|rfl|rfl|rfl|rfl|rfl|rfl|rfl<;>simp only[↓sU,sD,rE,↓reduceIte,rA]
 refine aD (aS im (aK ?_));refine ae ?_
 have w1:=ed a
 have⟨b,R,u⟩:=q a r;have⟨qb,qq,i1,i2,i3⟩:=uD (Z.same n) r;have⟨rb,rq,ra,r1,r2,r3,J⟩:=aDK (aG.same (E:=nK) fM Y n) hs;have J:=J X (eu X);have⟨ub,uq,u1,u2,T⟩:=uD r2 (i:=a) au;rw[R] at T;have K:=(n.2 _ ll).trans gl;have L:=(n.2 _ lx).trans gx;have M:=fQ (b:=cb) (o:=o) u;refine aD (aO (aD (aL ?_)));refine ff f d @aJ i1 i3 ?_;refine aL ?_;simp only[↓sU,sD,rE,↓reduceIte,rA,q4,H,I,aB,aA,aAl K,dF L,aJ,r1,J,u1,T,M];refine fN (fun call=>by refine ew @dL @dD ?_;exact yI (S:=X) O (by rw[yC];exact u)) ?_;refine ae ?_;refine aL (ew d w1 ?_);refine⟨k - 1,au,rfl,⟨n.1,fun c hc=>?_⟩,a+1,au,?_,Q,fun j t=>?_,by refine⟨?_,?_,?_⟩<;>simp only[↓sU,sD,rE,↓reduceIte,rA,f,h]⟩
 .simp only;rw[ef,if_neg au];exact n.2 c hc
 .simp only;rw[ef,if_pos rfl];show _=some (AB.cells (bD ((tS (act.getD s []) next a).set ((act.getD s []).getD a 0).toNat (next.getD a 0))) o sz);rw[R];rfl
 .rw[<-p j t];rcases aNE t with rfl|rfl|rfl|rfl|rfl|rfl|rfl|rfl|rfl|rfl|rfl|rfl|rfl<;>simp only[↓sU,sD,rE,↓reduceIte,rA]
def aUL(W:St)(F:Fr)(xb:Nat)(a b:bu)(F':Fr)(Z:St)(ps:List iR):Prop:=ps= []/\Same W Z/\(∀j,j<80->aC j F'=aC j F)/\aC 94 F'= .ptr xb (0+3)/\bN .i64 Z (aC 90 F') a/\bN .i64 Z (aC 93 F') b/\∀c,(aM (aC 90 F')=some c\/aM (aC 93 F')=some c)->W.nx<=c
def aP4{q:List AO}{W:St}{k p f:AV}{y z:bu}(H:Has fns)(V:q=aRI++aRv)(e:aC 11 F= .ptr xb 0)(B:W.h.get xb=jf [k,p,f,xa,xw,xp])(lb:xb<W.nx)(h2:bN .i64 W xw y)(h3:bN .i64 W xp z)(b2:y.length<=100000)(b3:z.length<=100000)
  (hQ:∀F' Z rw D,(∀j,j<80->aC j F'=aC j F)->cD xb W Z->Z.h.get xb=jf [k,p,f,.ct,rw,D]->bN .i64 Z rw y->bN .i64 Z D z->(∀c,(aM rw=some c\/aM D=some c)->W.nx<=c)->Q .normal ⟨F',inr⟩ Z):jP fns (.drw q) ⟨F,inr⟩ W Q:=by
 have aa:q.length=12:=by rw[V];rfl
 refine oO (W:=fun _=>False) (K:=7) (R:=aUL W F xb y z) V rfl rfl (fun Y G hh nY=>?_) ?_
 .have s2:=bN.self h2;have s3:=bN.self h3;unfold aRI;refine fj e @aB @aP @aA (dT B) lb @An @s2 ?_;refine dR rfl ?_;refine ae ?_;refine aW (qB H (h2.same G) b2) ?_;rintro n Y1 ⟨s1,t,k1,_⟩;refine⟨s1,?_⟩;have u:=G.trans s1;refine fj e @aB @aP @aA (eX B) lb @An @s3 ?_;refine dR rfl ?_;refine ae ?_;refine aW (qB H (h3.same u) b3) ?_;rintro A Y2 ⟨r,w,k2,_⟩;refine⟨r,?_⟩;refine fe e @aB @aP @aA ?_;refine⟨rfl,u.trans r,fun j hj=>?_,af,by refine ae ?_;exact t.same r,by refine ae ?_;exact w,fun c a=>?_⟩
  .simp only[bH];rw[if_neg au,if_neg au,if_neg au,if_neg au,if_neg au,if_neg au,if_neg au]
  .simp only[↓sU,sD,rE,↓reduceIte,rA] at a;have a1:=G.1;have a2:=s1.1;rcases a with a|a
   .have:=k1 c a;omega
   .have:=k2 c a;omega
 rintro F' b ps hs ls ⟨rfl,I,hk,J,t,w,d⟩ s L;have o:aC 11 F'= .ptr xb 0:=(hk 11 au).trans e;have M:=(I.2 _ lb).trans B;generalize N:aC 90 F'=n at t d;generalize O:aC 93 F'=A at w d;have m1:∀i,i<7->Nat.testBit 127 i=true:=by decide
 unfold aRv;refine iQ (v:=.undef) (S1:=⟨b.h.set xb (jf [k,p,f,.ct,xw,xp]),b.nx⟩) (s _ m1) (fun call=>?_) ?_
 .rw[dL];simp only[fE,aCM,J,bL];exact xO (S:=b) M (by simp)
 simp only[iW,dH,aB,aA,aP,aU,fE,bL,fC,bH,o,rE,↓reduceIte,rA];refine iQ (v:=.undef) (S1:=⟨(b.h.set xb (jf [k,p,f,.ct,xw,xp])).set xb (jf [k,p,f,.ct,n,xp]),b.nx⟩) (az:Nat.testBit 511 7=true) (fun call=>?_) ?_
 .rw[dL];simp only[fE,bH,rE,↓reduceIte,N,bL,bN.cells t,aH];exact xO (cs:=[k,p,f,.ct,xw,xp]) (p:=4) (S:=⟨b.h.set xb (jf [k,p,f,.ct,xw,xp]),b.nx⟩) jd (by simp)
 simp only[iW,dH,aB,aA,aP,aU,fE,bL,fC,bH,o,rE,↓reduceIte,rA];refine iQ (v:=.undef) (S1:=⟨((b.h.set xb (jf [k,p,f,.ct,xw,xp])).set xb (jf [k,p,f,.ct,n,xp])).set xb (jf [k,p,f,.ct,n,A]),b.nx⟩) (az:Nat.testBit 2047 9=true) (fun call=>?_) ?_
 .rw[dL];simp only[fE,bH,rE,↓reduceIte,O,bL,bN.cells w,aH];exact xO (cs:=[k,p,f,.ct,n,xp]) (p:=5) (S:=⟨(b.h.set xb (jf [k,p,f,.ct,xw,xp])).set xb (jf [k,p,f,.ct,n,xp]),b.nx⟩) jd (by simp)
 rw[iC];refine⟨?_,?_⟩
 .simp only[Ce,Bg,Da,Cf,Bw];exact L _ _ _ m1
 .simp only[bL,fC];have x:∀ {v:AV} {l:bu},bN .i64 b v l->(∀c,aM v=some c->W.nx<=c)->bN .i64 ⟨((b.h.set xb (jf [k,p,f,.ct,xw,xp])).set xb (jf [k,p,f,.ct,n,xp])).set xb (jf [k,p,f,.ct,n,A]),b.nx⟩ v l:=fun {v l} h a=>eT h (Af _) fun c T=>by
   have:=a c T;simp only;rw[ef,if_neg au,ef,if_neg au,ef,if_neg au]
  refine hQ _ _ n A (fun j hj=>?_) ⟨I.1,fun c a U=>?_⟩ jd (x t fun c a=>d c (.inl a)) (x w fun c a=>d c (.inr a)) d
  .rw[bH,if_neg au,bH,if_neg au];exact hk j hj
  .simp only;rw[ef,if_neg U,ef,if_neg U,ef,if_neg U];exact I.2 c a
def aPv{n:List AO}{W:Nat->Prop}{gb ic:Nat}{m:LyS}(he:n=aOX++aME)(z:tT W P g S0 X m)(hS:S0.nx<=X.nx)(p3:aC 3 F= .ptr gb 0)(p6:aC 6 F= .ptr ic 0)(A:aC 15 F=je (r:Int))
  (gg:X.h.get gb=jf [pv,nv,iv]) (gi:X.h.get ic=jf [m.ia]) (lg:gb<X.nx) (b:W ic) (hi:aG 2 cE X iv g.ch) (hr:r<g.ch.length) (hv:m.dt.length<=100000)
  (hQ:∀F' Z o,(∀j,j<78->aC j F'=aC j F)->tT W P g S0 Z {m with ia:=o,dt:=m.dt++ [r]}->lS W m X {m with ia:=o,dt:=m.dt++ [r]} Z->Z.h.get ic=jf [o]->(∀c,c<X.nx->W c->c≠ic->Z.h.get c=X.h.get c)->Q .normal ⟨F',inr⟩ Z):jP fns (.drw n) ⟨F,inr⟩ X Q:=by
 have u:n.length=9:=by rw[he];rfl
 have w:ic<X.nx:=(z.wg ic b).2;have d6:=cH (p:=0) gi rfl;have d3:=cH (p:=2) gg rfl;have B:=z.inf.self;have D:=aG.self hi;obtain⟨_,qb,qq,i1,G,_,rfl,i3,_⟩:=aG.at hi az (aC7 hr);have H:cO (.agg [je (cv g (r:Int)).player,je (cv g (r:Int)).cr]) (.agg [je (cv g (r:Int)).player,je (cv g (r:Int)).cr])=true:=aCg (eM ..) (eM ..);refine oO (W:=fun _=>False) (K:=7) (R:=fun F' Z ps=>ps= [⟨6,X.nx+6,.cells [je (cv g (r:Int)).player,je (cv g (r:Int)).cr] false 0⟩]/\Z.h=X.h/\Z.nx=X.nx+9/\(∀j,j<78->aC j F'=aC j F)/\aC 78 F'=m.ia/\aC 84 F'= .sl (X.nx+6) 0 1 1 false) he rfl rfl (fun X1 x1 I J=>?_) ?_
 .have L:=fun(F:Fr) (id:Nat) (h:aC 83 F= .agg [je (cv g (r:Int)).player,je (cv g (r:Int)).cr])=>aJY (t:=44) (z0:=je 0) (z1:=je 0) (x:=.t 83) (F:=F) (id:=id) h;unfold aOX;simp only[↓sU,sD,rE,↓reduceIte,rA,p3,p6,A,aB,aP,aA,d3,d6,B,D,lg,w,G,An,aJ,i1,i3,H,L];refine⟨I,by rw[J,u],fun j hj=>?_⟩;rw[if_neg au,if_neg au,if_neg au,if_neg au,if_neg au,if_neg au,if_neg au]
 rintro F' S' ps ab ls ⟨rfl,hZ,nZ,hk,pA,pB⟩ q M;have m1:∀i,i<7->Nat.testBit 127 i=true:=by decide
 have q6:aC 6 F'= .ptr ic 0:=(hk 6 au).trans p6;obtain⟨U,y⟩:∃U:St,U=⟨S'.h.set (X.nx+6) (jf [je (cv g (r:Int)).player,je (cv g (r:Int)).cr]),S'.nx⟩:=⟨_,rfl⟩;have nU:U.nx=X.nx+9:=by rw[y];exact nZ
 have d:Same X U:=⟨au,fun c s=>by rw[y];simp only;rw[ef,if_neg au,hZ]⟩;have gU:U.h.get (X.nx+6)=jf [je (cv g (r:Int)).player,je (cv g (r:Int)).cr]:=by rw[y];simp only;rw[ef,if_pos rfl]
 have f:=z.same d;have⟨v',V,eA,aV,nV,N,bV⟩:=f.inf.push (bytes:=16) (x:=.sl (X.nx+6) 0 1 1 false) (a:=cv g (r:Int)) az au rfl (aJ3 gU rfl) rfl (show aIv [je (cv g (r:Int)).player,je (cv g (r:Int)).cr] (cv g (r:Int)) from rfl) (by rw[Al];unfold room;omega) (by rw[Al];unfold room;omega);have⟨kP,kM⟩:=f.pushI nV N bV aV;have O:V.h.get ic=jf [m.ia]:=(N ic au fun e=>f.d2 ic e b).trans ((d.2 ic w).trans gi);unfold aME;refine iQ (v:=v') (S1:=V) (q _ m1) (fun call=>?_) ?_
 .rw[cL (az:Nat.testBit 127 6=true),fK];simp only[fE,pA,pB];rw[<-y];exact eA
 rw[cL (az:Nat.testBit 127 6=true)];have T:v'.cells=some [v']:=aV.cells;refine iQ (v:=.undef) (S1:=⟨V.h.set ic (jf [v']),V.nx⟩) (az:Nat.testBit 255 7=true) (fun call=>?_) ?_
 .rw[dL];simp only[fE,bH,rE,↓reduceIte,bL,T,aH,q6];exact xO (cs:=[m.ia]) (p:=0) (S:=V) O (au:0<1)
 rw[iC];refine⟨?_,?_⟩
 .simp only[Ce,Bg,Da,Cf,Bw];exact M _ _ _ m1
 .simp only[bL,fC];have Y:∀c,c≠ic->(V.h.set ic (jf [v'])).get c=V.h.get c:=fun c s=>by rw[ef,if_neg s]
  refine hQ _ _ v' (fun j hj=>?_) (kP.local (Af _) fun c _ s _=>Y c fun e=>s (by rw[e];exact b)) (((lS.same d).trans kM).trans (.off (Af _) fun c _ hp=>Y c fun e=>hp.1 (by rw[e];exact b))) jd fun c s hw aa=>?_
  .rw[bH,if_neg au];exact hk j hj
  .simp only;rw[Y c aa];exact(N c au fun e=>f.d2 c e hw).trans (d.2 c s)
def aNL{W:Nat->Prop}{nc:Nat}{m:LyS}{a:cJ}{A:List AO}(he:A=aKt++aKG)(y:tT W P g S0 X m)(hS:S0.nx<=X.nx)(hi:m.l[i]? =some (a,v))(ha:a.next.length<=100000)(p1:aC 1 F= .ptr nc 0)(J:aC 10 F=je (i:Int))(L:aC 20 F=je w)
  (gn:X.h.get nc=jf [m.na]) (B:W nc)
  (hQ:∀F' Z v',(∀j,j<110->aC j F'=aC j F)->tT W P g S0 Z {m with l:=m.l.set i ({a with next:=a.next++ [w]},v')}->lS W m X {m with l:=m.l.set i ({a with next:=a.next++ [w]},v')} Z->(∀c,c<X.nx->W c->Z.h.get c=X.h.get c)->Q .normal ⟨F',inr⟩ Z):jP fns (.drw A) ⟨F,inr⟩ X Q:=by
 subst he;have M:nc<X.nx:=(y.wg nc B).2;have d1:=cH (p:=0) gn rfl;have N:=y.nod.self;have⟨b,p,O,k2,k3,k4,hG⟩:=y.row_at hi;have f:=fun {c} (o:aM v=some c)=>y.row_of hi o;have n1:aM v≠some nc:=fun e=>(f e).2.1 B;have nb:aM v≠some b:=fun e=>(f e).2.2.1 k2;have T:=hG.self;have Y:=fun(F:Fr) (id:Nat) (h:aC 117 F=je w)=>jS (t:=3) (z:=je 0) (x:=.t 117) (F:=F) (id:=id) (k:=.i64) (n:=w) h;refine oO (W:=fun c=>aM v=some c) (pre:=aKt) (suf:=aKG) (K:=12) (R:=fun F' V ps=>ps= []/\(∀j,j<110->aC j F'=aC j F)/\aC 121 F'= .ptr b (p+3)/\∃d,aC 119 F'=d/\X.nx<=V.nx/\(∀c,c<X.nx->aM v≠some c->V.h.get c=X.h.get c)/\fP 1 S0 V d (a.next++ [w]).length (bD (a.next++ [w]))/\∃I,aM d=some I/\X.nx<=I/\I<V.nx) rfl rfl rfl (fun X1 x1 aa ab=>?_) ?_
 .unfold aKt;simp only[↓sU,sD,rE,↓reduceIte,rA,p1,J,L,aB,aP,aA,d1,O,k4,M,k3,n1,nb,An,N,T,aJ,Y];have q:cP 508 [⟨8,X.nx+8,.cells [je w] false 0⟩] X1.h=([],X1.h.set (X.nx+8) (jf [je w])):=cL (m:=508) rfl;have aZ:X.nx+13<=X1.nx:=by rw[ab];exact Af _
  obtain⟨U,D⟩:∃U:St,U=⟨X1.h.set (X.nx+8) (jf [je w]),X1.nx⟩:=⟨_,rfl⟩;have nU:U.nx=X1.nx:=by rw[D]
  have kU:∀c,c<X.nx->U.h.get c=X.h.get c:=fun c o=>by rw[D];simp only;rw[ef,if_neg au,aa]
  have ac:Same X U:=⟨au,kU⟩;have gU:U.h.get (X.nx+8)=jf [je w]:=by rw[D];simp only;rw[ef,if_pos rfl]
  have an:=hG.step ac;have⟨d,V,eA,gA,bA,nA,rA⟩:=fP.push (bytes:=8) (S0:=⟨U.h,S0.nx⟩) (S:=U) (t:=X.nx+8) (w:=w) an ⟨by show S0.nx<=U.nx;omega,fun _ _=>rfl⟩ gU ay ay;refine oS (r:=d) (S1:=V) rfl ?_ ?_ ?_
  .refine ae ?_;rw[q,<-D];exact eA
  .rw[q,<-D];exact⟨au,fun c o s=>rA c au s⟩
  rw[q];refine fg @aJ O @aB @aP @aA @An ?_;refine⟨fun j hj=>?_,d,rfl,au,fun c o s=>(rA c au s).trans (kU c o),by exact gA,U.nx,bA,au,au⟩
  repeat rw[if_neg au]
 .rintro F' V ps a0 ls ⟨rfl,hk,G,d,H,nV,kV,gV,I,ao,aw,a1⟩ u aI;have m1:∀i,i<12->Nat.testBit 4095 i=true:=by decide
  have aV:d.cells=some [d]:=fP.cells gV;have⟨bb,pp,Z,z1,z2,z3,z4,z5,z6,z7,z8⟩:=y.row (v':=d) (w:=w) (X':=V) hi nV kV gV fun c o=>by rw[ao] at o;cases o;exact aw
  rw[O] at z1;cases z1;unfold aKG;refine iQ (v:=.undef) (S1:=Z) (u _ m1) (fun call=>?_) ?_
  .rw[dL];simp only[fE,G,H,bL,aV,aH];exact z4
  rw[iC];refine⟨?_,?_⟩
  .simp only[Ce];exact aI _ _ _ m1
  .simp only[bL,fC];refine hQ _ _ d hk z7 z8 fun c o hw=>?_;rw[z6 c fun e=>(y.d1 b k2).1 (by rw[<-e];exact hw)];exact kV c o fun e=>(f e).2.1 hw
def encI(n:Nat):AV:=je (n:Int)
def aOb(a b:Nat):eqv (.p .int) (encI a) (encI b)=some (decide (a=b)):=by
 show cC (keq .i64 .i64) (some (ieq (a:Int) (b:Int))) none=_;rw[fO,aN,jG];by_cases e:a=b
 .rw[Ac e,e,Dq]
 .rw[Aa e,beq_eq_false_iff_ne.2 au]
def aFz(dt:ce)(r:Nat):Option Nat:=if r∈dt then some (dt.idxOf r) else none
def aLv(h:r∉dt):pQ (aFz dt) r dt.length=aFz (dt++ [r]):=by
 funext q;unfold pQ aFz;rw[List.idxOf_append];by_cases e:q=r
 .subst e;rw[if_pos rfl,if_pos (by simp),if_neg h];simp
 .rw[if_neg e];by_cases a:q∈dt
  .rw[if_pos a,if_pos (by simp [a]),if_pos a]
  .rw[if_neg a,if_neg (by simp [a,e])]
structure LC where
 (nc ic qb mb pc mc fc gb lb:Nat) (pv nv iv fv av:AV)
variable {C:LC}
def LC.fn(C:LC):AV:=.fn 53 [] [.ptr C.nc 0,.ptr C.pc 0,.ptr C.gb 0,.ptr C.lb 0,.ptr C.mc 0,.ptr C.ic 0,.ptr C.fc 0]
def LC.W(C:LC)(c:Nat):Prop:=c=C.nc\/c=C.ic\/c=C.qb\/c=C.mb
structure rR(C:LC)(P:Nat->Prop)(g:aX)(S0 X:St)(m:LyS)(pl:bu):Prop where
 b:tT C.W P g S0 X m
 gn:X.h.get C.nc=some (.cells [m.na] false 0)
 gi:X.h.get C.ic=some (.cells [m.ia] false 0)
 gq:X.h.get C.qb=some (.cells (bD pl) false 0)
 gm:aEQ encI encI X.h C.mb (aFz m.dt)
 gp:X.h.get C.pc=some (.cells [.sl C.qb 0 g.cg.length g.cg.length false] false 0)
 gc:X.h.get C.mc=some (.cells [.map C.mb] false 0)
 gf:X.h.get C.fc=some (.cells [C.fn] false 0)
 gg:X.h.get C.gb=some (.cells [C.pv,C.nv,C.iv] false 0)
 gl:X.h.get C.lb=some (.cells [C.fv,C.av] false 0)
 kp:PBl C.W m C.pc/\C.pc<X.nx
 kc:PBl C.W m C.mc/\C.mc<X.nx
 kf:PBl C.W m C.fc/\C.fc<X.nx
 lg:C.gb<S0.nx
 ll:C.lb<S0.nx
 n1:C.nc≠C.ic/\C.nc≠C.qb/\C.nc≠C.mb/\C.ic≠C.qb/\C.ic≠C.mb/\C.qb≠C.mb
 pll:pl.length=g.cg.length
 s:Same S0 X
section
variable {C:LC}{P P':Nat->Prop}{g:aX}{S0 X X':St}{m m':LyS}{pl:bu}
def LC.wn:C.W C.nc:=.inl rfl
def LC.wi:C.W C.ic:=.inr (.inl rfl)
def LC.wq:C.W C.qb:=.inr (.inr (.inl rfl))
def LC.wm:C.W C.mb:=.inr (.inr (.inr rfl))
def rR.next(h:rR C P g S0 X m pl)(f:tT C.W P' g S0 X' m')(K:lS C.W m X m' X'){pl':bu}(a:pl'.length=pl.length)(i:X'.h.get C.nc=jf [m'.na])(j:X'.h.get C.ic=jf [m'.ia])(n:X'.h.get C.qb=jf (bD pl'))(o:aEQ encI encI X'.h C.mb (aFz m'.dt)):rR C P' g S0 X' m' pl':=by
 have b:=h.s.1;have c:=K.2 _ h.kp.2 h.kp.1;have d:=K.2 _ h.kc.2 h.kc.1;have e:=K.2 _ h.kf.2 h.kf.1;have p:=K.2 C.gb (Ae h.lg b) (h.b.low h.lg);have q:=K.2 C.lb (Ae h.ll b) (h.b.low h.ll);exact⟨f,i,j,n,o,c.1.trans h.gp,d.1.trans h.gc,e.1.trans h.gf,p.1.trans h.gg,q.1.trans h.gl,⟨c.2,Ae h.kp.2 K.1⟩,⟨d.2,Ae h.kc.2 K.1⟩,⟨e.2,Ae h.kf.2 K.1⟩,h.lg,h.ll,h.n1,a.trans h.pll,h.b.same0 K h.s⟩
def aEQ.move{K V:Type} [DecidableEq K]{a:K->AV}{ev:V->AV}{h h':Ev.T AB}{b:Nat}{f:K->Option V}(c:aEQ a ev h b f)(e:h'.get b=h.get b):aEQ a ev h' b f:=by
 have⟨l,d,i⟩:=c;exact⟨l,e.trans d,i⟩
def rR.same(h:rR C P g S0 X m pl)(a:Same X X'):rR C P g S0 X' m pl:=
 have w:=h.b.wg
 h.next (h.b.same a) (.same a) rfl ((a.2 _ (w _ LC.wn).2).trans h.gn) ((a.2 _ (w _ LC.wi).2).trans h.gi) ((a.2 _ (w _ LC.wq).2).trans h.gq) (h.gm.move (a.2 _ (w _ LC.wm).2))
def rR.but(h:rR C P g S0 X m pl)(j:PBl C.W m xb)(n:¬P xb)(f:xb≠C.pc/\xb≠C.mc/\xb≠C.fc/\S0.nx<=xb)(a:cD xb X X'):rR C P g S0 X' m pl:=by
 have w:=h.b.wg;have b:∀ {c},C.W c->c≠xb:=fun b e=>j.1 (by rw[<-e];exact b);have q:=h.lg;have r:=h.ll;have o:=h.s.1;have k:∀c,c<X.nx->c≠xb->X'.h.get c=X.h.get c:=fun c d p=>a.2 c d p;exact⟨h.b.local a.1 fun c d _ i=>k c d fun e=>n (by rw[<-e];exact i (by rw[e];exact j)),(k _ (w _ LC.wn).2 (b LC.wn)).trans h.gn,(k _ (w _ LC.wi).2 (b LC.wi)).trans h.gi,(k _ (w _ LC.wq).2 (b LC.wq)).trans h.gq,h.gm.move (k _ (w _ LC.wm).2 (b LC.wm)),(k _ h.kp.2 (Cg f.1)).trans h.gp,(k _ h.kc.2 (Cg f.2.1)).trans h.gc,(k _ h.kf.2 (Cg f.2.2.1)).trans h.gf,(k _ au au).trans h.gg,(k _ au au).trans h.gl,⟨h.kp.1,Ae h.kp.2 a.1⟩,⟨h.kc.1,Ae h.kc.2 a.1⟩,⟨h.kf.1,Ae h.kf.2 a.1⟩,h.lg,h.ll,h.n1,h.pll,⟨Av o a.1,fun c d=>(k c au au).trans (h.s.2 c d)⟩⟩
def rR.mono(h:rR C P g S0 X m pl)(a:∀c,c<X.nx->P c->P' c):rR C P' g S0 X m pl:=
 ⟨h.b.mono a,h.gn,h.gi,h.gq,h.gm,h.gp,h.gc,h.gf,h.gg,h.gl,h.kp,h.kc,h.kf,h.lg,h.ll,h.n1,h.pll,h.s⟩
end
def LyT(C:LC)(F:Fr):Prop:=aC 1 F= .ptr C.nc 0/\aC 2 F= .ptr C.pc 0/\aC 3 F= .ptr C.gb 0/\aC 4 F= .ptr C.lb 0/\aC 5 F= .ptr C.mc 0/\aC 6 F= .ptr C.ic 0/\aC 7 F= .ptr C.fc 0
def HdJ(C:LC)(P:Nat->Prop)(g:aX)(S0 Xe:St)(m:LyS)(pl first row next:bu)(s xb:Nat)(k p xa xw xp a x10:AV)(o:Out)(A:bO)(Z:St):Prop:=o= .normal/\A.inr=false/\∃m',rR C P g S0 Z m' pl/\m'.l=m.l/\m'.dt=(qP m.dt (first.getD s 0).toNat).1/\lS C.W m Xe m' Z/\Z.h.get xb=jf [k,p,je ((qP m.dt (first.getD s 0).toNat).2:Int),xa,xw,xp]/\PBl C.W m' xb/\xb<Z.nx/\bN .i64 Z a (tS row next next.length)/\(∀c,aM a=some c->PBl C.W m' c/\c≠xb)/\LyT C A.F/\aC 10 A.F=x10/\aC 11 A.F= .ptr xb 0/\aC 12 A.F=a
def aRb{Xe X0:St}{m:LyS}{pl:bu}{act:bt}{s:Nat}{k p x10:AV}{next:bu}(w:rR C P g S0 X1 m pl)(L:¬P xb)(a3:lS C.W m Xe m X1)(b0:Xe.nx<=xb)(M:Same X1 X0)(y:X1.nx<=cb)(a5:cb<X0.nx)(a8:S0.nx<=xb)(z:xb<X1.nx)(A:PBl C.W m xb)(B:xb≠C.pc/\xb≠C.mc/\xb≠C.fc)
  (ha:aG 1 nK S0 C.av act) (hf:bN .i64 S0 C.fv first) (hi:aG 2 cE S0 C.iv g.ch) (hn:bN .i64 S0 xa next) (ba:next.length<=100000) (hs:s<act.length) (bb:s<first.length) (bd:(act.getD s []).length=next.length) (N:∀a,a<next.length->∃b:Nat,(act.getD s []).getD a 0=(b:Int)/\b<next.length) (be:∃r:Nat,first.getD s 0=(r:Int)/\r<g.ch.length) (D:m.dt.length<=100000)
  (gx:X1.h.get xb=jf [k,p,je (s:Int),xa,xw,xp]) (gc:X0.h.get cb=some (.cells (bD next) true 1)) (hT:LyT C F) (bj:aC 10 F=x10) (G:aC 11 F= .ptr xb 0) (O:aC 12 F= .sl cb 0 next.length next.length true):
  jP fns aTN ⟨F,false⟩ X0 (HdJ C P g S0 Xe m pl first (act.getD s []) next s xb k p xa xw xp (.sl cb 0 next.length next.length true) x10):=by
 have⟨p1,p2,p3,p4,p5,p6,p7⟩:=hT;have⟨r,hr,R⟩:=be;have T:=w.s;have U:=hn.same w.s;have bk:=(M.2 _ z).trans gx;refine aD (bB (Q:=fun oo H X=>oo= .normal/\aQQ X1 cb next.length true 1 (act.getD s []) next xa F 0 H X) (aD (aL ?_)) ?_)
 .refine fg G @aB @aA (dG bk) U.len @Ah ?_;refine bB (aQ4 (X1:=X1) (xw:=xw) (xp:=xp) (vk:=k) (vp:=p) (lb:=C.lb) (xb:=xb) (s:=s) (fv:=C.fv) (av:=C.av) (act:=act) M y a5 (aG.same (E:=nK) fM ha T) U ba hs bd N w.gl gx (Ae w.ll T.1) z gc (ah p4) (ah G) (ah O) (af) (af) (ag)) ?_;rintro o H X ⟨h1,h2,h3,a,h4,h5,h6,h7,h8,h9,bm⟩;refine⟨h1,h2,h3,a,h4,h5,h6,fun j I=>(h7 j I).trans ?_,h8,h9,bm⟩;rcases aNE I with rfl|rfl|rfl|rfl|rfl|rfl|rfl|rfl|rfl|rfl|rfl|rfl|rfl<;>simp only[↓sU,sD,rE,↓reduceIte,rA]
 rintro o ⟨F2,inr⟩ X2 ⟨rfl,Y,h,a,b1,bn,u,n, -, -, -⟩;simp only at Y n;subst Y;obtain rfl:a=next.length:=by omega
 have d:=w.same h;have aa:=(h.2 _ z).trans gx;have q1:=(n 1 au).trans p1;have q2:=(n 2 au).trans p2;have q3:=(n 3 au).trans p3;have q4:=(n 4 au).trans p4;have q5:=(n 5 au).trans p5;have q6:=(n 6 au).trans p6;have q7:=(n 7 au).trans p7;have bp:=(n 10 au).trans bj;have ab:=(n 11 au).trans G;have bq:=(n 12 au).trans O;have⟨fb,fq,f1,f2,f3⟩:=uD (hf.same d.s) bb;rw[hr] at f3;have ac:(first.getD s 0).toNat=r:=by omega
 have B1:lS C.W m X1 m X2:=.same h;have bs:=cH (p:=0) d.gl rfl;have an:=cH (p:=0) d.gc rfl;have ao:PBl C.W m cb:=w.b.fresh y;have bv:cb≠xb:=by omega
 refine cA ?_;simp only[↓sU,sD,rE,↓reduceIte,rA,q4,ab,aB,aA,bs,dF aa,aJ,f1,f3];refine cA ?_;have bw:∀F:Fr,aC 66 F= .map C.mb->aC 67 F=je (r:Int)->gO (.lookup (.p .int) (je 0) true (.t 66) (.t 67)) F X2.h=some (.tup [je (match aFz m.dt r with | some i=>(i:Int) | none=>0),.bool (decide (r∈m.dt))]):=fun F a b=>by
  rw[aKp (m:=.t 66) (x:=.t 67) aOb d.gm a b];unfold aFz;by_cases e:r∈m.dt
  .rw[if_pos e,Ac e];rfl
  .rw[if_neg e,Aa e]
 refine ff q5 an bw @xP @xN ?_;refine aD (bB (Q:=fun o H Z=>o= .normal/\H.inr=false/\∃m',rR C P g S0 Z m' pl/\m'.l=m.l/\m'.dt=(qP m.dt r).1/\lS C.W m X2 m' Z/\aC 16 H.F=je ((qP m.dt r).2:Int)/\∀j,j<13->aC j H.F=aC j F2) (aD (aL ?_)) ?_)
 .by_cases e:r∈m.dt
  .refine ez (Ac e) @fY @Cm ?_;refine aQ (af) (aK ?_);refine⟨rfl,rfl,m,d,rfl,by unfold qP;rw[if_pos e],.refl,?_,fun j I=>?_⟩
   .simp only[↓sU,sD,rE,↓reduceIte,rA];unfold aFz qP;rw[if_pos e,if_pos e]
   .rcases aNE I with rfl|rfl|rfl|rfl|rfl|rfl|rfl|rfl|rfl|rfl|rfl|rfl|rfl<;>simp only[↓sU,sD,rE,↓reduceIte,rA]
  .refine ez (Aa e) @fY @Dl ?_;refine aS (af) ?_;have bx:=cH (p:=0) d.gi rfl;refine cA ?_;have aw:=d.b.inf.len;rw[Al] at aw;refine ez q6 bx aw ?_;have⟨V,eV,nV,J,mV⟩:=aH3 (S:=X2) aOb d.gm r m.dt.length;rw[aLv e] at mV;refine cA (ew q5 an ?_);refine fN (v:=.undef) (S1:=V) (fun call=>?_) ?_
   .rw[aMV];exact ae eV
   refine ae ?_;have wg:=d.b.wg;have⟨d1,d2,d3,d4,d5,d6⟩:=w.n1;have lV:=Fj nV.symm;have bz:tT C.W P g S0 V m:=d.b.local lV fun c _ K _=>J c fun e=>K (by rw[e];exact LC.wm);have KV:lS C.W m X2 m V:=.off lV fun c _ hp=>J c fun e=>hp.1 (by rw[e];exact LC.wm);have bA:=(J C.gb fun e=>((d.b.low (c:=C.gb) d.lg).1 (by rw[e];exact LC.wm))).trans d.gg;have bC:=(J _ d5).trans d.gi;have sV:Same S0 V:=d.b.same0 KV d.s;refine aPv (W:=C.W) (g:=g) (S0:=S0) (X:=V) (gb:=C.gb) (ic:=C.ic) (m:=m) (r:=r) rfl bz sV.1 (ah q3) (ah q6) (af) bA bC (Ae d.lg sV.1) LC.wi (aG.same (E:=cE) cB hi sV) R D ?_;intro F' Z bI aI bM KZ bR kZ;have kw:∀c,C.W c->c≠C.ic->Z.h.get c=V.h.get c:=fun c K q=>kZ c (by have:=(wg c K).2;omega) K q;refine⟨rfl,rfl,{m with ia:=bI,dt:=m.dt++ [r]},d.next bM (KV.trans KZ) rfl ?_ bR ?_ ?_,rfl,?_,KV.trans KZ,?_,fun j I=>?_⟩
   .exact(kw _ LC.wn d1).trans ((J _ d3).trans d.gn)
   .exact(kw _ LC.wq (Cg d4)).trans ((J _ d6).trans d.gq)
   .exact mV.move (kw _ LC.wm (Cg d5))
   .unfold qP;rw[if_neg e]
   .rw[aI 16 au];unfold qP;rw[if_neg e];simp only[↓sU,sD,rE,↓reduceIte,rA]
   .rw[aI j au];rcases aNE I with rfl|rfl|rfl|rfl|rfl|rfl|rfl|rfl|rfl|rfl|rfl|rfl|rfl<;>simp only[↓sU,sD,rE,↓reduceIte,rA]
 rintro o ⟨F3,inr⟩ Z ⟨rfl,Y,m',hZ,e1,e2,KZ,aV,f⟩;simp only at Y aV f;subst Y;have b2:PBl C.W m xb:=A;have bU:=(KZ.2 xb (ax h.1) A).1.trans aa;have aZ:=(KZ.2 xb (ax h.1) A).2;have bV:=(KZ.2 cb u ao).1.trans bn;have bW:=(KZ.2 cb u ao).2;have a0:=(f 11 au).trans ab;have a1:xb≠C.pc/\xb≠C.mc/\xb≠C.fc/\S0.nx<=xb:=⟨B.1,B.2.1,B.2.2,a8⟩;refine aL (fe aV a0 @aB @aA ?_);refine fN (v:=.undef) (S1:=⟨Z.h.set xb (jf [k,p,je ((qP m.dt r).2:Int),xa,xw,xp]),Z.nx⟩) (fun call=>?_) ?_
 .exact ew @dL @dD (xO (cs:=[k,p,je (s:Int),xa,xw,xp]) (p:=2) (S:=Z) bU (by simp))
 refine ae ?_;have bY:cD xb Z ⟨Z.h.set xb (jf [k,p,je ((qP m.dt r).2:Int),xa,xw,xp]),Z.nx⟩:=(cD.refl xb Z).put _;have K:=hZ.but aZ L a1 bY;have q:cb≠xb:=bv;have hE:lS C.W m Xe m' ⟨Z.h.set xb (jf [k,p,je ((qP m.dt r).2:Int),xa,xw,xp]),Z.nx⟩:=by
  have t:lS C.W m Xe m X2:=a3.trans (.same h);refine⟨Av t.1 KZ.1,fun c hc hp=>?_⟩;have h1:=KZ.2 c (Ae hc t.1) hp;refine⟨?_,h1.2⟩;simp only;rw[ef,if_neg au,h1.1];exact(t.2 c hc hp).1
 rw[<-ac] at e2;have bZ:(Z.h.set xb (jf [k,p,je ((qP m.dt r).2:Int),xa,xw,xp])).get cb=some (.cells (bD (tS (act.getD s []) next next.length)) true 1):=by
  rw[ef,if_neg q];exact bV
 have a2:fP 1 X1 ⟨Z.h.set xb (jf [k,p,je ((qP m.dt r).2:Int),xa,xw,xp]),Z.nx⟩ (.sl cb 0 next.length next.length true) (tS (act.getD s []) next next.length).length (bD (tS (act.getD s []) next next.length)):=.inr ⟨cb,by rw[yC],y,by have:=KZ.1;show cb<Z.nx;omega,bZ,by rw[yT,Dm]⟩;refine⟨rfl,rfl,m',K,e1,e2,hE,by simp only;rw[ef,if_pos rfl,ac],aZ,by have:=KZ.1;have:=h.1;show xb<Z.nx;omega,a2.is,fun c hc=>by cases hc;exact⟨bW,q⟩,?_,?_,?_,?_⟩
 .refine⟨?_,?_,?_,?_,?_,?_,?_⟩
  .refine ae ?_;exact(f 1 au).trans q1
  .refine ae ?_;exact(f 2 au).trans q2
  .refine ae ?_;exact(f 3 au).trans q3
  .refine ae ?_;exact(f 4 au).trans q4
  .refine ae ?_;exact(f 5 au).trans q5
  .refine ae ?_;exact(f 6 au).trans q6
  .refine ae ?_;exact(f 7 au).trans q7
 .refine ae ?_;exact(f 10 au).trans bp
 .exact ae a0
 .refine ae ?_;exact(f 12 au).trans bq
def HdK(C:LC)(P:Nat->Prop)(g:aX)(S0 Xe:St)(m:LyS)(pl first:bu)(act:bt)(old xb:Nat)(xa xw xp a:AV)(o:Out)(A:bO)(Z:St):Prop:=o= .normal/\A.inr=false/\∃m',rR C (fun c=>c≠xb/\P c) g S0 Z m' pl/\m'.l=m.l/\m'.dt=(jC first m.dt (cu g old)).1/\lS C.W m Xe m' Z/\Z.h.get xb=jf [je (cu g old).kind,je (cu g old).player,je (jC first m.dt (cu g old)).2,xa,xw,xp]/\PBl C.W m' xb/\xb<Z.nx/\bN .i64 Z a (jW act (cu g old))/\(∀c,aM a=some c->PBl C.W m' c/\c≠xb)/\LyT C A.F/\aC 10 A.F=je (m.l.length:Int)/\aC 11 A.F= .ptr xb 0/\aC 12 A.F=a
def aDf(first:bu)(dt:ce)(x:cJ)(a:bu):cJ:={x with info:=(jC first dt x).2,next:=a}
def aQx(C:LC)(P:Nat->Prop)(g:aX)(S0 Xe:St)(m:LyS)(pl first:bu)(act:bt)(f old:Nat)(a:AV)(k:Nat)(A:bO)(Z:St):Prop:=A.inr=false/\∃j,j+k=(jW act (cu g old)).length/\∃m' v b,rR C P g S0 Z m' (vK pl m.l.length (old::(fZ (jR g first act f) ((jW act (cu g old)).take j) (m.l.length+1) (jC first m.dt (cu g old)).1).2.olds))/\m'.l=m.l++((aDf first m.dt (cu g old) (fZ (jR g first act f) ((jW act (cu g old)).take j) (m.l.length+1) (jC first m.dt (cu g old)).1).1,v)::b)/\b.map (·.1)=(fZ (jR g first act f) ((jW act (cu g old)).take j) (m.l.length+1) (jC first m.dt (cu g old)).1).2.cg/\m'.dt=(fZ (jR g first act f) ((jW act (cu g old)).take j) (m.l.length+1) (jC first m.dt (cu g old)).1).2.dt/\m'.dt.length<=m'.l.length/\lS C.W m Xe m' Z/\bN .i64 Z a (jW act (cu g old))/\(∀c,aM a=some c->PBl C.W m' c)/\LyT C A.F/\aC 10 A.F=je (m.l.length:Int)/\aC 101 A.F=a/\aC 102 A.F=je (((jW act (cu g old)).length:Nat):Int)/\aC 103 A.F=je (j:Int)
def aOz:(qP dt r).1.length<=dt.length+1:=by
 unfold qP;split
 .exact Nat.le_succ _
 .rw[Aj];exact Af _
def aFT{x:cJ}:(jC first dt x).1.length<=dt.length+1:=by
 unfold jC;split
 .exact aOz
 .exact Nat.le_succ _
def aLQ{l:ce}(h:j<l.length):(l.take j).sum+l.getD j 0<=l.sum:=by
 have e:=List.sum_append_nat (l₁:=l.take j) (l₂:=l.drop j);rw[Eg] at e;rw[e,Bz h,En,Ad,Ab h];simp only[Eb];omega
theorem aOK{act:bt}{Tr:List cS}(H:Has fns)(hP:∀c,S0.nx<=c->P c)(G:aOk g)(hR:pX g act)(cq:first.length=g.ch.length)(cr:∀s,s<g.ch.length->∃r:Nat,first.getD s 0=(r:Int)/\r<g.ch.length)(hn:aG 6 cF S0 C.nv g.cg)(hi:aG 2 cE S0 C.iv g.ch)(hf:bN .i64 S0 C.fv first)(ha:aG 1 nK S0 C.av act)(hT:gP g=some Tr)(bv:Tr.length=g.cg.length)(ct:∀i,i<g.cg.length->(cu g i).weights.length<=100000):
  ∀ (f:Nat) {X:St} {m:LyS} {pl:bu} {old:Nat},g.cg.length<=f+old->old<g.cg.length->m.l.length+eJ Tr old<=g.cg.length->m.dt.length<=m.l.length->rR C P g S0 X m pl->
  iI fns C.fn [je (old:Int)] X fun r Z=>r=je (m.l.length:Int)/\∃m' l',rR C P g S0 Z m' (vK pl m.l.length (jR g first act f old m.l.length m.dt).olds)/\m'.l=m.l++l'/\l'.map (·.1)=(jR g first act f old m.l.length m.dt).cg/\m'.dt=(jR g first act f old m.l.length m.dt).dt/\m'.dt.length<=m'.l.length/\lS C.W m X m' Z:=by
 have Gg:=G.good;have hN:=Gg.n2;intro f
 induction f with
 | zero=>intro X m pl old h1 h2;omega
 | succ f ih=>
  intro X m pl old dw d bw dz hS;have dM:=aIR hT bv d;show iI fns (.fn 53 [] [.ptr C.nc 0,.ptr C.pc 0,.ptr C.gb 0,.ptr C.lb 0,.ptr C.mc 0,.ptr C.ic 0,.ptr C.fc 0]) _ _ _;refine cK H.f53 (by simp) ?_;refine ae ?_;refine cA (ae ?_);have ln:=cH (p:=0) hS.gn rfl;have lp:=cH (p:=0) hS.gp rfl;have cw:=hS.b.nod.len;refine cA (ew ln cw ?_);have dU:=hS.pll;have cx:=fQ (b:=C.qb) (o:=false) d;refine cA (ez lp @aJ cx ?_);refine fN (fun call=>by refine ew @dL @dD ?_;exact yI (S:=X) hS.gq au) ?_;refine ae ?_;have⟨d1,d2,d3,d4,d5,d6⟩:=hS.n1;obtain⟨X1,ao⟩:∃X1:St,X1=⟨X.h.set C.qb (jf (bD (pl.set old (m.l.length:Int)))),X.nx⟩:=⟨_,rfl⟩;have n1:X1.nx=X.nx:=by rw[ao]
  have k1:∀c,c≠C.qb->X1.h.get c=X.h.get c:=fun c t=>by rw[ao];simp only;rw[ef,if_neg t]
  rw[<-ao];have K1:lS C.W m X m X1:=.off (Fj n1.symm) fun c _ hp=>k1 c fun e=>hp.1 (by rw[e];exact LC.wq);have J:rR C P g S0 X1 m (pl.set old (m.l.length:Int)):=hS.next (hS.b.local (Fj n1.symm) fun c _ hw _=>k1 c fun e=>hw (by rw[e];exact LC.wq)) K1 (by rw[Aw]) ((k1 _ d2).trans hS.gn) ((k1 _ d4).trans hS.gi) (by rw[ao];simp only;rw[ef,if_pos rfl]) (hS.gm.move (k1 _ (Cg d6)));have bz:=J.s;obtain⟨_,bx,qx,bA,cy,_,⟨xa,xw,xp,rfl,bC,cz,cV⟩,ab,_⟩:=aG.at hn az (dI d);rw[<-jH bz cy] at ab;have bI:=cH (p:=1) J.gg rfl;refine cA (gj @aB @aA @Am bI @aJ bA ab ?_);refine bS ?_;intro X2 x2 n2 g2
  refine cQ (b:=X1.nx) (cs':=[je (cu g old).kind,je (cu g old).player,je (cu g old).info,xa,xw,xp]) (aq) (by refine am ?_;exact aY _) g2 rfl rfl ?_;intro X3 x3 n3 g3;refine am ?_;have bM:Same X1 X3:=x3.same x2 (Af _);obtain⟨xb,aw⟩:∃xb,xb=X1.nx:=⟨_,rfl⟩;rw[<-aw] at g3;simp only[<-aw];have ac:rR C (fun c=>c≠xb/\P c) g S0 X3 m (pl.set old (m.l.length:Int)):=(J.mono (P':=fun c=>c≠xb/\P c) fun c t hp=>⟨au,hp⟩).same bM;have bR:PBl C.W m xb:=J.b.fresh (Fj aw.symm);have aI:xb≠C.pc/\xb≠C.mc/\xb≠C.fc:=by
   have a:=J.kp.2;have b:=J.kc.2;have c:=J.kf.2;omega
  have bU:S0.nx<=xb:=by rw[aw];exact bz.1
  have bk:xb<X3.nx:=by omega
  have cW:=bC.same ac.s;have bW:=dG g3;refine cA (ft @aB @aA bW ?_);refine bK (am ?_);have dV:=Gg.nxt old d;refine aW (qB H cW au) ?_;rintro D X4 ⟨s4,i4,b4,g4⟩
  have bY:=ac.same s4;have bm:=(s4.2 _ bk).trans g3;have bn:lS C.W m X m X3:=K1.trans (.same bM);refine aD (bB (Q:=HdK C P g S0 X m (pl.set old (m.l.length:Int)) first act old xb xa xw xp D) (aD (aL ?_)) ?_)
  .refine ez @aB @aA (fI bm) ?_;by_cases hk:(cu g old).kind=2
   .refine aS (iu (Ac hk)) ?_;have⟨a1,a2,a3⟩:=aD9 Gg d hk;have⟨r1,r2,r3⟩:=hR.2 _ a1;have aZ:(cu g old).next≠ []:=fun e=>by
     have:=(G.mov old d hk).1;rw[e] at this;exact absurd this az
    rcases g4 aZ with⟨_,e,_⟩|⟨cb,rfl,c1,c2,c3,_⟩
    .exact absurd (Bo.1 e) aZ
    .refine bB (aRb (P:=fun c=>c≠xb/\P c) (Xe:=X) (s:=(cu g old).info.toNat) (act:=act) (first:=first) (x10:=je (m.l.length:Int)) (xb:=xb) (cb:=cb) (k:=je (cu g old).kind) (p:=je (cu g old).player) (xa:=xa) (xw:=xw) (xp:=xp) ac (fun h=>h.1 rfl) bn au s4 c1 c2 bU bk bR aI ha hf hi bC au (by rw[hR.1];exact a1) (by rw[cq];exact a1) (by rw[r1];exact a2) (by rw[<-a2];exact r2) (cr _ a1) au (by rw[a3];exact g3) c3 (by refine⟨?_,?_,?_,?_,?_,?_,?_⟩<;>simp only[↓sU,sD,rE,↓reduceIte,rA]) (af) (af) (af)) ?_;rintro o A' Z ⟨h1,h2,m',h3,h4,h5,h6,h7,h8,z,h9,cX,cY,cZ,c0,c4⟩;have eh:jC first m.dt (cu g old)=((qP m.dt (first.getD (cu g old).info.toNat 0).toNat).1,((qP m.dt (first.getD (cu g old).info.toNat 0).toNat).2:Int)):=by unfold jC;rw[if_pos hk]
     have eo:jW act (cu g old)=tS (act.getD (cu g old).info.toNat []) (cu g old).next (cu g old).next.length:=by unfold jW;rw[if_pos hk]
     exact⟨h1,h2,m',h3,h4,by rw[eh];exact h5,h6,by rw[eh];exact h7,h8,z,by rw[eo];exact h9,cX,cY,cZ,c0,c4⟩
   .refine aQ (iu (Aa hk)) (aK ?_);have eh:jC first m.dt (cu g old)=(m.dt,(cu g old).info):=by unfold jC;rw[if_neg hk]
    have eo:jW act (cu g old)=(cu g old).next:=by unfold jW;rw[if_neg hk]
    exact⟨rfl,rfl,m,bY,rfl,by rw[eh],bn.trans (.same s4),by rw[eh];exact bm,bR,Ae bk s4.1,by rw[eo];exact i4,fun c t=>⟨ac.b.fresh (b4 c t),by have:=b4 c t;omega⟩,(by refine⟨?_,?_,?_,?_,?_,?_,?_⟩<;>simp only[↓sU,sD,rE,↓reduceIte,rA]),by refine⟨?_,?_,?_⟩<;>simp only[↓sU,sD,rE,↓reduceIte,rA]⟩
  clear ln lp bI ab g2 g3 bm bW i4 b4 g4 ac bY;rintro o ⟨F1,inr⟩ Z ⟨rfl,q0,m1,hZ,el,er,KZ,c5,c6,c7,ba,bb,bZ,b0,bp,b1⟩;simp only at q0 bZ b0 bp b1;subst q0;refine ae ?_
  refine aD (aP4 H rfl bp c5 c7 (cz.same hZ.s) (cV.same hZ.s) (ct old d) (by have:=Gg.pay old d;omega) ?_);intro F2 Z2 c8 rp A R c9 iw ip c';have bq:=hZ.but c6 (fun h=>h.1 rfl) ⟨aI.1,aI.2.1,aI.2.2,bU⟩ R;have K2:lS C.W m X m1 Z2:=⟨Av KZ.1 R.1,fun c t hp=>⟨(R.2 c (Ae t KZ.1) au).trans (KZ.2 c t hp).1,(KZ.2 c t hp).2⟩⟩;have⟨t1,t2,t3,t4,t5,t6,t7⟩:=bZ;have q1:=(A 1 au).trans t1;have q2:=(A 2 au).trans t2;have q3:=(A 3 au).trans t3;have q4:=(A 4 au).trans t4;have q5:=(A 5 au).trans t5;have q6:=(A 6 au).trans t6;have q7:=(A 7 au).trans t7;have da:=(A 10 au).trans b0;have dc:=(A 11 au).trans bp;have dd:=(A 12 au).trans b1;refine ae ?_
  have dg:=cH (p:=0) bq.gn rfl;have dh:=mB (n:=6) c9 rfl;refine cA (fu q1 dc dg dh ?_);refine fW (aFo (by simp only[↓aF,aE,rE,↓reduceIte,rA];try rfl)) ?_;intro U u1 u2 u3;have u:=bq.same u1;have⟨v',V,eA,aV,nV,kV,bV⟩:=u.b.nod.push (bytes:=96) (x:=.sl Z2.nx 0 1 1 false) (a:=(aDf first m.dt (cu g old) [],AV.ct)) az u.s.1 rfl (aJ3 u3 rfl) rfl ⟨c8,rp,rfl,.inl ⟨rfl,rfl,rfl⟩,iw.same u1,ip.same u1,fun c t=>by
   have:=c' c t;exact⟨hZ.b.fresh this,au,hP c (ax hZ.s.1)⟩⟩ (by have:=bw;rw[el];unfold room;omega) (by have:=bw;rw[el];unfold room;omega)
  have⟨kP,kM⟩:=u.b.pushN nV kV bV aV;refine fN (fun call=>by refine fl @fK ?_;exact eA) ?_
  have wg:=u.b.wg;have b2:=(kV _ (wg _ LC.wn).2 fun e=>(u.b.d1 _ e).1 LC.wn).trans u.gn;have di:v'.cells=some [v']:=aV.cells;refine fN (v:=.undef) (S1:=⟨V.h.set C.nc (jf [v']),V.nx⟩) (fun call=>by refine fu @dL q1 di @aH ?_;exact xO (cs:=[m1.na]) (p:=0) (S:=V) b2 (by simp)) ?_;refine am ?_;obtain⟨Y,hY⟩:∃Y:St,Y=⟨V.h.set C.nc (jf [v']),V.nx⟩:=⟨_,rfl⟩;rw[<-hY];have nY:Y.nx=V.nx:=by rw[hY]
  have kY:∀c,c≠C.nc->Y.h.get c=V.h.get c:=fun c t=>by rw[hY];simp only;rw[ef,if_neg t]
  have KY:lS C.W {m1 with na:=v',l:=m1.l++ [(aDf first m.dt (cu g old) [],AV.ct)]} V {m1 with na:=v',l:=m1.l++ [(aDf first m.dt (cu g old) [],AV.ct)]} Y:=.off (Fj nY.symm) fun c _ hp=>kY c fun e=>hp.1 (by rw[e];exact LC.wn);have aa:=kM.trans KY;have kw:∀c,C.W c->c≠C.nc->Y.h.get c=U.h.get c:=fun c hw aZ=>(kY c aZ).trans (kV c (wg c hw).2 fun e=>(u.b.d1 _ e).1 hw);have b3:tT C.W P g S0 Y {m1 with na:=v',l:=m1.l++ [(aDf first m.dt (cu g old) [],AV.ct)]}:=(kP.local (Fj nY.symm) fun c _ hw _=>kY c fun e=>hw (by rw[e];exact LC.wn)).mono fun _ _ h=>h.2;have b6:rR C P g S0 Y {m1 with na:=v',l:=m1.l++ [(aDf first m.dt (cu g old) [],AV.ct)]} (pl.set old (m.l.length:Int)):=(u.mono (P':=P) fun _ _ h=>h.2).next b3 aa rfl (by rw[hY];simp only;rw[ef,if_pos rfl]) ((kw _ LC.wi (Cg d1)).trans u.gi) ((kw _ LC.wq (Cg d2)).trans u.gq) (u.gm.move (kw _ LC.wm (Cg d3)));have lU:∀c,aM D=some c->c<Z.nx:=fun c t=>dP ba t;have b8:lS C.W m X {m1 with na:=v',l:=m1.l++ [(aDf first m.dt (cu g old) [],AV.ct)]} Y:=K2.trans ((lS.same u1).trans aa);have M:bN .i64 Y D (jW act (cu g old))/\∀c,aM D=some c->PBl C.W {m1 with na:=v',l:=m1.l++ [(aDf first m.dt (cu g old) [],AV.ct)]} c:=by
   have h1:∀c,aM D=some c->c<U.nx/\PBl C.W m1 c/\U.h.get c=Z.h.get c:=fun c t=>by
    have a:=lU c t;have b:=R.1;have e:=u1.1;exact⟨au,(bb c t).1,(u1.2 c au).trans (R.2 c a (bb c t).2)⟩
   refine⟨eT ba (by have:=R.1;have:=u1.1;have:=aa.1;omega) fun c t=>?_,fun c t=>?_⟩
   .have⟨a,b,e⟩:=h1 c t;exact(aa.2 c a b).1.trans e
   .have⟨a,b,e⟩:=h1 c t;exact(aa.2 c a b).2
  have dv:=aFT (first:=first) (dt:=m.dt) (x:=cu g old);have dW:(jW act (cu g old)).length=(cu g old).next.length:=(pY Gg hR d).length_eq;have b':=M.1.len;refine aD (bB (Q:=fun o A' W=>o= .normal/\aQx C P g S0 X m pl first act f old D 0 A' W) (aD (aL ?_)) ?_)
  .refine ez dd b' @Ah ?_;refine aO (bX (aQx C P g S0 X m pl first act f old D) ?_ (jW act (cu g old)).length _ _ ⟨rfl,0,au,_,AV.ct,[],b6,by rw[List.take_zero,<-el];rfl,by rw[List.take_zero];rfl,by rw[List.take_zero];exact er,by show m1.dt.length<=(m1.l++ [_]).length;rw[er,el,Aj,Ba];omega,b8,M.1,M.2,(by refine⟨?_,?_,?_,?_,?_,?_,?_⟩<;>simp only[↓sU,sD,rE,↓reduceIte,rA,q1,q2,q3,q4,q5,q6,q7]),ah da,af,af,ag⟩);clear hS J K1 bn hZ KZ bq K2 kP kM b3 b6 b8 M aa u b2 KY eA aV nV kV bV;rintro k ⟨F,inr⟩ W ⟨q0,j,ca,m',v,l2,hW,e1,e2,e3,e4,e5,e6,e7,⟨t1,t2,t3,t4,t5,t6,t7⟩,L,N,O,K⟩;simp only at q0 t1 t2 t3 t4 t5 t6 t7 L N O K;subst q0;refine cA (ew O K ?_);by_cases z:j<(jW act (cu g old)).length;rotate_left
   .refine aD (aQ im (bT ?_));refine ae ?_;obtain rfl:k=0:=by omega
    exact⟨rfl,j,ca,m',v,l2,hW,e1,e2,e3,e4,e5,e6,e7,(by refine⟨?_,?_,?_,?_,?_,?_,?_⟩<;>simp only[↓sU,sD,rE,↓reduceIte,rA,t1,t2,t3,t4,t5,t6,t7]),by refine⟨?_,?_,?_,?_⟩<;>simp only[↓sU,sD,rE,↓reduceIte,rA,L,N,O,K]⟩
   refine aD (aS im (aK ?_));refine ae ?_
   have w1:=ed j
   have⟨kb,kq,i1,_,i3⟩:=uD e6 z;have cc:(jW act (cu g old)).getD j 0∈(cu g old).next:=(pY Gg hR d).mem_iff.1 (by rw[Ad,Ab z];exact Bt z);have⟨q,hq,dj⟩:=Cp cc;have bd:=Gg.kids old d q hq;rw[show(cu g old).next.getD q 0=(cu g old).next[q] by rw[Ad,Ab hq];rfl,dj] at bd;obtain⟨cn,bs⟩:∃cn:Nat,(jW act (cu g old)).getD j 0=(cn:Int):=⟨((jW act (cu g old)).getD j 0).toNat,au⟩;rw[bs] at i3 bd;have dk:(jW act (cu g old)).take (j+1)=(jW act (cu g old)).take j++ [(cn:Int)]:=by
    rw[Bx,Ab z,<-bs,Ad,Ab z];rfl
   generalize a0:fZ (jR g first act f) ((jW act (cu g old)).take j) (m.l.length+1) (jC first m.dt (cu g old)).1=I at *;have dm:l2.length=I.2.cg.length:=by rw[<-e2,Al]
   have cf:m'.l.length=m.l.length+1+I.2.cg.length:=by rw[e1,Aj,Ax,dm];omega
   have cj:m'.l.length+eJ Tr cn<=g.cg.length:=by
    have h1:=yW (T:=Tr) (lay:=jR g first act f) (l:=(jW act (cu g old)).take j) (fun k hk i dt=>wY Gg hR hT bv (by
     obtain⟨q,hq,rfl⟩:=Cp ((pY Gg hR d).mem_iff.1 (Dz hk));have:=Gg.kids old d q hq;rw[Ad,Ab hq] at this;simp only[Eb] at this;omega)) (i:=m.l.length+1) (dt:=(jC first m.dt (cu g old)).1)
    rw[a0] at h1;have h2:=aHA (((pY Gg hR d).map Int.toNat).map (eJ Tr));have h3:=aLQ (l:=((jW act (cu g old)).map Int.toNat).map (eJ Tr)) (j:=j) (by rw[Al,Al];exact z);rw[<-List.map_take,<-List.map_take] at h3;have h4:(((jW act (cu g old)).map Int.toNat).map (eJ Tr)).getD j 0=eJ Tr cn:=by
     rw[Ad,Az,Az,Ab z];have:(jW act (cu g old))[j]=(cn:Int):=by rw[<-bs,Ad,Ab z];rfl
     rw[this];rfl
    omega
   have lf:=cH (p:=0) hW.gf rfl;refine aD (aO (aD (aL ?_)));refine ff N K @aJ i1 i3 ?_;refine cA (ew t7 lf ?_);refine bK (ae ?_);refine aW (ih au au  cj e4 hW) ?_;rintro _ W2 ⟨rfl,m2,l3,B,a1,a2,a3,a4,a5⟩
   rw[cf] at B a2 a3;have dn:m2.l[m.l.length]? =some (aDf first m.dt (cu g old) I.1,v):=by
    rw[a1,e1,Bg,Ap (Af _),Dt];rfl
   have dp:=aFH (lay:=jR g first act f) (l:=(jW act (cu g old)).take j) (i:=m.l.length+1) (dt:=(jC first m.dt (cu g old)).1);rw[a0,Bv] at dp;refine aNL (W:=C.W) (g:=g) (S0:=S0) (nc:=C.nc) (i:=m.l.length) (m:=m2) (v:=v) (a:=aDf first m.dt (cu g old) I.1) (w:=(m'.l.length:Int)) rfl B.b B.s.1 dn (by show I.1.length<=100000;omega) (ah t1) (ah L) (af) B.gn LC.wn ?_;intro F' V v2 y dq KV kV;have a8:=B.b.wg;have an:=(y 103 au);simp only[↓sU,sD,rE,↓reduceIte,rA,K] at an;refine ae ?_
   refine aL (ew an w1 ?_);have g1:=y 1 au;have g2:=y 2 au;have g3:=y 3 au;have g4:=y 4 au;have g5:=y 5 au;have g6:=y 6 au;have g7:=y 7 au;have ck:=y 10 au;have be:=y 101 au;have bj:=y 102 au;simp only[↓sU,sD,rE,↓reduceIte,rA,t1,t2,t3,t4,t5,t6,t7,L,N,O] at g1 g2 g3 g4 g5 g6 g7 ck be bj;have kk:=aDU (lay:=jR g first act f) (l:=(jW act (cu g old)).take j) (k:=(cn:Int)) (i:=m.l.length+1) (dt:=(jC first m.dt (cu g old)).1);rw[a0,<-dk,Ay,<-e3] at kk;have dY:=a3;have cl:bN .i64 V D (jW act (cu g old))/\∀c,aM D=some c->PBl C.W {m2 with l:=m2.l.set m.l.length ({aDf first m.dt (cu g old) I.1 with next:=I.1++ [(m'.l.length:Int)]},v2)} c:=by
    have KK:=a5.trans KV;exact⟨eT e6 KK.1 fun c t=>(KK.2 c (dP e6 t) (e7 c t)).1,fun c t=>(KK.2 c (dP e6 t) (e7 c t)).2⟩
   refine⟨k - 1,au,rfl,j+1,au,{m2 with l:=m2.l.set m.l.length ({aDf first m.dt (cu g old) I.1 with next:=I.1++ [(m'.l.length:Int)]},v2)},v2,l2++l3,?_,?_,?_,?_,?_,e5.trans (a5.trans KV),cl.1,cl.2,(by refine⟨?_,?_,?_,?_,?_,?_,?_⟩<;>simp only[↓sU,sD,rE,↓reduceIte,rA,g1,g2,g3,g4,g5,g6,g7]),by refine⟨?_,?_,?_,?_⟩<;>simp only[↓sU,sD,rE,↓reduceIte,rA,ck,be,bj]⟩
   .rw[kk];simp only;have cm:I.2.olds.length=I.2.cg.length:=by rw[<-a0];exact aAC fun o i dt=>aF0
    have dr:vK pl m.l.length (old::(I.2.olds++(jR g first act f cn (m.l.length+1+I.2.cg.length) m'.dt).olds))=vK (vK pl m.l.length (old::I.2.olds)) (m.l.length+1+I.2.cg.length) (jR g first act f cn (m.l.length+1+I.2.cg.length) m'.dt).olds:=by
     rw[<-Cf,aHR,Ax,cm,show m.l.length+(I.2.cg.length+1)=m.l.length+1+I.2.cg.length by omega]
    rw[dr];exact B.next dq KV rfl ((kV _ (a8 _ LC.wn).2 LC.wn).trans B.gn) ((kV _ (a8 _ LC.wi).2 LC.wi).trans B.gi) ((kV _ (a8 _ LC.wq).2 LC.wq).trans B.gq) (B.gm.move (kV _ (a8 _ LC.wm).2 LC.wm))
   .rw[kk];simp only;rw[cf,a1,e1,Bg,List.set_append_right _ _ (Af _),Dt];rfl
   .rw[kk];simp only;rw[Co,e2,a2]
   .rw[kk];exact a3
   .simp only;rw[Aw];exact a4
  rintro o ⟨F3,inr⟩ W ⟨rfl,q0,j,ca,m',v,l2,hW,e1,e2,e3,e4,e5,e6,e7,du,L, -, -, -⟩;simp only at q0 du L;subst q0;obtain rfl:j=(jW act (cu g old)).length:=by omega
  rw[List.take_length] at hW e1 e2 e3;refine cA (de L ?_);refine aT (ae ?_);refine⟨m',_,hW,e1,?_,e3,e4,e5⟩;rw[Dg,e2];rfl
structure Clo(g:aX)(first:bu)(dt:ce)(B:aDm):Prop where
 kid:∀o∈B.olds,∀k∈(cu g o).next,k.toNat∈B.olds
 rep:∀o∈B.olds,(cu g o).kind=2->(first.getD (cu g o).info.toNat 0).toNat∈B.dt
 mono:∀r∈dt,r∈B.dt
def aHH:r∈(qP dt r).1/\∀q∈dt,q∈(qP dt r).1:=by
 unfold qP;split
 .rename_i h;exact⟨h,fun _ h=>h⟩
 .exact⟨by simp,fun q h=>by simp [h]⟩
theorem aGd{g:aX}{first:bu}{lay:Nat->Nat->ce->aDm}:∀ {l:bu} (_:∀k∈l,∀i dt,Clo g first dt (lay k.toNat i dt)/\k.toNat∈(lay k.toNat i dt).olds) {i:Nat} {dt:ce},Clo g first dt (fZ lay l i dt).2/\∀k∈l,k.toNat∈(fZ lay l i dt).2.olds
 | [],_,i,dt=>⟨⟨fun o h=>(by cases h),fun o h=>(by cases h),fun r h=>h⟩,fun k h=>by cases h⟩
 | x::l,h,i,dt=>by
  have⟨d,m1⟩:=h x (Bk ..) i dt;have⟨c,f⟩:=aGd (l:=l) (fun k a=>h k (Bf _ a)) (i:=i+(lay x.toNat i dt).cg.length) (dt:=(lay x.toNat i dt).dt);unfold fZ;refine⟨⟨fun o e k a=>?_,fun o e a=>?_,fun r j=>c.mono r (d.mono r j)⟩,fun k a=>?_⟩
  .rcases Bi.1 e with b|b
   .exact Dh _ (d.kid o b k a)
   .exact Cx _ (c.kid o b k a)
  .rcases Bi.1 e with b|b
   .exact c.mono _ (d.rep o b a)
   .exact c.rep o b a
  .rcases Bp.1 a with rfl|b
   .exact Dh _ m1
   .exact Cx _ (f k b)
theorem aFn{g:aX}{first:bu}{act:bt}(G:eO g)(j:pX g act):∀ {f o i:Nat} {dt:ce},g.cg.length<=f+o->o<g.cg.length->Clo g first dt (jR g first act f o i dt)/\o∈(jR g first act f o i dt).olds
 | 0,o,i,dt,t,u=>absurd u au
 | f+1,o,i,dt,t,n=>by
  unfold jR;have p:=pY G j n;have⟨c,m⟩:=aGd (g:=g) (first:=first) (lay:=jR g first act f) (l:=jW act (cu g o)) (fun k a i dt=>by
   obtain⟨q,s,rfl⟩:=Cp (p.mem_iff.1 a);have:=G.kids o n q s;rw[Ad,Ab s] at this;simp only[Eb] at this;exact aFn G j au au) (i:=i+1) (dt:=(jC first dt (cu g o)).1)
  have w:∀r∈dt,r∈(jC first dt (cu g o)).1:=fun r d=>by
   unfold jC;split
   .exact aHH.2 r d
   .exact d
  refine⟨⟨fun e b k a=>?_,fun e b a=>?_,fun r d=>c.mono r (w r d)⟩,Bk ..⟩
  .rcases Bp.1 b with rfl|h
   .exact Bf _ (m k (p.mem_iff.2 a))
   .exact Bf _ (c.kid e h k a)
  .rcases Bp.1 b with rfl|h
   .refine c.mono _ ?_;unfold jC;rw[if_pos a];exact aHH.1
   .exact c.rep e h a
theorem aMx{act:bt}(G:eO g)(d:pX g act)(e:j<g.cg.length):j∈(jR g first act g.cg.length 0 0 []).olds:=by
 have⟨c,m⟩:=aFn (first:=first) G d (f:=g.cg.length) (o:=0) (i:=0) (dt:=[]) au G.n1
 induction j using Nat.strongRecOn with
 | ind j h=>
  by_cases a:j=0
  .rw[a];exact m
  .have⟨q,k,n,b,p⟩:=aLR G (Nat.pos_of_ne_zero a) e;have:=c.kid q (h q n au) ((cu g q).next.getD k 0) (by rw[Ad,Ab b];exact Bt b);rw[p] at this;exact this
def aEs{act:bt}(G:eO g)(a:pX g act){s:Nat}(b:s<g.ch.length):(first.getD s 0).toNat∈(jR g first act g.cg.length 0 0 []).dt:=by
 have⟨c,_⟩:=aFn (first:=first) G a (f:=g.cg.length) (o:=0) (i:=0) (dt:=[]) au G.n1;have⟨f1,f2,f3⟩:=G.fst s b;have:=c.rep _ (aMx G a f1) f2;rw[f3] at this;exact this
def aSZ(W:St)(F:Fr)(qv:AV)(l:bu)(F':Fr)(Z:St)(ps:List iR):Prop:=ps= [⟨8,W.nx+8,.cells [aC 51 F'] false 0⟩]/\Same W Z/\W.nx+12<=Z.nx/\(∀j,j<44->aC j F'=aC j F)/\aC 45 F'=qv/\aC 52 F'= .sl (W.nx+8) 0 1 1 false/\bN .i64 Z (aC 51 F') l/\∀c,aM (aC 51 F')=some c->W.nx<=c/\c≠W.nx+8
def aOQ{W Y:St}{J a:AV}(H:Has fns)(b:aC 10 F= .ptr ob 0)(K:aC 2 F= .ptr lb 0)(d:aC 11 F=je (i:Int))(e:W.h.get ob=jf [B,D,G,I,qv,J])(f:W.h.get lb=jf [fv,av])(n:ob<W.nx)(o:lb<W.nx)(p:eQ (.slice 1) av i=some (.ptr br qr))(q:eK (.ptr br qr) false 1 W.h=some a)(r:br<W.nx)(u:bN .i64 W a l)(L:l.length<=100000)(M:cO av av=true)(s:cO qv qv=true)
  (w:Same W Y) (S:Y.nx=W.nx+12):gF fns (fun _=>False) W.h W.nx aK2 0 F Y [] none (aSZ W F qv l):=by
 have N:=bN.self u;unfold aK2;simp only[↓sU,sD,rE,↓reduceIte,rA,K,b,d,aB,aP,aA,dT e,aAl f,n,o,r,An,M,s,N,aJ,p,q];refine dR rfl ?_;refine ae ?_;refine aW (qB H (u.same w) L) ?_;rintro O T ⟨s1,y,Q,_⟩;refine⟨s1,?_⟩;have R:=fun(F:Fr) (id:Nat) (h:aC 51 F=O)=>aDx (t:=22) (z:=.ct) (x:=.t 51) (F:=F) (id:=id) y h;refine de R ?_;refine⟨af,w.trans s1,ax s1.1,fun j U=>?_,af,af,by refine ae ?_;exact y,fun c A=>?_⟩
 .simp only[bH];rw[if_neg au,if_neg au,if_neg au,if_neg au,if_neg au,if_neg au,if_neg au,if_neg au,if_neg au]
 .simp only[↓sU,sD,rE,↓reduceIte,rA] at A;have:=Q c A;omega
def aQm{u:List AO}{W:St}{n:Nat}{A a:AV}(H:Has fns)(he:u=aK2++aM9)(J:aC 10 F= .ptr ob 0)(p2:aC 2 F= .ptr lb 0)(V:aC 11 F=je (i:Int))(L:W.h.get ob=jf [A,B,D,G,qv,I])(Y:W.h.get lb=jf [fv,av])(a0:ob<S0.nx)(aa:lb<W.nx)(ab:eQ (.slice 1) av i=some (.ptr br qr))(w:eK (.ptr br qr) false 1 W.h=some a)(ac:br<W.nx)(ha:bN .i64 W a l)(hl:l.length<=100000)(sv:cO av av=true)
  (T:fP 1 S0 W qv n cs) (hS:S0.nx<=W.nx) (hn:n<=100000)
  (hQ:∀F' Z r d,(∀j,j<44->aC j F'=aC j F)->W.nx<=Z.nx->Z.h.get ob=jf [A,B,D,G,d,I]->(∀c,c<W.nx->c≠ob->aM qv≠some c->Z.h.get c=W.h.get c)->bN .i64 Z r l->fP 1 S0 Z d (n+1) (cs++ [r])->(∀c,aM r=some c->W.nx<=c/\aM d≠some c)->(∀c,aM d=some c->W.nx<=c)->Q .normal ⟨F',inr⟩ Z):jP fns (.drw u) ⟨F,inr⟩ W Q:=by
 have M:u.length=12:=by rw[he];rfl
 refine oO (K:=9) (R:=aSZ W F qv l) he rfl rfl (fun S1 s h n=>aOQ H J p2 V L Y au aa ab w ac ha hl sv T.self s (by rw[n,M])) ?_;rintro F' S' ps hs ls ⟨rfl,sZ,nZ,hk,an,ao,i1,q⟩ y w;have N:aC 10 F'= .ptr ob 0:=(hk 10 au).trans J;generalize aw:aC 51 F'=r at i1 q;have m1:∀i,i<9->Nat.testBit 511 i=true:=by decide
 obtain⟨U,O⟩:∃U:St,U=⟨S'.h.set (W.nx+8) (jf [r]),S'.nx⟩:=⟨_,rfl⟩;have f:Same W U:=by rw[O];exact⟨sZ.1,fun c b=>by simp only;rw[ef,if_neg au];exact sZ.2 c b⟩
 have gU:U.h.get (W.nx+8)=jf [r]:=by rw[O];simp only;rw[ef,if_pos rfl]
 have nU:U.nx=S'.nx:=by rw[O]
 have iU:bN .i64 U r l:=eT i1 au fun c b=>by
  rw[O];simp only;rw[ef,if_neg (q c b).2]
 have o:∀ {c},aM qv=some c->S0.nx<=c/\c<W.nx:=fun b=>⟨(T.blk b).1,(T.blk b).2.1⟩;have aI:fP 1 ⟨U.h,S0.nx⟩ U qv n cs:=T.move f.1 fun c b=>f.2 c (o b).2;have⟨d,X,eA,gA,bA,nA,rA⟩:=fP.push1 (bytes:=24) (x:=r) aI ⟨by show S0.nx<=U.nx;have:=f.1;omega,fun _ _=>rfl⟩ gU ay ay;have aV:X.h.get ob=jf [A,B,D,G,qv,I]:=by
  rw[rA ob (ax f.1) (fun e=>by have:=(o e).1;omega)];exact(f.2 ob au).trans L
 unfold aM9;refine iQ (v:=d) (S1:=X) (y _ m1) (fun call=>?_) ?_
 .rw[cL (az:Nat.testBit 511 8=true),fK];simp only[fE,an,ao,aw];rw[<-O];exact eA
 rw[cL (az:Nat.testBit 511 8=true)];simp only[iW,dH,aB,aA,aP,aU,fE,bL,bH,N,rE,↓reduceIte,rA];have aZ:d.cells=some [d]:=fP.cells gA;refine iQ (v:=.undef) (S1:=⟨X.h.set ob (jf [A,B,D,G,d,I]),X.nx⟩) (az:Nat.testBit 2047 9=true) (fun call=>?_) ?_
 .rw[dL];simp only[fE,bH,rE,↓reduceIte,bL,aZ,aH];exact xO (cs:=[A,B,D,G,qv,I]) (p:=4) (S:=X) aV (by simp)
 rw[iC];have z:∀ {c},aM d=some c->c=U.nx:=fun b=>by rw[bA] at b;exact(Bh b).symm
 have a1:=f.1;refine⟨?_,?_⟩
 .simp only[Ce,Bg,Da,Cf,Bw];exact w _ _ _ m1
 .simp only[bL,fC];have t:∀ {c},aM r=some c->c<U.nx:=fun b=>dP iU b;refine hQ _ _ r d (fun j hj=>?_) (by show W.nx<=X.nx;omega) jd (fun c b h1 h2=>?_) ?_ ?_ (fun c b=>⟨(q c b).1,fun h=>?_⟩) (fun c b=>?_)
  .rw[bH,if_neg au,bH,if_neg au];exact hk j hj
  .simp only;rw[ef,if_neg h1,rA c au h2];exact f.2 c b
  .refine eT iU (by show U.nx<=X.nx;omega) fun c b=>?_;have h1:=(q c b).1;simp only;rw[ef,if_neg au,rA c (t b) (fun e=>by have:=(o e).2;omega)]
  .refine fP.move (S:=X) (by exact gA) (Af _) fun c b=>?_;have:=z b;simp only;rw[ef,if_neg au]
  .have:=z h;have:=t b;omega
  .have:=z b;omega
def wL(first:bu)(dt:ce):bu:=first.map fun r=>((dt.idxOf r.toNat:Nat):Int)
def aQt(g:aX)(first:bu)(act:bt)(Z:St)(r:AV):Prop:=∃nv iv a qv pv,r= .agg [je g.cm,nv,iv,a,qv,pv]/\aG 6 cF Z nv (jR g first act g.cg.length 0 0 []).cg/\aG 2 cE Z iv ((jR g first act g.cg.length 0 0 []).dt.map fun r:Nat=>cv g (r:Int))/\bN .i64 Z a (wL first (jR g first act g.cg.length 0 0 []).dt)/\aG 1 nK Z qv act/\bN .i64 Z pv (vK (List.replicate g.cg.length 0) 0 (jR g first act g.cg.length 0 0 []).olds)
def aSB(g:aX)(first:bu)(act:bt)(S Z:St)(r:AV):Prop:=∀Z',Z.nx<=Z'.nx->(∀c,S.nx<=c->c<Z.nx->Z'.h.get c=Z.h.get c)->aQt g first act Z' r
def aSm(Y0:St)(ob lb b mb:Nat)(d e f pl fv:AV)(dt:ce)(first:bu)(act:bt)(h:Nat)(k:Nat)(A:bO)(X:St):Prop:=A.inr=false/\Y0.nx<=X.nx/\(∀c,c<Y0.nx->c≠ob->X.h.get c=Y0.h.get c)/\∃i a qv cs,i+k=first.length/\X.h.get ob=jf [d,e,f,a,qv,pl]/\fP 1 Y0 X a ((wL first dt).take i).length (bD ((wL first dt).take i))/\fP 1 Y0 X qv i cs/\qU Y0 X qv cs (act.take i)/\(∀c,aM a=some c->aM qv≠some c/\∀r∈cs,aM r≠some c)/\aC 2 A.F= .ptr lb 0/\aC 4 A.F= .ptr h 0/\aC 5 A.F= .ptr b 0/\aC 10 A.F= .ptr ob 0/\aC 29 A.F=fv/\aC 30 A.F=je (first.length:Int)/\aC 31 A.F=je (i:Int)
def tT.nodesM{W:Nat->Prop}{m:LyS}(h:tT W (fun c=>S0.nx<=c) g S0 X m)(a:X.nx<=X'.nx)(b:∀c,S0.nx<=c->c<X.nx->X'.h.get c=X.h.get c):tT W (fun c=>S0.nx<=c) g S0 X' m:=
 h.local a fun c d _ f=>b c (by
  by_cases e:c<S0.nx
  .exact f (h.low e)
  .omega) d
def qU.moveR(h:qU S0 X pv cs A)(e:X.nx<=X'.nx)(f:∀r∈cs,∀c,aM r=some c->S0.nx<=c->X'.h.get c=X.h.get c):qU S0 X' pv cs A:=
 ⟨h.1,fun j i=>by
  have⟨r,a,n,b⟩:=h.2 j i;exact⟨r,a,eT n e fun c d=>f r (Ar a) c d (b c d).1,b⟩⟩
def qU.low{r:AV}(h:qU S0 X pv cs A)(d:r∈cs)(e:aM r=some c):c<X.nx:=by
 obtain⟨j,a,rfl⟩:=Cp d;have⟨i,b,f,_⟩:=h.2 j (by rw[<-h.1];exact a);rw[Ab a] at b;cases b;exact dP f e
theorem xW{S:St}{nv iv fv av:AV}{g:aX}{first:bu}{act:bt}{Tr:List cS}(H:Has fns)(G:aOk g)(hR:pX g act)(hFl:first.length=g.ch.length)(hFr:∀s,s<g.ch.length->∃r:Nat,first.getD s 0=(r:Int)/\r<g.ch.length)(hn:aG 6 cF S nv g.cg)(hi:aG 2 cE S iv g.ch)(hf:bN .i64 S fv first)(ha:aG 1 nK S av act)(hT:gP g=some Tr)(hTl:Tr.length=g.cg.length)(hwl:∀i,i<g.cg.length->(cu g i).weights.length<=100000):
  iI fns (.fn 27 [] []) [.agg [fv,av],.agg [.int .i64 g.cm,nv,iv]] S fun r Z=>Same S Z/\aSB g first act S Z r:=by
 have Gg:=G.good;have hN:=Gg.n2;have sfv:=bN.self hf;refine cK H.f27 (by simp) ?_;refine am (cA ?_);refine cR (by exact am (aY _)) ?_;intro S1 s1 n1 g1;refine am ?_;refine cR (by exact am (aY _)) ?_;intro S2 s2 n2 g2;try refine am ?_
 refine bS ?_;intro S0 s3 n3 g3;try refine am ?_
 have s03:=s1.trans (s2.trans s3);have gl0:S0.h.get S.nx=_:=(s3.2 _ au).trans ((s2.2 _ au).trans g1);have gg0:S0.h.get S1.nx=_:=(s3.2 _ au).trans g2;refine cA (fW (v:=.map S0.nx) (bl:=.map []) rfl ?_);intro X1 x1 k1 e1;refine am (bS ?_);intro X2 x2 k2 e2;try refine am ?_
 refine cQ (b:=X1.nx) (cs':=[.map S0.nx]) (aq) (by simp only[↓aF,aE,rE,↓reduceIte,rA];rfl) e2 rfl rfl ?_;intro X3 x3 k3 e3;try refine am ?_
 have s13:Same X1 X3:=x3.same x2 (Af _);refine cA (bS ?_);intro X4 x4 k4 e4;try refine am ?_
 refine cA (bS ?_);intro X5 x5 k5 e5;try refine am ?_
 have s05:Same S0 X5:=x1.trans (s13.trans (x4.trans x5));have gg5:=(s05.2 _ au).trans gg0;have lg5:=fV gg5;have hnl:=hn.len;have hmk:=fun F id (x:cT) (hx:gN (x.val F)=some g.cg.length)=>pU (t:=3) (s:=1) (bytes:=8) (z:=[AV.int .i64 0]) (l:=x) (c:=x) (F:=F) (id:=id) (n:=g.cg.length) hx hx ay ay;refine cA (fu @aB @aA lg5 hnl ?_);refine fW (hmk _ _ _ (iz @aJ)) ?_;intro X6 x6 k6 e6;try refine am ?_
 refine bS ?_;intro X7 x7 k7 e7;try refine am ?_
 refine cQ (b:=X6.nx) (cs':=[.sl X5.nx 0 g.cg.length g.cg.length false]) (aq) (by simp only[↓aF,aE,rE,↓reduceIte,rA];rfl) e7 rfl rfl ?_;intro X8 x8 k8 e8;try refine am ?_
 have s68:Same X6 X8:=x8.same x7 (Af _);refine cA (bS ?_);intro X9 x9 k9 e9;try refine am ?_
 refine cA (fl @aBJ ?_);obtain⟨C,hC⟩:∃C:LC,C=⟨X4.nx,X3.nx,X5.nx,S0.nx,X6.nx,X1.nx,X8.nx,S1.nx,S.nx,.int .i64 g.cm,nv,iv,fv,av⟩:=⟨_,rfl⟩;have hfn:C.fn= .fn 53 [] [.ptr X4.nx 0,.ptr X6.nx 0,.ptr S1.nx 0,.ptr S.nx 0,.ptr X1.nx 0,.ptr X3.nx 0,.ptr X8.nx 0]:=by rw[hC];rfl
 refine cQ (b:=X8.nx) (cs':=[C.fn]) (aq) (by refine am ?_;rw[hfn];rfl) e9 rfl rfl ?_;intro X x10 k10 e10;try refine am ?_
 have s8X:Same X8 X:=x10.same x9 (Af _);have s6X:=s68.trans s8X;have s5X:=x6.trans s6X;have s0X:=s05.trans s5X;have s3X:Same X3 X:=x4.trans (x5.trans s5X);have hrp:AB.cells (repeatL [AV.int .i64 0] g.cg.length) false 0=AB.cells (bD (List.replicate g.cg.length 0)) false 0:=by rw[wH]
 have hS:rR C (fun c=>S0.nx<=c) g S0 X ⟨.ct,.ct,[],[]⟩ (List.replicate g.cg.length 0):=by
  have w:∀c,C.W c->S0.nx<=c/\c<X.nx:=fun c hc=>by
   rw[hC] at hc;rcases hc with hc | hc | hc | hc<;>simp only at hc<;>omega
  have p:∀c,¬C.W c->PBl C.W ⟨.ct,.ct,[],[]⟩ c:=fun c hc=>⟨hc,fun e=>(by cases e),fun e=>(by cases e),fun a h=>(by cases h)⟩;have nw:∀c,(c=X6.nx\/c=X1.nx\/c=X8.nx)->¬C.W c:=fun c hc hw=>by
   rw[hC] at hw;rcases hw with hw | hw | hw | hw<;>simp only at hw<;>omega
  refine⟨⟨.none,.none,fun a h=>(by cases h),fun i j a b _ h=>(by cases h),fun c h=>(by cases h),fun c h=>(by cases h),w⟩,?_,?_,?_,?_,?_,?_,?_,?_,?_,⟨p _ (nw _ (by rw[hC];exact .inl rfl)),?_⟩,⟨p _ (nw _ (by rw[hC];exact .inr (.inl rfl))),?_⟩,⟨p _ (nw _ (by rw[hC];exact .inr (.inr rfl))),?_⟩,?_,?_,?_,Aq,s0X⟩
  all_goals rw[hC]
  all_goals simp only
  ·exact(s5X.2 _ au).trans e5
  ·exact((x5.trans s5X).2 _ au).trans e4
  ·rw[<-hrp];exact(s6X.2 _ au).trans e6
  ·exact⟨[],((s13.trans s3X).2 _ au).trans e1,fun _=>rfl⟩
  ·exact(s8X.2 _ au).trans e8
  ·exact(s3X.2 _ au).trans e3
  ·rw[e10,hC]
  ·exact(s0X.2 _ au).trans gg0
  ·exact(s0X.2 _ au).trans gl0
  all_goals first | omega | trace_state
 have lf:=cH (p:=0) e10 rfl;have hsz:([]:List (cJ×AV)).length+eJ Tr 0<=g.cg.length:=by
  rw[Cb,Am,<-hTl];exact(qC (mN az (show fB g.cg.length (dN g) (g.cg.length+1) 0 (-1) 0=some Tr from hT)) (by rw[hTl];exact Gg.n1)).2.1
 refine cA (fl lf ?_);refine bK (am ?_);have e0:C.nv=nv/\C.iv=iv/\C.fv=fv/\C.av=av:=by rw[hC];exact⟨rfl,rfl,rfl,rfl⟩
 have gn0:=aG.same (E:=cF) bQ hn s03;have gi0:=aG.same (E:=cE) cB hi s03;have gf0:=hf.same s03;have ga0:=aG.same (E:=nK) fM ha s03;rw[<-e0.1] at gn0;rw[<-e0.2.1] at gi0;rw[<-e0.2.2.1] at gf0;rw[<-e0.2.2.2] at ga0;refine aW (aOK (first:=first) (act:=act) (Tr:=Tr) (P:=fun c=>S0.nx<=c) H (fun _ h=>h) G hR hFl hFr gn0 gi0 gf0 ga0 hT hTl hwl g.cg.length (old:=0) au Gg.n1 hsz (Af _) hS) ?_;rintro _ Y ⟨-,m,l',hY,a1,a2,a3,a4,a5⟩;try refine am ?_
 generalize hB:jR g first act g.cg.length 0 0 []=B at *;have rall:=fun s hs=>aEs (first:=first) Gg hR (s:=s) hs;rw[hB] at rall;have sSY:Same S Y:=⟨by have:=s03.1;have:=hY.s.1;omega,fun c hc=>(hY.s.2 c (ax s03.1)).trans (s03.2 c hc)⟩;have gnY:Y.h.get X4.nx=some (.cells [m.na] false 0):=by have:=hY.gn;rw[hC] at this;exact this
 have giY:Y.h.get X3.nx=some (.cells [m.ia] false 0):=by have:=hY.gi;rw[hC] at this;exact this
 have gpY:Y.h.get X6.nx=some (.cells [.sl X5.nx 0 g.cg.length g.cg.length false] false 0):=by have:=hY.gp;rw[hC] at this;exact this
 have ggY:Y.h.get S1.nx=some (.cells [.int .i64 g.cm,nv,iv] false 0):=by have:=hY.gg;rw[hC] at this;exact this
 have glY:Y.h.get S.nx=some (.cells [fv,av] false 0):=by have:=hY.gl;rw[hC] at this;exact this
 have gcY:Y.h.get X1.nx=some (.cells [.map S0.nx] false 0):=by have:=hY.gc;rw[hC] at this;exact this
 have gqY:Y.h.get X5.nx=some (.cells (bD (vK (List.replicate g.cg.length 0) 0 B.olds)) false 0):=by have:=hY.gq;rw[hC] at this;exact this
 have gmY:aEQ encI encI Y.h S0.nx (aFz m.dt):=by have:=hY.gm;rw[hC] at this;exact this
 have lq:X5.nx<Y.nx:=by have:=hY.b.wg X5.nx (by rw[hC];exact .inr (.inr (.inl rfl)));exact this.2
 have lmb:S0.nx<Y.nx:=by have:=hY.b.wg S0.nx (by rw[hC];exact .inr (.inr (.inr rfl)));exact this.2
 have lmc:X1.nx<Y.nx:=by have:=hY.kc.2;rw[hC] at this;exact this
 have hbY:=hY.b;have cna:m.na.cells=some [m.na]:=hY.b.nod.cells;have cia:m.ia.cells=some [m.ia]:=hY.b.inf.cells;rw[Bw] at a1;rw[<-a1] at a2;rw[a3] at gmY;obtain⟨na,hna⟩:∃na,na=m.na:=⟨_,rfl⟩;obtain⟨ia,hia⟩:∃ia,ia=m.ia:=⟨_,rfl⟩;rw[<-hna] at gnY cna;rw[<-hia] at giY cia;obtain⟨r4,hr4⟩:∃r4,r4=S2.nx:=⟨_,rfl⟩;have g4Y:Y.h.get r4=some (.cells [.int .i64 0,.ct,.ct,.ct,.ct,.ct] false 0):=by rw[hr4];exact(hY.s.2 _ au).trans g3
 have l4:r4<Y.nx:=by have:=hY.s.1;omega
 have n4:S.nx<=r4:=by omega
 have hT5:=aBf (os:=B.olds) (pl:=List.replicate g.cg.length 0) (i:=0);rw[Aq] at hT5;simp only[<-hr4];have r4l:r4<S0.nx:=by omega
 have hB1:∀ (F:Fr) (h:Ev.T AB),aC 22 F= .int .i64 g.cm->aC 23 F=na->aC 24 F=ia->gO (.build [.int .i64 0,.ct,.ct] [(0,1,.t 22),(1,1,.t 23),(2,1,.t 24)]) F h=some (.agg [.int .i64 g.cm,na,ia]):=fun F h h1 h2 h3=>by
  show(bG (eI _ (dJ F [(0,1,.t 22),(1,1,.t 23),(2,1,.t 24)])) fun cs=>some (AV.agg cs))=_;simp only[dJ,show(cT.t 22).val F= .int .i64 g.cm from h1,show(cT.t 23).val F=na from h2,show(cT.t 24).val F=ia from h3,eI,dD,cna,cia,aH];rfl
 have hB2:∀ (F:Fr) (h:Ev.T AB),aC 25 F= .agg [.int .i64 g.cm,na,ia]->aC 26 F= .sl X5.nx 0 g.cg.length g.cg.length false->gO (.build [.int .i64 0,.ct,.ct,.ct,.ct,.ct] [(0,3,.t 25),(5,1,.t 26)]) F h=some (.agg [.int .i64 g.cm,na,ia,.ct,.ct,.sl X5.nx 0 g.cg.length g.cg.length false]):=fun F h h1 h2=>by
  show(bG (eI _ (dJ F [(0,3,.t 25),(5,1,.t 26)])) fun cs=>some (AV.agg cs))=_;simp only[dJ,show(cT.t 25).val F= .agg [.int .i64 g.cm,na,ia] from h1,show(cT.t 26).val F= .sl X5.nx 0 g.cg.length g.cg.length false from h2,eI,aY,aH];rfl
 have ld22:=qV ggY;have ld23:=cH (p:=0) gnY rfl;have ld24:=cH (p:=0) giY rfl;have ld26:=cH (p:=0) gpY rfl;refine cA (gu @aB @aA ld22 ld23 ld24 ld26 hB1 hB2 ?_);refine bS ?_;intro Z1 z1 m1 d1;try refine am ?_
 refine cQ (b:=Y.nx) (cs':=[.int .i64 g.cm,na,ia,.ct,.ct,.sl X5.nx 0 g.cg.length g.cg.length false]) (aq) (by exact am (aY _)) d1 rfl rfl ?_;intro Y0 z2 m2 d2;try refine am ?_
 have sY0:Same Y Y0:=z2.same z1 (Af _);obtain⟨ob,hob⟩:∃ob,ob=Y.nx:=⟨_,rfl⟩;rw[<-hob] at d2;simp only[<-hob];have nY0:Y0.nx=ob+1:=by omega
 have glZ:=(sY0.2 _ (ax sSY.1)).trans glY;have gcZ:=(sY0.2 _ lmc).trans gcY;have gmZ:=gmY.move (sY0.2 _ lmb);have ld29:=cH (p:=0) glZ rfl;have hfl:=hf.len;have hnumL:(wL first B.dt).length=first.length:=by unfold wL;rw[Al]
 refine aD (bB (Q:=fun o A' W=>o= .normal/\aSm Y0 ob S.nx X1.nx S0.nx (.int .i64 g.cm) na ia (.sl X5.nx 0 g.cg.length g.cg.length false) fv B.dt first act r4 0 A' W) (aD (aL ?_)) ?_)
 ·refine ff @aB @aA ld29 hfl @Ah ?_;refine aO (bX (aSm Y0 ob S.nx X1.nx S0.nx (.int .i64 g.cm) na ia (.sl X5.nx 0 g.cg.length g.cg.length false) fv B.dt first act r4) ?_ first.length _ _ ⟨rfl,Af _,fun _ _ _=>rfl,0,.ct,.ct,[],au,d2,.inl ⟨rfl,rfl,rfl⟩,.inl ⟨rfl,rfl,rfl⟩,⟨rfl,fun j hj=>absurd hj (Ca j)⟩,fun c hc=>(by cases hc),af,af,af,af,af,af,ag⟩);rintro k ⟨F,inr⟩ X ⟨q0,nX,kX,i,jv,qv,cs,hik,gX,hj,hq,hRw,hd,p2,p4,p5,p10,p29,p30,p31⟩;simp only at q0 p2 p4 p5 p10 p29 p30 p31;subst q0;refine cA (ew p30 p31 ?_);by_cases hlt:i<first.length;rotate_left
  ·refine aD (aQ im (bT ?_));refine ae ?_;obtain rfl:k=0:=by omega
   exact⟨rfl,nX,kX,i,jv,qv,cs,hik,gX,hj,hq,hRw,hd,by refine⟨?_,?_,?_,?_,?_,?_,?_⟩<;>simp only[↓sU,sD,rE,↓reduceIte,rA,p2,p4,p5,p10,p29,p30,p31]⟩
  refine aD (aS im (aK ?_));try refine ae ?_
  have hNI:=Gg.ni;have w1:=ed i
  have sSX:Same S X:=⟨ax sSY.1,fun c hc=>(kX c (ax sSY.1) (ax sSY.1)).trans ((sY0.2 c (ax sSY.1)).trans (sSY.2 c hc))⟩;have⟨r,hr,hrl⟩:=hFr i au;have hrm:=rall i au;rw[hr,Ay] at hrm;have⟨fb,fq,f1,f2,f3⟩:=uD (hf.same sSX) hlt;rw[hr] at f3;have gcX:=(kX _ au au).trans gcZ;have glX:=(kX S.nx (ax sSY.1) (ax sSY.1)).trans glZ;have gmX:=gmZ.move (kX _ au au);have lcm:=cH (p:=0) gcX rfl;have hlk:∀F:Fr,aC 38 F= .map S0.nx->aC 39 F= .int .i64 (r:Int)->gO (.lookup (.p .int) (.int .i64 0) false (.t 38) (.t 39)) F X.h=some (.int .i64 ((B.dt.idxOf r:Nat):Int)):=fun F a b=>aHG (m:=.t 38) (x:=.t 39) aOb gmX a b (by unfold aFz;rw[if_pos hrm]);have htk:(wL first B.dt).take (i+1)=(wL first B.dt).take i++ [((B.dt.idxOf r:Nat):Int)]:=by
   rw[Bx];unfold wL;rw[Az,Ab hlt];have:first[i]=(r:Int):=by rw[<-hr,Ad,Ab hlt];rfl
   rw[this,Ep,Ay];rfl
  have hjl:((wL first B.dt).take i).length=i:=by rw[Bv,hnumL];omega
  have he1:=fun(F:Fr) (id:Nat) (h:aC 40 F= .int .i64 ((B.dt.idxOf r:Nat):Int))=>jS (t:=3) (z:=.int .i64 0) (x:=.t 40) (F:=F) (id:=id) (k:=.i64) (n:=((B.dt.idxOf r:Nat):Int)) h;refine aD (aO (aD (aL ?_)));refine ff p29 p31 @aJ f1 f3 ?_;refine cA (gj p5 p10 @aB @aA (dG gX) lcm hlk ?_);refine fW (he1 _ _ (aq)) ?_;intro U u1 u2 u3;try refine am ?_
  have⟨jv',V,eA,gA,bA,nA,kA⟩:=fP.push (bytes:=8) (S0:=⟨U.h,Y0.nx⟩) (S:=U) (t:=X.nx) (w:=((B.dt.idxOf r:Nat):Int)) (hj.step u1) ⟨by show Y0.nx<=U.nx;omega,fun _ _=>rfl⟩ u3 (by rw[hjl];unfold room;omega) (by rw[hjl];unfold room;omega);rw[<-htk] at gA;refine fN (fun call=>by exact fl @fK eA) ?_;have hcl:jv'.cells=some [jv']:=gA.cells;have lob:ob<X.nx:=by omega
  have jne:aM jv≠some ob:=fun e=>by have:=(hj.blk e).1;omega
  have gXV:V.h.get ob=some (.cells [.int .i64 g.cm,na,ia,jv,qv,.sl X5.nx 0 g.cg.length g.cg.length false] false 0):=(kA ob au jne).trans ((u1.2 _ lob).trans gX);refine ft p10 @aB @aA ?_;refine fN (v:=.undef) (S1:=⟨V.h.set ob (some (.cells [.int .i64 g.cm,na,ia,jv',qv,.sl X5.nx 0 g.cg.length g.cg.length false] false 0)),V.nx⟩) (fun call=>by exact ft @dL hcl @aH (xO (cs:=[.int .i64 g.cm,na,ia,jv,qv,.sl X5.nx 0 g.cg.length g.cg.length false]) (p:=3) (S:=V) gXV (by simp))) ?_;refine am ?_;obtain⟨X1,hX1⟩:∃X1:St,X1=⟨V.h.set ob (some (.cells [.int .i64 g.cm,na,ia,jv',qv,.sl X5.nx 0 g.cg.length g.cg.length false] false 0)),V.nx⟩:=⟨_,rfl⟩;rw[<-hX1];have nX1:X1.nx=V.nx:=by rw[hX1]
  have nV:=nA;have g1:X1.h.get ob=some (.cells [.int .i64 g.cm,na,ia,jv',qv,.sl X5.nx 0 g.cg.length g.cg.length false] false 0):=by rw[hX1];simp only;rw[ef,if_pos rfl]
  have k1:∀c,c<X.nx->c≠ob->aM jv≠some c->X1.h.get c=X.h.get c:=fun c hc h1 h2=>by
   rw[hX1];simp only;rw[ef,if_neg h1,kA c au h2];exact u1.2 c hc
  have hj1:fP 1 Y0 X1 jv' ((wL first B.dt).take (i+1)).length (bD ((wL first B.dt).take (i+1))):=fP.move (S:=V) (by exact gA) au fun c hc=>by
   rw[bA] at hc;cases hc;rw[hX1];simp only;rw[ef,if_neg au]
  have qno:∀ {c},aM qv=some c->c<X.nx/\c≠ob/\aM jv≠some c:=fun hc=>⟨(hq.blk hc).2.1,by have:=(hq.blk hc).1;omega,fun e=>(hd _ e).1 hc⟩;have hq1:fP 1 Y0 X1 qv i cs:=hq.move au fun c hc=>k1 c (qno hc).1 (qno hc).2.1 (qno hc).2.2;have hRw1:qU Y0 X1 qv cs (act.take i):=hRw.moveR au fun r hr c hc h0=>k1 c (hRw.low hr hc) au fun e=>(hd c e).2 r hr hc;have sS1:Same S X1:=⟨ax sSX.1,fun c hc=>(k1 c (ax sSX.1) (ax sSY.1) (fun e=>by have:=(hj.blk e).1;have:=sSY.1;omega)).trans (sSX.2 c hc)⟩;have gl1:=(k1 S.nx (ax sSY.1) (ax sSY.1) (fun e=>by have:=(hj.blk e).1;have:=sSY.1;omega)).trans glX;have hal:i<act.length:=by rw[hR.1];omega
  have⟨rb,rq,ra,r1,r2,r3,r4⟩:=aDK (aG.same (E:=nK) fM ha sS1) hal;have hrlen:=(hR.2 i au).1;have hacl:(act.getD i []).length<=100000:=by
   rw[hrlen];have⟨f1,_,_⟩:=Gg.fst i au;have:=Gg.nxt _ f1;unfold fJ;rw[xV Gg au];omega
  refine aQm (S0:=Y0) (ob:=ob) (lb:=S.nx) (br:=rb) (qr:=rq) (i:=i) (n:=i) (qv:=qv) (fv:=fv) (av:=av) (a:=ra) (cs:=cs) (l:=act.getD i []) H rfl (ah p10) (ah p2) (af) g1 gl1 au (by have:=sS1.1;have:=sSY.1;omega) r1 (r4 X1 (eu _)) r3 r2 hacl (aG.self ha) hq1 au au  ?_;intro F' Z rr qv' hk nZ gZ kZ hrr hgZ hbr hbp;have h2':=hk 2 au;have h4':=hk 4 au;have h5':=hk 5 au;have h10':=hk 10 au;have h29':=hk 29 au;have h30':=hk 30 au;have h31':=hk 31 au;simp only[↓sU,sD,rE,↓reduceIte,rA,p2,p4,p5,p10,p29,p30,p31] at h2' h4' h5' h10' h29' h30' h31';have hRZ:=hRw1.push (Z:=Z) (l:=act.getD i []) au nZ (fun c h1 h2 h3=>kZ c h1 au h3) hrr hbr hbp;have hta:act.take (i+1)=act.take i++ [act.getD i []]:=aLy hal;rw[<-hta] at hRZ;have jbk:∀ {c},aM jv'=some c->c=U.nx:=fun hc=>by rw[bA] at hc;exact(Bh hc).symm
  try refine ae ?_
  refine aL (ew h31' w1 ?_);refine⟨k - 1,au,rfl,au,fun c hc hne=>?_,i+1,jv',qv',_,au,gZ,?_,hgZ,hRZ,fun c hc=>⟨fun e=>?_,fun r' hr' e=>?_⟩,by refine⟨?_,?_,?_,?_,?_,?_,?_⟩<;>simp only[↓sU,sD,rE,↓reduceIte,rA,h2',h4',h5',h10',h29',h30']⟩
  ·exact(kZ c au hne (fun e=>by have:=(hq.blk e).1;omega)).trans ((k1 c au hne (fun e=>by have:=(hj.blk e).1;omega)).trans (kX c hc hne))
  ·exact hj1.move nZ fun c hc=>kZ c (by have:=jbk hc;omega) (by have:=jbk hc;omega) fun e=>by have:=jbk hc;have:=(qno e).1;omega
  ·have:=jbk hc;have:=hbp c e;omega
  ·have:=jbk hc;rcases Bi.1 hr' with h | h
   ·have:=hRw.low h e;omega
   ·rw[Cc.1 h] at e;have:=(hbr c e).1;omega
 rintro o ⟨F3,inr⟩ W ⟨rfl,q0,nW,kW,i,jv,qv,cs,hik,gW,hj,hq,hR',hd,r2,r4',r5,r10, -, -, -⟩;simp only at q0 r2 r4' r5 r10;subst q0;obtain rfl:i=first.length:=by omega
 have cW:∀c,c<Y.nx->W.h.get c=Y.h.get c:=fun c hc=>(kW c au au).trans (sY0.2 c hc);have lall:=mB (n:=6) gW rfl;have g4W:=(cW _ l4).trans g4Y;refine cA (ft r4' r10 lall ?_);refine cQ (b:=r4) (cs':=[.int .i64 g.cm,na,ia,jv,qv,.sl X5.nx 0 g.cg.length g.cg.length false]) (ar r4') (by exact am (aY _)) g4W rfl rfl ?_;intro V v1 n1' d4;try refine am ?_
 have ld4:=mB (n:=6) d4 rfl;refine aT (ft r4' @dE ld4 ?_);refine⟨⟨by have:=sSY.1;have:=v1.1;omega,fun c hc=>(v1.2 c (ax sSY.1) au).trans ((cW c (ax sSY.1)).trans (sSY.2 c hc))⟩,fun V2 hn2 hk2=>?_⟩;have hV:∀c,c≠r4->S.nx<=c->c<W.nx->V2.h.get c=W.h.get c:=fun c hc h0 hl=>(hk2 c h0 (Ae hl v1.1)).trans (v1.2 c hl hc);have nV:W.nx<=V2.nx:=Av v1.1 hn2;have l00:=s03.1;have hbV:=hbY.nodesM (X':=V2) au fun c h0 hc=>(hV c au au au).trans (cW c hc);have hnV:=hbV.cg;have hiV:=hbV.ch;rw[a2,<-hna] at hnV;rw[a3,<-hia] at hiV;rw[Bd (by rw[hnumL];exact Af _)] at hj;rw[Bd (by rw[hR.1,hFl];exact Af _)] at hR';have lYS:=sSY.1;have hqV:fP 1 Y0 V2 qv first.length cs:=hq.move nV fun c hc=>hV c (by have:=(hq.blk hc).1;omega) (by have:=(hq.blk hc).1;omega) (hq.blk hc).2.1;have hjV:fP 1 Y0 V2 jv (wL first B.dt).length (bD (wL first B.dt)):=hj.move nV fun c hc=>hV c (by have:=(hj.blk hc).1;omega) (by have:=(hj.blk hc).1;omega) (hj.blk hc).2.1;have hRV:qU Y0 V2 qv cs act:=hR'.moveR nV fun r hr c hc h0=>hV c au au  (hR'.low hr hc);have gqV:=(hV X5.nx au au au).trans ((cW _ lq).trans gqY);refine⟨na,ia,jv,qv,_,rfl,?_,?_,by rw[hB];exact hjV.is,hRV.is hqV (by rw[hR.1,hFl]),?_⟩
 ·rw[hB];exact hnV
 ·rw[hB];exact hiV
 ·rw[hB];refine .inr ⟨X5.nx,0,g.cg.length,false,bD (vK (List.replicate g.cg.length 0) 0 B.olds),by rw[hT5],by rw[hT5];exact Af _,au,by unfold cI;rw[gqV];rfl,fun i x hi=>?_⟩;rw[Am];unfold bD;rw[Az,hi];rfl
def aMS:AV:=.agg [je 0,.ct,.ct,.ct,.ct,.ct]
def aQG(g:aX)(L:bt)(Z:St)(r:AV):Prop:=(pM g L≠0/\r= .tup [aMS,je (pM g L)])\/(pM g L=0/\∃first,vC g.ch.length (tY g.ch.length (L.map (dx g))) first/\((Dup g L first/\r= .tup [aMS,je 13])\/(¬Dup g L first/\∃act,sL g L first act/\∃v,r= .tup [v,je 0]/\aQt g first act Z v)))
def aG1(h:dC g=0):∀i,i<g.cg.length->(cu g i).weights.length<=100000:=fun i hi=>by
 have G:=uU h;have a:gQ g.cm g.ch.length (cu g i)=0:=by
  unfold dC at h;split at h
  .cases h
  split at h
  .rename_i d;exact absurd h d
  rename_i e;exact jF (Dx.1 e) _ (Ar (dI hi))
 rcases G.knd i hi with b|b|b
 .have:=G.good.wts i hi b;have:=G.good.nxt i hi;omega
 .unfold gQ at a;rw[if_neg au,if_pos b] at a;split at a
  .cases a
  .rename_i c;unfold vD at c;omega
 .unfold gQ at a;rw[if_neg au,if_neg au,if_pos b] at a;split at a
  .cases a
  .rename_i c;unfold oM at c;omega
def aGB(a:vC g.ch.length (tY g.ch.length (L.map (dx g))) first):∀s,s<g.ch.length->∃r:Nat,first.getD s 0=(r:Int)/\r<g.ch.length:=fun s b=>by
 have c:=a.le s b;exact⟨(first.getD s 0).toNat,au,au⟩
def aEG{mv:AV}(H:Has fns)(J:aG 6 cF S nv g.cg)(hi:aG 2 cE S iv g.ch)(w:g.cg.length<=100000)(x:aG 1 nK S mv L):
  iI fns (.fn 7 [] []) [.agg [je g.cm,nv,iv],mv] S fun r K=>Same S K/\aQG g L K r:=by
 have hz:∀ (F:Fr) (h:Ev.T AB),gO (.build [je 0,.ct,.ct,.ct,.ct,.ct] []) F h=some aMS:=fun _ _=>rfl;refine cK H.f7 (by simp) ?_;refine am (cA ?_);refine cR (by exact am (aY _)) ?_;intro S1 s1 n1 g1;refine am (bS ?_);intro S2 s2 n2 g2;refine am ?_
 have f:=s1.trans s2;have M:S2.h.get S.nx=_:=(s2.2 _ au).trans g1;refine cA (fl (gK M) ?_);refine bK (am (aW (tN H (aG.same (E:=cF) bQ J f) (aG.same (E:=cE) cB hi f) w (aG.same (E:=nK) fM x f)) ?_));rintro _ N ⟨s3,fv,av,e,rfl,O⟩;refine fo @xP @xN ?_;refine bS ?_;intro S4 s4 n4 g4
 refine cQ (b:=N.nx) (cs':=[fv,av]) (aq) (by exact am (aY _)) g4 rfl rfl ?_;intro S5 s5 n5 g5;refine am ?_
 have d:Same N S5:=s5.same s4 (Af _);have a:=f.trans (s3.trans d);have c5:S5.h.get S.nx=_:=((s3.trans d).2 _ au).trans M;have Q:S5.h.get S1.nx=_:=((s3.trans d).2 _ au).trans g2;refine gH (am ?_);have y:∀ (V:St),cD S1.nx S5 V->Same S V:=fun V R=>⟨by have:=a.1;have:=R.1;omega,fun c o=>(R.2 c (ax a.1) au).trans (a.2 c o)⟩;by_cases z:e=0;rotate_left
 .refine aS (iu (Ac (show e≠0 from z))) ?_;refine cA (fl hz ?_);refine cQ (b:=S1.nx) (cs':=[je 0,.ct,.ct,.ct,.ct,.ct]) (aq) (by exact am (aY _)) Q rfl rfl ?_;intro V v1 k1 d1;refine am ?_
  have ld:=mB (n:=6) d1 rfl;refine aT (fo @dE @ld ?_);refine⟨y V v1,?_⟩;rcases O with⟨i,rfl,_⟩|⟨i,first,j,⟨rfl,t,_⟩|⟨rfl,_⟩⟩
  .exact .inl ⟨i,rfl⟩
  .exact .inr ⟨i,first,j,.inl ⟨t,rfl⟩⟩
  .exact absurd rfl z
 subst z;refine aQ (by simp only[↓sU,sD,rE,↓reduceIte,rA];try first | rfl | trivial) (aK ?_);refine am ?_
 rcases O with⟨i,A,_⟩|⟨i,first,j,⟨A,_⟩|⟨_,t,act,T,hf,ha⟩⟩
 .exact absurd A.symm i
 .cases A
 have⟨p,U,q⟩:=uY i;have s:∀m∈L,gT g m:=fun m x=>nS (pR q m x);have G:=uU p;have⟨Tr,hT,B,_⟩:=G.good.walk;refine cA (fo (gK c5) (aCZ g5) ?_);refine bK (am (aW (xW (first:=first) (act:=act) (Tr:=Tr) H G (vI G.good s j t T) j.len (aGB j) (aG.same (E:=cF) bQ J a) (aG.same (E:=cE) cB hi a) (hf.same d) (aG.same (E:=nK) fM ha d) hT B (aG1 p)) ?_));rintro r Y ⟨u,Z⟩;have aa:S1.nx<S5.nx:=by have:=(s3.trans d).1;omega
 obtain⟨D,I,jv,qv,pv,rfl, -⟩:=Z Y (Af _) fun _ _ _=>rfl
 have r6:Y.h.get S1.nx=_:=(u.2 _ au).trans Q;refine cQ (b:=S1.nx) (cs':=[je g.cm,D,I,jv,qv,pv]) (aq) (by exact am (aY _)) r6 rfl rfl ?_;intro V v1 k1 d1;refine am ?_
 have ld:=mB (n:=6) d1 rfl;refine aT (fo @dE @ld ?_);exact⟨⟨by have:=a.1;have:=u.1;omega,fun c o=>(v1.2 c (by have:=a.1;have:=u.1;omega) au).trans ((u.2 c (ax a.1)).trans (a.2 c o))⟩,.inr ⟨i,first,j,.inr ⟨t,act,T,_,rfl,Z V v1.1 fun c h0 o=>v1.2 c o au⟩⟩⟩
theorem aDH{lay:Nat->Nat->ce->aDm}:∀ {l:bu} (_:∀k∈l,∀i dt,(lay k.toNat i dt).dt.length<=dt.length+(lay k.toNat i dt).cg.length) {i:Nat} {dt:ce},(fZ lay l i dt).2.dt.length<=dt.length+(fZ lay l i dt).2.cg.length
 | [],_,_,_=>Af _
 | y::l,h,i,dt=>by
  unfold fZ;have b:=h y (Bk ..) i dt;have c:=aDH (l:=l) (fun k a=>h k (Bf _ a)) (i:=i+(lay y.toNat i dt).cg.length) (dt:=(lay y.toNat i dt).dt);simp only[Aj];omega
theorem aB9{g:aX}{first:bu}{act:bt}:∀ {f o i:Nat} {dt:ce},(jR g first act f o i dt).dt.length<=dt.length+(jR g first act f o i dt).cg.length
 | 0,_,_,_=>Af _
 | f+1,o,i,dt=>by
  unfold jR;have a:=aFT (first:=first) (dt:=dt) (x:=cu g o);have b:=aDH (lay:=jR g first act f) (l:=jW act (cu g o)) (fun k _ i dt=>aB9) (i:=i+1) (dt:=(jC first dt (cu g o)).1);simp only[Ax];omega
def aOj(G:eO g){s:Nat}(a:s<g.ch.length):fJ g s<=1000:=by
 rw[aDy G a];exact G.nxt _ (G.fst s a).1
end Go.Ev.Gl
