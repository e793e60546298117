import Derived.Test.YtbmodoaceepfoaaGl8
set_option linter.all false
open Nat renaming reduceEqDiff -> rE, reduceAdd -> rA
set_option maxHeartbeats 0
namespace Go.Ev.Gl
variable {fns:T fD}
variable {S S' S0 S1 X:St}{d b i n j sz t:Nat}{nv iv x y mv v:AV}{g:aP}{h:Ev.T AB}{ok:Prop}{P:St->St->AV->AV->Prop}{l:bt}{cs' cs:bu}{F:Fr}
def kE.jo{a:Nat}{pv:AV}{R Z:bt}(h:kE S d a b pv nv iv g R Z)(c:jq S S'):kE S' d a b pv nv iv g R Z:=
 ⟨h.w.jo c,(c.2 _ h.bp).trans h.gp,(c.2 _ h.bz).trans h.gz,h.lp,h.lz,Ae h.bp c.1,Ae h.bz c.1⟩
def aSA(fns:Ev.T fD)(S:St)(nv iv mv:AV)(g:aP)(m:bt)(ok:Prop)(P:St->St->AV->AV->Prop):Prop:=
 cR g=0->m.length=g.ce.length->aBh m g.ce.length->¬aFs m->∀ (S0:St) (d b c:Nat) (pv:AV) (T:List cL) (Z:bt),jq S S0->fY g=some T->T.length=g.ce.length->bN .i64 S0 pv (T.map (·.1))->kE S0 d b c pv nv iv g (mS g) Z->
  iK fns (.fn 78 [] []) [.ptr d 0,mv] S0 fun r a=>jq S0 a/\∃x y t,r= .tup [.agg [x,y],.bool t]/\(t=true↔ok)/\(t=true->P S0 a x y)
noncomputable def aAc(g:aP)(m:bt)(ok:Prop):Int:=if cR g≠0 then cR g else jT g.ce.length m ok
abbrev aJx(P:St->St->AV->AV->Prop):Prop:=∀ {S0 S1 a:St} {x y:AV},P S0 S1 x y->S1.nx<=a.nx->(∀c,S0.nx<=c->c<S1.nx->a.h.get c=S1.h.get c)->P S0 a x y
def aVF{o:Bool}{s:Nat}(a:h.get b=some (.cells [x,y] o s)):eE (.ptr b (0+0)) false 1 h=some x:=zP a rfl
def aU6{o:Bool}{s:Nat}(a:h.get b=some (.cells [x,y] o s)):eE (.ptr b (0+1)) false 1 h=some y:=zP a rfl
def aJK{m:bt}(H:Has fns)(z:aJx P)(B:aE 6 bT S nv g.ce)(hi:aE 2 cC S iv g.cg)(D:bN .i64 S mv m)(k:g.ce.length<=100000)(l:aSA fns S nv iv mv g m ok P):
  iK fns (.fn 49 [] []) [.agg [jr g.ch,nv,iv],mv] S fun r S'=>jq S S'/\∃x y,r= .tup [x,jr (aAc g m ok)]/\(aAc g m ok≠0->x= .cr)/\(aAc g m ok=0->∃S0,S.nx<=S0.nx/\P S0 S' x y):=by
 refine cJ H.f49 (by simp) ?_;refine ae ?_;apply bS;refine dC (by refine ae ?_;exact bB _) ?_;intro S1 s1 n1 G;refine ae ?_;refine bS (c8 (gE G) ?_);refine bJ (ae ?_);refine aW (aCz H (aE.jo (E:=bT) bF B s1) (aE.jo (E:=cC) bQ hi s1) k) ?_;rintro _ X ⟨J,p,rfl,o⟩;have j:=s1.trans J;refine ae ?_;refine fZ (ae ?_);by_cases d:cR g=0;rotate_left
 .have K:aAc g m ok=cR g:=by unfold aAc;rw[if_pos d]
  rw[K];refine aM (ja (Ac (show cR g≠0 from d))) ?_;refine bS (ae ?_);refine aS (ae ?_);exact⟨j,.cr,.cr,rfl,fun _=>rfl,fun h=>absurd h d⟩
 have L:aAc g m ok=jT g.ce.length m ok:=by unfold aAc;rw[if_neg (fun h=>h d)]
 rw[L];refine aK (ja (Aa (show ¬cR g≠0 from fun h=>h d))) (aG ?_);refine ae ?_
 obtain⟨M,q,s,pv,T,Z,rfl,_,N,t,u,C⟩:=o d;refine bS (am ?_);refine bJ (am ?_);refine aW (aAu (P:=P) (ok:=ok) H z C.w (aE.jo (E:=bT) bF B j) (D.jo j) k fun O Q R S' f=>l d O Q R S' M q s pv T Z (j.trans f) N t (u.jo f) (C.jo f)) ?_;rintro _ Y ⟨U,x,y,rfl,v,w⟩;have sY:=j.trans U;refine gh @ex0 @ex1 ?_;apply cB;intro Y1 y1 k1 e1;refine dB (b:=Y.nx) (aq) (by refine am ?_;exact bB _) e1 rfl rfl ?_;intro Y2 y2 k2 e2;refine am ?_;have i:jq Y Y2:=y2.jo y1 (Af _);refine bS (gj @aU @aT (aVF e2) ?_);refine aS (am ?_);refine⟨sY.trans i,x,y,rfl,fun h=>(w h).1,fun h=>?_⟩;have⟨S0,a,b⟩:=v h;exact⟨S0,Aq j.1 a,z b i.1 fun c _ hc=>i.2 c hc⟩
def aGw{m:bt}(H:Has fns)(z:aJx P)(B:aE 6 bT S nv g.ce)(hi:aE 2 cC S iv g.cg)(D:bN .i64 S mv m)(k:g.ce.length<=100000)(l:aSA fns S nv iv mv g m ok P):
  iK fns (.fn 50 [] []) [.agg [jr g.ch,nv,iv],mv] S fun r S'=>jq S S'/\∃x y,r= .tup [y,jr (aAc g m ok)]/\(aAc g m ok≠0->y= .cr)/\(aAc g m ok=0->∃S0,S.nx<=S0.nx/\P S0 S' x y):=by
 refine cJ H.f50 (by simp) ?_;refine ae ?_;apply bS;refine dC (by refine ae ?_;exact bB _) ?_;intro S1 s1 n1 G;refine ae ?_;refine bS (c8 (gE G) ?_);refine bJ (ae ?_);refine aW (aCz H (aE.jo (E:=bT) bF B s1) (aE.jo (E:=cC) bQ hi s1) k) ?_;rintro _ X ⟨J,p,rfl,o⟩;have j:=s1.trans J;refine ae ?_;refine fZ (ae ?_);by_cases d:cR g=0;rotate_left
 .have K:aAc g m ok=cR g:=by unfold aAc;rw[if_pos d]
  rw[K];refine aM (ja (Ac (show cR g≠0 from d))) ?_;refine bS (ae ?_);refine aS (ae ?_);exact⟨j,.cr,.cr,rfl,fun _=>rfl,fun h=>absurd h d⟩
 have L:aAc g m ok=jT g.ce.length m ok:=by unfold aAc;rw[if_neg (fun h=>h d)]
 rw[L];refine aK (ja (Aa (show ¬cR g≠0 from fun h=>h d))) (aG ?_);refine ae ?_
 obtain⟨M,q,s,pv,T,Z,rfl,_,N,t,u,C⟩:=o d;refine bS (am ?_);refine bJ (am ?_);refine aW (aAu (P:=P) (ok:=ok) H z C.w (aE.jo (E:=bT) bF B j) (D.jo j) k fun O Q R S' f=>l d O Q R S' M q s pv T Z (j.trans f) N t (u.jo f) (C.jo f)) ?_;rintro _ Y ⟨U,x,y,rfl,v,w⟩;have sY:=j.trans U;refine gh @ex0 @ex1 ?_;apply cB;intro Y1 y1 k1 e1;refine dB (b:=Y.nx) (aq) (by refine am ?_;exact bB _) e1 rfl rfl ?_;intro Y2 y2 k2 e2;refine am ?_;have i:jq Y Y2:=y2.jo y1 (Af _);refine bS (gj @aU @aT (aU6 e2) ?_);refine aS (am ?_);refine⟨sY.trans i,x,y,rfl,fun h=>(w h).2,fun h=>?_⟩;have⟨S0,a,b⟩:=v h;exact⟨S0,Aq j.1 a,z b i.1 fun c _ hc=>i.2 c hc⟩
def ct(g:aP)(i:Nat):cD:=g.ce.getD i ⟨0,0,0,[],[],[]⟩
def fW(m:bt)(i:Nat):Nat:=(m.getD i 0).toNat
def jP(g:aP)(m:bt)(i k:Nat):Int:=lK (ct g (fW m i)).ji 0 (m.getD ((ct g i).ji.getD k 0).toNat 0)
structure iQ(g:aP)(m:bt):Prop where
 root:m.getD 0 0=0
 like:∀i,i<g.ce.length->(ct g i).jk=(ct g (fW m i)).jk/\(ct g i).ji.length=(ct g (fW m i)).ji.length/\(ct g i).jn=(ct g (fW m i)).jn/\(ct g i).jl=(ct g (fW m i)).jl
 kid:∀i k,i<g.ce.length->k<(ct g i).ji.length->0<=jP g m i k
 weigh:∀i k,i<g.ce.length->k<(ct g i).ji.length->(ct g i).jk=1->(ct g i).jm.getD k 0=(ct g (fW m i)).jm.getD (jP g m i k).toNat 0
 jj:∀i j,i<g.ce.length->j<g.ce.length->(ct g i).jk=2->(ct g j).jk=2->(ct g i).jj=(ct g j).jj->(ct g (fW m i)).jj=(ct g (fW m j)).jj/\∀k,k<(ct g i).ji.length->jP g m i k=jP g m j k
 inj:∀i j,i<g.ce.length->j<g.ce.length->(ct g i).jk=2->(ct g j).jk=2->(ct g (fW m i)).jj=(ct g (fW m j)).jj->(ct g i).jj=(ct g j).jj
def fS(g:aP)(s:Nat):Nat:=kQ g.ce 0 s - 1
def dh(g:aP)(m:bt):bt:=(List.range g.cg.length).map fun s=>(ct g (fW m (fS g s))).jj
def dk(g:aP)(m:bt):bo:=(List.range g.cg.length).map fun s=>(List.range (ct g (fS g s)).ji.length).map fun k=>jP g m (fS g s) k
def aA3{x:cD}(h:g.ce[i]? =some x):ct g i=x:=by unfold ct;rw[Ad,h];rfl
def cU(h:i<g.ce.length):g.ce[i]? =some (ct g i):=by unfold ct;rw[Ad,Ab h];rfl
def iJ(g:aP)(i:Nat):dP g i=(ct g i).ji:=by
 unfold dP ct;rw[Ad];cases g.ce[i]? <;>rfl
def aF7{i:Nat}:∀ {l:List cD} {s:Nat},kQ l s i≠0->∃j x,l[j]? =some x/\kQ l s i=s+j+1/\x.jk=2/\x.jj=(i:Int)
 | [],s,h=>absurd rfl h
 | x::l,s,h=>by
  simp only[kQ] at h ⊢;by_cases a:x.jk=2/\x.jj=(i:Int)
  .rw[if_pos a];exact⟨0,x,rfl,rfl,a.1,a.2⟩
  .rw[if_neg a] at h ⊢;have⟨j,y,b,c,d,f⟩:=aF7 h;exact⟨j+1,y,by rw[Cd];exact b,by rw[c];omega,d,f⟩
def aNo{ps:Int}{x:cD}(h:gS ps b x=0)(c:ps<=4):x.jn.length<=4:=by
 unfold gS at h;split at h
 .split at h
  .cases h
  .rename_i a;unfold oS at a;omega
 .split at h
  .split at h
   .cases h
   .rename_i a;unfold uV at a;omega
  .split at h
   .split at h
    .cases h
    .rename_i a;unfold oT at a;omega
   .cases h
structure cV(g:aP):Prop where
 n1:0<g.ce.length
 n2:g.ce.length<=2000
 ni:g.cg.length<=200
 nxt:∀i,i<g.ce.length->(ct g i).ji.length<=1000
 jn:∀i,i<g.ce.length->(ct g i).jn.length<=4
 wts:∀i,i<g.ce.length->(ct g i).jk=1->(ct g i).jm.length=(ct g i).ji.length
 inf:∀i,i<g.ce.length->(ct g i).jk=2->0<=(ct g i).jj/\(ct g i).jj<g.cg.length/\(cu g (ct g i).jj).cm=(((ct g i).ji.length:Nat):Int)
 fst:∀s,s<g.cg.length->fS g s<g.ce.length/\(ct g (fS g s)).jk=2/\(ct g (fS g s)).jj=(s:Int)
 walk:∃T,fY g=some T/\T.length=g.ce.length/\WF (dP g) 0 (-1) T
def gR(h:cR g=0):cV g:=by
 unfold cR at h;split at h
 .cases h
 rename_i r;split at h
 .rename_i p;exact absurd h p
 rename_i f;have f:=Ed.1 f;cases k:fY g with
 | none=>rw[k] at h;cases h
 | some T=>
  rw[k] at h;simp only at h;split at h
  .cases h
  rename_i z;split at h
  .cases h
  unfold wU at h;split at h
  .cases h
  rename_i l;split at h
  .cases h
  rename_i o;unfold nO at r;have c:∀i,i<g.ce.length->ct g i∈g.ce:=fun i hi=>Bb (cU hi);refine⟨au,au,au,fun i hi=>aCE (jF f _ (c i hi)),fun i hi=>aNo (jF f _ (c i hi)) au,fun i hi q=>?_,fun i hi q=>?_,fun s t=>?_,T,k,au,?_⟩
  .have:=jF f _ (c i hi);unfold gS at this;rw[if_pos q] at this;split at this
   .cases this
   .rename_i u;unfold oS at u;omega
  .have⟨a,b⟩:=aCx (jF f _ (c i hi)) q;refine⟨a,b,Decidable.byContradiction fun d=>l ⟨_,c i hi,q,fun v=>d v.2⟩⟩
  .have d:kQ g.ce 0 s≠0:=fun e=>o (by
    unfold gH;exact Cp.2 ⟨s,Dp.2 t,by rw[e];rfl⟩)
   have⟨j,x,p,B,w,y⟩:=aF7 d;have e:fS g s=j:=by unfold fS;omega
   rw[e,aA3 p];exact⟨(Aj.1 p).1,w,y⟩
  .unfold fY at k;exact jR k
def aDf(g:aP)(m:bt)(i:Nat):Prop:=(ct g i).jk=(ct g (fW m i)).jk/\(ct g i).ji.length=(ct g (fW m i)).ji.length/\(ct g i).jn=(ct g (fW m i)).jn/\(ct g i).jl=(ct g (fW m i)).jl
def aBM(g:aP)(m:bt)(i k:Nat):Prop:=(ct g i).jk=1->(ct g i).jm.getD k 0=(ct g (fW m i)).jm.getD (jP g m i k).toNat 0
structure Seen(g:aP)(m:bt)(V:Nat->Prop)(W:Nat->Nat->Prop)(I:bt)(A:bo):Prop where
 li:I.length=g.cg.length
 la:A.length=g.cg.length
 ls:∀s,s<g.cg.length->(((A.getD s []).length:Nat):Int)=(cu g (s:Int)).cm
 iv:∀j,j<g.ce.length->V j->(ct g j).jk=2->I.getD (ct g j).jj.toNat 0=(ct g (fW m j)).jj
 iw:∀s,s<g.cg.length->0<=I.getD s 0->∃j,j<g.ce.length/\V j/\(ct g j).jk=2/\(ct g j).jj=(s:Int)
 lk:∀j,j<g.ce.length->V j->aDf g m j
 kd:∀j k,j<g.ce.length->k<(ct g j).ji.length->W j k->0<=jP g m j k/\aBM g m j k/\((ct g j).jk=2->(A.getD (ct g j).jj.toNat []).getD k 0=jP g m j k)
structure aBc(g:aP)(m:bt):Prop where
 len:m.length=g.ce.length
 inn:aBh m g.ce.length
section
variable {g:aP}{m:bt}{V V':Nat->Prop}{W W':Nat->Nat->Prop}{I:bt}{A:bo}
def aBc.at(h:aBc g m)(hi:i<g.ce.length):m.getD i 0=((fW m i:Nat):Int)/\fW m i<g.ce.length:=by
 have b:i<m.length:=by rw[h.len];exact hi
 have a:m.getD i 0∈m:=by rw[Ad,Ab b];exact Bl _
 have:=h.inn _ a;unfold fW;omega
def Seen.congr(h:Seen g m V W I A)(f:∀j,j<g.ce.length->(V j↔V' j))(o:∀j k,j<g.ce.length->k<(ct g j).ji.length->W' j k->W j k):Seen g m V' W' I A:=
 ⟨h.li,h.la,h.ls,fun j d i=>h.iv j d ((f j d).2 i),fun s p q=>by have⟨j,a,b,c⟩:=h.iw s p q;exact⟨j,a,(f j a).1 b,c⟩,fun j d i=>h.lk j d ((f j d).2 i),fun j k d l r=>h.kd j k d l (o j k d l r)⟩
def oR{x:Int}(a:n<l.length):(l.set n x).getD j 0=if n=j then x else l.getD j 0:=by
 rw[Ad,De];split
 .rfl
 .rw[Ad]
def vB{l:bo}{x:bt}(a:n<l.length):(l.set n x).getD j []=if n=j then x else l.getD j []:=by
 rw[Ad,De];split
 .rfl
 .rw[Ad]
def rM(G:cV g)(M:aBc g m)(hi:i<g.ce.length)(a:aDf g m i)(b:(ct g i).jk=2):0<=(ct g (fW m i)).jj/\(ct g (fW m i)).jj<g.cg.length:=by
 have:=G.inf (fW m i) (M.at hi).2 (by rw[<-a.1];exact b);exact⟨this.1,this.2.1⟩
def Seen.node(h:Seen g m V W I A)(l:aDf g m i)(o:(ct g i).jk≠2):Seen g m (fun j=>V j\/j=i) W I A:=
 ⟨h.li,h.la,h.ls,fun j k d f=>by
  rcases d with d|rfl
  .exact h.iv j k d f
  .exact absurd f o,fun s p q=>by have⟨j,a,b,c⟩:=h.iw s p q;exact⟨j,a,.inl b,c⟩,fun j k d=>by
  rcases d with d|rfl
  .exact h.lk j k d
  .exact l,h.kd⟩
def Seen.nodeM(G:cV g)(M:aBc g m)(h:Seen g m V W I A)(hi:i<g.ce.length)(q:aDf g m i)(p:(ct g i).jk=2)(r:0<=I.getD (ct g i).jj.toNat 0->I.getD (ct g i).jj.toNat 0=(ct g (fW m i)).jj):Seen g m (fun j=>V j\/j=i) W (I.set (ct g i).jj.toNat (ct g (fW m i)).jj) A:=by
 have⟨v,w,a3⟩:=G.inf i hi p;have l:(ct g i).jj.toNat<I.length:=by rw[h.li];omega
 refine⟨by rw[Ar];exact h.li,h.la,h.ls,fun j k d f=>?_,fun s t o=>?_,fun j k d=>?_,h.kd⟩
 .rw[oR l];have⟨x,y,z⟩:=G.inf j k f;rcases d with d|rfl
  .have:=h.iv j k d f;split
   .rename_i e;have u:(ct g j).jj=(ct g i).jj:=by omega
    rw[u] at this;have:=r (by rw[this];exact(rM G M k (h.lk j k d) f).1);omega
   .exact this
  .rw[if_pos rfl]
 .rw[oR l] at o;split at o
  .rename_i e;exact⟨i,hi,.inr rfl,p,au⟩
  .have⟨j,a,b,c⟩:=h.iw s t o;exact⟨j,a,.inl b,c⟩
 .rcases d with d|rfl
  .exact h.lk j k d
  .exact q
def Seen.kid(h:Seen g m V W I A){k:Nat}(c:0<=jP g m i k)(d:aBM g m i k)(f:(ct g i).jk≠2):Seen g m V (fun j k'=>W j k'\/(j=i/\k'=k)) I A:=
 ⟨h.li,h.la,h.ls,h.iv,h.iw,h.lk,fun j k' l a b=>by
  rcases b with b|⟨rfl,rfl⟩
  .exact h.kd j k' l a b
  .exact⟨c,d,fun e=>absurd e f⟩⟩
def Seen.kidM(G:cV g)(h:Seen g m V W I A){k:Nat}(hi:i<g.ce.length)(t:k<(ct g i).ji.length)(u:0<=jP g m i k)(v:aBM g m i k)(w:(ct g i).jk=2)
  (x:∀j,j<g.ce.length->W j k->(ct g j).jk=2->(ct g j).jj=(ct g i).jj->(A.getD (ct g i).jj.toNat []).getD k 0=jP g m i k):
  Seen g m V (fun j k'=>W j k'\/(j=i/\k'=k)) I (A.set (ct g i).jj.toNat ((A.getD (ct g i).jj.toNat []).set k (jP g m i k))):=by
 have⟨B,C,a3⟩:=G.inf i hi w;have b:(ct g i).jj.toNat<A.length:=by rw[h.la];omega
 have f:=h.ls (ct g i).jj.toNat au;rw[show(((ct g i).jj.toNat:Nat):Int)=(ct g i).jj by omega,a3] at f;refine⟨h.li,by rw[Ar];exact h.la,fun s p=>?_,h.iv,h.iw,h.lk,fun j k' l o c=>?_⟩
 .rw[vB b];split
  .rename_i e;rw[Ar,e];exact h.ls s p
  .exact h.ls s p
 .have key:(ct g j).jk=2->((A.set (ct g i).jj.toNat ((A.getD (ct g i).jj.toNat []).set k (jP g m i k))).getD (ct g j).jj.toNat []).getD k' 0=if(ct g j).jj=(ct g i).jj/\k=k' then jP g m i k else(A.getD (ct g j).jj.toNat []).getD k' 0:=fun a=>by
   have⟨D,E,H⟩:=G.inf j l a;rw[vB b];by_cases e:(ct g j).jj=(ct g i).jj
   .rw[if_pos (by rw[e]),oR au,e];by_cases d:k=k'
    .rw[if_pos d,if_pos ⟨rfl,d⟩]
    .rw[if_neg d,if_neg (fun h=>d h.2)]
   .rw[if_neg au,if_neg (fun h=>e h.1)]
  rcases c with c|⟨rfl,rfl⟩
  .have⟨y,z,q⟩:=h.kd j k' l o c;refine⟨y,z,fun a=>?_⟩;rw[key a];split
   .rename_i e;obtain⟨r,rfl⟩:=e;have:=q a;rw[<-x j l c a r,<-r];exact this
   .exact q a
  .exact⟨u,v,fun a=>by rw[key a,if_pos ⟨rfl,rfl⟩]⟩
def aKx(hi:i<g.ce.length)(h:¬aDf g m i):¬iQ g m:=fun a=>h (a.like i hi)
def aO0{k:Nat}(hi:i<g.ce.length)(b:k<(ct g i).ji.length)(h:¬0<=jP g m i k):¬iQ g m:=fun a=>h (a.kid i k hi b)
def aHQ{k:Nat}(hi:i<g.ce.length)(b:k<(ct g i).ji.length)(h:¬aBM g m i k):¬iQ g m:=fun a=>h (a.weigh i k hi b)
def Seen.no_info(h:Seen g m V W I A)(G:cV g)(hi:i<g.ce.length)(b:(ct g i).jk=2)(f:0<=I.getD (ct g i).jj.toNat 0)(k:I.getD (ct g i).jj.toNat 0≠(ct g (fW m i)).jj):¬iQ g m:=fun a=>by
 have⟨o,p,a3⟩:=G.inf i hi b;have⟨j,c,l,d,b4⟩:=h.iw _ au f;have e:(ct g j).jj=(ct g i).jj:=by omega
 have:=h.iv j c l d;rw[e] at this;exact k (this.trans (a.jj j i c hi d b e).1)
def Seen.no_act(h:Seen g m V W I A)(G:cV g){k:Nat}(hi:i<g.ce.length)(c:j<g.ce.length)(d:(ct g i).jk=2)(b:(ct g j).jk=2)(e:(ct g j).jj=(ct g i).jj)(f:k<(ct g i).ji.length)(l:W j k)(o:(A.getD (ct g i).jj.toNat []).getD k 0≠jP g m i k):¬iQ g m:=fun a=>by
 have a3:=(G.inf i hi d).2.2;have p:=(G.inf j c b).2.2;rw[e,a3] at p;have:=(h.kd j k c au l).2.2 b;rw[e] at this;exact o (this.trans ((a.jj j i c hi b d e).2 k au))
def Seen.no_inj(h:Seen g m (fun _=>True) W I A)(G:cV g){a:Nat}(j:a<g.cg.length)(k:b<g.cg.length)(l:b≠a)(o:I.getD a 0=I.getD b 0):¬iQ g m:=fun u=>by
 have⟨f1,f2,f3⟩:=G.fst a j;have⟨c,d,p⟩:=G.fst b k;have f:=h.iv _ f1 trivial f2;have i:=h.iv _ c trivial d;rw[f3,Am] at f;rw[p,Am] at i;have:=u.inj _ _ f1 c f2 d (by rw[<-f,<-i,o]);omega
def Seen.inj(h:Seen g m (fun _=>True) W I A)(G:cV g)(k:∀a b,b<a->a<g.cg.length->I.getD a 0≠I.getD b 0):∀i j,i<g.ce.length->j<g.ce.length->(ct g i).jk=2->(ct g j).jk=2->(ct g (fW m i)).jj=(ct g (fW m j)).jj->(ct g i).jj=(ct g j).jj:=fun i j hi l c d e=>by
 have⟨q,r,_⟩:=G.inf i hi c;have⟨s,t,_⟩:=G.inf j l d;have o:=h.iv i hi trivial c;have p:=h.iv j l trivial d;rcases Ei (ct g i).jj.toNat (ct g j).jj.toNat with f|f|f
 .exact absurd (by rw[o,p,e]) (k _ _ f au)
 .omega
 .exact absurd (by rw[o,p,e]) (k _ _ f au)
def Seen.auto(h:Seen g m (fun _=>True) (fun _ _=>True) I A)(G:cV g)(root:m.getD 0 0=0)(inj:∀i j,i<g.ce.length->j<g.ce.length->(ct g i).jk=2->(ct g j).jk=2->(ct g (fW m i)).jj=(ct g (fW m j)).jj->(ct g i).jj=(ct g j).jj):iQ g m:=by
 refine⟨root,fun i hi=>h.lk i hi trivial,fun i k hi c=>(h.kd i k hi c trivial).1,fun i k hi c=>(h.kd i k hi c trivial).2.1,fun i j hi d a b e=>⟨?_,fun k c=>?_⟩,inj⟩
 .rw[<-h.iv i hi trivial a,<-h.iv j d trivial b,e]
 .have a3:=(G.inf i hi a).2.2;have f:=(G.inf j d b).2.2;rw[<-e,a3] at f;rw[<- (h.kd i k hi c trivial).2.2 a,<- (h.kd j k d au trivial).2.2 b,e]
def Seen.dh(h:Seen g m (fun _=>True) W I A)(G:cV g):I=dh g m:=by
 refine aLe (by rw[h.li];simp [Gl.dh]) fun s a=>?_;have a:s<g.cg.length:=by simpa [Gl.dh] using a
 have⟨f1,f2,f3⟩:=G.fst s a;have:=h.iv _ f1 trivial f2;rw[f3] at this;rw[show((s:Int)).toNat=s by omega] at this;rw[this];unfold Gl.dh;rw[Ad,Ba,Cm a];rfl
def Seen.dk(h:Seen g m V (fun _ _=>True) I A)(G:cV g):A=dk g m:=by
 refine List.ext_getElem? fun s=>?_;by_cases a:s<g.cg.length
 .have⟨f1,f2,f3⟩:=G.fst s a;have a3:=(G.inf _ f1 f2).2.2;have d:=h.ls s a;rw[f3] at a3;unfold Gl.dk;rw[Ba,Cm a,Ab (show s<A.length by rw[h.la];exact a)];have c:A[s]'(by rw[h.la];exact a)=A.getD s []:=by rw[Ad,Ab (show s<A.length by rw[h.la];exact a)];rfl
  rw[c];show some _=some _;congr 1;refine aLe (by simp only[Av,Cn];omega) fun k b=>?_;have b:k<(ct g (fS g s)).ji.length:=by simpa using b
  have:=(h.kd _ k f1 b trivial).2.2 f2;rw[f3,show((s:Int)).toNat=s by omega] at this;rw[this,Ad,Ba,Cm b];rfl
 .rw[Bv (by rw[h.la];omega),Bv (by simp [Gl.dk];omega)]
end
def tF(b:Nat)(l:bt):AV:=.sl b 0 l.length l.length false
structure Rws(S0 X:St)(bs:Nat->Nat)(cs:bu)(A:bo):Prop where
 cl:∀j,j<A.length->cs[j]? =some (tF (bs j) (A.getD j []))
 bl:∀j,j<A.length->S0.nx<=bs j/\bs j<X.nx/\X.h.get (bs j)=some (.cells (aQ (A.getD j [])) false 0)
 dj:∀j k,j<A.length->k<A.length->j≠k->bs j≠bs k
section
variable {S0 X X':St}{bs:Nat->Nat}{cs:bu}{A:bo}
def Rws.move(h:Rws S0 X bs cs A)(f:X.nx<=X'.nx)(i:∀j,j<A.length->X'.h.get (bs j)=X.h.get (bs j)):Rws S0 X' bs cs A:=
 ⟨h.cl,fun j d=>by have⟨a,b,c⟩:=h.bl j d;exact⟨a,Ae b f,(i j d).trans c⟩,h.dj⟩
def Rws.jo(h:Rws S0 X bs cs A)(a:jq X X'):Rws S0 X' bs cs A:=h.move a.1 fun j b=>a.2 _ (h.bl j b).2.1
def Rws.none:Rws S0 X bs cs []:=⟨fun j a=>absurd a (Bo j),fun j a=>absurd a (Bo j),fun j k a=>absurd a (Bo j)⟩
def aCv{l:bo}{x:bt}:(l++ [x]).getD j []=if j=l.length then x else l.getD j []:=by
 rw[Ad,Ad];by_cases h:j<l.length
 .rw[Ak h,if_neg au]
 .rw[Ao au];by_cases e:j=l.length
  .rw[if_pos e,e,Dv];rfl
  .rw[if_neg e,Bv (by simp;omega),Bv au]
def Rws.add(h:Rws S0 X bs cs A){nb:Nat}(f:S0.nx<=nb)(i:nb<X.nx)(o:X.h.get nb=js (aQ l))(a:∀j,j<A.length->bs j≠nb)(p:∀j,j<A.length->cs'[j]? =cs[j]?)(q:cs'[A.length]? =some (tF nb l)):Rws S0 X (fun j=>if j=A.length then nb else bs j) cs' (A++ [l]):=by
 refine⟨fun j b=>?_,fun j b=>?_,fun j k b r c=>?_⟩
 .rw[Ai,Ax] at b;rw[aCv]
  by_cases e:j=A.length
  .rw[if_pos e,if_pos e,e];exact q
  .rw[if_neg e,if_neg e,p j au];exact h.cl j au
 .rw[Ai,Ax] at b;rw[aCv]
  by_cases e:j=A.length
  .rw[if_pos e,if_pos e];exact⟨f,i,o⟩
  .rw[if_neg e,if_neg e];exact h.bl j au
 .rw[Ai,Ax] at b r
  by_cases e:j=A.length
  .rw[if_pos e,if_neg au];exact Ch (a k au)
  .rw[if_neg e];by_cases d:k=A.length
   .rw[if_pos d];exact a j au
   .rw[if_neg d];exact h.dj j k au au  c
def Rws.put(h:Rws S0 X bs cs A){s k:Nat}{v:Int}(f:s<A.length)(l:X.nx<=n):Rws S0 ⟨X.h.set (bs s) (js (aQ ((A.getD s []).set k v))),n⟩ bs cs (A.set s ((A.getD s []).set k v)):=by
 refine⟨fun j d=>?_,fun j d=>?_,fun j k d i=>?_⟩
 .rw[Ar] at d;rw[vB f,h.cl j d];split
  .rename_i e;unfold tF;rw[Ar,e]
  .rfl
 .rw[Ar] at d;rw[vB f];have⟨a,b,c⟩:=h.bl j d;refine⟨a,Ae b l,?_⟩;simp only
  rw[dx];by_cases e:s=j
  .rw[if_pos e,if_pos (by rw[e])]
  .rw[if_neg e,if_neg (h.dj j s d f (Ch e))];exact c
 .rw[Ar] at d i;exact h.dj j k d i
def Rws.is(h:Rws S0 X bs cs A){ob cap:Nat}{o c:Bool}(b:X.h.get ob=some (.cells cs o sz))(lt:ob<X.nx)(p:A.length<=cap):aE 1 nM X (.sl ob 0 A.length cap c) A:=by
 refine .inr ⟨ob,0,cap,c,cs,rfl,p,lt,by unfold cG;rw[b];rfl,fun i l hi=>?_⟩;have a:=(Aj.1 hi).1;have e:A.getD i []=l:=by rw[Ad,hi];rfl
 have d:=h.cl i a;have⟨_,q,f⟩:=h.bl i a;rw[e] at d f;refine⟨[tF (bs i) l],rfl,fun j x k=>?_,_,rfl,xK f q rfl⟩;cases j with
 | zero=>
  cases k;rw[An,Ec,Bw];exact d
 | succ j=>simp at k
end
def fC.push1{bytes:Nat}(h:fC 1 S0 S v n cs)(i:jq S0 S)(l:S.h.get t=js [x])(o:n+1<=room)(d:(n+1) * bytes<=room):
  ∃v' S',gQ bytes 1 v (.sl t 0 1 1 false) S=some (v',S')/\fC 1 S0 S' v' (n+1) (cs++ [x])/\aN v'=some S.nx/\S'.nx=S.nx+1/\∀c,c<S.nx->aN v≠some c->S'.h.get c=S.h.get c:=by
 have k:=aRG l;rcases h with⟨rfl,rfl,rfl⟩|⟨b,rfl,p,w,q,a⟩
 .refine⟨.sl S.nx 0 1 1 true,⟨S.h.set S.nx (some (.cells [x] true 1)),S.nx+1⟩,?_,.inr ⟨S.nx,by rw[An],i.1,by simp,?_,?_⟩,rfl,rfl,fun c a _=>(jq.alloc S _).2 c a⟩
  .show(bD (some 1) fun j=>bD (eS (.sl t 0 1 1 false) S.h 1 j) fun new=>aAz .cr bytes 1 j new S)=_;rw[aH,k,aH];show qV bytes 1 1 [x] S=_;unfold qV;rw[show Nat.beq 1 0=false from rfl,aR,Al au,aL,Al (by rw[An] at d;exact d),aL];rfl
  .simp only;rw[dx,if_pos rfl];rfl
  .rfl
 .refine⟨.sl S.nx 0 (n+1) (n+1) true,⟨(S.h.set b none).set S.nx (some (.cells (cs++ [x]) true 1)),S.nx+1⟩,?_,.inr ⟨S.nx,rfl,i.1,by simp,?_,by rw[Ai,a,Ax,Dl,Fu]⟩,rfl,rfl,fun c a f=>?_⟩
  .show(bD (some 1) fun j=>bD (eS (.sl t 0 1 1 false) S.h 1 j) fun new=>aAz (.sl b 0 n n true) bytes 1 j new S)=_;rw[aH,k,aH];show lP bytes 1 b 0 n n true 1 [x] S=_;unfold lP;have r:Nat.ble (n+1) n=false:=by rw[Ck];intro h;have:=Bd h;omega
   rw[r,aR,Al o,aL,Al d,aL,q,aH];have s:cut cs 0 (n * 1)=some cs:=by
    unfold cut;rw[iA,iG,Di,if_pos au,Bh au]
   have u:Nat.beq (0+n * 1) (mF cs)=true:=by rw[gJ,a,Bn];omega
   simp only[xJ,s,aH,aL,u,show Nat.beq 1 1=true from rfl,grown,fT]
  .simp only;rw[dx,if_pos rfl]
  .simp only;have:c≠b:=fun e=>f (by rw[e];rfl);rw[dx,if_neg au,dx,if_neg this]
def aSB{c:Nat}{o:Bool}{z:AV}{x:cQ}{id:Nat}(a:x.val F= .sl b 0 n c o):uI (.c7 t 1 1 [z] [(0,x)]) F id=some (.sl id 0 1 1 false,.cells [.sl b 0 n c o] false 0):=by
 show(bD (eO (repeatL [z] 1) [(0 * 1,1,x.val F)]) fun cs=>some (AV.sl id 0 1 1 false,AB.cells cs false 0))=_;rw[a];rfl
def fC.move{k:Nat}(h:fC k S0 S v n cs)(a:S.nx<=S'.nx)(d:∀c,aN v=some c->S'.h.get c=S.h.get c):fC k S0 S' v n cs:=by
 rcases h with h|⟨b,rfl,f,i,j,l⟩
 .exact .inl h
 .exact .inr ⟨b,rfl,f,Ae i a,(d b rfl).trans j,l⟩
def fC.csl{k:Nat}(h:fC k S0 S v n cs):cs.length=n * k:=by
 rcases h with⟨_,rfl,rfl⟩|⟨b,_,_,_,_,a⟩
 .rw[Dz];rfl
 .exact a
def bN.place{k:IntKind}(h:bN k S v l)(hi:i<l.length):∃b p,aA7 v i= .ptr b p/\b<S.nx:=by
 rcases h with⟨a,_⟩|⟨b,off,cap,o,cs,rfl,_,c,_⟩
 .rw[a] at hi;exact absurd hi (Bo _)
 .exact⟨b,_,rfl,c⟩
def aKO{a s:Nat}(c:h.get a=some (.cells cs false s))(f:h.get b=some (.cells cs' true d)):a≠b:=fun e=>by
 rw[e,f] at c;have⟨_,i,_⟩:=AB.cells.inj (Bk c);cases i
def aOX{W:Nat->Prop}{D:Ev.T AB}{base:Nat}{Q:Fr->St->List jD->Prop}{a m1 y l o:Nat}{z d h:bu}{t1 t2 B p:cQ}(q:Nat.testBit m1 l=true)(r:Nat.testBit m1 o=true)(s:lL (some i) y=true)
  (E:t1.val F= .ptr a 0) (G:t2.val F= .ptr b 0) (t:(B.val F).cells=some d) (u:(p.val F).cells=some h) (C:z.length=n) (H:d.length=n) (J:h.length=n) (f:a≠b) (K:base<=a) (L:base<=b)
  (M:∀S',S'.nx=S.nx->S'.h.get a=js d->S'.h.get b=js h->(∀c,c≠a->c≠b->S'.h.get c=S.h.get c)->Q F S' []):
  gO fns W D base [⟨none,.x (.st n t1 B),none,m1⟩,⟨none,.x (.st n t2 p),none,y⟩] i F S [⟨o,b,.cells z false 0⟩,⟨l,a,.cells z false 0⟩] none Q:=by
 have v:cN m1 [⟨o,b,.cells z false 0⟩,⟨l,a,.cells z false 0⟩] S.h=([],(S.h.set b (js z)).set a (js z)):=by rw[iH r,iH q,bK]
 have w:((S.h.set b (js z)).set a (js z)).get a=js z:=by rw[dx,if_pos rfl]
 have x1:=mM (S:=⟨(S.h.set b (js z)).set a (js z),S.nx⟩) (cs':=d) (n:=n) w C H;refine qC (S1:=⟨((S.h.set b (js z)).set a (js z)).set a (js d),S.nx⟩) rfl ?_ ?_ ?_
 .rw[v,E,t,aH];exact x1
 .rw[v];exact⟨Af _,fun c N _=>by simp only;rw[dx,if_neg au]⟩
 rw[v];have x:(((S.h.set b (js z)).set a (js z)).set a (js d)).get b=js z:=by rw[dx,if_neg (Ch f),dx,if_neg (Ch f),dx,if_pos rfl]
 have x2:=mM (S:=⟨((S.h.set b (js z)).set a (js z)).set a (js d),S.nx⟩) (cs':=h) (n:=n) x C J;refine qC (S1:=⟨(((S.h.set b (js z)).set a (js z)).set a (js d)).set b (js h),S.nx⟩) s ?_ ?_ ?_
 .rw[bK];show bD (p.val F).cells (fun cs=>qZ (t2.val F) n cs _)=_;rw[G,u,aH];exact x2
 .rw[bK];exact⟨Af _,fun c N _=>by simp only;rw[dx,if_neg au]⟩
 rw[bK];refine M _ rfl ?_ ?_ fun c j k=>?_
 .simp only;rw[dx,if_neg f,dx,if_pos rfl]
 .simp only;rw[dx,if_pos rfl]
 .simp only;rw[dx,if_neg k,dx,if_neg j,dx,if_neg j,dx,if_neg k]
def fC.low{k:Nat}(h:fC k S1 X v n cs)(a:S.nx<=S1.nx):fC k S X v n cs:=by
 rcases h with h|⟨b,c,d,f⟩
 .exact .inl h
 .exact .inr ⟨b,c,Aq a d,f⟩
def Rws.low{bs:Nat->Nat}{A:bo}(h:Rws S1 X bs cs A)(c:S.nx<=S1.nx):Rws S X bs cs A:=⟨h.cl,fun j d=>by have⟨a,b⟩:=h.bl j d;exact⟨Aq c a,b⟩,h.dj⟩
def aBg(g:aP):bo:=g.cg.map fun x=>List.replicate x.cm.toNat 0
def aUB(S1:St)(gb:Nat)(mv:AV)(g:aP)(k:Nat)(A:bO)(X:St):Prop:=A.inr=false/\jq S1 X/\∃i v w cs bs,i+k=g.cg.length/\fC 1 S1 X v i (aQ (List.replicate i (-1)))/\fC 1 S1 X w i cs/\Rws S1 X bs cs ((aBg g).take i)/\(∀c,aN v=some c->aN w≠some c)/\aA 1 A.F=mv/\aA 2 A.F= .ptr gb 0/\aA 4 A.F=v/\aA 5 A.F=w/\aA 7 A.F=jr (i:Int)
def aUu{m:bt}(G:cV g):Seen g m (fun j=>j<0) (fun j _=>j<0) (List.replicate g.cg.length (-1)) (aBg g):=by
 refine⟨Au ..,by unfold aBg;rw[Av],fun s a=>?_,fun j _ c=>au,fun s a d=>?_,fun j _ c=>au,fun j k _ _ c=>au⟩
 .have⟨f1,f2,f3⟩:=G.fst s a;have b:=(G.inf _ f1 f2).2.2;rw[f3] at b;have e:(aBg g).getD s []=List.replicate (cu g (s:Int)).cm.toNat 0:=by
   unfold aBg cu;rw[Ad,Ba,Ad,Am,Ab a];rfl
  rw[e,Au];omega
 .rw[Ad,Cj,if_pos a] at d;exact absurd d az
def aUq(S1:St)(gb:Nat)(mv v w:AV)(cs:bu)(bs:Nat->Nat)(g:aP)(m:bt)(k:Nat)(A:bO)(X:St):Prop:=A.inr=false/\jq S1 X/\∃i I a,i+k=g.ce.length/\fC 1 S1 X v g.cg.length (aQ I)/\fC 1 S1 X w g.cg.length cs/\Rws S1 X bs cs a/\Seen g m (fun j=>j<i) (fun j _=>j<i) I a/\aA 1 A.F=mv/\aA 2 A.F= .ptr gb 0/\aA 4 A.F=v/\aA 5 A.F=w/\aA 8 A.F=jr (i:Int)
def aAd{p:Nat}{o:Bool}(c:h.get b=some (.cells (aQ l) o sz))(a:p<l.length):eE (.ptr b p) false 1 h=some (jr (l.getD p 0)):=cM c (by
 unfold aQ;rw[Ba,Ab a,Ad,Ab a];rfl)
def qO{k:IntKind}{x:Int}(h:0<=x):gL (.int k x)=some x.toNat:=by
 obtain⟨n,rfl⟩:∃n:Nat,x=(n:Int):=⟨x.toNat,au⟩;rw[Am];exact aY ..
def nI(F:Fr)(gb xb a:Nat)(mv v w:AV)(i:Nat):Prop:=aA 1 F=mv/\aA 2 F= .ptr gb 0/\aA 4 F=v/\aA 5 F=w/\aA 8 F=jr (i:Int)/\aA 9 F= .ptr xb 0/\aA 10 F= .ptr a 0
def sI{x0 x1 x2:Int}{a b c:AV}{k:IntKind}(d:cI a a=true)(f:cI b b=true)(h:cI c c=true):cI (.agg [.int k x0,.int k x1,.int k x2,a,b,c]) (.agg [.int k x0,.int k x1,.int k x2,a,b,c])=true:=aCa (dO ..) (dO ..) (dO ..) d f h
def aKy{m:bt}{k:Nat}(h:0<=jP g m i k):(jP g m i k).toNat<(ct g (fW m i)).ji.length:=by
 unfold jP at h ⊢;rcases pZ (c:=m.getD ((ct g i).ji.getD k 0).toNat 0) (l:=(ct g (fW m i)).ji) (s:=0) with⟨a,_⟩|⟨j,a,b,_⟩
 .rw[a] at h;exact absurd h az
 .rw[a];have:=(Aj.1 b).1;omega
def aTj(S1:St)(gb xb a:Nat)(mv v w:AV)(cs:bu)(bs:Nat->Nat)(g:aP)(m:bt)(i:Nat)(d:Bool)(f h:Option AB)(k:Nat)(A:bO)(X:St):Prop:=A.inr=false/\jq S1 X/\xb<X.nx/\a<X.nx/\∃b I c,b+k=(ct g i).ji.length/\fC 1 S1 X v g.cg.length (aQ I)/\fC 1 S1 X w g.cg.length cs/\Rws S1 X bs cs c/\Seen g m (fun j=>j<i\/j=i) (fun j k'=>j<i\/(j=i/\k'<b)) I c/\nI A.F gb xb a mv v w i/\X.h.get xb=f/\X.h.get a=h/\aA 11 A.F= .bool d/\aA 12 A.F=jr (b:Int)
def aTw(c:St)(v w:AV)(I:bt)(n k:Nat)(A:bO)(X:St):Prop:=A.inr=false/\jq c X/\∃i,i+k=n/\(∀a b,b<a->a<i->I.getD a 0≠I.getD b 0)/\aA 4 A.F=v/\aA 5 A.F=w/\aA 14 A.F=jr (i:Int)
def aUK(a:St)(v w:AV)(I:bt)(i k:Nat)(A:bO)(X:St):Prop:=A.inr=false/\jq a X/\∃l,l+k=i/\(∀b,b<l->I.getD i 0≠I.getD b 0)/\aA 4 A.F=v/\aA 5 A.F=w/\aA 14 A.F=jr (i:Int)/\aA 15 A.F=jr (l:Int)
def aDX(S1:St)(g:aP)(m:bt)(A:bO)(X:St):Prop:=jq S1 X/\¬iQ g m/\aA 4 A.F= .cr/\aA 5 A.F= .cr/\aA 6 A.F= .bool false
def aTx(g:aP)(m:bt)(S S':St)(x y:AV):Prop:=fC 1 S S' x g.cg.length (aQ (dh g m))/\∃cs bs,fC 1 S S' y g.cg.length cs/\Rws S S' bs cs (dk g m)
def yY{m:bt}(H:Has fns)(hn:aE 6 bT S nv g.ce)(hi:aE 2 cC S iv g.cg)(hm:bN .i64 S mv m)(G:cV g)(M:aBc g m):
  iK fns (.fn 29 [] []) [.agg [jr g.ch,nv,iv],mv] S fun r S'=>jq S S'/\∃a b t,r= .tup [a,b,.bool t]/\(t=true↔iQ g m)/\(t=true->aTx g m S S' a b):=by
 have eo:0<m.length:=by rw[M.len];exact G.n1
 have hN:=G.n2;have hJ:=G.ni;refine cJ H.f29 (by simp) ?_;refine ae ?_;apply bS;refine dC (by refine ae ?_;exact bB _) ?_;intro S1 s1 n1 c1;refine ae ?_;have cr:S.nx<S1.nx:=by omega
 have dg:=hm.jo s1;have gi:=dg.c9 eo;have gk:=dg.ld eo;refine fZ (d8 @aKn gi gk ?_);by_cases h0:m.getD 0 0=0;rotate_left
 .refine aM (ja (Ac (show m.getD 0 0≠0 from h0))) ?_;refine bS (ae ?_);refine aS (ae ?_);exact⟨s1,_,_,false,rfl,⟨nofun,fun a=>absurd a.root h0⟩,nofun⟩
 refine aK (ja (Aa (show ¬m.getD 0 0≠0 from fun h=>h h0))) (aG ?_);refine ae ?_
 refine aB (aX (Q:=fun o J X=>o= .normal/\aUB S1 S.nx mv g 0 J X) (aB (aF ?_)) ?_)
 .refine ae ?_;refine aJ (bL (aUB S1 S.nx mv g) ?_ g.cg.length _ _ ⟨rfl,dy _,0,.cr,.cr,[],fun _=>0,au,.inl ⟨rfl,rfl,rfl⟩,.inl ⟨rfl,rfl,rfl⟩,Rws.none,(fun c N=>by cases N),af,af,af,af,af⟩);rintro k ⟨F,inr⟩ X ⟨rfl,hX,i,v,w,cs,bs,an,gv,gw,hR,cv,C,D,d,f,p7⟩;simp only at C D d f p7;have di:S.nx<X.nx:=Ae cr hX.1;have cX:X.h.get S.nx=js [jr g.ch,nv,iv]:=by rw[hX.2 _ cr];exact c1
  refine fZ (ec D p7 (jE cX) hi.len ?_);by_cases y:i<g.cg.length
  .refine aM i7 (aG ?_);refine ae ?_
   have⟨f1,f2,f3⟩:=G.fst i y;have bM:=(G.inf _ f1 f2).2.2;rw[f3] at bM;have⟨e,b,q,ep,hb,he,heq,_,gl⟩:=aE.at hi az (Ab y);have c5:g.cg[i]=cu g (i:Int):=by unfold cu;rw[Ad,Am,Ab y];rfl
   unfold cC at heq;subst heq;have bP:=gl 1 _ rfl;rw[c5,bM] at bP;rw[<-eM (s1.trans hX) hb] at bP;have hK:(ct g (fS g i)).ji.length<=1000:=G.nxt _ f1;generalize hM:(ct g (fS g i)).ji.length=na at *;have gm:¬ (aN v=some S.nx\/aN w=some S.nx):=by
    rintro(h|h)
    .have:=(gv.blk h).1;omega
    .have:=(gw.blk h).1;omega
   have gn:¬ (aN v=some b\/aN w=some b):=by
    rintro(h|h)
    .have:=(gv.blk h).1;omega
    .have:=(gw.blk h).1;omega
   have gp:b<X.nx:=by omega
   have er:∀ (F:Fr) (id:Nat),uI (.c7 3 1 1 [jr 0] [(0,.c (jr (.negSucc 0)))]) F id=some (.sl id 0 1 1 false,.cells [jr (-1)] false 0):=fun F id=>lD rfl;have w1:=du i
   refine aB (aJ (nR (fun c=>aN v=some c\/aN w=some c) ?_));have sB:jq X ⟨X.h.set (X.nx+1) (js [jr (-1)]),X.nx+15⟩:=⟨by simp,fun c N=>by simp only;rw[dx,if_neg au]⟩;have⟨v',S2,eA,gA,bA,nA,rA⟩:=fC.push1 (bytes:=8) (t:=X.nx+1) (x:=jr (-1)) (gv.step sB) (hX.trans sB) jh ay ay;simp only at bA nA rA;refine dz d er ?_;refine qH (r:=v') (S1:=S2) rfl ?_ ?_ ?_
   .rw[cK (az:Nat.testBit 3 1=true)];refine ae ?_;exact eA
   .rw[cK (az:Nat.testBit 3 1=true)];exact⟨by simp only;omega,fun c N hw=>rA c au fun e=>hw (.inl e)⟩
   rw[cK (az:Nat.testBit 3 1=true)];have gq:=aE.self hi;refine fh D f p7 (jE cX) di gm @Ap gq ep bP gp gn ?_;refine qF (n:=na) (af) (af) ay ay  ?_;refine ae ?_;rw[aSB (b:=X.nx+10) (n:=na) (c:=na) (o:=false) (af),lR];have gr:((aBg g).take i).length=i:=by unfold aBg;rw[Bx,Av];omega
   have gs:(aBg g).take (i+1)=(aBg g).take i++ [List.replicate na 0]:=by
    rw[Cc];congr 1;unfold aBg;rw[Ba,Ab y,c5];show [List.replicate (cu g (i:Int)).cm.toNat 0]=_;rw[bM,Am]
   have hz:repeatL [AV.int .i64 0] na=aQ (List.replicate na 0):=rG na;have dg:∀c,aN v=some c->c<X.nx:=fun c N=>(gv.blk N).2.1;have dj:∀c,aN w=some c->c<X.nx:=fun c N=>(gw.blk N).2.1;have dm:∀c,aN w=some c->aN v≠some c:=fun c h1 h2=>cv c h2 h1;generalize bv:(⟨(S2.h.set (X.nx+11) (js [.sl (X.nx+10) 0 na na false])).set (X.nx+10) (js (repeatL [jr 0] na)),S2.nx⟩:St)=X2;have k2:∀c,c≠X.nx+10->c≠X.nx+11->X2.h.get c=S2.h.get c:=fun c h1 h2=>by rw[<-bv];simp only;rw[dx,if_neg h1,dx,if_neg h2]
   have gx:X2.h.get (X.nx+10)=js (aQ (List.replicate na 0)):=by rw[<-bv,hz];simp only;rw[dx,if_pos rfl]
   have gz:X2.h.get (X.nx+11)=js [tF (X.nx+10) (List.replicate na 0)]:=by rw[<-bv];simp only;rw[dx,if_neg au,dx,if_pos rfl];unfold tF;rw[Au]
   have n2:X2.nx=X.nx+16:=by rw[<-bv];simp only;omega
   have bb:∀c,c<X.nx->aN v≠some c->X2.h.get c=X.h.get c:=fun c N gC=>by rw[k2 c au au,rA c au gC,sB.2 c N]
   have cw:jq S1 X2:=⟨ax hX.1,fun c N=>by rw[bb c (ax hX.1) (fun e=>by have:=(gv.blk e).1;omega)];exact hX.2 c N⟩;have dn:fC 1 S1 X2 w i cs:=gw.move au fun c N=>bb c (dj c N) (dm c N);have⟨w',S3,eW,gB,bW,nW,rW⟩:=fC.push1 (bytes:=24) dn cw gz ay ay;have dp:∀c,c<X.nx->aN v≠some c->aN w≠some c->S3.h.get c=X.h.get c:=fun c N h1 h2=>by rw[rW c au h2,bb c N h1]
   have gM:jq S1 S3:=⟨ax cw.1,fun c N=>by rw[rW c (ax cw.1) (fun e=>by have:=(gw.blk e).1;omega)];exact cw.2 c N⟩;have es:fC 1 S1 S3 v' (i+1) (aQ (List.replicate i (-1))++ [jr (-1)]):=gA.move au fun c N=>by
    rw[bA] at N;cases N;rw[rW _ au (fun e=>by have:=dj _ e;omega),k2 _ au au]
   have e1:aQ (List.replicate i (-1))++ [jr (-1)]=aQ (List.replicate (i+1) (-1)):=by
    rw[List.replicate_succ'];unfold aQ;rw[Cf];rfl
   rw[e1] at es;have cx:=gw.csl;have gT:Rws S1 S3 (fun j=>if j=((aBg g).take i).length then X.nx+10 else bs j) (cs++ [tF (X.nx+10) (List.replicate na 0)]) ((aBg g).take i++ [List.replicate na 0]):=by
    refine Rws.add (hR.move au fun j hj=>?_) (ax hX.1) au ?_ (fun j hj=>?_) (fun j hj=>?_) ?_
    .have⟨_,b2,b3⟩:=hR.bl j hj;exact dp _ b2 (gv.off b3) (gw.off b3)
    .rw[rW _ au (fun e=>by have:=dj _ e;omega)];exact gx
    .have:=(hR.bl j hj).2.1;omega
    .rw[Ak au]
    .rw[Ao au,gr,show i - cs.length=0 by omega];rfl
   refine qH (r:=w') (S1:=S3) rfl ?_ ?_ ?_
   .rw[iH (az:Nat.testBit 4095 11=true),iH (az:Nat.testBit 4095 10=true),bK,bv];refine ae ?_;exact eW
   .rw[iH (az:Nat.testBit 4095 11=true),iH (az:Nat.testBit 4095 10=true),bK,bv];exact⟨au,fun c N hw=>rW c au fun e=>hw (.inr e)⟩
   rw[iH (az:Nat.testBit 4095 11=true),iH (az:Nat.testBit 4095 10=true),bK];refine ae ?_;refine aF (dz p7 w1 ?_);refine⟨k - 1,au,rfl,gM,i+1,v',w',_,_,au,es,gB,by rw[gs];exact gT,fun c h1 h2=>?_,ah C,ah D,af,af,af⟩;rw[bA] at h1;rw[bW] at h2;have h1:=Bk h1;have h2:=Bk h2;omega
  .refine aK i7 (bH ?_);refine ae ?_;have ao:k=0:=by omega
   subst ao;exact⟨rfl,hX,i,v,w,cs,bs,an,gv,gw,hR,cv,ah C,ah D,ah d,ah f,ah p7⟩
 rintro o ⟨F,inr⟩ X ⟨rfl,rfl,hX,i,v,w,cs,bs,an,gv,gw,hR,cv,C,D,d,f,p7⟩;simp only at C D d f;obtain rfl:i=g.cg.length:=by omega
 have hO:(aBg g).length=g.cg.length:=by unfold aBg;rw[Av]
 rw[Bh au] at hR;refine ae ?_
 refine aB (aX (Q:=fun o J Y=>(o= .normal/\aUq S1 S.nx mv v w cs bs g m 0 J Y)\/(o= .ret/\aDX S1 g m J Y)) (aB (aF ?_)) ?_)
 .refine ae ?_;refine aJ (bL (aUq S1 S.nx mv v w cs bs g m) ?_ g.ce.length _ _ ⟨rfl,hX,0,_,_,au,gv,gw,hR,aUu G,ah C,ah D,ah d,ah f,af⟩);rintro k ⟨F,inr⟩ X ⟨rfl,hX,i,I,As,an,gv,gw,hR,P,C,D,d,f,K⟩;simp only at C D d f K;refine fZ (ef C K hm.len M.len @Ag ?_);by_cases y:i<g.ce.length;rotate_left
  .refine aK i7 (bH ?_);refine ae ?_;have ao:k=0:=by omega
   subst ao;exact .inl ⟨rfl,hX,i,I,As,an,gv,gw,hR,P,ah C,ah D,ah d,ah f,ah K⟩
  refine aM i7 (aG ?_);refine ae ?_
  have di:S.nx<X.nx:=Ae cr hX.1;have cX:X.h.get S.nx=js [jr g.ch,nv,iv]:=by rw[hX.2 _ cr];exact c1
  have sX:=s1.trans hX;have dq:=hm.jo sX;have ia:=dq.c9 (show i<m.length by rw[M.len];exact y);have la:=dq.ld (show i<m.length by rw[M.len];exact y);have⟨gU,bR⟩:=M.at y;rw[gU] at la;obtain⟨_,bx,qx,et,eB,_,⟨xa,xw,xp,rfl,cy,dr,eC⟩,c6,_⟩:=aE.at hn az (cU y);obtain⟨_,gV,qy,eD,eL,_,⟨ya,yw,yp,rfl,dt,cz,hyp⟩,c7,_⟩:=aE.at hn az (cU bR);rw[<-eM sX eB] at c6;rw[<-eM sX eL] at c7;have gW:=aE.self hn;have sx:=sI (k:=.i64) (x0:=(ct g i).jk) (x1:=(ct g i).jl) (x2:=(ct g i).jj) (bN.self cy) (bN.self dr) (bN.self eC);have sy:=sI (k:=.i64) (x0:=(ct g (fW m i)).jk) (x1:=(ct g (fW m i)).jl) (x2:=(ct g (fW m i)).jj) (bN.self dt) (bN.self cz) (bN.self hyp);have gX:bx<X.nx:=Ae eB sX.1;have gY:gV<X.nx:=Ae eL sX.1;have gZ:∀ {i:Nat},i<m.length->∃b p,aA7 mv i= .ptr b p/\b<X.nx:=fun {i} h=>bN.place dq h;have⟨bm,pm,g0,g1⟩:=gZ (show i<m.length by rw[M.len];exact y);rw[g0] at ia la;have w1:=du i
  refine aB (aJ (aB (nR (fun _=>False) ?_)));simp only[↓sU,sD,rE,↓reduceIte,rA,C,D,K,fN cX,di,Ap,gW,et,c6,sx,gX,ia,la,g1,eD,c7,sy,gY,pY];refine aOX (n:=6) rfl rfl rfl (af) (af) (by refine ae ?_;exact bB _) (by refine ae ?_;exact bB _) rfl rfl rfl au au au ?_;intro X1 bU aw aI eN;rw[bK];have bU:X1.nx=X.nx+17:=bU;have eP:jq X X1:=⟨au,fun c N=>eN c au au⟩;have hQ:X.nx<=X.nx+13:=by omega
  have hT:X.nx<=X.nx+14:=by omega
  have dv:X.nx+13<X1.nx:=by omega
  have dw:X.nx+14<X1.nx:=by omega
  show jN fns _ _ X1 _;refine aB (aB (aX (Q:=fun o J Y=>o= .normal/\J.inr=false/\jq X1 Y/\nI J.F S.nx (X.nx+13) (X.nx+14) mv v w i/\∃t,aA 87 J.F= .bool t/\(t=true↔¬aDf g m i)) (aF ?_) ?_))
  .have bk:=sX.trans eP;have c':=cy.jo bk;have da:=dt.jo bk;have eV:=eC.jo bk;have eZ:=hyp.jo bk;by_cases q1:(ct g i).jk=(ct g (fW m i)).jk;rotate_left
   .simp only[↓sU,sD,rE,↓reduceIte,rA,fF aw,fF aI,Ac (show(ct g i).jk≠(ct g (fW m i)).jk from q1),nI,C,D,d,f,K];exact⟨dy _,true,rfl,fun _ h=>q1 h.1,fun _=>rfl⟩
   by_cases q2:(ct g i).ji.length=(ct g (fW m i)).ji.length;rotate_left
   .simp only[↓sU,sD,rE,↓reduceIte,rA,fF aw,fF aI,dD aw,dD aI,c'.len,da.len,Ag,Aa (show ¬ (ct g i).jk≠(ct g (fW m i)).jk from fun h=>h q1),Ac (show(((ct g i).ji.length:Nat):Int)≠(((ct g (fW m i)).ji.length:Nat):Int) by omega),nI,C,D,d,f,K];exact⟨dy _,true,rfl,fun _ h=>q2 h.2.1,fun _=>rfl⟩
   simp only[↓sU,sD,rE,↓reduceIte,rA,fF aw,fF aI,dD aw,dD aI,fA aw,fA aI,c'.len,da.len,Ag,Aa (show ¬ (ct g i).jk≠(ct g (fW m i)).jk from fun h=>h q1),Aa (show ¬ (((ct g i).ji.length:Nat):Int)≠(((ct g (fW m i)).ji.length:Nat):Int) by omega),nI,C,D,d,f,K];refine bJ (ae ?_);refine aW (yK H eV eZ (by have:=G.jn i y;omega)) ?_;rintro _ Y ⟨rfl,hY⟩;by_cases q3:(ct g i).jn=(ct g (fW m i)).jn;rotate_left
   .refine ez @iY (Aa q3) @Ej C D d f K ?_;exact⟨hY,true,rfl,fun _ h=>q3 h.2.2.1,fun _=>rfl⟩
   have R:Y.h.get (X.nx+13)=_:=(hY.2 _ dv).trans aw;have ab:Y.h.get (X.nx+14)=_:=(hY.2 _ dw).trans aI;refine ff @iY (Ac q3) @Dn (eF R) (eF ab) C D d f K ?_;refine⟨hY,_,rfl,?_⟩;rw[Cu];exact⟨fun h hl=>h hl.2.2.2,fun h he=>h ⟨q1,q2,q3,he⟩⟩
  rintro o ⟨F,inr⟩ Y ⟨rfl,rfl,hY,hP,t,cW,dF⟩;simp only at hP cW;have⟨C,D,d,f,K,L,u⟩:=hP;have bV:=eP.trans hY;have bw:=hX.trans bV;refine ae ?_
  cases t with
  | true=>
   refine aM (ah cW) ?_;refine bS (ae ?_);refine aS (ae ?_);refine .inr ⟨bw,aKx y (dF.1 rfl),?_⟩;simp only[↓sU,sD,rE,↓reduceIte,rA]
  | false=>
  have hL:aDf g m i:=Classical.byContradiction fun h=>by have:=dF.2 h;cases this
  refine aK (ah cW) (aG ?_);refine ae ?_
  have dM:=gv.step bV;have dY:=gw.step bV;have cY:=hR.jo bV;have R:=(hY.2 _ dv).trans aw;have ab:=(hY.2 _ dw).trans aI;have hU:X.nx+13<Y.nx:=Ae dv hY.1;have h6:X.nx+14<Y.nx:=Ae dw hY.1;refine bS (ae ?_);refine aB (aX (Q:=fun o J Z=>(o= .normal/\J.inr=false/\Y.nx<=Z.nx/\jq S1 Z/\(∃I',fC 1 S1 Z v g.cg.length (aQ I')/\fC 1 S1 Z w g.cg.length cs/\Rws S1 Z bs cs As/\Seen g m (fun j=>j<i\/j=i) (fun j _=>j<i) I' As)/\nI J.F S.nx (X.nx+13) (X.nx+14) mv v w i/\Z.h.get (X.nx+13)=Y.h.get (X.nx+13)/\Z.h.get (X.nx+14)=Y.h.get (X.nx+14)/\∃kn,aA 11 J.F= .bool kn/\((ct g i).jk=2->(kn=true↔∃j,j<i/\(ct g j).jk=2/\(ct g j).jj=(ct g i).jj))/\((ct g i).jk≠2->kn=false))\/(o= .ret/\aDX S1 g m J Z)) (aB (aF ?_)) ?_)
  .refine dz L (fF R) ?_;by_cases hk:(ct g i).jk=2;rotate_left
   .refine aK (ja (Aa hk)) (aG ?_);refine .inl ⟨rfl,rfl,Af _,bw,⟨I,dM,dY,cY,P.node hL hk⟩,?_,rfl,rfl,false,af,fun h=>absurd h hk,fun _=>rfl⟩;simp only[↓sU,sD,rE,↓reduceIte,rA,nI,C,D,d,f,K,L,u]
   refine aM (ja (Ac hk)) ?_;have⟨a1,a2,a3⟩:=G.inf i y hk;have hs:(ct g i).jj.toNat<g.cg.length:=by omega
   have e0:(ct g i).jj.toNat<I.length:=by rw[P.li];exact hs
   have a4:=qO (k:=.i64) a1;rcases dM with⟨_,bd,_⟩|⟨vb,hv,e2,e3,ac,bY⟩
   .rw[bd] at hs;exact absurd hs (Bo _)
   have a5:=eX (b:=vb) (o:=true) hs;have aV:=aAd ac e0;refine bS (ew d L (dI R) a4 hv a5 aV ?_);have dZ:0<=I.getD (ct g i).jj.toNat 0↔∃j,j<i/\(ct g j).jk=2/\(ct g j).jj=(ct g i).jj:=by
    constructor
    .intro h;have⟨j,b1,b2,b3,b4⟩:=P.iw _ hs h;exact⟨j,b2,b3,au⟩
    .rintro⟨j,b2,b3,b4⟩;have:=P.iv j au b2 b3;rw[<-b4,this];exact(rM G M au (P.lk j au b2) b3).1
   refine aB (aX (Q:=fun o J Z=>(o= .normal/\J.inr=false/\Z=⟨Y.h,Y.nx+11⟩/\nI J.F S.nx (X.nx+13) (X.nx+14) mv v w i/\aA 11 J.F= .bool (decide (0<=I.getD (ct g i).jj.toNat 0))/\(0<=I.getD (ct g i).jj.toNat 0->I.getD (ct g i).jj.toNat 0=(ct g (fW m i)).jj))\/(o= .ret/\aDX S1 g m J Z)) (aB (gI ?_)) ?_)
   .by_cases aZ:0<=I.getD (ct g i).jj.toNat 0
    .refine ff d L u (dI R) (dI ab) a4 hv a5 aV (Ac (show I.getD (ct g i).jj.toNat 0≥0 from aZ)) ?_;by_cases he:I.getD (ct g i).jj.toNat 0=(ct g (fW m i)).jj
     .refine aK (ja (Aa (show ¬I.getD (ct g i).jj.toNat 0≠(ct g (fW m i)).jj from fun h=>h he))) (aG ?_);refine .inl ⟨rfl,rfl,rfl,?_,?_,fun _=>he⟩
      .simp only[↓sU,sD,rE,↓reduceIte,rA,nI,C,D,d,f,K,L,u,hv]
      .simp only[↓sU,sD,rE,↓reduceIte,rA,Ac aZ]
     .refine aM (ja (Ac (show I.getD (ct g i).jj.toNat 0≠(ct g (fW m i)).jj from he))) ?_;refine bS (ae ?_);apply aS;refine .inr ⟨rfl,bw.trans (jq.nx _ _),P.no_info G y hk aZ he,?_⟩;simp only[↓sU,sD,rE,↓reduceIte,rA]
    .refine c8 (Aa (show ¬I.getD (ct g i).jj.toNat 0≥0 from aZ)) ?_;refine aK (af) (aG ?_);refine .inl ⟨rfl,rfl,rfl,?_,?_,fun h=>absurd h aZ⟩
     .simp only[↓sU,sD,rE,↓reduceIte,rA,nI,C,D,d,f,K,L,u,hv]
     .simp only[↓sU,sD,rE,↓reduceIte,rA,Aa aZ]
   rintro o ⟨F,inr⟩ Z (⟨rfl,q0,rfl,hP,B,g2⟩|⟨rfl,hf⟩);rotate_left
   .refine ae ?_;exact .inr hf
   simp only at q0 hP B;subst q0;have⟨C,D,d,f,K,L,u⟩:=hP;refine ae ?_
   refine aF (ez d L u (dI R) (dI ab) a4 hv a5 ?_);refine eK (fun call=>by refine dz @dE @cF ?_;exact qQ (S:=⟨Y.h,Y.nx+11⟩) ac e0) ?_;refine ae ?_;have e4:aN w≠some vb:=cv vb (by rw[hv];rfl);have hI:vb<X.nx:=by
    rcases gv with⟨h,_⟩|⟨h7,h,_,h2,_⟩
    .rw[h] at hv;cases hv
    .rw[h] at hv;cases hv;exact h2
   refine .inl ⟨au,⟨by have:=bw.1;simp only;omega,fun c N=>?_⟩,⟨_,.inr ⟨vb,rfl,e2,Ae e3 (Br _ _),jh,by unfold aQ at bY ⊢;rw[Av] at bY ⊢;rw[Ar];exact bY⟩,dY.move (Br _ _) (fun c N=>?_),cY.move (Br _ _) (fun j hj=>?_),P.nodeM G M y hL hk g2⟩,?_,?_,?_,decide (0<=I.getD (ct g i).jj.toNat 0),ah B,fun _=>?_,fun h=>absurd hk h⟩
   .simp only;rw[dx,if_neg au];exact bw.2 c N
   .simp only;rw[dx,if_neg (fun e=>e4 (by rw[N,e]))]
   .simp only;rw[dx,if_neg (aKO (cY.bl j hj).2.2 ac)]
   .simp only[↓sU,sD,rE,↓reduceIte,rA,nI,C,D,d,f,K,L,u,hv]
   .skip
    rw[dx,if_neg au]
   .skip
    rw[dx,if_neg au]
   .rw[Cu];exact dZ
  rintro o ⟨F,inr⟩ Z (⟨rfl,q0,h8,d',⟨I',ea,eb,ed,ee⟩,hP,ex,ey,kn,B,aZ,e5⟩|⟨rfl,hf⟩);rotate_left
  .refine ae ?_;exact .inr hf
  simp only at q0 hP B;subst q0;have g3:∀s,s<g.cg.length->bs s<X.nx:=fun s hs=>(hR.bl s (by rw[P.la];exact hs)).2.1;have g4:∀c∈(ct g i).ji,0<=c/\c<g.ce.length:=fun c N=>by
   have⟨T,_,h9,hW⟩:=G.walk;have:=hW.cf i au c (by rw[An,iJ];exact N);omega
  rw[R] at ex;rw[ab] at ey;have⟨C,D,d,f,K,L,u⟩:=hP;refine ae ?_
  refine bS (ae ?_);refine aX (Q:=fun o J W=>(o= .normal/\aTj S1 S.nx (X.nx+13) (X.nx+14) mv v w cs bs g m i kn (Z.h.get (X.nx+13)) (Z.h.get (X.nx+14)) 0 J W)\/(o= .ret/\aDX S1 g m J W)) (aJ (bL (aTj S1 S.nx (X.nx+13) (X.nx+14) mv v w cs bs g m i kn (Z.h.get (X.nx+13)) (Z.h.get (X.nx+14))) ?_ (ct g i).ji.length _ _ ⟨rfl,d',au,au,0,I',As,au,ea,eb,ed,ee.congr (fun _ _=>Iff.rfl) (fun j k' _ _ h=>au),(by simp only[↓sU,sD,rE,↓reduceIte,rA,nI,C,D,d,f,K,L,u]),rfl,rfl,(ah B),(af)⟩)) ?_
  .clear C D d f K L u B ea eb ed ee d';rintro k ⟨F,inr⟩ W ⟨rfl,hW,bZ,b0,kk,I,As,e6,gv,gw,hR,P,hP,bz,b6,B,E⟩;simp only at hP B E;rw[ex] at bz;rw[ey] at b6;have⟨C,D,d,f,K,L,u⟩:=hP;have sW:=s1.trans hW;have bp:=cy.jo sW;refine fZ (ef L E (dD bz) bp.len @Ag ?_);by_cases a0:kk<(ct g i).ji.length;rotate_left
   .refine aK i7 (bH ?_);refine ae ?_;have ao:k=0:=by omega
    subst ao;exact .inl ⟨rfl,hW,bZ,b0,kk,I,As,e6,gv,gw,hR,P,(by simp only[↓sU,sD,rE,↓reduceIte,rA,nI,C,D,d,f,K,L,u]),by rw[bz,ex],by rw[b6,ey],(ah B),(ah E)⟩
   refine aM i7 (aG ?_);refine ae ?_
   have eg:=hm.jo sW;have g5:(ct g i).ji.getD kk 0∈(ct g i).ji:=by rw[Ad,Ab a0];exact Bl _
   have⟨g6,ib⟩:=g4 _ g5;have b8:=bp.c9 a0;have b':=bp.ld a0;have⟨b1,o1,g7,g8⟩:=bN.place bp a0;rw[g7] at b8 b';have e7:=qO (k:=.i64) g6;have cx:((ct g i).ji.getD kk 0).toNat<m.length:=by rw[M.len];omega
   have ca:=eg.c9 cx;have cc:=eg.ld cx;have⟨b2,o2,g9,g'⟩:=bN.place eg cx;rw[g9] at ca cc;have e8:=dt.jo sW;have e9:=cz.jo sW;have e':=hyp.jo sW;have hg:=bN.self cy;have ih:=bN.self hm;have w2:IntKind.i64.wrap ((kk:Int)+1)=((kk+1:Nat):Int):=by have:=G.nxt i y;rw[wrap_i64 au au];omega
   have fa:lK (ct g (fW m i)).ji 0 (m.getD ((ct g i).ji.getD kk 0).toNat 0)=jP g m i kk:=rfl;refine aB (aJ (aB (iN (fun _=>False) ?_)));intro W1 cZ;simp only[↓sU,sD,rE,↓reduceIte,rA,C,L,u,E,ldN b6,dD bz,bZ,b0,Ap,sy,hg,b8,b',g8,e7,ca,cc,g'];refine dT rfl ?_;refine ae ?_;refine aW (aJI H ⟨ya,yw,yp,rfl,e8.jo cZ,e9.jo cZ,e'.jo cZ⟩ (by have:=G.nxt _ bR;omega)) ?_;rintro _ W2 ⟨rfl,fb⟩;refine⟨fb,?_⟩;rw[fa];have ba:=cZ.trans fb;have bC:=hW.trans ba;have fc:=s1.trans bC;have U:=(ba.2 _ bZ).trans bz;have eh:=(ba.2 _ b0).trans b6;have cf:=gv.step ba;have ch:=gw.step ba;have be:=hR.jo ba;have ij:X.nx+13<W2.nx:=Ae bZ ba.1;have il:X.nx+14<W2.nx:=Ae b0 ba.1;have dc:=dr.jo fc;have dd:=cz.jo fc;generalize aa:jP g m i kk=z at *;refine aB (aX (Q:=fun o J V=>(o= .normal/\J.inr=false/\V=⟨W2.h,W2.nx+35⟩/\nI J.F S.nx (X.nx+13) (X.nx+14) mv v w i/\aA 11 J.F= .bool kn/\aA 12 J.F=jr (kk:Int)/\aA 13 J.F=jr z/\0<=z/\aBM g m i kk/\((ct g i).jk=2->kn=true->(As.getD (ct g i).jj.toNat []).getD kk 0=z))\/(o= .ret/\aDX S1 g m J V)) (aB (gI ?_)) ?_)
   .by_cases c1:z<0
    .refine c8 (Ac c1) ?_;refine aM (af) ?_;refine bS (ae ?_);apply aS;refine .inr ⟨rfl,bC.trans (jq.nx _ _),aO0 y a0 (by rw[aa];omega),?_⟩;simp only[↓sU,sD,rE,↓reduceIte,rA]
    have cj:0<=z:=Int.not_lt.1 c1;have fd:=qO (k:=.i64) cj;have hh:z.toNat<(ct g (fW m i)).ji.length:=by rw[<-aa];exact aKy (by rw[aa];exact cj)
    by_cases k1:(ct g i).jk=1
    .have k2:(ct g (fW m i)).jk=1:=by rw[<-hL.1];exact k1
     have l1:kk<(ct g i).jm.length:=by rw[G.wts i y k1];exact a0
     have l2:z.toNat<(ct g (fW m i)).jm.length:=by rw[G.wts _ bR k2];exact hh
     have i1:=dc.c9 l1;have i2:=dc.ld l1;have i3:=dd.c9 l2;have i4:=dd.ld l2;have fi:=bN.self dr;have fk:=bN.self cz;have fp:kn=false:=e5 au;subst fp;by_cases c2:(ct g i).jm.getD kk 0=(ct g (fW m i)).jm.getD z.toNat 0
     .refine fu (Aa c1) L u B E (fF U) (dW U) (dW eh) (Ac k1) fi fk fd i1 i2 i3 i4 (Aa (show ¬ (ct g i).jm.getD kk 0≠(ct g (fW m i)).jm.getD z.toNat 0 from fun h=>h c2)) ?_;refine aK (af) (aG ?_);refine .inl ⟨rfl,rfl,rfl,?_,?_,?_,?_,Int.not_lt.1 c1,fun _=>by rw[aa];exact c2,fun h=>au⟩
      .simp only[↓sU,sD,rE,↓reduceIte,rA,nI,C,D,d,f,K,L,u]
      .simp only[↓sU,sD,rE,↓reduceIte,rA,B]
      .simp only[↓sU,sD,rE,↓reduceIte,rA,E]
      .simp only[↓sU,sD,rE,↓reduceIte,rA]
     .refine fu (Aa c1) L u B E (fF U) (dW U) (dW eh) (Ac k1) fi fk fd i1 i2 i3 i4 (Ac (show(ct g i).jm.getD kk 0≠(ct g (fW m i)).jm.getD z.toNat 0 from c2)) ?_;refine aM (af) ?_;refine bS (ae ?_);apply aS;refine .inr ⟨rfl,bC.trans (jq.nx _ _),aHQ y a0 (fun h=>c2 (by have:=h k1;rw[aa] at this;exact this)),?_⟩;simp only[↓sU,sD,rE,↓reduceIte,rA]
    have fq:aBM g m i kk:=fun h=>absurd h k1;cases kn with
    | false=>
     refine ef (Aa c1) L B (fF U) (Aa k1) ?_;refine aK (af) (aG ?_);refine .inl ⟨rfl,rfl,rfl,?_,?_,?_,?_,Int.not_lt.1 c1,fq,fun _=>trivial⟩
     .simp only[↓sU,sD,rE,↓reduceIte,rA,nI,C,D,d,f,K,L,u]
     .simp only[↓sU,sD,rE,↓reduceIte,rA,B]
     .simp only[↓sU,sD,rE,↓reduceIte,rA,E]
     .simp only[↓sU,sD,rE,↓reduceIte,rA]
    | true=>
     have hk:(ct g i).jk=2:=Decidable.byContradiction fun h=>by have:=e5 h;cases this
     have⟨a1,a2,a3⟩:=G.inf i y hk;have a4:=qO (k:=.i64) a1;have hs:(ct g i).jj.toNat<g.cg.length:=by omega
     have bj:(ct g i).jj.toNat<As.length:=by rw[P.la];exact hs
     have ei:=P.ls _ hs;rw[show(((ct g i).jj.toNat:Nat):Int)=(ct g i).jj by omega,a3] at ei;rcases ch with⟨_,bd,_⟩|⟨wb,hw,fr,fs,ck,fw⟩
     .rw[bd] at hs;exact absurd hs (Bo _)
     have a5:=eX (b:=wb) (o:=true) hs;have aV:=cM ck (be.cl _ bj);have cl:=(be.bl _ bj).2.2;have cm:kk<(As.getD (ct g i).jj.toNat []).length:=by omega
     have bq:=eX (b:=bs (ct g i).jj.toNat) (o:=false) cm;have df:=aAd cl cm;have cn:cI (tF (bs (ct g i).jj.toNat) (As.getD (ct g i).jj.toNat [])) (tF (bs (ct g i).jj.toNat) (As.getD (ct g i).jj.toNat []))=true:=nQ ..;unfold tF at aV cn;by_cases c3:(As.getD (ct g i).jj.toNat []).getD kk 0=z
     .refine fu (Aa c1) f L u B E (fF U) (dI U) (Aa k1) hw a4 a5 aV cn bq df (Aa (show ¬ (As.getD (ct g i).jj.toNat []).getD kk 0≠z from fun h=>h c3)) ?_;refine aK (af) (aG ?_);refine .inl ⟨rfl,rfl,rfl,?_,?_,?_,?_,Int.not_lt.1 c1,fq,fun _=>c3⟩
      .simp only[↓sU,sD,rE,↓reduceIte,rA,nI,C,D,d,f,K,L,u,hw]
      .simp only[↓sU,sD,rE,↓reduceIte,rA,B]
      .simp only[↓sU,sD,rE,↓reduceIte,rA,E]
      .simp only[↓sU,sD,rE,↓reduceIte,rA]
     .refine fu (Aa c1) f L u B E (fF U) (dI U) (Aa k1) hw a4 a5 aV cn bq df (Ac (show(As.getD (ct g i).jj.toNat []).getD kk 0≠z from c3)) ?_;have⟨j,j1,j2,j3⟩:=(aZ hk).1 rfl;refine aM (af) ?_;refine bS (ae ?_);apply aS;refine .inr ⟨rfl,bC.trans (jq.nx _ _),P.no_act G y au hk j2 j3 a0 (.inl j1) (by rw[aa];exact c3),?_⟩;simp only[↓sU,sD,rE,↓reduceIte,rA]
   rintro o ⟨F,inr⟩ V (⟨rfl,q0,rfl,hP,B,E,ej,cj,fy,bM⟩|⟨rfl,hf⟩);rotate_left
   .refine ae ?_;exact .inr hf
   simp only at q0 hP B E ej;subst q0;have⟨C,D,d,f,K,L,u⟩:=hP;refine ae ?_
   refine aX (Q:=fun o J V=>o= .normal/\J.inr=false/\jq S1 V/\W2.nx<=V.nx/\(∃c0,fC 1 S1 V v g.cg.length (aQ I)/\fC 1 S1 V w g.cg.length cs/\Rws S1 V bs cs c0/\Seen g m (fun j=>j<i\/j=i) (fun j k'=>(j<i\/(j=i/\k'<kk))\/(j=i/\k'=kk)) I c0)/\nI J.F S.nx (X.nx+13) (X.nx+14) mv v w i/\V.h.get (X.nx+13)=W2.h.get (X.nx+13)/\V.h.get (X.nx+14)=W2.h.get (X.nx+14)/\aA 11 J.F= .bool kn/\aA 12 J.F=jr (kk:Int)) (aB (aF ?_)) ?_
   .refine dz L (fF U) ?_;by_cases hk:(ct g i).jk=2;rotate_left
    .refine aK (ja (Aa hk)) (aG ?_);refine⟨rfl,rfl,bC.trans (jq.nx _ _),Br _ _,⟨As,cf.step (jq.nx _ _),ch.step (jq.nx _ _),be.jo (jq.nx _ _),P.kid (by rw[aa];exact cj) fy hk⟩,?_,rfl,rfl,?_,?_⟩
     .simp only[↓sU,sD,rE,↓reduceIte,rA,nI,C,D,d,f,K,L,u]
     .simp only[↓sU,sD,rE,↓reduceIte,rA,B]
     .simp only[↓sU,sD,rE,↓reduceIte,rA,E]
    refine aM (ja (Ac hk)) ?_;have⟨a1,a2,a3⟩:=G.inf i y hk;have a4:=qO (k:=.i64) a1;have hs:(ct g i).jj.toNat<g.cg.length:=by omega
    have bj:(ct g i).jj.toNat<As.length:=by rw[P.la];exact hs
    have ei:=P.ls _ hs;rw[show(((ct g i).jj.toNat:Nat):Int)=(ct g i).jj by omega,a3] at ei;have ho:=ch;rcases ho with⟨_,bd,_⟩|⟨wb,hw,fr,fs,ck,fw⟩
    .rw[bd] at hs;exact absurd hs (Bo _)
    have a5:=eX (b:=wb) (o:=true) hs;have aV:=cM ck (be.cl _ bj);have cl:=(be.bl _ bj).2.2;have hp:=(be.bl _ bj).1;have cm:kk<(As.getD (ct g i).jj.toNat []).length:=by omega
    have bq:=eX (b:=bs (ct g i).jj.toNat) (o:=false) cm;have ip:=g3 _ hs;unfold tF at aV;refine aF (ff f L E ej (dI U) hw a4 a5 aV bq ?_);refine eK (fun call=>by refine dz @dE @cF ?_;exact qQ (S:=⟨W2.h,W2.nx+35⟩) cl cm) ?_;refine ae ?_;have f':=P.kidM G y a0 (by rw[aa];exact cj) fy hk fun j _ hj hq e=>by rw[aa];exact bM hk ((aZ hk).2 ⟨j,au,hq,e⟩)
    rw[aa] at f';refine⟨(bC.trans (jq.nx _ _)).put hp _,Br _ _,⟨_,cf.move (Br _ _) (fun c N=>?_),(by rw[<-hw];exact ch.move (Br _ _) (fun c N=>by simp only;rw[dx,if_neg (Ch (aKO cl (ch.blk N).2.2))])),be.put bj (Br _ _),f'⟩,?_,?_,?_,?_,?_⟩
    .simp only;rw[dx,if_neg (Ch (aKO cl (cf.blk N).2.2))]
    .simp only[↓sU,sD,rE,↓reduceIte,rA,nI,C,D,d,f,K,L,u,hw]
    .skip
     rw[dx,if_neg au]
    .skip
     rw[dx,if_neg au]
    .simp only[↓sU,sD,rE,↓reduceIte,rA,B]
    .simp only[↓sU,sD,rE,↓reduceIte,rA,E]
   rintro o ⟨F,inr⟩ V ⟨rfl,rfl,hr,iq,⟨c0,cq,ek,en,ht⟩,hP,ga,gd,B,E⟩;simp only at hP B E;have⟨C,D,d,f,K,L,u⟩:=hP;refine ae ?_
   refine aF (dz E w2 ?_);refine⟨k - 1,au,rfl,hr,au,au,kk+1,I,c0,au,cq,ek,en,ht.congr (fun _ _=>Iff.rfl) (fun j k' _ _ h=>au),?_,?_,?_,?_,?_⟩
   .simp only[↓sU,sD,rE,↓reduceIte,rA,nI,C,D,d,f,K,L,u]
   .rw[ga,U,ex]
   .rw[gd,eh,ey]
   .simp only[↓sU,sD,rE,↓reduceIte,rA,B]
   .simp only[↓sU,sD,rE,↓reduceIte,rA]
  rintro o ⟨F,inr⟩ V (⟨rfl,q0,hV,_,_,kk,I2,hu,e6,hx,dn,hy,hB,hP,_,_,B,E⟩|⟨rfl,hf⟩);rotate_left
  .refine ae ?_;exact .inr hf
  simp only at q0 hP;subst q0;have⟨C,D,d,f,K,L,u⟩:=hP;refine ae ?_
  refine aF (dz K w1 ?_);refine⟨k - 1,au,rfl,hV,i+1,I2,hu,au,hx,dn,hy,hB.congr (fun j _=>au) (fun j k' _ ir h=>?_),ah C,ah D,ah d,ah f,af⟩;rcases Cx j i with h1|h1
  .exact .inl h1
  .have e:j=i:=by omega
   subst e;exact .inr ⟨rfl,au⟩
 rintro o ⟨F,inr⟩ Y (⟨rfl,q0,hY,i,I,As,an,cq,ek,en,P,C,D,d,f,K⟩|⟨rfl,hf⟩);rotate_left
 .have⟨h1,h2,h3,h4,h5⟩:=hf;refine d8 h3 h4 h5 ?_;exact⟨s1.trans h1,_,_,false,rfl,⟨nofun,fun a=>absurd a h2⟩,nofun⟩
 simp only at q0 d f;subst q0
 replace P:Seen g m (fun _=>True) (fun _ _=>True) I As:=P.congr (fun j hj=>⟨fun _=>trivial,fun _=>au⟩) (fun j _ hj _ _=>au)
 refine ae ?_
 refine aB (aX (Q:=fun o J Z=>(o= .normal/\aTw Y v w I g.cg.length 0 J Z)\/(o= .ret/\aDX Y g m J Z)) (aB (aF ?_)) ?_)
 .refine ae ?_;refine aJ (bL (aTw Y v w I g.cg.length) ?_ g.cg.length _ _ ⟨rfl,dy _,0,au,fun a b _ ha=>au,ah d,ah f,af⟩);rintro k ⟨F,inr⟩ Z ⟨rfl,hZ,i,an,hd,d,f,O⟩;simp only at d f O;have gf:=cq.len;refine fZ (d8 d O gf ?_);by_cases y:i<g.cg.length;rotate_left
  .refine aK i7 (bH ?_);refine ae ?_;have ao:k=0:=by omega
   subst ao;exact .inl ⟨rfl,hZ,i,an,hd,ah d,ah f,ah O⟩
  refine aM i7 (aG ?_);refine ae ?_
  have w1:=du i
  refine aB (aJ (aB (aF ?_)));refine ae ?_;refine aX (Q:=fun o J V=>(o= .normal/\aUK Z v w I i 0 J V)\/(o= .ret/\aDX Y g m J V)) (aJ (bL (aUK Z v w I i) ?_ i _ _ ⟨rfl,dy _,0,au,fun b hb=>au,ah d,ah f,ah O,af⟩)) ?_
  .clear d f O;rintro k' ⟨F,inr⟩ V ⟨rfl,hV,l,gg,c4,d,f,O,bI⟩;simp only at d f O bI;refine fZ (dz O bI ?_);by_cases hl:l<i;rotate_left
   .refine aK i7 (bH ?_);refine ae ?_;have ao:k'=0:=by omega
    subst ao;exact .inl ⟨rfl,hV,l,gg,c4,ah d,ah f,ah O,ah bI⟩
   refine aM i7 (aG ?_);refine ae ?_
   have cf:=cq.step (hZ.trans hV);have w2:=du l
   rcases cf with⟨_,bd,_⟩|⟨vb,hv,_,_,ac,_⟩
   .rw[bd] at y;exact absurd y (Bo _)
   have ll:l<g.cg.length:=by omega
   have hC:=eX (b:=vb) (o:=true) y;have hD:=eX (b:=vb) (o:=true) ll;have bP:=aAd ac (show i<I.length by rw[P.li];exact y);have hE:=aAd ac (show l<I.length by rw[P.li];exact ll);refine aB (aJ (aB (gI ?_)));refine ez d O bI hv hC hD bP hE ?_;by_cases he:I.getD i 0=I.getD l 0
   .refine aM (ja (Ac he)) ?_;refine bS (ae ?_);apply aS;refine .inr ⟨rfl,(hZ.trans hV).trans (jq.nx _ _),P.no_inj G y ll au he,?_⟩;simp only[↓sU,sD,rE,↓reduceIte,rA]
   .refine aK (ja (Aa he)) (aG ?_);refine ae ?_
    refine aF (dz bI w2 ?_);refine⟨k' - 1,au,rfl,hV.trans (jq.nx _ _),l+1,au,fun b hb=>?_,jc d hv,ah f,ah O,af⟩;by_cases hF:b=l
    .rw[hF];exact he
    .exact c4 b au
  rintro o ⟨F,inr⟩ V (⟨rfl,q0,hV,l,gg,c4,d,f,O,bI⟩|⟨rfl,hf⟩);rotate_left
  .refine ae ?_;exact .inr hf
  simp only at q0 d f O;subst q0;refine ae ?_
  refine aF (dz O w1 ?_);refine⟨k - 1,au,rfl,hZ.trans hV,i+1,au,fun a b hb ha=>?_,ah d,ah f,af⟩;by_cases hG:a=i
  .rw[hG];exact c4 b au
  .exact hd a b hb au
 rintro o ⟨F,inr⟩ Z (⟨rfl,q0,hZ,i,an,hd,d,f,O⟩|⟨rfl,hf⟩);rotate_left
 .have⟨h1,h2,h3,h4,h5⟩:=hf;refine d8 h3 h4 h5 ?_;exact⟨s1.trans (hY.trans h1),_,_,false,rfl,⟨nofun,fun a=>absurd a h2⟩,nofun⟩
 simp only at q0 d f;subst q0;refine ae ?_
 refine bS (dz d f ?_);refine aS (ae ?_);have hH:i=g.cg.length:=by omega
 subst hH;have hA:=P.auto G h0 (P.inj G hd);refine⟨s1.trans (hY.trans hZ),v,w,true,rfl,⟨fun _=>hA,fun _=>rfl⟩,fun _=>⟨?_,cs,bs,(ek.step hZ).low s1.1,?_⟩⟩
 .rw[<-P.dh G];exact(cq.step hZ).low s1.1
 .rw[<-P.dk G];exact(en.jo hZ).low s1.1
structure jM(g:aP)(m:bt)(n e:Nat)(I F:bt)(A:bo):Prop where
 s:Seen g m (fun j=>j<n) (fun j k=>(ct g j).ji.getD k 0<(e:Int)) I A
 lf:F.length=g.cg.length
 fv:∀j,j<g.ce.length->j<n->(ct g j).jk=2->F.getD (ct g (fW m j)).jj.toNat 0=(ct g j).jj
 fw:∀t,t<g.cg.length->0<=F.getD t 0->∃j,j<g.ce.length/\j<n/\(ct g j).jk=2/\(ct g (fW m j)).jj=(t:Int)
 aw:∀s,s<g.cg.length->∀k,k<(A.getD s []).length->0<=(A.getD s []).getD k 0->∃j,j<g.ce.length/\(ct g j).jk=2/\(ct g j).jj=(s:Int)/\k<(ct g j).ji.length/\(ct g j).ji.getD k 0<(e:Int)
section
variable {g:aP}{m:bt}{I F:bt}{A:bo}{n e:Nat}
def jM.node(h:jM g m n e I F A)(i:aDf g m n)(f:(ct g n).jk≠2):jM g m (n+1) e I F A:=
 ⟨(h.s.node i f).congr (fun j _=>au) (fun _ _ _ _ h=>h),h.lf,fun j k p d=>by
  by_cases e:j=n
  .rw[e] at d;exact absurd d f
  .exact h.fv j k au d,fun t l o=>by have⟨j,a,b,c⟩:=h.fw t l o;exact⟨j,a,au,c⟩,h.aw⟩
def jM.nodeM(G:cV g)(M:aBc g m)(h:jM g m n e I F A)(hi:n<g.ce.length)(p:aDf g m n)(l:(ct g n).jk=2)(q:0<=I.getD (ct g n).jj.toNat 0->I.getD (ct g n).jj.toNat 0=(ct g (fW m n)).jj)(r:0<=F.getD (ct g (fW m n)).jj.toNat 0->F.getD (ct g (fW m n)).jj.toNat 0=(ct g n).jj):
  jM g m (n+1) e (I.set (ct g n).jj.toNat (ct g (fW m n)).jj) (F.set (ct g (fW m n)).jj.toNat (ct g n).jj) A:=by
 have⟨v,w⟩:=rM G M hi p l;have f:(ct g (fW m n)).jj.toNat<F.length:=by rw[h.lf];omega
 refine⟨(h.s.nodeM G M hi p l q).congr (fun j _=>au) (fun _ _ _ _ h=>h),by rw[Ar];exact h.lf,fun j i x d=>?_,fun t s o=>?_,h.aw⟩
 .rw[oR f];by_cases e:j=n
  .rw[e,if_pos rfl]
  .have k:=h.fv j i au d;split
   .rename_i y;have:=(rM G M i (h.s.lk j i au) d);have u:(ct g (fW m n)).jj=(ct g (fW m j)).jj:=by omega
    rw[<-u] at k;rw[<-r (by rw[k];exact(G.inf j i d).1),k]
   .exact k
 .rw[oR f] at o;split at o
  .exact⟨n,hi,au,l,au⟩
  .have⟨j,a,b,c⟩:=h.fw t s o;exact⟨j,a,au,c⟩
def cV.kids(G:cV g):∀j,j<g.ce.length->∀k,k<(ct g j).ji.length->(j:Int)<(ct g j).ji.getD k 0/\(ct g j).ji.getD k 0<g.ce.length:=fun j f k a=>by
 have⟨T,_,b,c⟩:=G.walk;have d:(ct g j).ji.getD k 0∈(ct g j).ji:=by rw[Ad,Ab a];exact Bl _
 have:=c.cf j au _ (by rw[An,iJ];exact d);omega
def cV.only(G:cV g){k j' k':Nat}(q:j<g.ce.length)(c:k<(ct g j).ji.length)(l:j'<g.ce.length)(b:k'<(ct g j').ji.length)(e:(ct g j).ji.getD k 0=(ct g j').ji.getD k' 0):j=j'/\k=k':=by
 have⟨T,_,o,d⟩:=G.walk;have mem:∀ {j k:Nat},k<(ct g j).ji.length->(ct g j).ji.getD k 0∈(ct g j).ji:=fun {j k} c=>by rw[Ad,Ab c];exact Bl _
 have i:=(d.cf j au _ (by rw[An,iJ];exact mem c)).2.2;have p:=(d.cf j' au _ (by rw[An,iJ];exact mem b)).2.2;rw[e,p] at i;have f:j=j':=by have:=Bk i;omega
 subst f;have a:=d.inc j au;rw[An,iJ] at a;refine⟨rfl,?_⟩;rw[Ad,Ad,Ab c,Ab b] at e;have e:(ct g j).ji[k]=(ct g j).ji[k']:=e;rcases Ei k k' with h|h|h
 .have:=Fe.1 a k k' c b h;omega
 .exact h
 .have:=Fe.1 a k' k b c h;omega
def jM.kid(G:cV g)(h:jM g m n n I F A){k:Nat}(hi:i<g.ce.length)(f:k<(ct g i).ji.length)(q:(ct g i).ji.getD k 0=(n:Int))(l:0<=jP g m i k)(r:aBM g m i k)(o:(ct g i).jk≠2):jM g m n (n+1) I F A:=
 ⟨(h.s.kid l r o).congr (fun _ _=>Iff.rfl) (fun j k' t p h=>by
  by_cases e:(ct g j).ji.getD k' 0=(n:Int)
  .exact .inr (G.only t p hi f (by rw[e,q]))
  .exact .inl au),h.lf,h.fv,h.fw,fun s u k o l=>by have⟨j,a,b,c,d,e⟩:=h.aw s u k o l;exact⟨j,a,b,c,d,au⟩⟩
def jM.kidM(G:cV g)(h:jM g m n n I F A){k:Nat}(hi:i<g.ce.length)(p:k<(ct g i).ji.length)(x:(ct g i).ji.getD k 0=(n:Int))(z:0<=jP g m i k)(B:aBM g m i k)(t:(ct g i).jk=2)
  (y:0<=(A.getD (ct g i).jj.toNat []).getD k 0->(A.getD (ct g i).jj.toNat []).getD k 0=jP g m i k):jM g m n (n+1) I F (A.set (ct g i).jj.toNat ((A.getD (ct g i).jj.toNat []).set k (jP g m i k))):=by
 have⟨M,N,a3⟩:=G.inf i hi t;have u:(ct g i).jj.toNat<A.length:=by rw[h.s.la];omega
 have v:=h.s.ls (ct g i).jj.toNat au;rw[show(((ct g i).jj.toNat:Nat):Int)=(ct g i).jj by omega,a3] at v;refine⟨(h.s.kidM G hi p z B t fun j r w q e=>?_).congr (fun _ _=>Iff.rfl) (fun j k' r f h=>?_),h.lf,h.fv,h.fw,fun s C k' f l=>?_⟩
 .have D:=(G.inf j r q).2.2;rw[e,a3] at D;have⟨E,_,H⟩:=h.s.kd j k r au w;have:=H q;rw[e] at this;exact y (by rw[this];exact E)
 .by_cases e:(ct g j).ji.getD k' 0=(n:Int)
  .exact .inr (G.only r f hi p (by rw[e,x]))
  .exact .inl au
 .have o:k'<(A.getD s []).length->0<=(A.getD s []).getD k' 0->∃j,j<g.ce.length/\(ct g j).jk=2/\(ct g j).jj=(s:Int)/\k'<(ct g j).ji.length/\(ct g j).ji.getD k' 0<((n+1:Nat):Int):=fun J K=>by
   have⟨j,a,b,c,d,e⟩:=h.aw s C k' J K;exact⟨j,a,b,c,d,au⟩
  rw[vB u] at f l;split at f
  .rename_i e;rw[if_pos e] at l;rw[Ar] at f;rw[oR au] at l;split at l
   .rename_i L;subst L;exact⟨i,hi,t,by clear o y l f h;omega,p,by rw[x];exact Int.ofNat_lt.2 (Dm n)⟩
   .rw[e] at f l;exact o f l
  .rename_i e;rw[if_neg e] at l;exact o f l
def jM.no_from(h:jM g m n e I F A)(G:cV g)(M:aBc g m)(hi:i<g.ce.length)(f:aDf g m i)(b:(ct g i).jk=2)(k:0<=F.getD (ct g (fW m i)).jj.toNat 0)(l:F.getD (ct g (fW m i)).jj.toNat 0≠(ct g i).jj):¬iQ g m:=fun a=>by
 have⟨p,q⟩:=rM G M hi f b;have⟨j,c,o,d,r⟩:=h.fw _ au k;have e:(ct g (fW m j)).jj=(ct g (fW m i)).jj:=by omega
 have:=h.fv j c o d;rw[e] at this;exact l (this.trans (a.inj j i c hi d b e))
def jM.no_act(h:jM g m n e I F A)(G:cV g){k:Nat}(hi:i<g.ce.length)(c:(ct g i).jk=2)(a:k<(ct g i).ji.length)(d:0<=(A.getD (ct g i).jj.toNat []).getD k 0)(f:(A.getD (ct g i).jj.toNat []).getD k 0≠jP g m i k):¬iQ g m:=by
 have⟨p,q,a3⟩:=G.inf i hi c;have b:=h.s.ls (ct g i).jj.toNat au;rw[show(((ct g i).jj.toNat:Nat):Int)=(ct g i).jj by omega,a3] at b;have⟨j,l,o,r,b4,b5⟩:=h.aw (ct g i).jj.toNat au k au d;exact h.s.no_act G hi l c o au a b5 f
def aBQ(g:aP):bo:=g.cg.map fun x=>List.replicate x.cm.toNat (-1)
def jM.start(G:cV g)(m:bt):jM g m 0 1 (List.replicate g.cg.length (-1)) (List.replicate g.cg.length (-1)) (aBQ g):=by
 have a:∀ (n t:Nat),t<n->¬0<=(List.replicate n (-1:Int)).getD t 0:=fun n t i b=>by
  rw[Ad,Cj,if_pos i] at b;exact absurd b az
 have d:∀s,s<g.cg.length->(aBQ g).getD s []=List.replicate (cu g (s:Int)).cm.toNat (-1):=fun s c=>by
  unfold aBQ cu;rw[Ad,Ba,Ad,Am,Ab c];rfl
 refine⟨⟨Au ..,by unfold aBQ;rw[Av],fun s c=>?_,fun j _ h=>au,fun s c b=>absurd b (a _ _ c),fun j _ h=>au,fun j k h f o=>?_⟩,Au ..,fun j _ h=>au,fun t i b=>absurd b (a _ _ i),fun s c k f b=>?_⟩
 .have⟨f1,f2,f3⟩:=G.fst s c;have l:=(G.inf _ f1 f2).2.2;rw[f3] at l;rw[d s c,Au];omega
 .have:=(G.kids j h k f).1;omega
 .rw[d s c] at f b;rw[Au] at f;exact absurd b (a _ _ f)
def jM.full(h:jM g m g.ce.length g.ce.length I F A)(G:cV g)(M:aBc g m)(root:m.getD 0 0=0):iQ g m/\I=dh g m/\A=dk g m:=by
 have b:Seen g m (fun _=>True) (fun _ _=>True) I A:=h.s.congr (fun j a=>⟨fun _=>trivial,fun _=>a⟩) fun j k a f _=>(G.kids j a k f).2;refine⟨b.auto G root fun i j hi a c d e=>?_,b.dh G,b.dk G⟩;rw[<-h.fv i hi hi c,<-h.fv j a a d,e]
end
def aNZ{m:bt}{T:List cL}(u:WF (dP g) 0 (-1) T)(D:T.length=g.ce.length)(M:aBc g m){k:Nat}(hi:i<g.ce.length)(E:((ct g i).ji.getD k 0).toNat<g.ce.length):
  ((T.map (·.1)).getD (fW m ((ct g i).ji.getD k 0).toNat) 0=((fW m i:Nat):Int)->0<=jP g m i k/\jP g m i k=(mS g).getD (fW m ((ct g i).ji.getD k 0).toNat) 0)/\((T.map (·.1)).getD (fW m ((ct g i).ji.getD k 0).toNat) 0≠((fW m i:Nat):Int)->¬0<=jP g m i k):=by
 have⟨w,G⟩:=M.at E;have x:=(M.at hi).2;unfold jP;rw[w];generalize fW m ((ct g i).ji.getD k 0).toNat=v at *;generalize fW m i=t at *;have d:(T.map (·.1)).getD v 0=(jS T v).getD 0:=by
  unfold jS;rw[Ad,Ba]
 have a:∃p,jS T v=some p:=by
  unfold jS;rw[Ab (au:v<T.length)];exact⟨_,rfl⟩
 have⟨p,f⟩:=a;rw[d,f];constructor
 .intro h;have h:p=(t:Int):=h;subst h;by_cases v0:v=0
  .subst v0;rw[u.root] at f;have:=Bk f;omega
  have⟨q,H,z,B⟩:=u.pf v au au;rw[f] at z;have J:=Bk z;have y:q=t:=by omega
  subst y;rw[An,An,iJ] at B;rcases pZ (c:=((v:Nat):Int)) (l:=(ct g q).ji) (s:=0) with⟨o,b⟩|⟨j,o,b,_⟩
  .exact absurd B b
  .have r:=aKl u D x (k:=j) (c:=((v:Nat):Int)) (by rw[iJ];exact b);rw[Am] at r;rw[o,r,An];exact⟨au,rfl⟩
 .intro h C;have h:p≠(t:Int):=h;rcases pZ (c:=((v:Nat):Int)) (l:=(ct g t).ji) (s:=0) with⟨o,b⟩|⟨j,o,b,_⟩
  .rw[o] at C;exact absurd C az
  .have:=(u.cf t au _ (by rw[An,iJ];exact Bb b)).2.2;rw[show((v:Nat):Int).toNat - 0=v by omega,f,An] at this;exact h (Bk this)
end Go.Ev.Gl
