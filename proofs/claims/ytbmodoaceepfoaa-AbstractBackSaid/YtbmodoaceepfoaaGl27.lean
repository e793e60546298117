import Derived.Test.YtbmodoaceepfoaaGl26
set_option linter.all false
open Nat renaming reduceEqDiff -> rE, reduceAdd -> rA
set_option maxHeartbeats 0
namespace Go.Ev.Gl
variable {g:aX}{i:Nat}
theorem zR{i:Nat}:∀ {l:List cJ} {s j:Nat} {x:cJ},l[j]? =some x->x.kind=2->x.info=(i:Int)->jA l s i<=s+j+1/\s+1<=jA l s i
 | [],_,_,_,h,_,_=>by simp at h
 | y::l,s,0,x,h,a,hi=>by
  simp only[Eo,Au] at h;subst h;simp only[jA];rw[if_pos ⟨a,hi⟩];omega
 | y::l,s,j+1,x,h,a,hi=>by
  simp only[jA];split
  .omega
  .have:=zR (l:=l) (s:=s+1) (j:=j) (by simpa using h) a hi;omega
def aR5{s:Nat}(hi:i<g.cg.length)(a:(cu g i).kind=2)(b:(cu g i).info=(s:Int)):eG g s<=i:=by
 have:=zR (s:=0) (dI hi) a b;unfold eG;omega
def aQl(h:dC g=0):aCr (fL g):=by
 unfold dC at h;split at h
 .cases h
 split at h
 .rename_i a;exact absurd h a
 split at h
 .cases h
 split at h
 .cases h
 split at h
 .cases h
 unfold vR at h;split at h
 .cases h
 split at h
 .cases h
 split at h
 .rename_i b;exact b
 .cases h
theorem aEC{g:aX}(h:dC g=0){s:Nat}:∀ {t:Nat},s<t->t<g.ch.length->eG g s<eG g t
 | 0,a,_=>absurd a (Ca s)
 | t+1,a,c=>by
  have G:=iN h;have k:=aQl h (t+1) au (by unfold fL;rw[Al,Bj];exact c);have e:∀j,j<g.ch.length->(fL g).getD j 0=((jA g.cg 0 j:Nat):Int):=fun j l=>by
   unfold fL;rw[Ad,Az,Br l];rfl
  rw[Eh,e t au,e (t+1) c] at k;have⟨m,n,f⟩:=G.fst t au;have⟨o,p,i⟩:=G.fst (t+1) c;have f1:=zR (s:=0) (dI m) n f;have f2:=zR (s:=0) (dI o) p i;have d:eG g t≠eG g (t+1):=fun x=>by
   rw[x,i] at f;omega
  have b:eG g t<eG g (t+1):=by
   unfold eG at d ⊢;omega
  by_cases x:s=t
  .rw[x];exact b
  .exact Nat.lt_trans (aEC h (t:=t) au au) b
def RO(g:aX)(o:Nat)(dt:ce):Prop:=∃m,dt=List.range m/\m<=g.ch.length/\∀s,s<g.ch.length->(s<m↔eG g s<o)
def IdF(n:Nat)(first:bu):Prop:=∀s,s<n->first.getD s 0=(s:Int)
def IdA(g:aX)(act:bt):Prop:=∀s a,s<g.ch.length->a<fJ g s->(act.getD s []).getD a 0=(a:Int)
def aP8{first:bu}(h:dC g=0)(u:IdF g.ch.length first){o:Nat}{dt:ce}(l:o<g.cg.length)(c:RO g o dt):(jC first dt (cu g o)).2=(cu g o).info/\RO g (o+1) (jC first dt (cu g o)).1:=by
 have G:=iN h;obtain⟨m,rfl,p,c⟩:=c;have other:∀s,s<g.ch.length->eG g s=o->(cu g o).kind=2/\(cu g o).info=(s:Int):=fun s f e=>by
  have⟨_,q,r⟩:=G.fst s f;rw[e] at q r;exact⟨q,r⟩
 unfold jC;by_cases i:(cu g o).kind=2
 .rw[if_pos i];have⟨v,B,_⟩:=G.inf o l i;obtain⟨s,f⟩:∃s:Nat,(cu g o).info=(s:Int):=⟨_,(Ee v).symm⟩;have d:s<g.ch.length:=by omega
  have w:=aR5 l i f;have z:(first.getD (cu g o).info.toNat 0).toNat=s:=by rw[f,Ay,u s d,Ay]
  rw[z];unfold qP;by_cases a:s<m
  .rw[if_pos (Dk.2 a)];refine⟨?_,m,rfl,p,fun t b=>?_⟩
   .show(((List.range m).idxOf s:Nat):Int)=_;rw[f];have:(List.range m).idxOf s=s:=by
     have A:=List.nodup_range (n:=m);have:=List.Nodup.idxOf_getElem A s (by rw[Bj];exact a)
     rwa [Ek] at this
    rw[this]
   .rw[c t b];constructor
    .intro x;omega
    .intro x;by_cases e:eG g t=o
     .have⟨_,y⟩:=other t b e;have:t=s:=by omega
      subst this;have:=(c t b).1 a;omega
     .omega
  .rw[if_neg (fun x=>a (Dk.1 x))];have j:eG g s=o:=by
    have:=(c s d).2;by_cases x:eG g s<o
    .exact absurd (this x) a
    .omega
   have k:s=m:=by
    by_cases x:m<s
    .have C:=aEC h x d;have:=(c m au).2 au;omega
    .omega
   subst k;refine⟨?_,s+1,?_,au,fun t b=>?_⟩
   .show(((List.range s).length:Nat):Int)=_;rw[Bj,f]
   .show List.range s++ [s]=_;rw[List.range_succ]
   .have:=c t b;constructor
    .intro x;by_cases e:t=s
     .rw[e,j];omega
     .have:=this.1 au;omega
    .intro x;by_cases e:eG g t=o
     .have⟨_,y⟩:=other t b e;omega
     .have:=this.2 au;omega
 .rw[if_neg i];refine⟨rfl,m,rfl,p,fun t b=>?_⟩;rw[c t b];constructor
  .intro x;omega
  .intro x;by_cases e:eG g t=o
   .exact absurd (other t b e).1 i
   .omega
theorem aKh{row next:bu}:∀ {n:Nat},n<=next.length->(∀a,a<n->row.getD a 0=(a:Int))->tS row next n=next
 | 0,_,_=>rfl
 | n+1,c,h=>by
  unfold tS;rw[aKh (n:=n) au fun a d=>h a au,h n au,Ay];refine Dc (by rw[Aw]) fun i f b=>?_;rw[List.getElem_set];split
  .rename_i e;subst e;rw[Ad,Ab b];rfl
  .rfl
def aQc{act:bt}(G:eO g)(b:IdA g act)(hi:i<g.cg.length):jW act (cu g i)=(cu g i).next:=by
 unfold jW;split
 .rename_i c;have⟨d,e,f⟩:=aD9 G hi c;exact aKh (Af _) fun a h=>b _ a d au
 .rfl
def aDj(g:aX)(o n:Nat):List cJ:=(List.range' o n).map (cu g)
def aOH{o n m:Nat}:aDj g o n++aDj g (o+n) m=aDj g o (n+m):=by
 unfold aDj;rw[<-Co,List.range'_append_1]
theorem aKn{g:aX}{rec:Nat->Option (List cS)}{lay:Nat->Nat->ce->aDm}:∀ {l:bu} {r:Nat} {L:List cS} (_:∀b f,r<=b->rec b=some f->∀dt,RO g b dt->∃a,lay b b dt=⟨aDj g b f.length,List.range' b f.length,a⟩/\RO g (b+f.length) a),fR rec l r=some L->∀dt,RO g r dt->∃a,fZ lay l r dt=(l,⟨aDj g r L.length,List.range' r L.length,a⟩)/\RO g (r+L.length) a
 | [],r,L,_,h,dt,j=>by
  simp only[fR,Au] at h;subst h;exact⟨dt,rfl,j⟩
 | c::l,r,L,k,h,dt,j=>by
  simp only[fR] at h;split at h
  .rename_i m;subst m;have⟨i,n,o⟩:=Cu.1 h;obtain⟨p,q,rfl⟩:=Bb.1 o;have⟨d,t,u⟩:=k r i (Af _) n dt j;have⟨e,v,w⟩:=aKn (l:=l) (r:=r+i.length) (L:=p) (fun b f x=>k b f au) q d u;have y:(aDj g r i.length).length=i.length:=by unfold aDj;rw[Al,List.length_range']
   refine⟨e,?_,by rw[Aj,<-Cy];exact w⟩;unfold fZ;rw[Ay,t];simp only[y];rw[v];simp only[Aj,aOH,List.range'_append_1]
  .cases h
theorem aOe{g:aX}{first:bu}{act:bt}(h:dC g=0)(l:IdF g.ch.length first)(m:IdA g act):∀ {f a F:Nat} {p d:Int} {L:List cS},fB g.cg.length (dN g) f a p d=some L->g.cg.length<=F+a->∀dt,RO g a dt->∃b,jR g first act F a a dt=⟨aDj g a L.length,List.range' a L.length,b⟩/\RO g (a+L.length) b
 | 0,_,_,_,_,_,c,_,_,_=>by cases c
 | f+1,a,F,p,d,L,c,w,dt,j=>by
  have G:=iN h;simp only[fB] at c;split at c
  .rename_i n;obtain⟨i,o,rfl⟩:=Bb.1 c;obtain⟨F',rfl⟩:∃F',F=F'+1:=⟨F - 1,au⟩;have⟨q,r⟩:=aP8 h l n j;have e:=aQc G m n;rw[gR] at o;have⟨b,t,u⟩:=aKn (g:=g) (lay:=jR g first act F') (fun x y v k dt j=>aOe h l m k au dt j) o _ r;refine⟨b,?_,by rw[Ax,Nat.add_comm i.length 1,<-Cy];exact u⟩;have z: {cu g a with info:=(cu g a).info,next:=(cu g a).next}=cu g a:=rfl;unfold jR;rw[e,q,t];simp only;rw[Ax,Nat.add_comm i.length 1];unfold aDj;rw[show 1+i.length=i.length+1 by omega,List.range'_succ,Dg]
  .cases c
end Go.Ev.Gl
namespace Go.Ev.Gl
variable {first:bu}{g:aX}{i:Nat}
theorem aOI:∀ {n i:Nat} {pl:bu},i+n<=pl.length->∀j,j<pl.length->(vK pl i (List.range' i n)).getD j 0=if i<=j/\j<i+n then(j:Int) else pl.getD j 0
 | 0,i,pl,_,j,a=>by
  rw[if_neg au];rfl
 | n+1,i,pl,h,j,a=>by
  rw[List.range'_succ];show(vK (pl.set i (i:Int)) (i+1) (List.range' (i+1) n)).getD j 0=_;rw[aOI (n:=n) (i:=i+1) (by rw[Aw];omega) j (by rw[Aw];exact a),iE au];by_cases e:j=i
  .subst e;rw[if_neg au,if_pos rfl,if_pos au]
  .rw[if_neg e];by_cases b:i+1<=j/\j<i+1+n
   .rw[if_pos b,if_pos au]
   .rw[if_neg b,if_neg au]
def aPG{n:Nat}(a:vC n (tY n []) first):IdF n first:=fun s b=>by
 have d:=a.le s b;have e:((s:Nat):Int)=(((first.getD s 0).toNat:Nat):Int):=aG0 (f:=fun x=>((x:Nat):Int)) (fun x y ⟨_,m,c,_⟩=>by cases c) (a.con s b);omega
theorem aIF{x y:K2}(h:lJ (ChE g []) x y):x=y:=by
 induction h with
 | edge e=>have⟨_,_,m,c,_⟩:=e;cases c
 | refl x=>rfl
 | symm _ d=>exact d.symm
 | trans _ _ a b=>exact a.trans b
def aPr:¬Dup g [] first:=by
 rintro⟨s,a,b,_,_,h,_,c⟩;have:=aIF c;cases this;omega
def aOl{act:bt}(c:sL g [] first act):IdA g act:=fun s a d f=>by
 have⟨b,h,_,i⟩:=c.at_ s a d f;have:=aIF i;rw[h];have e:a=b:=congrArg Prod.snd this;rw[e]
def join_nil{Z:St}{r:AV}(h:dC g=0)(o:aQG g [] Z r):∃nv iv e qv pv,r= .tup [.agg [je g.cm,nv,iv,e,qv,pv],je 0]/\aG 6 cF Z nv g.cg/\aG 2 cE Z iv g.ch/\bN .i64 Z pv ((List.range g.cg.length).map fun i=>((i:Nat):Int)):=by
 have G:=iN h;have p:pM g []=0:=by
  unfold pM;rw[if_neg (fun x=>x h),if_neg (by show ¬16<0;omega)];rfl
 rcases o with⟨x,_⟩|⟨_,first,q,⟨t,_⟩|⟨_,act,u,v,rfl,nv,iv,e,qv,pv,rfl,a,b,_,_,c⟩⟩
 .exact absurd p x
 .exact absurd t aPr
 .have w:=aPG q;have y:=aOl u;have⟨T,z,f,_⟩:=G.walk;obtain⟨dt,l,m,rfl,E,n⟩:=aOe h w y z (Af _) [] ⟨0,rfl,Ck _,fun s F=>au⟩;rw[f] at l n;rw[l] at a b c;simp only at a b c;have A:aDj g 0 g.cg.length=g.cg:=by
   unfold aDj;refine Dc (by rw[Al,List.length_range']) fun i B d=>?_;rw[Ej,List.getElem_range',Am,Fp];have:=dI (g:=g) d;rw[Ab d] at this;exact(Bh this).symm
  have em:m=g.ch.length:=by
   by_cases x:m<g.ch.length
   .have:=(n m x).2 (by rw[Am];exact(G.fst m x).1);omega
   .omega
  have C:(List.range m).map (fun r:Nat=>cv g (r:Int))=g.ch:=by
   rw[em];refine Dc (by rw[Al,Bj]) fun i B d=>?_;rw[Ej,Ek];unfold cv;rw[Ay,Ad,Ab d];rfl
  rw[A] at a;rw[C] at b;refine⟨nv,iv,e,qv,pv,rfl,a,b,?_⟩;have D:vK (List.replicate g.cg.length (0:Int)) 0 (List.range' 0 g.cg.length)=(List.range g.cg.length).map fun i=>((i:Nat):Int):=by
   refine pT (by rw[aBf,Aq,Al,Bj]) fun j k=>?_;rw[aBf,Aq] at k;rw[aOI (by rw[Aq];omega) j (by rw[Aq];exact k),if_pos au,Ad,Az,Br k];rfl
  rw[D] at c;exact c
section
variable {g:aX}{L:bt}{first:bu}{act:bt}{s:List (List eR)}
def vO(g:aX)(first:bu)(act:bt)(s:List (List eR)):List (List eR):=(List.range g.ch.length).map (tK g first act (iM g first act) s)
def aKs{a:Nat}(hi:i<g.ch.length)(b:a<fJ g i):qG (vO g first act s) i a=qG s ((iM g first act).idxOf (mS first i)) (aAe act i a):=by
 unfold qG vO;rw[Ad (l:=(List.range g.ch.length).map _),Az,Br hi];show(tK g first act (iM g first act) s i).getD a aNm=_;unfold tK;rw[Ad,Az,Br b];rfl
def aPe(G:eO g)(h:∀m∈L,gT g m)(j:aFB g L first)(c:sL g L first act){a:Nat}(hi:i<g.ch.length)(d:a<fJ g i):aAe act i a<fJ g (mS first i):=by
 have⟨b,e,f,_⟩:=c.at_ i a hi d;unfold aAe mS;rw[e,Ay];exact f
def aNc(G:eO g)(j:∀m∈L,gT g m)(d:aFB g L first)(k:¬Dup g L first)(e:sL g L first act):aLm g first act (vO g first act s):=fun i a hi f=>by
 have⟨b,c⟩:=zG d hi;have b:mS first i<g.ch.length:=b;have c:first.getD (mS first i) 0=((mS first i:Nat):Int):=c;have h:=aPe G j d e hi f;rw[aKs hi f,aKs b h,aH5 k e b c h];have:mS first (mS first i)=mS first i:=by
  show(first.getD (mS first i) 0).toNat=_;rw[c,Ay]
 rw[this]
def aLr(G:eO g)(a:∀i,i<g.ch.length->0<=(cv g (i:Int)).cr):sG g.ch (vO g first act s):=by
 refine⟨by unfold vO;rw[Al,Bj],fun i x r c b=>?_⟩;have hi:=(Ai.1 c).1;unfold vO at b;rw[Az,Br hi] at b;cases b;unfold tK;rw[Al,Bj];have e:cv g (i:Int)=x:=by
  have:=aC7 hi;rw[c] at this;exact(Bh this).symm
 have:=a i hi;unfold fJ;rw[e] at this ⊢;omega
def aNb(G:eO g)(u:pX g act)(v:aFB g L first)(w:¬Dup g L first)(x:sL g L first act)(k:sG (xT g (iM g first act)) s):(List.range (iM g first act).length).map (aGC (iM g first act) (vO g first act s))=s:=by
 have⟨f,h⟩:=aDR G u v;have i:s.length=(iM g first act).length:=by
  have:=k.1;unfold xT at this;rw[Al] at this;exact this
 refine Dc (by rw[Al,Bj,i]) fun q b m=>?_;rw[Al,Bj] at b;rw[Ej,Ek];obtain⟨r,e⟩:∃r,r=(iM g first act)[q]:=⟨_,rfl⟩;have⟨n,o⟩:=h r (by rw[e];exact Bt b);have y:(iM g first act).getD q 0=r:=by rw[e,Ad,Ab b];rfl
 have c:(iM g first act).idxOf r=q:=by rw[e];exact List.Nodup.idxOf_getElem f q b
 have j:mS first r=r:=by unfold mS;rw[o,Ay]
 have p:=k.2 q (cv g (r:Int)) s[q] (by
  unfold xT;rw[Az,Ab b,<-e];rfl) (Ab m)
 have d:s[q].length=fJ g r:=by unfold fJ;omega
 unfold aGC;rw[y];unfold vO;rw[Ad,Az,Br n];show tK g first act (iM g first act) s r=s[q];unfold tK;refine Dc (by rw[Al,Bj,d]) fun a t z=>?_;rw[Al,Bj] at t;rw[Ej,Ek,j,c,aH5 w x n o t];unfold qG;rw[Ad (l:=s),Ab m];show s[q].getD a aNm=_;rw[Ad,Ab z];rfl
end
end Go.Ev.Gl
namespace Go.Ev.Gl
variable {t n:Nat}{S S0 X:St}{v rv:AV}{R:Nat->Prop}{M:List (List eR)}
def aId{k:Nat}{t:Type}{E:St->cd->t->Prop}{l:List t}(h:aG k E S v l)(f:n<=l.length):∃v',(∀ (F:Fr) (x:cT),gN (x.val F)=some n->rO (.slice k) v none (some x) none F=some v')/\aG k E S v' (l.take n):=by
 have j:Nat.ble 0 n=true:=Ak (Ck _);rcases h with⟨m,y⟩|⟨b,off,cap,o,cs,rfl,A,u,d,p⟩
 .subst m;obtain rfl:n=0:=by simpa using f
  have w:Nat.ble 0 0=true:=rfl;rcases y with rfl|rfl
  .exact⟨.ct,fun F x c=>by simp only[rO,aKy,lA,jO,aH,c,w,aN],.inl ⟨rfl,.inl rfl⟩⟩
  .exact⟨.emp,fun F x c=>by simp only[rO,aKR,lA,jO,aH,c,w,aN],.inl ⟨rfl,.inr rfl⟩⟩
 .have q:Nat.ble cap cap=true:=Ak (Af _);have r:Nat.ble n cap=true:=Ak au;by_cases m:cap=0
  .have z:l= []:=Bo.1 au;subst z;subst m;obtain rfl:n=0:=by simpa using f
   have e:Nat.beq 0 0=true:=rfl;cases o
   .exact⟨.sl b off 0 0 false,fun F x c=>by simp only[rO,aFA,lA,jO,aH,c,q,r,j,e,aN,aU,Dt],.inr ⟨b,off,0,false,cs,rfl,Af _,u,d,fun i a hi=>by simp at hi⟩⟩
   .exact⟨.emp,fun F x c=>by simp only[rO,aFA,lA,jO,aH,c,q,r,j,e,aN,Option.isNone_none],.inl ⟨rfl,.inr rfl⟩⟩
  .have e:Nat.beq cap 0=false:=by rw[Cj];intro h;rw[Bl] at h;omega
   refine⟨.sl b off n cap o,fun F x c=>?_,.inr ⟨b,off,cap,o,cs,by rw[Bv,Nat.min_eq_left f],by rw[Bv];omega,u,d,fun i a hi=>?_⟩⟩
   .simp only[rO,aFA,lA,jO,aH,c,q,r,j,aN,e,aU,Es,Dy,Bs,Option.isNone_none];cases o<;>rfl
   .rw[List.getElem?_take] at hi;split at hi
    .exact p i a hi
    .cases hi
variable {fns:T eY}
def aMM{a:Nat}{y:Int}(h:0<=y):mnI ((a:Nat):Int) y=((min a y.toNat:Nat):Int):=by
 unfold mnI;split<;>omega
def aRZ(r:AV)(Z:St):Prop:=∃ (g:aX) (nv iv v:AV) (L:bt),r= .tup [.agg [je g.cm,nv,iv],v]/\dC g=0/\aG 6 cF Z nv g.cg/\aG 2 cE Z iv g.ch/\aG 1 nK Z v L/\L.length<=4/\(∀m∈L,gT g m)/\g.cg.length<=30/\∀x∈g.cg,kI g.cm g.ch x
def aIK{lv:AV}{dl:bu}{p c k:Int}{seen:Bool}(H:Has fns)(hl:bN .i64 S lv dl)(V:dl.length<=140737488355328):
  iI fns (.fn 6 [] []) [lv,je p,je c,.bool seen,je k] S fun r Z=>Same S Z/\aRZ r Z:=by
 refine cK H.f6 (by simp) ?_;refine ae ?_;refine cA ?_;refine bS ?_;intro S1 s1 n1 g1;refine am ?_;refine cA (am ?_);refine bK (am ?_);refine aW (zX H (n:=3) az az) ?_;rintro _ S2 ⟨s2,y,rfl,y1,y2⟩;have w1:IntKind.i64.wrap (1+y)=1+y:=wrap_i64 au au;refine fl w1 ?_;refine bK (am ?_);refine aW (zX H (n:=2) az az) ?_;rintro _ S3 ⟨s3,z,rfl,z1,z2⟩;have w2:IntKind.i64.wrap (2+z)=((2+z.toNat:Nat):Int):=by rw[wrap_i64 au au];omega
 refine fl w2 ?_;have bq:2<=2+z.toNat/\2+z.toNat<=3:=by omega
 have j:Same S S3:=(s1.trans s2).trans s3;refine bK (am ?_);refine aW (aH6 (cp:=2+z.toNat) (seen:=seen) H (hl.same j) V au au au) ?_;rintro _ t ⟨s4,one,nv,iv,f,W,u,rfl,w,hi,A⟩;obtain⟨g,B⟩:∃g:aX,g=uW one (2+z.toNat) seen:=⟨_,rfl⟩;have a:dC g=0:=by rw[B];exact(aGf f au).1
 have C:∀x∈g.cg,kI g.cm g.ch x:=by rw[B];exact(aGf f au).2
 have D:g.cg.length<=30:=by
  rw[B,aHw];obtain X|X:z.toNat=0\/z.toNat=1:=by omega
  .rw[X] at u ⊢;have e:mx 1 ((30 - 1) / ((2+0:Nat):Int))=14:=by decide
   have:one.cg.length<=14:=by omega
   omega
  .rw[X] at u ⊢;have e:mx 1 ((30 - 1) / ((2+1:Nat):Int))=9:=by decide
   have:one.cg.length<=9:=by omega
   omega
 have aa:g.cm=1+y:=by rw[B,<-W];rfl
 rw[<-B] at w hi A;rw[<-aa];have G:=iN a
 refine bS ?_;intro S5 s5 n5 g5
 refine cQ (b:=t.nx) (aq) (by refine am ?_;exact aY _) g5 rfl rfl ?_;intro S6 v6 k6 g6;refine am ?_
 have o:Same t S6:=v6.same s5 (Af _);have m4:=s4.1;have bs:=j.1;have m6:=o.1;have ab:S6.h.get S.nx=jf [je 0,.ct,.ct]:=(o.2 _ (by have:=s2.1;have:=s3.1;omega)).trans ((s4.2 _ (by have:=s2.1;have:=s3.1;omega)).trans ((s3.2 _ (ax s2.1)).trans ((s2.2 _ au).trans g1)));have ac:S.nx<S6.nx:=by have:=s2.1;have:=s3.1;omega
 have l6:t.nx<S6.nx:=by omega
 have an:=(j.trans s4).trans o;have I:=aG.same (E:=cF) bQ w o;have J:=aG.same (E:=cE) cB hi o;clear v6 g5 s5 k6 n5 g1 w hi;have K:=gK g6;refine cA (de K ?_);refine bK (ae ?_);refine aW (aHd H I J (ax G.n2)) ?_;rintro _ S7 ⟨l,v,rfl,_,hv⟩;have⟨T,hT,ao,R,M⟩:=hv a;have i:∀m∈mT g T g.cg.length,gT g m:=fun m hm=>(aNt G hT ao m hm).1;obtain⟨L,N⟩:∃L:bt,L=mT g T g.cg.length:=⟨_,rfl⟩;rw[<-N] at R i M;clear N;have aw:=aG.len R;have bv:=aG.self R;rw[a];refine ew @xP @xN ?_;have g7:=(l.2 _ l6).trans g6;have O:=gK g7;have aI:=(l.2 _ ac).trans ab;have aV:=aG.same (E:=cF) bQ I l;have aZ:=aG.same (E:=cE) cB J l;have a0:=aG.self aV;have a1:=aG.self aZ;have a2:=an.trans l;have m7:=l.1;have a3:cO (.agg [je g.cm,nv,iv]) (.agg [je g.cm,nv,iv])=true:=by
  simp only[cO,kK,a0,a1,fO,jG,Fm,aN,Dq]
 have ne:¬t.nx=S.nx:=by have:=s2.1;have:=s3.1;omega
 have a5:t.nx<S7.nx:=by omega
 refine aD (iD (fun c=>c=S.nx) ?_);intro Y y0;refine fg O aw a3 a5 ne @An ?_;refine dR rfl ?_;refine ae ?_;refine aW (zX H (n:=4) az az) ?_;rintro _ U ⟨u0,q,rfl,q1,q2⟩;refine⟨u0,?_⟩;have w3:IntKind.i64.wrap (1+q)=1+q:=wrap_i64 au au;obtain⟨n,w⟩:∃n:Nat,n=min L.length (1+q).toNat:=⟨_,rfl⟩;have a8:mnI (L.length:Int) (1+q)=(n:Int):=by rw[w];exact aMM au
 have⟨v',hs,bw⟩:=aId (n:=n) (aG.same (E:=nK) fM R (y0.trans u0)) au;have ba:eE (.dz false [.t 32,.t 35])=false:=rfl;have bb:∀F:Fr,gN (aC 36 F)=some n->rO (.slice 1) v none (some (.t 36)) none F=some v':=fun F h=>hs F (.t 36) h;simp only[↓sU,sD,rE,↓reduceIte,rA,w3,ba,aAx,jQ,nR,Ah,aKC,a8,aDq,bb,aJ];have d:=y0.trans u0;have mU:=d.1;have bd:U.h.get S.nx=jf [je 0,.ct,.ct]:=(d.2 _ au).trans aI;refine aID (b:=S.nx) rfl (af) (by refine ae ?_;exact aY _) bd rfl rfl rfl ?_;intro Z z1 z2 z3;have P:=gK z3;refine de @bL ?_;refine aT (ew @dE P ?_);have kZ:∀b,b<U.nx->b≠S.nx->Z.h.get b=U.h.get b:=fun b Q be=>z1.2 b Q be;have⟨bj,bk⟩:=A Z au fun b Q bm=>(kZ b au (by have:=s2.1;have:=s3.1;omega)).trans ((d.2 b au).trans ((l.2 b au).trans (o.2 b Q)));have⟨v2,bn,bp⟩:=aId (n:=n) (M Z au fun b Q bm=>(kZ b au au).trans (d.2 b Q)) au;have:=(hs Ev.T.e (.c (je (n:Int))) (by simp only[aCM,aJ])).symm.trans (bn Ev.T.e (.c (je (n:Int))) (by simp only[aCM,aJ]));cases this;exact⟨z1.same (a2.trans d) (Af _),g,nv,iv,v',L.take n,rfl,a,bj,bk,bp,by rw[Bv];omega,fun m hm=>i m (Dz hm),D,C⟩
def aB6(n:Nat):eR:=⟨false,if n=0 then [] else [n],[1]⟩
def aEu{b:Nat}(h:S.h.get b=jf [.int .u32 (n:Int)])(a:b<S.nx):iL S (.sl b 0 1 1 false) [n]:=
 .inr ⟨b,0,1,false,[.int .u32 (n:Int)],rfl,Af _,a,by unfold cI;rw[h];rfl,fun i x hi=>by
  cases i with
  | zero=>cases hi;rfl
  | succ i=>simp at hi⟩
def aLk:iL S .ct []:=.inl ⟨rfl,.inl rfl⟩
def aJ0(H:Has fns):iI fns (.fn 15 [] []) [.int .u32 (n:Int)] S fun r m=>Same S m/\∃e,r= .agg e/\qR m (fun c=>S.nx<=c) e (aB6 n):=by
 refine cK H.f15 (by simp) ?_;refine am ?_;refine cA ?_;refine bS ?_;intro S1 s1 x o;refine am ?_;refine gH (am ?_);by_cases f:n=0
 .refine aS (by simp only[↓sU,sD,rE,↓reduceIte,rA,f,Int.natCast_zero];rfl) ?_;refine cA (am ?_);refine fW (jS (n:=((1:Nat):Int)) (k:=.u32) (by simp only[↓aF,aE,rE,↓reduceIte,rA];try rfl)) ?_;intro d s2 q i;have j:∀ (F:Fr) (h:Ev.T AB),aC 5 F= .sl S1.nx 0 1 1 false->gO (.build [.bool false,.ct,.ct] [(2,1,.t 5)]) F h=some (.agg [.bool false,.ct,.sl S1.nx 0 1 1 false]):=fun F h e=>by
   show(bG (eI _ (dJ F [(2,1,.t 5)])) fun cs=>some (AV.agg cs))=_;simp only[dJ,show(cT.t 5).val F=_ from e];rfl
  refine fl j ?_;refine cQ (b:=S.nx) (cs':=[.bool false,.ct,.sl S1.nx 0 1 1 false]) (aq) (by refine am ?_;exact aY _) ((s2.2 _ au).trans o) rfl rfl ?_;intro p s3 n3 l;refine am ?_;refine aT (ew @dE (ld3 l) ?_);have t:=s2.1;refine⟨s3.same (s1.trans s2) (Af _),_,rfl,.ct,.sl S1.nx 0 1 1 false,rfl,?_,aEu (n:=1) ((s3.2 _ au au).trans i) au,fun c a=>?_⟩
  .show iL p .ct (if n=0 then [] else [n]);rw[if_pos f];exact aLk
  .rcases a with a|a
   .cases a
   .cases a;omega
 refine aQ im (aK ?_);refine am ?_
 refine cA (am ?_);refine fW (jS (n:=(n:Int)) (k:=.u32) (aq)) ?_;intro d s2 q i
 refine fW (jS (n:=((1:Nat):Int)) (k:=.u32) (by simp only[↓aF,aE,rE,↓reduceIte,rA];try rfl)) ?_;intro p s3 n3 l;have j:∀ (F:Fr) (h:Ev.T AB),aC 8 F= .sl S1.nx 0 1 1 false->aC 9 F= .sl d.nx 0 1 1 false->gO (.build [.bool false,.ct,.ct] [(1,1,.t 8),(2,1,.t 9)]) F h=some (.agg [.bool false,.sl S1.nx 0 1 1 false,.sl d.nx 0 1 1 false]):=fun F h e u=>by
  show(bG (eI _ (dJ F [(1,1,.t 8),(2,1,.t 9)])) fun cs=>some (AV.agg cs))=_;simp only[dJ,show(cT.t 8).val F=_ from e,show(cT.t 9).val F=_ from u];rfl
 refine fl j ?_;refine cQ (b:=S.nx) (cs':=[.bool false,.sl S1.nx 0 1 1 false,.sl d.nx 0 1 1 false]) (aq) (by refine am ?_;exact aY _) ((s3.2 _ au).trans ((s2.2 _ au).trans o)) rfl rfl ?_;intro v s4 y w;refine am ?_;refine aT (ew @dE (ld3 w) ?_);have t:=s2.1;have z:=s3.1;refine⟨s4.same ((s1.trans s2).trans s3) (Af _),_,rfl,.sl S1.nx 0 1 1 false,.sl d.nx 0 1 1 false,rfl,?_,aEu (n:=1) ((s4.2 _ au au).trans l) au,fun c a=>?_⟩
 .show iL v _ (if n=0 then [] else [n]);rw[if_neg f];exact aEu ((s4.2 _ au au).trans ((s3.2 _ au).trans i)) au
 .rcases a with a|a<;>cases a<;>omega
def aOr{l:List eR}{e:cd}{x:eR}(h:mL 3 (qR X fun c=>aM rv≠some c/\R c) S0 X rv l)(k:S0.nx<=X.nx)(m:X.h.get t=jf e)(b:qR X (fun c=>aM rv≠some c/\R c) e x)(r:l.length<=100000):
  ∃a X',gG 56 3 rv (.sl t 0 1 1 false) X=some (a,X')/\X.nx<=X'.nx/\(∀c,c<X.nx->aM rv≠some c->X'.h.get c=X.h.get c)/\mL 3 (qR X' fun c=>aM a≠some c/\R c) S0 X' a (l++ [x]):=by
 obtain⟨nv,u,rfl,_⟩:=id b;have⟨a,X',n,o,i,j,p⟩:=mL.push (bytes:=56) h az k rfl (aTR m) rfl b ay ay;refine⟨a,X',n,i,j,o.move (Af _) (fun _ _=>rfl) fun _ _ b=>b.move i fun c q d=>⟨j c q d.1,fun f=>?_,d.2⟩⟩;rcases p c f with h|h
 .exact d.1 h
 .omega
def aJK{r:List eR}(h:mL 1 (RwP X fun c=>aM v≠some c/\R c) S0 X v M)(f:S0.nx<=X.nx)(i:X.h.get t=jf [rv])(j:RwP X (fun c=>aM v≠some c/\R c) [rv] r)(p:M.length<=100000):
  ∃v' X',gG 24 1 v (.sl t 0 1 1 false) X=some (v',X')/\X.nx<=X'.nx/\(∀c,c<X.nx->aM v≠some c->X'.h.get c=X.h.get c)/\mL 1 (RwP X' fun c=>aM v'≠some c/\R c) S0 X' v' (M++ [r]):=by
 have⟨v',X',k,l,d,e,m⟩:=mL.push (bytes:=24) h az f rfl (aPE i) rfl j ay ay;refine⟨v',X',k,d,e,l.move (Af _) (fun _ _=>rfl) fun _ _ n=>n.move d fun c o a=>⟨e c o a.1,fun b=>?_,a.2⟩⟩;rcases m c b with h|h
 .exact a.1 h
 .omega
def SmI(S:St)(v w:AV)(N:Nat)(k:Nat)(A:bO)(X:St):Prop:=A.inr=false/\Same S X/\∃i,i+k=N/\aC 0 A.F=v/\aC 1 A.F=w/\aC 5 A.F=je (i:Int)
def SmJ(S:St)(v w:AV)(N i:Nat)(k:Nat)(A:bO)(X:St):Prop:=A.inr=false/\Same S X/\∃a,a+k=N/\aC 0 A.F=v/\aC 1 A.F=w/\aC 5 A.F=je (i:Int)/\aC 6 A.F=je (a:Int)
def aJg{w:AV}(H:Has fns)(y:aG 1 lN S v M)(I:aG 1 lN S w M)(ht:aEe M)(hl:M.length<=100000)(hr:∀r∈M,r.length<=100000):iI fns (.fn 20 [] []) [v,w] S fun r S'=>r= .bool true/\Same S S':=by
 refine cK H.f20 (by simp) ?_;refine ae ?_;refine cA (ae ?_);refine gH (ew y.len I.len ?_);refine aQ (iu (Aa (show ¬ (M.length:Int)≠(M.length:Int) from fun h=>h rfl))) (aK ?_);refine ae ?_
 refine aD (bB (Q:=fun o J X=>o= .normal/\J.inr=false/\Same S X) (aD (aL ?_)) ?_)
 .refine ae ?_;refine aO (bX (SmI S v w M.length) ?_ M.length _ _ ⟨rfl,eu _,0,au,af,af,ag⟩);rintro k ⟨F,inr⟩ X ⟨j,x,i,ab,b,f,d⟩;simp only at j b f d;subst j;refine gH (ez b d y.len ?_);by_cases A:i<M.length;rotate_left
  .refine aQ im (bT ?_);refine ae ?_;exact x
  refine aS im (aK ?_);refine ae ?_
  have w1:=ed i
  have l:=Ab A;have ac:=hr _ (Bt A);have⟨b1,q1,r1,B,_,m,G⟩:=aBz (aG.same (E:=lN) iJ y x) l;have⟨b2,q2,r2,K,_,q,h2⟩:=aBz (aG.same (E:=lN) iJ I x) l;refine aD (aO (aD (aD (jK ?_))));simp only[↓sU,sD,rE,↓reduceIte,rA,b,f,d,aJ,B,m,aG.self G,G.len,K,q,aG.self h2,h2.len];refine aQ (iu (Aa (show ¬ ((M[i].length:Nat):Int)≠((M[i].length:Nat):Int) from fun h=>h rfl))) (aK ?_);refine ae ?_
  have N:=fun n=>x.trans (Same.nx X n);refine cA (ae ?_);refine bB (Q:=fun o J Y=>o= .normal/\SmJ S v w M[i].length i 0 J Y) (aO (bX (SmJ S v w M[i].length i) ?_ M[i].length _ _ ⟨rfl,N _,0,au,ah b,ah f,ah d,ag⟩)) ?_
  .clear b f d;rintro k' ⟨F,inr⟩ Y ⟨j,p,a,C,b,f,d,D⟩;simp only at j b f d D;subst j;have⟨b1,q1,r1,B,_,m,G⟩:=aBz (aG.same (E:=lN) iJ y p) l;refine gH (fh b d D @aJ B m G.len ?_);by_cases ha:a<M[i].length;rotate_left
   .refine aQ im (bT ?_);refine ae ?_;obtain rfl:k'=0:=by omega
    exact⟨rfl,p,a,C,by refine⟨?_,?_,?_,?_⟩<;>simp only[↓sU,sD,rE,↓reduceIte,rA,b,f,d,D]⟩
   refine aS im (aK ?_);refine ae ?_
   have w2:=ed a
   have⟨b1,q1,r1,b2,q2,e,B,l1,m,O,K,l2,q,P,hE,hT⟩:=aCB y p ht l ha;have⟨b3,q3,r3,b4,q4,e',i3,l3,ld3,R,i4,l4,T,V,W,_⟩:=aCB I p ht l ha;have low:∀ {c},c<S.nx->c<Y.nx:=fun hc=>Ae hc p.1;refine aD (aO (aD (iD (fun _=>False) ?_)));intro Z z;simp only[↓sU,sD,rE,↓reduceIte,rA,b,f,d,D,aJ,An,B,low l1,m,O,K,low l2,q,P,i3,low l3,ld3,R,i4,low l4,T,V];refine dR rfl ?_;refine ae ?_;refine aW (aI0 H (qD hE z) (qD W z) hT) ?_;rintro _ U ⟨u,t,rfl,aa⟩;obtain rfl:t=true:=aa.2 rfl;refine⟨u,?_⟩;refine ew @fY @bL ?_;refine aQ (iu @Cm) (aK ?_);refine ae ?_;refine aL (ew D w2 ?_);exact⟨k' - 1,au,rfl,p.trans (z.trans u),a+1,au,by refine⟨?_,?_,?_,?_⟩<;>simp only[↓sU,sD,rE,↓reduceIte,rA,b,f,d]⟩
  .clear b f d;rintro o ⟨F,inr⟩ Y ⟨rfl,j,p,a,C,b,f,d,_⟩;simp only at j b f d;subst j;refine ae ?_
   refine aL (ew d w1 ?_);exact⟨k - 1,au,rfl,p,i+1,au,by refine⟨?_,?_,?_⟩<;>simp only[↓sU,sD,rE,↓reduceIte,rA,b,f]⟩
 rintro o ⟨F,inr⟩ X ⟨rfl,j,x⟩;simp only at j;subst j;refine ae ?_
 refine cA (ae ?_);refine aT (ae ?_);exact x
end Go.Ev.Gl
namespace Go.Ev.Gl
variable {g:aX}{L:bt}{first:bu}{i:Nat}{J:List fU}{x:fU}
theorem aHM{g:aX}:∀ {L:bt},(∀m∈L,gT g m)->oI g L=0
 | [],_=>rfl
 | m::L,h=>by
  show(if lE g.cg.length m (jD g m)≠0 then lE g.cg.length m (jD g m) else oI g L)=0;rw[if_neg (fun e=>e (h m (Bk ..)).e)];exact aHM fun x a=>h x (Bf _ a)
def aP0(a:dC g=0)(b:L.length<=4)(h:∀m∈L,gT g m):pM g L=0:=by
 unfold pM;rw[if_neg (fun x=>x a),if_neg au];exact aHM h
def aJA{z r:AV}{K:bu->bt->AV->Prop}{act:bt}(l:dC g=0)(a:∀m∈L,gT g m)(n:pM g L=0)(f:aFB g L first)(i:¬Dup g L first)(o:sL g L first act)(h:aP1 g L z K r):K first act r:=by
 rcases h with⟨p,_⟩|⟨_,first',b,t⟩
 .exact absurd n p
 obtain rfl:first=first':=aPO (fun x y ⟨j,q,u,e⟩=>⟨j,by have:=(aML l a).2 q u;have:=this.2 x j;omega⟩) f b;rcases t with⟨c,_⟩|⟨_,k,d,v⟩
 .exact absurd c i
 .obtain rfl:=aNQ f i o d;exact v
def qM(x:eR):Prop:=x.num.length<=1/\x.den.length<=1
def aHC{n:Nat}:qM (aB6 n):=by
 unfold qM aB6;constructor
 .show(if n=0 then [] else [n]).length<=1;split
  .exact Ck _
  .exact Af _
 .show [1].length<=1;decide
theorem aM5{s:List (List eR)}(h:∀r∈s,∀x∈r,qM x){a:Nat}:qM (qG s i a):=by
 have b:qM aNm:=⟨Ck _,Ck _⟩;unfold qG;rw[Ad (l:=s)];cases c:s[i]? with
 | none=>exact b
 | some r=>
  show qM (r.getD a aNm);rw[Ad];cases d:r[a]? with
  | none=>exact b
  | some x=>exact h r (Ar c) x (Ar d)
def wU{s:List (List eR)}(h:∀r∈s,∀x∈r,qM x):aEe s:=fun r a x b=>by
 have:=h r a x b;unfold qM at this;unfold aFY;omega
def aJP{act:bt}{s:List (List eR)}(h:∀r∈s,∀x∈r,qM x):∀r∈vO g first act s,∀x∈r,qM x:=fun r b x c=>by
 unfold vO at b;obtain⟨i,_,rfl⟩:=Cq.1 b;unfold tK at c;obtain⟨a,_,rfl⟩:=Cq.1 c;exact aM5 h
def aRj{X X':St}{iv:AV}(hi:aG 2 cE X iv J)(f:Same X X')(h:J[i]? =some x):∃b q,eQ (.slice 2) iv i=some (.ptr b q)/\b<X.nx/\eK (.ptr b (q+1)) false 1 X'.h=some (je x.cr):=by
 have⟨e,br,qr,c,a,_,d,_,j⟩:=aG.at hi az h;have d:e= [je x.player,je x.cr]:=d;subst d;refine⟨br,qr,c,a,?_⟩;rw[jH f a,j 1 _ rfl]
def aJs{act:bt}(G:eO g)(c:pX g act):(iM g first act).length<=g.cg.length:=by
 have⟨Tr,b,a,_⟩:=G.walk;have:=aB9 (g:=g) (first:=first) (act:=act) (f:=g.cg.length) (o:=0) (i:=0) (dt:=[]);have:=wY (first:=first) G c b a (f:=g.cg.length) (o:=0) (i:=0) (dt:=[]) G.n1;have:=(qC (mN az (show fB g.cg.length (dN g) (g.cg.length+1) 0 (-1) 0=some Tr from b)) (i:=0) (by rw[a];exact G.n1)).2.1;unfold iM;simp only[Cb] at *;omega
def aSx{h:Ev.T AB}{b:Nat}{x0 x1 x2 a c d:AV}{o:Bool}{s:Nat}(e:h.get b=some (.cells [x0,x1,x2,a,c,d] o s)):eK (.ptr b (0+0)) true 3 h=some (.agg [x0,x1,x2]):=by
 show bG (bG (cI h b) fun cs=>cut cs (0+0) 3) (fun cs=>some (AV.agg cs))=_;unfold cI;rw[e];rfl
def aRc(J:List fU)(M:List (List eR)):Prop:=∀ (i:Nat) (x:fU) (r:List eR),J[i]? =some x->M[i]? =some r->x.cr=(r.length:Int)
def aLY{M:List (List eR)}{r:List eR}(h:aRc J M)(d:J[M.length]? =some x)(f:x.cr=(r.length:Int)):aRc J (M++ [r]):=fun i y q b a=>by
 by_cases e:i<M.length
 .rw[Ao e] at a;exact h i y q b a
 .have c:=(Ai.1 a).1;rw[Aj,Ba] at c;obtain rfl:i=M.length:=by omega
  rw[Ap (Af _),Dt] at a;cases a;rw[d] at b;cases b;exact f
def BkN(S0:St)(gb a:Nat)(mv b:AV)(n:Nat)(k:Nat)(A:bO)(X:St):Prop:=A.inr=false/\Same S0 X/\∃i,i+k=n/\aC 5 A.F=b/\aC 13 A.F= .ptr gb 0/\aC 14 A.F=mv/\aC 15 A.F= .ptr a 0/\aC 17 A.F=je (i:Int)
def BkT(gb a db:Nat)(mv b:AV)(i:Nat)(F:Fr):Prop:=aC 13 F= .ptr gb 0/\aC 14 F=mv/\aC 18 F= .ptr a 0/\aC 19 F=je 0/\aC 20 F= .ptr db 0/\aC 21 F=b/\aC 22 F=je (i:Int)
def BkI(B:St)(gb b db:Nat)(mv d:AV)(dl:bu)(J:List fU)(k:Nat)(A:bO)(X:St):Prop:=
 A.inr=false/\cD db B X/\uC X db d dl/\∃ (i:Nat) (a:AV) (M:List (List eR)),i+k=J.length/\M.length=i/\aRc J M/\(∀r∈M,∀x∈r,qM x)/\mL 1 (RwP X fun c=>aM a≠some c/\B.nx<=c) B X a M/\BkT gb b db mv a i A.F
def BkJ(Y0:St)(gb b db:Nat)(mv d e:AV)(dl:bu)(i m:Nat)(k:Nat)(A:bO)(X:St):Prop:=
 A.inr=false/\cD db Y0 X/\uC X db d dl/\∃ (a:Nat) (rv:AV) (r:List eR),a+k=m/\r.length=a/\(∀x∈r,qM x)/\mL 3 (qR X fun c=>aM rv≠some c/\Y0.nx<=c) Y0 X rv r/\BkT gb b db mv e i A.F/\aC 23 A.F=rv/\aC 24 A.F=je (a:Int)
variable {fns:T eY}
def aI7{S:St}{lv I:AV}{dl dn:bu}{p c i0:Int}{seen:Bool}(H:Has fns)(dg:∀S,iI fns (.fn 5 [] []) [] S fun r S'=>r= .bool true/\Same S S')(hl:bN .i64 S lv dl)(dh:dl.length<=140737488355328)(hm:bN .i64 S I dn)(di:dn.length<=140737488355328):
  iI fns (.fn 4 [] []) [lv,je p,je c,.bool seen,je i0,I] S fun r S'=>r= .bool true/\Same S S':=by
 refine cK H.f4 (by simp) ?_;refine ae ?_;refine cA (ae ?_);refine gH (ae ?_);refine bK (ae ?_);refine aW (dg S) ?_;rintro _ S2 ⟨rfl,s2⟩;refine ew @fY @Cm ?_;refine aQ (af) (aK ?_);refine ae ?_
 have ba:=hl.same s2;have b2:=hm.same s2;refine gH ?_;by_cases ep:dl.length>80
 .refine ez ba.len @Ah (Ac (au:(dl.length:Int)>80)) ?_;refine aS (af) ?_;refine cA (ae ?_);refine aT (ae ?_);exact s2
 by_cases er:dn.length>60
 .refine ff ba.len b2.len @Ah (Aa (au:¬ (dl.length:Int)>80)) (Ac (au:(dn.length:Int)>60)) ?_;refine aS (af) ?_;refine cA (ae ?_);refine aT (ae ?_);exact s2
 refine ff ba.len b2.len @Ah (Aa (au:¬ (dl.length:Int)>80)) (Aa (au:¬ (dn.length:Int)>60)) ?_;refine aQ (af) (aK ?_);refine ae ?_
 refine cA (am ?_);refine bK (am ?_);refine aW (aIK (p:=p) (c:=c) (k:=i0) (seen:=seen) H ba dh) ?_;rintro _ S3 ⟨s3,g,nv,iv,v,L,rfl,hf,hn,hi,hL,dj,K,es,b3⟩;refine fo @xP @xN ?_;refine bS ?_;intro S4 s4 n4 g4
 refine cQ (b:=S3.nx) (aq) (by refine am ?_;exact aY _) g4 rfl rfl ?_;intro S5 v5 k5 g5;refine am ?_
 have aI:Same S3 S5:=v5.same s4 (Af _);have et:=aI.1;have G:=iN hf;have dk:=(s2.trans s3).trans aI;have bb:=aG.same (E:=cF) bQ hn aI;have bd:=aG.same (E:=cE) cB hi aI;have b6:=aG.same (E:=nK) fM hL aI;obtain⟨gb,b8⟩:∃gb,gb=S3.nx:=⟨_,rfl⟩;rw[<-b8] at g5;have dm:gb<S5.nx:=by omega
 clear v5 g4 s4 k5 n4 hn hi hL;simp only[<-b8]
 refine cA (fl (gK g5) ?_);refine bK (am ?_);refine aW (aEG (L:=[]) H bb bd au (.inl ⟨rfl,.inl rfl⟩)) ?_;rintro _ S6 ⟨s6,b'⟩;obtain⟨ey,eB,eC,eD,pv1,rfl,k1,k2,k3⟩:=join_nil hf b';refine fo @xP @xN ?_;refine bS ?_;intro S7 s7 n7 g7
 refine cQ (b:=S6.nx) (aq) (by refine am ?_;exact aY _) g7 rfl rfl ?_;intro S8 v8 k8 g8;refine am ?_
 have an:Same S6 S8:=v8.same s7 (Af _);have eL:=an.1;have ao:=s6.trans an;have eN:=ao.1;have bz:S8.h.get gb=_:=(ao.2 _ dm).trans g5;have k1:=aG.same (E:=cF) bQ k1 an;have k2:=aG.same (E:=cE) cB k2 an;have k3:=k3.same an;have ca:=aG.same (E:=cF) bQ bb ao;have cc:=aG.same (E:=cE) cB bd ao;obtain⟨pb,cf⟩:∃pb,pb=S6.nx:=⟨_,rfl⟩;rw[<-cf] at g8;have dp:pb<S8.nx:=by omega
 clear v8 g7 s7 k8 n7;simp only[<-cf]
 refine gH ?_;refine ff @aB @aA (aSx g8) (gK bz) (Aa (show ¬ (0:Int)≠0 from fun h=>h rfl)) ?_;refine bK (ae ?_);refine aW (aFi H k1 k2 ca cc (aKi hf) au) ?_;rintro _ S9 ⟨rfl,s9⟩;refine ew @fY @Cm ?_;refine aQ (af) (aK ?_);refine ae ?_
 have m9:=s9.1;have g9:S9.h.get pb=_:=(s9.2 _ dp).trans g8;have cj:S9.h.get gb=_:=(s9.2 _ au).trans bz;have k3:=k3.same s9;refine aD (bB (Q:=fun o A' X=>o= .normal/\BkN S9 gb pb v I g.cg.length 0 A' X) (aD (aL ?_)) ?_)
 .refine ae ?_;refine aO (bX (BkN S9 gb pb v I g.cg.length) ?_ g.cg.length _ _ ⟨rfl,eu _,0,au,af,af,af,af,ag⟩);rintro k ⟨F,inr⟩ X ⟨P,hX,i,aV,p5,d,f,T,aa⟩;simp only at P p5 d f T aa;subst P;have mX:=hX.1;have gX:X.h.get pb=_:=(hX.2 _ au).trans g9;have ck:eK (.ptr pb (0+5)) false 1 X.h=some pv1:=ldc gX rfl;refine gH ?_;simp only[↓sU,sD,rE,↓reduceIte,rA,T,aa,aB,aA,ck,k3.len,Al,Bj,Ah];by_cases be:i<g.cg.length;rotate_left
  .refine aQ im (bT ?_);refine ae ?_;obtain rfl:k=0:=by omega
   exact⟨rfl,hX,i,aV,by refine⟨?_,?_,?_,?_,?_⟩<;>simp only[↓sU,sD,rE,↓reduceIte,rA,p5,d,f,T,aa]⟩
  refine aS im (aK ?_);refine ae ?_
  have w1:=ed i
  have⟨b1,q1,i1,l1,dq⟩:=aCq k3 hX (i:=i) (n:=i) (by rw[Al,Bj];exact be) (by rw[Ad,Az,Br be];rfl);refine aD (aO (aD (aL ?_)));refine fj T aa @aB @aA ck @aJ i1 dq ?_;refine aQ (iu (Aa (show ¬ (i:Int)≠(i:Int) from fun h=>h rfl))) (aK ?_);refine ae ?_
  refine aL (ew aa w1 ?_);exact⟨k - 1,au,rfl,hX,i+1,au,by refine⟨?_,?_,?_,?_,?_⟩<;>simp only[↓sU,sD,rE,↓reduceIte,rA,p5,d,f,T]⟩
 rintro o ⟨F,inr⟩ X ⟨rfl,P,hX,i,aV,p5,d,f,T,aa⟩;simp only at P p5 d f T aa;subst P;clear k1 k2 k3 b';have dr:=(dk.trans ao).trans s9;have cl:=dr.trans hX;have bA:=(ao.trans s9).trans hX;have mX:=hX.1;have gX:X.h.get gb=_:=(hX.2 _ au).trans cj;have du:gb<X.nx:=by omega
 have bC:=aG.same (E:=cF) bQ bb bA;have bI:=aG.same (E:=cE) cB bd bA;have bM:=aG.same (E:=nK) fM b6 bA;have h0:=aP0 hf dj K;clear g9 cj g8 bz g5 s9 an s6 T aa ca cc bb bd b6 m9;refine ae ?_
 refine cA (ft d f (gK gX) ?_);refine bK (am ?_);refine aW (aEG H bC bI au bM) ?_;rintro r Y1 ⟨y1,hJ⟩;rcases hJ with⟨h1,_⟩|⟨_,first,hO,⟨hD,rfl⟩|⟨hD,act,hA,v1,rfl,eP,iv',jv,qv,pv,rfl, -,j1, -, -, -⟩⟩
 .exact absurd h0 h1
 .refine fo @xP @xN ?_;refine bS ?_;intro Y2 y2 n2 g2
  refine cQ (b:=Y1.nx) (aq) (by refine am ?_;exact aY _) g2 rfl rfl ?_;intro Y3 v3 k3 g3;refine am ?_
  refine gH (ae ?_);refine aS (by simp only[↓sU,sD,rE,↓reduceIte,rA];try first | rfl | trivial) ?_;refine cA (ae ?_);refine aT (ae ?_);exact cl.trans (y1.trans (v3.same y2 (Af _)))
 refine fo @xP @xN ?_;refine bS ?_;intro Y2 y2 n2 g2
 refine cQ (b:=Y1.nx) (aq) (by refine am ?_;exact aY _) g2 rfl rfl ?_;intro Y3 v3 k3 g3;refine am ?_
 have bR:Same Y1 Y3:=v3.same y2 (Af _);have eV:=bR.1;have bj:=y1.trans bR;have eW:=bj.1;have cm:Y3.h.get gb=_:=(bj.2 _ du).trans gX;obtain⟨jb,cn⟩:∃jb,jb=Y1.nx:=⟨_,rfl⟩;rw[<-cn] at g3;have cq:jb<Y3.nx:=by omega
 have hR:=vI G K hO hD hA;have hO:aFB g L first:=hO;have⟨eZ,dv⟩:=aDR G hR hO;obtain⟨J,hJ⟩:∃J,J=xT g (iM g first act):=⟨_,rfl⟩;have j1:aG 2 cE Y3 iv' J:=by rw[hJ];exact aG.same (E:=cE) cB j1 bR
 clear v3 g2 y2 k3 n2;simp only[<-cn]
 refine gH (ae ?_);refine aQ (by simp only[↓sU,sD,rE,↓reduceIte,rA];try first | rfl | trivial) (aK ?_);refine ae ?_
 have e0:J.length<=30:=by
  have:=aJs (first:=first) G hR;rw[hJ];unfold xT;rw[Al];omega
 have bm:∀ (i:Nat) (x:fU),J[i]? =some x->1<=x.cr/\x.cr<=3:=fun i x hx=>by
  rw[hJ] at hx;unfold xT at hx;obtain⟨r,hr,rfl⟩:=Cq.1 (Ar hx);exact aKe hf b3 (dv r hr).1
 have a0:=fun {c} (j:aM I=some c)=>dP hm j;have bV:=cl.trans bj;have e1:=bV.1;have cr:=fun(F:Fr) (h:Ev.T AB) (a:aC 86 F=I)=>aTH (t:=86) (F:=F) (h:=h) a (bN.cells hm);refine cA (fo p5 cr ?_);refine cR (cs:=[I,je 0]) (by refine am ?_;exact aY _) ?_;intro B sB nB gB;refine am ?_;obtain⟨db,ct⟩:∃db,db=Y3.nx:=⟨_,rfl⟩;rw[<-ct] at gB;simp only[<-ct]
 have cw:uC B db I dn:=⟨au,⟨0,gB,Ck _⟩,hm.same (bV.trans sB),fun e=>by have:=a0 e;omega,di⟩;refine cA (ae ?_);refine aD (bB (Q:=fun o A' X=>o= .normal/\BkI B gb jb db v I dn J 0 A' X) (aD (aL ?_)) ?_)
 .refine ae ?_;refine aO (bX (BkI B gb jb db v I dn J) ?_ J.length _ _ ⟨rfl,cD.refl _ _,cw,0,.ct,[],au,rfl,fun i x r _ h=>(by simp at h),fun r h=>(by cases h),.none,ah d,ah f,af,af,af,af,ag⟩);clear p5 d f;rintro k ⟨F,inr⟩ W ⟨P,hW,dW,i,sv,M,aV,a3,hF,hS,hA,d,f,u,C,D,A,w⟩;simp only at P d f u C D A w;subst P;have ab:Same Y3 W:=cD.same sB hW au;have mW:=hW.1;have dw:W.h.get jb=_:=(ab.2 _ cq).trans g3;have a5:eK (.ptr jb (0+0+2)) false 1 W.h=some iv':=ldc dw rfl;have ac:∀ {c},aM sv=some c->B.nx<=c/\c<W.nx:=fun j=>hA.blk j;refine gH ?_;by_cases be:i<J.length;rotate_left
  .refine fj u w @aB @aA a5 j1.len @Ah (Aa (au:¬ (i:Int)<(J.length:Int))) ?_;refine aQ (af) (bT ?_);refine ae ?_;obtain rfl:k=0:=by omega
   exact⟨rfl,hW,dW,i,sv,M,aV,a3,hF,hS,hA,by refine⟨?_,?_,?_,?_,?_,?_,?_⟩<;>simp only[↓sU,sD,rE,↓reduceIte,rA,d,f,u,C,D,A,w]⟩
  simp only[↓sU,sD,rE,↓reduceIte,rA,u,w,aB,aA,a5,j1.len,Ah,Ac (au:(i:Int)<(J.length:Int)),Ac (au:(i:Int)<40)];refine aS (af) (aK ?_);refine ae ?_
  have w1:=ed i
  obtain⟨x,hx⟩:∃x,J[i]? =some x:=⟨_,Ab be⟩;have⟨a1,a2⟩:=bm i x hx;obtain⟨m,dz⟩:∃m:Nat,x.cr=(m:Int):=⟨x.cr.toNat,au⟩;refine aD (aO (aD (aL ?_)));refine ae ?_;refine aD (bB (Q:=fun o A' Y=>o= .normal/\BkJ W gb jb db v I sv dn i m 0 A' Y) (aD (aL ?_)) ?_)
  .refine ae ?_;refine aO (bX (BkJ W gb jb db v I sv dn i m) ?_ m _ _ ⟨rfl,cD.refl _ _,dW,0,.ct,[],au,rfl,fun r h=>(by cases h),.none,(by refine⟨?_,?_,?_,?_,?_,?_,?_⟩<;>simp only[↓sU,sD,rE,↓reduceIte,rA,d,f,u,C,D,A,w]),af,ag⟩);clear d f u C D A w;rintro k' ⟨F,inr⟩ Y ⟨P,hY,dY,a,rv,r,cx,bW,bk,hr,⟨d,f,u,C,D,A,w⟩,aw,a8⟩;simp only at P d f u C D A w aw a8;subst P;have cy:Same Y3 Y:=cD.same ab hY au;have mY:=hY.1;have dM:Y.h.get jb=_:=(cy.2 _ cq).trans g3;have a5:eK (.ptr jb (0+0+2)) false 1 Y.h=some iv':=ldc dM rfl;have⟨b0,r0,ia,_,bY⟩:=aRj j1 cy hx;rw[dz] at bY;refine gH ?_;by_cases ha:a<m;rotate_left
   .simp only[↓sU,sD,rE,↓reduceIte,rA,u,w,a8,aB,aA,a5,aJ,ia,bY,Aa (au:¬ (a:Int)<(m:Int))];refine aQ (af) (bT ?_);refine ae ?_;obtain rfl:k'=0:=by omega
    exact⟨rfl,hY,dY,a,rv,r,cx,bW,bk,hr,(by refine⟨?_,?_,?_,?_,?_,?_,?_⟩<;>simp only[↓sU,sD,rE,↓reduceIte,rA,d,f,u,C,D,A,w]),by refine⟨?_,?_⟩<;>simp only[↓sU,sD,rE,↓reduceIte,rA,aw,a8]⟩
   simp only[↓sU,sD,rE,↓reduceIte,rA,u,w,a8,aB,aA,a5,aJ,ia,bY,Ac (au:(a:Int)<(m:Int)),Ac (au:(a:Int)<10)];refine aS (af) (aK ?_);refine ae ?_
   have w2:=ed a
   have N:∀ {c},aM rv=some c->W.nx<=c/\c<Y.nx:=fun j=>hr.blk j;refine aD (aO (aL ?_));refine fo D aw ?_;refine bK (am ?_);refine aW (mJ H dY (n:=9) az az) ?_;rintro _ U ⟨bU,dU,y,rfl,y1,y2⟩;obtain⟨n,rfl⟩:∃n:Nat,y=(n:Int):=⟨y.toNat,au⟩;have wn:IntKind.u32.wrap (n:Int)=(n:Int):=wrap_u32 au au;refine fl wn ?_;refine bK (am ?_);refine aW (aJ0 H) ?_;rintro _ V ⟨sV,e,rfl,hE⟩;obtain⟨dV,dZ,rfl,_⟩:=id hE
   refine fW (aJh (x:=.t 120) (a:=.bool (aB6 n).neg) (b:=dV) (c:=dZ) (aq)) ?_;intro V2 v2 n2 g2;have mU:=bU.1;have mV:=sV.1;have d':=v2.1;have kY:∀c,c<Y.nx->c≠db->V2.h.get c=Y.h.get c:=fun c j O=>(v2.2 c au).trans ((sV.2 c au).trans (bU.2 c j O));have⟨cz,Z,eA,nZ,kZ,aZ⟩:=aOr (S0:=W) (X:=V2) (rv:=rv) (l:=r) (x:=aB6 n) (R:=fun c=>W.nx<=c) (hr.move (E':=qR V2 fun c=>aM rv≠some c/\W.nx<=c) au (fun c j=>kY c (N j).2 (by have:=(N j).1;omega)) fun _ _ h=>h.move au fun c j hp=>⟨kY c j au,hp⟩) au g2 (hE.move d' fun c j hp=>⟨v2.2 c j,fun h=>by have:=(N h).2;omega,au⟩) au;refine fN (v:=cz) (S1:=Z) (fun call=>by refine fl @fK ?_;exact eA) ?_;refine am ?_;refine aL (ew a8 w2 ?_);refine⟨k' - 1,au,rfl,⟨au,fun c j O=>?_⟩,dU.move au ?_ fun c j=>?_,a+1,cz,r++ [aB6 n],au,by rw[Aj,bW];rfl,fun z hz=>?_,aZ,(by refine⟨?_,?_,?_,?_,?_,?_,?_⟩<;>simp only[↓sU,sD,rE,↓reduceIte,rA,d,f,u,C,D,A,w]),by refine⟨?_,?_⟩<;>simp only[↓sU,sD,rE,↓reduceIte,rA]⟩
   .rw[kZ c au fun h=>by have:=(N h).1;omega,kY c au O];exact hY.2 c j O
   .rw[kZ db au fun h=>by have:=(N h).1;omega,v2.2 db au];exact sV.2 db au
   .have:=a0 j;rw[kZ c au fun h=>by have:=(N h).1;omega,v2.2 c au];exact sV.2 c au
   .rcases Bi.1 hz with h|h
    .exact bk z h
    .rw[Cc.1 h];exact aHC
  clear d f u C D A w;rintro o ⟨F,inr⟩ Y ⟨rfl,P,hY,dY,a,rv,r,cx,bW,bk,hr,⟨d,f,u,C,D,A,w⟩,aw,_⟩;simp only at P d f u C D A w aw;subst P;have mY:=hY.1;have N:∀ {c},aM rv=some c->W.nx<=c/\c<Y.nx:=fun j=>hr.blk j;refine ae ?_
  refine aL (fo A aw ?_);refine fW (aRU (x:=.t 124) (v:=rv) (aq) hr.cells) ?_;intro U u1 n1 g1;have mU:=u1.1;have kW:∀c,c<W.nx->c≠db->U.h.get c=W.h.get c:=fun c j O=>(u1.2 c au).trans (hY.2 c j O);have⟨cV,Z,eA,nZ,kZ,aZ⟩:=aJK (S0:=B) (X:=U) (v:=sv) (rv:=rv) (M:=M) (r:=r) (R:=fun c=>B.nx<=c) (hA.move (E':=RwP U fun c=>aM sv≠some c/\B.nx<=c) au (fun c j=>kW c (ac j).2 (by have:=(ac j).1;omega)) fun _ _ h=>h.move au fun c j hp=>⟨kW c j au,hp⟩) au g1 ((hr.rw (P':=fun c=>aM sv≠some c/\B.nx<=c) (fun c j=>⟨fun h=>by have:=(N j).1;have:=(ac h).2;omega,by have:=(N j).1;omega⟩) fun c j hp=>⟨fun h=>by have:=(ac h).2;omega,au⟩).move mU fun c j hp=>⟨u1.2 c j,hp⟩) au;refine fN (v:=cV) (S1:=Z) (fun call=>by refine fl @fK ?_;exact eA) ?_;refine am ?_;refine aL (ew w w1 ?_);refine⟨k - 1,au,rfl,⟨au,fun c j O=>?_⟩,dY.move au ?_ fun c j=>?_,i+1,cV,M++ [r],au,by rw[Aj,a3];rfl,aLY hF (by rw[a3];exact hx) au,fun q hq z hz=>?_,aZ,by refine⟨?_,?_,?_,?_,?_,?_,?_⟩<;>simp only[↓sU,sD,rE,↓reduceIte,rA,d,f,u,C,D]⟩
  .rw[kZ c au fun h=>by have:=(ac h).1;omega,kW c au O];exact hW.2 c j O
  .rw[kZ db au fun h=>by have:=(ac h).1;omega];exact u1.2 db au
  .have:=a0 j;rw[kZ c au fun h=>by have:=(ac h).1;omega];exact u1.2 c au
  .rcases Bi.1 hq with h|h
   .exact hS q h z hz
   .rw[Cc.1 h] at hz;exact bk z hz
 clear p5 d f;rintro o ⟨F,inr⟩ W ⟨rfl,P,hW,dW,i,sv,M,aV,a3,hF,hS,hA,d,f,u,C,D,A,w⟩;simp only at P d f u C D A w;subst P;obtain rfl:i=J.length:=by omega
 have ab:Same Y3 W:=cD.same sB hW au;have bZ:=bj.trans ab;have ea:=bV.trans ab;have mW:=ab.1;have gW:W.h.get gb=_:=(ab.2 _ au).trans cm;have eb:gb<W.nx:=by omega
 have cW:=aG.same (E:=cF) bQ bC bZ;have cX:=aG.same (E:=cE) cB bI bZ;have cY:=aG.same (E:=nK) fM bM bZ;have cZ:aG 1 lN W sv M:=hA.is fun _ _ h=>h.is;have bn:sG (xT g (iM g first act)) M:=by
  rw[<-hJ];exact⟨a3,hF⟩
 have ec:∀r∈M,r.length<=100000:=fun r hr=>by
  obtain⟨q,hq,rfl⟩:=Cp hr;have hx:=Ab (l:=J) (i:=q) au;have:=hF q _ _ hx (Ab hq);have:=bm q _ hx;omega
 clear bC bI bM hA dW hW gB cw g3 gX cm;have c0:=aJP (g:=g) (first:=first) (act:=act) hS;have c1:=aLr (first:=first) (act:=act) (s:=M) G (fun i hi=>by have:=aKe hf b3 hi;omega);have c2:=aNc (s:=M) G K hO hD hA;have ee:(vO g first act M).length=g.ch.length:=by unfold vO;rw[Al,Bj]
 have eg:M.length<=100000:=by omega
 refine ae ?_
 refine cA (fu d f A (gK gW) ?_);refine bK (am ?_);refine aW (aJT H cW cX au cY cZ (wU hS)) ?_;rintro r1 Z1 ⟨z1,eh⟩;rcases aJA hf K h0 hO hD hA eh with⟨j,_⟩|⟨_,tv,rfl,ht⟩
 .exact absurd bn j
 have ht:aG 1 lN Z1 tv (vO g first act M):=ht;have c3:Z1.h.get gb=_:=(z1.2 _ eb).trans gW;have c4:gb<Z1.nx:=by have:=z1.1;omega
 have bp:=aG.same (E:=cF) bQ cW z1;have bq:=aG.same (E:=cE) cB cX z1;have bs:=aG.same (E:=nK) fM cY z1;refine fo @xP @xN ?_;refine cA (ft d f (gK c3) ?_);refine bK (am ?_);refine aW (aIX H bp bq au bs ht (wU c0)) ?_;rintro r2 Z2 ⟨z2,ei⟩;rcases aJA hf K h0 hO hD hA ei with⟨j,_⟩|⟨_,t,rfl,ej⟩
 .exact absurd c1 j
 obtain rfl:t=true:=ej.2 c2;have c5:Z2.h.get gb=_:=(z2.2 _ c4).trans c3;have c6:gb<Z2.nx:=by have:=z2.1;omega
 have c7:=aG.same (E:=cF) bQ bp z2;have bw:=aG.same (E:=cE) cB bq z2;have c8:=aG.same (E:=nK) fM bs z2;have bx:=aG.same (E:=lN) iJ ht z2;refine fo @xP @xN ?_;refine cA (ft d f (gK c5) ?_);refine bK (am ?_);refine aW (aIo H c7 bw au c8 bx (wU c0)) ?_;rintro r3 Z3 ⟨z3,ek⟩;rcases aJA hf K h0 hO hD hA ek with⟨j,_⟩|⟨_,⟨j,_⟩|⟨_,bv,rfl,hb⟩⟩
 .exact absurd c1 j
 .exact absurd c2 j
 rw[aNb G hR hO hD hA bn] at hb;have en:Z3.h.get gb=_:=(z3.2 _ c6).trans c5;have c9:gb<Z3.nx:=by have:=z3.1;omega
 have c':=aG.same (E:=cE) cB bw z3;have da:=aG.same (E:=lN) iJ cZ ((z1.trans z2).trans z3);have dc:=aG.same (E:=lN) iJ bx z3;have dd:=dc.len;rw[ee] at dd;refine fo @xP @xN ?_;refine cA (ez C A @Fm ?_);refine bK (ae ?_);refine aW (aJg H hb da (wU hS) eg ec) ?_;rintro _ Z4 ⟨rfl,z4⟩;have eo:Z4.h.get gb=_:=(z4.2 _ c9).trans en;refine fj d dd @aB @aA (iS eo) c'.len @Ah @Fm ?_;refine aT (ae ?_);exact ea.trans (((z1.trans z2).trans z3).trans z4)
end Go.Ev.Gl
