import Derived.Test.YtbmodoaceepfoaaGl18
set_option linter.all false
open Nat renaming reduceEqDiff -> rE, reduceAdd -> rA
set_option maxHeartbeats 0
namespace Go.Ev.Gl
variable {fns:T fD}
variable {l:bt}{x ps:Int}{j i r n N b c:Nat}{S:St}{g:aP}{y:cD}
structure aEr(g:aP)(c:bt):Prop where
 len:c.length=g.cg.length
 ok:∀i,i<g.cg.length->0<=c.getD i 0/\c.getD i 0<(cu g (i:Int)).cm
def CoI(S1:St)(gb db:Nat)(d:AV)(dl:bt)(g:aP)(k:Nat)(A:bO)(X:St):Prop:=A.inr=false/\S1.nx<=X.nx/\(∀c,c<S1.nx->c≠db->X.h.get c=S1.h.get c)/\sP X db d dl/\∃ (i:Nat) (pv:AV) (l:bt),i+k=g.cg.length/\l.length=i/\(∀j,j<i->0<=l.getD j 0/\l.getD j 0<(cu g (j:Int)).cm)/\fC 1 S1 X pv i (aQ l)/\aA 0 A.F= .ptr db 0/\aA 3 A.F= .ptr gb 0/\aA 5 A.F=pv/\aA 6 A.F=jr (i:Int)
def aL1:(l++ [x]).getD j 0=if j=l.length then x else l.getD j 0:=by
 rw[Ad,Ad];by_cases e:j=l.length
 .rw[if_pos e,e,Ao (Af _),Dv];rfl
 .rw[if_neg e];by_cases h:j<l.length
  .rw[Ak h]
  .rw[Bv (by rw[Ai,Ax];omega),Bv au]
def aFD{db:Nat}{t nv iv:AV}{dl:bt}(H:Has fns)(L:sP S db t dl)(D:∀X':St,S.nx<=X'.nx->(∀c,c<S.nx->c≠db->X'.h.get c=S.h.get c)->aE 2 cC X' iv g.cg)(E:∀i,i<g.cg.length->1<=(cu g (i:Int)).cm/\(cu g (i:Int)).cm<=3)(ao:g.cg.length<=200):
  iK fns (.fn 10 [] []) [.ptr db 0,.agg [jr g.ch,nv,iv]] S fun r Z=>cA db S Z/\sP Z db t dl/\∃l,bN .i64 Z r l/\aEr g l/\∀c,aN r=some c->S.nx<=c:=by
 have M:=L.lt;have q:=fun {c} (d:aN t=some c)=>dK L.il d;refine cJ H.f10 (by simp) ?_;refine ae ?_;apply bS;refine dC (cs:=[jr g.ch,nv,iv]) rfl ?_;intro S1 s1 n1 g1;refine ae ?_;have d1:sP S1 db t dl:=L.move s1.1 (s1.2 _ M) fun c d=>s1.2 c (q d);refine bS (ae ?_);refine fZ (ae ?_);refine aX (Q:=fun o A' X=>o= .normal/\CoI S1 S.nx db t dl g 0 A' X) (aJ (bL (CoI S1 S.nx db t dl g) ?_ g.cg.length _ _ ⟨rfl,Af _,fun _ _ _=>rfl,d1,0,.cr,[],au,rfl,fun j hj=>absurd hj (Bo j),.inl ⟨rfl,rfl,rfl⟩,af,af,af,ag⟩)) ?_
 .clear d1;rintro k ⟨F,inr⟩ X ⟨rfl,nX,u,dX,i,pv,l,G,f,K,p,I,w,A,B⟩;simp only at I w A B;have cX:=(u S.nx au au).trans g1;have iX:=D X au fun c d h=>(u c au h).trans (s1.2 c d);refine fZ (ef w B (jE cX) iX.len @Ag ?_);by_cases J:i<g.cg.length;rotate_left
  .refine aK i7 (bH ?_);refine ae ?_;obtain rfl:k=0:=by omega
   exact⟨rfl,nX,u,dX,i,pv,l,G,f,K,p,ah I,ah w,ah A,ah B⟩
  refine aM i7 (aG ?_);refine ae ?_
  have w1:=du i
  have⟨a1,a2⟩:=E i J;have⟨ei,bi,qi,N,aw,_,O,_,P⟩:=aE.at iX az (aC5 J);have R:=P 1 (jr (cu g (i:Int)).cm) (by rw[O];rfl);refine aB (aJ (aF ?_));refine im I w A B @aU @aT (jE cX) @aY N R ?_;refine bJ (am ?_);refine aW (mN H dX a1 au) ?_;rintro _ Y ⟨V,dY,y,rfl,aa,ab⟩
  refine fQ (lD (n:=y) (k:=.i64) (aq)) ?_;intro U C m1 c1;have nY:=V.1;have ac:fC 1 ⟨U.h,S1.nx⟩ U pv i (aQ l):=(p.move (S':=Y) nY fun c d=>V.2 c (p.blk d).2.1 (by have:=(p.blk d).1;omega)).step C;have⟨pv',Z,eA,gA,bA,nA,rA⟩:=fC.push1 (bytes:=8) (x:=jr y) ac ⟨by have:=C.1;show S1.nx<=U.nx;omega,fun _ _=>rfl⟩ c1 ay ay;refine eK (v:=pv') (S1:=Z) (fun call=>by refine fx @fB ?_;exact eA) ?_;refine am ?_;refine aF (dz B w1 ?_);have s:∀ {c},aN pv=some c->S1.nx<=c:=fun d=>(p.blk d).1;have nU:=C.1;have an:=dX.lt;refine⟨k - 1,au,rfl,au,fun c d h=>?_,?_,i+1,pv',l++ [y],au,by rw[Ai,f];rfl,fun j hj=>?_,?_,ah I,ah w,af,af⟩
  .rw[rA c au (fun e=>by have:=s e;omega),C.2 c au,V.2 c au h];exact u c d h
  .refine dY.move au ?_ fun c d=>?_
   .rw[rA db au (fun e=>by have:=s e;omega)];exact C.2 db au
   .have:=q d;rw[rA c au (fun e=>by have:=s e;omega)];exact C.2 c au
  .rw[aL1,f];by_cases e:j=i
   .subst e;rw[if_pos rfl];exact⟨aa,ab⟩
   .rw[if_neg e];exact K j au
  .have e:aQ (l++ [y])=aQ l++ [jr y]:=by unfold aQ;rw[Cf];rfl
   rw[e];exact gA
 rintro o ⟨F,inr⟩ X ⟨rfl,rfl,nX,u,dX,i,pv,l,G,f,K,p,I,w,A,B⟩;simp only at A;obtain rfl:i=g.cg.length:=by omega
 refine ae ?_
 refine bS (c8 A ?_);refine aS (ae ?_);refine⟨⟨au,fun c d h=>(u c au h).trans (s1.2 c d)⟩,dX,l,?_,⟨f,K⟩,fun c d=>by have:=(p.blk d).1;omega⟩;rw[<-f] at p;exact fC.is p
structure gF(g:aP)(m:bt):Prop where
 M:aBc g m
 nd:¬aFs m
 A:iQ g m
section
variable {g:aP}{c m:bt}
def gF.e(h:gF g m):jT g.ce.length m (iQ g m)=0:=by
 unfold jT;rw[if_neg (fun e=>e h.M.len),if_neg (fun e=>e h.M.inn),if_neg h.nd,if_pos h.A]
def gF.chk(h:gF g m)(d:cR g=0):aAc g m (iQ g m)=0:=by
 unfold aAc;rw[if_neg (fun e=>e d)];exact h.e
def gF.inj(h:gF g m){k:Nat}(hi:i<g.ce.length)(f:k<g.ce.length)(e:fW m i=fW m k):i=k:=by
 have l:=(h.M.at hi).1;have n:=(h.M.at f).1;have o:=h.M.len;rcases Ei i k with d|j|d
 .exact absurd ⟨k,i,d,au,au⟩ h.nd
 .exact j
 .exact absurd ⟨i,k,d,au,au⟩ h.nd
def aQB(d:m.length=g.ce.length)(h:∀i,i<g.ce.length->0<=m.getD i 0/\m.getD i 0<(g.ce.length:Int)):aBc g m:=⟨d,fun x e=>by
 obtain⟨j,f,rfl⟩:=Dj.1 e;have:=h j au
 rwa [Ad,Ab f] at this⟩
def aGg(h:0<=lK l 0 x):(lK l 0 x).toNat<l.length/\l.getD (lK l 0 x).toNat 0=x:=by
 rcases pZ (c:=x) (l:=l) (s:=0) with⟨f,_⟩|⟨k,f,d,_⟩
 .omega
 .have e:(lK l 0 x).toNat=k:=by omega
  rw[e];exact⟨(Aj.1 d).1,by rw[Ad,d];rfl⟩
def aMo(g:aP)(m:bt):Prop:=∀i,i<g.ce.length->fW m (fW m i)=i
end
def oU(j:Int):List cL->Nat->Nat
 | [],_=>0
 | t::L,a=>(if t.1=j then(t.2.2+1 - (a:Int)).toNat else 0)+oU j L (a+1)
def xX{j:Int}:∀ {L M:List cL} {a:Nat},oU j (L++M) a=oU j L a+oU j M (a+L.length)
 | [],M,a=>by show oU j M a=0+oU j M (a+0);rw[An];rfl
 | t::L,M,a=>by
  show _+oU j (L++M) (a+1)=_+oU j L (a+1)+oU j M (a+(L.length+1));rw[xX (L:=L),show a+1+L.length=a+(L.length+1) by omega,Da]
def vC{j:Int}:∀ {L:List cL} {a:Nat},(∀t∈L,t.1≠j)->oU j L a=0
 | [],_,_=>rfl
 | t::L,a,h=>by
  show(if t.1=j then _ else 0)+oU j L (a+1)=0;rw[if_neg (h t (Be ..)),vC fun t d=>h t (Az _ d)]
structure KZ(r:Nat)(p:Int)(L:List cL):Prop where
 par:∀t∈L,t.1=p\/((r:Int)<=t.1/\t.1<((r+L.length:Nat):Int))
 sz:∀ (j:Nat) (t:cL),L[j]? =some t->t.2.2=((r+j+oU ((r+j:Nat):Int) L r:Nat):Int)/\t.2.2<((r+L.length:Nat):Int)
 all:oU p L r=L.length
 nest:∀ (j q:Nat) (t u:cL),L[j]? =some t->L[q]? =some u->j<q->((r+q:Nat):Int)<=t.2.2->((r+j:Nat):Int)<=u.1
def KZ.nil{p:Int}:KZ r p []:=⟨fun t d=>(by cases d),fun j t h=>(by simp at h),rfl,fun j q t u h=>(by simp at h)⟩
def KZ.app{p:Int}{L M:List cL}(v:p<(r:Int))(i:KZ r p L)(k:KZ (r+L.length) p M):KZ r p (L++M):=by
 refine⟨fun t l=>?_,fun j t d=>?_,by rw[xX,i.all,k.all,Ai],fun j q t u d o f n=>?_⟩
 .rw[Ai];rcases Bi.1 l with h|h
  .rcases i.par t h with e|e
   .exact .inl e
   .exact .inr au
  .rcases k.par t h with e|e
   .exact .inl e
   .exact .inr au
 .rw[Ai,xX];by_cases f:j<L.length
  .rw[Ak f] at d;have⟨a,b⟩:=i.sz j t d;rw[vC (L:=M) fun t l=>by
    rcases k.par t l with e|e
    .omega
    .omega,Bw]
   exact⟨a,au⟩
  .rw[Ao au] at d;have⟨a,b⟩:=k.sz (j - L.length) t d;rw[show r+L.length+(j - L.length)=r+j by omega] at a;rw[vC (L:=L) fun t l=>by
    rcases i.par t l with e|e
    .omega
    .omega,An]
   exact⟨a,au⟩
 .by_cases s:j<L.length
  .rw[Ak s] at d;have:=(i.sz j t d).2;rw[Ak au] at o;exact i.nest j q t u d o f n
  .rw[Ao au] at d o;have:=k.nest _ _ t u d o au (by rw[show r+L.length+(q - L.length)=r+q by omega];exact n)
   rwa [show r+L.length+(j - L.length)=r+j by omega] at this
def aDu{rec:Nat->Option (List cL)}{p:Int}(d:∀ (r:Nat) (L:List cL),p<(r:Int)->rec r=some L->KZ r p L):∀ {l:bt} {r:Nat} {L:List cL},p<(r:Int)->fU rec l r=some L->KZ r p L
 | [],r,L,_,h=>by
  have h:some []=some L:=h;cases h;exact KZ.nil
 | c::l,r,L,e,h=>by
  simp only[fU] at h;split at h
  .have⟨f,i,j⟩:=Dg.1 h;obtain⟨n,k,rfl⟩:=Bc.1 j;exact(d r f e i).app e (aDu d au k)
  .cases h
def mP{N:Nat}{nx:Nat->bt}:∀ {f at_:Nat} {p d:Int} {T:List cL},p<(at_:Int)->eT N nx f at_ p d=some T->KZ at_ p T
 | 0,_,_,_,_,_,h=>by cases h
 | f+1,at_,p,d,T,C,h=>by
  simp only[eT] at h;split at h
  .obtain⟨L,w,rfl⟩:=Bc.1 h;have k:=aDu (p:=(at_:Int)) (fun r L x y=>mP x y) au w;refine⟨fun t l=>?_,fun j t n=>?_,?_,fun j q t u n v A o=>?_⟩
   .rw[Aw];rcases Bm.1 l with rfl|l
    .exact .inl rfl
    .rcases k.par t l with e|e
     .exact .inr au
     .exact .inr au
   .rw[Aw];cases j with
    | zero=>
     cases n;rw[Bw];show((at_+L.length:Nat):Int)=((at_+((if p=((at_:Nat):Int) then _ else 0)+oU _ L (at_+1)):Nat):Int)/\_;rw[if_neg au,An,k.all];exact⟨rfl,by show((at_+L.length:Nat):Int)<_;omega⟩
    | succ j=>
     have⟨a,b⟩:=k.sz j t n;show t.2.2=((at_+(j+1)+((if p=((at_+(j+1):Nat):Int) then _ else 0)+oU _ L (at_+1)):Nat):Int)/\_;rw[if_neg au,An,a,show at_+1+j=at_+(j+1) by omega];exact⟨rfl,by rw[<-show at_+1+j=at_+(j+1) by omega,<-a];omega⟩
   .show(if p=p then(((at_+L.length:Nat):Int)+1 - (at_:Int)).toNat else 0)+oU p L (at_+1)=L.length+1;rw[if_pos rfl,vC fun t l=>by
     rcases k.par t l with e|e
     .omega
     .omega]
    omega
   .obtain⟨q,rfl⟩:∃B,q=B+1:=⟨q - 1,au⟩;cases j with
    | zero=>
     have i:L[q]? =some u:=v;rcases k.par u (Bb i) with e|e
     .omega
     .omega
    | succ j=>
     have s:L[j]? =some t:=n;have i:L[q]? =some u:=v;have:=k.nest j q t u s i au (by rw[show at_+1+q=at_+(q+1) by omega];exact o)
     rwa [show at_+1+j=at_+(j+1) by omega] at this
  .cases h
def dR(T:List cL)(i:Nat):Nat:=match T[i]? with | some t=>(t.2.2+1 - (i:Int)).toNat | none=>0
section
variable {T:List cL}
def qE(k:KZ 0 (-1) T)(hi:i<T.length):dR T i=1+oU (i:Int) T 0/\dR T i<=T.length/\i+dR T i<=T.length:=by
 have⟨a,b⟩:=k.sz i T[i] (Ab hi);have e:dR T i=(T[i].2.2+1 - (i:Int)).toNat:=by unfold dR;rw[Ab hi]
 rw[An] at a b;omega
def SzI(T:List cL)(i:Nat)(Z:bt):Prop:=Z.length=T.length/\∀j,j<T.length->Z.getD j 0=if i<=j then((dR T j:Nat):Int) else((oU (j:Int) (T.drop i) i:Nat):Int)
def aSi(k:KZ 0 (-1) T)(M:T.length<=100000)(l:∀ (j:Nat) (t:cL),T[j]? =some t->t.1<(j:Int)/\(0<j->0<=t.1)){Z:bt}(hi:i<T.length)(h:SzI T (i+1) Z):SzI T i (szS T i Z):=by
 have⟨F,u⟩:=h;have w:=Ab hi;have⟨N,G⟩:=l i T[i] w;have n:T.drop i=T[i]::T.drop (i+1):=Bt hi;have p:=fun j:Nat=>show oU (j:Int) (T.drop i) i=(if T[i].1=(j:Int) then dR T i else 0)+oU (j:Int) (T.drop (i+1)) (i+1) by
  rw[n];have e:dR T i=(T[i].2.2+1 - (i:Int)).toNat:=by unfold dR;rw[w]
  rw[e];rfl
 have x:∀j,i<=j->oU (j:Int) T 0=oU (j:Int) (T.drop (i+1)) (i+1):=fun j o=>by
  conv=>lhs;rw[<-Em (i+1) T]
  rw[xX,Bx,show min (i+1) T.length=i+1 by omega,An,vC (L:=T.take (i+1)),An];intro t H;obtain⟨q,v,rfl⟩:=Dj.1 H;rw[Bx] at v;rw[List.getElem_take];have:=(l q T[q] (Ab au)).1;omega
 have I:=qE k hi;rw[x i (Af _)] at I;have r:=u i hi;rw[if_neg au] at r;have J:IntKind.i64.wrap (Z.getD i 0+1)=((dR T i:Nat):Int):=by rw[r,wrap_i64 au au];omega
 unfold szS;rw[J];have f:∀j,(Z.set i ((dR T i:Nat):Int)).getD j 0=if j=i then((dR T i:Nat):Int) else Z.getD j 0:=fun j=>eJ au;by_cases y:0<i
 .rw[if_pos y];obtain⟨q,v⟩:∃q:Nat,T[i].1=(q:Int):=⟨T[i].1.toNat,by have:=G y;omega⟩;have K:q<i:=by omega
  have A:(T.map fun t:cL=>t.1).getD i 0=(q:Int):=by rw[Ad,Ba,w,<-v];rfl
  rw[A,Am,f q,if_neg au,f i,if_pos rfl];have s:=u q au;rw[if_neg au] at s;have O:oU (q:Int) (T.drop i) i<=T.length:=by
   have P:=qE k (au:q<T.length);have:oU (q:Int) (T.drop i) i<=oU (q:Int) T 0:=by
    conv=>rhs;rw[<-Em i T]
    rw[xX,Bx,show min i T.length=i by omega,An];omega
   omega
  have B:=p q;rw[if_pos v] at B;have C:IntKind.i64.wrap (Z.getD q 0+((dR T i:Nat):Int))=((oU (q:Int) (T.drop i) i:Nat):Int):=by rw[s,wrap_i64 au au];omega
  rw[C];refine⟨by rw[Ar,Ar];exact F,fun j D=>?_⟩;rw[eJ (by rw[Ar];omega),f j];by_cases E:j=q
  .rw[if_pos E,if_neg au,E]
  .rw[if_neg E];by_cases d:j=i
   .rw[if_pos d,if_pos au,d]
   .rw[if_neg d,u j D];by_cases o:i<=j
    .rw[if_pos au,if_pos o]
    .rw[if_neg au,if_neg o,p j,if_neg au,An]
 .rw[if_neg y];refine⟨by rw[Ar];exact F,fun j D=>?_⟩;rw[f j];by_cases d:j=i
  .rw[if_pos d,if_pos au,d]
  .rw[if_neg d,u j D,if_pos au,if_pos au]
def aMZ(k:KZ 0 (-1) T)(e:T.length<=100000)(d:∀ (j:Nat) (t:cL),T[j]? =some t->t.1<(j:Int)/\(0<j->0<=t.1)):∀ {i:Nat} {Z:bt},i<=T.length->SzI T i Z->SzI T 0 (szG T i Z)
 | 0,Z,_,h=>h
 | i+1,Z,hi,h=>aMZ k e d (i:=i) (Z:=szS T i Z) au (aSi k e d au h)
def aLi(u:fY g=some T)(o:T.length=g.ce.length)(v:g.ce.length<=100000)(hi:i<g.ce.length):(szL T g.ce.length).getD i 0=((dR T i:Nat):Int)/\1<=dR T i/\i+dR T i<=g.ce.length:=by
 have p:eT g.ce.length (dP g) (g.ce.length+1) 0 (-1) 0=some T:=u;have k:=mP az p;have r:=jR p;have d:∀ (j:Nat) (t:cL),T[j]? =some t->t.1<(j:Int)/\(0<j->0<=t.1):=fun j t l=>by
  have n:=(Aj.1 l).1;rcases Cb j with f|f
  .subst f;have:=r.root;unfold jS at this;rw[l] at this;have e:t.1= -1:=Bk this;exact⟨au,fun h=>absurd h (Nat.lt_irrefl 0)⟩
  .have⟨q,a,b,_⟩:=r.pf j f n;unfold jS at b;rw[l] at b;have e:t.1=((0+q:Nat):Int):=Bk b;exact⟨au,fun _=>au⟩
 have f:SzI T T.length (List.replicate g.ce.length 0):=⟨by rw[Au,o],fun j l=>by
  rw[if_neg au,Cw (Af _),aMr au];rfl⟩
 have s:=(aMZ k au d (Af _) f).2 i au;rw[if_pos (Ct _),o] at s;have⟨w,x,y⟩:=qE k (au:i<T.length);exact⟨s,au,au⟩
def aKt(D:fY g=some T)(I:T.length=g.ce.length){p q:Nat}(hi:i<g.ce.length)(r:p<q)(s:q<(ct g i).ji.length)(J:g.ce.length<=100000):((ct g i).ji.getD p 0).toNat+dR T ((ct g i).ji.getD p 0).toNat<=((ct g i).ji.getD q 0).toNat:=by
 have v:eT g.ce.length (dP g) (g.ce.length+1) 0 (-1) 0=some T:=D;have k:=mP az v;have u:=jR v;have f:dP g (0+i)=(ct g i).ji:=by rw[An];exact iJ g i
 have mem:=fun t (w:t<(ct g i).ji.length)=>show(ct g i).ji.getD t 0∈dP g (0+i) by
  rw[f,Ad,Ab w];exact Bl w
 have d:=u.inc i au;rw[f] at d;have j:(ct g i).ji.getD p 0<(ct g i).ji.getD q 0:=by
  have:=Fe.1 d p q au s r;rw[Ad,Ab (au:p<(ct g i).ji.length),Ad,Ab s];exact this
 have⟨E,F,a3⟩:=u.cf i au _ (mem p au);have⟨G,H,o⟩:=u.cf i au _ (mem q s);obtain⟨x,A⟩:∃x:Nat,(ct g i).ji.getD p 0=(x:Int):=⟨_,(Cl au).symm⟩;obtain⟨y,B⟩:∃y:Nat,(ct g i).ji.getD q 0=(y:Int):=⟨_,(Cl au).symm⟩;rw[A] at E F a3 j;rw[B] at G H o j;rw[A,B,Am,Am];have l:T[x]? =some T[x]:=Ab au;have n:T[y]? =some T[y]:=Ab au;have C:T[y].1=(i:Int):=by
  unfold jS at o;rw[Am,Ew,n] at o;have e:T[y].1=((0+i:Nat):Int):=Bk o;omega
 have e:dR T x=(T[x].2.2+1 - (x:Int)).toNat:=by unfold dR;rw[l]
 rw[e];rcases Int.lt_or_le T[x].2.2 (y:Int) with h|h
 .omega
 .have:=k.nest x y _ _ l n au (by rw[An];exact h);omega
end
def idL(n:Nat):bt:=(List.range n).map fun j:Nat=>(j:Int)
def uE{f:Nat->Int}(h:j<n):((List.range n).map f).getD j 0=f j:=by
 rw[Ad,Ba,Cm h];rfl
def aFQ{f:Nat->Int}(d:l.length=n)(h:∀j,j<n->l.getD j 0=f j):l=(List.range n).map f:=
 oP (by rw[d,Av,Cn]) fun j e=>by rw[h j au,uE au]
def swF(a b n j:Nat):Nat:=if a<=j/\j<a+n then j - a+b else if b<=j/\j<b+n then j - b+a else j
def swL(N a b n:Nat):bt:=(List.range N).map fun j:Nat=>((swF a b n j:Nat):Int)
def shP(a b:Int)(l m:bt):Prop:=l.length=m.length/\∀k,k<l.length->l.getD k 0 - a=m.getD k 0 - b
def aUd(a b:Int)(x y:cD):Prop:=x.jk=y.jk/\x.jl=y.jl/\x.jn=y.jn/\x.jm=y.jm/\shP a b x.ji y.ji
def aKs(g:aP)(T:List cL)(a b:Nat):Prop:=dR T a=dR T b/\∀t,t<dR T a->aUd (a:Int) (b:Int) (ct g (a+t)) (ct g (b+t))
def bN.ptr{k:IntKind}{v:AV}(h:bN k S v l)(hi:i<l.length):∃b off,eY (.slice 1) v i=some (.ptr b off)/\b<S.nx/\eE (.ptr b off) false 1 S.h=some (.int k (l.getD i 0)):=by
 have d:=h.c9 hi;have ld:=h.ld hi;rcases h with⟨e,_⟩|⟨b,off,cap,o,cs,rfl,_,f,_⟩
 .rw[e] at hi;simp at hi
 .simp only[aA7] at d ld;exact⟨b,_,d,f,ld⟩
def aOS(g:aP)(T:List cL)(i k j:Nat):Prop:=(ct g i).jm.getD k 0=(ct g i).jm.getD j 0/\aKs g T ((ct g i).ji.getD k 0).toNat ((ct g i).ji.getD j 0).toNat/\iQ g (swL g.ce.length ((ct g i).ji.getD k 0).toNat ((ct g i).ji.getD j 0).toNat (dR T ((ct g i).ji.getD k 0).toNat))
open Classical in
noncomputable def oL(g:aP)(T:List cL)(i k:Nat):Nat->bo
 | 0=>[]
 | j+1=>oL g T i k j++if k<j/\aOS g T i k j then [swL g.ce.length ((ct g i).ji.getD k 0).toNat ((ct g i).ji.getD j 0).toNat (dR T ((ct g i).ji.getD k 0).toNat)] else []
noncomputable def sF(g:aP)(T:List cL)(i:Nat):Nat->bo
 | 0=>[]
 | k+1=>sF g T i k++oL g T i k (ct g i).ji.length
noncomputable def nF(g:aP)(T:List cL):Nat->bo
 | 0=>[]
 | i+1=>nF g T i++if(ct g i).jk=1 then sF g T i (ct g i).ji.length else []
open Classical in
def aGd{g:aP}{T:List cL}{i k:Nat}:∀ {j:Nat},j<=k+1->oL g T i k j= []
 | 0,_=>rfl
 | j+1,h=>by
  show oL g T i k j++(if _ then _ else [])= [];rw[aGd au,if_neg (fun e=>ax e.1)];rfl
def aO9{a:Nat}(d:a+n<=b)(e:b+n<=N)(f:j<N):swF a b n j<N:=by
 unfold swF;split
 .omega
 .split<;>omega
def aLm{a:Nat}(d:a+n<=b)(e:b+n<=g.ce.length):aBc g (swL g.ce.length a b n):=
 aQB (by unfold swL;rw[Av,Cn]) fun i hi=>by
  unfold swL;rw[uE hi];have:=aO9 d e hi;omega
def aNm{a:Nat}(f:a+n<=b)(h:j<N):swF a b n (swF a b n j)=j:=by
 unfold swF;by_cases d:a<=j/\j<a+n
 .rw[if_pos d,if_neg (au:¬ (a<=j - a+b/\j - a+b<a+n)),if_pos (au:b<=j - a+b/\j - a+b<b+n)];omega
 .rw[if_neg d];by_cases e:b<=j/\j<b+n
  .rw[if_pos e,if_pos (au:a<=j - b+a/\j - b+a<a+n)];omega
  .rw[if_neg e,if_neg d,if_neg e]
def aJW{a:Nat}(hi:i<N):fW (swL N a b n) i=swF a b n i:=by
 unfold fW swL;rw[uE hi,Am]
def aHT{a:Nat}(d:a+n<=b)(e:b+n<=g.ce.length)(h:iQ g (swL g.ce.length a b n)):gF g (swL g.ce.length a b n)/\aMo g (swL g.ce.length a b n):=by
 have M:=aLm (g:=g) d e;have f:aMo g (swL g.ce.length a b n):=fun i hi=>by
  rw[aJW hi,aJW (aO9 d e hi)];exact aNm d hi
 refine⟨⟨M,?_,h⟩,f⟩;rintro⟨i,k,j,hi,o⟩;rw[M.len] at hi;have p:=(M.at hi).1;have q:=(M.at (au:k<g.ce.length)).1;have l:fW (swL g.ce.length a b n) i=fW (swL g.ce.length a b n) k:=by omega
 have:=f i hi;rw[l,f k au] at this;omega
structure aRD(g:aP)(T:List cL)(i k j:Nat):Prop where
 ap:((ct g i).ji.getD k 0).toNat+dR T ((ct g i).ji.getD k 0).toNat<=((ct g i).ji.getD j 0).toNat
 la:((ct g i).ji.getD k 0).toNat<g.ce.length
 lb:((ct g i).ji.getD j 0).toNat<g.ce.length
 nb:((ct g i).ji.getD j 0).toNat+dR T ((ct g i).ji.getD j 0).toNat<=g.ce.length
 za:(szL T g.ce.length).getD ((ct g i).ji.getD k 0).toNat 0=((dR T ((ct g i).ji.getD k 0).toNat:Nat):Int)
def aPb{T:List cL}{k:Nat}(G:cV g)(e:fY g=some T)(d:T.length=g.ce.length)(hi:i<g.ce.length)(f:k<j)(h:j<(ct g i).ji.length):aRD g T i k j:=by
 have l:=G.n2;have⟨n,o⟩:=G.kids i hi k au;have⟨p,q⟩:=G.kids i hi j h;have⟨_,_,z3⟩:=aLi e d au (au:((ct g i).ji.getD j 0).toNat<g.ce.length);exact⟨aKt e d hi f h au,au,au,z3,(aLi e d au (au:((ct g i).ji.getD k 0).toNat<g.ce.length)).1⟩
def aNQ{T:List cL}(G:cV g)(o:fY g=some T)(f:T.length=g.ce.length):∀m∈nF g T g.ce.length,gF g m/\aMo g m:=by
 have p:∀i k,i<g.ce.length->∀j,j<=(ct g i).ji.length->∀m∈oL g T i k j,gF g m/\aMo g m:=by
  intro i k hi j
  induction j with
  | zero=>intro _ m d;cases d
  | succ j e=>
   intro u m d;rcases Bi.1 d with h|h
   .exact e au m h
   .split at h
    .rename_i q;have⟨l,_,n,r⟩:=q;have P:=aPb G o f hi l (au:j<(ct g i).ji.length);rw[Bz.1 h];have:=P.nb;have:=n.1;exact aHT P.ap au r
    .cases h
 have s:∀i,i<g.ce.length->∀k,∀m∈sF g T i k,gF g m/\aMo g m:=by
  intro i hi k
  induction k with
  | zero=>intro m d;cases d
  | succ k e=>
   intro m d;rcases Bi.1 d with h|h
   .exact e m h
   .exact p i k hi _ (Af _) m h
 have t:∀i,i<=g.ce.length->∀m∈nF g T i,gF g m/\aMo g m:=by
  intro i
  induction i with
  | zero=>intro _ m d;cases d
  | succ i e=>
   intro hi m d;rcases Bi.1 d with h|h
   .exact e au m h
   .split at h
    .exact s i au _ m h
    .cases h
 exact t _ (Af _)
open Classical in
def aOD{T:List cL}{k:Nat}(d:k<j)(h:aOS g T i k j):oL g T i k (j+1)=oL g T i k j++ [swL g.ce.length ((ct g i).ji.getD k 0).toNat ((ct g i).ji.getD j 0).toNat (dR T ((ct g i).ji.getD k 0).toNat)]:=by
 show oL g T i k j++(if _ then _ else [])=_;rw[if_pos ⟨d,h⟩]
open Classical in
def aMt{T:List cL}{k:Nat}(h:¬aOS g T i k j):oL g T i k (j+1)=oL g T i k j:=by
 show oL g T i k j++(if _ then _ else [])=_;rw[if_neg (fun e=>h e.2),Bs]
open Classical in
def aCi{g:aP}{T:List cL}{i k:Nat}:∀ {j:Nat},(oL g T i k j).length<=j
 | 0=>Af _
 | j+1=>by
  have d:=aCi (g:=g) (T:=T) (i:=i) (k:=k) (j:=j);show(oL g T i k j++(if _ then _ else [])).length<=_;rw[Ai];split
  .rw[Ax];omega
  .show _+0<=_;omega
def aCf{g:aP}{T:List cL}{i:Nat}:∀ {k:Nat},(sF g T i k).length<=k * (ct g i).ji.length
 | 0=>Ct _
 | k+1=>by
  have d:=aCf (g:=g) (T:=T) (i:=i) (k:=k);have:=aCi (g:=g) (T:=T) (i:=i) (k:=k) (j:=(ct g i).ji.length);show(sF g T i k++oL g T i k _).length<=_;rw[Ai,Du];omega
def aFU{g:aP}{T:List cL}(G:cV g):∀ {i:Nat},i<=g.ce.length->(nF g T i).length<=i * 1000000
 | 0,_=>Ct _
 | i+1,hi=>by
  have h:=aFU (T:=T) G (i:=i) au;have d:=aCf (g:=g) (T:=T) (i:=i) (k:=(ct g i).ji.length);have f:(ct g i).ji.length * (ct g i).ji.length<=1000 * 1000:=Dx (G.nxt i au) (G.nxt i au);have e:(if(ct g i).jk=1 then sF g T i (ct g i).ji.length else []).length<=1000 * 1000:=by
   split
   .exact Aq d f
   .exact Ct _
  show(nF g T i++(if _ then _ else [])).length<=_;rw[Ai];omega
def aN6{e:Nat}{x:cD}(h:gS ps e x=0):x.jm.length<=1000:=by
 unfold gS at h;split at h
 .split at h
  .cases h
  .rename_i d;unfold oS at d;omega
 .split at h
  .split at h
   .cases h
   .rename_i d;unfold uV at d;omega
  .split at h
   .split at h
    .cases h
    .rename_i d;unfold oT at d;omega
   .cases h
def aJu(h:cR g=0)(hi:i<g.ce.length):gS g.ch g.cg.length (ct g i)=0:=by
 unfold cR at h;split at h
 .cases h
 split at h
 .rename_i d;exact absurd h d
 rename_i e;exact jF (Ed.1 e) _ (Bb (cU hi))
def shN(f s:Int)(x:cD):cD:=⟨x.jk,x.jl,if x.jk=2 then x.jj+s else x.jj,x.ji.map (· +f),x.jm,x.jn⟩
def pN(one:aP)(seen:Bool)(c:Nat):Nat:=if seen=true then c * one.cg.length else 0
def tQ(one:aP)(seen:Bool)(c:Nat):List cD:=one.ce.map (shN ((1+c * one.ce.length:Nat):Int) ((pN one seen c:Nat):Int))
def oF(one:aP)(seen:Bool):Nat->List cD
 | 0=>[]
 | c+1=>oF one seen c++tQ one seen c
def rY(n c:Nat):bt:=(List.range c).map fun j:Nat=>((1+j * n:Nat):Int)
def aLc(n c:Nat):cD:=⟨1,0,0,rY n c,List.replicate c 1,[]⟩
def kJ(one:aP)(seen:Bool):Nat->List jL
 | 0=>[]
 | c+1=>if c=0\/seen=true then kJ one seen c++one.cg else kJ one seen c
def uP(one:aP)(c:Nat)(seen:Bool):aP:=⟨one.ch,aLc one.ce.length c::oF one seen c,kJ one seen c⟩
section
variable {one:aP}{seen:Bool}
def zS:(tQ one seen c).length=one.ce.length:=by unfold tQ;rw[Av]
def rR:∀ {c:Nat},(oF one seen c).length=c * one.ce.length
 | 0=>by rw[Dz];rfl
 | c+1=>by
  show(oF one seen c++tQ one seen c).length=_;rw[Ai,rR (c:=c),zS,Du]
def aHR:(uP one c seen).ce.length=1+c * one.ce.length:=by
 show(_::oF one seen c).length=_;rw[Aw,rR,Nat.add_comm]
def lZ(d:seen=true):∀ {c:Nat},(kJ one seen c).length=c * one.cg.length
 | 0=>by rw[Dz];rfl
 | c+1=>by
  show(if c=0\/seen=true then kJ one seen c++one.cg else kJ one seen c).length=_;rw[if_pos (.inr d),Ai,lZ d (c:=c),Du]
def uX(d:seen=false):∀ {c:Nat},0<c->kJ one seen c=one.cg
 | 0,h=>absurd h (Bo _)
 | c+1,_=>by
  show(if c=0\/seen=true then kJ one seen c++one.cg else kJ one seen c)=_;by_cases e:c=0
  .subst e;rw[if_pos (.inl rfl)];exact Bu _
  .rw[if_neg (by rw[d];rintro(h|h);exact e h;cases h)];exact uX d au
def aME(hi:i<one.cg.length):∀ {c:Nat},j<c->(kJ one seen c)[i+pN one seen j]? =one.cg[i]? :=by
 intro c h;cases k:seen with
 | false=>
  rw[uX rfl au];unfold pN;rw[if_neg az,Bw]
 | true=>
  unfold pN;rw[if_pos rfl]
  induction c with
  | zero=>omega
  | succ c d=>
   show(if c=0\/true=true then kJ one true c++one.cg else kJ one true c)[_]? =_;rw[if_pos (.inr rfl)];by_cases e:j=c
   .subst e;rw[Ao (by rw[lZ rfl];omega),lZ rfl,Ez]
   .have f:(j+1) * one.cg.length<=c * one.cg.length:=Co _ au;rw[Du] at f;rw[Ak (by rw[lZ rfl];omega)];exact d au
end
def aEK{d rec:Nat->Option (List cL)}{a:Nat}(i:∀ (r:Nat) (L0:List cL),d r=some L0->∃L,rec (a+r)=some L/\L.length=L0.length/\L.map (fun t:cL=>t.2.1)=L0.map fun t:cL=>t.2.1):∀ {l:bt} {r:Nat} {L0:List cL},fU d l r=some L0->∃L,fU rec (l.map (· +(a:Int))) (a+r)=some L/\L.length=L0.length/\L.map (fun t:cL=>t.2.1)=L0.map fun t:cL=>t.2.1
 | [],r,L0,h=>by
  have h:some []=some L0:=h;cases h;exact⟨[],rfl,rfl,rfl⟩
 | c::l,r,L0,h=>by
  simp only[fU] at h;split at h
  .rename_i u;have⟨e,k,n⟩:=Dg.1 h;obtain⟨v,o,rfl⟩:=Bc.1 n;have⟨f,p,j,q⟩:=i r e k;have⟨s,f1,f2,f3⟩:=aEK i o;refine⟨f++s,?_,by rw[Ai,Ai,j,f2],by rw[Cf,Cf,q,f3]⟩;show(if c+(a:Int)=((a+r:Nat):Int) then(rec (a+r)).bind fun e=>(fU rec (l.map (· +(a:Int))) (a+r+e.length)).map (e++ ·) else none)=_;rw[if_pos au,p];show(fU rec (l.map (· +(a:Int))) (a+r+f.length)).map (f++ ·)=_;rw[j,show a+r+e.length=a+(r+e.length) by omega,f1];rfl
  .cases h
def aDW{n N a:Nat}{e nx:Nat->bt}(o:a+n<=N)(k:∀j,j<n->nx (a+j)=(e j).map (· +(a:Int))):∀ {f i:Nat} {p q d:Int} {l:List cL},eT n e f i p d=some l->∃L,eT N nx f (a+i) q d=some L/\L.length=l.length/\L.map (fun t:cL=>t.2.1)=l.map fun t:cL=>t.2.1
 | 0,_,_,_,_,_,h=>by cases h
 | f+1,i,p,q,d,l,h=>by
  simp only[eT] at h;split at h
  .rename_i hi;obtain⟨L,s,rfl⟩:=Bc.1 h;have⟨M,u,v,w⟩:=aEK (rec:=fun r=>eT N nx f r ((a+i:Nat):Int) (d+1)) (a:=a) (fun r l x=>aDW o k x) s;refine⟨(q,d,((a+i+M.length:Nat):Int))::M,?_,by rw[Aw,Aw,v],by rw[Dh,Dh,w]⟩;simp only[eT];rw[if_pos au,k i hi,show a+i+1=a+(i+1) by omega,u];rfl
  .cases h
def qS.shift{k a:Nat}{s:Int}{B:List cD}(h:qS k 0 B):qS k a (B.map (shN (a:Int) s)):=by
 refine⟨by rw[Av];exact h.1,fun N nx l e f p d n=>?_⟩;rw[Av] at l n;have⟨r,v,w,y⟩:=h.2 B.length (fun i=>((B[i]?).map (·.ji)).getD []) au (fun i x hi=>by
  show((B[0+i]?).map (·.ji)).getD []=_;rw[An,hi];rfl) f p d n
 have⟨L,A,C,D⟩:=aDW (N:=N) (a:=a) (nx:=nx) (q:=p) l (fun j o=>by
  have:=e j (shN (a:Int) s B[j]) (by rw[Ba,Ab o];rfl);rw[this,Ab o];rfl) v
 refine⟨L,A,by rw[C,w,Av],fun t E=>?_⟩;have F:t.2.1∈r.map fun t:cL=>t.2.1:=by rw[<-D];exact Cp.2 ⟨t,E,rfl⟩
 have⟨u,G,H⟩:=Cp.1 F;have:=y u G;omega
def fM.le{l:List (Option Nat)}(h:fM l n):n<=l.length:=by
 induction h with
 | nil=>exact Af _
 | none _ d=>rw[Ai];omega
 | old _ _ d=>rw[Ai];omega
 | new _ d=>rw[Ai,Ax];omega
def fM.lt{l:List (Option Nat)}(h:fM l n):∀i,some i∈l->i<n:=by
 induction h with
 | nil=>intro i hi;cases hi
 | none _ d=>
  intro i hi;rcases Bi.1 hi with h|h
  .exact d i h
  .have:=Bz.1 h;cases this
 | old _ e d=>
  intro i hi;rcases Bi.1 hi with h|h
  .exact d i h
  .have:=Bz.1 h;cases this;exact e
 | new _ d=>
  intro i hi;rcases Bi.1 hi with h|h
  .have:=d i h;omega
  .have:=Bz.1 h;cases this;omega
def fM.app{l l':List (Option Nat)}{f:Nat}(h:fM l n)(h':fM l' f):fM (l++l'.map (Option.map (· +n))) (n+f):=by
 induction h' with
 | nil=>rw[List.map_nil,Bs];exact h
 | none _ e=>rw[Cf,<-Bg];exact e.none
 | old _ i e=>rw[Cf,<-Bg];exact e.old (by show _+n<_;omega)
 | @new j d _ e=>
  rw[Cf,<-Bg];have:=e.new;rw[show n+d=d+n by omega] at this;show fM (_++ [some (d+n)]) _;rw[show n+(d+1)=d+n+1 by omega];exact this
def fM.jo:∀ {l' l:List (Option Nat)} {n:Nat},fM l n->(∀i,some i∈l'->i<n)->fM (l++l') n
 | [],l,n,h,_=>by rw[Bs];exact h
 | x::l',l,n,h,h'=>by
  rw[List.append_cons];refine fM.jo ?_ fun i hi=>h' i (Az _ hi);cases x with
  | none=>exact h.none
  | some i=>exact h.old (h' i (Be ..))
structure aC8(one:aP):Prop where
 prs:1<=one.ch/\one.ch<=4
 n1:1<=one.ce.length
 n2:one.ce.length<=60
 form:cR one=0
 ok:∀x∈one.ce,gN one.ch one.cg x
 sub:∃k,k<=5/\qS k 0 one.ce
 ord:fM (one.ce.map xA) one.cg.length
section
variable {one:aP}{seen:Bool}
def aD4{x:cD}:∀ {c:Nat},x∈oF one seen c->∃j y,j<c/\y∈one.ce/\x=shN ((1+j * one.ce.length:Nat):Int) ((pN one seen j:Nat):Int) y
 | 0,h=>by cases h
 | c+1,h=>by
  rcases Bi.1 h with h|h
  .have⟨j,y,a,b,e⟩:=aD4 h;exact⟨j,y,au,b,e⟩
  .have⟨y,b,e⟩:=Cp.1 h;exact⟨c,y,Dm _,b,e.symm⟩
def aSz{f:Int}(i:j<c)(h:gN one.ch one.cg y):gN one.ch (kJ one seen c) (shN f ((pN one seen j:Nat):Int) y):=by
 have d:(shN f ((pN one seen j:Nat):Int) y).ji.length=y.ji.length:=Av ..;rcases h with h|h|h
 .refine .inl ⟨h.jk,h.jl,?_,?_,h.wts,h.len,h.jn⟩
  .show(if y.jk=2 then _ else y.jj)=0;rw[if_neg (by rw[h.jk];decide)];exact h.jj
  .show y.ji.map _= [];rw[h.ji];rfl
 .refine .inr (.inl ⟨h.jk,h.jl,?_,h.jn,by rw[d];exact h.n1,by rw[d];exact h.n2,by rw[d];exact h.len,h.wts⟩);show(if y.jk=2 then _ else y.jj)=0;rw[if_neg (by rw[h.jk];decide)];exact h.jj
 .have hi:(shN f ((pN one seen j:Nat):Int) y).jj=y.jj+((pN one seen j:Nat):Int):=by
   show(if y.jk=2 then _ else y.jj)=_;rw[if_pos h.jk]
  refine .inr (.inr ⟨h.jk,h.wts,h.jn,by rw[d];exact h.n1,by rw[d];exact h.n2,h.pl,by rw[hi];have:=h.inf;omega,?_⟩);have e:=(Aj.1 h.at_).1;rw[hi,show(y.jj+((pN one seen j:Nat):Int)).toNat=y.jj.toNat+pN one seen j by have:=h.inf;omega,aME e i,h.at_,d];rfl
def aP2{I:List jL}(e:1<=c/\c<=3):gN ps I (aLc n c):=by
 have d:(aLc n c).ji.length=c:=by show(rY n c).length=c;unfold rY;rw[Av,Cn]
 refine .inr (.inl ⟨rfl,rfl,rfl,rfl,by rw[d];exact e.1,by rw[d];exact e.2,by rw[d];exact Au ..,fun w f=>?_⟩);have:w∈List.replicate c (1:Int):=f;rw[List.eq_of_mem_replicate this];decide
def aD3{k:Nat}(h:qS k 0 one.ce):∀ {c:Nat},yW k 1 (rY one.ce.length c) (oF one seen c)
 | 0=>yW.nil
 | c+1=>by
  have:=(aD3 h (c:=c)).snoc (B:=tQ one seen c) (by rw[rR];exact h.shift);rw[rR] at this;have e:rY one.ce.length (c+1)=rY one.ce.length c++ [((1+c * one.ce.length:Nat):Int)]:=by unfold rY;rw[List.range_succ,Cf];rfl
  rw[e];exact this
def aRE{f:Int}{s:Nat}(h:y.jk=2->0<=y.jj):xA (shN f (s:Int) y)=(xA y).map (· +s):=by
 unfold xA;by_cases d:y.jk=2
 .rw[if_pos d,if_pos (show(shN f (s:Int) y).jk=2 from d)];have e:(shN f (s:Int) y).jj=y.jj+(s:Int):=by
   show(if y.jk=2 then _ else y.jj)=_;rw[if_pos d]
  rw[e];show some (y.jj+(s:Int)).toNat=some (y.jj.toNat+s);have:=h d;rw[show(y.jj+(s:Int)).toNat=y.jj.toNat+s by omega]
 .rw[if_neg d,if_neg (show ¬ (shN f (s:Int) y).jk=2 from d)];rfl
def aPj(h:aC8 one):(tQ one seen c).map xA=(one.ce.map xA).map (Option.map (· +pN one seen c)):=by
 unfold tQ;rw[Eu,Eu];refine Eb fun y d=>(aRE fun e=>?_);rcases h.ok y d with h|h|h
 .have:=h.jk;omega
 .have:=h.jk;omega
 .exact h.inf
def aAZ(h:aC8 one):∀ {c:Nat},0<c->fM ((oF one seen c).map xA) (kJ one seen c).length
 | 0,d=>absurd d (Bo _)
 | c+1,_=>by
  show fM ((oF one seen c++tQ one seen c).map xA) _;rw[Cf,aPj h];by_cases f:seen=true
  .rw[lZ f];have e:pN one seen c=c * one.cg.length:=by unfold pN;rw[if_pos f]
   rw[e,Du];rcases Cb c with d|d
   .subst d;rw[Dz,An];have:=fM.app fM.nil h.ord
    rwa [An] at this
   .have:=aAZ h d;rw[lZ f] at this;exact this.app h.ord
  .have f:seen=false:=by cases seen<;>first | rfl | exact absurd rfl f
   rw[uX f (Nat.succ_pos c)];have e:pN one seen c=0:=by unfold pN;rw[if_neg (by rw[f];decide)]
   rw[e];rcases Cb c with d|d
   .subst d;have:=fM.app fM.nil h.ord
    rwa [An] at this
   .have:=aAZ h d;rw[uX f d] at this;refine this.jo fun i hi=>?_;have⟨x,k,j⟩:=Cp.1 hi;cases x with
    | none=>cases j
    | some v=>
     have j:some (v+0)=some i:=j;cases j;exact h.ord.lt v k
def fM.cons{l:List (Option Nat)}(h:fM l n):fM (Option.none::l) n:=by
 induction h with
 | nil=>exact fM.nil.none
 | none _ d=>exact d.none
 | old _ e d=>exact d.old e
 | new _ d=>exact d.new
def aGp(h:aC8 one)(d:1<=c/\c<=3):cR (uP one c seen)=0/\(∀x∈(uP one c seen).ce,gN (uP one c seen).ch (uP one c seen).cg x):=by
 have⟨k,s,i⟩:=h.sub;have l:=h.n1;have n:=h.n2;have t:one.cg.length<=one.ce.length:=by have:=h.ord.le;rwa [Av] at this
 have o:c * one.ce.length<=3 * 60:=Dx d.2 h.n2;have p:(kJ one seen c).length<=3 * 60:=by
  cases u:seen with
  | true=>rw[lZ rfl];exact Dx d.2 au
  | false=>rw[uX rfl d.1];omega
 have e:∀x∈(uP one c seen).ce,gN (uP one c seen).ch (uP one c seen).cg x:=fun x f=>by
  rcases Bm.1 f with rfl|f
  .exact aP2 d
  .obtain⟨j,y,q,r,rfl⟩:=aD4 f;exact aSz q (h.ok y r)
 refine⟨aEt (k:=k+1) h.prs (by rw[aHR];omega) (by show(kJ one seen c).length<=200;omega) e (qS.node (aD3 i)) au ?_,e⟩;show fM (xA (aLc one.ce.length c)::(oF one seen c).map xA) _;exact(aAZ h d.1).cons
end
def aLs{k:Nat}(e:k<l.length)(f:l.getD k 0=x)(h:∀k',k'<l.length->l.getD k' 0=x->k'=k):lK l 0 x=(k:Int):=by
 have i:l[k]? =some x:=by rw[<-f,Ad,Ab e];rfl
 rcases pZ (c:=x) (l:=l) (s:=0) with⟨_,d⟩|⟨j,n,d,_⟩
 .exact absurd (Bb i) d
 .have:=h j (Aj.1 d).1 (by rw[Ad,d];rfl);rw[n,this,An]
def aO1{f:Int}{k:Nat}(d:k<l.length):(l.map (· +f)).getD k 0=l.getD k 0+f:=by
 rw[Ad,Ba,Ab d,Ad,Ab d];rfl
section
variable {c:Nat}
def aMN:(rY n c).length=c:=by unfold rY;rw[Av,Cn]
end
end Go.Ev.Gl
