import Derived.Test.YtbmodoaceepfoaaGl23
set_option linter.all false
open Nat renaming reduceEqDiff -> rE, reduceAdd -> rA
set_option maxHeartbeats 0
namespace Go.Ev.Gl
def aGO:∀ {l m:bt},l.Pairwise (· < ·)->m.Pairwise (· < ·)->(∀x∈l,x∈m)->l.length<=m.length/\(l.length=m.length->l=m)
 | [],m,_,_,_=>⟨Ct _,fun h=>(Bj.1 h.symm).symm⟩
 | x::l,[],_,_,h=>by have:=h x (Be ..);cases this
 | x::l,y::m,c,i,h=>by
  have⟨d,j⟩:=Ep.1 c;have⟨m1,f⟩:=Ep.1 i;by_cases e:x=y
  .subst e;have⟨k,n⟩:=aGO j f fun z b=>by
    rcases Bm.1 (h z (Az _ b)) with e|e
    .have:=d z b;omega
    .exact e
   simp only[Aw];exact⟨au,fun e=>by rw[n au]⟩
  .have o:x∈m:=by
    rcases Bm.1 (h x (Be ..)) with a|a
    .exact absurd a e
    .exact a
   have p:=m1 x o;have⟨k,_⟩:=aGO c f fun z b=>by
    rcases Bm.1 (h z b) with a|a
    .rcases Bm.1 b with g|g
     .omega
     .have:=d z g;omega
    .exact a
   simp only[Aw] at *;exact⟨au,fun e=>au⟩
end Go.Ev.Gl
namespace Go.Ev.Gl
variable {r:Nat}
structure NZ(r:Nat)(L:List cL):Prop where
 nest:∀ (j q:Nat) (t u:cL),L[j]? =some t->L[q]? =some u->j<=q->((r+q:Nat):Int)<=t.2.2->u.2.2<=t.2.2
 par:∀ (j q:Nat) (t u:cL),L[j]? =some t->L[q]? =some u->u.1=((r+j:Nat):Int)->((r+q:Nat):Int)<=t.2.2
def NZ.nil:NZ r []:=⟨fun j q t u h=>by simp at h,fun j q t u h=>by simp at h⟩
def NZ.app{p:Int}{L M:List cL}(n:p<(r:Int))(g:KZ r p L)(m:KZ (r+L.length) p M)(h:NZ r L)(i:NZ (r+L.length) M):NZ r (L++M):=by
 refine⟨fun j q t u d c f k=>?_,fun j q t u d c l=>?_⟩
 .by_cases a:j<L.length
  .rw[Ak a] at d;have o:=(g.sz j t d).2;rw[Ak au] at c;exact h.nest j q t u d c f k
  .rw[Ao au] at d c;exact i.nest _ _ t u d c au (by rw[show r+L.length+(q - L.length)=r+q by omega];exact k)
 .by_cases a:j<L.length
  .rw[Ak a] at d;by_cases b:q<L.length
   .rw[Ak b] at c;exact h.par j q t u d c l
   .rw[Ao au] at c;rcases m.par u (Bb c) with e|e
    .omega
    .omega
  .by_cases b:q<L.length
   .rw[Ak b] at c;rcases g.par u (Bb c) with e|e
    .omega
    .omega
   .rw[Ao au] at d c;have:=i.par _ _ t u d c (by rw[show r+L.length+(j - L.length)=r+j by omega];exact l)
    rwa [show r+L.length+(q - L.length)=r+q by omega] at this
def aK5{rec:Nat->Option (List cL)}{p:Int}(d:∀ (r:Nat) (L:List cL),p<(r:Int)->rec r=some L->KZ r p L/\NZ r L):∀ {l:bt} {r:Nat} {L:List cL},p<(r:Int)->fU rec l r=some L->NZ r L
 | [],r,L,_,h=>by
  have h:some []=some L:=h;cases h;exact NZ.nil
 | c::l,r,L,f,h=>by
  simp only[fU] at h;split at h
  .have⟨g,i,k⟩:=Dg.1 h;obtain⟨n,j,rfl⟩:=Bc.1 k;have m:=aDu (fun r L a b=>(d r L a b).1) (au:p<((r+g.length:Nat):Int)) j;exact NZ.app f (d r g f i).1 m (d r g f i).2 (aK5 d au j)
  .cases h
def aK4{N:Nat}{nx:Nat->bt}:∀ {f at_:Nat} {p d:Int} {T:List cL},p<(at_:Int)->eT N nx f at_ p d=some T->NZ at_ T
 | 0,_,_,_,_,_,h=>by cases h
 | f+1,at_,p,d,T,m,h=>by
  have K:=mP m h;simp only[eT] at h;split at h
  .obtain⟨L,l,rfl⟩:=Bc.1 h;have k:=aDu (p:=(at_:Int)) (fun r L a g=>mP a g) au l;have n:=aK5 (p:=(at_:Int)) (fun r L a g=>⟨mP a g,aK4 a g⟩) au l;refine⟨fun j q t u c b o a=>?_,fun j q t u c b i=>?_⟩
   .cases j with
    | zero=>
     cases c;have:=(K.sz q u b).2;rw[Aw] at this;show u.2.2<=((at_+L.length:Nat):Int);omega
    | succ j=>
     obtain⟨q,rfl⟩:∃s,q=s+1:=⟨q - 1,au⟩;exact n.nest j q t u c b au (by rw[show at_+1+q=at_+(q+1) by omega];exact a)
   .cases j with
    | zero=>
     cases c;have:=(Aj.1 b).1;rw[Aw] at this;show((at_+q:Nat):Int)<=((at_+L.length:Nat):Int);omega
    | succ j=>
     cases q with
     | zero=>
      cases b;have i:p=((at_+(j+1):Nat):Int):=i;omega
     | succ q=>
      have:=n.par j q t u c b (by rw[show at_+1+j=at_+(j+1) by omega];exact i)
      rwa [show at_+1+q=at_+(q+1) by omega] at this
  .cases h
def aPp{g:aP}{T:List cL}(q:fY g=some T)(w:T.length=g.ce.length){a i:Nat}(x:a<g.ce.length)(hi:a<=i/\i<a+dR T a)(r:i<g.ce.length){c:Int}(s:c∈(ct g i).ji):(i:Int)<c/\c<((a+dR T a:Nat):Int):=by
 have k:eT g.ce.length (dP g) (g.ce.length+1) 0 (-1) 0=some T:=q;have K:=mP az k;have n:=aK4 az k;have t:=jR k;have l:dP g (0+i)=(ct g i).ji:=by rw[An];exact iJ g i
 have⟨y,z,m⟩:=t.cf i au c (by rw[l];exact s);have last:∀j (o:j<T.length),T[j].2.2=((j+dR T j - 1:Nat):Int)/\1<=dR T j:=fun j o=>by
  have u:=K.sz j T[j] (Ab o);have A:=qE K o;rw[An] at u;omega
 have f:c.toNat<T.length:=by omega
 have h:T[c.toNat].1=((0+i:Nat):Int):=by
  unfold jS at m;rw[Ew,Ab f] at m;exact Bk m
 have b:i<T.length:=by omega
 have d:a<T.length:=by omega
 have v:=n.par i c.toNat _ _ (Ab b) (Ab f) h;have p:=n.nest a i _ _ (Ab d) (Ab b) hi.1 (by rw[(last a d).1];omega);rw[(last i b).1] at v p;rw[(last a d).1] at p;have:=(last a d).2;have:=(last i b).2;omega
end Go.Ev.Gl
namespace Go.Ev.Gl
variable {g:aP}{i b n:Nat}{S X:St}{nv iv:AV}{F:Fr}
def aK6(h:cR g=0)(hi:i<g.ce.length)(c:(ct g i).jk≠1):(ct g i).jm= []:=by
 have G:=sH h;have a:gS g.ch g.cg.length (ct g i)=0:=by
  unfold cR at h;split at h
  .cases h
  split at h
  .rename_i f;exact absurd h f
  rename_i j;exact jF (Ed.1 j) _ (Bb (cU hi))
 have k:(ct g i).jm.length=0:=by
  rcases G.knd i hi with b|b|b
  .exact absurd b c
  .unfold gS at a;rw[if_neg au,if_pos b] at a;split at a
   .cases a
   .rename_i d;unfold uV at d;omega
  .unfold gS at a;rw[if_neg au,if_neg au,if_pos b] at a;split at a
   .cases a
   .rename_i d;unfold oT at d;omega
 exact Bj.1 k
def aJi{l:bt}{p:Nat}{x:Int}(h:p<l.length)(e:l.getD p 0=x):x∈l:=by
 rw[<-e,Ad,Ab h];exact Bl h
def aJC{T:List cL}{a:Nat}(q:cR g=0)(B:fY g=some T)(I:T.length=g.ce.length)(J:a+dR T a<=b)(K:b+dR T a<=g.ce.length)(r:dR T a=dR T b)(s:iQ g (swL g.ce.length a b (dR T a))):aKs g T a b:=by
 have G:=gR q;have M:eT g.ce.length (dP g) (g.ce.length+1) 0 (-1) 0=some T:=B;have W:=jR M;have u:∀i,dP g (0+i)=(ct g i).ji:=fun i=>by rw[An];exact iJ g i
 have f:∀i,i<g.ce.length->(ct g i).ji.Pairwise (· < ·):=fun i hi=>by
  have:=W.inc i au
  rwa [u] at this
 refine⟨r,fun t R=>?_⟩;have hi:a+t<g.ce.length:=by omega
 have n:b+t<g.ce.length:=by omega
 have o:fW (swL g.ce.length a b (dR T a)) (a+t)=b+t:=by
  rw[aJW hi];unfold swF;rw[if_pos au];omega
 have⟨p,v,C,D⟩:=s.like (a+t) hi;rw[o] at p v C D;have E:∀k,k<(ct g (a+t)).ji.length->(swL g.ce.length a b (dR T a)).getD ((ct g (a+t)).ji.getD k 0).toNat 0=(ct g (a+t)).ji.getD k 0 - (a:Int)+(b:Int):=fun k d=>by
  have w:(ct g (a+t)).ji.getD k 0∈(ct g (a+t)).ji:=by
   rw[Ad,Ab d];exact Bl d
  have:=aPp B I (a:=a) (i:=a+t) au au  hi w;unfold swL;rw[uE au];unfold swF;rw[if_pos au];omega
 have m:∀k,k<(ct g (a+t)).ji.length->0<=lK (ct g (b+t)).ji 0 ((ct g (a+t)).ji.getD k 0 - (a:Int)+(b:Int)):=fun k d=>by
  have:=s.kid (a+t) k hi d;unfold jP at this
  rwa [o,E k d] at this
 have e:(ct g (a+t)).ji.map (fun c=>c - (a:Int)+(b:Int))=(ct g (b+t)).ji:=by
  refine(aGO ?_ (f _ n) fun x N=>?_).2 (by rw[Av];exact v)
  .exact List.pairwise_map.2 ((f _ hi).imp fun h=>au)
  .obtain⟨c,y,rfl⟩:=Cp.1 N;obtain⟨k,d,rfl⟩:=Ce y;have⟨O,P⟩:=aGg (m k d);have F:=aJi O P;rw[Ad,Ab d] at F;exact F
 have z:∀k,k<(ct g (a+t)).ji.length->(ct g (b+t)).ji.getD k 0=(ct g (a+t)).ji.getD k 0 - (a:Int)+(b:Int):=fun k d=>by
  rw[<-e,Ad,Ba,Ad,Ab d];rfl
 refine⟨p,D,C,?_,v,fun k d=>by rw[z k d];omega⟩;by_cases j:(ct g (a+t)).jk=1
 .have S:=G.wts _ hi j;have U:=G.wts _ n (by rw[<-p];exact j);refine oP au fun k d=>?_;have:=s.weigh (a+t) k hi au j;rw[o] at this;rw[this];congr 1;unfold jP;rw[o,E k au];have Q:lK (ct g (b+t)).ji 0 ((ct g (a+t)).ji.getD k 0 - (a:Int)+(b:Int))=(k:Int):=by
   refine aLs au (z k au) fun k' l H=>?_;have A:=f _ n;rw[Fe] at A;rw[<-z k au,Ad,Ab l,Ad,Ab (au:k<_)] at H;simp only[Ea] at H;rcases Ei k' k with h|h|h
   .have:=A k' k l au h;omega
   .exact h
   .have:=A k k' au l h;omega
  rw[Q];exact Am k
 .rw[aK6 q hi j,aK6 q n (by rw[<-p];exact j)]
variable {fns:T fD}
def aD7(H:Has fns)(z:n<=100000):iK fns (.fn 46 [] []) [jr (n:Int)] S fun r S'=>oM S S' r (idL n)/\jq S S':=by
 refine cJ H.f46 (by simp) ?_;refine am ?_;refine bS (am ?_);refine bS (am ?_);refine fQ (oK (n:=n) (jd @aY) (jd @aY) ay ay) ?_;intro S1 s1 A v;rw[rG] at v;refine am ?_;refine aB (aX (Q:=fun o w X=>o= .normal/\aFT S S.nx n (fun j=>(j:Int)) (fun F i=>aA 0 F=jr (n:Int)/\aA 3 F= .sl S.nx 0 n n false/\aA 4 F=jr (i:Int)) 0 w X) (aB (aF ?_)) ?_)
 .refine am ?_;refine aJ (bL (aFT S S.nx n (fun j=>(j:Int)) (fun F i=>aA 0 F=jr (n:Int)/\aA 3 F= .sl S.nx 0 n n false/\aA 4 F=jr (i:Int))) ?_ n _ _ ⟨rfl,s1,au,0,_,au,Au ..,fun j x=>au,v,aq,aq,by simp only[↓aD,aC,rE,↓reduceIte,rA];try rfl⟩);rintro k ⟨F,inr⟩ X ⟨rfl,m,p,i,l,g,a,q,s,h,c,f⟩;simp only at h c f;refine fZ (gh h f ?_);by_cases d:i<n
  .refine aM i9 (aG ?_);refine am ?_
   have y:=du i
   have t:=eX (b:=S.nx) (o:=false) d;refine aB (aJ (aF ?_));refine gu c f @aY t ?_;refine eK (fun call=>by refine gh @dE @cF ?_;exact qQ (S:=X) s (by rw[a];exact d)) ?_;refine am ?_;refine aF (gh f y ?_);refine⟨k - 1,au,rfl,m.put (Af _) _,p,i+1,l.set i (i:Int),au,by rw[Ar];exact a,fun j x=>?_,jh,ar h,ar c,aq⟩;rw[eJ (by rw[a];exact d)];split
   .rename_i e;rw[e]
   .exact q j au
  .refine aK i9 (bH ?_);refine am ?_;have u:k=0:=by omega
   subst u;exact⟨rfl,m,p,i,l,g,a,q,s,ar h,ar c,ar f⟩
 rintro o ⟨F,inr⟩ X ⟨rfl,rfl,m,p,i,l,g,a,q,s,h,c,f⟩;simp only at c;obtain rfl:i=n:=by omega
 obtain rfl:l=idL i:=aFQ a q;refine am ?_
 refine bS (fx c ?_);refine aS (am ?_);exact⟨⟨S.nx,by rw[a],Af _,p,s⟩,m⟩
def aHg{i:Int}:∀ {L:List cL} {T:List cL} {a:Nat},T.drop a=L->∀ (l:cd),l.Pairwise (· < ·)->(∀x∈l,a<=x/\∃t,T[x]? =some t/\t.1=i)->(∀x t,a<=x->T[x]? =some t->t.1=i->x∈l)->(l.map (dR T)).sum=oU i L a
 | [],T,a,o,l,_,k,_=>by
  cases l with
  | nil=>rfl
  | cons x l=>
   have⟨w,t,p,_⟩:=k x (Be ..);have:=(Aj.1 p).1;have m:=congrArg List.length o;rw[Cz] at m;simp only[Ca] at m;omega
 | t::L,T,a,o,l,z,k,b=>by
  have f:a<T.length:=by
   have m:=congrArg List.length o;rw[Cz,Aw] at m;omega
  have e:=Bt f;rw[o] at e;injection e with B A;have q:T[a]? =some t:=by rw[Ab f,B]
  show _=(if t.1=i then(t.2.2+1 - (a:Int)).toNat else 0)+oU i L (a+1);by_cases c:t.1=i
  .rw[if_pos c];have n:=b a t (Af _) q c;cases l with
   | nil=>cases n
   | cons x l=>
    have g:=Ep.1 z;have r:x=a:=by
     have w:=(k x (Be ..)).1;rcases Bm.1 n with h|h
     .exact h.symm
     .have:=g.1 a h;omega
    subst r;have C:=aHg (i:=i) (T:=T) (a:=x+1) (L:=L) A.symm l g.2 (fun y d=>⟨g.1 y d,(k y (Az _ d)).2⟩) fun y u d s j=>by
     rcases Bm.1 (b y u au s j) with h|h
     .omega
     .exact h
    have D:dR T x=(t.2.2+1 - (x:Int)).toNat:=by unfold dR;rw[q]
    rw[Dh,Er,C,D]
  .rw[if_neg c,An];have v:∀y∈l,a+1<=y:=fun y d=>by
    have⟨w,u,p,m⟩:=k y d;rcases Cx a y with h|h
    .exact h
    .obtain rfl:y=a:=by omega
     rw[q] at p;cases p;exact absurd m c
   exact aHg (i:=i) (T:=T) (a:=a+1) (L:=L) A.symm l z (fun y d=>⟨v y d,(k y d).2⟩) fun y u d s j=>b y u au s j
def size_eq{T:List cL}(u:fY g=some T)(B:T.length=g.ce.length)(hi:i<g.ce.length):dR T i=1+(((ct g i).ji.map Int.toNat).map (dR T)).sum:=by
 have s:eT g.ce.length (dP g) (g.ce.length+1) 0 (-1) 0=some T:=u;have k:=mP az s;have m:=jR s;have f:∀i,dP g (0+i)=(ct g i).ji:=fun i=>by rw[An];exact iJ g i
 have⟨v,_⟩:=qE k (au:i<T.length);have d:=m.inc i au;rw[f] at d;have c:=m.cf i au;rw[f] at c;have p:((ct g i).ji.map Int.toNat).Pairwise (· < ·):=by
  rw[List.pairwise_map];refine List.Pairwise.imp_of_mem (fun {a b} w z h=>?_) d;have:=c a w;have:=c b z;omega
 rw[v];congr 1;refine(aHg (i:=(i:Int)) (T:=T) (a:=0) (L:=T) rfl _ p (fun x n=>?_) fun x t _ n C=>?_).symm
 .obtain⟨y,A,rfl⟩:=Cp.1 n;have⟨_,o,j⟩:=c y A;refine⟨Ct _,?_⟩;unfold jS at j;rw[Ew,Bc] at j;have⟨t,a,b⟩:=j;exact⟨t,a,by rw[b];omega⟩
 .have r:=(Aj.1 n).1;have l:jS T x=some t.1:=by unfold jS;rw[n];rfl
  rcases Cb x with h|h
  .subst h;have:=m.root;rw[l] at this;injection this with this;omega
  .have⟨q,D,o,j⟩:=m.pf x h r;rw[l] at o;injection o with o;obtain rfl:q=i:=by omega
   rw[f] at j;exact Cp.2 ⟨_,j,au⟩
def aTM(S:St)(nv iv:AV)(g:aP)(T:List cL)(i:Nat)(k:Nat)(A:bO)(X:St):Prop:=A.inr=false/\jq S X/\S.nx<X.nx/\X.h.get S.nx=js [jr g.ch,nv,iv]/\∃q:Nat,q+k=(ct g i).ji.length/\aA 1 A.F=jr (i:Int)/\aA 2 A.F= .ptr S.nx 0/\aA 5 A.F=jr ((1+(((ct g i).ji.take q).map fun c=>dR T c.toNat).sum:Nat):Int)/\aA 6 A.F=jr (q:Int)
def aC4{T:List cL}(H:Has fns)(Y:cR g=0)(W:fY g=some T)(C:T.length=g.ce.length)(Z:g.ce.length<=1000):∀ (m:Nat) {S:St} {i:Nat},i<g.ce.length->g.ce.length<=m+i->aE 6 bT S nv g.ce->aE 2 cC S iv g.cg->iK fns (.fn 45 [] []) [.agg [jr g.ch,nv,iv],jr (i:Int)] S fun r S'=>r=jr ((dR T i:Nat):Int)/\jq S S':=by
 intro m
 induction m with
 | zero=>intro S i h1 h2;omega
 | succ m ih=>
  intro S i hi hm D v;have G:=gR Y;have w:=aE.self D;have I:=aE.self v;have J:cI (.agg [jr g.ch,nv,iv]) (.agg [jr g.ch,nv,iv])=true:=by
   simp only[cI,kG,w,I,fH,jA,decide_true,aL,Dr]
  have a:=size_eq W C hi;rw[Eu] at a;have a:dR T i=1+((ct g i).ji.map fun c=>dR T c.toNat).sum:=a;have aa:=(qE (mP az (show eT g.ce.length (dP g) (g.ce.length+1) 0 (-1) 0=some T from W)) (au:i<T.length)).2.1;have x:∀q,((((ct g i).ji.take q).map fun c=>dR T c.toNat).sum)<=((ct g i).ji.map fun c=>dR T c.toNat).sum:=fun q=>by
   conv=>rhs;rw[<-Em q (ct g i).ji]
   rw[Cf,List.sum_append];omega
  obtain⟨_,bx,qx,d,y,_,⟨xa,xw,xp,rfl,z,ab,ac⟩,_,K⟩:=aE.at D az (cU hi);have M:=K 3 xa rfl;refine cJ H.f45 (by simp) ?_;refine ae ?_;apply bS;refine dC (by refine ae ?_;exact bB _) ?_;intro S1 s1 n1 g1;refine ae ?_;refine bS (ae ?_);refine aB (aX (Q:=fun o A' X=>o= .normal/\aTM S nv iv g T i 0 A' X) (aB (aF ?_)) ?_)
  .refine ae ?_;refine aJ (bL (aTM S nv iv g T i) ?_ (ct g i).ji.length _ _ ⟨rfl,s1,au,g1,0,au,af,af,ag,ag⟩);rintro k ⟨F,inr⟩ X ⟨rfl,b,A,p,q,B,s,t,f,u⟩;simp only at s t f u;have j:=M;rw[<-eM b y] at j;have h:=z.jo b;refine fZ (ez s t u (fN p) d j h.len @Ag ?_);by_cases l:q<(ct g i).ji.length;rotate_left
   .refine aK i7 (bH ?_);refine ae ?_;obtain rfl:k=0:=by omega
    exact⟨rfl,b,A,p,q,B,ah s,ah t,ah f,ah u⟩
   refine aM i7 (aG ?_);refine ae ?_
   have an:=G.nxt i hi;have w1:=du q
   have⟨cb,cq,ci,N,cl⟩:=mE h l;have⟨k1,k2⟩:=G.kids i hi q l;have O:(ct g i).ji.getD q 0=(((ct g i).ji.getD q 0).toNat:Int):=by omega
   have P:bx<X.nx:=Ae y b.1;have R:=bN.self z;have l3:=gE p;have U:=fN p;refine aB (aJ (iN (fun _=>False) ?_));intro X0 x0;refine fu s t f u l3 U A @Ap J w d j P R @ci cl N ?_;refine dT rfl ?_;refine ae ?_;rw[O];refine aW (ih au au  (aE.jo (E:=bT) bF D (b.trans x0)) (aE.jo (E:=cC) bQ v (b.trans x0))) ?_;rintro _ X1 ⟨rfl,x1⟩;refine⟨x1,?_⟩;have ao:=x (q+1);have V:((((ct g i).ji.take (q+1)).map fun c=>dR T c.toNat).sum)=((((ct g i).ji.take q).map fun c=>dR T c.toNat).sum)+dR T ((ct g i).ji.getD q 0).toNat:=by
    rw[Cc,aF0 l,Cf,List.sum_append];simp
   have w2:IntKind.i64.wrap (((1+(((ct g i).ji.take q).map fun c=>dR T c.toNat).sum:Nat):Int)+((dR T ((ct g i).ji.getD q 0).toNat:Nat):Int))=((1+(((ct g i).ji.take (q+1)).map fun c=>dR T c.toNat).sum:Nat):Int):=by
    rw[wrap_i64 au au,V];omega
   simp only[↓sU,sD,rE,↓reduceIte,rA,f,w2]
   refine aF (dz u w1 ?_);have n:=x0.trans x1;exact⟨k - 1,au,rfl,b.trans n,Ae A n.1,(n.2 _ A).trans p,q+1,au,ah s,ah t,af,af⟩
  rintro o ⟨F,inr⟩ X ⟨rfl,rfl,b,A,p,q,B,s,t,f,u⟩;simp only at f;obtain rfl:q=(ct g i).ji.length:=by omega
  rw[Eo,<-a] at f;refine ae ?_
  refine bS (c8 f ?_);refine aS (ae ?_);exact b
def SwX(S0:St)(nb rb N a b n q j:Nat)(v1 c v6:AV)(k:Nat)(A:bO)(X:St):Prop:=A.inr=false/\jq S0 X/\rb<X.nx/\∃ (t:Nat) (l:bt),t+k=n/\l.length=N/\(∀j,j<N->l.getD j 0=((swF a b t j:Nat):Int))/\X.h.get rb=js (aQ l)/\aA 1 A.F=v1/\aA 5 A.F=c/\aA 6 A.F=v6/\aA 7 A.F= .ptr nb 0/\aA 8 A.F=jr (q:Int)/\aA 9 A.F=jr (j:Int)/\aA 10 A.F=jr (n:Int)/\aA 11 A.F= .sl rb 0 N N false/\aA 12 A.F=jr (t:Int)
def aQe{S0:St}{xa k0 k1 k2 k4 k5 v1 B v6:AV}{ji:bt}{N a nb rb q j:Nat}(i:bN .i64 S0 xa ji)(hq:q<ji.length)(y:j<ji.length)(ea:ji.getD q 0=(a:Int))(eb:ji.getD j 0=(b:Int))(aa:a+n<=b)(ab:b+n<=N)(hN:N<=100000)(C:S0.h.get nb=js [k0,k1,k2,xa,k4,k5])(D:nb<S0.nx)(ac:S0.nx<=rb)(h:jq S0 X)(z:rb<X.nx)(A:X.h.get rb=js (aQ (idL N)))(u:aA 1 F=v1)(v:aA 5 F=B)(x:aA 6 F=v6)(m:aA 7 F= .ptr nb 0)(r:aA 8 F=jr (q:Int))(s:aA 9 F=jr (j:Int))(g:aA 10 F=jr (n:Int))(d:aA 11 F= .sl rb 0 N N false)(f:aA 12 F=jr ((0:Nat):Int)):
  jN fns aUg ⟨F,false⟩ X fun o A' Z=>o= .normal/\SwX S0 nb rb N a b n q j v1 B v6 0 A' Z:=by
 have⟨E,oq,iq,lq,T⟩:=bN.ptr i hq;have⟨G,oj,ij,lj,U⟩:=bN.ptr i y;rw[ea] at T;rw[eb] at U;have H:=bN.self i;refine aJ (bL (SwX S0 nb rb N a b n q j v1 B v6) ?_ n _ _ ⟨rfl,h,z,0,_,au,by unfold idL;rw[Av,Cn],fun j y=>by unfold idL swF;rw[uE y,if_neg au,if_neg au],A,u,v,x,m,r,s,g,d,f⟩);rintro k ⟨F,inr⟩ X ⟨rfl,h,z,t,l,I,V,W,A,u,v,x,m,r,s,g,d,f⟩;simp only at u v x m r s g d f;refine fZ (dz g f ?_);by_cases an:t<n;rotate_left
 .refine aK i7 (bH ?_);refine ae ?_;obtain rfl:k=0:=by omega
  exact⟨rfl,h,z,t,l,I,V,W,A,ah u,ah v,ah x,ah m,ah r,ah s,ah g,ah d,ah f⟩
 refine aM i7 (aG ?_);refine ae ?_
 have w1:=du t
 have wa:IntKind.i64.wrap ((a:Int)+(t:Int))=((a+t:Nat):Int):=by rw[wrap_i64 au au];omega
 have J:IntKind.i64.wrap ((b:Int)+(t:Int))=((b+t:Nat):Int):=by rw[wrap_i64 au au];omega
 have ia:=eX (b:=rb) (N:=N) (o:=false) (au:a+t<N);have Y:=eX (b:=rb) (N:=N) (o:=false) (au:b+t<N);have nX:=h.1;have K:=(h.2 _ D).trans C;have M:eE (.ptr E oq) false 1 X.h=some (jr (a:Int)):=by rw[eM h lq];exact T
 have O:eE (.ptr G oj) false 1 X.h=some (jr (b:Int)):=by rw[eM h lj];exact U
 have Q:nb<X.nx:=by omega
 have R:E<X.nx:=by omega
 have S:G<X.nx:=by omega
 have nn:nb≠rb:=by omega
 have nq:E≠rb:=by omega
 have nj:G≠rb:=by omega
 refine aB (aJ (iN (fun c=>c=rb) ?_));intro S1 s1;simp only[↓sU,sD,rE,↓reduceIte,rA,m,r,s,d,f,dD K,iq,M,ij,O,H,dO,wa,J,ia,Y,Q,R,S,nn,nq,nj,Ap];refine vA (p:=a+t) (w:=((b+t:Nat):Int)) (P:=l) rfl (af) (af) (by rw[s1.2 _ z];exact A) au rfl ?_;intro S2 s2 n2 c2;refine dz d Y ?_;refine vA (p:=b+t) (w:=((a+t:Nat):Int)) (P:=l.set (a+t) ((b+t:Nat):Int)) (az:Nat.testBit 8589934591 31=true) (af) (af) c2 (by rw[Ar];omega) rfl ?_;intro S3 s3 n3 c3;refine c8 @bK ?_;refine aF (dz f w1 ?_);have n1:=s1.1;refine⟨k - 1,au,rfl,⟨by show S0.nx<=S3.nx;omega,fun c hc=>(s3.2 c au au).trans ((s2.2 c au au).trans ((s1.2 c au).trans (h.2 c hc)))⟩,by show rb<S3.nx;omega,t+1,(l.set (a+t) ((b+t:Nat):Int)).set (b+t) ((a+t:Nat):Int),au,by rw[Ar,Ar];exact V,fun j y=>?_,c3,ah u,ah v,ah x,ah m,ah r,ah s,ah g,ah d,af⟩;rw[eJ (by rw[Ar];omega),eJ au];unfold swF;by_cases e1:j=b+t
 .rw[if_pos e1,if_neg au,if_pos au];omega
 .rw[if_neg e1];by_cases e2:j=a+t
  .rw[if_pos e2,if_pos au];omega
  .rw[if_neg e2,W j y];unfold swF;by_cases e3:a<=j/\j<a+t
   .rw[if_pos e3,if_pos (au:a<=j/\j<a+(t+1))]
   .rw[if_neg e3,if_neg (au:¬ (a<=j/\j<a+(t+1)))];by_cases e4:b<=j/\j<b+t
    .rw[if_pos e4,if_pos (au:b<=j/\j<b+(t+1))]
    .rw[if_neg e4,if_neg (au:¬ (b<=j/\j<b+(t+1)))]
structure XwH(S2 X:St)(gb:Nat)(pv:AV)(cs:bu)(L:bo)(i:Nat)(F:Fr):Prop where
 jo:jq S2 X
 gr:fC 1 S2 X pv L.length cs
 rw:qJ S2 X pv cs L
 t1:aA 1 F= .ptr gb 0
 t5:aA 5 F=pv
 t6:aA 6 F= .int .i64 (i:Int)
def aTg(a:St)(gb:Nat)(g:aP)(T:List cL)(k:Nat)(A:bO)(X:St):Prop:=A.inr=false/\∃ (i:Nat) (pv:AV) (cs:bu),i+k=g.ce.length/\XwH a X gb pv cs (nF g T i) i A.F
def aUL(a:St)(gb nb:Nat)(g:aP)(T:List cL)(cells:bu)(i K:Nat)(k:Nat)(A:bO)(X:St):Prop:=A.inr=false/\nb<X.nx/\X.h.get nb=js cells/\∃ (q:Nat) (pv:AV) (cs:bu),q+k=K/\XwH a X gb pv cs (nF g T i++sF g T i q) i A.F/\aA 7 A.F= .ptr nb 0/\aA 8 A.F=jr (q:Int)
def aRW(a:St)(gb nb:Nat)(g:aP)(T:List cL)(cells:bu)(i q:Nat)(k:Nat)(A:bO)(X:St):Prop:=A.inr=false/\nb<X.nx/\X.h.get nb=js cells/\∃ (j:Nat) (pv:AV) (cs:bu),j+k=(ct g i).ji.length/\q<j/\XwH a X gb pv cs (nF g T i++(sF g T i q++oL g T i q j)) i A.F/\aA 7 A.F= .ptr nb 0/\aA 8 A.F=jr (q:Int)/\aA 9 A.F=jr (j:Int)
def XwH.step{c Y:St}{gb:Nat}{pv:AV}{cs:bu}{L:bo}{F':Fr}(h:XwH c X gb pv cs L i F)(a:jq X Y)(b:aA 1 F'=aA 1 F)(d:aA 5 F'=aA 5 F)(f:aA 6 F'=aA 6 F):XwH c Y gb pv cs L i F':=
 ⟨h.jo.trans a,h.gr.step a,⟨h.rw.1,fun j g=>by
  have⟨r,b,k,l⟩:=h.rw.2 j g;exact⟨r,b,k.jo a,l⟩⟩,b.trans h.t1,d.trans h.t5,f.trans h.t6⟩
def aHs(H:Has fns)(hn:aE 6 bT S nv g.ce)(hi:aE 2 cC S iv g.cg)(b0:g.ce.length<=1000):
  iK fns (.fn 25 [] []) [.agg [jr g.ch,nv,iv]] S fun r S'=>jq S S'/\∃v,r= .tup [v,jr (cR g)]/\(cR g≠0->v= .cr)/\(cR g=0->∃T,fY g=some T/\T.length=g.ce.length/\aE 1 nM S' v (nF g T g.ce.length)/\∀X':St,S'.nx<=X'.nx->(∀c,c<S'.nx->S.nx<=c->X'.h.get c=S'.h.get c)->aE 1 nM X' v (nF g T g.ce.length)):=by
 have cW:=aE.self hn;have cX:=aE.self hi;have b1:=aE.len hn;have b2:cI (.agg [jr g.ch,nv,iv]) (.agg [jr g.ch,nv,iv])=true:=by
  simp only[cI,kG,cW,cX,fH,jA,decide_true,aL,Dr]
 refine cJ H.f25 (by simp) ?_;refine ae ?_;apply bS;refine dC (by refine ae ?_;exact bB _) ?_;intro S1 s1 n1 g1;refine ae ?_;apply fZ;simp only[↓sU,sD,rE,↓reduceIte,rA,gE g1];refine bJ (ae ?_);refine aW (vQ H (aE.jo (E:=bT) bF hn s1) (aE.jo (E:=cC) bQ hi s1) au) ?_;rintro _ I ⟨rfl,s2⟩;try refine ae ?_
 have O:=s1.trans s2;refine bS (ae ?_);by_cases h0:cR g=0;rotate_left
 .refine aM (by simp only[↓sU,sD,rE,↓reduceIte,rA,Ac (show cR g≠0 from h0)]) ?_;refine bS (ae ?_);refine aS (ae ?_);exact⟨O,.cr,rfl,fun _=>rfl,fun h=>absurd h h0⟩
 refine aK (by simp only[↓sU,sD,rE,↓reduceIte,rA,Aa (show ¬cR g≠0 from fun h=>h h0)]) (aG ?_);try refine ae ?_
 have G:=gR h0;obtain⟨T,hT,R, -⟩:=G.walk;have dY:=G.n2;have U:=aE.jo (E:=bT) bF hn O;have bp:=aE.jo (E:=cC) bQ hi O;have g2:I.h.get S.nx=js [jr g.ch,nv,iv]:=(s2.2 _ au).trans g1;have b3:S.nx<I.nx:=by have:=s2.1;omega
 generalize dZ:S.nx=gb at *;refine bS (ae ?_);refine fZ (ae ?_);refine aX (Q:=fun o A' X=>o= .normal/\aTg I gb g T 0 A' X) (aJ (bL (aTg I gb g T) ?_ g.ce.length _ _ ⟨rfl,0,.cr,[],au,⟨dy _,.inl ⟨rfl,rfl,rfl⟩,⟨rfl,fun j hj=>absurd hj (Bo j)⟩,af,af,ag⟩⟩)) ?_;rotate_left
 .rintro o ⟨F,inr⟩ X ⟨rfl,rfl,i,pv,cs,bs,f⟩;simp only at f;obtain rfl:i=g.ce.length:=by omega
  refine ae ?_
  apply bS;simp only[↓sU,sD,rE,↓reduceIte,rA,f.t5];refine aS (ae ?_);refine⟨O.trans f.jo,pv,by rw[h0],fun h=>absurd h0 h,fun _=>⟨T,hT,R,f.rw.is f.gr rfl,fun X' b6 b8=>?_⟩⟩;have d':=O.1;have cY:qJ I X' pv cs (nF g T g.ce.length):=⟨f.rw.1,fun j hj=>by
   obtain⟨r,h1,h2,h3⟩:=f.rw.2 j hj;exact⟨r,h1,eH h2 b6 fun c s=>b8 c (dK h2 s) (by have:=(h3 c s).1;omega),h3⟩⟩
  exact cY.is (f.gr.move b6 fun c s=>b8 c (f.gr.blk s).2.1 (by have:=(f.gr.blk s).1;omega)) rfl
 rintro k ⟨F,inr⟩ V ⟨rfl,i,pv,cs,bs,f⟩;simp only at f;have gV:=(f.jo.2 _ b3).trans g2;apply fZ;simp only[↓sU,sD,rE,↓reduceIte,rA,f.t1,f.t6,fN gV,b1];by_cases B:i<g.ce.length;rotate_left
 .refine aK (by simp only[↓sU,sD,rE,↓reduceIte,rA,Aa (show ¬ (i:Int)<(g.ce.length:Int) by omega)]) (bH ?_);refine ae ?_;obtain rfl:k=0:=by omega
  exact⟨rfl,i,pv,cs,bs,f.step (dy _) (af) (af) (af)⟩
 refine aM (by simp only[↓sU,sD,rE,↓reduceIte,rA,Ac (show(i:Int)<(g.ce.length:Int) by omega)]) (aG ?_);try refine ae ?_
 obtain⟨_,bx,qx,bk,cZ,_,⟨xa,xw,xp,rfl,W,bv,ea⟩,aa,_⟩:=aE.at U az (cU B);rw[<-eM f.jo cZ] at aa;have w0:=du i
 refine aB (aJ (aB (aF ?_)));simp only[↓aD,aC,rE,↓reduceIte,rA,f.t1,f.t6,aU,aT,fN gV,aY,bk,aa];apply cB;intro W1 v1 k1 h1;try refine am ?_
 refine dB (b:=V.nx) (aq) (by refine am ?_;exact bB _) h1 rfl rfl ?_;intro Y v2 k2 h2;refine am ?_;have b':jq V Y:=v2.jo v1 (Af _);have aV:V.nx<Y.nx:=by omega
 have nV:=f.jo.1;refine bS (ae ?_);have c0:=G.nxt i B;obtain⟨K,hK⟩:∃K:Nat,K=if(ct g i).jk=1 then(ct g i).ji.length else 0:=⟨_,rfl⟩;have e1:nF g T (i+1)=nF g T i++sF g T i K:=by
  show nF g T i++(if _ then _ else [])=_;rw[hK];split
  .rfl
  .rfl
 generalize m: [AV.int .i64 (ct g i).jk,jr (ct g i).jl,jr (ct g i).jj,xa,xw,xp]=cells at h2;refine aX (Q:=fun o A' X=>o= .normal/\aUL I gb V.nx g T cells i K 0 A' X) (aJ (bL (aUL I gb V.nx g T cells i K) ?_ K _ _ ⟨rfl,aV,h2,0,pv,cs,au,?_,af,ag⟩)) ?_;rotate_left
 .show XwH I Y gb pv cs (nF g T i++ []) i _;rw[Bs];exact f.step b' (af) (af) (af)
 .rintro o ⟨F,inr⟩ X ⟨rfl,rfl,_,_,q,pv,cs,ab,C,_⟩;simp only at C;obtain rfl:q=K:=by omega
  refine ae ?_
  apply aF;simp only[↓sU,sD,rE,↓reduceIte,rA,C.t6,w0];refine⟨k - 1,au,rfl,i+1,pv,cs,au,?_⟩;rw[e1];exact XwH.mk C.jo C.gr C.rw (by simp only[↓sU,sD,rE,↓reduceIte,rA,C.t1]) (by simp only[↓sU,sD,rE,↓reduceIte,rA,C.t5]) (af)
 rintro k2 ⟨F,inr⟩ X ⟨rfl,n,u,q,pv,cs,ab,f,t7,t8⟩;simp only at f t7 t8;rw[<-m] at u;have y:=W.jo f.jo;apply fZ;simp only[↓sU,sD,rE,↓reduceIte,rA,t7,t8,dD u,fF u,y.len,Ag];by_cases bw:q<K;rotate_left
 .obtain rfl:q=K:=by omega
  have dF:∀c:AV,c= .bool false->True:=fun _ _=>trivial;by_cases J:(ct g i).jk=1
  .rw[if_pos J] at hK;simp only[↓sU,sD,rE,↓reduceIte,rA,Aa (show ¬ (q:Int)<(((ct g i).ji.length:Nat):Int) by omega)];refine aK (af) (bH ?_);refine ae ?_;obtain rfl:k2=0:=by omega
   exact⟨rfl,n,by rw[<-m];exact u,q,pv,cs,ab,f.step (dy _) (af) (af) (af),ah t7,ah t8⟩
  .by_cases eb:q<(ct g i).ji.length
   .simp only[↓sU,sD,rE,↓reduceIte,rA,Ac (show(q:Int)<(((ct g i).ji.length:Nat):Int) by omega),Aa J];refine aK (af) (bH ?_);refine ae ?_;obtain rfl:k2=0:=by omega
    exact⟨rfl,n,by rw[<-m];exact u,q,pv,cs,ab,f.step (dy _) (af) (af) (af),ah t7,ah t8⟩
   .simp only[↓sU,sD,rE,↓reduceIte,rA,Aa (show ¬ (q:Int)<(((ct g i).ji.length:Nat):Int) by omega)];refine aK (af) (bH ?_);refine ae ?_;obtain rfl:k2=0:=by omega
    exact⟨rfl,n,by rw[<-m];exact u,q,pv,cs,ab,f.step (dy _) (af) (af) (af),ah t7,ah t8⟩
 have J:(ct g i).jk=1:=by
  by_cases h:(ct g i).jk=1
  .exact h
  .rw[if_neg h] at hK;omega
 rw[if_pos J] at hK;subst hK;simp only[↓sU,sD,rE,↓reduceIte,rA,Ac (show(q:Int)<(((ct g i).ji.length:Nat):Int) by omega),Ac J];refine aM (af) (aG ?_);try refine ae ?_
 have ed:=G.wts i B J;have w1:=du q
 refine aB (aJ (aB (aF ?_)));simp only[↓sU,sD,rE,↓reduceIte,rA,t8,w1];have e2:sF g T i (q+1)=sF g T i q++oL g T i q (ct g i).ji.length:=rfl;refine aX (Q:=fun o A' Z=>o= .normal/\aRW I gb V.nx g T cells i q 0 A' Z) (aJ (bL (aRW I gb V.nx g T cells i q) ?_ ((ct g i).ji.length - (q+1)) _ _ ⟨rfl,n,by rw[<-m];exact u,q+1,pv,cs,au,au,?_,ah t7,ah t8,ag⟩)) ?_;rotate_left
 .rw[aGd (Af _),Bs];exact f.step (dy _) (af) (af) (af)
 .rintro o ⟨F,inr⟩ Z ⟨rfl,rfl,bz,hZ,j,pv,cs,ca,_,cc,t7,t8,_⟩;simp only at cc t7 t8;obtain rfl:j=(ct g i).ji.length:=by omega
  refine ae ?_
  apply aF;simp only[↓sU,sD,rE,↓reduceIte,rA,t8,w1];refine⟨k2 - 1,au,rfl,bz,hZ,q+1,pv,cs,au,?_,ah t7,af⟩;rw[e2];exact cc.step (dy _) (af) (af) (af)
 rintro k3 ⟨F,inr⟩ X ⟨rfl,n,u,j,pv,cs,ca,bC,f,t7,t8,t9⟩;simp only at f t7 t8 t9;rw[<-m] at u;have y:=W.jo f.jo;apply fZ;simp only[↓sU,sD,rE,↓reduceIte,rA,t7,t9,dD u,y.len,Ag];by_cases aZ:j<(ct g i).ji.length;rotate_left
 .refine aK (by simp only[↓sU,sD,rE,↓reduceIte,rA,Aa (show ¬ (j:Int)<(((ct g i).ji.length:Nat):Int) by omega)]) (bH ?_);refine ae ?_;obtain rfl:k3=0:=by omega
  exact⟨rfl,n,by rw[<-m];exact u,j,pv,cs,ca,bC,f.step (dy _) (af) (af) (af),ah t7,ah t8,ah t9⟩
 refine aM (by simp only[↓sU,sD,rE,↓reduceIte,rA,Ac (show(j:Int)<(((ct g i).ji.length:Nat):Int) by omega)]) (aG ?_);try refine ae ?_
 have w2:=du j
 have P:=aPb G hT R B bC aZ;obtain⟨c1,c2⟩:=G.kids i B q bw;obtain⟨d1,d2⟩:=G.kids i B j aZ;obtain⟨pP,c3,cf,ch,c4⟩:=P;have p:aOS g T i q j↔(ct g i).jm.getD q 0=(ct g i).jm.getD j 0/\aKs g T ((ct g i).ji.getD q 0).toNat ((ct g i).ji.getD j 0).toNat/\iQ g (swL g.ce.length ((ct g i).ji.getD q 0).toNat ((ct g i).ji.getD j 0).toNat (dR T ((ct g i).ji.getD q 0).toNat)):=Iff.rfl;have cl:=fun h=>aOD (g:=g) (T:=T) (i:=i) bC h;have cm:=fun h=>aMt (g:=g) (T:=T) (i:=i) (k:=q) (j:=j) h;obtain⟨ck,bI⟩:∃ck:Nat,(ct g i).ji.getD q 0=(ck:Int):=⟨_,(Cl au).symm⟩;obtain⟨w,bM⟩:∃w:Nat,(ct g i).ji.getD j 0=(w:Int):=⟨_,(Cl au).symm⟩;obtain⟨ba,oa,c5,c6,cn⟩:=bN.ptr y bw;rw[bI] at cn;simp only[bI,bM,Am] at pP c3 cf ch c4 p cl;have cq:=bN.self bv;have cr:=bN.self W;have nX:=f.jo.1;have N:gb<X.nx:=by omega
 have gX:=(f.jo.2 _ b3).trans g2;have ac:∀ (F':Fr) (Y:St),¬aOS g T i q j->jq X Y->aA 1 F'= .ptr gb 0->aA 5 F'=pv->aA 6 F'=jr (i:Int)->aA 7 F'= .ptr V.nx 0->aA 8 F'=jr (q:Int)->aA 9 F'=jr ((j+1:Nat):Int)->∃k',k'<k3/\aRW I gb V.nx g T cells i q k' ⟨F',false⟩ Y:=fun F' Y bP hs a1 a5 a6 a7 a8 a9=>
  ⟨k3 - 1,au,rfl,Ae n hs.1,by rw[<-m];exact(hs.2 _ n).trans u,j+1,pv,cs,au,au,by rw[cm bP];exact f.step hs (by rw[a1,f.t1]) (by rw[a5,f.t5]) (by rw[a6,f.t6]),a7,a8,a9⟩
 have l3:=gE gX;refine aB (aJ (aB (iN (fun _=>False) ?_)));intro X1 x1;simp only[↓sU,sD,rE,↓reduceIte,rA,t7,t8,f.t1,l3,N,Ap,b2,dD u,n,c5,c6,cn,cr,dO];refine dT rfl ?_;refine ae ?_;have cv:=f.jo.trans x1;refine aW (aC4 (i:=ck) H h0 hT R b0 g.ce.length au au  (aE.jo (E:=bT) bF U cv) (aE.jo (E:=cC) bQ bp cv)) ?_;rintro _ Y ⟨rfl,hY⟩;refine⟨hY,?_⟩;have D:=x1.trans hY;try refine ae ?_
 have a0:=f.jo.trans D;have bR:=(D.2 _ n).trans u;have aV:=Ae n D.1;have gY:=(D.2 _ N).trans gX;have c7:=Ae N D.1;have c':=gE gY;have cw:=W.jo a0;obtain⟨bq,oq,iq,lq,dq⟩:=bN.ptr (bv.jo a0) (show q<(ct g i).jm.length by omega);obtain⟨bj,oj,ij,lj,dj⟩:=bN.ptr (bv.jo a0) (show j<(ct g i).jm.length by omega);obtain⟨bb,ob,da,dc,cx⟩:=bN.ptr cw aZ;rw[bM] at cx;refine aB (aB (iN (fun _=>False) ?_));intro X2 x2;by_cases bd:(ct g i).jm.getD q 0=(ct g i).jm.getD j 0;rotate_left
 .simp only[↓sU,sD,rE,↓reduceIte,rA,t7,t8,t9,Ap,dW bR,cq,aV,iq,lq,dq,ij,lj,dj,dO,Ac (show(ct g i).jm.getD q 0≠(ct g i).jm.getD j 0 from bd)];refine aM (af) (bH ?_);refine ae ?_;apply aF;simp only[↓sU,sD,rE,↓reduceIte,rA,t9,w2];exact ac _ _ (fun h=>bd (p.1 h).1) (D.trans x2) (by simp only[↓sU,sD,rE,↓reduceIte,rA,f.t1]) (by simp only[↓sU,sD,rE,↓reduceIte,rA,f.t5]) (by simp only[↓sU,sD,rE,↓reduceIte,rA,f.t6]) (ah t7) (ah t8) (af)
 simp only[↓sU,sD,rE,↓reduceIte,rA,t7,t8,t9,f.t1,c',c7,b2,Ap,dD bR,dW bR,cq,cr,aV,iq,lq,dq,ij,lj,dj,da,dc,cx,dO,Aa (show ¬ (ct g i).jm.getD q 0≠(ct g i).jm.getD j 0 from fun h=>h bd)];refine dT rfl ?_;refine ae ?_;have cy:=a0.trans x2;refine aW (aC4 (i:=w) H h0 hT R b0 g.ce.length au au  (aE.jo (E:=bT) bF U cy) (aE.jo (E:=cC) bQ bp cy)) ?_;rintro _ Z ⟨rfl,hZ⟩;refine⟨hZ,?_⟩;have A:=(D.trans x2).trans hZ;refine ae ?_
 by_cases bU:dR T ck=dR T w;rotate_left
 .refine aM (by simp only[↓sU,sD,rE,↓reduceIte,rA,Ac (show((dR T ck:Nat):Int)≠((dR T w:Nat):Int) by omega)]) (bH ?_);refine ae ?_;apply aF;simp only[↓sU,sD,rE,↓reduceIte,rA,t9,w2];exact ac _ _ (fun h=>bU (p.1 h).2.1.1) A (by simp only[↓sU,sD,rE,↓reduceIte,rA,f.t1]) (by simp only[↓sU,sD,rE,↓reduceIte,rA,f.t5]) (by simp only[↓sU,sD,rE,↓reduceIte,rA,f.t6]) (ah t7) (ah t8) (af)
 refine aK (by simp only[↓sU,sD,rE,↓reduceIte,rA,Aa (show ¬ ((dR T ck:Nat):Int)≠((dR T w:Nat):Int) by omega)]) (aG ?_);try refine ae ?_
 have be:w+dR T ck<=g.ce.length:=by rw[bU];exact ch
 have gZ:=(A.2 _ N).trans gX;have ee:=Ae N A.1;have dd:=(A.2 _ n).trans u;have bz:=Ae n A.1;apply bS;simp only[↓sU,sD,rE,↓reduceIte,rA,f.t1,fN gZ,b1,Ag];refine bJ (ae ?_);refine aW (aD7 H au) ?_;rintro _ Z2 ⟨⟨rb,rfl,r1,r2,r3⟩,z2⟩;try refine ae ?_
 have r1:Z.nx<=rb:=r1;have bV:(idL g.ce.length).length=g.ce.length:=by unfold idL;rw[Av,Cn]
 rw[bV];refine fZ (ae ?_);refine aX (aQe (S0:=Z) (W.jo (f.jo.trans A)) bw aZ bI bM pP be au dd bz r1 z2 r2 r3 rfl rfl rfl (ah t7) (ah t8) (ah t9) (af) (af) (ag)) ?_;rintro o ⟨F2,inr⟩ Z3 ⟨rfl,rfl,z3,df,t,l,eg,hl,hf,dg,p1,p5,p6,p7,p8,p9,di,bW,dm⟩;simp only at p1 p5 p6 p7 p8 p9 di bW dm;obtain rfl:t=dR T ck:=by omega
 obtain rfl:l=swL g.ce.length ck w (dR T ck):=aFQ hl hf;try simp only[↓sU,sD,rE,↓reduceIte,rA,f.t1,f.t5,f.t6] at p1 p5 p6
 refine ae ?_
 have M:=aLm (g:=g) pP be;have an:=A.trans z3;have dn:=(an.2 _ N).trans gX;have ao:oM Z Z3 (.sl rb 0 g.ce.length g.ce.length false) (swL g.ce.length ck w (dR T ck)):=⟨rb,by rw[M.len],r1,df,dg⟩;have aw:=f.jo.trans an;apply bS;simp only[↓aD,aC,rE,↓reduceIte,rA,p1,bW,gE dn];refine bJ (am ?_);refine aW (aC3 (ok:=iQ g (swL g.ce.length ck w (dR T ck))) H (aE.jo (E:=bT) bF U aw) ao.is au (fun h1 h2 _ S' bY=>aW (yY H (aE.jo (E:=bT) bF U (aw.trans bY)) (aE.jo (E:=cC) bQ bp (aw.trans bY)) (ao.is.jo bY) G ⟨h1,h2⟩) fun r eh h=>by
  obtain⟨e1,a,b,t,e2,e3,_⟩:=h;exact⟨e1,a,b,t,e2,e3⟩)) ?_
 rintro _ Y5 ⟨rfl,y5⟩;refine ae ?_;have aI:=an.trans y5;by_cases hA:iQ g (swL g.ce.length ck w (dR T ck));rotate_left
 .have bZ:jT g.ce.length (swL g.ce.length ck w (dR T ck)) (iQ g (swL g.ce.length ck w (dR T ck)))≠0:=fun h=>hA (rV h).A;refine aK (by simp only[↓sU,sD,rE,↓reduceIte,rA,Aa bZ]) (aG ?_);try refine ae ?_
  apply aF;simp only[↓sU,sD,rE,↓reduceIte,rA,p9,w2];exact ac _ _ (fun h=>hA (p.1 h).2.2) aI (ah p1) (ah p5) (ah p6) (ah p7) (ah p8) (af)
 have bZ:jT g.ce.length (swL g.ce.length ck w (dR T ck)) (iQ g (swL g.ce.length ck w (dR T ck)))=0:=(aHT pP be hA).1.e;have dp:=p.2 ⟨bd,aJC h0 hT R pP be bU hA,hA⟩;have hJ:=cl dp;refine aM (by simp only[↓sU,sD,rE,↓reduceIte,rA,Ac bZ]) ?_;have bm:bN .i64 Y5 (.sl rb 0 g.ce.length g.ce.length false) (swL g.ce.length ck w (dR T ck)):=ao.is.jo y5;have dr:=fun(F:Fr) (id:Nat) (h:aA 126 F= .sl rb 0 g.ce.length g.ce.length false)=>aBD (t:=31) (z:=.cr) (x:=.t 126) (F:=F) (id:=id) bm h;apply aF;simp only[↓aD,aC,rE,↓reduceIte,rA,p5,bW];refine fQ (dr _ _ (aq)) ?_;intro Y6 y6 n6 g6;try refine am ?_
 have dt:∀ {c},aN pv=some c->I.nx<=c:=fun s=>(f.gr.blk s).1;have ei:=aI.1;have dv:fC 1 I Y6 pv (nF g T i++(sF g T i q++oL g T i q j)).length cs:=(f.gr.step aI).step y6;have dM:(nF g T i++(sF g T i q++oL g T i q j)).length+1<=3000000000:=by
  have a1:=aFU (T:=T) G (Nat.le_of_lt B);have a2:=aCf (g:=g) (T:=T) (i:=i) (k:=q);have a3:=aCi (g:=g) (T:=T) (i:=i) (k:=q) (j:=j);have a4:q * (ct g i).ji.length<=1000 * 1000:=Dx au c0;rw[Ai,Ai];omega
 obtain⟨pv',V9,eA,gA,bA,nA,rA⟩:=fC.push1 (bytes:=24) (x:=.sl rb 0 g.ce.length g.ce.length false) dv ((f.jo.trans aI).trans y6) g6 ay ay;refine eK (v:=pv') (S1:=V9) (fun call=>by simp only[↓aD,aC,rE,↓reduceIte,rA,fB];exact eA) ?_;refine ae ?_;apply aF;simp only[↓sU,sD,rE,↓reduceIte,rA,p9,w2];have ej:=y6.1;have cz:∀ {c},aN pv'=some c->c=Y6.nx:=fun s=>by rw[bA] at s;exact(Bk s).symm
 have dw:aN pv≠some V.nx:=fun e=>aKO u (f.gr.blk e).2.2 rfl;have kZ:∀c,c<X.nx->aN pv≠some c->V9.h.get c=X.h.get c:=fun c s bP=>by
  rw[rA c au bP,y6.2 c au];exact aI.2 c s
 have ek:=A.1;have en:=z3.1;have eo:=y5.1;have hR:=f.rw.push (Z:=V9) (pv':=pv') (r:=.sl rb 0 g.ce.length g.ce.length false) (l:=swL g.ce.length ck w (dR T ck)) nX au (fun c a _ d=>kZ c a d) (eH (bm.jo y6) au fun c s=>by
  cases s;exact rA _ au fun e=>by have:=(f.gr.blk e).2.1;omega) (fun c s=>by
  cases s;exact⟨au,fun e=>by have:=cz e;omega⟩) (fun c s=>by have:=cz s;omega)
 refine⟨k3 - 1,au,rfl,au,by rw[<-m];exact(kZ _ n dw).trans u,j+1,pv',cs++ [.sl rb 0 g.ce.length g.ce.length false],au,au,?_,ah p7,ah p8,af⟩;have eL:nF g T i++(sF g T i q++oL g T i q (j+1))=(nF g T i++(sF g T i q++oL g T i q j))++ [swL g.ce.length ck w (dR T ck)]:=by
  rw[hJ,Bg,Bg]
 rw[eL];refine XwH.mk ⟨au,fun c s=>(kZ c au (fun e=>by have:=dt e;omega)).trans (f.jo.2 c s)⟩ ?_ hR (ah p1) (af) (ah p6);rw[Ai,Ax];exact gA
end Go.Ev.Gl
