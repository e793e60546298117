import Derived.Test.YtbmodoaceepfoaaGl25
set_option linter.all false
open Nat renaming reduceEqDiff -> rE, reduceAdd -> rA
set_option maxHeartbeats 0
namespace Go.Ev.Gl
theorem aGE:∀ {l m:bu},l.Pairwise (· < ·)->m.Pairwise (· < ·)->(∀x∈l,x∈m)->l.length<=m.length/\(l.length=m.length->l=m)
 | [],m,_,_,_=>⟨Ck _,fun h=>(Bo.1 h.symm).symm⟩
 | x::l,[],_,_,h=>by have:=h x (Bk ..);cases this
 | x::l,y::m,c,i,h=>by
  have⟨d,j⟩:=Ei.1 c;have⟨m1,f⟩:=Ei.1 i;by_cases e:x=y
  .subst e;have⟨k,n⟩:=aGE j f fun z b=>by
    rcases Bp.1 (h z (Bf _ b)) with e|e
    .have:=d z b;omega
    .exact e
   simp only[Ax];exact⟨au,fun e=>by rw[n au]⟩
  .have o:x∈m:=by
    rcases Bp.1 (h x (Bk ..)) with a|a
    .exact absurd a e
    .exact a
   have p:=m1 x o;have⟨k,_⟩:=aGE c f fun z b=>by
    rcases Bp.1 (h z b) with a|a
    .rcases Bp.1 b with g|g
     .omega
     .have:=d z g;omega
    .exact a
   simp only[Ax] at *;exact⟨au,fun e=>au⟩
end Go.Ev.Gl
namespace Go.Ev.Gl
variable {r:Nat}
structure NZ(r:Nat)(L:List cS):Prop where
 nest:∀ (j q:Nat) (t u:cS),L[j]? =some t->L[q]? =some u->j<=q->((r+q:Nat):Int)<=t.2.2->u.2.2<=t.2.2
 par:∀ (j q:Nat) (t u:cS),L[j]? =some t->L[q]? =some u->u.1=((r+j:Nat):Int)->((r+q:Nat):Int)<=t.2.2
def NZ.nil:NZ r []:=⟨fun j q t u h=>by simp at h,fun j q t u h=>by simp at h⟩
def NZ.app{p:Int}{L M:List cS}(n:p<(r:Int))(g:KZ r p L)(m:KZ (r+L.length) p M)(h:NZ r L)(i:NZ (r+L.length) M):NZ r (L++M):=by
 refine⟨fun j q t u d c f k=>?_,fun j q t u d c l=>?_⟩
 .by_cases a:j<L.length
  .rw[Ao a] at d;have o:=(g.sz j t d).2;rw[Ao au] at c;exact h.nest j q t u d c f k
  .rw[Ap au] at d c;exact i.nest _ _ t u d c au (by rw[show r+L.length+(q - L.length)=r+q by omega];exact k)
 .by_cases a:j<L.length
  .rw[Ao a] at d;by_cases b:q<L.length
   .rw[Ao b] at c;exact h.par j q t u d c l
   .rw[Ap au] at c;rcases m.par u (Ar c) with e|e
    .omega
    .omega
  .by_cases b:q<L.length
   .rw[Ao b] at c;rcases g.par u (Ar c) with e|e
    .omega
    .omega
   .rw[Ap au] at d c;have:=i.par _ _ t u d c (by rw[show r+L.length+(j - L.length)=r+j by omega];exact l)
    rwa [show r+L.length+(q - L.length)=r+q by omega] at this
theorem aKN{rec:Nat->Option (List cS)}{p:Int}(d:∀ (r:Nat) (L:List cS),p<(r:Int)->rec r=some L->KZ r p L/\NZ r L):∀ {l:bu} {r:Nat} {L:List cS},p<(r:Int)->fR rec l r=some L->NZ r L
 | [],r,L,_,h=>by
  have h:some []=some L:=h;cases h;exact NZ.nil
 | c::l,r,L,f,h=>by
  simp only[fR] at h;split at h
  .have⟨g,i,k⟩:=Cu.1 h;obtain⟨n,j,rfl⟩:=Bb.1 k;have m:=aDw (fun r L a b=>(d r L a b).1) (au:p<((r+g.length:Nat):Int)) j;exact NZ.app f (d r g f i).1 m (d r g f i).2 (aKN d au j)
  .cases h
theorem aKM{N:Nat}{nx:Nat->bu}:∀ {f at_:Nat} {p d:Int} {T:List cS},p<(at_:Int)->fB N nx f at_ p d=some T->NZ at_ T
 | 0,_,_,_,_,_,h=>by cases h
 | f+1,at_,p,d,T,m,h=>by
  have K:=mN m h;simp only[fB] at h;split at h
  .obtain⟨L,l,rfl⟩:=Bb.1 h;have k:=aDw (p:=(at_:Int)) (fun r L a g=>mN a g) au l;have n:=aKN (p:=(at_:Int)) (fun r L a g=>⟨mN a g,aKM a g⟩) au l;refine⟨fun j q t u c b o a=>?_,fun j q t u c b i=>?_⟩
   .cases j with
    | zero=>
     cases c;have:=(K.sz q u b).2;rw[Ax] at this;show u.2.2<=((at_+L.length:Nat):Int);omega
    | succ j=>
     obtain⟨q,rfl⟩:∃s,q=s+1:=⟨q - 1,au⟩;exact n.nest j q t u c b au (by rw[show at_+1+q=at_+(q+1) by omega];exact a)
   .cases j with
    | zero=>
     cases c;have:=(Ai.1 b).1;rw[Ax] at this;show((at_+q:Nat):Int)<=((at_+L.length:Nat):Int);omega
    | succ j=>
     cases q with
     | zero=>
      cases b;have i:p=((at_+(j+1):Nat):Int):=i;omega
     | succ q=>
      have:=n.par j q t u c b (by rw[show at_+1+j=at_+(j+1) by omega];exact i)
      rwa [show at_+1+q=at_+(q+1) by omega] at this
  .cases h
def aO7{g:aX}{T:List cS}(q:gP g=some T)(w:T.length=g.cg.length){a i:Nat}(x:a<g.cg.length)(hi:a<=i/\i<a+eJ T a)(r:i<g.cg.length){c:Int}(s:c∈(cu g i).next):(i:Int)<c/\c<((a+eJ T a:Nat):Int):=by
 have k:fB g.cg.length (dN g) (g.cg.length+1) 0 (-1) 0=some T:=q;have K:=mN az k;have n:=aKM az k;have t:=jU k;have l:dN g (0+i)=(cu g i).next:=by rw[Am];exact gR g i
 have⟨y,z,m⟩:=t.cf i au c (by rw[l];exact s);have last:∀j (o:j<T.length),T[j].2.2=((j+eJ T j - 1:Nat):Int)/\1<=eJ T j:=fun j o=>by
  have u:=K.sz j T[j] (Ab o);have A:=qC K o;rw[Am] at u;omega
 have f:c.toNat<T.length:=by omega
 have h:T[c.toNat].1=((0+i:Nat):Int):=by
  unfold jY at m;rw[Es,Ab f] at m;exact Bh m
 have b:i<T.length:=by omega
 have d:a<T.length:=by omega
 have v:=n.par i c.toNat _ _ (Ab b) (Ab f) h;have p:=n.nest a i _ _ (Ab d) (Ab b) hi.1 (by rw[(last a d).1];omega);rw[(last i b).1] at v p;rw[(last a d).1] at p;have:=(last a d).2;have:=(last i b).2;omega
end Go.Ev.Gl
namespace Go.Ev.Gl
variable {g:aX}{i b n:Nat}{S X:St}{nv iv:AV}{F:Fr}
def aKO(h:dC g=0)(hi:i<g.cg.length)(c:(cu g i).kind≠1):(cu g i).weights= []:=by
 have G:=uU h;have a:gQ g.cm g.ch.length (cu g i)=0:=by
  unfold dC at h;split at h
  .cases h
  split at h
  .rename_i f;exact absurd h f
  rename_i j;exact jF (Dx.1 j) _ (Ar (dI hi))
 have k:(cu g i).weights.length=0:=by
  rcases G.knd i hi with b|b|b
  .exact absurd b c
  .unfold gQ at a;rw[if_neg au,if_pos b] at a;split at a
   .cases a
   .rename_i d;unfold vD at d;omega
  .unfold gQ at a;rw[if_neg au,if_neg au,if_pos b] at a;split at a
   .cases a
   .rename_i d;unfold oM at d;omega
 exact Bo.1 k
def aIT{l:bu}{p:Nat}{x:Int}(h:p<l.length)(e:l.getD p 0=x):x∈l:=by
 rw[<-e,Ad,Ab h];exact Bt h
def aJc{T:List cS}{a:Nat}(q:dC g=0)(B:gP g=some T)(I:T.length=g.cg.length)(J:a+eJ T a<=b)(K:b+eJ T a<=g.cg.length)(r:eJ T a=eJ T b)(s:jD g (swL g.cg.length a b (eJ T a))):aKa g T a b:=by
 have G:=iN q;have M:fB g.cg.length (dN g) (g.cg.length+1) 0 (-1) 0=some T:=B;have W:=jU M;have u:∀i,dN g (0+i)=(cu g i).next:=fun i=>by rw[Am];exact gR g i
 have f:∀i,i<g.cg.length->(cu g i).next.Pairwise (· < ·):=fun i hi=>by
  have:=W.inc i au
  rwa [u] at this
 refine⟨r,fun t R=>?_⟩;have hi:a+t<g.cg.length:=by omega
 have n:b+t<g.cg.length:=by omega
 have o:gE (swL g.cg.length a b (eJ T a)) (a+t)=b+t:=by
  rw[aJC hi];unfold swF;rw[if_pos au];omega
 have⟨p,v,C,D⟩:=s.like (a+t) hi;rw[o] at p v C D;have E:∀k,k<(cu g (a+t)).next.length->(swL g.cg.length a b (eJ T a)).getD ((cu g (a+t)).next.getD k 0).toNat 0=(cu g (a+t)).next.getD k 0 - (a:Int)+(b:Int):=fun k d=>by
  have w:(cu g (a+t)).next.getD k 0∈(cu g (a+t)).next:=by
   rw[Ad,Ab d];exact Bt d
  have:=aO7 B I (a:=a) (i:=a+t) au au  hi w;unfold swL;rw[uJ au];unfold swF;rw[if_pos au];omega
 have m:∀k,k<(cu g (a+t)).next.length->0<=lM (cu g (b+t)).next 0 ((cu g (a+t)).next.getD k 0 - (a:Int)+(b:Int)):=fun k d=>by
  have:=s.kid (a+t) k hi d;unfold jZ at this
  rwa [o,E k d] at this
 have e:(cu g (a+t)).next.map (fun c=>c - (a:Int)+(b:Int))=(cu g (b+t)).next:=by
  refine(aGE ?_ (f _ n) fun x N=>?_).2 (by rw[Al];exact v)
  .exact List.pairwise_map.2 ((f _ hi).imp fun h=>au)
  .obtain⟨c,y,rfl⟩:=Cq.1 N;obtain⟨k,d,rfl⟩:=Cp y;have⟨O,P⟩:=aF9 (m k d);have F:=aIT O P;rw[Ad,Ab d] at F;exact F
 have z:∀k,k<(cu g (a+t)).next.length->(cu g (b+t)).next.getD k 0=(cu g (a+t)).next.getD k 0 - (a:Int)+(b:Int):=fun k d=>by
  rw[<-e,Ad,Az,Ad,Ab d];rfl
 refine⟨p,D,C,?_,v,fun k d=>by rw[z k d];omega⟩;by_cases j:(cu g (a+t)).kind=1
 .have S:=G.wts _ hi j;have U:=G.wts _ n (by rw[<-p];exact j);refine pT au fun k d=>?_;have:=s.weigh (a+t) k hi au j;rw[o] at this;rw[this];congr 1;unfold jZ;rw[o,E k au];have Q:lM (cu g (b+t)).next 0 ((cu g (a+t)).next.getD k 0 - (a:Int)+(b:Int))=(k:Int):=by
   refine aK6 au (z k au) fun k' l H=>?_;have A:=f _ n;rw[Fb] at A;rw[<-z k au,Ad,Ab l,Ad,Ab (au:k<_)] at H;simp only[Eb] at H;rcases Dw k' k with h|h|h
   .have:=A k' k l au h;omega
   .exact h
   .have:=A k k' au l h;omega
  rw[Q];exact Ay k
 .rw[aKO q hi j,aKO q n (by rw[<-p];exact j)]
variable {fns:T eY}
def aEa(H:Has fns)(A:n<=100000):iI fns (.fn 46 [] []) [je (n:Int)] S fun r S'=>tC S S' r (idL n)/\Same S S':=by
 refine cK H.f46 (by simp) ?_;refine am ?_;refine cA (am ?_);refine cA (am ?_);refine fW (pU (n:=n) (iz @aJ) (iz @aJ) ay ay) ?_;intro S1 s1 B w;rw[wH] at w;refine am ?_;refine aD (bB (Q:=fun o x X=>o= .normal/\aKr S S.nx n (fun j=>(j:Int)) (fun F i=>aC 0 F=je (n:Int)/\aC 3 F= .sl S.nx 0 n n false/\aC 4 F=je (i:Int)) 0 x X) (aD (aL ?_)) ?_)
 .refine am ?_;refine aO (bX (aKr S S.nx n (fun j=>(j:Int)) (fun F i=>aC 0 F=je (n:Int)/\aC 3 F= .sl S.nx 0 n n false/\aC 4 F=je (i:Int))) ?_ n _ _ ⟨rfl,s1,au,0,_,au,Aq ..,fun j y=>au,w,aq,aq,by simp only[↓aF,aE,rE,↓reduceIte,rA];try rfl⟩);rintro k ⟨F,inr⟩ X ⟨g,p,q,i,l,h,a,s,t,m,c,f⟩;simp only at g m c f;subst g;refine gH (fo m f ?_);by_cases d:i<n
  .refine aS io (aK ?_);refine am ?_
   have z:=ed i
   have u:=fQ (b:=S.nx) (o:=false) d;refine aD (aO (aL ?_));refine fu c f @aJ u ?_;refine fN (fun call=>by refine fo @dL @dD ?_;exact yI (S:=X) t (by rw[a];exact d)) ?_;refine am ?_;refine aL (fo f z ?_);refine⟨k - 1,au,rfl,p.put (Af _) _,q,i+1,l.set i (i:Int),au,by rw[Aw];exact a,fun j y=>?_,jd,by refine⟨?_,?_,?_⟩<;>simp only[↓aF,aE,rE,↓reduceIte,rA,m,c]⟩;rw[iE (by rw[a];exact d)];split
   .rename_i e;rw[e]
   .exact s j au
  .refine aQ io (bT ?_);refine am ?_;have v:k=0:=by omega
   subst v;exact⟨rfl,p,q,i,l,h,a,s,t,by refine⟨?_,?_,?_⟩<;>simp only[↓aF,aE,rE,↓reduceIte,rA,m,c,f]⟩
 rintro o ⟨F,inr⟩ X ⟨rfl,g,p,q,i,l,h,a,s,t,m,c,f⟩;simp only at g c;subst g;obtain rfl:i=n:=by omega
 obtain rfl:l=idL i:=aFO a s;refine am ?_
 refine cA (fl c ?_);refine aT (am ?_);exact⟨⟨S.nx,by rw[a],Af _,q,t⟩,p⟩
theorem aG2{i:Int}:∀ {L:List cS} {T:List cS} {a:Nat},T.drop a=L->∀ (l:ce),l.Pairwise (· < ·)->(∀x∈l,a<=x/\∃t,T[x]? =some t/\t.1=i)->(∀x t,a<=x->T[x]? =some t->t.1=i->x∈l)->(l.map (eJ T)).sum=oN i L a
 | [],T,a,o,l,_,k,_=>by
  cases l with
  | nil=>rfl
  | cons x l=>
   have⟨w,t,p,_⟩:=k x (Bk ..);have:=(Ai.1 p).1;have m:=congrArg List.length o;rw[Dd] at m;simp only[Cb] at m;omega
 | t::L,T,a,o,l,z,k,b=>by
  have f:a<T.length:=by
   have m:=congrArg List.length o;rw[Dd,Ax] at m;omega
  have e:=Bz f;rw[o] at e;injection e with B A;have q:T[a]? =some t:=by rw[Ab f,B]
  show _=(if t.1=i then(t.2.2+1 - (a:Int)).toNat else 0)+oN i L (a+1);by_cases c:t.1=i
  .rw[if_pos c];have n:=b a t (Af _) q c;cases l with
   | nil=>cases n
   | cons x l=>
    have g:=Ei.1 z;have r:x=a:=by
     have w:=(k x (Bk ..)).1;rcases Bp.1 n with h|h
     .exact h.symm
     .have:=g.1 a h;omega
    subst r;have C:=aG2 (i:=i) (T:=T) (a:=x+1) (L:=L) A.symm l g.2 (fun y d=>⟨g.1 y d,(k y (Bf _ d)).2⟩) fun y u d s j=>by
     rcases Bp.1 (b y u au s j) with h|h
     .omega
     .exact h
    have D:eJ T x=(t.2.2+1 - (x:Int)).toNat:=by unfold eJ;rw[q]
    rw[Dg,En,C,D]
  .rw[if_neg c,Am];have v:∀y∈l,a+1<=y:=fun y d=>by
    have⟨w,u,p,m⟩:=k y d;rcases De a y with h|h
    .exact h
    .obtain rfl:y=a:=by omega
     rw[q] at p;cases p;exact absurd m c
   exact aG2 (i:=i) (T:=T) (a:=a+1) (L:=L) A.symm l z (fun y d=>⟨v y d,(k y d).2⟩) fun y u d s j=>b y u au s j
def size_eq{T:List cS}(u:gP g=some T)(B:T.length=g.cg.length)(hi:i<g.cg.length):eJ T i=1+(((cu g i).next.map Int.toNat).map (eJ T)).sum:=by
 have s:fB g.cg.length (dN g) (g.cg.length+1) 0 (-1) 0=some T:=u;have k:=mN az s;have m:=jU s;have f:∀i,dN g (0+i)=(cu g i).next:=fun i=>by rw[Am];exact gR g i
 have⟨v,_⟩:=qC k (au:i<T.length);have d:=m.inc i au;rw[f] at d;have c:=m.cf i au;rw[f] at c;have p:((cu g i).next.map Int.toNat).Pairwise (· < ·):=by
  rw[List.pairwise_map];refine List.Pairwise.imp_of_mem (fun {a b} w z h=>?_) d;have:=c a w;have:=c b z;omega
 rw[v];congr 1;refine(aG2 (i:=(i:Int)) (T:=T) (a:=0) (L:=T) rfl _ p (fun x n=>?_) fun x t _ n C=>?_).symm
 .obtain⟨y,A,rfl⟩:=Cq.1 n;have⟨_,o,j⟩:=c y A;refine⟨Ck _,?_⟩;unfold jY at j;rw[Es,Bb] at j;have⟨t,a,b⟩:=j;exact⟨t,a,by rw[b];omega⟩
 .have r:=(Ai.1 n).1;have l:jY T x=some t.1:=by unfold jY;rw[n];rfl
  rcases Ci x with h|h
  .subst h;have:=m.root;rw[l] at this;injection this with this;omega
  .have⟨q,D,o,j⟩:=m.pf x h r;rw[l] at o;injection o with o;obtain rfl:q=i:=by omega
   rw[f] at j;exact Cq.2 ⟨_,j,au⟩
def aS9(S:St)(nv iv:AV)(g:aX)(T:List cS)(i:Nat)(k:Nat)(A:bO)(X:St):Prop:=A.inr=false/\Same S X/\S.nx<X.nx/\X.h.get S.nx=jf [je g.cm,nv,iv]/\∃q:Nat,q+k=(cu g i).next.length/\aC 1 A.F=je (i:Int)/\aC 2 A.F= .ptr S.nx 0/\aC 5 A.F=je ((1+(((cu g i).next.take q).map fun c=>eJ T c.toNat).sum:Nat):Int)/\aC 6 A.F=je (q:Int)
theorem aC6{T:List cS}(H:Has fns)(Z:dC g=0)(Y:gP g=some T)(D:T.length=g.cg.length)(aa:g.cg.length<=1000):∀ (m:Nat) {S:St} {i:Nat},i<g.cg.length->g.cg.length<=m+i->aG 6 cF S nv g.cg->aG 2 cE S iv g.ch->iI fns (.fn 45 [] []) [.agg [je g.cm,nv,iv],je (i:Int)] S fun r S'=>r=je ((eJ T i:Nat):Int)/\Same S S':=by
 intro m
 induction m with
 | zero=>intro S i h1 h2;omega
 | succ m ih=>
  intro S i hi hm I v;have G:=iN Z;have w:=aG.self I;have J:=aG.self v;have K:cO (.agg [je g.cm,nv,iv]) (.agg [je g.cm,nv,iv])=true:=by
   simp only[cO,kK,w,J,fO,jG,Fm,aN,Dq]
  have a:=size_eq Y D hi;rw[Fi] at a;have a:eJ T i=1+((cu g i).next.map fun c=>eJ T c.toNat).sum:=a;have ab:=(qC (mN az (show fB g.cg.length (dN g) (g.cg.length+1) 0 (-1) 0=some T from Y)) (au:i<T.length)).2.1;have x:∀q,((((cu g i).next.take q).map fun c=>eJ T c.toNat).sum)<=((cu g i).next.map fun c=>eJ T c.toNat).sum:=fun q=>by
   conv=>rhs;rw[<-Eg q (cu g i).next]
   rw[Co,List.sum_append];omega
  obtain⟨_,bx,qx,d,y,_,⟨xa,xw,xp,rfl,z,ac,an⟩,_,M⟩:=aG.at I az (dI hi);have N:=M 3 xa rfl;refine cK H.f45 (by simp) ?_;refine ae ?_;refine cA ?_;refine cR (by refine ae ?_;exact aY _) ?_;intro S1 s1 n1 g1;refine ae ?_;refine cA (ae ?_);refine aD (bB (Q:=fun o A' X=>o= .normal/\aS9 S nv iv g T i 0 A' X) (aD (aL ?_)) ?_)
  .refine ae ?_;refine aO (bX (aS9 S nv iv g T i) ?_ (cu g i).next.length _ _ ⟨rfl,s1,au,g1,0,au,af,af,ag,ag⟩);rintro k ⟨F,inr⟩ X ⟨A,b,B,p,q,C,s,t,f,u⟩;simp only at A s t f u;subst A;have j:=N;rw[<-jH b y] at j;have h:=z.same b;refine gH ?_;simp only[↓sU,sD,rE,↓reduceIte,rA,s,t,u,aB,aA,fV p,aJ,d,j,h.len,Ah];by_cases l:q<(cu g i).next.length;rotate_left
   .refine aQ im (bT ?_);refine ae ?_;obtain rfl:k=0:=by omega
    exact⟨rfl,b,B,p,q,C,by refine⟨?_,?_,?_,?_⟩<;>simp only[↓sU,sD,rE,↓reduceIte,rA,s,t,f,u]⟩
   refine aS im (aK ?_);refine ae ?_
   have ao:=G.nxt i hi;have w1:=ed q
   have⟨cb,cq,ci,O,cl⟩:=uD h l;have⟨k1,k2⟩:=G.kids i hi q l;have P:(cu g i).next.getD q 0=(((cu g i).next.getD q 0).toNat:Int):=by omega
   have R:bx<X.nx:=Ae y b.1;have U:=bN.self z;have l3:=gK p;have V:=fV p;refine aD (aO (iD (fun _=>False) ?_));intro X0 x0;simp only[↓sU,sD,rE,↓reduceIte,rA,s,t,f,u,aB,aP,aA,l3,V,B,An,K,w,aJ,d,j,R,U,ci,cl,O];refine dR rfl ?_;refine ae ?_;rw[P];refine aW (ih au au  (aG.same (E:=cF) bQ I (b.trans x0)) (aG.same (E:=cE) cB v (b.trans x0))) ?_;rintro _ X1 ⟨rfl,x1⟩;refine⟨x1,?_⟩;have aw:=x (q+1);have W:((((cu g i).next.take (q+1)).map fun c=>eJ T c.toNat).sum)=((((cu g i).next.take q).map fun c=>eJ T c.toNat).sum)+eJ T ((cu g i).next.getD q 0).toNat:=by
    rw[Bx,aFW l,Co,List.sum_append];simp
   have w2:IntKind.i64.wrap (((1+(((cu g i).next.take q).map fun c=>eJ T c.toNat).sum:Nat):Int)+((eJ T ((cu g i).next.getD q 0).toNat:Nat):Int))=((1+(((cu g i).next.take (q+1)).map fun c=>eJ T c.toNat).sum:Nat):Int):=by
    rw[wrap_i64 au au,W];omega
   simp only[↓sU,sD,rE,↓reduceIte,rA,f,w2]
   refine aL (ew u w1 ?_);have n:=x0.trans x1;exact⟨k - 1,au,rfl,b.trans n,Ae B n.1,(n.2 _ B).trans p,q+1,au,by refine⟨?_,?_,?_,?_⟩<;>simp only[↓sU,sD,rE,↓reduceIte,rA,s,t]⟩
  rintro o ⟨F,inr⟩ X ⟨rfl,A,b,B,p,q,C,s,t,f,u⟩;simp only at A f;subst A;obtain rfl:q=(cu g i).next.length:=by omega
  rw[List.take_length,<-a] at f;refine ae ?_
  refine cA (de f ?_);refine aT (ae ?_);exact b
def SwX(S0:St)(nb rb N a b n q j:Nat)(v1 c v6:AV)(k:Nat)(A:bO)(X:St):Prop:=A.inr=false/\Same S0 X/\rb<X.nx/\∃ (t:Nat) (l:bu),t+k=n/\l.length=N/\(∀j,j<N->l.getD j 0=((swF a b t j:Nat):Int))/\X.h.get rb=jf (bD l)/\aC 1 A.F=v1/\aC 5 A.F=c/\aC 6 A.F=v6/\aC 7 A.F= .ptr nb 0/\aC 8 A.F=je (q:Int)/\aC 9 A.F=je (j:Int)/\aC 10 A.F=je (n:Int)/\aC 11 A.F= .sl rb 0 N N false/\aC 12 A.F=je (t:Int)
def aPR{S0:St}{xa k0 k1 k2 k4 k5 v1 B v6:AV}{next:bu}{N a nb rb q j:Nat}(i:bN .i64 S0 xa next)(hq:q<next.length)(y:j<next.length)(ea:next.getD q 0=(a:Int))(eb:next.getD j 0=(b:Int))(aa:a+n<=b)(ab:b+n<=N)(hN:N<=100000)(C:S0.h.get nb=jf [k0,k1,k2,xa,k4,k5])(D:nb<S0.nx)(ac:S0.nx<=rb)(h:Same S0 X)(z:rb<X.nx)(A:X.h.get rb=jf (bD (idL N)))(u:aC 1 F=v1)(v:aC 5 F=B)(x:aC 6 F=v6)(m:aC 7 F= .ptr nb 0)(r:aC 8 F=je (q:Int))(s:aC 9 F=je (j:Int))(g:aC 10 F=je (n:Int))(d:aC 11 F= .sl rb 0 N N false)(f:aC 12 F=je ((0:Nat):Int)):
  jP fns qk9 ⟨F,false⟩ X fun o A' Z=>o= .normal/\SwX S0 nb rb N a b n q j v1 B v6 0 A' Z:=by
 have⟨E,oq,iq,lq,T⟩:=bN.ptr i hq;have⟨G,oj,ij,lj,U⟩:=bN.ptr i y;rw[ea] at T;rw[eb] at U;have H:=bN.self i;refine aO (bX (SwX S0 nb rb N a b n q j v1 B v6) ?_ n _ _ ⟨rfl,h,z,0,_,au,by unfold idL;rw[Al,Bj],fun j y=>by unfold idL swF;rw[uJ y,if_neg au,if_neg au],A,u,v,x,m,r,s,g,d,f⟩);rintro k ⟨F,inr⟩ X ⟨V,h,z,t,l,I,W,Y,A,u,v,x,m,r,s,g,d,f⟩;simp only at V u v x m r s g d f;subst V;refine gH (ew g f ?_);by_cases an:t<n;rotate_left
 .refine aQ im (bT ?_);refine ae ?_;obtain rfl:k=0:=by omega
  exact⟨rfl,h,z,t,l,I,W,Y,A,by refine⟨?_,?_,?_,?_,?_,?_,?_,?_,?_⟩<;>simp only[↓sU,sD,rE,↓reduceIte,rA,u,v,x,m,r,s,g,d,f]⟩
 refine aS im (aK ?_);refine ae ?_
 have w1:=ed t
 have wa:IntKind.i64.wrap ((a:Int)+(t:Int))=((a+t:Nat):Int):=by rw[wrap_i64 au au];omega
 have J:IntKind.i64.wrap ((b:Int)+(t:Int))=((b+t:Nat):Int):=by rw[wrap_i64 au au];omega
 have ia:=fQ (b:=rb) (N:=N) (o:=false) (au:a+t<N);have ib:=fQ (b:=rb) (N:=N) (o:=false) (au:b+t<N);have nX:=h.1;have K:=(h.2 _ D).trans C;have M:eK (.ptr E oq) false 1 X.h=some (je (a:Int)):=by rw[jH h lq];exact T
 have O:eK (.ptr G oj) false 1 X.h=some (je (b:Int)):=by rw[jH h lj];exact U
 have Q:nb<X.nx:=by omega
 have R:E<X.nx:=by omega
 have S:G<X.nx:=by omega
 have nn:nb≠rb:=by omega
 have nq:E≠rb:=by omega
 have nj:G≠rb:=by omega
 refine aD (aO (iD (fun c=>c=rb) ?_));intro S1 s1;simp only[↓sU,sD,rE,↓reduceIte,rA,m,r,s,d,f,aB,aP,aA,dG K,aJ,iq,M,ij,O,H,eM,wa,J,ia,ib,Q,R,S,nn,nq,nj,An];refine vM (p:=a+t) (w:=((b+t:Nat):Int)) (P:=l) rfl (af) (af) (by rw[s1.2 _ z];exact A) au rfl ?_;intro S2 s2 n2 c2;refine ez d @aJ ib ?_;refine vM (p:=b+t) (w:=((a+t:Nat):Int)) (P:=l.set (a+t) ((b+t:Nat):Int)) (az:Nat.testBit 8589934591 31=true) (af) (af) c2 (by rw[Aw];omega) rfl ?_;intro S3 s3 n3 c3;refine de @bL ?_;refine aL (ew f w1 ?_);have n1:=s1.1;refine⟨k - 1,au,rfl,⟨by show S0.nx<=S3.nx;omega,fun c hc=>(s3.2 c au au).trans ((s2.2 c au au).trans ((s1.2 c au).trans (h.2 c hc)))⟩,by show rb<S3.nx;omega,t+1,(l.set (a+t) ((b+t:Nat):Int)).set (b+t) ((a+t:Nat):Int),au,by rw[Aw,Aw];exact W,fun j y=>?_,c3,by refine⟨?_,?_,?_,?_,?_,?_,?_,?_,?_⟩<;>simp only[↓sU,sD,rE,↓reduceIte,rA,u,v,x,m,r,s,g,d]⟩;rw[iE (by rw[Aw];omega),iE au];unfold swF;by_cases e1:j=b+t
 .rw[if_pos e1,if_neg au,if_pos au];omega
 .rw[if_neg e1];by_cases e2:j=a+t
  .rw[if_pos e2,if_pos au];omega
  .rw[if_neg e2,Y j y];unfold swF;by_cases e3:a<=j/\j<a+t
   .rw[if_pos e3,if_pos (au:a<=j/\j<a+(t+1))]
   .rw[if_neg e3,if_neg (au:¬ (a<=j/\j<a+(t+1)))];by_cases e4:b<=j/\j<b+t
    .rw[if_pos e4,if_pos (au:b<=j/\j<b+(t+1))]
    .rw[if_neg e4,if_neg (au:¬ (b<=j/\j<b+(t+1)))]
structure XwH(S2 X:St)(gb:Nat)(pv:AV)(cs:cd)(L:bt)(i:Nat)(F:Fr):Prop where
 same:Same S2 X
 gr:fP 1 S2 X pv L.length cs
 rw:qU S2 X pv cs L
 t1:aC 1 F= .ptr gb 0
 t5:aC 5 F=pv
 t6:aC 6 F= .int .i64 (i:Int)
def aSF(a:St)(gb:Nat)(g:aX)(T:List cS)(k:Nat)(A:bO)(X:St):Prop:=A.inr=false/\∃ (i:Nat) (pv:AV) (cs:cd),i+k=g.cg.length/\XwH a X gb pv cs (mT g T i) i A.F
def aTV(a:St)(gb nb:Nat)(g:aX)(T:List cS)(cells:cd)(i K:Nat)(k:Nat)(A:bO)(X:St):Prop:=A.inr=false/\nb<X.nx/\X.h.get nb=jf cells/\∃ (q:Nat) (pv:AV) (cs:cd),q+k=K/\XwH a X gb pv cs (mT g T i++rZ g T i q) i A.F/\aC 7 A.F= .ptr nb 0/\aC 8 A.F=je (q:Int)
def aRA(a:St)(gb nb:Nat)(g:aX)(T:List cS)(cells:cd)(i q:Nat)(k:Nat)(A:bO)(X:St):Prop:=A.inr=false/\nb<X.nx/\X.h.get nb=jf cells/\∃ (j:Nat) (pv:AV) (cs:cd),j+k=(cu g i).next.length/\q<j/\XwH a X gb pv cs (mT g T i++(rZ g T i q++oG g T i q j)) i A.F/\aC 7 A.F= .ptr nb 0/\aC 8 A.F=je (q:Int)/\aC 9 A.F=je (j:Int)
def XwH.step{c Y:St}{gb:Nat}{pv:AV}{cs:cd}{L:bt}{F':Fr}(h:XwH c X gb pv cs L i F)(a:Same X Y)(b:aC 1 F'=aC 1 F)(d:aC 5 F'=aC 5 F)(f:aC 6 F'=aC 6 F):XwH c Y gb pv cs L i F':=
 ⟨h.same.trans a,h.gr.step a,⟨h.rw.1,fun j g=>by
  have⟨r,b,k,l⟩:=h.rw.2 j g;exact⟨r,b,k.same a,l⟩⟩,b.trans h.t1,d.trans h.t5,f.trans h.t6⟩
def aHd(H:Has fns)(hn:aG 6 cF S nv g.cg)(hi:aG 2 cE S iv g.ch)(b1:g.cg.length<=1000):
  iI fns (.fn 25 [] []) [.agg [je g.cm,nv,iv]] S fun r S'=>Same S S'/\∃v,r= .tup [v,je (dC g)]/\(dC g≠0->v= .ct)/\(dC g=0->∃T,gP g=some T/\T.length=g.cg.length/\aG 1 nK S' v (mT g T g.cg.length)/\∀X':St,S'.nx<=X'.nx->(∀c,c<S'.nx->S.nx<=c->X'.h.get c=S'.h.get c)->aG 1 nK X' v (mT g T g.cg.length)):=by
 have cX:=aG.self hn;have cY:=aG.self hi;have b2:=aG.len hn;have b3:cO (.agg [je g.cm,nv,iv]) (.agg [je g.cm,nv,iv])=true:=by
  simp only[cO,kK,cX,cY,fO,jG,Fm,aN,Dq]
 refine cK H.f25 (by simp) ?_;refine ae ?_;refine cA ?_;refine cR (by refine ae ?_;exact aY _) ?_;intro S1 s1 n1 g1;refine ae ?_;refine gH ?_;simp only[↓sU,sD,rE,↓reduceIte,rA,gK g1];refine bK (ae ?_);refine aW (aJz H (aG.same (E:=cF) bQ hn s1) (aG.same (E:=cE) cB hi s1) au) ?_;rintro _ J ⟨rfl,s2⟩;try refine ae ?_
 have R:=s1.trans s2;refine cA (ae ?_);by_cases h0:dC g=0;rotate_left
 .refine aS (by simp only[↓sU,sD,rE,↓reduceIte,rA,Ac (show dC g≠0 from h0)]) ?_;refine cA (ae ?_);refine aT (ae ?_);exact⟨R,.ct,rfl,fun _=>rfl,fun h=>absurd h h0⟩
 refine aQ (by simp only[↓sU,sD,rE,↓reduceIte,rA,Aa (show ¬dC g≠0 from fun h=>h h0)]) (aK ?_);try refine ae ?_
 have G:=iN h0;obtain⟨T,hT,U, -⟩:=G.walk;have dz:=G.n2;have W:=aG.same (E:=cF) bQ hn R;have bp:=aG.same (E:=cE) cB hi R;have g2:J.h.get S.nx=jf [je g.cm,nv,iv]:=(s2.2 _ au).trans g1;have b6:S.nx<J.nx:=by have:=s2.1;omega
 generalize dM:S.nx=gb at *;clear g1 n1;refine cA (ae ?_);refine gH (ae ?_);refine bB (Q:=fun o A' X=>o= .normal/\aSF J gb g T 0 A' X) (aO (bX (aSF J gb g T) ?_ g.cg.length _ _ ⟨rfl,0,.ct,[],au,⟨eu _,.inl ⟨rfl,rfl,rfl⟩,⟨rfl,fun j hj=>absurd hj (Ca j)⟩,af,af,ag⟩⟩)) ?_;rotate_left
 .rintro o ⟨F,inr⟩ X ⟨rfl,s,i,pv,cs,bs,f⟩;simp only at s f;subst s;obtain rfl:i=g.cg.length:=by omega
  refine ae ?_
  refine cA ?_;simp only[↓sU,sD,rE,↓reduceIte,rA,f.t5];refine aT (ae ?_);refine⟨R.trans f.same,pv,by rw[h0],fun h=>absurd h0 h,fun _=>⟨T,hT,U,f.rw.is f.gr rfl,fun X' b8 b'=>?_⟩⟩;have dU:=R.1;have cZ:qU J X' pv cs (mT g T g.cg.length):=⟨f.rw.1,fun j hj=>by
   obtain⟨r,h1,h2,h3⟩:=f.rw.2 j hj;exact⟨r,h1,eT h2 b8 fun c u=>b' c (dP h2 u) (by have:=(h3 c u).1;omega),h3⟩⟩
  exact cZ.is (f.gr.move b8 fun c u=>b' c (f.gr.blk u).2.1 (by have:=(f.gr.blk u).1;omega)) rfl
 rintro k ⟨F,inr⟩ V ⟨s,i,pv,cs,bs,f⟩;simp only at s f;subst s;have gV:=(f.same.2 _ b6).trans g2;refine gH ?_;simp only[↓sU,sD,rE,↓reduceIte,rA,f.t1,f.t6,aB,aA,fV gV,b2];by_cases C:i<g.cg.length;rotate_left
 .refine aQ (by simp only[↓sU,sD,rE,↓reduceIte,rA,Aa (show ¬ (i:Int)<(g.cg.length:Int) by omega)]) (bT ?_);refine ae ?_;obtain rfl:k=0:=by omega
  exact⟨rfl,i,pv,cs,bs,f.step (eu _) (af) (af) (af)⟩
 refine aS (by simp only[↓sU,sD,rE,↓reduceIte,rA,Ac (show(i:Int)<(g.cg.length:Int) by omega)]) (aK ?_);try refine ae ?_
 obtain⟨_,bx,qx,bm,c0,_,⟨xa,xw,xp,rfl,aa,bv,dV⟩,ab,_⟩:=aG.at W az (dI C);rw[<-jH f.same c0] at ab;have w0:=ed i
 refine aD (aO (aD (aL ?_)));simp only[↓aF,aE,rE,↓reduceIte,rA,f.t1,f.t6,aB,aA,fV gV,aJ,bm,ab];refine bS ?_;intro W1 v1 k1 h1;try refine am ?_
 refine cQ (b:=V.nx) (aq) (by refine am ?_;exact aY _) h1 rfl rfl ?_;intro Y v2 k2 h2;refine am ?_;have ca:Same V Y:=v2.same v1 (Af _);have aZ:V.nx<Y.nx:=by omega
 have nV:=f.same.1;clear v1 v2 h1 k1;refine cA (ae ?_);have c3:=G.nxt i C;obtain⟨K,hK⟩:∃K:Nat,K=if(cu g i).kind=1 then(cu g i).next.length else 0:=⟨_,rfl⟩;have e1:mT g T (i+1)=mT g T i++rZ g T i K:=by
  show mT g T i++(if _ then _ else [])=_;rw[hK];split
  .rfl
  .rfl
 generalize m: [AV.int .i64 (cu g i).kind,je (cu g i).player,je (cu g i).info,xa,xw,xp]=cells at h2;refine bB (Q:=fun o A' X=>o= .normal/\aTV J gb V.nx g T cells i K 0 A' X) (aO (bX (aTV J gb V.nx g T cells i K) ?_ K _ _ ⟨rfl,aZ,h2,0,pv,cs,au,?_,af,ag⟩)) ?_;rotate_left
 .show XwH J Y gb pv cs (mT g T i++ []) i _;rw[Bu];exact f.step ca (af) (af) (af)
 .rintro o ⟨F,inr⟩ X ⟨rfl,s,_,_,q,pv,cs,ac,D,_⟩;simp only at s D;subst s;obtain rfl:q=K:=by omega
  refine ae ?_
  refine aL ?_;simp only[↓sU,sD,rE,↓reduceIte,rA,D.t6,w0];refine⟨k - 1,au,rfl,i+1,pv,cs,au,?_⟩;rw[e1];exact XwH.mk D.same D.gr D.rw (by simp only[↓sU,sD,rE,↓reduceIte,rA,D.t1]) (by simp only[↓sU,sD,rE,↓reduceIte,rA,D.t5]) (af)
 clear f h2 ca ab e1 w0 bs gV bm;rintro k2 ⟨F,inr⟩ X ⟨s,n,w,q,pv,cs,ac,f,t7,t8⟩;simp only at s f t7 t8;subst s;rw[<-m] at w;have A:=aa.same f.same;refine gH ?_;simp only[↓sU,sD,rE,↓reduceIte,rA,t7,t8,aB,aA,dG w,fI w,A.len,Ah];by_cases bw:q<K;rotate_left
 .obtain rfl:q=K:=by omega
  have dv:∀c:AV,c= .bool false->True:=fun _ _=>trivial;by_cases N:(cu g i).kind=1
  .rw[if_pos N] at hK;simp only[↓sU,sD,rE,↓reduceIte,rA,Aa (show ¬ (q:Int)<(((cu g i).next.length:Nat):Int) by omega)];refine aQ (af) (bT ?_);refine ae ?_;obtain rfl:k2=0:=by omega
   exact⟨rfl,n,by rw[<-m];exact w,q,pv,cs,ac,f.step (eu _) (af) (af) (af),by refine⟨?_,?_⟩<;>simp only[↓sU,sD,rE,↓reduceIte,rA,t7,t8]⟩
  .by_cases dW:q<(cu g i).next.length
   .simp only[↓sU,sD,rE,↓reduceIte,rA,Ac (show(q:Int)<(((cu g i).next.length:Nat):Int) by omega),Aa N];refine aQ (af) (bT ?_);refine ae ?_;obtain rfl:k2=0:=by omega
    exact⟨rfl,n,by rw[<-m];exact w,q,pv,cs,ac,f.step (eu _) (af) (af) (af),by refine⟨?_,?_⟩<;>simp only[↓sU,sD,rE,↓reduceIte,rA,t7,t8]⟩
   .simp only[↓sU,sD,rE,↓reduceIte,rA,Aa (show ¬ (q:Int)<(((cu g i).next.length:Nat):Int) by omega)];refine aQ (af) (bT ?_);refine ae ?_;obtain rfl:k2=0:=by omega
    exact⟨rfl,n,by rw[<-m];exact w,q,pv,cs,ac,f.step (eu _) (af) (af) (af),by refine⟨?_,?_⟩<;>simp only[↓sU,sD,rE,↓reduceIte,rA,t7,t8]⟩
 have N:(cu g i).kind=1:=by
  by_cases h:(cu g i).kind=1
  .exact h
  .rw[if_neg h] at hK;omega
 rw[if_pos N] at hK;subst hK;simp only[↓sU,sD,rE,↓reduceIte,rA,Ac (show(q:Int)<(((cu g i).next.length:Nat):Int) by omega),Ac N];refine aS (af) (aK ?_);try refine ae ?_
 have dY:=G.wts i C N;have w1:=ed q
 refine aD (aO (aD (aL ?_)));simp only[↓sU,sD,rE,↓reduceIte,rA,t8,w1];have e2:rZ g T i (q+1)=rZ g T i q++oG g T i q (cu g i).next.length:=rfl;refine bB (Q:=fun o A' Z=>o= .normal/\aRA J gb V.nx g T cells i q 0 A' Z) (aO (bX (aRA J gb V.nx g T cells i q) ?_ ((cu g i).next.length - (q+1)) _ _ ⟨rfl,n,by rw[<-m];exact w,q+1,pv,cs,au,au,?_,ah t7,ah t8,ag⟩)) ?_;rotate_left
 .rw[aF7 (Af _),Bu];exact f.step (eu _) (af) (af) (af)
 .rintro o ⟨F,inr⟩ Z ⟨rfl,s,bz,hZ,j,pv,cs,cc,_,cf,t7,t8,_⟩;simp only at s cf t7 t8;subst s;obtain rfl:j=(cu g i).next.length:=by omega
  refine ae ?_
  refine aL ?_;simp only[↓sU,sD,rE,↓reduceIte,rA,t8,w1];refine⟨k2 - 1,au,rfl,bz,hZ,q+1,pv,cs,au,?_,by refine⟨?_,?_⟩<;>simp only[↓sU,sD,rE,↓reduceIte,rA,t7]⟩;rw[e2];exact cf.step (eu _) (af) (af) (af)
 clear f w n t7 t8 ac e2 A;rintro k3 ⟨F,inr⟩ X ⟨s,n,w,j,pv,cs,cc,bC,f,t7,t8,t9⟩;simp only at s f t7 t8 t9;subst s;rw[<-m] at w;have A:=aa.same f.same;refine gH ?_;simp only[↓sU,sD,rE,↓reduceIte,rA,t7,t9,aB,aA,dG w,A.len,Ah];by_cases a0:j<(cu g i).next.length;rotate_left
 .refine aQ (by simp only[↓sU,sD,rE,↓reduceIte,rA,Aa (show ¬ (j:Int)<(((cu g i).next.length:Nat):Int) by omega)]) (bT ?_);refine ae ?_;obtain rfl:k3=0:=by omega
  exact⟨rfl,n,by rw[<-m];exact w,j,pv,cs,cc,bC,f.step (eu _) (af) (af) (af),by refine⟨?_,?_,?_⟩<;>simp only[↓sU,sD,rE,↓reduceIte,rA,t7,t8,t9]⟩
 refine aS (by simp only[↓sU,sD,rE,↓reduceIte,rA,Ac (show(j:Int)<(((cu g i).next.length:Nat):Int) by omega)]) (aK ?_);try refine ae ?_
 have w2:=ed j
 have P:=aOW G hT U C bC a0;obtain⟨c1,c2⟩:=G.kids i C q bw;obtain⟨d1,d2⟩:=G.kids i C j a0;obtain⟨pP,c4,cl,cm,c5⟩:=P;have p:aOD g T i q j↔(cu g i).weights.getD q 0=(cu g i).weights.getD j 0/\aKa g T ((cu g i).next.getD q 0).toNat ((cu g i).next.getD j 0).toNat/\jD g (swL g.cg.length ((cu g i).next.getD q 0).toNat ((cu g i).next.getD j 0).toNat (eJ T ((cu g i).next.getD q 0).toNat)):=Iff.rfl;have cn:=fun h=>aOq (g:=g) (T:=T) (i:=i) bC h;have cq:=fun h=>aL8 (g:=g) (T:=T) (i:=i) (k:=q) (j:=j) h;obtain⟨ck,bI⟩:∃ck:Nat,(cu g i).next.getD q 0=(ck:Int):=⟨_,(Ee au).symm⟩;obtain⟨y,bM⟩:∃y:Nat,(cu g i).next.getD j 0=(y:Int):=⟨_,(Ee au).symm⟩;obtain⟨ba,oa,c6,c7,cr⟩:=bN.ptr A bw;rw[bI] at cr;simp only[bI,bM,Ay] at pP c4 cl cm c5 p cn;have ct:=bN.self bv;have cw:=bN.self aa;have nX:=f.same.1;have O:gb<X.nx:=by omega
 have gX:=(f.same.2 _ b6).trans g2;have an:∀ (F':Fr) (Y:St),¬aOD g T i q j->Same X Y->aC 1 F'= .ptr gb 0->aC 5 F'=pv->aC 6 F'=je (i:Int)->aC 7 F'= .ptr V.nx 0->aC 8 F'=je (q:Int)->aC 9 F'=je ((j+1:Nat):Int)->∃k',k'<k3/\aRA J gb V.nx g T cells i q k' ⟨F',false⟩ Y:=fun F' Y bR hs a1 a5 a6 a7 a8 a9=>
  ⟨k3 - 1,au,rfl,Ae n hs.1,by rw[<-m];exact(hs.2 _ n).trans w,j+1,pv,cs,au,au,by rw[cq bR];exact f.step hs (by rw[a1,f.t1]) (by rw[a5,f.t5]) (by rw[a6,f.t6]),a7,a8,a9⟩
 have l3:=gK gX;refine aD (aO (aD (iD (fun _=>False) ?_)));intro X1 x1;simp only[↓sU,sD,rE,↓reduceIte,rA,t7,t8,f.t1,l3,O,An,b3,aB,aP,aA,dG w,n,aJ,c6,c7,cr,cw,eM];refine dR rfl ?_;refine ae ?_;have cx:=f.same.trans x1;refine aW (aC6 (i:=ck) H h0 hT U b1 g.cg.length au au  (aG.same (E:=cF) bQ W cx) (aG.same (E:=cE) cB bp cx)) ?_;rintro _ Y ⟨rfl,hY⟩;refine⟨hY,?_⟩;have I:=x1.trans hY
 have bd:=f.same.trans I;have bU:=(I.2 _ n).trans w;have aZ:=Ae n I.1;have gY:=(I.2 _ O).trans gX;have c8:=Ae O I.1;have c9:=gK gY;have cy:=aa.same bd;obtain⟨bq,oq,iq,lq,dq⟩:=bN.ptr (bv.same bd) (show q<(cu g i).weights.length by omega);obtain⟨bj,oj,ij,lj,dj⟩:=bN.ptr (bv.same bd) (show j<(cu g i).weights.length by omega);obtain⟨bb,ob,c',da,cz⟩:=bN.ptr cy a0;rw[bM] at cz;refine aD (aD (iD (fun _=>False) ?_));intro X2 x2;by_cases be:(cu g i).weights.getD q 0=(cu g i).weights.getD j 0;rotate_left
 .simp only[↓sU,sD,rE,↓reduceIte,rA,t7,t8,t9,An,aB,aP,aA,dT bU,ct,aZ,aJ,iq,lq,dq,ij,lj,dj,eM,Ac (show(cu g i).weights.getD q 0≠(cu g i).weights.getD j 0 from be)];refine aS (af) (bT ?_);refine ae ?_;refine aL ?_;simp only[↓sU,sD,rE,↓reduceIte,rA,t9,w2];exact an _ _ (fun h=>be (p.1 h).1) (I.trans x2) (by simp only[↓sU,sD,rE,↓reduceIte,rA,f.t1]) (by simp only[↓sU,sD,rE,↓reduceIte,rA,f.t5]) (by simp only[↓sU,sD,rE,↓reduceIte,rA,f.t6]) (ah t7) (ah t8) (af)
 simp only[↓sU,sD,rE,↓reduceIte,rA,t7,t8,t9,f.t1,c9,c8,b3,An,aB,aP,aA,dG bU,dT bU,ct,cw,aZ,aJ,iq,lq,dq,ij,lj,dj,c',da,cz,eM,Aa (show ¬ (cu g i).weights.getD q 0≠(cu g i).weights.getD j 0 from fun h=>h be)];refine dR rfl ?_;refine ae ?_;have cV:=bd.trans x2;refine aW (aC6 (i:=y) H h0 hT U b1 g.cg.length au au  (aG.same (E:=cF) bQ W cV) (aG.same (E:=cE) cB bp cV)) ?_;rintro _ Z ⟨rfl,hZ⟩;refine⟨hZ,?_⟩;have B:=(I.trans x2).trans hZ;refine ae ?_
 by_cases bV:eJ T ck=eJ T y;rotate_left
 .refine aS (by simp only[↓sU,sD,rE,↓reduceIte,rA,Ac (show((eJ T ck:Nat):Int)≠((eJ T y:Nat):Int) by omega)]) (bT ?_);refine ae ?_;refine aL ?_;simp only[↓sU,sD,rE,↓reduceIte,rA,t9,w2];exact an _ _ (fun h=>bV (p.1 h).2.1.1) B (by simp only[↓sU,sD,rE,↓reduceIte,rA,f.t1]) (by simp only[↓sU,sD,rE,↓reduceIte,rA,f.t5]) (by simp only[↓sU,sD,rE,↓reduceIte,rA,f.t6]) (ah t7) (ah t8) (af)
 refine aQ (by simp only[↓sU,sD,rE,↓reduceIte,rA,Aa (show ¬ ((eJ T ck:Nat):Int)≠((eJ T y:Nat):Int) by omega)]) (aK ?_);try refine ae ?_
 have bk:y+eJ T ck<=g.cg.length:=by rw[bV];exact cm
 have gZ:=(B.2 _ O).trans gX;have dZ:=Ae O B.1;have dc:=(B.2 _ n).trans w;have bz:=Ae n B.1;refine cA ?_;simp only[↓sU,sD,rE,↓reduceIte,rA,f.t1,aB,aA,fV gZ,b2,Ah];refine bK (ae ?_);refine aW (aEa H au) ?_;rintro _ Z2 ⟨⟨rb,rfl,r1,r2,r3⟩,z2⟩;try refine ae ?_
 have r1:Z.nx<=rb:=r1;have bW:(idL g.cg.length).length=g.cg.length:=by unfold idL;rw[Al,Bj]
 rw[bW];refine gH (ae ?_);refine bB (aPR (S0:=Z) (aa.same (f.same.trans B)) bw a0 bI bM pP bk au dc bz r1 z2 r2 r3 rfl rfl rfl (ah t7) (ah t8) (ah t9) (af) (af) (ag)) ?_;rintro o ⟨F2,inr⟩ Z3 ⟨rfl,s,z3,dd,t,l,d',hl,hf,dg,p1,p5,p6,p7,p8,p9,dh,bY,di⟩;simp only at s p1 p5 p6 p7 p8 p9 dh bY di;subst s;obtain rfl:t=eJ T ck:=by omega
 obtain rfl:l=swL g.cg.length ck y (eJ T ck):=aFO hl hf;try simp only[↓sU,sD,rE,↓reduceIte,rA,f.t1,f.t5,f.t6] at p1 p5 p6
 refine ae ?_
 have M:=aKZ (g:=g) pP bk;have ao:=B.trans z3;have dk:=(ao.2 _ O).trans gX;have aw:tC Z Z3 (.sl rb 0 g.cg.length g.cg.length false) (swL g.cg.length ck y (eJ T ck)):=⟨rb,by rw[M.len],r1,dd,dg⟩;have aI:=f.same.trans ao;refine cA ?_;simp only[↓aF,aE,rE,↓reduceIte,rA,p1,bY,gK dk];refine bK (am ?_);refine aW (aIJ (ok:=jD g (swL g.cg.length ck y (eJ T ck))) H (aG.same (E:=cF) bQ W aI) aw.is au (fun h1 h2 _ S' bZ=>aW (aIO H (aG.same (E:=cF) bQ W (aI.trans bZ)) (aG.same (E:=cE) cB bp (aI.trans bZ)) (aw.is.same bZ) G ⟨h1,h2⟩) fun r ea h=>by
  obtain⟨e1,a,b,t,e2,e3,_⟩:=h;exact⟨e1,a,b,t,e2,e3⟩)) ?_
 rintro _ Y5 ⟨rfl,y5⟩;refine ae ?_;have aV:=ao.trans y5;by_cases hA:jD g (swL g.cg.length ck y (eJ T ck));rotate_left
 .have b0:lE g.cg.length (swL g.cg.length ck y (eJ T ck)) (jD g (swL g.cg.length ck y (eJ T ck)))≠0:=fun h=>hA (nS h).A;refine aQ (by simp only[↓sU,sD,rE,↓reduceIte,rA,Aa b0]) (aK ?_);try refine ae ?_
  refine aL ?_;simp only[↓sU,sD,rE,↓reduceIte,rA,p9,w2];exact an _ _ (fun h=>hA (p.1 h).2.2) aV (ah p1) (ah p5) (ah p6) (ah p7) (ah p8) (af)
 have b0:lE g.cg.length (swL g.cg.length ck y (eJ T ck)) (jD g (swL g.cg.length ck y (eJ T ck)))=0:=(aHx pP bk hA).1.e;have dm:=p.2 ⟨be,aJc h0 hT U pP bk bV hA,hA⟩;have hJ:=cn dm;refine aS (by simp only[↓sU,sD,rE,↓reduceIte,rA,Ac b0]) ?_;have bn:bN .i64 Y5 (.sl rb 0 g.cg.length g.cg.length false) (swL g.cg.length ck y (eJ T ck)):=aw.is.same y5;have dn:=fun(F:Fr) (id:Nat) (h:aC 126 F= .sl rb 0 g.cg.length g.cg.length false)=>aDx (t:=31) (z:=.ct) (x:=.t 126) (F:=F) (id:=id) bn h;refine aL ?_;simp only[↓aF,aE,rE,↓reduceIte,rA,p5,bY];refine fW (dn _ _ (aq)) ?_;intro Y6 y6 n6 g6;try refine am ?_
 have dp:∀ {c},aM pv=some c->J.nx<=c:=fun u=>(f.gr.blk u).1;have eb:=aV.1;have dr:fP 1 J Y6 pv (mT g T i++(rZ g T i q++oG g T i q j)).length cs:=(f.gr.step aV).step y6;have dw:(mT g T i++(rZ g T i q++oG g T i q j)).length+1<=3000000000:=by
  have a1:=aFS (T:=T) G (Nat.le_of_lt C);have a2:=aCe (g:=g) (T:=T) (i:=i) (k:=q);have a3:=aCi (g:=g) (T:=T) (i:=i) (k:=q) (j:=j);have a4:q * (cu g i).next.length<=1000 * 1000:=Ey au c3;rw[Aj,Aj];omega
 obtain⟨pv',V9,eA,gA,bA,nA,rA⟩:=fP.push1 (bytes:=24) (x:=.sl rb 0 g.cg.length g.cg.length false) dr ((f.same.trans aV).trans y6) g6 ay ay;refine fN (v:=pv') (S1:=V9) (fun call=>by simp only[↓aF,aE,rE,↓reduceIte,rA,fK];exact eA) ?_;refine ae ?_;refine aL ?_;simp only[↓sU,sD,rE,↓reduceIte,rA,p9,w2];have ec:=y6.1;have cW:∀ {c},aM pv'=some c->c=Y6.nx:=fun u=>by rw[bA] at u;exact(Bh u).symm
 have du:aM pv≠some V.nx:=fun e=>aKx w (f.gr.blk e).2.2 rfl;have kZ:∀c,c<X.nx->aM pv≠some c->V9.h.get c=X.h.get c:=fun c u bR=>by
  rw[rA c au bR,y6.2 c au];exact aV.2 c u
 have ee:=B.1;have eg:=z3.1;have eh:=y5.1;have hR:=f.rw.push (Z:=V9) (pv':=pv') (r:=.sl rb 0 g.cg.length g.cg.length false) (l:=swL g.cg.length ck y (eJ T ck)) nX au (fun c a _ d=>kZ c a d) (eT (bn.same y6) au fun c u=>by
  cases u;exact rA _ au fun e=>by have:=(f.gr.blk e).2.1;omega) (fun c u=>by
  cases u;exact⟨au,fun e=>by have:=cW e;omega⟩) (fun c u=>by have:=cW u;omega)
 refine⟨k3 - 1,au,rfl,au,by rw[<-m];exact(kZ _ n du).trans w,j+1,pv',cs++ [.sl rb 0 g.cg.length g.cg.length false],au,au,?_,by refine⟨?_,?_,?_⟩<;>simp only[↓sU,sD,rE,↓reduceIte,rA,p7,p8]⟩;have eL:mT g T i++(rZ g T i q++oG g T i q (j+1))=(mT g T i++(rZ g T i q++oG g T i q j))++ [swL g.cg.length ck y (eJ T ck)]:=by
  rw[hJ,Bg,Bg]
 rw[eL];refine XwH.mk ⟨au,fun c u=>(kZ c au (fun e=>by have:=dp e;omega)).trans (f.same.2 c u)⟩ ?_ hR (ah p1) (af) (ah p6);rw[Aj,Ba];exact gA
end Go.Ev.Gl
