import Derived.Test.YtbmodoaceepfoaaGl18
set_option linter.all false
set_option maxHeartbeats 0
namespace Go.Ev.Gl
variable {fns:T eY}
variable {i r n j N b c:Nat}{l:bu}{x ps:Int}{g:aX}{y:cJ}
structure gT(g:aX)(m:bu):Prop where
 M:aBb g m
 nd:¬aFr m
 A:jD g m
section
variable {g:aX}{a b c m:bu}
def gT.e(h:gT g m):lE g.cg.length m (jD g m)=0:=by
 unfold lE;rw[if_neg (fun e=>e h.M.len),if_neg (fun e=>e h.M.inn),if_neg h.nd,if_pos h.A]
def gT.chk(h:gT g m)(d:dC g=0):aAd g m (jD g m)=0:=by
 unfold aAd;rw[if_neg (fun e=>e d)];exact h.e
def gT.inj(h:gT g m){k:Nat}(hi:i<g.cg.length)(f:k<g.cg.length)(e:gE m i=gE m k):i=k:=by
 have l:=(h.M.at hi).1;have n:=(h.M.at f).1;have o:=h.M.len;rcases Dw i k with d|j|d
 .exact absurd ⟨k,i,d,au,au⟩ h.nd
 .exact j
 .exact absurd ⟨i,k,d,au,au⟩ h.nd
def aQg(d:m.length=g.cg.length)(h:∀i,i<g.cg.length->0<=m.getD i 0/\m.getD i 0<(g.cg.length:Int)):aBb g m:=⟨d,fun x e=>by
 obtain⟨j,f,rfl⟩:=Dv.1 e;have:=h j au
 rwa [Ad,Ab f] at this⟩
def aF9(h:0<=lM l 0 x):(lM l 0 x).toNat<l.length/\l.getD (lM l 0 x).toNat 0=x:=by
 rcases pV (c:=x) (l:=l) (s:=0) with⟨f,_⟩|⟨k,f,d,_⟩
 .omega
 .have e:(lM l 0 x).toNat=k:=by omega
  rw[e];exact⟨(Ai.1 d).1,by rw[Ad,d];rfl⟩
def aL3(g:aX)(m:bu):Prop:=∀i,i<g.cg.length->gE m (gE m i)=i
end
def oN(j:Int):List cS->Nat->Nat
 | [],_=>0
 | t::L,a=>(if t.1=j then(t.2.2+1 - (a:Int)).toNat else 0)+oN j L (a+1)
theorem yK{j:Int}:∀ {L M:List cS} {a:Nat},oN j (L++M) a=oN j L a+oN j M (a+L.length)
 | [],M,a=>by show oN j M a=0+oN j M (a+0);rw[Am];rfl
 | t::L,M,a=>by
  show _+oN j (L++M) (a+1)=_+oN j L (a+1)+oN j M (a+(L.length+1));rw[yK (L:=L),show a+1+L.length=a+(L.length+1) by omega,Cy]
theorem vP{j:Int}:∀ {L:List cS} {a:Nat},(∀t∈L,t.1≠j)->oN j L a=0
 | [],_,_=>rfl
 | t::L,a,h=>by
  show(if t.1=j then _ else 0)+oN j L (a+1)=0;rw[if_neg (h t (Bk ..)),vP fun t d=>h t (Bf _ d)]
structure KZ(r:Nat)(p:Int)(L:List cS):Prop where
 par:∀t∈L,t.1=p\/((r:Int)<=t.1/\t.1<((r+L.length:Nat):Int))
 sz:∀ (j:Nat) (t:cS),L[j]? =some t->t.2.2=((r+j+oN ((r+j:Nat):Int) L r:Nat):Int)/\t.2.2<((r+L.length:Nat):Int)
 all:oN p L r=L.length
 nest:∀ (j q:Nat) (t u:cS),L[j]? =some t->L[q]? =some u->j<q->((r+q:Nat):Int)<=t.2.2->((r+j:Nat):Int)<=u.1
def KZ.nil{p:Int}:KZ r p []:=⟨fun t d=>(by cases d),fun j t h=>(by simp at h),rfl,fun j q t u h=>(by simp at h)⟩
def KZ.app{p:Int}{L M:List cS}(v:p<(r:Int))(i:KZ r p L)(k:KZ (r+L.length) p M):KZ r p (L++M):=by
 refine⟨fun t l=>?_,fun j t d=>?_,by rw[yK,i.all,k.all,Aj],fun j q t u d o f n=>?_⟩
 .rw[Aj];rcases Bi.1 l with h|h
  .rcases i.par t h with e|e
   .exact .inl e
   .exact .inr au
  .rcases k.par t h with e|e
   .exact .inl e
   .exact .inr au
 .rw[Aj,yK];by_cases f:j<L.length
  .rw[Ao f] at d;have⟨a,b⟩:=i.sz j t d;rw[vP (L:=M) fun t l=>by
    rcases k.par t l with e|e
    .omega
    .omega,Bs]
   exact⟨a,au⟩
  .rw[Ap au] at d;have⟨a,b⟩:=k.sz (j - L.length) t d;rw[show r+L.length+(j - L.length)=r+j by omega] at a;rw[vP (L:=L) fun t l=>by
    rcases i.par t l with e|e
    .omega
    .omega,Am]
   exact⟨a,au⟩
 .by_cases s:j<L.length
  .rw[Ao s] at d;have:=(i.sz j t d).2;rw[Ao au] at o;exact i.nest j q t u d o f n
  .rw[Ap au] at d o;have:=k.nest _ _ t u d o au (by rw[show r+L.length+(q - L.length)=r+q by omega];exact n)
   rwa [show r+L.length+(j - L.length)=r+j by omega] at this
theorem aDw{rec:Nat->Option (List cS)}{p:Int}(d:∀ (r:Nat) (L:List cS),p<(r:Int)->rec r=some L->KZ r p L):∀ {l:bu} {r:Nat} {L:List cS},p<(r:Int)->fR rec l r=some L->KZ r p L
 | [],r,L,_,h=>by
  have h:some []=some L:=h;cases h;exact KZ.nil
 | c::l,r,L,e,h=>by
  simp only[fR] at h;split at h
  .have⟨f,i,j⟩:=Cu.1 h;obtain⟨n,k,rfl⟩:=Bb.1 j;exact(d r f e i).app e (aDw d au k)
  .cases h
theorem mN{N:Nat}{nx:Nat->bu}:∀ {f at_:Nat} {p d:Int} {T:List cS},p<(at_:Int)->fB N nx f at_ p d=some T->KZ at_ p T
 | 0,_,_,_,_,_,h=>by cases h
 | f+1,at_,p,d,T,C,h=>by
  simp only[fB] at h;split at h
  .obtain⟨L,w,rfl⟩:=Bb.1 h;have k:=aDw (p:=(at_:Int)) (fun r L x y=>mN x y) au w;refine⟨fun t l=>?_,fun j t n=>?_,?_,fun j q t u n v A o=>?_⟩
   .rw[Ax];rcases Bp.1 l with rfl|l
    .exact .inl rfl
    .rcases k.par t l with e|e
     .exact .inr au
     .exact .inr au
   .rw[Ax];cases j with
    | zero=>
     cases n;rw[Bs];show((at_+L.length:Nat):Int)=((at_+((if p=((at_:Nat):Int) then _ else 0)+oN _ L (at_+1)):Nat):Int)/\_;rw[if_neg au,Am,k.all];exact⟨rfl,by show((at_+L.length:Nat):Int)<_;omega⟩
    | succ j=>
     have⟨a,b⟩:=k.sz j t n;show t.2.2=((at_+(j+1)+((if p=((at_+(j+1):Nat):Int) then _ else 0)+oN _ L (at_+1)):Nat):Int)/\_;rw[if_neg au,Am,a,show at_+1+j=at_+(j+1) by omega];exact⟨rfl,by rw[<-show at_+1+j=at_+(j+1) by omega,<-a];omega⟩
   .show(if p=p then(((at_+L.length:Nat):Int)+1 - (at_:Int)).toNat else 0)+oN p L (at_+1)=L.length+1;rw[if_pos rfl,vP fun t l=>by
     rcases k.par t l with e|e
     .omega
     .omega]
    omega
   .obtain⟨q,rfl⟩:∃B,q=B+1:=⟨q - 1,au⟩;cases j with
    | zero=>
     have i:L[q]? =some u:=v;rcases k.par u (Ar i) with e|e
     .omega
     .omega
    | succ j=>
     have s:L[j]? =some t:=n;have i:L[q]? =some u:=v;have:=k.nest j q t u s i au (by rw[show at_+1+q=at_+(q+1) by omega];exact o)
     rwa [show at_+1+j=at_+(j+1) by omega] at this
  .cases h
def eJ(T:List cS)(i:Nat):Nat:=match T[i]? with | some t=>(t.2.2+1 - (i:Int)).toNat | none=>0
section
variable {T:List cS}
def qC(k:KZ 0 (-1) T)(hi:i<T.length):eJ T i=1+oN (i:Int) T 0/\eJ T i<=T.length/\i+eJ T i<=T.length:=by
 have⟨a,b⟩:=k.sz i T[i] (Ab hi);have e:eJ T i=(T[i].2.2+1 - (i:Int)).toNat:=by unfold eJ;rw[Ab hi]
 rw[Am] at a b;omega
def SzI(T:List cS)(i:Nat)(Z:bu):Prop:=Z.length=T.length/\∀j,j<T.length->Z.getD j 0=if i<=j then((eJ T j:Nat):Int) else((oN (j:Int) (T.drop i) i:Nat):Int)
def aRR(k:KZ 0 (-1) T)(M:T.length<=100000)(l:∀ (j:Nat) (t:cS),T[j]? =some t->t.1<(j:Int)/\(0<j->0<=t.1)){Z:bu}(hi:i<T.length)(h:SzI T (i+1) Z):SzI T i (szS T i Z):=by
 have⟨F,u⟩:=h;have w:=Ab hi;have⟨N,G⟩:=l i T[i] w;have n:T.drop i=T[i]::T.drop (i+1):=Bz hi;have p:=fun j:Nat=>show oN (j:Int) (T.drop i) i=(if T[i].1=(j:Int) then eJ T i else 0)+oN (j:Int) (T.drop (i+1)) (i+1) by
  rw[n];have e:eJ T i=(T[i].2.2+1 - (i:Int)).toNat:=by unfold eJ;rw[w]
  rw[e];rfl
 have x:∀j,i<=j->oN (j:Int) T 0=oN (j:Int) (T.drop (i+1)) (i+1):=fun j o=>by
  conv=>lhs;rw[<-Eg (i+1) T]
  rw[yK,Bv,show min (i+1) T.length=i+1 by omega,Am,vP (L:=T.take (i+1)),Am];intro t H;obtain⟨q,v,rfl⟩:=Dv.1 H;rw[Bv] at v;rw[List.getElem_take];have:=(l q T[q] (Ab au)).1;omega
 have I:=qC k hi;rw[x i (Af _)] at I;have r:=u i hi;rw[if_neg au] at r;have J:IntKind.i64.wrap (Z.getD i 0+1)=((eJ T i:Nat):Int):=by rw[r,wrap_i64 au au];omega
 unfold szS;rw[J];have f:∀j,(Z.set i ((eJ T i:Nat):Int)).getD j 0=if j=i then((eJ T i:Nat):Int) else Z.getD j 0:=fun j=>iE au;by_cases y:0<i
 .rw[if_pos y];obtain⟨q,v⟩:∃q:Nat,T[i].1=(q:Int):=⟨T[i].1.toNat,by have:=G y;omega⟩;have K:q<i:=by omega
  have A:(T.map fun t:cS=>t.1).getD i 0=(q:Int):=by rw[Ad,Az,w,<-v];rfl
  rw[A,Ay,f q,if_neg au,f i,if_pos rfl];have s:=u q au;rw[if_neg au] at s;have O:oN (q:Int) (T.drop i) i<=T.length:=by
   have P:=qC k (au:q<T.length);have:oN (q:Int) (T.drop i) i<=oN (q:Int) T 0:=by
    conv=>rhs;rw[<-Eg i T]
    rw[yK,Bv,show min i T.length=i by omega,Am];omega
   omega
  have B:=p q;rw[if_pos v] at B;have C:IntKind.i64.wrap (Z.getD q 0+((eJ T i:Nat):Int))=((oN (q:Int) (T.drop i) i:Nat):Int):=by rw[s,wrap_i64 au au];omega
  rw[C];refine⟨by rw[Aw,Aw];exact F,fun j D=>?_⟩;rw[iE (by rw[Aw];omega),f j];by_cases E:j=q
  .rw[if_pos E,if_neg au,E]
  .rw[if_neg E];by_cases d:j=i
   .rw[if_pos d,if_pos au,d]
   .rw[if_neg d,u j D];by_cases o:i<=j
    .rw[if_pos au,if_pos o]
    .rw[if_neg au,if_neg o,p j,if_neg au,Am]
 .rw[if_neg y];refine⟨by rw[Aw];exact F,fun j D=>?_⟩;rw[f j];by_cases d:j=i
  .rw[if_pos d,if_pos au,d]
  .rw[if_neg d,u j D,if_pos au,if_pos au]
theorem aMF(k:KZ 0 (-1) T)(e:T.length<=100000)(d:∀ (j:Nat) (t:cS),T[j]? =some t->t.1<(j:Int)/\(0<j->0<=t.1)):∀ {i:Nat} {Z:bu},i<=T.length->SzI T i Z->SzI T 0 (szG T i Z)
 | 0,Z,_,h=>h
 | i+1,Z,hi,h=>aMF k e d (i:=i) (Z:=szS T i Z) au (aRR k e d au h)
def aKV(u:gP g=some T)(o:T.length=g.cg.length)(v:g.cg.length<=100000)(hi:i<g.cg.length):(szL T g.cg.length).getD i 0=((eJ T i:Nat):Int)/\1<=eJ T i/\i+eJ T i<=g.cg.length:=by
 have p:fB g.cg.length (dN g) (g.cg.length+1) 0 (-1) 0=some T:=u;have k:=mN az p;have r:=jU p;have d:∀ (j:Nat) (t:cS),T[j]? =some t->t.1<(j:Int)/\(0<j->0<=t.1):=fun j t l=>by
  have n:=(Ai.1 l).1;rcases Ci j with f|f
  .subst f;have:=r.root;unfold jY at this;rw[l] at this;have e:t.1= -1:=Bh this;exact⟨au,fun h=>absurd h (Nat.lt_irrefl 0)⟩
  .have⟨q,a,b,_⟩:=r.pf j f n;unfold jY at b;rw[l] at b;have e:t.1=((0+q:Nat):Int):=Bh b;exact⟨au,fun _=>au⟩
 have f:SzI T T.length (List.replicate g.cg.length 0):=⟨by rw[Aq,o],fun j l=>by
  rw[if_neg au,Cr (Af _),aL6 au];rfl⟩
 have s:=(aMF k au d (Af _) f).2 i au;rw[if_pos (Ck _),o] at s;have⟨w,x,y⟩:=qC k (au:i<T.length);exact⟨s,au,au⟩
def aKb(D:gP g=some T)(J:T.length=g.cg.length){p q:Nat}(hi:i<g.cg.length)(r:p<q)(s:q<(cu g i).next.length)(K:g.cg.length<=100000):((cu g i).next.getD p 0).toNat+eJ T ((cu g i).next.getD p 0).toNat<=((cu g i).next.getD q 0).toNat:=by
 have v:fB g.cg.length (dN g) (g.cg.length+1) 0 (-1) 0=some T:=D;have k:=mN az v;have u:=jU v;have f:dN g (0+i)=(cu g i).next:=by rw[Am];exact gR g i
 have mem:=fun t (w:t<(cu g i).next.length)=>show(cu g i).next.getD t 0∈dN g (0+i) by
  rw[f,Ad,Ab w];exact Bt w
 have d:=u.inc i au;rw[f] at d;have j:(cu g i).next.getD p 0<(cu g i).next.getD q 0:=by
  have:=Fb.1 d p q au s r;rw[Ad,Ab (au:p<(cu g i).next.length),Ad,Ab s];exact this
 have⟨E,F,G⟩:=u.cf i au _ (mem p au);have⟨H,I,o⟩:=u.cf i au _ (mem q s);obtain⟨x,A⟩:∃x:Nat,(cu g i).next.getD p 0=(x:Int):=⟨_,(Ee au).symm⟩;obtain⟨y,B⟩:∃y:Nat,(cu g i).next.getD q 0=(y:Int):=⟨_,(Ee au).symm⟩;rw[A] at E F G j;rw[B] at H I o j;rw[A,B,Ay,Ay];have l:T[x]? =some T[x]:=Ab au;have n:T[y]? =some T[y]:=Ab au;have C:T[y].1=(i:Int):=by
  unfold jY at o;rw[Ay,Es,n] at o;have e:T[y].1=((0+i:Nat):Int):=Bh o;omega
 have e:eJ T x=(T[x].2.2+1 - (x:Int)).toNat:=by unfold eJ;rw[l]
 rw[e];rcases Int.lt_or_le T[x].2.2 (y:Int) with h|h
 .omega
 .have:=k.nest x y _ _ l n au (by rw[Am];exact h);omega
end
def idL(n:Nat):bu:=(List.range n).map fun j:Nat=>(j:Int)
def uJ{f:Nat->Int}(h:j<n):((List.range n).map f).getD j 0=f j:=by
 rw[Ad,Az,Br h];rfl
def aFO{f:Nat->Int}(d:l.length=n)(h:∀j,j<n->l.getD j 0=f j):l=(List.range n).map f:=
 pT (by rw[d,Al,Bj]) fun j e=>by rw[h j au,uJ au]
def swF(a b n j:Nat):Nat:=if a<=j/\j<a+n then j - a+b else if b<=j/\j<b+n then j - b+a else j
def swL(N a b n:Nat):bu:=(List.range N).map fun j:Nat=>((swF a b n j:Nat):Int)
def shP(a b:Int)(l m:bu):Prop:=l.length=m.length/\∀k,k<l.length->l.getD k 0 - a=m.getD k 0 - b
def aTs(a b:Int)(x y:cJ):Prop:=x.kind=y.kind/\x.player=y.player/\x.pay=y.pay/\x.weights=y.weights/\shP a b x.next y.next
def aKa(g:aX)(T:List cS)(a b:Nat):Prop:=eJ T a=eJ T b/\∀t,t<eJ T a->aTs (a:Int) (b:Int) (cu g (a+t)) (cu g (b+t))
def bN.ptr{k:IntKind}{S:St}{v:AV}(h:bN k S v l)(hi:i<l.length):∃b off,eQ (.slice 1) v i=some (.ptr b off)/\b<S.nx/\eK (.ptr b off) false 1 S.h=some (.int k (l.getD i 0)):=by
 have d:=h.df hi;have ld:=h.ld hi;rcases h with⟨e,_⟩|⟨b,off,cap,o,cs,rfl,_,f,_⟩
 .rw[e] at hi;simp at hi
 .simp only[xS] at d ld;exact⟨b,_,d,f,ld⟩
def aOD(g:aX)(T:List cS)(i k j:Nat):Prop:=(cu g i).weights.getD k 0=(cu g i).weights.getD j 0/\aKa g T ((cu g i).next.getD k 0).toNat ((cu g i).next.getD j 0).toNat/\jD g (swL g.cg.length ((cu g i).next.getD k 0).toNat ((cu g i).next.getD j 0).toNat (eJ T ((cu g i).next.getD k 0).toNat))
open Classical in
noncomputable def oG(g:aX)(T:List cS)(i k:Nat):Nat->bt
 | 0=>[]
 | j+1=>oG g T i k j++if k<j/\aOD g T i k j then [swL g.cg.length ((cu g i).next.getD k 0).toNat ((cu g i).next.getD j 0).toNat (eJ T ((cu g i).next.getD k 0).toNat)] else []
noncomputable def rZ(g:aX)(T:List cS)(i:Nat):Nat->bt
 | 0=>[]
 | k+1=>rZ g T i k++oG g T i k (cu g i).next.length
noncomputable def mT(g:aX)(T:List cS):Nat->bt
 | 0=>[]
 | i+1=>mT g T i++if(cu g i).kind=1 then rZ g T i (cu g i).next.length else []
open Classical in
theorem aF7{g:aX}{T:List cS}{i k:Nat}:∀ {j:Nat},j<=k+1->oG g T i k j= []
 | 0,_=>rfl
 | j+1,h=>by
  show oG g T i k j++(if _ then _ else [])= [];rw[aF7 au,if_neg (fun e=>ax e.1)];rfl
def aOU{a:Nat}(d:a+n<=b)(e:b+n<=N)(f:j<N):swF a b n j<N:=by
 unfold swF;split
 .omega
 .split<;>omega
def aKZ{a:Nat}(d:a+n<=b)(e:b+n<=g.cg.length):aBb g (swL g.cg.length a b n):=
 aQg (by unfold swL;rw[Al,Bj]) fun i hi=>by
  unfold swL;rw[uJ hi];have:=aOU d e hi;omega
def aM0{a:Nat}(f:a+n<=b)(h:j<N):swF a b n (swF a b n j)=j:=by
 unfold swF;by_cases d:a<=j/\j<a+n
 .rw[if_pos d,if_neg (au:¬ (a<=j - a+b/\j - a+b<a+n)),if_pos (au:b<=j - a+b/\j - a+b<b+n)];omega
 .rw[if_neg d];by_cases e:b<=j/\j<b+n
  .rw[if_pos e,if_pos (au:a<=j - b+a/\j - b+a<a+n)];omega
  .rw[if_neg e,if_neg d,if_neg e]
def aJC{a:Nat}(hi:i<N):gE (swL N a b n) i=swF a b n i:=by
 unfold gE swL;rw[uJ hi,Ay]
def aHx{a:Nat}(d:a+n<=b)(e:b+n<=g.cg.length)(h:jD g (swL g.cg.length a b n)):gT g (swL g.cg.length a b n)/\aL3 g (swL g.cg.length a b n):=by
 have M:=aKZ (g:=g) d e;have f:aL3 g (swL g.cg.length a b n):=fun i hi=>by
  rw[aJC hi,aJC (aOU d e hi)];exact aM0 d hi
 refine⟨⟨M,?_,h⟩,f⟩;rintro⟨i,k,j,hi,o⟩;rw[M.len] at hi;have p:=(M.at hi).1;have q:=(M.at (au:k<g.cg.length)).1;have l:gE (swL g.cg.length a b n) i=gE (swL g.cg.length a b n) k:=by omega
 have:=f i hi;rw[l,f k au] at this;omega
structure aRh(g:aX)(T:List cS)(i k j:Nat):Prop where
 ap:((cu g i).next.getD k 0).toNat+eJ T ((cu g i).next.getD k 0).toNat<=((cu g i).next.getD j 0).toNat
 la:((cu g i).next.getD k 0).toNat<g.cg.length
 lb:((cu g i).next.getD j 0).toNat<g.cg.length
 nb:((cu g i).next.getD j 0).toNat+eJ T ((cu g i).next.getD j 0).toNat<=g.cg.length
 za:(szL T g.cg.length).getD ((cu g i).next.getD k 0).toNat 0=((eJ T ((cu g i).next.getD k 0).toNat:Nat):Int)
def aOW{T:List cS}{k:Nat}(G:eO g)(e:gP g=some T)(d:T.length=g.cg.length)(hi:i<g.cg.length)(f:k<j)(h:j<(cu g i).next.length):aRh g T i k j:=by
 have l:=G.n2;have⟨n,o⟩:=G.kids i hi k au;have⟨p,q⟩:=G.kids i hi j h;have⟨_,_,z3⟩:=aKV e d au (au:((cu g i).next.getD j 0).toNat<g.cg.length);exact⟨aKb e d hi f h au,au,au,z3,(aKV e d au (au:((cu g i).next.getD k 0).toNat<g.cg.length)).1⟩
def aNt{T:List cS}(G:eO g)(o:gP g=some T)(f:T.length=g.cg.length):∀m∈mT g T g.cg.length,gT g m/\aL3 g m:=by
 have p:∀i k,i<g.cg.length->∀j,j<=(cu g i).next.length->∀m∈oG g T i k j,gT g m/\aL3 g m:=by
  intro i k hi j
  induction j with
  | zero=>intro _ m d;cases d
  | succ j e=>
   intro u m d;rcases Bi.1 d with h|h
   .exact e au m h
   .split at h
    .rename_i q;have⟨l,_,n,r⟩:=q;have P:=aOW G o f hi l (au:j<(cu g i).next.length);rw[Cc.1 h];have:=P.nb;have:=n.1;exact aHx P.ap au r
    .cases h
 have s:∀i,i<g.cg.length->∀k,∀m∈rZ g T i k,gT g m/\aL3 g m:=by
  intro i hi k
  induction k with
  | zero=>intro m d;cases d
  | succ k e=>
   intro m d;rcases Bi.1 d with h|h
   .exact e m h
   .exact p i k hi _ (Af _) m h
 have t:∀i,i<=g.cg.length->∀m∈mT g T i,gT g m/\aL3 g m:=by
  intro i
  induction i with
  | zero=>intro _ m d;cases d
  | succ i e=>
   intro hi m d;rcases Bi.1 d with h|h
   .exact e au m h
   .split at h
    .exact s i au _ m h
    .cases h
 exact t _ (Af _)
open Classical in
def aOq{T:List cS}{k:Nat}(d:k<j)(h:aOD g T i k j):oG g T i k (j+1)=oG g T i k j++ [swL g.cg.length ((cu g i).next.getD k 0).toNat ((cu g i).next.getD j 0).toNat (eJ T ((cu g i).next.getD k 0).toNat)]:=by
 show oG g T i k j++(if _ then _ else [])=_;rw[if_pos ⟨d,h⟩]
open Classical in
def aL8{T:List cS}{k:Nat}(h:¬aOD g T i k j):oG g T i k (j+1)=oG g T i k j:=by
 show oG g T i k j++(if _ then _ else [])=_;rw[if_neg (fun e=>h e.2),Bu]
open Classical in
theorem aCi{g:aX}{T:List cS}{i k:Nat}:∀ {j:Nat},(oG g T i k j).length<=j
 | 0=>Af _
 | j+1=>by
  have d:=aCi (g:=g) (T:=T) (i:=i) (k:=k) (j:=j);show(oG g T i k j++(if _ then _ else [])).length<=_;rw[Aj];split
  .rw[Ba];omega
  .show _+0<=_;omega
theorem aCe{g:aX}{T:List cS}{i:Nat}:∀ {k:Nat},(rZ g T i k).length<=k * (cu g i).next.length
 | 0=>Ck _
 | k+1=>by
  have d:=aCe (g:=g) (T:=T) (i:=i) (k:=k);have:=aCi (g:=g) (T:=T) (i:=i) (k:=k) (j:=(cu g i).next.length);show(rZ g T i k++oG g T i k _).length<=_;rw[Aj,Dr];omega
theorem aFS{g:aX}{T:List cS}(G:eO g):∀ {i:Nat},i<=g.cg.length->(mT g T i).length<=i * 1000000
 | 0,_=>Ck _
 | i+1,hi=>by
  have h:=aFS (T:=T) G (i:=i) au;have d:=aCe (g:=g) (T:=T) (i:=i) (k:=(cu g i).next.length);have f:(cu g i).next.length * (cu g i).next.length<=1000 * 1000:=Ey (G.nxt i au) (G.nxt i au);have e:(if(cu g i).kind=1 then rZ g T i (cu g i).next.length else []).length<=1000 * 1000:=by
   split
   .exact Av d f
   .exact Ck _
  show(mT g T i++(if _ then _ else [])).length<=_;rw[Aj];omega
def aNM{e:Nat}{x:cJ}(h:gQ ps e x=0):x.weights.length<=1000:=by
 unfold gQ at h;split at h
 .split at h
  .cases h
  .rename_i d;unfold oL at d;omega
 .split at h
  .split at h
   .cases h
   .rename_i d;unfold vD at d;omega
  .split at h
   .split at h
    .cases h
    .rename_i d;unfold oM at d;omega
   .cases h
def aI2(h:dC g=0)(hi:i<g.cg.length):gQ g.cm g.ch.length (cu g i)=0:=by
 unfold dC at h;split at h
 .cases h
 split at h
 .rename_i d;exact absurd h d
 rename_i e;exact jF (Dx.1 e) _ (Ar (dI hi))
def shN(f s:Int)(x:cJ):cJ:=⟨x.kind,x.player,if x.kind=2 then x.info+s else x.info,x.next.map (· +f),x.weights,x.pay⟩
def pH(one:aX)(seen:Bool)(c:Nat):Nat:=if seen=true then c * one.ch.length else 0
def tO(one:aX)(seen:Bool)(c:Nat):List cJ:=one.cg.map (shN ((1+c * one.cg.length:Nat):Int) ((pH one seen c:Nat):Int))
def oC(one:aX)(seen:Bool):Nat->List cJ
 | 0=>[]
 | c+1=>oC one seen c++tO one seen c
def rS(n c:Nat):bu:=(List.range c).map fun j:Nat=>((1+j * n:Nat):Int)
def aKS(n c:Nat):cJ:=⟨1,0,0,rS n c,List.replicate c 1,[]⟩
def kL(one:aX)(seen:Bool):Nat->List fU
 | 0=>[]
 | c+1=>if c=0\/seen=true then kL one seen c++one.ch else kL one seen c
def uW(one:aX)(c:Nat)(seen:Bool):aX:=⟨one.cm,aKS one.cg.length c::oC one seen c,kL one seen c⟩
section
variable {one:aX}{seen:Bool}
def zV:(tO one seen c).length=one.cg.length:=by unfold tO;rw[Al]
theorem rN:∀ {c:Nat},(oC one seen c).length=c * one.cg.length
 | 0=>by rw[Dy];rfl
 | c+1=>by
  show(oC one seen c++tO one seen c).length=_;rw[Aj,rN (c:=c),zV,Dr]
def aHw:(uW one c seen).cg.length=1+c * one.cg.length:=by
 show(_::oC one seen c).length=_;rw[Ax,rN,Nat.add_comm]
theorem mA(d:seen=true):∀ {c:Nat},(kL one seen c).length=c * one.ch.length
 | 0=>by rw[Dy];rfl
 | c+1=>by
  show(if c=0\/seen=true then kL one seen c++one.ch else kL one seen c).length=_;rw[if_pos (.inr d),Aj,mA d (c:=c),Dr]
theorem vG(d:seen=false):∀ {c:Nat},0<c->kL one seen c=one.ch
 | 0,h=>absurd h (Ca _)
 | c+1,_=>by
  show(if c=0\/seen=true then kL one seen c++one.ch else kL one seen c)=_;by_cases e:c=0
  .subst e;rw[if_pos (.inl rfl)];exact Bw _
  .rw[if_neg (by rw[d];rintro(h|h);exact e h;cases h)];exact vG d au
theorem aMi(hi:i<one.ch.length):∀ {c:Nat},j<c->(kL one seen c)[i+pH one seen j]? =one.ch[i]? :=by
 intro c h;cases k:seen with
 | false=>
  rw[vG rfl au];unfold pH;rw[if_neg az,Bs]
 | true=>
  unfold pH;rw[if_pos rfl]
  induction c with
  | zero=>omega
  | succ c d=>
   show(if c=0\/true=true then kL one true c++one.ch else kL one true c)[_]? =_;rw[if_pos (.inr rfl)];by_cases e:j=c
   .subst e;rw[Ap (by rw[mA rfl];omega),mA rfl,Eh]
   .have f:(j+1) * one.ch.length<=c * one.ch.length:=Db _ au;rw[Dr] at f;rw[Ao (by rw[mA rfl];omega)];exact d au
end
theorem aEK{d rec:Nat->Option (List cS)}{a:Nat}(i:∀ (r:Nat) (L0:List cS),d r=some L0->∃L,rec (a+r)=some L/\L.length=L0.length/\L.map (fun t:cS=>t.2.1)=L0.map fun t:cS=>t.2.1):∀ {l:bu} {r:Nat} {L0:List cS},fR d l r=some L0->∃L,fR rec (l.map (· +(a:Int))) (a+r)=some L/\L.length=L0.length/\L.map (fun t:cS=>t.2.1)=L0.map fun t:cS=>t.2.1
 | [],r,L0,h=>by
  have h:some []=some L0:=h;cases h;exact⟨[],rfl,rfl,rfl⟩
 | c::l,r,L0,h=>by
  simp only[fR] at h;split at h
  .rename_i u;have⟨e,k,n⟩:=Cu.1 h;obtain⟨v,o,rfl⟩:=Bb.1 n;have⟨f,p,j,q⟩:=i r e k;have⟨s,f1,f2,f3⟩:=aEK i o;refine⟨f++s,?_,by rw[Aj,Aj,j,f2],by rw[Co,Co,q,f3]⟩;show(if c+(a:Int)=((a+r:Nat):Int) then(rec (a+r)).bind fun e=>(fR rec (l.map (· +(a:Int))) (a+r+e.length)).map (e++ ·) else none)=_;rw[if_pos au,p];show(fR rec (l.map (· +(a:Int))) (a+r+f.length)).map (f++ ·)=_;rw[j,show a+r+e.length=a+(r+e.length) by omega,f1];rfl
  .cases h
theorem aD0{n N a:Nat}{e nx:Nat->bu}(o:a+n<=N)(k:∀j,j<n->nx (a+j)=(e j).map (· +(a:Int))):∀ {f i:Nat} {p q d:Int} {l:List cS},fB n e f i p d=some l->∃L,fB N nx f (a+i) q d=some L/\L.length=l.length/\L.map (fun t:cS=>t.2.1)=l.map fun t:cS=>t.2.1
 | 0,_,_,_,_,_,h=>by cases h
 | f+1,i,p,q,d,l,h=>by
  simp only[fB] at h;split at h
  .rename_i hi;obtain⟨L,s,rfl⟩:=Bb.1 h;have⟨M,u,v,w⟩:=aEK (rec:=fun r=>fB N nx f r ((a+i:Nat):Int) (d+1)) (a:=a) (fun r l x=>aD0 o k x) s;refine⟨(q,d,((a+i+M.length:Nat):Int))::M,?_,by rw[Ax,Ax,v],by rw[Dg,Dg,w]⟩;simp only[fB];rw[if_pos au,k i hi,show a+i+1=a+(i+1) by omega,u];rfl
  .cases h
def tX.shift{k a:Nat}{s:Int}{B:List cJ}(h:tX k 0 B):tX k a (B.map (shN (a:Int) s)):=by
 refine⟨by rw[Al];exact h.1,fun N nx l e f p d n=>?_⟩;rw[Al] at l n;have⟨r,v,w,y⟩:=h.2 B.length (fun i=>((B[i]?).map (·.next)).getD []) au (fun i x hi=>by
  show((B[0+i]?).map (·.next)).getD []=_;rw[Am,hi];rfl) f p d n
 have⟨L,A,C,D⟩:=aD0 (N:=N) (a:=a) (nx:=nx) (q:=p) l (fun j o=>by
  have:=e j (shN (a:Int) s B[j]) (by rw[Az,Ab o];rfl);rw[this,Ab o];rfl) v
 refine⟨L,A,by rw[C,w,Al],fun t E=>?_⟩;have F:t.2.1∈r.map fun t:cS=>t.2.1:=by rw[<-D];exact Cq.2 ⟨t,E,rfl⟩
 have⟨u,G,H⟩:=Cq.1 F;have:=y u G;omega
theorem gJ.le{l:List (Option Nat)}(h:gJ l n):n<=l.length:=by
 induction h with
 | nil=>exact Af _
 | none _ d=>rw[Aj];omega
 | old _ _ d=>rw[Aj];omega
 | new _ d=>rw[Aj,Ba];omega
theorem gJ.lt{l:List (Option Nat)}(h:gJ l n):∀i,some i∈l->i<n:=by
 induction h with
 | nil=>intro i hi;cases hi
 | none _ d=>
  intro i hi;rcases Bi.1 hi with h|h
  .exact d i h
  .have:=Cc.1 h;cases this
 | old _ e d=>
  intro i hi;rcases Bi.1 hi with h|h
  .exact d i h
  .have:=Cc.1 h;cases this;exact e
 | new _ d=>
  intro i hi;rcases Bi.1 hi with h|h
  .have:=d i h;omega
  .have:=Cc.1 h;cases this;omega
theorem gJ.app{l l':List (Option Nat)}{f:Nat}(h:gJ l n)(h':gJ l' f):gJ (l++l'.map (Option.map (· +n))) (n+f):=by
 induction h' with
 | nil=>rw[List.map_nil,Bu];exact h
 | none _ e=>rw[Co,<-Bg];exact e.none
 | old _ i e=>rw[Co,<-Bg];exact e.old (by show _+n<_;omega)
 | @new j d _ e=>
  rw[Co,<-Bg];have:=e.new;rw[show n+d=d+n by omega] at this;show gJ (_++ [some (d+n)]) _;rw[show n+(d+1)=d+n+1 by omega];exact this
theorem gJ.same:∀ {l' l:List (Option Nat)} {n:Nat},gJ l n->(∀i,some i∈l'->i<n)->gJ (l++l') n
 | [],l,n,h,_=>by rw[Bu];exact h
 | x::l',l,n,h,h'=>by
  rw[List.append_cons];refine gJ.same ?_ fun i hi=>h' i (Bf _ hi);cases x with
  | none=>exact h.none
  | some i=>exact h.old (h' i (Bk ..))
structure aDb(one:aX):Prop where
 prs:1<=one.cm/\one.cm<=4
 n1:1<=one.cg.length
 n2:one.cg.length<=60
 form:dC one=0
 ok:∀x∈one.cg,kI one.cm one.ch x
 sub:∃k,k<=5/\tX k 0 one.cg
 ord:gJ (one.cg.map lbl) one.ch.length
section
variable {one:aX}{seen:Bool}
theorem aD8{x:cJ}:∀ {c:Nat},x∈oC one seen c->∃j y,j<c/\y∈one.cg/\x=shN ((1+j * one.cg.length:Nat):Int) ((pH one seen j:Nat):Int) y
 | 0,h=>by cases h
 | c+1,h=>by
  rcases Bi.1 h with h|h
  .have⟨j,y,a,b,e⟩:=aD8 h;exact⟨j,y,au,b,e⟩
  .have⟨y,b,e⟩:=Cq.1 h;exact⟨c,y,Dj _,b,e.symm⟩
def aR8{f:Int}(i:j<c)(h:kI one.cm one.ch y):kI one.cm (kL one seen c) (shN f ((pH one seen j:Nat):Int) y):=by
 have d:(shN f ((pH one seen j:Nat):Int) y).next.length=y.next.length:=Al ..;rcases h with h|h|h
 .refine .inl ⟨h.kind,h.player,?_,?_,h.wts,h.len,h.pay⟩
  .show(if y.kind=2 then _ else y.info)=0;rw[if_neg (by rw[h.kind];decide)];exact h.info
  .show y.next.map _= [];rw[h.next];rfl
 .refine .inr (.inl ⟨h.kind,h.player,?_,h.pay,by rw[d];exact h.n1,by rw[d];exact h.n2,by rw[d];exact h.len,h.wts⟩);show(if y.kind=2 then _ else y.info)=0;rw[if_neg (by rw[h.kind];decide)];exact h.info
 .have hi:(shN f ((pH one seen j:Nat):Int) y).info=y.info+((pH one seen j:Nat):Int):=by
   show(if y.kind=2 then _ else y.info)=_;rw[if_pos h.kind]
  refine .inr (.inr ⟨h.kind,h.wts,h.pay,by rw[d];exact h.n1,by rw[d];exact h.n2,h.pl,by rw[hi];have:=h.inf;omega,?_⟩);have e:=(Ai.1 h.at_).1;rw[hi,show(y.info+((pH one seen j:Nat):Int)).toNat=y.info.toNat+pH one seen j by have:=h.inf;omega,aMi e i,h.at_,d];rfl
def aPH{I:List fU}(e:1<=c/\c<=3):kI ps I (aKS n c):=by
 have d:(aKS n c).next.length=c:=by show(rS n c).length=c;unfold rS;rw[Al,Bj]
 refine .inr (.inl ⟨rfl,rfl,rfl,rfl,by rw[d];exact e.1,by rw[d];exact e.2,by rw[d];exact Aq ..,fun w f=>?_⟩);have:w∈List.replicate c (1:Int):=f;rw[List.eq_of_mem_replicate this];decide
theorem aD7{k:Nat}(h:tX k 0 one.cg):∀ {c:Nat},aFc k 1 (rS one.cg.length c) (oC one seen c)
 | 0=>aFc.nil
 | c+1=>by
  have:=(aD7 h (c:=c)).snoc (B:=tO one seen c) (by rw[rN];exact h.shift);rw[rN] at this;have e:rS one.cg.length (c+1)=rS one.cg.length c++ [((1+c * one.cg.length:Nat):Int)]:=by unfold rS;rw[List.range_succ,Co];rfl
  rw[e];exact this
def aRk{f:Int}{s:Nat}(h:y.kind=2->0<=y.info):lbl (shN f (s:Int) y)=(lbl y).map (· +s):=by
 unfold lbl;by_cases d:y.kind=2
 .rw[if_pos d,if_pos (show(shN f (s:Int) y).kind=2 from d)];have e:(shN f (s:Int) y).info=y.info+(s:Int):=by
   show(if y.kind=2 then _ else y.info)=_;rw[if_pos d]
  rw[e];show some (y.info+(s:Int)).toNat=some (y.info.toNat+s);have:=h d;rw[show(y.info+(s:Int)).toNat=y.info.toNat+s by omega]
 .rw[if_neg d,if_neg (show ¬ (shN f (s:Int) y).kind=2 from d)];rfl
def aO3(h:aDb one):(tO one seen c).map lbl=(one.cg.map lbl).map (Option.map (· +pH one seen c)):=by
 unfold tO;rw[Fi,Fi];refine Eq fun y d=>(aRk fun e=>?_);rcases h.ok y d with h|h|h
 .have:=h.kind;omega
 .have:=h.kind;omega
 .exact h.inf
theorem aA2(h:aDb one):∀ {c:Nat},0<c->gJ ((oC one seen c).map lbl) (kL one seen c).length
 | 0,d=>absurd d (Ca _)
 | c+1,_=>by
  show gJ ((oC one seen c++tO one seen c).map lbl) _;rw[Co,aO3 h];by_cases f:seen=true
  .rw[mA f];have e:pH one seen c=c * one.ch.length:=by unfold pH;rw[if_pos f]
   rw[e,Dr];rcases Ci c with d|d
   .subst d;rw[Dy,Am];have:=gJ.app gJ.nil h.ord
    rwa [Am] at this
   .have:=aA2 h d;rw[mA f] at this;exact this.app h.ord
  .have f:seen=false:=by cases seen<;>first | rfl | exact absurd rfl f
   rw[vG f (Nat.succ_pos c)];have e:pH one seen c=0:=by unfold pH;rw[if_neg (by rw[f];decide)]
   rw[e];rcases Ci c with d|d
   .subst d;have:=gJ.app gJ.nil h.ord
    rwa [Am] at this
   .have:=aA2 h d;rw[vG f d] at this;refine this.same fun i hi=>?_;have⟨x,k,j⟩:=Cq.1 hi;cases x with
    | none=>cases j
    | some v=>
     have j:some (v+0)=some i:=j;cases j;exact h.ord.lt v k
theorem gJ.cons{l:List (Option Nat)}(h:gJ l n):gJ (Option.none::l) n:=by
 induction h with
 | nil=>exact gJ.nil.none
 | none _ d=>exact d.none
 | old _ e d=>exact d.old e
 | new _ d=>exact d.new
def aGf(h:aDb one)(d:1<=c/\c<=3):dC (uW one c seen)=0/\(∀x∈(uW one c seen).cg,kI (uW one c seen).cm (uW one c seen).ch x):=by
 have⟨k,s,i⟩:=h.sub;have l:=h.n1;have n:=h.n2;have t:one.ch.length<=one.cg.length:=by have:=h.ord.le;rwa [Al] at this
 have o:c * one.cg.length<=3 * 60:=Ey d.2 h.n2;have p:(kL one seen c).length<=3 * 60:=by
  cases u:seen with
  | true=>rw[mA rfl];exact Ey d.2 au
  | false=>rw[vG rfl d.1];omega
 have e:∀x∈(uW one c seen).cg,kI (uW one c seen).cm (uW one c seen).ch x:=fun x f=>by
  rcases Bp.1 f with rfl|f
  .exact aPH d
  .obtain⟨j,y,q,r,rfl⟩:=aD8 f;exact aR8 q (h.ok y r)
 refine⟨aIr (k:=k+1) h.prs (by rw[aHw];omega) (by show(kL one seen c).length<=200;omega) e (tX.node (aD7 i)) au ?_,e⟩;show gJ (lbl (aKS one.cg.length c)::(oC one seen c).map lbl) _;exact(aA2 h d.1).cons
end
def aK6{k:Nat}(e:k<l.length)(f:l.getD k 0=x)(h:∀k',k'<l.length->l.getD k' 0=x->k'=k):lM l 0 x=(k:Int):=by
 have i:l[k]? =some x:=by rw[<-f,Ad,Ab e];rfl
 rcases pV (c:=x) (l:=l) (s:=0) with⟨_,d⟩|⟨j,n,d,_⟩
 .exact absurd (Ar i) d
 .have:=h j (Ai.1 d).1 (by rw[Ad,d];rfl);rw[n,this,Am]
def aON{f:Int}{k:Nat}(d:k<l.length):(l.map (· +f)).getD k 0=l.getD k 0+f:=by
 rw[Ad,Az,Ab d,Ad,Ab d];rfl
section
variable {one:aX}{seen:Bool}{c:Nat}
def aMr:(rS n c).length=c:=by unfold rS;rw[Al,Bj]
end
end Go.Ev.Gl
