import Derived.Test.YtbmodoaceepfoaaGl7
set_option linter.all false
open Nat renaming reduceEqDiff -> rE, reduceAdd -> rA
set_option maxHeartbeats 0
namespace Go.Ev.Gl
variable {fns:T eY}
variable {S X:St}{b:List cS}{l R Z:bu}{v pv nv iv mv:AV}{c:Int}{n K j r i d:Nat}{cs:cd}{x:cT}{A:bO}{Q:Out->bO->St->Prop}{g:aX}{ok:Prop}
def aSz(S:St)(a b:AV)(l m:bu)(k:Nat)(A:bO)(X:St):Prop:=A.inr=false/\Same S X/\∃i,i+k=l.length/\l.take i=m.take i/\aC 0 A.F=a/\aC 1 A.F=b/\aC 5 A.F=je (i:Int)
def tI{a b:AV}{m:bu}(H:Has fns)(t:bN .i64 S a l)(v:bN .i64 S b m)(G:l.length<=140737488355328):iI fns (.fn 12 [] []) [a,b] S fun r S'=>r= .bool (decide (l=m))/\Same S S':=by
 refine cK H.f12 (by simp) ?_;refine am ?_;refine cA (am ?_);refine gH (ft t.len v.len @Ah ?_);by_cases w:l.length=m.length;rotate_left
 .rw[Aa (show ¬l=m from fun e=>w (by rw[e]))];refine aS io ?_;refine cA (am ?_);refine aT (am ?_);exact eu _
 refine aQ io (aK ?_);refine am ?_
 refine aD (bB (Q:=fun o z X=>(o= .normal/\aSz S a b l m 0 z X)\/(o= .ret/\Same S X/\l≠m/\aC 4 z.F= .bool false)) (aD (aL ?_)) ?_)
 .refine am ?_;refine aO (bX (aSz S a b l m) ?_ l.length _ _ ⟨rfl,eu _,0,au,rfl,by refine⟨?_,?_,?_⟩<;>simp only[↓aF,aE,rE,↓reduceIte,rA]⟩);rintro k ⟨F,inr⟩ X ⟨n,d,i,p,q,g,s,j⟩;simp only at n g s j;subst n;refine gH (fu g j t.len @Ah ?_);by_cases f:i<l.length
  .refine aS io (aK ?_);refine am ?_
   have c:i<m.length:=by omega
   have B:=(t.same d).df f;have C:=(t.same d).ld f;have D:=(v.same d).df c;have lb:=(v.same d).ld c;have E:=ed i
   refine aD (aO (aD (jK ?_)));refine gu g s j @aJ B D C lb ?_;have el:l.getD i 0=l[i]:=by rw[Ad,Ab f];rfl
   have em:m.getD i 0=m[i]:=by rw[Ad,Ab c];rfl
   by_cases u:l.getD i 0=m.getD i 0
   .refine aQ (iz (Aa (show ¬l.getD i 0≠m.getD i 0 from fun h=>h u))) (aK ?_);refine am ?_
    refine aL (fo j E ?_);refine⟨k - 1,au,rfl,d.trans (Same.nx _ _),i+1,au,?_,by refine⟨?_,?_,?_⟩<;>simp only[↓aF,aE,rE,↓reduceIte,rA,g,s]⟩;rw[Bx,Bx,q,Ab f,Ab c,<-el,<-em,u]
   .refine aS (iz (Ac (show l.getD i 0≠m.getD i 0 from u))) ?_;refine cA (am ?_);refine aT (am ?_);exact .inr ⟨d.trans (Same.nx _ _),fun e=>u (by rw[e])⟩
  .refine aQ io (bT ?_);refine am ?_;have x:k=0:=by omega
   subst x;exact .inl ⟨rfl,d,i,p,q,by refine⟨?_,?_,?_⟩<;>simp only[↓aF,aE,rE,↓reduceIte,rA,g,s,j]⟩
 rintro o ⟨F,inr⟩ X (⟨rfl,n,d,i,p,q,g,s,j⟩|⟨rfl,d,y,A⟩);rotate_left
 .simp only at A;refine fl A ?_;rw[Aa y];exact⟨rfl,d⟩
 simp only at n;subst n;rw[Bd au,Bd au] at q;rw[Ac q];refine am ?_
 refine cA (am ?_);refine aT (am ?_);exact d
def aC3{a b:AV}{m:bu}(H:Has fns)(c:bN .i64 S a l)(d:bN .i64 S b m)(e:l.length<=10000000):iI fns (.fn 12 [] []) [a,b] S fun r S'=>r= .bool (decide (l=m))/\Same S S':=
 tI H c d au
def tC(S a:St)(v:AV)(l:bu):Prop:=∃b,v= .sl b 0 l.length l.length false/\S.nx<=b/\b<a.nx/\a.h.get b=jf (bD l)
def tC.is{a:St}(h:tC S a v l):bN .i64 a v l:=by
 obtain⟨b,rfl,e,c,d⟩:=h;exact aDM d c rfl
def tC.same{c a:St}(h:tC S c v l)(d:Same c a):tC S a v l:=by
 have⟨b,f,g,e,i⟩:=h;exact⟨b,f,g,Ae e d.1,(d.2 _ e).trans i⟩
def wH(n:Nat):repeatL [AV.int .i64 0] n=bD (List.replicate n 0):=by rw[repeatL_one];simp [bD]
def aKT{m:bu}(b:l.length=m.length)(h:∀j,j<m.length->l.getD j 0=m.getD j 0):l=m:=by
 refine Dc b fun j c a=>?_;have:=h j a;rw[Ad,Ad,Ab c,Ab a] at this;exact this
def aKr(S:St)(rb n:Nat)(f:Nat->Int)(P:Fr->Nat->Prop)(k:Nat)(A:bO)(X:St):Prop:=A.inr=false/\Same S X/\rb<X.nx/\∃ (i:Nat) (l:bu),i+k=n/\l.length=n/\(∀j,j<i->l.getD j 0=f j)/\X.h.get rb=jf (bD l)/\P A.F i
def xD(H:Has fns)(A:n<=1000000):iI fns (.fn 81 [] []) [je (n:Int)] S fun r S'=>tC S S' r (List.replicate n (-1))/\Same S S':=by
 refine cK H.f81 (by simp) ?_;refine am ?_;refine cA (am ?_);refine cA (am ?_);refine fW (pU (n:=n) (iz @aJ) (iz @aJ) ay ay) ?_;intro S1 s1 B w;rw[wH] at w;refine am ?_;refine aD (bB (Q:=fun o x X=>o= .normal/\aKr S S.nx n (fun _=> -1) (fun F i=>aC 3 F= .sl S.nx 0 n n false/\aC 8 F=je (n:Int)/\aC 9 F=je (i:Int)) 0 x X) (aD (aL ?_)) ?_)
 .have y:kR (.sl S.nx 0 n n false)=some (je (n:Int)):=rfl;refine fl y ?_;refine aO (bX (aKr S S.nx n (fun _=> -1) (fun F i=>aC 3 F= .sl S.nx 0 n n false/\aC 8 F=je (n:Int)/\aC 9 F=je (i:Int))) ?_ n _ _ ⟨rfl,s1,au,0,_,au,Aq ..,fun j m=>au,w,by refine⟨?_,?_,?_⟩<;>simp only[↓aF,aE,rE,↓reduceIte,rA]⟩);rintro k ⟨F,inr⟩ X ⟨f,p,q,i,l,g,d,s,t,a,h,e⟩;simp only at f a h e;subst f;refine cA (fo h e ?_);by_cases c:i<n
  .refine aD (aS io (aK ?_));refine am ?_
   have z:=ed i
   have u:=fQ (b:=S.nx) (o:=false) c;refine aD (aO (aD (aL ?_)));refine fl e ?_;refine aL (ft a @aJ u ?_);rw[show Int.negSucc 0=(-1:Int) from rfl];refine fN (fun call=>by refine fo @dL @dD ?_;exact yI (S:=X) t (by rw[d];exact c)) ?_;refine am ?_;refine aL (fo e z ?_);refine⟨k - 1,au,rfl,p.put (Af _) _,q,i+1,l.set i (-1),au,by rw[Aw];exact d,fun j m=>?_,jd,by refine⟨?_,?_,?_⟩<;>simp only[↓aF,aE,rE,↓reduceIte,rA,a,h]⟩;rw[iE (by rw[d];exact c)];split
   .rfl
   .exact s j au
  .refine aD (aQ io (bT ?_));refine am ?_;have v:k=0:=by omega
   subst v;exact⟨rfl,p,q,i,l,g,d,s,t,by refine⟨?_,?_,?_⟩<;>simp only[↓aF,aE,rE,↓reduceIte,rA,a,h,e]⟩
 rintro o ⟨F,inr⟩ X ⟨rfl,f,p,q,i,l,g,d,s,t,a,h,e⟩;simp only at f a;subst f;have el:l=List.replicate n (-1):=aKT (by rw[d,Aq]) fun j m=>by
  rw[Aq] at m;rw[s j au,Ad,Ch,if_pos m];rfl
 subst el;refine am ?_
 refine cA (fl a ?_);refine aT (am ?_);exact⟨⟨S.nx,by rw[Aq],Af _,q,t⟩,p⟩
def aBg(a:bu)(n:Nat):Prop:=∀x∈a,0<=x/\x<n
def lM:bu->Nat->Int->Int
 | [],_,_=> -1
 | x::l,s,c=>if x=c then(s:Int) else lM l (s+1) c
theorem pV{c:Int}:∀ {l:bu} {s:Nat},(lM l s c= -1/\c∉l)\/∃k,lM l s c=((s+k:Nat):Int)/\l[k]? =some c/\∀j,j<k->l[j]? ≠some c
 | [],s=>.inl ⟨rfl,by simp⟩
 | x::l,s=>by
  simp only[lM];by_cases h:x=c
  .rw[if_pos h];exact .inr ⟨0,rfl,by rw[h];rfl,fun j d=>au⟩
  .rw[if_neg h];rcases pV (c:=c) (l:=l) (s:=s+1) with⟨a,b⟩|⟨k,a,b,f⟩
   .exact .inl ⟨a,by rw[Bp];rintro(e|e);exact h e.symm;exact b e⟩
   .refine .inr ⟨k+1,by rw[a];congr 1;omega,b,fun j d=>?_⟩;cases j with
    | zero=>simp only[Eo,ne_eq,Au];exact h
    | succ j=>rw[Ea];exact f j au
def aTe(S:St)(nb:Nat)(c:Int)(l:bu)(k:Nat)(A:bO)(X:St):Prop:=A.inr=false/\Same S X/\∃i,i+k=l.length/\lM l 0 c=lM (l.drop i) i c/\aC 1 A.F=je c/\aC 2 A.F= .ptr nb 0/\aC 5 A.F=je (i:Int)
def aJk{x:cJ}(H:Has fns)(y:cF S cs x)(E:x.next.length<=100000):iI fns (.fn 55 [] []) [.agg cs,je c] S fun r S'=>r=je (lM x.next 0 c)/\Same S S':=by
 obtain⟨a,z,A,rfl,s,_,_⟩:=y;refine cK H.f55 (by simp) ?_;refine ae ?_;refine cA ?_;refine cR (by refine ae ?_;exact aY _) ?_;intro S1 s1 G B;refine ae ?_;have lb:S.nx<S1.nx:=by omega
 refine aD (bB (Q:=fun o t X=>(o= .normal/\aTe S1 S.nx c x.next 0 t X)\/(o= .ret/\Same S1 X/\aC 4 t.F=je (lM x.next 0 c))) (aD (aL ?_)) ?_)
 .refine am ?_;refine aO (bX (aTe S1 S.nx c x.next) ?_ x.next.length _ _ ⟨rfl,eu _,0,au,rfl,by refine⟨?_,?_,?_⟩<;>simp only[↓aF,aE,rE,↓reduceIte,rA]⟩);rintro k ⟨F,inr⟩ X ⟨j,d,i,l,b,m,h,f⟩;simp only at j m h f;subst j;have u:X.h.get S.nx=jf [je x.kind,je x.player,je x.info,a,z,A]:=by rw[d.2 _ lb];exact B
  have n:=s.same (s1.trans d);refine gH (gj h f @aB @aA (dG u) s.len @Ah ?_);by_cases e:i<x.next.length
  .refine aS io (aK ?_);refine am ?_
   have C:=n.df e;have v:=n.ld e;have el:x.next.getD i 0=x.next[i]:=by rw[Ad,Ab e];rfl
   have g:x.next.drop i=x.next[i]::x.next.drop (i+1):=Bz e;have D:=ed i
   rw[g] at b;simp only[lM] at b;rw[el] at v;refine aD (aO (aD (aL ?_)));simp only[↓aF,aE,rE,↓reduceIte,rA,m,h,f,aB,aA,dG u,aJ,C,v];by_cases p:x.next[i]=c
   .rw[if_pos p] at b;refine aS (iz (Ac p)) ?_;refine cA (fl f ?_);refine aT (am ?_);exact .inr ⟨d,by rw[b]⟩
   .rw[if_neg p] at b;refine aQ (iz (Aa p)) (aK ?_);refine am ?_
    refine aL (fo f D ?_);exact⟨k - 1,au,rfl,d,i+1,au,b,by refine⟨?_,?_,?_⟩<;>simp only[↓aF,aE,rE,↓reduceIte,rA,m,h]⟩
  .refine aQ io (bT ?_);refine am ?_;have q:k=0:=by omega
   subst q;exact .inl ⟨rfl,d,i,l,b,by refine⟨?_,?_,?_⟩<;>simp only[↓aF,aE,rE,↓reduceIte,rA,m,h,f]⟩
 rintro o ⟨F,inr⟩ X (⟨rfl,j,d,i,l,b,m,h,f⟩|⟨rfl,d,w⟩);rotate_left
 .simp only at w;refine fl w ?_;exact s1.trans d
 simp only at j;subst j;rw[Cr au] at b;refine am ?_
 refine cA (am ?_);refine aT (am ?_);exact⟨by rw[b];rfl,s1.trans d⟩
def aRD(h:T AB)(K:Nat)(l:mC):Prop:=oY l.v (gO l.q l.F h)=true/\l.i<K/\Nat.testBit l.mask K=false
theorem aBn{h:T AB}{base K:Nat}{e:List AO}{Q:DS->Prop}:∀ {pre:List AO} {i:Nat} {F:Fr} {S:St} {ls:List mC},S.h=h->i+pre.length=K->(∀o∈pre,Nat.testBit o.mask K=false)->(∀l∈ls,aRD h K l)->
  pK pre F h (fun F'=>∀f,(∀l∈f,aRD h K l)->wpd fns e K base ⟨F',S,[],[],f⟩ Q)->wpd fns (pre++e) i base ⟨F,S,[],[],ls⟩ Q
 | [],i,F,S,ls,r,p,_,j,c=>by
  simp only[Cb,Bs] at p;subst p;exact c ls j
 | ⟨d,.q q,g,m⟩::l,i,F,S,ls,r,p,w,j,c=>by
  simp only[pK] at c;have t:i+1+l.length=K:=by rw[Ax] at p;omega
  have u:∀o∈l,Nat.testBit o.mask K=false:=fun o C=>w o (Bf _ C);have D:Nat.testBit m K=false:=w _ (Bk ..);have go:∀ (_:mR (gO q F h) fun v=>(eE q=true->cO v v=true)/\pK l (cU d F v) h (fun F'=>∀f,(∀l∈f,aRD h K l)->wpd fns e K base ⟨F',S,[],[],f⟩ Q)),wpd fns (⟨d,.q q,none,m⟩::(l++e)) i base ⟨F,S,[],[],ls⟩ Q:=by
   rintro⟨v,B,E,c⟩;rw[iW];subst r;refine⟨v,B,aBn rfl t u ?_ c⟩;cases G:eE q with
   | false=>exact j
   | true=>
    rw[aN];intro l' k;rcases Bp.1 k with rfl|k
    .refine⟨?_,by show i<K;omega,D⟩;show oY v (gO q F S.h)=true;rw[B,kO];exact E G
    .exact j _ k
  cases g with
  | none=>exact go (by rw[if_pos (show fT none F=true from rfl)] at c;exact c)
  | some g=>
   have⟨s,b⟩:=g;by_cases x:fT (some (s,b)) F=true
   .rw[if_pos x] at c;have⟨n,y,z,A⟩:=go c;refine⟨n,y,?_,A⟩;have:tV ⟨d,.q q,some (s,b),m⟩ i base (ev fns n).call ⟨F,S,[],[],ls⟩=tV ⟨d,.q q,none,m⟩ i base (ev fns n).call ⟨F,S,[],[],ls⟩:=by
     show cC (fT (some (s,b)) F) _ _=cC true _ _;rw[x];rfl
    show bG (tV ⟨d,.q q,some (s,b),m⟩ i base (ev fns n).call ⟨F,S,[],[],ls⟩) _=_;rw[this];exact z
   .rw[if_neg x] at c;have⟨n,y,z,A⟩:=aBn (i:=i+1) (F:=cU d F .undef) (ls:=ls) r t u j c;refine⟨n,y,?_,A⟩;have:tV ⟨d,.q q,some (s,b),m⟩ i base (ev fns n).call ⟨F,S,[],[],ls⟩=some ⟨cU d F .undef,S,[],[],ls⟩:=by
     show cC (fT (some (s,b)) F) _ _=_;rw[show fT (some (s,b)) F=false by simpa using x];rfl
    show bG (tV ⟨d,.q q,some (s,b),m⟩ i base (ev fns n).call ⟨F,S,[],[],ls⟩) _=_;rw[this];exact z
 | ⟨d,.a a,g,m⟩::l,i,F,S,ls,r,p,w,j,c=>by cases c
 | ⟨d,.x a,g,m⟩::l,i,F,S,ls,r,p,w,j,c=>by cases c
def aPT{b pre:List AO}{m:Nat}{v:cT}(t:b=pre++ [⟨none,.x (.st n x v),none,m⟩])(u:pre.length=K)(y:∀o∈pre,Nat.testBit o.mask K=false)(z:∀i,i<K->Nat.testBit m i=true)
  (h:pK pre A.F S.h fun F'=>∃S1,bG (v.val F').cells (fun cs=>qX (x.val F') n cs ⟨S.h,S.nx+(K+1)⟩)=some (.undef,S1)/\Q .normal ⟨F',A.inr⟩ S1):jP fns (.drw b) A S Q:=by
 subst t;have c:(pre++ [(⟨none,.x (.st n x v),none,m⟩:AO)]).length=K+1:=by simp [u]
 apply qZ;rw[c];refine aBn (h:=S.h) (K:=K) (pre:=pre) (i:=0) rfl au y (fun l e=>by cases e) ?_;have mono:∀ {P P':Fr->Prop},(∀F,P F->P' F)->∀ (l:List AO) (F:Fr),pK l F S.h P->pK l F S.h P':=fun {P P'} B l=>by
  induction l with
  | nil=>intro F h;exact B F h
  | cons o l s=>
   intro F h;have⟨d,op,g,I⟩:=o;cases op with
   | q q=>
    simp only[pK] at h ⊢;split at h
    .rename_i f;rw[if_pos f];have⟨w,j,k,p⟩:=h;exact⟨w,j,k,s _ p⟩
    .rename_i f;rw[if_neg f];exact s _ h
   | a a=>cases h
   | x a=>cases h
 refine mono ?_ pre A.F h;rintro F' ⟨S1,C,D⟩ ls r;refine iQ (v:=.undef) (S1:=S1) rfl (fun call=>by rw[dL];exact C) ?_;rw[iC];refine⟨?_,?_⟩
 .simp only[Ce,List.reverse_nil,Bw];refine nT fun l e=>?_;have⟨E,G,H⟩:=r l e;unfold fA;rw[H,aU,E,aN,z _ G,aN]
 .exact D
def jY(T:List cS)(j:Nat):Option Int:=(T[j]?).map (·.1)
def CF(nx:Nat->bu)(a:Nat)(T:List cS):Prop:=∀j,j<T.length->∀c∈nx (a+j),((a+j:Nat):Int)<c/\c<((a+T.length:Nat):Int)/\jY T (c.toNat - a)=some ((a+j:Nat):Int)
def PF(nx:Nat->bu)(a:Nat)(T:List cS)(j:Nat):Prop:=∃q,q<j/\jY T j=some ((a+q:Nat):Int)/\((a+j:Nat):Int)∈nx (a+q)
def aLW(nx:Nat->bu)(a:Nat)(T:List cS):Prop:=∀j,j<T.length->(nx (a+j)).Pairwise (· < ·)
structure WF(nx:Nat->bu)(a:Nat)(p:Int)(T:List cS):Prop where
 pos:0<T.length
 root:jY T 0=some p
 cf:CF nx a T
 pf:∀j,0<j->j<T.length->PF nx a T j
 inc:aLW nx a T
structure KF(nx:Nat->bu)(r:Nat)(p:Int)(l:bu)(L:List cS):Prop where
 cf:CF nx r L
 kid:∀c∈l,((r:Nat):Int)<=c/\c<((r+L.length:Nat):Int)/\jY L (c.toNat - r)=some p
 pf:∀j,j<L.length->(jY L j=some p/\((r+j:Nat):Int)∈l)\/PF nx r L j
 inc:aLW nx r L
 up:l.Pairwise (· < ·)
def wO{a:List cS}(h:j<a.length):jY (a++b) j=jY a j:=by unfold jY;rw[Ao h]
def tJ{a:List cS}(h:a.length<=j):jY (a++b) j=jY b (j - a.length):=by unfold jY;rw[Ap h]
def CF.append{nx:Nat->bu}{f i:List cS}(k:CF nx r f)(l:CF nx (r+f.length) i):CF nx r (f++i):=fun j m c g=>by
 rw[Aj] at m ⊢;by_cases h:j<f.length
 .have⟨a,b,d⟩:=k j h c g;exact⟨a,au,by rw[wO au];exact d⟩
 .have e:r+j=r+f.length+(j - f.length):=by omega
  rw[e] at g;have⟨a,b,d⟩:=l (j - f.length) au c g;refine⟨au,au,?_⟩;rw[tJ au,show c.toNat - r - f.length=c.toNat - (r+f.length) by omega,d,e]
def PF.left{nx:Nat->bu}{a:List cS}(h:PF nx r a j)(c:j<a.length):PF nx r (a++b) j:=by
 have⟨q,d,e,f⟩:=h;exact⟨q,d,by rw[wO c];exact e,f⟩
def PF.right{nx:Nat->bu}{a:List cS}(h:PF nx (r+a.length) b (j - a.length))(c:a.length<=j):PF nx r (a++b) j:=by
 have⟨q,f,d,e⟩:=h;refine⟨a.length+q,au,?_,?_⟩
 .rw[tJ c,d,show r+a.length+q=r+(a.length+q) by omega]
 .rw[show r+(a.length+q)=r+a.length+q by omega,show r+j=r+a.length+(j - a.length) by omega];exact e
def aLW.append{nx:Nat->bu}{a:List cS}(c:aLW nx r a)(d:aLW nx (r+a.length) b):aLW nx r (a++b):=fun j e=>by
 rw[Aj] at e;by_cases h:j<a.length
 .exact c j h
 .rw[show r+j=r+a.length+(j - a.length) by omega];exact d (j - a.length) au
theorem aEy{rec:Nat->Option (List cS)}{nx:Nat->bu}{p:Int}(o:∀r L,rec r=some L->WF nx r p L):∀ {l:bu} {r:Nat} {L:List cS},fR rec l r=some L->KF nx r p l L
 | [],r,L,h=>by
  simp only[fR,Au] at h;subst h;exact⟨fun j f=>by simp at f,fun c m=>by simp at m,fun j f=>by simp at f,fun j f=>by simp at f,.nil⟩
 | c::l,r,L,h=>by
  simp only[fR] at h;split at h
  .rename_i m;have⟨g,q,s⟩:=Cu.1 h;obtain⟨y,t,rfl⟩:=Bb.1 s;have w:=o r g q;have k:=aEy o t;have u:=w.pos;refine⟨w.cf.append k.cf,fun i e=>?_,fun j f=>?_,w.inc.append k.inc,?_⟩
   .rw[Aj];rcases Bp.1 e with rfl|e
    .rw[m];refine⟨au,au,?_⟩;rw[show((r:Int)).toNat - r=0 by omega,wO u];exact w.root
    .have⟨a,b,d⟩:=k.kid i e;refine⟨au,au,?_⟩;rw[tJ au,show i.toNat - r - g.length=i.toNat - (r+g.length) by omega];exact d
   .rw[Aj] at f;by_cases h:j<g.length
    .by_cases v:j=0
     .subst v;exact .inl ⟨by rw[wO h];exact w.root,by rw[Bs,m];exact Bk ..⟩
     .exact .inr ((w.pf j au h).left h)
    .rcases k.pf (j - g.length) au with⟨n,x⟩|n
     .exact .inl ⟨by rw[tJ au];exact n,Bf _ (by rw[show r+j=r+g.length+(j - g.length) by omega];exact x)⟩
     .exact .inr (PF.right n au)
   .refine Ei.2 ⟨fun i e=>?_,k.up⟩;have:=(k.kid i e).1;omega
  .cases h
theorem jU{N:Nat}{nx:Nat->bu}:∀ {f at_:Nat} {p d:Int} {T:List cS},fB N nx f at_ p d=some T->WF nx at_ p T
 | 0,at_,p,d,T,h=>by cases h
 | f+1,at_,p,d,T,h=>by
  simp only[fB] at h;split at h
  .obtain⟨L,l,rfl⟩:=Bb.1 h;have k:=aEy (p:=(at_:Int)) (fun r L m=>jU m) l;have ps:∀j,jY ((p,d,((at_+L.length:Nat):Int))::L) (j+1)=jY L j:=fun j=>by unfold jY;rw[Ea]
   refine⟨by simp,rfl,fun j g c i=>?_,fun j n g=>?_,fun j g=>?_⟩
   .rw[Ax] at g ⊢;cases j with
    | zero=>
     rw[Bs] at i ⊢;have⟨a,b,e⟩:=k.kid c i;refine⟨au,au,?_⟩;rw[show c.toNat - at_=(c.toNat - (at_+1))+1 by omega,ps];exact e
    | succ j=>
     rw[show at_+(j+1)=at_+1+j by omega] at i ⊢;have⟨a,b,e⟩:=k.cf j au c i;refine⟨au,au,?_⟩;rw[show c.toNat - at_=(c.toNat - (at_+1))+1 by omega,ps];exact e
   .rw[Ax] at g;cases j with
    | zero=>omega
    | succ j=>
     rcases k.pf j au with⟨a,b⟩|⟨q,a,b,e⟩
     .exact⟨0,au,by rw[ps,a];rfl,by rw[Bs,show at_+(j+1)=at_+1+j by omega];exact b⟩
     .refine⟨q+1,au,?_,?_⟩
      .rw[ps,b,show at_+1+q=at_+(q+1) by omega]
      .rw[show at_+(q+1)=at_+1+q by omega,show at_+(j+1)=at_+1+j by omega];exact e
   .rw[Ax] at g;cases j with
    | zero=>exact k.up
    | succ j=>
     rw[show at_+(j+1)=at_+1+j by omega];exact k.inc j au
  .cases h
def sI{a pre:List AO}{m:Nat}{v:cT}(b:a=pre++ [⟨none,.x (.st n x v),none,m⟩])(c:pre.length=K)(d:(pre.all fun o=> !Nat.testBit o.mask K)=true)(e:((List.range K).all fun i=>Nat.testBit m i)=true)
  (h:pK pre A.F S.h fun F'=>∃S1,bG (v.val F').cells (fun cs=>qX (x.val F') n cs ⟨S.h,S.nx+(K+1)⟩)=some (.undef,S1)/\Q .normal ⟨F',A.inr⟩ S1):jP fns (.drw a) A S Q:=by
 refine aPT b c (fun o f=>?_) (fun i hi=>?_) h
 .have:=Dp.1 d o f;simpa using this
 .exact Dp.1 e i (Dk.2 hi)
def aK9{W:Nat->Prop}{a:T AB}{base:Nat}{l:List AO}{F:Fr}{ps:List iR}{last:Option Nat}{Q:Fr->St->List iR->Prop}{d:Option Nat}{t:Nat}(b:(x.val F).cells=some cs)
  (c:gF fns W a base l (i+1) (cU d F (.ptr (base+i) 0)) S (⟨i,base+i,.cells cs false 0⟩::ps) last Q):aIA fns W a base (uH (.box t x) F (base+i)) d l i F S ps last Q:=by
 rw[aKX,b,aH,lT];exact c
def bN.cells{k:IntKind}(h:bN k S v l):v.cells=some [v]:=by
 rcases h with⟨_,rfl|rfl⟩|⟨b,off,cap,o,cs,rfl,_⟩<;>rfl
def aDi:bu->Nat->bu->bu
 | [],_,r=>r
 | c::l,s,r=>aDi l (s+1) (r.set c.toNat (s:Int))
def aEt(g:aX):Nat->bu->bu
 | 0,r=>r
 | i+1,r=>aEt g i (aDi (dN g i) 0 r)
def mO(g:aX):bu:=aEt g g.cg.length (List.replicate g.cg.length 0)
structure kJ(S:St)(wb plb szb:Nat)(pv nv iv:AV)(g:aX)(R Z:bu):Prop where
 w:xL S wb g.cm nv iv pv (.sl plb 0 g.cg.length g.cg.length false) (.sl szb 0 g.cg.length g.cg.length false)
 gp:S.h.get plb=some (.cells (bD R) false 0)
 gz:S.h.get szb=some (.cells (bD Z) false 0)
 lp:R.length=g.cg.length
 lz:Z.length=g.cg.length
 bp:plb<S.nx
 bz:szb<S.nx
def kJ.setZ{c b a:Nat}{Z':bu}(h:kJ X c b a pv nv iv g R Z)(e:c≠a)(f:b≠a)(d:X.nx<=n)(i:Z'.length=g.cg.length):kJ ⟨X.h.set a (jf (bD Z')),n⟩ c b a pv nv iv g R Z':=
 ⟨⟨by simp only;rw[ef,if_neg e];exact h.w.1,Ae h.w.2 d⟩,by simp only;rw[ef,if_neg f];exact h.gp,jd,h.lp,i,Ae h.bp d,Ae h.bz d⟩
def kJ.setP{c a b:Nat}{d:bu}(h:kJ X c a b pv nv iv g R Z)(f:c≠a)(i:a≠b)(e:X.nx<=n)(j:d.length=g.cg.length):kJ ⟨X.h.set a (jf (bD d)),n⟩ c a b pv nv iv g d Z:=
 ⟨⟨by simp only;rw[ef,if_neg f];exact h.w.1,Ae h.w.2 e⟩,jd,by simp only;rw[ef,if_neg (Cg i)];exact h.gz,j,h.lz,Ae h.bp e,Ae h.bz e⟩
def tB.put{a:Nat}{b:Nat}{v:Option AB}(h:tB d a a S X)(e:b=d\/b=a)(f:X.nx<=n):tB d a a S ⟨X.h.set b v,n⟩:=⟨Av h.1 f,fun c g i j k=>by
 simp only;rw[ef,if_neg (by rcases e with rfl|rfl<;>assumption)];exact h.2 c g i j k⟩
def aLi{P:Ev.T AB->Prop}{h:Ev.T AB}{a b:Nat}{e z:Option AB}(f:a≠b)(g:a≠d)(n3:b≠d)(H:∀h':Ev.T AB,h'.get a=e->h'.get b=z->h'.get d=z->(∀c,c≠a->c≠b->c≠d->h'.get c=h.get c)->P h'):P (((h.set a e).set b z).set d z):=by
 refine H _ ?_ ?_ ?_ fun c i j k=>?_
 .rw[ef,if_neg g,ef,if_neg f,ef,if_pos rfl]
 .rw[ef,if_neg n3,ef,if_pos rfl]
 .rw[ef,if_pos rfl]
 .rw[ef,if_neg k,ef,if_neg j,ef,if_neg i]
theorem aKY{hi:Int}:∀ {l:bu} {lo:Int},l.Pairwise (· < ·)->(∀c∈l,lo<=c/\c<hi)->l.length<=(hi - lo).toNat
 | [],lo,_,_=>by simp
 | c::l,lo,h,b=>by
  have⟨e,f⟩:=Ei.1 h;have g:=b c (Bk ..);have:=aKY (lo:=c+1) f fun d a=>⟨by have:=e d a;omega,(b d (Bf _ a)).2⟩;rw[Ax];omega
noncomputable def aQB:List AO:=[mt 47 7,
om 48 1 (.cw (.t 47)),
om 49 3 (.dk 5 (.t 48)),
om 50 7 (ld 49),
mt 51 4,
mt 52 8,
om 53 48 (.df (.slice 1) (.t 51) (.t 52)),
om 54 112 (ld 53),
om 55 255 (.df (.slice 1) (.t 50) (.t 54)),
om 56 511 (ld 55),
mt 57 7,
om 58 1024 (.cw (.t 57)),
om 59 3072 (.dk 5 (.t 58)),
om 60 7168 (ld 59),
mt 61 8,
om 62 31744 (.df (.slice 1) (.t 60) (.t 61)),
om 63 64512 (ld 62),
om 64 131071 (bi .add (.t 56) (.t 63)),
om 65 262143 (.df (.slice 1) (.t 50) (.t 54))]
def szS(T:List cS)(i:Nat)(Z:bu):bu:=if 0<i then(Z.set i (IntKind.i64.wrap (Z.getD i 0+1))).set ((T.map fun t:cS=>t.1).getD i 0).toNat (IntKind.i64.wrap ((Z.set i (IntKind.i64.wrap (Z.getD i 0+1))).getD ((T.map fun t:cS=>t.1).getD i 0).toNat 0+(Z.set i (IntKind.i64.wrap (Z.getD i 0+1))).getD i 0)) else Z.set i (IntKind.i64.wrap (Z.getD i 0+1))
def szG(T:List cS):Nat->bu->bu
 | 0,Z=>Z
 | i+1,Z=>szG T i (szS T i Z)
def szL(T:List cS)(n:Nat):bu:=szG T n (List.replicate n 0)
def aTJ(d:St)(gb c b a:Nat)(pv nv iv:AV)(g:aX)(T:List cS)(k:Nat)(A:bO)(X:St):Prop:=A.inr=false/\tB b a a d X/\∃R Z,kJ X c b a pv nv iv g R Z/\k<=g.cg.length/\aEt g k R=mO g/\szG T k Z=szL T g.cg.length/\aC 1 A.F= .ptr gb 0/\aC 4 A.F=pv/\aC 7 A.F= .ptr c 0/\aC 8 A.F=je ((k:Int) - 1)
def aTt(e:St)(gb d c b:Nat)(pv nv iv a:AV)(g:aX)(i:Nat)(next Z:bu)(k:Nat)(A:bO)(X:St):Prop:=A.inr=false/\tB c b b e X/\∃j R,kJ X d c b pv nv iv g R Z/\j+k=next.length/\aEt g i (aDi (next.drop j) j R)=mO g/\aC 1 A.F= .ptr gb 0/\aC 4 A.F=pv/\aC 7 A.F= .ptr d 0/\aC 8 A.F=je (i:Int)/\aC 71 A.F=a/\aC 72 A.F=je (next.length:Int)/\aC 73 A.F=je (j:Int)
def aRT(S d:St)(p nv iv:AV)(g:aX):Prop:=∃ (a b c:Nat) (pv:AV) (T:List cS) (Z:bu),p= .ptr a 0/\S.nx<=a/\gP g=some T/\T.length=g.cg.length/\bN .i64 d pv (T.map (·.1))/\kJ d a b c pv nv iv g (mO g) Z
def aO8(S d:St)(p nv iv:AV)(g:aX):Prop:=∃ (a b c:Nat) (pv:AV) (T:List cS),p= .ptr a 0/\S.nx<=a/\gP g=some T/\T.length=g.cg.length/\bN .i64 d pv (T.map (·.1))/\kJ d a b c pv nv iv g (mO g) (szL T g.cg.length)
def aJ7(H:Has fns)(hn:aG 6 cF S nv g.cg)(hi:aG 2 cE S iv g.ch)(bd:g.cg.length<=100000):
  iI fns (.fn 64 [] []) [.agg [je g.cm,nv,iv]] S fun r S'=>Same S S'/\∃p,r= .tup [p,je (dC g)]/\(dC g=0->aO8 S S' p nv iv g):=by
 refine cK H.f64 (by simp) ?_;refine ae ?_;refine cA ?_;refine cR (by refine ae ?_;exact aY _) ?_;intro S1 s1 n1 c1;refine ae ?_;refine cA (de (gK c1) ?_);refine bK (ae ?_);refine aW (aGT H (aG.same (E:=cF) bQ hn s1) (aG.same (E:=cE) cB hi s1) bd) ?_;rintro _ X ⟨pv,rfl,hX,hP⟩;refine ew @xP @xN ?_;refine gH (ae ?_);by_cases h0:dC g=0;rotate_left
 .refine aS (iu (Ac (show dC g≠0 from h0))) ?_;refine cA (ae ?_);refine aT (ae ?_);exact⟨s1.trans hX,_,rfl,fun h=>absurd h h0⟩
 refine aQ (iu (Aa (show ¬dC g≠0 from fun h=>h h0))) (aK ?_);refine ae ?_
 have⟨T,hT,bW,U⟩:=hP.2 h0;have aV:=jU (show fB g.cg.length (dN g) (g.cg.length+1) 0 (-1) 0=some T from hT);have sX:=s1.trans hX;have be:S.nx<X.nx:=by have:=hX.1;omega
 have cX:X.h.get S.nx=jf [je g.cm,nv,iv]:=by rw[hX.2 _ au];exact c1
 have sn:=aG.self hn;have si:=aG.self hi;have sg:=aB2 (eM .i64 g.cm) sn si;refine cA (fe @aB @aA (fV cX) hn.len ?_);refine aD (sJ (fun _=>False) ?_);intro X1 x1 aZ bj;have bY:∀ (F:Fr) (h:Ev.T AB) (x y:AV),aC 22 F= .agg [je g.cm,nv,iv]->aC 23 F=pv->aC 25 F=x->aC 27 F=y->x.cells=some [x]->y.cells=some [y]->gO (.build [je 0,.ct,.ct,.ct,.ct,.ct] [(0,3,.t 22),(3,1,.t 23),(4,1,.t 25),(5,1,.t 27)]) F h=some (.agg [je g.cm,nv,iv,pv,x,y]):=fun F h x y h1 h2 h3 h4 h5 h6=>by
  show(bG (eI _ (dJ F [(0,3,.t 22),(3,1,.t 23),(4,1,.t 25),(5,1,.t 27)])) fun cs=>some (AV.agg cs))=_;simp only[dJ,show(cT.t 22).val F= .agg [je g.cm,nv,iv] from h1,show(cT.t 23).val F=pv from h2,show(cT.t 25).val F=x from h3,show(cT.t 27).val F=y from h4,eI,bN.cells U,h5,h6,aY,aH];rfl
 refine fh @aB @aP @aA (gK cX) be @An sg ?_;refine qE (n:=g.cg.length) (iu @aJ) (iu @aJ) ay ay  ?_;refine ae ?_;refine qE (n:=g.cg.length) (iu @aJ) (iu @aJ) ay ay  ?_;have bk:=fun(F:Fr) (h:Ev.T AB) h1 h2 h3 h4=>bY F h (.sl (X.nx+3) 0 g.cg.length g.cg.length false) (.sl (X.nx+5) 0 g.cg.length g.cg.length false) h1 h2 h3 h4 rfl rfl;refine ew @mK bk ?_;refine aK9 (cs:=[je g.cm,nv,iv,pv,.sl (X.nx+3) 0 g.cg.length g.cg.length false,.sl (X.nx+5) 0 g.cg.length g.cg.length false]) (by refine ae ?_;exact aY _) ?_;refine ae ?_;rw[wH,iF (az:Nat.testBit (2 ^ 9 - 1) 7=true),iF (az:Nat.testBit (2 ^ 9 - 1) 5=true),iF (az:Nat.testBit (2 ^ 9 - 1) 3=true),bL];refine aLi (P:=fun h'=>jP fns _ _ ⟨h',X1.nx⟩ _) au au au ?_;intro Zh gw g5 g3 gr;have bj:X1.nx=X.nx+9:=bj;have sZ:Same S ⟨Zh,X1.nx⟩:=⟨by show S.nx<=X1.nx;have:=sX.1;omega,fun c hc=>by
  have:=sX.1;show Zh.get c=S.h.get c;rw[gr c au au au,aZ];exact sX.2 c hc⟩
 have cZ:Zh.get S.nx=jf [je g.cm,nv,iv]:=by
  rw[gr _ au au au,aZ];exact cX
 have z:kJ ⟨Zh,X1.nx⟩ (X.nx+7) (X.nx+3) (X.nx+5) pv nv iv g (List.replicate g.cg.length 0) (List.replicate g.cg.length 0):=⟨⟨gw,by show X.nx+7<X1.nx;omega⟩,g3,g5,Aq ..,Aq ..,by show _<X1.nx;omega,by show _<X1.nx;omega⟩;have a0:Same X ⟨Zh,X1.nx⟩:=⟨by show X.nx<=X1.nx;omega,fun c hc=>by
  show Zh.get c=X.h.get c;rw[gr c au au au,aZ]⟩
 have cl:=sX.1;generalize hZ:(⟨Zh,X1.nx⟩:St)=Z0 at *;have cZ:Z0.h.get S.nx=jf [je g.cm,nv,iv]:=by rw[<-hZ];exact cZ
 have bZ:S.nx<Z0.nx:=Ae be a0.1;have b0:X.nx+7≠X.nx+3:=by omega
 have bm:X.nx+7≠X.nx+5:=by omega
 have a1:X.nx+3≠X.nx+5:=by omega
 have b1:S.nx≠X.nx+3:=by omega
 have bn:S.nx≠X.nx+5:=by omega
 have l3:S.nx<=X.nx+3:=by omega
 have l5:S.nx<=X.nx+5:=by omega
 have l7:S.nx<=X.nx+7:=by omega
 have bp:X.nx<=X.nx+3:=by omega
 have V:X.nx<=X.nx+5:=by omega
 generalize cm:X.nx+7=wb at *;generalize cn:X.nx+3=D at *;generalize cq:X.nx+5=f at *;have b2:∀i,i<g.cg.length->∀c∈dN g i,(i:Int)<c/\c<(g.cg.length:Int):=fun i hi c hc=>by
  have:=aV.cf i au c (by rw[Am];exact hc);omega
 have b3:∀i,0<i->i<g.cg.length->∃q:Nat,q<i/\(T.map (·.1)).getD i 0=(q:Int):=fun i h1 h2=>by
  have⟨q,a,b,_⟩:=aV.pf i h1 au;refine⟨q,a,?_⟩;rw[Ad,Az];unfold jY at b;rw[b,Am];rfl
 have hN:g.cg.length<=100000:=bd;have w0:IntKind.i64.wrap ((g.cg.length:Int) - 1)=(g.cg.length:Int) - 1:=wrap_i64 au au;refine aD (bB (Q:=fun o A' Y=>o= .normal/\aTJ Z0 S.nx wb D f pv nv iv g T 0 A' Y) (aD (aL ?_)) ?_)
 .refine fl w0 ?_;refine aO (bX (aTJ Z0 S.nx wb D f pv nv iv g T) ?_ g.cg.length _ _ ⟨rfl,tB.refl _ _ _ _,_,_,z,Af _,rfl,rfl,by refine⟨?_,?_,?_,?_⟩<;>simp only[↓aF,aE,rE,↓reduceIte,rA]⟩);rintro k ⟨F,inr⟩ Y ⟨I,hY,R,Z,z,bq,d,A,B,C,s,l⟩;simp only at I B C s l;subst I;refine gH (fl l ?_);by_cases hk:0<k
  .refine aS io (aK ?_);refine am ?_
   obtain⟨i,rfl⟩:∃i,k=i+1:=⟨k - 1,au⟩;have e1:(((i+1:Nat):Int)) - 1=(i:Int):=by omega
   rw[e1] at l;have G:i<g.cg.length:=by omega
   have bs:=fQ (b:=f) (o:=false) G;have w:i<Z.length:=by rw[z.lz];exact G
   have bv:=cH (p:=i) (x:=je (Z.getD i 0)) z.gz (by unfold bD;rw[Az,Ab w,Ad,Ab w];rfl);refine aD (aO (aD (aL ?_)));simp only[↓aF,aE,rE,↓reduceIte,rA,s,l,bE,bF,aB,aA,eX z.w.1,aJ,bs,bv];refine fN (fun call=>by refine fo @dL @dD ?_;exact yI (S:=Y) z.gz w) ?_;refine am ?_;have hS:szS T i Z=if 0<i then(Z.set i (IntKind.i64.wrap (Z.getD i 0+1))).set ((T.map fun t:cS=>t.1).getD i 0).toNat (IntKind.i64.wrap ((Z.set i (IntKind.i64.wrap (Z.getD i 0+1))).getD ((T.map fun t:cS=>t.1).getD i 0).toNat 0+(Z.set i (IntKind.i64.wrap (Z.getD i 0+1))).getD i 0)) else Z.set i (IntKind.i64.wrap (Z.getD i 0+1)):=rfl;have A:szG T i (szS T i Z)=szL T g.cg.length:=A;generalize szS T i Z=ZS at hS A;have u:=z.setZ (Z':=Z.set i (IntKind.i64.wrap (Z.getD i 0+1))) bm a1 (Af _) (by rw[Aw];exact z.lz);have aa:=hY.put (b:=f) (v:=jf (bD (Z.set i (IntKind.i64.wrap (Z.getD i 0+1))))) (.inr rfl) (Af Y.nx);generalize (⟨Y.h.set f (jf (bD (Z.set i (IntKind.i64.wrap (Z.getD i 0+1))))),Y.nx⟩:St)=Y1 at *;generalize Z.set i (IntKind.i64.wrap (Z.getD i 0+1))=Z1 at *;clear bv w z hY;have J:Same X Y1:=aa.same a0 bp V V;have w:i<Z1.length:=by rw[u.lz];exact G
   have a2:∀j,j<g.cg.length->eK (.ptr f j) false 1 Y1.h=some (je (Z1.getD j 0)):=fun j hj=>cH u.gz (by
    have bw:j<Z1.length:=by rw[u.lz];exact hj
    unfold bD;rw[Az,Ab bw,Ad,Ab bw];rfl)
   refine aD (bB (Q:=fun o A' Y'=>o= .normal/\A'.inr=false/\tB D f f Z0 Y'/\kJ Y' wb D f pv nv iv g R ZS/\aC 1 A'.F= .ptr S.nx 0/\aC 4 A'.F=pv/\aC 7 A'.F= .ptr wb 0/\aC 8 A'.F=je (i:Int)) (aD (aL ?_)) ?_)
   .refine fl l ?_;by_cases a3:0<i
    .refine aS io ?_;have⟨q,hq,bx⟩:=b3 i a3 G;have an:i<(T.map (·.1)).length:=by rw[Al];omega
     have b6:=(U.same J).df an;have bz:=(U.same J).ld an;rw[bx] at bz;have b8:=fQ (b:=f) (N:=g.cg.length) (o:=false) (au:q<g.cg.length);have lq:=a2 q au;have li:=a2 i G;rw[if_pos a3,bx,Ay] at hS;subst hS;refine sI (pre:=aQB) (K:=19) (m:=524287) (n:=1) (x:=.t 65) (v:=.t 64) rfl rfl rfl rfl ?_;unfold aQB;simp only[↓aF,aE,rE,↓reduceIte,rA,C,s,l,bE,bP,bF,aB,aP,aA,eX u.w.1,aJ,b6,bz,b8,lq,bs,li];simp only[dD,aH];exact⟨_,yI (S:=⟨Y1.h,Y1.nx+20⟩) u.gz (by rw[u.lz];omega),aa.put (.inr rfl) (Bq _ _),u.setZ bm a1 (Bq _ _) (by rw[Aw];exact u.lz),B⟩
    .refine aQ io (aK ?_);refine am ?_
     rw[if_neg a3] at hS;subst hS;exact⟨aa,u,by refine⟨?_,?_,?_,?_⟩<;>simp only[↓aF,aE,rE,↓reduceIte,rA,B,C,s,l]⟩
   clear B C s l a2 w aa u J;rintro o ⟨F,inr⟩ Y2 ⟨rfl,I,ab,bA,B,C,s,l⟩;simp only at I B C s l;subst I;refine am ?_
   have bC:Same S Y2:=ab.same sZ l3 l5 l5;have cY:Y2.h.get S.nx=jf [je g.cm,nv,iv]:=by rw[ab.2 _ bZ b1 bn bn];exact cZ
   obtain⟨x,hx⟩:∃x,g.cg[i]? =some x:=⟨_,Ab G⟩;have a5:=wR hx;obtain⟨e,b,q,ao,hb,he,⟨a,bb,cc,rfl,ha,_,_⟩,_,bI⟩:=aG.at hn az hx;have a8:=bI 3 a rfl;rw[<-jH bC hb] at a8;have ac:=b2 i G;rw[a5] at ac;have d:aEt g i (aDi x.next 0 R)=mO g:=by rw[<-a5];exact d
   have cr:x.next.length<=100000:=by
    have aw:=aV.inc i au;rw[Am,a5] at aw;have:=aKY (lo:=0) aw fun c hc=>⟨by have:=(ac c hc).1;omega,(ac c hc).2⟩;omega
   refine cA ?_;simp only[↓aF,aE,rE,↓reduceIte,rA,B,l,aB,aA,fV cY,aJ,ao,a8,ha.len,Ah];refine bB (Q:=fun o A' Y'=>o= .normal/\aTt Z0 S.nx wb D f pv nv iv a g i x.next ZS 0 A' Y') ?_ ?_
   .refine aO (bX (aTt Z0 S.nx wb D f pv nv iv a g i x.next ZS) ?_ x.next.length _ _ ⟨rfl,ab,0,R,bA,au,d,by refine⟨?_,?_,?_,?_,?_,?_,?_⟩<;>simp only[↓aF,aE,rE,↓reduceIte,rA,B,C,s,l]⟩);clear B C s l d cY ao hb a8 bI bA ab bC;rintro k ⟨F,inr⟩ W ⟨I,hW,j,R,z,bM,d,B,C,s,l,M,O,L⟩;simp only at I B C s l M O L;subst I;refine cA (fo O L ?_);by_cases hj:j<x.next.length
    .refine aD (aS io (aK ?_));refine am ?_
     have b':Same S W:=hW.same sZ l3 l5 l5;have bR:=ha.same b';have ca:=bR.df hj;have bU:=bR.ld hj;have cf:x.next.drop j=x.next[j]::x.next.drop (j+1):=Bz hj;have cj:x.next.getD j 0=x.next[j]:=by rw[Ad,Ab hj];rfl
     rw[cj] at bU;rw[cf] at d;have⟨c0,ct⟩:=ac _ (Bt hj);generalize x.next[j]=c at *;obtain⟨m,rfl⟩:∃m:Nat,c=(m:Int):=⟨c.toNat,au⟩;have hm:m<g.cg.length:=by omega
     have bV:=fQ (b:=D) (o:=false) hm;have w1:=ed j
     refine aD (aO (aD (aL ?_)));refine fx M L @aJ ca bU ?_;refine aL (gu s @bE @bF @aB @aA (dT z.w.1) @aJ bV ?_);refine fN (fun call=>by refine fo @dL @dD ?_;exact yI (S:=W) z.gp (by rw[z.lp];exact hm)) ?_;refine am ?_;refine aL ?_;simp only[↓aF,aE,rE,↓reduceIte,rA,L,w1];simp only[aDi,Ay] at d;exact⟨k - 1,au,rfl,hW.put (.inl rfl) (Af _),j+1,R.set m (j:Int),z.setP b0 a1 (Af _) (by rw[Aw];exact z.lp),au,d,by refine⟨?_,?_,?_,?_,?_,?_,?_⟩<;>simp only[↓aF,aE,rE,↓reduceIte,rA,B,C,s,l,M,O]⟩
    .refine aD (aQ io (bT ?_));refine am ?_;have ba:k=0:=by omega
     subst ba;exact⟨rfl,hW,j,R,z,bM,d,by refine⟨?_,?_,?_,?_,?_,?_,?_⟩<;>simp only[↓aF,aE,rE,↓reduceIte,rA,B,C,s,l,M,O,L]⟩
   clear B C s l;rintro o ⟨F,inr⟩ W ⟨rfl,I,hW,j,R3,ck,bM,aI,B,C,s,l,M,O,L⟩;simp only at I B C s l;subst I;rw[Cr au] at aI;have w2:IntKind.i64.wrap ((i:Int) - 1)=(i:Int) - 1:=wrap_i64 au au;refine am ?_
   refine aL (fo l w2 ?_);exact⟨i,au,rfl,hW,R3,ZS,ck,au,aI,A,by refine⟨?_,?_,?_,?_⟩<;>simp only[↓aF,aE,rE,↓reduceIte,rA,B,C,s]⟩
  .refine aQ io (bT ?_);refine am ?_;have ba:k=0:=by omega
   subst ba;exact⟨rfl,hY,R,Z,z,bq,d,A,by refine⟨?_,?_,?_,?_⟩<;>simp only[↓aF,aE,rE,↓reduceIte,rA,B,C,s,l]⟩
 rintro o ⟨F,inr⟩ Y ⟨rfl,I,hY,R,Z,z,bq,d,A,B,C,s,l⟩;simp only at I s;subst I;have d:R=mO g:=d;subst d;have A:Z=szL T g.cg.length:=A;subst A;refine am ?_
 refine cA (fl s ?_);refine aT (am ?_);rw[h0];have J:Same X Y:=hY.same a0 bp V V;exact⟨sX.trans J,_,rfl,fun _=>⟨wb,D,f,pv,T,rfl,l7,hT,bW,U.same J,z⟩⟩
def aCz(H:Has fns)(m:aG 6 cF S nv g.cg)(hi:aG 2 cE S iv g.ch)(i:g.cg.length<=100000):
  iI fns (.fn 64 [] []) [.agg [je g.cm,nv,iv]] S fun r j=>Same S j/\∃p,r= .tup [p,je (dC g)]/\(dC g=0->aRT S j p nv iv g):=by
 refine aW (aJ7 H m hi i) fun r j h=>?_;have⟨n,p,o,q⟩:=h;refine⟨n,p,o,fun s=>?_⟩;have⟨t,k,l,pv,T,a,b,c,d,e,f⟩:=q s;exact⟨t,k,l,pv,T,_,a,b,c,d,e,f⟩
def aFr(m:bu):Prop:=∃i k,k<i/\i<m.length/\m.getD i 0=m.getD k 0
open Classical in
noncomputable def lE(n:Nat)(m:bu)(ok:Prop):Int:=if m.length≠n then 10 else if ¬aBg m n then 2 else if aFr m then 8 else if ok then 0 else 3
def CkR(S1:St)(gb:Nat)(mv:AV)(n:Nat)(m:bu)(k:Nat)(A:bO)(X:St):Prop:=A.inr=false/\Same S1 X/\∃i,i+k=n/\(∀j,j<i->0<=m.getD j 0/\m.getD j 0<n)/\aC 1 A.F=mv/\aC 2 A.F= .ptr gb 0/\aC 5 A.F=je (n:Int)/\aC 6 A.F=je (i:Int)
def CkD(S1:St)(gb:Nat)(mv:AV)(n:Nat)(m:bu)(k:Nat)(A:bO)(X:St):Prop:=A.inr=false/\Same S1 X/\∃i,i+k=n/\(∀j l,l<j->j<i->m.getD j 0≠m.getD l 0)/\aC 1 A.F=mv/\aC 2 A.F= .ptr gb 0/\aC 5 A.F=je (n:Int)/\aC 7 A.F=je (i:Int)
def CkE(S1:St)(gb:Nat)(mv:AV)(n i:Nat)(m:bu)(k:Nat)(A:bO)(X:St):Prop:=A.inr=false/\Same S1 X/\∃l,l+k=i/\(∀j,j<l->m.getD i 0≠m.getD j 0)/\aC 1 A.F=mv/\aC 2 A.F= .ptr gb 0/\aC 5 A.F=je (n:Int)/\aC 7 A.F=je (i:Int)/\aC 8 A.F=je (l:Int)
theorem aIJ{m:bu}(H:Has fns)(hn:aG 6 cF S nv g.cg)(hm:bN .i64 S mv m)(aV:g.cg.length<=100000)
  (L:m.length=g.cg.length->aBg m g.cg.length->¬aFr m->∀S',Same S S'->iI fns (.fn 29 [] []) [.agg [je g.cm,nv,iv],mv] S' fun r aa=>Same S' aa/\∃a b t,r= .tup [a,b,.bool t]/\(t=true↔ok)):
  iI fns (.fn 47 [] []) [.agg [je g.cm,nv,iv],mv] S fun r S'=>r=je (lE g.cg.length m ok)/\Same S S':=by
 refine cK H.f47 (by simp) ?_;refine ae ?_;refine cA ?_;refine cR (by refine ae ?_;exact aY _) ?_;intro S1 s1 n1 c1;refine ae ?_;have ab:S.nx<S1.nx:=by omega
 refine cA (fe @aB @aA (fV c1) hn.len ?_);refine gH (ew hm.len @Ah ?_);by_cases u:m.length=g.cg.length;rotate_left
 .refine aS im ?_;refine cA (ae ?_);refine aT ?_;simp only[↓sU,sD,rE,↓reduceIte,rA];unfold lE;rw[if_pos u];exact⟨rfl,s1⟩
 refine aQ im (aK ?_);refine ae ?_
 unfold lE;rw[if_neg (fun h=>h u)];refine aD (bB (Q:=fun o p X=>(o= .normal/\CkR S1 S.nx mv g.cg.length m 0 p X)\/(o= .ret/\Same S1 X/\¬aBg m g.cg.length/\aC 4 p.F=je 2)) (aD (aL ?_)) ?_)
 .refine am ?_;refine aO (bX (CkR S1 S.nx mv g.cg.length m) ?_ g.cg.length _ _ ⟨rfl,eu _,0,au,fun j G=>au,by refine⟨?_,?_,?_,?_⟩<;>simp only[↓aF,aE,rE,↓reduceIte,rA]⟩);rintro k ⟨F,inr⟩ X ⟨f,v,i,q,z,c,d,e,s⟩;simp only at f c d e s;subst f;refine gH (fo e s ?_);by_cases ac:i<g.cg.length
  .refine aS io (aK ?_);refine am ?_
   have M:=hm.same (s1.trans v);have N:=M.df (au:i<m.length);have O:=M.ld (au:i<m.length);have P:m.getD i 0∈m:=by rw[Ad,Ab (au:i<m.length)];exact Bt _
   have w1:=ed i
   refine aD (aO (aD (bB (Q:=fun o p Y=>o= .normal/\p.inr=false/\Y=X/\aC 1 p.F=mv/\aC 2 p.F= .ptr S.nx 0/\aC 5 p.F=je (g.cg.length:Int)/\aC 6 p.F=je (i:Int)/\aC 36 p.F= .bool (decide (m.getD i 0<0\/(g.cg.length:Int)<=m.getD i 0))) (aL ?_) ?_)))
   .by_cases J:m.getD i 0<0
    .rw[Ac (show m.getD i 0<0\/(g.cg.length:Int)<=m.getD i 0 from .inl J)];simp only[↓aF,aE,rE,↓reduceIte,rA,c,d,e,s,aJ,N,O,Ac J]
    .by_cases V:(g.cg.length:Int)<=m.getD i 0
     .rw[Ac (show m.getD i 0<0\/(g.cg.length:Int)<=m.getD i 0 from .inr V)];simp only[↓aF,aE,rE,↓reduceIte,rA,c,d,e,s,aJ,N,O,Aa J,Ac V]
     .rw[Aa (au:¬ (m.getD i 0<0\/(g.cg.length:Int)<=m.getD i 0))];simp only[↓aF,aE,rE,↓reduceIte,rA,c,d,e,s,aJ,N,O,Aa J,Aa V]
   clear c d e s;rintro o ⟨F,inr⟩ Y ⟨rfl,f,an,c,d,e,s,pb⟩;simp only at f c d e s pb;subst f;rw[an];refine am ?_
   by_cases C:m.getD i 0<0\/(g.cg.length:Int)<=m.getD i 0
   .refine aS (i9 pb (Ac C)) ?_;refine cA (am ?_);refine aT (am ?_);exact .inr ⟨v,fun h=>by have:=h _ P;omega⟩
   .refine aQ (i9 pb (Aa C)) (aK ?_);refine am ?_
    refine aL (fo s w1 ?_);refine⟨k - 1,au,rfl,v,i+1,au,fun j G=>?_,by refine⟨?_,?_,?_,?_⟩<;>simp only[↓aF,aE,rE,↓reduceIte,rA,c,d,e]⟩;by_cases I:j=i
    .rw[I];omega
    .exact z j au
  .refine aQ io (bT ?_);refine am ?_;have w:k=0:=by omega
   subst w;exact .inl ⟨rfl,v,i,q,z,by refine⟨?_,?_,?_,?_⟩<;>simp only[↓aF,aE,rE,↓reduceIte,rA,c,d,e,s]⟩
 rintro o ⟨F,inr⟩ X (⟨rfl,f,v,i,q,z,c,d,e,s⟩|⟨rfl,v,ao,D⟩);rotate_left
 .simp only at D;refine fl D ?_;rw[if_pos ao];exact⟨rfl,s1.trans v⟩
 simp only at f c d e;subst f;have R:aBg m g.cg.length:=fun x hx=>by
  obtain⟨j,G,rfl⟩:=Dv.1 hx;have:=z j au;rw[Ad,Ab G] at this;exact this
 rw[if_neg (fun h=>h R)];clear s q z i;refine am ?_
 refine aD (bB (Q:=fun o p Y=>(o= .normal/\CkD X S.nx mv g.cg.length m 0 p Y)\/(o= .ret/\Same X Y/\aFr m/\aC 4 p.F=je 8)) (aD (aL ?_)) ?_)
 .refine am ?_;refine aO (bX (CkD X S.nx mv g.cg.length m) ?_ g.cg.length _ _ ⟨rfl,eu _,0,au,fun j l _ G=>au,by refine⟨?_,?_,?_,?_⟩<;>simp only[↓aF,aE,rE,↓reduceIte,rA,c,d,e]⟩);clear c d e;rintro k ⟨F,inr⟩ Y ⟨f,A,i,q,z,c,d,e,n⟩;simp only at f c d e n;subst f;refine gH (fo e n ?_);by_cases ac:i<g.cg.length
  .refine aS io (aK ?_);refine am ?_
   have w1:=ed i
   refine aD (aO (aD (aL ?_)));refine am ?_;refine bB (Q:=fun o p W=>(o= .normal/\CkE Y S.nx mv g.cg.length i m 0 p W)\/(o= .ret/\Same Y W/\aFr m/\aC 4 p.F=je 8)) (aO (bX (CkE Y S.nx mv g.cg.length i m) ?_ i _ _ ⟨rfl,eu _,0,au,fun j G=>au,by refine⟨?_,?_,?_,?_,?_⟩<;>simp only[↓aF,aE,rE,↓reduceIte,rA,c,d,e,n]⟩)) ?_
   .clear c d e n;rintro k ⟨F,inr⟩ W ⟨f,E,l,T,hd,c,d,e,n,K⟩;simp only at f c d e n K;subst f;refine gH (fo n K ?_);by_cases hl:l<i
    .refine aS io (aK ?_);refine am ?_
     have B:=hm.same (s1.trans (v.trans (A.trans E)));have N:=B.df (au:i<m.length);have O:=B.ld (au:i<m.length);have ib:=B.df (au:l<m.length);have lb:=B.ld (au:l<m.length);have w2:=ed l
     refine aD (aO (aD (jK ?_)));refine gu c n K @aJ N O ib lb ?_;by_cases he:m.getD i 0=m.getD l 0
     .refine aS (iz (Ac he)) ?_;refine cA (am ?_);refine aT (am ?_);exact .inr ⟨E.trans (Same.nx _ _),i,l,hl,au,he⟩
     .refine aQ (iz (Aa he)) (aK ?_);refine am ?_
      refine aL (fo K w2 ?_);refine⟨k - 1,au,rfl,E.trans (Same.nx _ _),l+1,au,fun j G=>?_,by refine⟨?_,?_,?_,?_,?_⟩<;>simp only[↓aF,aE,rE,↓reduceIte,rA,c,d,e,n]⟩;by_cases aw:j=l
      .rw[aw];exact he
      .exact hd j au
    .refine aQ io (bT ?_);refine am ?_;have w:k=0:=by omega
     subst w;exact .inl ⟨rfl,E,l,T,hd,by refine⟨?_,?_,?_,?_,?_⟩<;>simp only[↓aF,aE,rE,↓reduceIte,rA,c,d,e,n,K]⟩
   clear c d e n;rintro o ⟨F,inr⟩ W (⟨rfl,f,E,l,T,hd,c,d,e,n,K⟩|⟨rfl,E,y,D⟩)
   .simp only at f c d e n;subst f;refine am ?_
    refine aL (fo n w1 ?_);refine⟨k - 1,au,rfl,A.trans E,i+1,au,fun j l' aI G=>?_,by refine⟨?_,?_,?_,?_⟩<;>simp only[↓aF,aE,rE,↓reduceIte,rA,c,d,e]⟩;by_cases I:j=i
    .rw[I];exact hd l' au
    .exact z j l' aI au
   .simp only at D;refine am ?_;exact .inr ⟨A.trans E,y,D⟩
  .refine aQ io (bT ?_);refine am ?_;have w:k=0:=by omega
   subst w;exact .inl ⟨rfl,A,i,q,z,by refine⟨?_,?_,?_,?_⟩<;>simp only[↓aF,aE,rE,↓reduceIte,rA,c,d,e,n]⟩
 clear c d e;rintro o ⟨F,inr⟩ Y (⟨rfl,f,A,i,q,z,c,d,e,n⟩|⟨rfl,A,y,D⟩);rotate_left
 .simp only at D;refine fl D ?_;rw[if_pos y];exact⟨rfl,s1.trans (v.trans A)⟩
 simp only at f c d;subst f;have U:¬aFr m:=fun⟨i',k',J,V,h3⟩=>z i' k' J au h3;rw[if_neg U];have sY:=s1.trans (v.trans A);have cY:Y.h.get S.nx=jf [je g.cm,nv,iv]:=by rw[(v.trans A).2 _ ab];exact c1
 refine am ?_
 refine gH (ft c d (gK cY) ?_);refine bK (am ?_);refine aW (L u R U Y sY) ?_;rintro _ Z ⟨hZ,a,b,t,rfl,ht⟩;have ex2:nC (.tup [a,b,.bool t]) 2=some (.bool t):=rfl;refine ft @xP @xN @ex2 ?_;refine cA (fl @fY ?_);cases t with
 | false=>
  rw[if_neg (fun h=>by have:=ht.2 h;cases this)];refine aS (by simp only[↓aF,aE,rE,↓reduceIte,rA];rfl) ?_;refine cA (am ?_);refine aT (am ?_);exact sY.trans hZ
 | true=>
  rw[if_pos (ht.1 rfl)];refine aQ (by simp only[↓aF,aE,rE,↓reduceIte,rA];rfl) (aK ?_);refine am ?_
  refine cA (am ?_);refine aT (am ?_);exact sY.trans hZ
def aTT(S1:St)(mv:AV)(w e:Nat)(n:Nat)(m:bu)(k:Nat)(A:bO)(X:St):Prop:=A.inr=false/\Same S1 X/\∃i,i+k=m.length/\(∀j,j<i->0<=m.getD j 0/\m.getD j 0<n)/\aC 0 A.F= .ptr w 0/\aC 1 A.F=mv/\aC 4 A.F= .ptr e 0/\aC 6 A.F=je (n:Int)/\aC 25 A.F=mv/\aC 26 A.F=je (m.length:Int)/\aC 27 A.F=je (i:Int)
def aTg(X1:St)(mv:AV)(w e a n:Nat)(m:bu)(k:Nat)(A:bO)(X:St):Prop:=A.inr=false/\cD a X1 X/\a<X.nx/\∃i cs,i+k=m.length/\X.h.get a=jf cs/\cs.length=n/\(∀v,v<n->cs[v]? =some (.bool (decide (∃j,j<i/\m.getD j 0=(v:Int)))))/\(∀j l,l<j->j<i->m.getD j 0≠m.getD l 0)/\aC 0 A.F= .ptr w 0/\aC 1 A.F=mv/\aC 4 A.F= .ptr e 0/\aC 9 A.F= .sl a 0 n n false/\aC 42 A.F=mv/\aC 43 A.F=je (m.length:Int)/\aC 44 A.F=je (i:Int)
theorem aAt{wb:Nat}{bj bk:AV}{m:bu}{P:St->St->AV->AV->Prop}(H:Has fns)(hP:∀ {S0 S1 S2:St} {x y:AV},P S0 S1 x y->S1.nx<=S2.nx->(∀c,S0.nx<=c->c<S1.nx->S2.h.get c=S1.h.get c)->P S0 S2 x y)(hW:xL S wb g.cm nv iv pv bj bk)(hn:aG 6 cF S nv g.cg)(hm:bN .i64 S mv m)(bC:g.cg.length<=100000)
  (a0:m.length=g.cg.length->aBg m g.cg.length->¬aFr m->∀S',Same S S'->iI fns (.fn 78 [] []) [.ptr wb 0,mv] S' fun r a1=>Same S' a1/\∃x y t,r= .tup [.agg [x,y],.bool t]/\(t=true↔ok)/\(t=true->P S' a1 x y)):
  iI fns (.fn 67 [] []) [.ptr wb 0,mv] S fun r S'=>Same S S'/\∃x y,r= .tup [.agg [x,y],je (lE g.cg.length m ok)]/\(lE g.cg.length m ok=0->∃S0,S.nx<=S0.nx/\P S0 S' x y)/\(lE g.cg.length m ok≠0->x= .ct/\y= .ct):=by
 have ac:∀ (F:Fr) (h:Ev.T AB),gO (.build [.ct,.ct] []) F h=some (.agg [.ct,.ct]):=fun _ _=>rfl;refine cK H.f67 (by simp) ?_;refine am ?_;refine cA ?_;refine bS ?_;intro S1 s1 n1 c1;refine am ?_;have lw:=hW.2;have bm:=hW.same s1;have le:S.nx<S1.nx:=by omega
 refine cA (gh @bE @bF @aB @aA (eH bm.1) hn.len ?_);refine gH (fo hm.len @Ah ?_);by_cases z:m.length=g.cg.length;rotate_left
 .have hE:lE g.cg.length m ok=10:=by unfold lE;rw[if_pos z]
  rw[hE];refine aS io ?_;refine cA (fl ac ?_);refine cQ (b:=S.nx) (aq) (by refine am ?_;exact aY _) c1 rfl rfl ?_;intro S2 s2 n2 c2;refine am ?_;have O:=mB (n:=2) c2 rfl;refine aT (fo @dE O ?_);exact⟨s2.same s1 (Af _),_,_,rfl,fun h=>absurd h az,fun _=>⟨rfl,rfl⟩⟩
 refine aQ io (aK ?_);refine am ?_
 refine aD (bB (Q:=fun o C X=>(o= .normal/\aTT S1 mv wb S.nx g.cg.length m 0 C X)\/(o= .ret/\cD S.nx S1 X/\X.h.get S.nx=jf [.ct,.ct]/\¬aBg m g.cg.length/\aC 4 C.F= .ptr S.nx 0/\aC 5 C.F=je 2)) (aD (aL ?_)) ?_)
 .refine fo hm.len @Ah ?_;refine aO (bX (aTT S1 mv wb S.nx g.cg.length m) ?_ m.length _ _ ⟨rfl,eu _,0,au,fun j hj=>au,by refine⟨?_,?_,?_,?_,?_,?_,?_⟩<;>simp only[↓aF,aE,rE,↓reduceIte,rA]⟩);rintro k ⟨F,inr⟩ X ⟨E,G,i,J,hr,s,q,a,I,f,p,d⟩;simp only at E s q a I f p d;subst E;refine cA (fo p d ?_);by_cases D:i<m.length
  .refine aD (aS io (aK ?_));refine am ?_
   have a2:=hm.same (s1.trans G);have ia:=a2.df D;have la:=a2.ld D;have R:m.getD i 0∈m:=by rw[Ad,Ab D];exact Bt _
   have cX:X.h.get S.nx=jf [.ct,.ct]:=by rw[G.2 _ le];exact c1
   have w1:=ed i
   refine aD (aO (aD (aL ?_)));refine fx f d @aJ ia la ?_;refine aD (bB (Q:=fun o C Y=>o= .normal/\C.inr=false/\Y=X/\aC 0 C.F= .ptr wb 0/\aC 1 C.F=mv/\aC 4 C.F= .ptr S.nx 0/\aC 6 C.F=je (g.cg.length:Int)/\aC 25 C.F=mv/\aC 26 C.F=je (m.length:Int)/\aC 27 C.F=je (i:Int)/\aC 37 C.F= .bool (decide (m.getD i 0<0\/(g.cg.length:Int)<=m.getD i 0))) (aL ?_) ?_)
   .by_cases h1:m.getD i 0<0
    .rw[Ac (show m.getD i 0<0\/(g.cg.length:Int)<=m.getD i 0 from .inl h1)];simp only[↓aF,aE,rE,↓reduceIte,rA,s,q,a,I,f,p,d,Ac h1]
    .by_cases N:(g.cg.length:Int)<=m.getD i 0
     .rw[Ac (show m.getD i 0<0\/(g.cg.length:Int)<=m.getD i 0 from .inr N)];simp only[↓aF,aE,rE,↓reduceIte,rA,s,q,a,I,f,p,d,Aa h1,Ac N]
     .rw[Aa (au:¬ (m.getD i 0<0\/(g.cg.length:Int)<=m.getD i 0))];simp only[↓aF,aE,rE,↓reduceIte,rA,s,q,a,I,f,p,d,Aa h1,Aa N]
   clear s q a I f p d;rintro o ⟨F,inr⟩ Y ⟨rfl,E,bn,s,q,a,I,f,p,d,pb⟩;simp only at E s q a I f p d pb;subst E;rw[bn];refine am ?_
   by_cases aI:m.getD i 0<0\/(g.cg.length:Int)<=m.getD i 0
   .refine aS (i9 pb (Ac aI)) ?_;refine cA (fl ac ?_);refine cQ (b:=S.nx) (ar a) (by refine am ?_;exact aY _) cX rfl rfl ?_;intro X2 x2 m2 d2;refine am ?_;refine aT (fl a ?_);exact .inr ⟨⟨Av G.1 x2.1,fun c A bp=>by rw[x2.2 _ (Ae A G.1) bp,G.2 _ A]⟩,d2,fun h=>by have:=h _ R;omega⟩
   .refine aQ (i9 pb (Aa aI)) (aK ?_);refine am ?_
    refine aL (fo d w1 ?_);refine⟨k - 1,au,rfl,G,i+1,au,fun j hj=>?_,by refine⟨?_,?_,?_,?_,?_,?_,?_⟩<;>simp only[↓aF,aE,rE,↓reduceIte,rA,s,q,a,I,f,p]⟩;by_cases T:j=i
    .rw[T];omega
    .exact hr j au
  .refine aD (aQ io (bT ?_));refine am ?_;have aV:k=0:=by omega
   subst aV;exact .inl ⟨rfl,G,i,J,hr,by refine⟨?_,?_,?_,?_,?_,?_,?_⟩<;>simp only[↓aF,aE,rE,↓reduceIte,rA,s,q,a,I,f,p,d]⟩
 rintro o ⟨F,inr⟩ X (⟨rfl,E,G,i,J,hr,s,q,a,I,f,p,d⟩|⟨rfl,G,cX,bq,a,p5⟩);rotate_left
 .have hE:lE g.cg.length m ok=2:=by unfold lE;rw[if_neg (fun h=>h z),if_pos bq]
  rw[hE];simp only at a p5;have O:=mB (n:=2) cX rfl;refine fu @dE a p5 O ?_;exact⟨⟨Av s1.1 G.1,fun c A=>by rw[G.2 _ (Ae A s1.1) au,s1.2 _ A]⟩,_,_,rfl,fun h=>absurd h az,fun _=>⟨rfl,rfl⟩⟩
 simp only at E s q a I;subst E;have U:aBg m g.cg.length:=fun x hx=>by
  obtain⟨j,hj,rfl⟩:=Dv.1 hx;have:=hr j au;rw[Ad,Ab hj] at this;exact this
 clear f p d J hr i;have sX:=s1.trans G;have a3:S.nx<X.nx:=Ae le G.1;have cX:X.h.get S.nx=jf [.ct,.ct]:=by rw[G.2 _ le];exact c1
 refine am ?_
 refine cA (fl I ?_);refine fW (pU (n:=g.cg.length) (iz @aJ) (iz @aJ) ay ay) ?_;intro X1 x1 m1 d1;rw[repeatL_one] at d1;refine am ?_;have K:=sX.trans x1;refine aD (bB (Q:=fun o C Y=>(o= .normal/\aTg X1 mv wb S.nx X.nx g.cg.length m 0 C Y)\/(o= .ret/\Same S Y/\Y.h.get S.nx=jf [.ct,.ct]/\aFr m/\aC 4 C.F= .ptr S.nx 0/\aC 5 C.F=je 8)) (aD (aL ?_)) ?_)
 .refine ft q hm.len @Ah ?_;refine aO (bX (aTg X1 mv wb S.nx X.nx g.cg.length m) ?_ m.length _ _ ⟨rfl,cD.refl _ _,au,0,_,au,d1,Aq ..,fun v hv=>?_,fun j l _ hj=>au,by refine⟨?_,?_,?_,?_,?_,?_,?_⟩<;>simp only[↓aF,aE,rE,↓reduceIte,rA,s,q,a]⟩);rotate_left
  .rw[Ch,if_pos hv,Aa (fun⟨j,hj,_⟩=>au)]
  clear s q a I;rintro k ⟨F,inr⟩ Y ⟨E,hY,aZ,i,cs,J,hg,V,an,ao,s,q,a,p9,W,aa,L⟩;simp only at E s q a p9 W aa L;subst E;refine cA (fo aa L ?_);by_cases D:i<m.length
  .refine aD (aS io (aK ?_));refine am ?_
   have bs:X.nx<X1.nx:=by omega
   have sY:Same S Y:=⟨Av K.1 hY.1,fun c A=>by rw[hY.2 _ (Ae A K.1) au];exact K.2 _ A⟩;have cY:Y.h.get S.nx=jf [.ct,.ct]:=by rw[hY.2 _ au au,x1.2 _ a3];exact cX
   have a5:=hm.same sY;have ia:=a5.df D;have la:=a5.ld D;have R:m.getD i 0∈m:=by rw[Ad,Ab D];exact Bt _
   have w1:=ed i
   have⟨v0,v1⟩:=U _ R;generalize aw:m.getD i 0=v at *;obtain⟨u,rfl⟩:∃u:Nat,v=(u:Int):=⟨v.toNat,au⟩;have hu:u<g.cg.length:=by omega
   have a8:=fQ (b:=X.nx) (o:=false) hu;have bv:=cH hg (an u hu);refine aD (aO (aD (aL ?_)));refine fx W L @aJ ia la ?_;refine gH (fu p9 @aJ a8 bv ?_);by_cases hd:∃j,j<i/\m.getD j 0=(u:Int)
   .refine aS (iz (Ac hd)) ?_;refine cA (fl ac ?_);refine cQ (b:=S.nx) (ar a) (by refine am ?_;exact aY _) cY rfl rfl ?_;intro X2 x2 m2 d2;refine am ?_;refine aT (fl a ?_);have⟨j,hj,bw⟩:=hd;exact .inr ⟨⟨Av sY.1 x2.1,fun c A=>by rw[x2.2 _ (Ae A sY.1) au,sY.2 _ A]⟩,d2,i,j,hj,D,by rw[aw,bw]⟩
   .refine aQ (iz (Aa hd)) (aK ?_);refine am ?_
    refine aL (ft p9 @aJ a8 ?_);refine fN (fun call=>by refine fl @dL ?_;exact xO (S:=Y) (w:=.bool true) hg (by rw[V];exact hu)) ?_;refine am ?_;refine aL (fo L w1 ?_);refine⟨k - 1,au,rfl,hY.put _,aZ,i+1,cs.set u (.bool true),au,jd,by rw[Aw];exact V,fun v hv=>?_,fun j l hl hj=>?_,by refine⟨?_,?_,?_,?_,?_,?_,?_⟩<;>simp only[↓aF,aE,rE,↓reduceIte,rA,s,q,a,p9,W,aa]⟩
    .rw[Cw];split
     .rename_i e;rw[if_pos (by rw[V];exact hu),Ac (show ∃j,j<i+1/\m.getD j 0=(v:Int) from⟨i,au,by rw[aw,e]⟩)]
     .rename_i e;rw[an v hv];congr 2;rw[Cn,Cl,Cl];constructor
      .rintro⟨j,h1,N⟩;exact⟨j,au,N⟩
      .rintro⟨j,h1,N⟩;refine⟨j,?_,N⟩;by_cases T:j=i
       .rw[T,aw] at N;omega
       .omega
    .by_cases T:j=i
     .rw[T,aw];exact fun h=>hd ⟨l,au,h.symm⟩
     .exact ao j l hl au
  .refine aD (aQ io (bT ?_));refine am ?_;have aV:k=0:=by omega
   subst aV;exact .inl ⟨rfl,hY,aZ,i,cs,J,hg,V,an,ao,by refine⟨?_,?_,?_,?_,?_,?_,?_⟩<;>simp only[↓aF,aE,rE,↓reduceIte,rA,s,q,a,p9,W,aa,L]⟩
 clear s q a I;rintro o ⟨F,inr⟩ Y (⟨rfl,E,hY,aZ,i,cs,J,hg,V,an,ao,s,q,a,p9,W,aa,L⟩|⟨rfl,sY,cY,ba,a,p5⟩);rotate_left
 .have hE:lE g.cg.length m ok=8:=by unfold lE;rw[if_neg (fun h=>h z),if_neg (fun h=>h U),if_pos ba]
  rw[hE];simp only at a p5;have O:=mB (n:=2) cY rfl;refine fu @dE a p5 O ?_;exact⟨sY,_,_,rfl,fun h=>absurd h az,fun _=>⟨rfl,rfl⟩⟩
 simp only at E s q a;subst E;have ab:¬aFr m:=fun⟨i',k',h1,N,h3⟩=>ao i' k' h1 au h3;have bs:X.nx<X1.nx:=by omega
 have sY:Same S Y:=⟨Av K.1 hY.1,fun c A=>by rw[hY.2 _ (Ae A K.1) au];exact K.2 _ A⟩;have cY:Y.h.get S.nx=jf [.ct,.ct]:=by rw[hY.2 _ au au,x1.2 _ a3];exact cX
 have bb:S.nx<Y.nx:=by have:=hY.1;omega
 have bx:ok->lE g.cg.length m ok=0:=fun hk=>by unfold lE;rw[if_neg (fun h=>h z),if_neg (fun h=>h U),if_neg ab,if_pos hk]
 have bz:¬ok->lE g.cg.length m ok=3:=fun hk=>by unfold lE;rw[if_neg (fun h=>h z),if_neg (fun h=>h U),if_neg ab,if_neg hk]
 refine am ?_
 refine gH (fo s q ?_);refine bK (am ?_);refine aW (a0 z U ab Y sY) ?_;rintro _ Z ⟨hZ,x,y,t,rfl,ht,bA⟩;refine fo @xP @xN ?_;refine bS ?_;intro Z1 z1 k1 e1;refine cQ (b:=Z.nx) (aq) (by refine am ?_;exact aY _) e1 rfl rfl ?_;intro Z2 z2 k2 e2;refine am ?_;have M:Same Z Z2:=z2.same z1 (Af _);have B:=(sY.trans hZ).trans M;have bd:Z2.h.get S.nx=jf [.ct,.ct]:=by rw[(hZ.trans M).2 _ bb];exact cY
 have bI:S.nx<Z2.nx:=Ae bb (hZ.trans M).1;have be:=mB (n:=2) e2 rfl;refine cA (am ?_);cases t with
 | true=>
  rw[bx (ht.1 rfl)];refine aS (aq) ?_;refine cA (fl be ?_);refine cQ (b:=S.nx) (ar a) (by refine am ?_;exact aY _) bd rfl rfl ?_;intro Z3 z3 k3 e3;refine am ?_;have ld3:=mB (n:=2) e3 rfl;refine aT (ft @dE a @ld3 ?_);refine⟨⟨Av B.1 z3.1,fun c A=>by rw[z3.2 _ (Ae A B.1) au,B.2 _ A]⟩,x,y,rfl,⟨Y,sY.1,hP (bA rfl) (Av M.1 z3.1) fun c h1 N=>?_⟩,fun h=>absurd rfl h⟩;rw[z3.2 _ (Ae N M.1) au,M.2 _ N]
 | false=>
  rw[bz (fun h=>by have:=ht.2 h;cases this)];refine aQ (aq) (aK ?_);refine am ?_
  refine cA (fl ac ?_);refine cQ (b:=S.nx) (ar a) (by refine am ?_;exact aY _) bd rfl rfl ?_;intro Z3 z3 k3 e3;refine am ?_;have ld3:=mB (n:=2) e3 rfl;refine aT (ft @dE a @ld3 ?_);exact⟨⟨Av B.1 z3.1,fun c A=>by rw[z3.2 _ (Ae A B.1) au,B.2 _ A]⟩,_,_,rfl,fun h=>absurd h az,fun _=>⟨rfl,rfl⟩⟩
theorem aHl:∀ (l:bu) (s:Nat) (r:bu),(aDi l s r).length=r.length
 | [],_,_=>rfl
 | c::l,s,r=>by simp only[aDi];rw[aHl l,Aw]
theorem aE6{v:Nat}:∀ (l:bu) (s:Nat) (r:bu),(∀c∈l,c.toNat≠v)->(aDi l s r).getD v 0=r.getD v 0
 | [],_,_,_=>rfl
 | c::l,s,r,h=>by
  simp only[aDi];rw[aE6 l _ _ fun d a=>h d (Bf _ a)];have b:=h c (Bk ..);rw[Ad,Cw,if_neg b,Ad]
theorem aK0{k:Nat}{c:Int}:∀ (l:bu) (s:Nat) (r:bu),l.Pairwise (· < ·)->(∀c∈l,0<=c)->l[k]? =some c->c.toNat<r.length->(aDi l s r).getD c.toNat 0=((s+k:Nat):Int)
 | [],_,_,_,_,h,_=>by simp at h
 | x::l,s,r,hi,e,b,f=>by
  have⟨g,i⟩:=Ei.1 hi;simp only[aDi];cases k with
  | zero=>
   rw[Eo] at b;cases b;rw[aE6 l _ _ fun d a=>by
    have:=g d a;have:=e c (Bk ..);omega,iE f,if_pos rfl,Bs]
  | succ k=>
   rw[Ea] at b;rw[aK0 l (s+1) _ i (fun d a=>e d (Bf _ a)) b (by rw[Aw];exact f)];congr 1;omega
theorem aIj{g:aX}{v:Nat}:∀ (i:Nat) (r:bu),(∀j,j<i->∀c∈dN g j,c.toNat≠v)->(aEt g i r).getD v 0=r.getD v 0
 | 0,_,_=>rfl
 | i+1,r,h=>by
  simp only[aEt];rw[aIj i _ fun j a=>h j au,aE6 _ _ _ (h i au)]
theorem aHQ{g:aX}{i:Nat}:∀ (n:Nat) (r:bu),i<=n->∃a,a.length=r.length/\aEt g n r=aEt g i a
 | 0,r,h=>⟨r,rfl,by rw[show i=0 by omega]⟩
 | n+1,r,h=>by
  by_cases e:i=n+1
  .exact⟨r,rfl,by rw[e]⟩
  .obtain⟨a,b,c⟩:=aHQ (i:=i) n (aDi (dN g n) 0 r) au;exact⟨a,by rw[b,aHl],by simp only[aEt];exact c⟩
def aJ4{T:List cS}(m:WF (dN g) 0 (-1) T)(t:T.length=g.cg.length){k:Nat}(hi:i<g.cg.length)(n:(dN g i)[k]? =some c):(mO g).getD c.toNat 0=(k:Int):=by
 have f:∀j,j<g.cg.length->∀c∈dN g j,(j:Int)<c/\c<(g.cg.length:Int)/\jY T c.toNat=some (j:Int):=fun j q c h=>by
  have⟨a,b,e⟩:=m.cf j au c (by rw[Am];exact h);rw[Am] at a b e;exact⟨a,au,e⟩
 have h:=Ar n;have⟨u,v,r⟩:=f i hi c h;unfold mO;have⟨w,o,s⟩:=aHQ (g:=g) (i:=i+1) g.cg.length (List.replicate g.cg.length 0) au;rw[Aq] at o;rw[s];simp only[aEt];rw[aIj i _ fun j q l d e=>?_,aK0 _ _ _ ?_ (fun l d=>by have:=(f i hi l d).1;omega) n (by rw[o];omega),Am]
 .have:=m.inc i au;rw[Am] at this;exact this
 .have p:=(f j au l d).2.2;rw[e,r] at p;have:=Bh p;omega
end Go.Ev.Gl
