import Derived.Test.YtbmodoaceepfoaaGl7
set_option linter.all false
open Nat renaming reduceEqDiff -> rE, reduceAdd -> rA
set_option maxHeartbeats 0
namespace Go.Ev.Gl
variable {fns:T fD}
variable {S S' X:St}{b:List cL}{l R Z:bt}{v pv nv iv mv:AV}{n K j r i d:Nat}{cs:bu}{x:cQ}{c:Int}{A:bO}{Q:Out->bO->St->Prop}{g:aP}{ok:Prop}
def aTb(S:St)(a b:AV)(l m:bt)(k:Nat)(A:bO)(X:St):Prop:=A.inr=false/\jq S X/\∃i,i+k=l.length/\l.take i=m.take i/\aA 0 A.F=a/\aA 1 A.F=b/\aA 5 A.F=jr (i:Int)
def aIA{a b:AV}{m:bt}(H:Has fns)(s:bN .i64 S a l)(u:bN .i64 S b m)(G:l.length<=140737488355328):iK fns (.fn 12 [] []) [a,b] S fun r S'=>r= .bool (decide (l=m))/\jq S S':=by
 refine cJ H.f12 (by simp) ?_;refine am ?_;refine bS (am ?_);refine fZ (gj s.len u.len @Ag ?_);by_cases v:l.length=m.length;rotate_left
 .rw[Aa (show ¬l=m from fun e=>v (by rw[e]))];refine aM i9 ?_;refine bS (am ?_);refine aS (am ?_);exact dy _
 refine aK i9 (aG ?_);refine am ?_
 refine aB (aX (Q:=fun o y X=>(o= .normal/\aTb S a b l m 0 y X)\/(o= .ret/\jq S X/\l≠m/\aA 4 y.F= .bool false)) (aB (aF ?_)) ?_)
 .refine am ?_;refine aJ (bL (aTb S a b l m) ?_ l.length _ _ ⟨rfl,dy _,0,au,rfl,aq,aq,aq⟩);rintro k ⟨F,inr⟩ X ⟨rfl,d,i,n,p,g,q,j⟩;simp only at g q j;refine fZ (gu g j s.len @Ag ?_);by_cases f:i<l.length
  .refine aM i9 (aG ?_);refine am ?_
   have c:i<m.length:=by omega
   have B:=(s.jo d).c9 f;have C:=(s.jo d).ld f;have D:=(u.jo d).c9 c;have lb:=(u.jo d).ld c;have E:=du i
   refine aB (aJ (aB (gI ?_)));refine ik g q j @aY B D C lb ?_;have el:l.getD i 0=l[i]:=by rw[Ad,Ab f];rfl
   have em:m.getD i 0=m[i]:=by rw[Ad,Ab c];rfl
   by_cases t:l.getD i 0=m.getD i 0
   .refine aK (jd (Aa (show ¬l.getD i 0≠m.getD i 0 from fun h=>h t))) (aG ?_);refine am ?_
    refine aF (gh j E ?_);refine⟨k - 1,au,rfl,d.trans (jq.nx _ _),i+1,au,?_,ar g,ar q,aq⟩;rw[Cc,Cc,p,Ab f,Ab c,<-el,<-em,t]
   .refine aM (jd (Ac (show l.getD i 0≠m.getD i 0 from t))) ?_;refine bS (am ?_);refine aS (am ?_);exact .inr ⟨d.trans (jq.nx _ _),fun e=>t (by rw[e])⟩
  .refine aK i9 (bH ?_);refine am ?_;have w:k=0:=by omega
   subst w;exact .inl ⟨rfl,d,i,n,p,ar g,ar q,ar j⟩
 rintro o ⟨F,inr⟩ X (⟨rfl,z,d,i,n,p,g,q,j⟩|⟨rfl,d,x,A⟩);rotate_left
 .simp only at A;refine fx A ?_;rw[Aa x];exact⟨rfl,d⟩
 simp only at z;subst z;rw[Bh au,Bh au] at p;rw[Ac p];refine am ?_
 refine bS (am ?_);refine aS (am ?_);exact d
def yK{a b:AV}{m:bt}(H:Has fns)(c:bN .i64 S a l)(d:bN .i64 S b m)(e:l.length<=10000000):iK fns (.fn 12 [] []) [a,b] S fun r S'=>r= .bool (decide (l=m))/\jq S S':=
 aIA H c d au
def oM(S S':St)(v:AV)(l:bt):Prop:=∃b,v= .sl b 0 l.length l.length false/\S.nx<=b/\b<S'.nx/\S'.h.get b=js (aQ l)
def oM.is(h:oM S S' v l):bN .i64 S' v l:=by
 obtain⟨b,rfl,d,a,c⟩:=h;exact xK c a rfl
def oM.jo{a:St}(h:oM S S' v l)(c:jq S' a):oM S a v l:=by
 have⟨b,e,f,d,g⟩:=h;exact⟨b,e,f,Ae d c.1,(c.2 _ d).trans g⟩
def rG(n:Nat):repeatL [AV.int .i64 0] n=aQ (List.replicate n 0):=by rw[repeatL_one];simp [aQ]
def aLe{m:bt}(b:l.length=m.length)(h:∀j,j<m.length->l.getD j 0=m.getD j 0):l=m:=by
 refine En b fun j c a=>?_;have:=h j a;rw[Ad,Ad,Ab c,Ab a] at this;exact this
def aFT(S:St)(rb n:Nat)(f:Nat->Int)(P:Fr->Nat->Prop)(k:Nat)(A:bO)(X:St):Prop:=A.inr=false/\jq S X/\rb<X.nx/\∃ (i:Nat) (l:bt),i+k=n/\l.length=n/\(∀j,j<i->l.getD j 0=f j)/\X.h.get rb=js (aQ l)/\P A.F i
def wL(H:Has fns)(z:n<=1000000):iK fns (.fn 81 [] []) [jr (n:Int)] S fun r S'=>oM S S' r (List.replicate n (-1))/\jq S S':=by
 refine cJ H.f81 (by simp) ?_;refine am ?_;refine bS (am ?_);refine bS (am ?_);refine fQ (oK (n:=n) (jd @aY) (jd @aY) ay ay) ?_;intro S1 s1 A v;rw[rG] at v;refine am ?_;refine aB (aX (Q:=fun o w X=>o= .normal/\aFT S S.nx n (fun _=> -1) (fun F i=>aA 3 F= .sl S.nx 0 n n false/\aA 8 F=jr (n:Int)/\aA 9 F=jr (i:Int)) 0 w X) (aB (aF ?_)) ?_)
 .have x:lW (.sl S.nx 0 n n false)=some (jr (n:Int)):=rfl;refine fx x ?_;refine aJ (bL (aFT S S.nx n (fun _=> -1) (fun F i=>aA 3 F= .sl S.nx 0 n n false/\aA 8 F=jr (n:Int)/\aA 9 F=jr (i:Int))) ?_ n _ _ ⟨rfl,s1,au,0,_,au,Au ..,fun j h=>au,v,aq,aq,aq⟩);rintro k ⟨F,inr⟩ X ⟨rfl,m,p,i,l,f,d,q,s,a,g,e⟩;simp only at a g e;refine bS (gh g e ?_);by_cases c:i<n
  .refine aB (aM i9 (aG ?_));refine am ?_
   have y:=du i
   have t:=eX (b:=S.nx) (o:=false) c;refine aB (aJ (aB (aF ?_)));refine fx e ?_;refine aF (gj a @aY t ?_);rw[show Int.negSucc 0=(-1:Int) from rfl];refine eK (fun call=>by refine gh @dE @cF ?_;exact qQ (S:=X) s (by rw[d];exact c)) ?_;refine am ?_;refine aF (gh e y ?_);refine⟨k - 1,au,rfl,m.put (Af _) _,p,i+1,l.set i (-1),au,by rw[Ar];exact d,fun j h=>?_,jh,ar a,ar g,aq⟩;rw[eJ (by rw[d];exact c)];split
   .rfl
   .exact q j au
  .refine aB (aK i9 (bH ?_));refine am ?_;have u:k=0:=by omega
   subst u;exact⟨rfl,m,p,i,l,f,d,q,s,ar a,ar g,ar e⟩
 rintro o ⟨F,inr⟩ X ⟨rfl,rfl,m,p,i,l,f,d,q,s,a,g,e⟩;simp only at a;have el:l=List.replicate n (-1):=aLe (by rw[d,Au]) fun j h=>by
  rw[Au] at h;rw[q j au,Ad,Cj,if_pos h];rfl
 subst el;refine am ?_
 refine bS (fx a ?_);refine aS (am ?_);exact⟨⟨S.nx,by rw[Au],Af _,p,s⟩,m⟩
def aBh(a:bt)(n:Nat):Prop:=∀x∈a,0<=x/\x<n
def lK:bt->Nat->Int->Int
 | [],_,_=> -1
 | x::l,s,c=>if x=c then(s:Int) else lK l (s+1) c
def pZ{c:Int}:∀ {l:bt} {s:Nat},(lK l s c= -1/\c∉l)\/∃k,lK l s c=((s+k:Nat):Int)/\l[k]? =some c/\∀j,j<k->l[j]? ≠some c
 | [],s=>.inl ⟨rfl,by simp⟩
 | x::l,s=>by
  simp only[lK];by_cases h:x=c
  .rw[if_pos h];exact .inr ⟨0,rfl,by rw[h];rfl,fun j d=>au⟩
  .rw[if_neg h];rcases pZ (c:=c) (l:=l) (s:=s+1) with⟨a,b⟩|⟨k,a,b,f⟩
   .exact .inl ⟨a,by rw[Bm];rintro(e|e);exact h e.symm;exact b e⟩
   .refine .inr ⟨k+1,by rw[a];congr 1;omega,b,fun j d=>?_⟩;cases j with
    | zero=>simp only[Ef,ne_eq,Ay];exact h
    | succ j=>rw[Cd];exact f j au
def aTR(S:St)(nb:Nat)(c:Int)(l:bt)(k:Nat)(A:bO)(X:St):Prop:=A.inr=false/\jq S X/\∃i,i+k=l.length/\lK l 0 c=lK (l.drop i) i c/\aA 1 A.F=jr c/\aA 2 A.F= .ptr nb 0/\aA 5 A.F=jr (i:Int)
def aJI{x:cD}(H:Has fns)(y:bT S cs x)(E:x.ji.length<=100000):iK fns (.fn 55 [] []) [.agg cs,jr c] S fun r S'=>r=jr (lK x.ji 0 c)/\jq S S':=by
 obtain⟨a,z,A,rfl,q,_,_⟩:=y;refine cJ H.f55 (by simp) ?_;refine ae ?_;apply bS;refine dC (by refine ae ?_;exact bB _) ?_;intro S1 s1 G B;refine ae ?_;have lb:S.nx<S1.nx:=by omega
 refine aB (aX (Q:=fun o s X=>(o= .normal/\aTR S1 S.nx c x.ji 0 s X)\/(o= .ret/\jq S1 X/\aA 4 s.F=jr (lK x.ji 0 c))) (aB (aF ?_)) ?_)
 .refine am ?_;refine aJ (bL (aTR S1 S.nx c x.ji) ?_ x.ji.length _ _ ⟨rfl,dy _,0,au,rfl,aq,aq,aq⟩);rintro k ⟨F,inr⟩ X ⟨rfl,d,i,j,b,l,h,f⟩;simp only at l h f;have t:X.h.get S.nx=js [jr x.jk,jr x.jl,jr x.jj,a,z,A]:=by rw[d.2 _ lb];exact B
  have m:=q.jo (s1.trans d);refine fZ (ig h f @aU @aT (dD t) q.len @Ag ?_);by_cases e:i<x.ji.length
  .refine aM i9 (aG ?_);refine am ?_
   have C:=m.c9 e;have u:=m.ld e;have el:x.ji.getD i 0=x.ji[i]:=by rw[Ad,Ab e];rfl
   have g:x.ji.drop i=x.ji[i]::x.ji.drop (i+1):=Bt e;have D:=du i
   rw[g] at b;simp only[lK] at b;rw[el] at u;refine aB (aJ (aB (aF ?_)));simp only[↓aD,aC,rE,↓reduceIte,rA,l,h,f,aU,aT,dD t,aY,C,u];by_cases n:x.ji[i]=c
   .rw[if_pos n] at b;refine aM (jd (Ac n)) ?_;refine bS (fx f ?_);refine aS (am ?_);exact .inr ⟨d,by rw[b]⟩
   .rw[if_neg n] at b;refine aK (jd (Aa n)) (aG ?_);refine am ?_
    refine aF (gh f D ?_);exact⟨k - 1,au,rfl,d,i+1,au,b,ar l,ar h,aq⟩
  .refine aK i9 (bH ?_);refine am ?_;have p:k=0:=by omega
   subst p;exact .inl ⟨rfl,d,i,j,b,ar l,ar h,ar f⟩
 rintro o ⟨F,inr⟩ X (⟨rfl,v,d,i,j,b,l,h,f⟩|⟨rfl,d,w⟩);rotate_left
 .simp only at w;refine fx w ?_;exact s1.trans d
 simp only at v;subst v;rw[Cw au] at b;refine am ?_
 refine bS (am ?_);refine aS (am ?_);exact⟨by rw[b];rfl,s1.trans d⟩
def aRZ(h:T AB)(K:Nat)(l:mC):Prop:=pE l.v (iC l.q l.F h)=true/\l.i<K/\Nat.testBit l.mask K=false
def aBo{h:T AB}{base K:Nat}{e:List AO}{Q:DS->Prop}:∀ {pre:List AO} {i:Nat} {F:Fr} {S:St} {ls:List mC},S.h=h->i+pre.length=K->(∀o∈pre,Nat.testBit o.mask K=false)->(∀l∈ls,aRZ h K l)->
  pR pre F h (fun F'=>∀f,(∀l∈f,aRZ h K l)->wpd fns e K base ⟨F',S,[],[],f⟩ Q)->wpd fns (pre++e) i base ⟨F,S,[],[],ls⟩ Q
 | [],i,F,S,ls,r,p,_,j,c=>by
  simp only[Ca,Bw] at p;subst p;exact c ls j
 | ⟨d,.q q,g,m⟩::l,i,F,S,ls,r,p,w,j,c=>by
  simp only[pR] at c;have t:i+1+l.length=K:=by rw[Aw] at p;omega
  have u:∀o∈l,Nat.testBit o.mask K=false:=fun o C=>w o (Az _ C);have D:Nat.testBit m K=false:=w _ (Be ..);have go:∀ (_:nE (iC q F h) fun v=>(dU q=true->cI v v=true)/\pR l (cT d F v) h (fun F'=>∀f,(∀l∈f,aRZ h K l)->wpd fns e K base ⟨F',S,[],[],f⟩ Q)),wpd fns (⟨d,.q q,none,m⟩::(l++e)) i base ⟨F,S,[],[],ls⟩ Q:=by
   rintro⟨v,B,E,c⟩;rw[iT];subst r;refine⟨v,B,aBo rfl t u ?_ c⟩;cases G:dU q with
   | false=>exact j
   | true=>
    rw[aL];intro l' k;rcases Bm.1 k with rfl|k
    .refine⟨?_,by show i<K;omega,D⟩;show pE v (iC q F S.h)=true;rw[B,kO];exact E G
    .exact j _ k
  cases g with
  | none=>exact go (by rw[if_pos (show fX none F=true from rfl)] at c;exact c)
  | some g=>
   have⟨s,b⟩:=g;by_cases x:fX (some (s,b)) F=true
   .rw[if_pos x] at c;have⟨n,y,z,A⟩:=go c;refine⟨n,y,?_,A⟩;have:tW ⟨d,.q q,some (s,b),m⟩ i base (ev fns n).call ⟨F,S,[],[],ls⟩=tW ⟨d,.q q,none,m⟩ i base (ev fns n).call ⟨F,S,[],[],ls⟩:=by
     show bX (fX (some (s,b)) F) _ _=bX true _ _;rw[x];rfl
    show bD (tW ⟨d,.q q,some (s,b),m⟩ i base (ev fns n).call ⟨F,S,[],[],ls⟩) _=_;rw[this];exact z
   .rw[if_neg x] at c;have⟨n,y,z,A⟩:=aBo (i:=i+1) (F:=cT d F .undef) (ls:=ls) r t u j c;refine⟨n,y,?_,A⟩;have:tW ⟨d,.q q,some (s,b),m⟩ i base (ev fns n).call ⟨F,S,[],[],ls⟩=some ⟨cT d F .undef,S,[],[],ls⟩:=by
     show bX (fX (some (s,b)) F) _ _=_;rw[show fX (some (s,b)) F=false by simpa using x];rfl
    show bD (tW ⟨d,.q q,some (s,b),m⟩ i base (ev fns n).call ⟨F,S,[],[],ls⟩) _=_;rw[this];exact z
 | ⟨d,.a a,g,m⟩::l,i,F,S,ls,r,p,w,j,c=>by cases c
 | ⟨d,.x a,g,m⟩::l,i,F,S,ls,r,p,w,j,c=>by cases c
def aQi{b pre:List AO}{m:Nat}{v:cQ}(t:b=pre++ [⟨none,.x (.st n x v),none,m⟩])(u:pre.length=K)(y:∀o∈pre,Nat.testBit o.mask K=false)(z:∀i,i<K->Nat.testBit m i=true)
  (h:pR pre A.F S.h fun F'=>∃S1,bD (v.val F').cells (fun cs=>qZ (x.val F') n cs ⟨S.h,S.nx+(K+1)⟩)=some (.undef,S1)/\Q .normal ⟨F',A.inr⟩ S1):jN fns (.drw b) A S Q:=by
 subst t;have c:(pre++ [(⟨none,.x (.st n x v),none,m⟩:AO)]).length=K+1:=by simp [u]
 apply rC;rw[c];refine aBo (h:=S.h) (K:=K) (pre:=pre) (i:=0) rfl au y (fun l e=>by cases e) ?_;have mono:∀ {P P':Fr->Prop},(∀F,P F->P' F)->∀ (l:List AO) (F:Fr),pR l F S.h P->pR l F S.h P':=fun {P P'} B l=>by
  induction l with
  | nil=>intro F h;exact B F h
  | cons o l s=>
   intro F h;have⟨d,op,g,I⟩:=o;cases op with
   | q q=>
    simp only[pR] at h ⊢;split at h
    .rename_i f;rw[if_pos f];have⟨w,j,k,p⟩:=h;exact⟨w,j,k,s _ p⟩
    .rename_i f;rw[if_neg f];exact s _ h
   | a a=>cases h
   | x a=>cases h
 refine mono ?_ pre A.F h;rintro F' ⟨S1,C,D⟩ ls r;refine iS (v:=.undef) (S1:=S1) rfl (fun call=>by rw[dE];exact C) ?_;rw[iL];refine⟨?_,?_⟩
 .simp only[Cg,List.reverse_nil,Bu];refine oD fun l e=>?_;have⟨E,G,H⟩:=r l e;unfold eU;rw[H,aR,E,aL,z _ G,aL]
 .exact D
def jS(T:List cL)(j:Nat):Option Int:=(T[j]?).map (·.1)
def CF(nx:Nat->bt)(a:Nat)(T:List cL):Prop:=∀j,j<T.length->∀c∈nx (a+j),((a+j:Nat):Int)<c/\c<((a+T.length:Nat):Int)/\jS T (c.toNat - a)=some ((a+j:Nat):Int)
def PF(nx:Nat->bt)(a:Nat)(T:List cL)(j:Nat):Prop:=∃q,q<j/\jS T j=some ((a+q:Nat):Int)/\((a+j:Nat):Int)∈nx (a+q)
def aMj(nx:Nat->bt)(a:Nat)(T:List cL):Prop:=∀j,j<T.length->(nx (a+j)).Pairwise (· < ·)
structure WF(nx:Nat->bt)(a:Nat)(p:Int)(T:List cL):Prop where
 pos:0<T.length
 root:jS T 0=some p
 cf:CF nx a T
 pf:∀j,0<j->j<T.length->PF nx a T j
 inc:aMj nx a T
structure KF(nx:Nat->bt)(r:Nat)(p:Int)(l:bt)(L:List cL):Prop where
 cf:CF nx r L
 kid:∀c∈l,((r:Nat):Int)<=c/\c<((r+L.length:Nat):Int)/\jS L (c.toNat - r)=some p
 pf:∀j,j<L.length->(jS L j=some p/\((r+j:Nat):Int)∈l)\/PF nx r L j
 inc:aMj nx r L
 up:l.Pairwise (· < ·)
def vV{a:List cL}(h:j<a.length):jS (a++b) j=jS a j:=by unfold jS;rw[Ak h]
def tN{a:List cL}(h:a.length<=j):jS (a++b) j=jS b (j - a.length):=by unfold jS;rw[Ao h]
def CF.append{nx:Nat->bt}{f i:List cL}(k:CF nx r f)(l:CF nx (r+f.length) i):CF nx r (f++i):=fun j m c g=>by
 rw[Ai] at m ⊢;by_cases h:j<f.length
 .have⟨a,b,d⟩:=k j h c g;exact⟨a,au,by rw[vV au];exact d⟩
 .have e:r+j=r+f.length+(j - f.length):=by omega
  rw[e] at g;have⟨a,b,d⟩:=l (j - f.length) au c g;refine⟨au,au,?_⟩;rw[tN au,show c.toNat - r - f.length=c.toNat - (r+f.length) by omega,d,e]
def PF.left{nx:Nat->bt}{a:List cL}(h:PF nx r a j)(c:j<a.length):PF nx r (a++b) j:=by
 have⟨q,d,e,f⟩:=h;exact⟨q,d,by rw[vV c];exact e,f⟩
def PF.right{nx:Nat->bt}{a:List cL}(h:PF nx (r+a.length) b (j - a.length))(c:a.length<=j):PF nx r (a++b) j:=by
 have⟨q,f,d,e⟩:=h;refine⟨a.length+q,au,?_,?_⟩
 .rw[tN c,d,show r+a.length+q=r+(a.length+q) by omega]
 .rw[show r+(a.length+q)=r+a.length+q by omega,show r+j=r+a.length+(j - a.length) by omega];exact e
def aMj.append{nx:Nat->bt}{a:List cL}(c:aMj nx r a)(d:aMj nx (r+a.length) b):aMj nx r (a++b):=fun j e=>by
 rw[Ai] at e;by_cases h:j<a.length
 .exact c j h
 .rw[show r+j=r+a.length+(j - a.length) by omega];exact d (j - a.length) au
def aEx{rec:Nat->Option (List cL)}{nx:Nat->bt}{p:Int}(o:∀r L,rec r=some L->WF nx r p L):∀ {l:bt} {r:Nat} {L:List cL},fU rec l r=some L->KF nx r p l L
 | [],r,L,h=>by
  simp only[fU,Ay] at h;subst h;exact⟨fun j f=>by simp at f,fun c m=>by simp at m,fun j f=>by simp at f,fun j f=>by simp at f,.nil⟩
 | c::l,r,L,h=>by
  simp only[fU] at h;split at h
  .rename_i m;have⟨g,q,s⟩:=Dg.1 h;obtain⟨y,t,rfl⟩:=Bc.1 s;have w:=o r g q;have k:=aEx o t;have u:=w.pos;refine⟨w.cf.append k.cf,fun i e=>?_,fun j f=>?_,w.inc.append k.inc,?_⟩
   .rw[Ai];rcases Bm.1 e with rfl|e
    .rw[m];refine⟨au,au,?_⟩;rw[show((r:Int)).toNat - r=0 by omega,vV u];exact w.root
    .have⟨a,b,d⟩:=k.kid i e;refine⟨au,au,?_⟩;rw[tN au,show i.toNat - r - g.length=i.toNat - (r+g.length) by omega];exact d
   .rw[Ai] at f;by_cases h:j<g.length
    .by_cases v:j=0
     .subst v;exact .inl ⟨by rw[vV h];exact w.root,by rw[Bw,m];exact Be ..⟩
     .exact .inr ((w.pf j au h).left h)
    .rcases k.pf (j - g.length) au with⟨n,x⟩|n
     .exact .inl ⟨by rw[tN au];exact n,Az _ (by rw[show r+j=r+g.length+(j - g.length) by omega];exact x)⟩
     .exact .inr (PF.right n au)
   .refine Ep.2 ⟨fun i e=>?_,k.up⟩;have:=(k.kid i e).1;omega
  .cases h
def jR{N:Nat}{nx:Nat->bt}:∀ {f at_:Nat} {p d:Int} {T:List cL},eT N nx f at_ p d=some T->WF nx at_ p T
 | 0,at_,p,d,T,h=>by cases h
 | f+1,at_,p,d,T,h=>by
  simp only[eT] at h;split at h
  .obtain⟨L,l,rfl⟩:=Bc.1 h;have k:=aEx (p:=(at_:Int)) (fun r L m=>jR m) l;have ps:∀j,jS ((p,d,((at_+L.length:Nat):Int))::L) (j+1)=jS L j:=fun j=>by unfold jS;rw[Cd]
   refine⟨by simp,rfl,fun j g c i=>?_,fun j n g=>?_,fun j g=>?_⟩
   .rw[Aw] at g ⊢;cases j with
    | zero=>
     rw[Bw] at i ⊢;have⟨a,b,e⟩:=k.kid c i;refine⟨au,au,?_⟩;rw[show c.toNat - at_=(c.toNat - (at_+1))+1 by omega,ps];exact e
    | succ j=>
     rw[show at_+(j+1)=at_+1+j by omega] at i ⊢;have⟨a,b,e⟩:=k.cf j au c i;refine⟨au,au,?_⟩;rw[show c.toNat - at_=(c.toNat - (at_+1))+1 by omega,ps];exact e
   .rw[Aw] at g;cases j with
    | zero=>omega
    | succ j=>
     rcases k.pf j au with⟨a,b⟩|⟨q,a,b,e⟩
     .exact⟨0,au,by rw[ps,a];rfl,by rw[Bw,show at_+(j+1)=at_+1+j by omega];exact b⟩
     .refine⟨q+1,au,?_,?_⟩
      .rw[ps,b,show at_+1+q=at_+(q+1) by omega]
      .rw[show at_+(q+1)=at_+1+q by omega,show at_+(j+1)=at_+1+j by omega];exact e
   .rw[Aw] at g;cases j with
    | zero=>exact k.up
    | succ j=>
     rw[show at_+(j+1)=at_+1+j by omega];exact k.inc j au
  .cases h
def qL{a pre:List AO}{m:Nat}{v:cQ}(b:a=pre++ [⟨none,.x (.st n x v),none,m⟩])(c:pre.length=K)(d:(pre.all fun o=> !Nat.testBit o.mask K)=true)(e:((List.range K).all fun i=>Nat.testBit m i)=true)
  (h:pR pre A.F S.h fun F'=>∃S1,bD (v.val F').cells (fun cs=>qZ (x.val F') n cs ⟨S.h,S.nx+(K+1)⟩)=some (.undef,S1)/\Q .normal ⟨F',A.inr⟩ S1):jN fns (.drw a) A S Q:=by
 refine aQi b c (fun o f=>?_) (fun i hi=>?_) h
 .have:=Dq.1 d o f;simpa using this
 .exact Dq.1 e i (Dp.2 hi)
def aLu{W:Nat->Prop}{a:T AB}{base:Nat}{l:List AO}{F:Fr}{ps:List jD}{last:Option Nat}{Q:Fr->St->List jD->Prop}{d:Option Nat}{t:Nat}(b:(x.val F).cells=some cs)
  (c:gO fns W a base l (i+1) (cT d F (.ptr (base+i) 0)) S (⟨i,base+i,.cells cs false 0⟩::ps) last Q):aI0 fns W a base (uI (.box t x) F (base+i)) d l i F S ps last Q:=by
 rw[aLk,b,aH,lR];exact c
def bN.cells{k:IntKind}(h:bN k S v l):v.cells=some [v]:=by
 rcases h with⟨_,rfl|rfl⟩|⟨b,off,cap,o,cs,rfl,_⟩<;>rfl
def aDh:bt->Nat->bt->bt
 | [],_,r=>r
 | c::l,s,r=>aDh l (s+1) (r.set c.toNat (s:Int))
def aEs(g:aP):Nat->bt->bt
 | 0,r=>r
 | i+1,r=>aEs g i (aDh (dP g i) 0 r)
def mS(g:aP):bt:=aEs g g.ce.length (List.replicate g.ce.length 0)
structure kE(S:St)(wb plb szb:Nat)(pv nv iv:AV)(g:aP)(R Z:bt):Prop where
 w:wW S wb g.ch nv iv pv (.sl plb 0 g.ce.length g.ce.length false) (.sl szb 0 g.ce.length g.ce.length false)
 gp:S.h.get plb=some (.cells (aQ R) false 0)
 gz:S.h.get szb=some (.cells (aQ Z) false 0)
 lp:R.length=g.ce.length
 lz:Z.length=g.ce.length
 bp:plb<S.nx
 bz:szb<S.nx
def kE.setZ{c b a:Nat}{Z':bt}(h:kE X c b a pv nv iv g R Z)(e:c≠a)(f:b≠a)(d:X.nx<=n)(i:Z'.length=g.ce.length):kE ⟨X.h.set a (js (aQ Z')),n⟩ c b a pv nv iv g R Z':=
 ⟨⟨by simp only;rw[dx,if_neg e];exact h.w.1,Ae h.w.2 d⟩,by simp only;rw[dx,if_neg f];exact h.gp,jh,h.lp,i,Ae h.bp d,Ae h.bz d⟩
def kE.setP{c a b:Nat}{d:bt}(h:kE X c a b pv nv iv g R Z)(f:c≠a)(i:a≠b)(e:X.nx<=n)(j:d.length=g.ce.length):kE ⟨X.h.set a (js (aQ d)),n⟩ c a b pv nv iv g d Z:=
 ⟨⟨by simp only;rw[dx,if_neg f];exact h.w.1,Ae h.w.2 e⟩,jh,by simp only;rw[dx,if_neg (Ch i)];exact h.gz,j,h.lz,Ae h.bp e,Ae h.bz e⟩
def tH.put{a:Nat}{b:Nat}{v:Option AB}(h:tH d a a S X)(e:b=d\/b=a)(f:X.nx<=n):tH d a a S ⟨X.h.set b v,n⟩:=⟨Aq h.1 f,fun c g i j k=>by
 simp only;rw[dx,if_neg (by rcases e with rfl|rfl<;>assumption)];exact h.2 c g i j k⟩
def aLC{P:Ev.T AB->Prop}{h:Ev.T AB}{a b:Nat}{e z:Option AB}(f:a≠b)(g:a≠d)(n3:b≠d)(H:∀h':Ev.T AB,h'.get a=e->h'.get b=z->h'.get d=z->(∀c,c≠a->c≠b->c≠d->h'.get c=h.get c)->P h'):P (((h.set a e).set b z).set d z):=by
 refine H _ ?_ ?_ ?_ fun c i j k=>?_
 .rw[dx,if_neg g,dx,if_neg f,dx,if_pos rfl]
 .rw[dx,if_neg n3,dx,if_pos rfl]
 .rw[dx,if_pos rfl]
 .rw[dx,if_neg k,dx,if_neg j,dx,if_neg i]
def aLl{hi:Int}:∀ {l:bt} {lo:Int},l.Pairwise (· < ·)->(∀c∈l,lo<=c/\c<hi)->l.length<=(hi - lo).toNat
 | [],lo,_,_=>by simp
 | c::l,lo,h,b=>by
  have⟨e,f⟩:=Ep.1 h;have g:=b c (Be ..);have:=aLl (lo:=c+1) f fun d a=>⟨by have:=e d a;omega,(b d (Az _ a)).2⟩;rw[Aw];omega
noncomputable def aQV:List AO:=[mt 47 7,
om 48 1 (.cw (.t 47)),
om 49 3 (.dd 5 (.t 48)),
om 50 7 (ld 49),
mt 51 4,
mt 52 8,
om 53 48 (.c9 (.slice 1) (.t 51) (.t 52)),
om 54 112 (ld 53),
om 55 255 (.c9 (.slice 1) (.t 50) (.t 54)),
om 56 511 (ld 55),
mt 57 7,
om 58 1024 (.cw (.t 57)),
om 59 3072 (.dd 5 (.t 58)),
om 60 7168 (ld 59),
mt 61 8,
om 62 31744 (.c9 (.slice 1) (.t 60) (.t 61)),
om 63 64512 (ld 62),
om 64 131071 (bi .add (.t 56) (.t 63)),
om 65 262143 (.c9 (.slice 1) (.t 50) (.t 54))]
def szS(T:List cL)(i:Nat)(Z:bt):bt:=if 0<i then(Z.set i (IntKind.i64.wrap (Z.getD i 0+1))).set ((T.map fun t:cL=>t.1).getD i 0).toNat (IntKind.i64.wrap ((Z.set i (IntKind.i64.wrap (Z.getD i 0+1))).getD ((T.map fun t:cL=>t.1).getD i 0).toNat 0+(Z.set i (IntKind.i64.wrap (Z.getD i 0+1))).getD i 0)) else Z.set i (IntKind.i64.wrap (Z.getD i 0+1))
def szG(T:List cL):Nat->bt->bt
 | 0,Z=>Z
 | i+1,Z=>szG T i (szS T i Z)
def szL(T:List cL)(n:Nat):bt:=szG T n (List.replicate n 0)
def aUx(d:St)(gb c b a:Nat)(pv nv iv:AV)(g:aP)(T:List cL)(k:Nat)(A:bO)(X:St):Prop:=A.inr=false/\tH b a a d X/\∃R Z,kE X c b a pv nv iv g R Z/\k<=g.ce.length/\aEs g k R=mS g/\szG T k Z=szL T g.ce.length/\aA 1 A.F= .ptr gb 0/\aA 4 A.F=pv/\aA 7 A.F= .ptr c 0/\aA 8 A.F=jr ((k:Int) - 1)
def aUf(e:St)(gb d c b:Nat)(pv nv iv a:AV)(g:aP)(i:Nat)(ji Z:bt)(k:Nat)(A:bO)(X:St):Prop:=A.inr=false/\tH c b b e X/\∃j R,kE X d c b pv nv iv g R Z/\j+k=ji.length/\aEs g i (aDh (ji.drop j) j R)=mS g/\aA 1 A.F= .ptr gb 0/\aA 4 A.F=pv/\aA 7 A.F= .ptr d 0/\aA 8 A.F=jr (i:Int)/\aA 71 A.F=a/\aA 72 A.F=jr (ji.length:Int)/\aA 73 A.F=jr (j:Int)
def aSk(S S':St)(p nv iv:AV)(g:aP):Prop:=∃ (a b c:Nat) (pv:AV) (T:List cL) (Z:bt),p= .ptr a 0/\S.nx<=a/\fY g=some T/\T.length=g.ce.length/\bN .i64 S' pv (T.map (·.1))/\kE S' a b c pv nv iv g (mS g) Z
def aPq(S S':St)(p nv iv:AV)(g:aP):Prop:=∃ (a b c:Nat) (pv:AV) (T:List cL),p= .ptr a 0/\S.nx<=a/\fY g=some T/\T.length=g.ce.length/\bN .i64 S' pv (T.map (·.1))/\kE S' a b c pv nv iv g (mS g) (szL T g.ce.length)
def aKo(H:Has fns)(hn:aE 6 bT S nv g.ce)(hi:aE 2 cC S iv g.cg)(be:g.ce.length<=100000):
  iK fns (.fn 64 [] []) [.agg [jr g.ch,nv,iv]] S fun r S'=>jq S S'/\∃p,r= .tup [p,jr (cR g)]/\(cR g=0->aPq S S' p nv iv g):=by
 refine cJ H.f64 (by simp) ?_;refine ae ?_;apply bS;refine dC (by refine ae ?_;exact bB _) ?_;intro S1 s1 n1 c1;refine ae ?_;refine bS (c8 (gE c1) ?_);refine bJ (ae ?_);refine aW (aG7 H (aE.jo (E:=bT) bF hn s1) (aE.jo (E:=cC) bQ hi s1) be) ?_;rintro _ X ⟨pv,rfl,hX,hP⟩;refine ae ?_;refine fZ (ae ?_);by_cases h0:cR g=0;rotate_left
 .refine aM (ja (Ac (show cR g≠0 from h0))) ?_;refine bS (ae ?_);refine aS (ae ?_);exact⟨s1.trans hX,_,rfl,fun h=>absurd h h0⟩
 refine aK (ja (Aa (show ¬cR g≠0 from fun h=>h h0))) (aG ?_);refine ae ?_
 have⟨T,hT,bY,O⟩:=hP.2 h0;have aV:=jR (show eT g.ce.length (dP g) (g.ce.length+1) 0 (-1) 0=some T from hT);have sX:=s1.trans hX;have bj:S.nx<X.nx:=by have:=hX.1;omega
 have cX:X.h.get S.nx=js [jr g.ch,nv,iv]:=by rw[hX.2 _ au];exact c1
 have sn:=aE.self hn;have si:=aE.self hi;have sg:=zG (dO .i64 g.ch) sn si;refine bS (dz (fN cX) hn.len ?_);refine aB (pJ (fun _=>False) ?_);intro X1 x1 aZ bk;have bZ:∀ (F:Fr) (h:Ev.T AB) (x y:AV),aA 22 F= .agg [jr g.ch,nv,iv]->aA 23 F=pv->aA 25 F=x->aA 27 F=y->x.cells=some [x]->y.cells=some [y]->iC (.build [jr 0,.cr,.cr,.cr,.cr,.cr] [(0,3,.t 22),(3,1,.t 23),(4,1,.t 25),(5,1,.t 27)]) F h=some (.agg [jr g.ch,nv,iv,pv,x,y]):=fun F h x y h1 h2 h3 h4 h5 h6=>by
  show(bD (eO _ (dN F [(0,3,.t 22),(3,1,.t 23),(4,1,.t 25),(5,1,.t 27)])) fun cs=>some (AV.agg cs))=_;simp only[dN,show(cQ.t 22).val F= .agg [jr g.ch,nv,iv] from h1,show(cQ.t 23).val F=pv from h2,show(cQ.t 25).val F=x from h3,show(cQ.t 27).val F=y from h4,eO,bN.cells O,h5,h6,bB,aH];rfl
 refine ec (gE cX) bj @Ap sg ?_;refine qF (n:=g.ce.length) (af) (af) ay ay  ?_;refine ae ?_;refine qF (n:=g.ce.length) (af) (af) ay ay  ?_;have bm:=fun(F:Fr) (h:Ev.T AB) h1 h2 h3 h4=>bZ F h (.sl (X.nx+3) 0 g.ce.length g.ce.length false) (.sl (X.nx+5) 0 g.ce.length g.ce.length false) h1 h2 h3 h4 rfl rfl;refine dz @pI bm ?_;refine aLu (cs:=[jr g.ch,nv,iv,pv,.sl (X.nx+3) 0 g.ce.length g.ce.length false,.sl (X.nx+5) 0 g.ce.length g.ce.length false]) (by refine ae ?_;exact bB _) ?_;refine ae ?_;rw[rG,iH (az:Nat.testBit (2 ^ 9 - 1) 7=true),iH (az:Nat.testBit (2 ^ 9 - 1) 5=true),iH (az:Nat.testBit (2 ^ 9 - 1) 3=true),bK];refine aLC (P:=fun h'=>jN fns _ _ ⟨h',X1.nx⟩ _) au au au ?_;intro Zh gw g5 g3 gr;have bk:X1.nx=X.nx+9:=bk;have sZ:jq S ⟨Zh,X1.nx⟩:=⟨by show S.nx<=X1.nx;have:=sX.1;omega,fun c hc=>by
  have:=sX.1;show Zh.get c=S.h.get c;rw[gr c au au au,aZ];exact sX.2 c hc⟩
 have cZ:Zh.get S.nx=js [jr g.ch,nv,iv]:=by
  rw[gr _ au au au,aZ];exact cX
 have z:kE ⟨Zh,X1.nx⟩ (X.nx+7) (X.nx+3) (X.nx+5) pv nv iv g (List.replicate g.ce.length 0) (List.replicate g.ce.length 0):=⟨⟨gw,by show X.nx+7<X1.nx;omega⟩,g3,g5,Au ..,Au ..,by show _<X1.nx;omega,by show _<X1.nx;omega⟩;have a0:jq X ⟨Zh,X1.nx⟩:=⟨by show X.nx<=X1.nx;omega,fun c hc=>by
  show Zh.get c=X.h.get c;rw[gr c au au au,aZ]⟩
 have cl:=sX.1;generalize hZ:(⟨Zh,X1.nx⟩:St)=Z0 at *;have cZ:Z0.h.get S.nx=js [jr g.ch,nv,iv]:=by rw[<-hZ];exact cZ
 have b0:S.nx<Z0.nx:=Ae bj a0.1;have b1:X.nx+7≠X.nx+3:=by omega
 have bp:X.nx+7≠X.nx+5:=by omega
 have a1:X.nx+3≠X.nx+5:=by omega
 have b2:S.nx≠X.nx+3:=by omega
 have bq:S.nx≠X.nx+5:=by omega
 have l3:S.nx<=X.nx+3:=by omega
 have l5:S.nx<=X.nx+5:=by omega
 have l7:S.nx<=X.nx+7:=by omega
 have bs:X.nx<=X.nx+3:=by omega
 have U:X.nx<=X.nx+5:=by omega
 generalize cm:X.nx+7=wb at *;generalize cn:X.nx+3=D at *;generalize cq:X.nx+5=f at *;have b3:∀i,i<g.ce.length->∀c∈dP g i,(i:Int)<c/\c<(g.ce.length:Int):=fun i hi c hc=>by
  have:=aV.cf i au c (by rw[An];exact hc);omega
 have b6:∀i,0<i->i<g.ce.length->∃q:Nat,q<i/\(T.map (·.1)).getD i 0=(q:Int):=fun i h1 h2=>by
  have⟨q,a,b,_⟩:=aV.pf i h1 au;refine⟨q,a,?_⟩;rw[Ad,Ba];unfold jS at b;rw[b,An];rfl
 have hN:g.ce.length<=100000:=be;have w0:IntKind.i64.wrap ((g.ce.length:Int) - 1)=(g.ce.length:Int) - 1:=wrap_i64 au au;refine aB (aX (Q:=fun o V Y=>o= .normal/\aUx Z0 S.nx wb D f pv nv iv g T 0 V Y) (aB (aF ?_)) ?_)
 .refine fx w0 ?_;refine aJ (bL (aUx Z0 S.nx wb D f pv nv iv g T) ?_ g.ce.length _ _ ⟨rfl,tH.refl _ _ _ _,_,_,z,Af _,rfl,rfl,aq,aq,aq,aq⟩);rintro k ⟨F,inr⟩ Y ⟨rfl,hY,R,Z,z,bv,d,A,B,C,s,l⟩;simp only at B C s l;refine fZ (fx l ?_);by_cases hk:0<k
  .refine aM i9 (aG ?_);refine am ?_
   obtain⟨i,rfl⟩:∃i,k=i+1:=⟨k - 1,au⟩;have e1:(((i+1:Nat):Int)) - 1=(i:Int):=by omega
   rw[e1] at l;have G:i<g.ce.length:=by omega
   have bw:=eX (b:=f) (o:=false) G;have w:i<Z.length:=by rw[z.lz];exact G
   have bx:=cM (p:=i) (x:=jr (Z.getD i 0)) z.gz (by unfold aQ;rw[Ba,Ab w,Ad,Ab w];rfl);refine aB (aJ (aB (aF ?_)));refine im s l @dG @dH @aU @aT (fA z.w.1) @aY bw bx ?_;refine eK (fun call=>by refine gh @dE @cF ?_;exact qQ (S:=Y) z.gz w) ?_;refine am ?_;have hS:szS T i Z=if 0<i then(Z.set i (IntKind.i64.wrap (Z.getD i 0+1))).set ((T.map fun t:cL=>t.1).getD i 0).toNat (IntKind.i64.wrap ((Z.set i (IntKind.i64.wrap (Z.getD i 0+1))).getD ((T.map fun t:cL=>t.1).getD i 0).toNat 0+(Z.set i (IntKind.i64.wrap (Z.getD i 0+1))).getD i 0)) else Z.set i (IntKind.i64.wrap (Z.getD i 0+1)):=rfl;have A:szG T i (szS T i Z)=szL T g.ce.length:=A;generalize szS T i Z=ZS at hS A;have u:=z.setZ (Z':=Z.set i (IntKind.i64.wrap (Z.getD i 0+1))) bp a1 (Af _) (by rw[Ar];exact z.lz);have aa:=hY.put (b:=f) (v:=js (aQ (Z.set i (IntKind.i64.wrap (Z.getD i 0+1))))) (.inr rfl) (Af Y.nx);generalize (⟨Y.h.set f (js (aQ (Z.set i (IntKind.i64.wrap (Z.getD i 0+1))))),Y.nx⟩:St)=Y1 at *;generalize Z.set i (IntKind.i64.wrap (Z.getD i 0+1))=Z1 at *;have I:jq X Y1:=aa.jo a0 bs U U;have w:i<Z1.length:=by rw[u.lz];exact G
   have a2:∀j,j<g.ce.length->eE (.ptr f j) false 1 Y1.h=some (jr (Z1.getD j 0)):=fun j hj=>cM u.gz (by
    have bz:j<Z1.length:=by rw[u.lz];exact hj
    unfold aQ;rw[Ba,Ab bz,Ad,Ab bz];rfl)
   refine aB (aX (Q:=fun o V Y'=>o= .normal/\V.inr=false/\tH D f f Z0 Y'/\kE Y' wb D f pv nv iv g R ZS/\aA 1 V.F= .ptr S.nx 0/\aA 4 V.F=pv/\aA 7 V.F= .ptr wb 0/\aA 8 V.F=jr (i:Int)) (aB (aF ?_)) ?_)
   .refine fx l ?_;by_cases a4:0<i
    .refine aM i9 ?_;have⟨q,hq,bA⟩:=b6 i a4 G;have an:i<(T.map (·.1)).length:=by rw[Av];omega
     have b8:=(O.jo I).c9 an;have bC:=(O.jo I).ld an;rw[bA] at bC;have b':=eX (b:=f) (N:=g.ce.length) (o:=false) (au:q<g.ce.length);have lq:=a2 q au;have li:=a2 i G;rw[if_pos a4,bA,Am] at hS;subst hS;refine qL (pre:=aQV) (K:=19) (m:=524287) (n:=1) (x:=.t 65) (v:=.t 64) rfl rfl rfl rfl ?_;unfold aQV;simp only[↓aD,aC,rE,↓reduceIte,rA,C,s,l,dG,fG,dH,aU,cP,aT,fA u.w.1,aY,b8,bC,b',lq,bw,li];simp only[cF,aH];exact⟨_,qQ (S:=⟨Y1.h,Y1.nx+20⟩) u.gz (by rw[u.lz];omega),aa.put (.inr rfl) (Br _ _),u.setZ bp a1 (Br _ _) (by rw[Ar];exact u.lz),B⟩
    .refine aK i9 (aG ?_);refine am ?_
     rw[if_neg a4] at hS;subst hS;exact⟨aa,u,ar B,ar C,ar s,ar l⟩
   rintro o ⟨F,inr⟩ Y2 ⟨rfl,rfl,ab,bI,B,C,s,l⟩;simp only at B C s l;refine am ?_
   have bM:jq S Y2:=ab.jo sZ l3 l5 l5;have cY:Y2.h.get S.nx=js [jr g.ch,nv,iv]:=by rw[ab.2 _ b0 b2 bq bq];exact cZ
   obtain⟨x,hx⟩:∃x,g.ce[i]? =some x:=⟨_,Ab G⟩;have a5:=vX hx;obtain⟨e,b,q,ao,hb,he,⟨a,bb,cc,rfl,ha,_,_⟩,_,bP⟩:=aE.at hn az hx;have ba:=bP 3 a rfl;rw[<-eM bM hb] at ba;have ac:=b3 i G;rw[a5] at ac;have d:aEs g i (aDh x.ji 0 R)=mS g:=by rw[<-a5];exact d
   have cr:x.ji.length<=100000:=by
    have aw:=aV.inc i au;rw[An,a5] at aw;have:=aLl (lo:=0) aw fun c hc=>⟨by have:=(ac c hc).1;omega,(ac c hc).2⟩;omega
   refine bS (im B l @aU @aT (fN cY) @aY ao ba ha.len @Ag ?_);refine aX (Q:=fun o V Y'=>o= .normal/\aUf Z0 S.nx wb D f pv nv iv a g i x.ji ZS 0 V Y') ?_ ?_
   .refine aJ (bL (aUf Z0 S.nx wb D f pv nv iv a g i x.ji ZS) ?_ x.ji.length _ _ ⟨rfl,ab,0,R,bI,au,d,ar B,ar C,ar s,ar l,aq,aq,aq⟩);rintro k ⟨F,inr⟩ W ⟨rfl,hW,j,R,z,bR,d,B,C,s,l,L,M,J⟩;simp only at B C s l L M J;refine bS (gh M J ?_);by_cases hj:j<x.ji.length
    .refine aB (aM i9 (aG ?_));refine am ?_
     have ca:jq S W:=hW.jo sZ l3 l5 l5;have bU:=ha.jo ca;have cf:=bU.c9 hj;have bV:=bU.ld hj;have ch:x.ji.drop j=x.ji[j]::x.ji.drop (j+1):=Bt hj;have cj:x.ji.getD j 0=x.ji[j]:=by rw[Ad,Ab hj];rfl
     rw[cj] at bV;rw[ch] at d;have⟨c0,cv⟩:=ac _ (Bl hj);generalize x.ji[j]=c at *;obtain⟨m,rfl⟩:∃m:Nat,c=(m:Int):=⟨c.toNat,au⟩;have hm:m<g.ce.length:=by omega
     have bW:=eX (b:=D) (o:=false) hm;have w1:=du j
     refine aB (aJ (aB (aF ?_)));refine gy L J @aY cf bV ?_;refine aF (ik s @dG @dH @aU @aT (dW z.w.1) @aY bW ?_);refine eK (fun call=>by refine gh @dE @cF ?_;exact qQ (S:=W) z.gp (by rw[z.lp];exact hm)) ?_;refine am ?_;apply aF;simp only[↓aD,aC,rE,↓reduceIte,rA,J,w1];simp only[aDh,Am] at d;exact⟨k - 1,au,rfl,hW.put (.inl rfl) (Af _),j+1,R.set m (j:Int),z.setP b1 a1 (Af _) (by rw[Ar];exact z.lp),au,d,ar B,ar C,ar s,ar l,ar L,ar M,aq⟩
    .refine aB (aK i9 (bH ?_));refine am ?_;have bd:k=0:=by omega
     subst bd;exact⟨rfl,hW,j,R,z,bR,d,ar B,ar C,ar s,ar l,ar L,ar M,ar J⟩
   rintro o ⟨F,inr⟩ W ⟨rfl,rfl,hW,j,R3,ck,bR,aI,B,C,s,l,L,M,J⟩;simp only at B C s l;rw[Cw au] at aI;have w2:IntKind.i64.wrap ((i:Int) - 1)=(i:Int) - 1:=wrap_i64 au au;refine am ?_
   refine aF (gh l w2 ?_);exact⟨i,au,rfl,hW,R3,ZS,ck,au,aI,A,ar B,ar C,ar s,aq⟩
  .refine aK i9 (bH ?_);refine am ?_;have bd:k=0:=by omega
   subst bd;exact⟨rfl,hY,R,Z,z,bv,d,A,ar B,ar C,ar s,ar l⟩
 rintro o ⟨F,inr⟩ Y ⟨rfl,rfl,hY,R,Z,z,bv,d,A,B,C,s,l⟩;simp only at s;have d:R=mS g:=d;subst d;have A:Z=szL T g.ce.length:=A;subst A;refine am ?_
 refine bS (fx s ?_);refine aS (am ?_);rw[h0];have I:jq X Y:=hY.jo a0 bs U U;exact⟨sX.trans I,_,rfl,fun _=>⟨wb,D,f,pv,T,rfl,l7,hT,bY,O.jo I,z⟩⟩
def aCz(H:Has fns)(l:aE 6 bT S nv g.ce)(hi:aE 2 cC S iv g.cg)(i:g.ce.length<=100000):
  iK fns (.fn 64 [] []) [.agg [jr g.ch,nv,iv]] S fun r S'=>jq S S'/\∃p,r= .tup [p,jr (cR g)]/\(cR g=0->aSk S S' p nv iv g):=by
 refine aW (aKo H l hi i) fun r S' h=>?_;have⟨m,p,n,o⟩:=h;refine⟨m,p,n,fun q=>?_⟩;have⟨s,j,k,pv,T,a,b,c,d,e,f⟩:=o q;exact⟨s,j,k,pv,T,_,a,b,c,d,e,f⟩
def aFs(m:bt):Prop:=∃i k,k<i/\i<m.length/\m.getD i 0=m.getD k 0
open Classical in
noncomputable def jT(n:Nat)(m:bt)(ok:Prop):Int:=if m.length≠n then 10 else if ¬aBh m n then 2 else if aFs m then 8 else if ok then 0 else 3
def CkR(S1:St)(gb:Nat)(mv:AV)(n:Nat)(m:bt)(k:Nat)(A:bO)(X:St):Prop:=A.inr=false/\jq S1 X/\∃i,i+k=n/\(∀j,j<i->0<=m.getD j 0/\m.getD j 0<n)/\aA 1 A.F=mv/\aA 2 A.F= .ptr gb 0/\aA 5 A.F=jr (n:Int)/\aA 6 A.F=jr (i:Int)
def CkD(S1:St)(gb:Nat)(mv:AV)(n:Nat)(m:bt)(k:Nat)(A:bO)(X:St):Prop:=A.inr=false/\jq S1 X/\∃i,i+k=n/\(∀j l,l<j->j<i->m.getD j 0≠m.getD l 0)/\aA 1 A.F=mv/\aA 2 A.F= .ptr gb 0/\aA 5 A.F=jr (n:Int)/\aA 7 A.F=jr (i:Int)
def CkE(S1:St)(gb:Nat)(mv:AV)(n i:Nat)(m:bt)(k:Nat)(A:bO)(X:St):Prop:=A.inr=false/\jq S1 X/\∃l,l+k=i/\(∀j,j<l->m.getD i 0≠m.getD j 0)/\aA 1 A.F=mv/\aA 2 A.F= .ptr gb 0/\aA 5 A.F=jr (n:Int)/\aA 7 A.F=jr (i:Int)/\aA 8 A.F=jr (l:Int)
def aC3{m:bt}(H:Has fns)(hn:aE 6 bT S nv g.ce)(hm:bN .i64 S mv m)(aV:g.ce.length<=100000)
  (L:m.length=g.ce.length->aBh m g.ce.length->¬aFs m->∀S',jq S S'->iK fns (.fn 29 [] []) [.agg [jr g.ch,nv,iv],mv] S' fun r aa=>jq S' aa/\∃a b t,r= .tup [a,b,.bool t]/\(t=true↔ok)):
  iK fns (.fn 47 [] []) [.agg [jr g.ch,nv,iv],mv] S fun r S'=>r=jr (jT g.ce.length m ok)/\jq S S':=by
 refine cJ H.f47 (by simp) ?_;refine ae ?_;apply bS;refine dC (by refine ae ?_;exact bB _) ?_;intro S1 s1 n1 c1;refine ae ?_;have ab:S.nx<S1.nx:=by omega
 refine bS (dz (fN c1) hn.len ?_);refine fZ (dz hm.len @Ag ?_);by_cases s:m.length=g.ce.length;rotate_left
 .refine aM i7 ?_;refine bS (ae ?_);apply aS;simp only[↓sU,sD,rE,↓reduceIte,rA];unfold jT;rw[if_pos s];exact⟨rfl,s1⟩
 refine aK i7 (aG ?_);refine ae ?_
 unfold jT;rw[if_neg (fun h=>h s)];refine aB (aX (Q:=fun o n X=>(o= .normal/\CkR S1 S.nx mv g.ce.length m 0 n X)\/(o= .ret/\jq S1 X/\¬aBh m g.ce.length/\aA 4 n.F=jr 2)) (aB (aF ?_)) ?_)
 .refine am ?_;refine aJ (bL (CkR S1 S.nx mv g.ce.length m) ?_ g.ce.length _ _ ⟨rfl,dy _,0,au,fun j G=>au,aq,aq,aq,aq⟩);rintro k ⟨F,inr⟩ X ⟨rfl,u,i,p,y,c,d,e,q⟩;simp only at c d e q;refine fZ (gh e q ?_);by_cases ac:i<g.ce.length
  .refine aM i9 (aG ?_);refine am ?_
   have M:=hm.jo (s1.trans u);have N:=M.c9 (au:i<m.length);have O:=M.ld (au:i<m.length);have P:m.getD i 0∈m:=by rw[Ad,Ab (au:i<m.length)];exact Bl _
   have w1:=du i
   refine aB (aJ (aB (aX (Q:=fun o n Y=>o= .normal/\n.inr=false/\Y=X/\aA 1 n.F=mv/\aA 2 n.F= .ptr S.nx 0/\aA 5 n.F=jr (g.ce.length:Int)/\aA 6 n.F=jr (i:Int)/\aA 36 n.F= .bool (decide (m.getD i 0<0\/(g.ce.length:Int)<=m.getD i 0))) (aF ?_) ?_)))
   .by_cases J:m.getD i 0<0
    .rw[Ac (show m.getD i 0<0\/(g.ce.length:Int)<=m.getD i 0 from .inl J)];simp only[↓aD,aC,rE,↓reduceIte,rA,c,d,e,q,aY,N,O,Ac J]
    .by_cases V:(g.ce.length:Int)<=m.getD i 0
     .rw[Ac (show m.getD i 0<0\/(g.ce.length:Int)<=m.getD i 0 from .inr V)];simp only[↓aD,aC,rE,↓reduceIte,rA,c,d,e,q,aY,N,O,Aa J,Ac V]
     .rw[Aa (au:¬ (m.getD i 0<0\/(g.ce.length:Int)<=m.getD i 0))];simp only[↓aD,aC,rE,↓reduceIte,rA,c,d,e,q,aY,N,O,Aa J,Aa V]
   rintro o ⟨F,inr⟩ Y ⟨rfl,rfl,an,c,d,e,q,pb⟩;simp only at c d e q pb;rw[an];refine am ?_
   by_cases B:m.getD i 0<0\/(g.ce.length:Int)<=m.getD i 0
   .refine aM (je pb (Ac B)) ?_;refine bS (am ?_);refine aS (am ?_);exact .inr ⟨u,fun h=>by have:=h _ P;omega⟩
   .refine aK (je pb (Aa B)) (aG ?_);refine am ?_
    refine aF (gh q w1 ?_);refine⟨k - 1,au,rfl,u,i+1,au,fun j G=>?_,ar c,ar d,ar e,aq⟩;by_cases I:j=i
    .rw[I];omega
    .exact y j au
  .refine aK i9 (bH ?_);refine am ?_;have v:k=0:=by omega
   subst v;exact .inl ⟨rfl,u,i,p,y,ar c,ar d,ar e,ar q⟩
 rintro o ⟨F,inr⟩ X (⟨rfl,C,u,i,p,y,c,d,e,q⟩|⟨rfl,u,ao,D⟩);rotate_left
 .simp only at D;refine fx D ?_;rw[if_pos ao];exact⟨rfl,s1.trans u⟩
 simp only at C c d e;subst C;have R:aBh m g.ce.length:=fun x hx=>by
  obtain⟨j,G,rfl⟩:=Dj.1 hx;have:=y j au;rw[Ad,Ab G] at this;exact this
 rw[if_neg (fun h=>h R)];refine am ?_
 refine aB (aX (Q:=fun o n Y=>(o= .normal/\CkD X S.nx mv g.ce.length m 0 n Y)\/(o= .ret/\jq X Y/\aFs m/\aA 4 n.F=jr 8)) (aB (aF ?_)) ?_)
 .refine am ?_;refine aJ (bL (CkD X S.nx mv g.ce.length m) ?_ g.ce.length _ _ ⟨rfl,dy _,0,au,fun j l _ G=>au,ar c,ar d,ar e,aq⟩);rintro k ⟨F,inr⟩ Y ⟨rfl,z,i,p,y,c,d,e,f⟩;simp only at c d e f;refine fZ (gh e f ?_);by_cases ac:i<g.ce.length
  .refine aM i9 (aG ?_);refine am ?_
   have w1:=du i
   refine aB (aJ (aB (aF ?_)));refine am ?_;refine aX (Q:=fun o n W=>(o= .normal/\CkE Y S.nx mv g.ce.length i m 0 n W)\/(o= .ret/\jq Y W/\aFs m/\aA 4 n.F=jr 8)) (aJ (bL (CkE Y S.nx mv g.ce.length i m) ?_ i _ _ ⟨rfl,dy _,0,au,fun j G=>au,ar c,ar d,ar e,ar f,aq⟩)) ?_
   .clear c d e f;rintro k ⟨F,inr⟩ W ⟨rfl,E,l,T,hd,c,d,e,f,K⟩;simp only at c d e f K;refine fZ (gh f K ?_);by_cases hl:l<i
    .refine aM i9 (aG ?_);refine am ?_
     have A:=hm.jo (s1.trans (u.trans (z.trans E)));have N:=A.c9 (au:i<m.length);have O:=A.ld (au:i<m.length);have ib:=A.c9 (au:l<m.length);have lb:=A.ld (au:l<m.length);have w2:=du l
     refine aB (aJ (aB (gI ?_)));refine ik c f K @aY N O ib lb ?_;by_cases he:m.getD i 0=m.getD l 0
     .refine aM (jd (Ac he)) ?_;refine bS (am ?_);refine aS (am ?_);exact .inr ⟨E.trans (jq.nx _ _),i,l,hl,au,he⟩
     .refine aK (jd (Aa he)) (aG ?_);refine am ?_
      refine aF (gh K w2 ?_);refine⟨k - 1,au,rfl,E.trans (jq.nx _ _),l+1,au,fun j G=>?_,ar c,ar d,ar e,ar f,aq⟩;by_cases aw:j=l
      .rw[aw];exact he
      .exact hd j au
    .refine aK i9 (bH ?_);refine am ?_;have v:k=0:=by omega
     subst v;exact .inl ⟨rfl,E,l,T,hd,ar c,ar d,ar e,ar f,ar K⟩
   rintro o ⟨F,inr⟩ W (⟨rfl,C,E,l,T,hd,c,d,e,f,K⟩|⟨rfl,E,w,D⟩)
   .simp only at C c d e f;subst C;refine am ?_
    refine aF (gh f w1 ?_);refine⟨k - 1,au,rfl,z.trans E,i+1,au,fun j l' aI G=>?_,ar c,ar d,ar e,aq⟩;by_cases I:j=i
    .rw[I];exact hd l' au
    .exact y j l' aI au
   .simp only at D;refine am ?_;exact .inr ⟨z.trans E,w,D⟩
  .refine aK i9 (bH ?_);refine am ?_;have v:k=0:=by omega
   subst v;exact .inl ⟨rfl,z,i,p,y,ar c,ar d,ar e,ar f⟩
 rintro o ⟨F,inr⟩ Y (⟨rfl,C,z,i,p,y,c,d,e,f⟩|⟨rfl,z,w,D⟩);rotate_left
 .simp only at D;refine fx D ?_;rw[if_pos w];exact⟨rfl,s1.trans (u.trans z)⟩
 simp only at C c d;subst C;have U:¬aFs m:=fun⟨i',k',J,V,h3⟩=>y i' k' J au h3;rw[if_neg U];have sY:=s1.trans (u.trans z);have cY:Y.h.get S.nx=js [jr g.ch,nv,iv]:=by rw[(u.trans z).2 _ ab];exact c1
 refine am ?_
 refine fZ (gj c d (gE cY) ?_);refine bJ (am ?_);refine aW (L s R U Y sY) ?_;rintro _ Z ⟨hZ,a,b,t,rfl,ht⟩;have ex2:nG (.tup [a,b,.bool t]) 2=some (.bool t):=rfl;refine gj @ex0 @ex1 @ex2 ?_;refine bS (fx @iY ?_);cases t with
 | false=>
  rw[if_neg (fun h=>by have:=ht.2 h;cases this)];refine aM (by simp only[↓aD,aC,rE,↓reduceIte,rA];rfl) ?_;refine bS (am ?_);refine aS (am ?_);exact sY.trans hZ
 | true=>
  rw[if_pos (ht.1 rfl)];refine aK (by simp only[↓aD,aC,rE,↓reduceIte,rA];rfl) (aG ?_);refine am ?_
  refine bS (am ?_);refine aS (am ?_);exact sY.trans hZ
def aUJ(S1:St)(mv:AV)(w e:Nat)(n:Nat)(m:bt)(k:Nat)(A:bO)(X:St):Prop:=A.inr=false/\jq S1 X/\∃i,i+k=m.length/\(∀j,j<i->0<=m.getD j 0/\m.getD j 0<n)/\aA 0 A.F= .ptr w 0/\aA 1 A.F=mv/\aA 4 A.F= .ptr e 0/\aA 6 A.F=jr (n:Int)/\aA 25 A.F=mv/\aA 26 A.F=jr (m.length:Int)/\aA 27 A.F=jr (i:Int)
def aTT(X1:St)(mv:AV)(w e a n:Nat)(m:bt)(k:Nat)(A:bO)(X:St):Prop:=A.inr=false/\cA a X1 X/\a<X.nx/\∃i cs,i+k=m.length/\X.h.get a=js cs/\cs.length=n/\(∀v,v<n->cs[v]? =some (.bool (decide (∃j,j<i/\m.getD j 0=(v:Int)))))/\(∀j l,l<j->j<i->m.getD j 0≠m.getD l 0)/\aA 0 A.F= .ptr w 0/\aA 1 A.F=mv/\aA 4 A.F= .ptr e 0/\aA 9 A.F= .sl a 0 n n false/\aA 42 A.F=mv/\aA 43 A.F=jr (m.length:Int)/\aA 44 A.F=jr (i:Int)
def aAu{wb:Nat}{bj bk:AV}{m:bt}{P:St->St->AV->AV->Prop}(H:Has fns)(hP:∀ {S0 S1 S2:St} {x y:AV},P S0 S1 x y->S1.nx<=S2.nx->(∀c,S0.nx<=c->c<S1.nx->S2.h.get c=S1.h.get c)->P S0 S2 x y)(hW:wW S wb g.ch nv iv pv bj bk)(hn:aE 6 bT S nv g.ce)(hm:bN .i64 S mv m)(bI:g.ce.length<=100000)
  (aZ:m.length=g.ce.length->aBh m g.ce.length->¬aFs m->∀S',jq S S'->iK fns (.fn 78 [] []) [.ptr wb 0,mv] S' fun r a0=>jq S' a0/\∃x y t,r= .tup [.agg [x,y],.bool t]/\(t=true↔ok)/\(t=true->P S' a0 x y)):
  iK fns (.fn 67 [] []) [.ptr wb 0,mv] S fun r S'=>jq S S'/\∃x y,r= .tup [.agg [x,y],jr (jT g.ce.length m ok)]/\(jT g.ce.length m ok=0->∃S0,S.nx<=S0.nx/\P S0 S' x y)/\(jT g.ce.length m ok≠0->x= .cr/\y= .cr):=by
 have ab:∀ (F:Fr) (h:Ev.T AB),iC (.build [.cr,.cr] []) F h=some (.agg [.cr,.cr]):=fun _ _=>rfl;refine cJ H.f67 (by simp) ?_;refine am ?_;apply bS;apply cB;intro S1 s1 n1 c1;refine am ?_;have lw:=hW.2;have bm:=hW.jo s1;have le:S.nx<S1.nx:=by omega
 refine bS (ie @dG @dH @aU @aT (eF bm.1) hn.len ?_);refine fZ (gh hm.len @Ag ?_);by_cases z:m.length=g.ce.length;rotate_left
 .have hE:jT g.ce.length m ok=10:=by unfold jT;rw[if_pos z]
  rw[hE];refine aM i9 ?_;refine bS (fx ab ?_);refine dB (b:=S.nx) (aq) (by refine am ?_;exact bB _) c1 rfl rfl ?_;intro S2 s2 n2 c2;refine am ?_;have N:=mA (n:=2) c2 rfl;refine aS (gh @eI N ?_);exact⟨s2.jo s1 (Af _),_,_,rfl,fun h=>absurd h az,fun _=>⟨rfl,rfl⟩⟩
 refine aK i9 (aG ?_);refine am ?_
 refine aB (aX (Q:=fun o C X=>(o= .normal/\aUJ S1 mv wb S.nx g.ce.length m 0 C X)\/(o= .ret/\cA S.nx S1 X/\X.h.get S.nx=js [.cr,.cr]/\¬aBh m g.ce.length/\aA 4 C.F= .ptr S.nx 0/\aA 5 C.F=jr 2)) (aB (aF ?_)) ?_)
 .refine gh hm.len @Ag ?_;refine aJ (bL (aUJ S1 mv wb S.nx g.ce.length m) ?_ m.length _ _ ⟨rfl,dy _,0,au,fun j hj=>au,aq,aq,aq,aq,aq,aq,aq⟩);rintro k ⟨F,inr⟩ X ⟨rfl,E,i,I,hr,s,q,a,G,f,p,d⟩;simp only at s q a G f p d;refine bS (gh p d ?_);by_cases D:i<m.length
  .refine aB (aM i9 (aG ?_));refine am ?_
   have a1:=hm.jo (s1.trans E);have ia:=a1.c9 D;have la:=a1.ld D;have O:m.getD i 0∈m:=by rw[Ad,Ab D];exact Bl _
   have cX:X.h.get S.nx=js [.cr,.cr]:=by rw[E.2 _ le];exact c1
   have w1:=du i
   refine aB (aJ (aB (aF ?_)));refine gy f d @aY ia la ?_;refine aB (aX (Q:=fun o C Y=>o= .normal/\C.inr=false/\Y=X/\aA 0 C.F= .ptr wb 0/\aA 1 C.F=mv/\aA 4 C.F= .ptr S.nx 0/\aA 6 C.F=jr (g.ce.length:Int)/\aA 25 C.F=mv/\aA 26 C.F=jr (m.length:Int)/\aA 27 C.F=jr (i:Int)/\aA 37 C.F= .bool (decide (m.getD i 0<0\/(g.ce.length:Int)<=m.getD i 0))) (aF ?_) ?_)
   .by_cases h1:m.getD i 0<0
    .rw[Ac (show m.getD i 0<0\/(g.ce.length:Int)<=m.getD i 0 from .inl h1)];simp only[↓aD,aC,rE,↓reduceIte,rA,s,q,a,G,f,p,d,Ac h1]
    .by_cases M:(g.ce.length:Int)<=m.getD i 0
     .rw[Ac (show m.getD i 0<0\/(g.ce.length:Int)<=m.getD i 0 from .inr M)];simp only[↓aD,aC,rE,↓reduceIte,rA,s,q,a,G,f,p,d,Aa h1,Ac M]
     .rw[Aa (au:¬ (m.getD i 0<0\/(g.ce.length:Int)<=m.getD i 0))];simp only[↓aD,aC,rE,↓reduceIte,rA,s,q,a,G,f,p,d,Aa h1,Aa M]
   rintro o ⟨F,inr⟩ Y ⟨rfl,rfl,bp,s,q,a,G,f,p,d,pb⟩;simp only at s q a G f p d pb;rw[bp];refine am ?_
   by_cases aw:m.getD i 0<0\/(g.ce.length:Int)<=m.getD i 0
   .refine aM (je pb (Ac aw)) ?_;refine bS (fx ab ?_);refine dB (b:=S.nx) (ar a) (by refine am ?_;exact bB _) cX rfl rfl ?_;intro X2 x2 m2 d2;refine am ?_;refine aS (fx a ?_);exact .inr ⟨⟨Aq E.1 x2.1,fun c A bq=>by rw[x2.2 _ (Ae A E.1) bq,E.2 _ A]⟩,d2,fun h=>by have:=h _ O;omega⟩
   .refine aK (je pb (Aa aw)) (aG ?_);refine am ?_
    refine aF (gh d w1 ?_);refine⟨k - 1,au,rfl,E,i+1,au,fun j hj=>?_,ar s,ar q,ar a,ar G,ar f,ar p,aq⟩;by_cases R:j=i
    .rw[R];omega
    .exact hr j au
  .refine aB (aK i9 (bH ?_));refine am ?_;have aI:k=0:=by omega
   subst aI;exact .inl ⟨rfl,E,i,I,hr,ar s,ar q,ar a,ar G,ar f,ar p,ar d⟩
 rintro o ⟨F,inr⟩ X (⟨rfl,q0,E,i,I,hr,s,q,a,G,f,p,d⟩|⟨rfl,E,cX,bs,a,p5⟩);rotate_left
 .have hE:jT g.ce.length m ok=2:=by unfold jT;rw[if_neg (fun h=>h z),if_pos bs]
  rw[hE];simp only at a p5;have N:=mA (n:=2) cX rfl;refine gu @eI a p5 N ?_;exact⟨⟨Aq s1.1 E.1,fun c A=>by rw[E.2 _ (Ae A s1.1) au,s1.2 _ A]⟩,_,_,rfl,fun h=>absurd h az,fun _=>⟨rfl,rfl⟩⟩
 simp only at q0 s q a G;subst q0;have T:aBh m g.ce.length:=fun x hx=>by
  obtain⟨j,hj,rfl⟩:=Dj.1 hx;have:=hr j au;rw[Ad,Ab hj] at this;exact this
 have sX:=s1.trans E;have a2:S.nx<X.nx:=Ae le E.1;have cX:X.h.get S.nx=js [.cr,.cr]:=by rw[E.2 _ le];exact c1
 refine am ?_
 refine bS (fx G ?_);refine fQ (oK (n:=g.ce.length) (jd @aY) (jd @aY) ay ay) ?_;intro X1 x1 m1 d1;rw[repeatL_one] at d1;refine am ?_;have J:=sX.trans x1;refine aB (aX (Q:=fun o C Y=>(o= .normal/\aTT X1 mv wb S.nx X.nx g.ce.length m 0 C Y)\/(o= .ret/\jq S Y/\Y.h.get S.nx=js [.cr,.cr]/\aFs m/\aA 4 C.F= .ptr S.nx 0/\aA 5 C.F=jr 8)) (aB (aF ?_)) ?_)
 .refine gj q hm.len @Ag ?_;refine aJ (bL (aTT X1 mv wb S.nx X.nx g.ce.length m) ?_ m.length _ _ ⟨rfl,cA.refl _ _,au,0,_,au,d1,Au ..,fun v hv=>?_,fun j l _ hj=>au,ar s,ar q,ar a,aq,aq,aq,aq⟩);rotate_left
  .rw[Cj,if_pos hv,Aa (fun⟨j,hj,_⟩=>au)]
  rintro k ⟨F,inr⟩ Y ⟨rfl,hY,aV,i,cs,I,hg,U,ac,an,s,q,a,p9,V,W,K⟩;simp only at s q a p9 V W K;refine bS (gh W K ?_);by_cases D:i<m.length
  .refine aB (aM i9 (aG ?_));refine am ?_
   have bv:X.nx<X1.nx:=by omega
   have sY:jq S Y:=⟨Aq J.1 hY.1,fun c A=>by rw[hY.2 _ (Ae A J.1) au];exact J.2 _ A⟩;have cY:Y.h.get S.nx=js [.cr,.cr]:=by rw[hY.2 _ au au,x1.2 _ a2];exact cX
   have a4:=hm.jo sY;have ia:=a4.c9 D;have la:=a4.ld D;have O:m.getD i 0∈m:=by rw[Ad,Ab D];exact Bl _
   have w1:=du i
   have⟨v0,v1⟩:=T _ O;generalize ao:m.getD i 0=v at *;obtain⟨u,rfl⟩:∃u:Nat,v=(u:Int):=⟨v.toNat,au⟩;have hu:u<g.ce.length:=by omega
   have a5:=eX (b:=X.nx) (o:=false) hu;have bw:=cM hg (ac u hu);refine aB (aJ (aB (aF ?_)));refine gy V K @aY ia la ?_;refine fZ (gu p9 @aY a5 bw ?_);by_cases hd:∃j,j<i/\m.getD j 0=(u:Int)
   .refine aM (jd (Ac hd)) ?_;refine bS (fx ab ?_);refine dB (b:=S.nx) (ar a) (by refine am ?_;exact bB _) cY rfl rfl ?_;intro X2 x2 m2 d2;refine am ?_;refine aS (fx a ?_);have⟨j,hj,bx⟩:=hd;exact .inr ⟨⟨Aq sY.1 x2.1,fun c A=>by rw[x2.2 _ (Ae A sY.1) au,sY.2 _ A]⟩,d2,i,j,hj,D,by rw[ao,bx]⟩
   .refine aK (jd (Aa hd)) (aG ?_);refine am ?_
    refine aF (gj p9 @aY a5 ?_);refine eK (fun call=>by refine fx @dE ?_;exact xY (S:=Y) (w:=.bool true) hg (by rw[U];exact hu)) ?_;refine am ?_;refine aF (gh K w1 ?_);refine⟨k - 1,au,rfl,hY.put _,aV,i+1,cs.set u (.bool true),au,jh,by rw[Ar];exact U,fun v hv=>?_,fun j l hl hj=>?_,ar s,ar q,ar a,ar p9,ar V,ar W,aq⟩
    .rw[De];split
     .rename_i e;rw[if_pos (by rw[U];exact hu),Ac (show ∃j,j<i+1/\m.getD j 0=(v:Int) from⟨i,au,by rw[ao,e]⟩)]
     .rename_i e;rw[ac v hv];congr 2;rw[Cv,Cu,Cu];constructor
      .rintro⟨j,h1,M⟩;exact⟨j,au,M⟩
      .rintro⟨j,h1,M⟩;refine⟨j,?_,M⟩;by_cases R:j=i
       .rw[R,ao] at M;omega
       .omega
    .by_cases R:j=i
     .rw[R,ao];exact fun h=>hd ⟨l,au,h.symm⟩
     .exact an j l hl au
  .refine aB (aK i9 (bH ?_));refine am ?_;have aI:k=0:=by omega
   subst aI;exact .inl ⟨rfl,hY,aV,i,cs,I,hg,U,ac,an,ar s,ar q,ar a,ar p9,ar V,ar W,ar K⟩
 rintro o ⟨F,inr⟩ Y (⟨rfl,q0,hY,aV,i,cs,I,hg,U,ac,an,s,q,a,p9,V,W,K⟩|⟨rfl,sY,cY,ba,a,p5⟩);rotate_left
 .have hE:jT g.ce.length m ok=8:=by unfold jT;rw[if_neg (fun h=>h z),if_neg (fun h=>h T),if_pos ba]
  rw[hE];simp only at a p5;have N:=mA (n:=2) cY rfl;refine gu @eI a p5 N ?_;exact⟨sY,_,_,rfl,fun h=>absurd h az,fun _=>⟨rfl,rfl⟩⟩
 simp only at q0 s q a;subst q0;have aa:¬aFs m:=fun⟨i',k',h1,M,h3⟩=>an i' k' h1 au h3;have bv:X.nx<X1.nx:=by omega
 have sY:jq S Y:=⟨Aq J.1 hY.1,fun c A=>by rw[hY.2 _ (Ae A J.1) au];exact J.2 _ A⟩;have cY:Y.h.get S.nx=js [.cr,.cr]:=by rw[hY.2 _ au au,x1.2 _ a2];exact cX
 have bb:S.nx<Y.nx:=by have:=hY.1;omega
 have bz:ok->jT g.ce.length m ok=0:=fun hk=>by unfold jT;rw[if_neg (fun h=>h z),if_neg (fun h=>h T),if_neg aa,if_pos hk]
 have bA:¬ok->jT g.ce.length m ok=3:=fun hk=>by unfold jT;rw[if_neg (fun h=>h z),if_neg (fun h=>h T),if_neg aa,if_neg hk]
 refine am ?_
 refine fZ (gh s q ?_);refine bJ (am ?_);refine aW (aZ z T aa Y sY) ?_;rintro _ Z ⟨hZ,x,y,t,rfl,ht,bC⟩;refine gh @ex0 @ex1 ?_;apply cB;intro Z1 z1 k1 e1;refine dB (b:=Z.nx) (aq) (by refine am ?_;exact bB _) e1 rfl rfl ?_;intro Z2 z2 k2 e2;refine am ?_;have L:jq Z Z2:=z2.jo z1 (Af _);have B:=(sY.trans hZ).trans L;have bd:Z2.h.get S.nx=js [.cr,.cr]:=by rw[(hZ.trans L).2 _ bb];exact cY
 have bM:S.nx<Z2.nx:=Ae bb (hZ.trans L).1;have be:=mA (n:=2) e2 rfl;refine bS (am ?_);cases t with
 | true=>
  rw[bz (ht.1 rfl)];refine aM (aq) ?_;refine bS (fx be ?_);refine dB (b:=S.nx) (ar a) (by refine am ?_;exact bB _) bd rfl rfl ?_;intro Z3 z3 k3 e3;refine am ?_;have ld3:=mA (n:=2) e3 rfl;refine aS (gj @eI a @ld3 ?_);refine⟨⟨Aq B.1 z3.1,fun c A=>by rw[z3.2 _ (Ae A B.1) au,B.2 _ A]⟩,x,y,rfl,⟨Y,sY.1,hP (bC rfl) (Aq L.1 z3.1) fun c h1 M=>?_⟩,fun h=>absurd rfl h⟩;rw[z3.2 _ (Ae M L.1) au,L.2 _ M]
 | false=>
  rw[bA (fun h=>by have:=ht.2 h;cases this)];refine aK (aq) (aG ?_);refine am ?_
  refine bS (fx ab ?_);refine dB (b:=S.nx) (ar a) (by refine am ?_;exact bB _) bd rfl rfl ?_;intro Z3 z3 k3 e3;refine am ?_;have ld3:=mA (n:=2) e3 rfl;refine aS (gj @eI a @ld3 ?_);exact⟨⟨Aq B.1 z3.1,fun c A=>by rw[z3.2 _ (Ae A B.1) au,B.2 _ A]⟩,_,_,rfl,fun h=>absurd h az,fun _=>⟨rfl,rfl⟩⟩
def aHC:∀ (l:bt) (s:Nat) (r:bt),(aDh l s r).length=r.length
 | [],_,_=>rfl
 | c::l,s,r=>by simp only[aDh];rw[aHC l,Ar]
def aE5{v:Nat}:∀ (l:bt) (s:Nat) (r:bt),(∀c∈l,c.toNat≠v)->(aDh l s r).getD v 0=r.getD v 0
 | [],_,_,_=>rfl
 | c::l,s,r,h=>by
  simp only[aDh];rw[aE5 l _ _ fun d a=>h d (Az _ a)];have b:=h c (Be ..);rw[Ad,De,if_neg b,Ad]
def aLn{k:Nat}{c:Int}:∀ (l:bt) (s:Nat) (r:bt),l.Pairwise (· < ·)->(∀c∈l,0<=c)->l[k]? =some c->c.toNat<r.length->(aDh l s r).getD c.toNat 0=((s+k:Nat):Int)
 | [],_,_,_,_,h,_=>by simp at h
 | x::l,s,r,hi,e,b,f=>by
  have⟨g,i⟩:=Ep.1 hi;simp only[aDh];cases k with
  | zero=>
   rw[Ef] at b;cases b;rw[aE5 l _ _ fun d a=>by
    have:=g d a;have:=e c (Be ..);omega,eJ f,if_pos rfl,Bw]
  | succ k=>
   rw[Cd] at b;rw[aLn l (s+1) _ i (fun d a=>e d (Az _ a)) b (by rw[Ar];exact f)];congr 1;omega
def aIG{g:aP}{v:Nat}:∀ (i:Nat) (r:bt),(∀j,j<i->∀c∈dP g j,c.toNat≠v)->(aEs g i r).getD v 0=r.getD v 0
 | 0,_,_=>rfl
 | i+1,r,h=>by
  simp only[aEs];rw[aIG i _ fun j a=>h j au,aE5 _ _ _ (h i au)]
def aH8{g:aP}{i:Nat}:∀ (n:Nat) (r:bt),i<=n->∃a,a.length=r.length/\aEs g n r=aEs g i a
 | 0,r,h=>⟨r,rfl,by rw[show i=0 by omega]⟩
 | n+1,r,h=>by
  by_cases e:i=n+1
  .exact⟨r,rfl,by rw[e]⟩
  .obtain⟨a,b,c⟩:=aH8 (i:=i) n (aDh (dP g n) 0 r) au;exact⟨a,by rw[b,aHC],by simp only[aEs];exact c⟩
def aKl{T:List cL}(m:WF (dP g) 0 (-1) T)(t:T.length=g.ce.length){k:Nat}(hi:i<g.ce.length)(n:(dP g i)[k]? =some c):(mS g).getD c.toNat 0=(k:Int):=by
 have f:∀j,j<g.ce.length->∀c∈dP g j,(j:Int)<c/\c<(g.ce.length:Int)/\jS T c.toNat=some (j:Int):=fun j q c h=>by
  have⟨a,b,e⟩:=m.cf j au c (by rw[An];exact h);rw[An] at a b e;exact⟨a,au,e⟩
 have h:=Bb n;have⟨u,v,r⟩:=f i hi c h;unfold mS;have⟨w,o,s⟩:=aH8 (g:=g) (i:=i+1) g.ce.length (List.replicate g.ce.length 0) au;rw[Au] at o;rw[s];simp only[aEs];rw[aIG i _ fun j q l d e=>?_,aLn _ _ _ ?_ (fun l d=>by have:=(f i hi l d).1;omega) n (by rw[o];omega),An]
 .have:=m.inc i au;rw[An] at this;exact this
 .have p:=(f j au l d).2.2;rw[e,r] at p;have:=Bk p;omega
end Go.Ev.Gl
