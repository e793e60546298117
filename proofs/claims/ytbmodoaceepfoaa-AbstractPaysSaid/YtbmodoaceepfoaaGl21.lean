import Derived.Test.YtbmodoaceepfoaaGl20
set_option linter.all false
open Nat renaming reduceEqDiff -> rE, reduceAdd -> rA
set_option maxHeartbeats 0
namespace Go.Ev.Gl
variable {fns:T fD}
variable {x i t ub rb n j:Nat}{y v mv nv iv:AV}{out up up0 out0:bt}{S Y X X' X1:St}{h:Ev.T AB}{E:Nat->Nat->Prop}{L A:bo}{g:aP}{cs:bu}{fl:Bool}
inductive tE(E:Nat->Nat->Prop):Nat->Nat->Prop where
 | edge {x y:Nat}:E x y->tE E x y
 | refl (x:Nat):tE E x x
 | symm {x y:Nat}:tE E x y->tE E y x
 | trans {x y z:Nat}:tE E x y->tE E y z->tE E x z
structure tZ(n:Nat)(E:Nat->Nat->Prop)(out:bt):Prop where
 len:out.length=n
 le:∀x,x<n->0<=out.getD x 0/\out.getD x 0<=x
 con:∀x,x<n->tE E x (out.getD x 0).toNat
 inv:∀x y,E x y->out.getD x 0=out.getD y 0
section
variable {n:Nat}{E:Nat->Nat->Prop}{a b up:bt}
def aK8{f:Nat->Int}(c:∀x y,E x y->f x=f y){y:Nat}(h:tE E x y):f x=f y:=by
 induction h with
 | edge e=>exact c _ _ e
 | refl x=>rfl
 | symm _ d=>exact d.symm
 | trans _ _ g i=>exact g.trans i
def aQa(h:∀x y,E x y->x<n/\y<n)(c:tZ n E a)(d:tZ n E b):a=b:=by
 have key:∀ {a b:bt},tZ n E a->tZ n E b->∀x,x<n->b.getD x 0<=a.getD x 0:=fun {a b} c d x e=>by
  have i:=c.le x e;have g:=aK8 (f:=fun x=>b.getD x 0) d.inv (c.con x e);have g:b.getD x 0=b.getD (a.getD x 0).toNat 0:=g;have j:=d.le (a.getD x 0).toNat au;omega
 exact oP (by rw[c.len,d.len]) fun x e=>by
  rw[c.len] at e;have:=key c d x e;have:=key d c x e;omega
structure yF(n:Nat)(E:Nat->Nat->Prop)(up:bt):Prop where
 len:up.length=n
 le:∀x,x<n->0<=up.getD x 0/\up.getD x 0<=x
 con:∀x,x<n->tE E x (up.getD x 0).toNat
def oE(up:bt)(x:Nat):Nat:=(up.getD x 0).toNat
def aAh(up:bt):Nat->Nat->Nat
 | 0,x=>x
 | f+1,x=>if oE up x=x then x else aAh up f (oE up x)
def root(up:bt)(x:Nat):Nat:=aAh up x x
def yF.lt(h:yF n E up)(c:x<n):oE up x<=x/\up.getD x 0=((oE up x:Nat):Int):=by
 have:=h.le x c;unfold oE;omega
def aF6(h:yF n E up):∀ {f x:Nat},x<n->x<=f->aAh up (f+1) x=aAh up f x
 | 0,x,c,d=>by
  have:=(h.lt c).1;have e:oE up x=x:=by omega
  show(if oE up x=x then x else aAh up 0 (oE up x))=x;rw[if_pos e]
 | f+1,x,c,d=>by
  have:=(h.lt c).1;show(if oE up x=x then x else aAh up (f+1) (oE up x))=if oE up x=x then x else aAh up f (oE up x);by_cases e:oE up x=x
  .rw[if_pos e,if_pos e]
  .rw[if_neg e,if_neg e];exact aF6 h au au
def aCC(h:yF n E up){x:Nat}(c:x<n):∀ {f:Nat},x<=f->aAh up f x=root up x
 | 0,d=>by rw[show x=0 by omega];rfl
 | f+1,d=>by
  rcases Cx x (f+1) with e|e
  .rw[aF6 h c au];exact aCC h c au
  .rw[show f+1=x by omega];rfl
def lJ(h:yF n E up)(c:x<n):root up x=if oE up x=x then x else root up (oE up x):=by
 have d:=(h.lt c).1;have:aAh up (x+1) x=root up x:=aCC h c au;rw[<-this];show(if oE up x=x then x else aAh up x (oE up x))=_;by_cases e:oE up x=x
 .rw[if_pos e,if_pos e]
 .rw[if_neg e,if_neg e];exact aCC h au au
def zQ(h:yF n E up)(c:x<n):root up (oE up x)=root up x:=by
 by_cases e:oE up x=x
 .rw[e]
 .rw[lJ h c,if_neg e]
def uF(h:yF n E up):∀ (x:Nat),x<n->root up x<=x/\oE up (root up x)=root up x/\tE E x (root up x):=by
 intro x
 induction x using Nat.strongRecOn with
 | _ x d=>
  intro c;have i:=(h.lt c).1;rw[lJ h c];by_cases e:oE up x=x
  .rw[if_pos e];exact⟨Af _,e,.refl _⟩
  .rw[if_neg e];have⟨j,f,g⟩:=d (oE up x) au au;exact⟨au,f,.trans (h.con x c) g⟩
def aPH(h:yF n E up)(hi:i<n):yF n E (up.set i (up.getD (oE up i) 0))/\∀x,x<n->root (up.set i (up.getD (oE up i) 0)) x=root up x:=by
 have q:=(h.lt hi).1;have l:=h.lt (au:oE up i<n);have f:i<up.length:=by rw[h.len];exact hi
 have g:∀x,(up.set i (up.getD (oE up i) 0)).getD x 0=if x=i then up.getD (oE up i) 0 else up.getD x 0:=fun x=>eJ f;have j:yF n E (up.set i (up.getD (oE up i) 0)):=⟨by rw[Ar];exact h.len,fun x c=>by
  rw[g];split
  .omega
  .exact h.le x c,fun x c=>by
  rw[g];split
  .rename_i e;subst e;exact .trans (h.con x c) (h.con (oE up x) au)
  .exact h.con x c⟩
 refine⟨j,fun x=>?_⟩
 induction x using Nat.strongRecOn with
 | _ x k=>
  intro c;have m:=(h.lt c).1;have o:oE (up.set i (up.getD (oE up i) 0)) x=if x=i then oE up (oE up i) else oE up x:=by
   show((up.set i (up.getD (oE up i) 0)).getD x 0).toNat=_;rw[g];split<;>rfl
  rw[lJ j c,o];by_cases e:x=i
  .subst e;rw[if_pos rfl];by_cases d:oE up (oE up x)=x
   .rw[if_pos d];have p:oE up x=x:=by omega
    rw[lJ h c,if_pos p]
   .rw[if_neg d,k _ au au,zQ h au,zQ h c]
  .rw[if_neg e];by_cases d:oE up x=x
   .rw[if_pos d,lJ h c,if_pos d]
   .rw[if_neg d,k _ au au,zQ h c]
def aPU(h:yF n E up){s:Nat}(m:s<n)(o:t<=s)(p:oE up s=s)(q:oE up t=t)(r:tE E s t):yF n E (up.set s (t:Int))/\∀x,x<n->root (up.set s (t:Int)) x=if root up x=s then t else root up x:=by
 have f:s<up.length:=by rw[h.len];exact m
 have g:∀x,(up.set s (t:Int)).getD x 0=if x=s then(t:Int) else up.getD x 0:=fun x=>eJ f;have k:yF n E (up.set s (t:Int)):=⟨by rw[Ar];exact h.len,fun x c=>by
  rw[g];split
  .omega
  .exact h.le x c,fun x c=>by
  rw[g];split
  .rename_i e;subst e;exact r
  .exact h.con x c⟩
 have u:∀x,oE (up.set s (t:Int)) x=if x=s then t else oE up x:=fun x=>by
  unfold oE;rw[g];split
  .exact Am _
  .rfl
 refine⟨k,fun x=>?_⟩
 induction x using Nat.strongRecOn with
 | _ x l=>
  intro c;have v:=(h.lt c).1;rw[lJ k c,u];by_cases e:x=s
  .subst e;have i:root up x=x:=by rw[lJ h c,if_pos p]
   rw[if_pos rfl,i,if_pos rfl];by_cases d:t=x
   .rw[if_pos d,d]
   .have j:root up t=t:=by rw[lJ h au,if_pos q]
    rw[if_neg d,l t au au,j,if_neg d]
  .rw[if_neg e];by_cases d:oE up x=x
   .have i:root up x=x:=by rw[lJ h c,if_pos d]
    rw[if_pos d,i,if_neg e]
   .rw[if_neg d,l _ au au,zQ h c]
def aSa(h:yF n E up)(f:∀x y,E x y->x<n/\y<n)(g:∀x y,E x y->root up x=root up y)(i:out.length=n)(d:∀x,x<n->out.getD x 0=((root up x:Nat):Int)):tZ n E out:=
 ⟨i,fun x c=>by have:=(uF h x c).1;rw[d x c];omega,fun x c=>by rw[d x c,Am];exact(uF h x c).2.2,fun x y e=>by rw[d x (f x y e).1,d y (f x y e).2,g x y e]⟩
def aId:yF n E ((List.range n).map fun k:Nat=>(k:Int)):=by
 have d:∀x,x<n->((List.range n).map fun k:Nat=>(k:Int)).getD x 0=(x:Int):=fun x c=>by
  rw[Ad,Ba,Cm c];rfl
 exact⟨by simp,fun x c=>by rw[d x c];omega,fun x c=>by rw[d x c,Am];exact .refl x⟩
def mJ(n:Nat)(L:bo)(x y:Nat):Prop:=x<n/\∃m∈L,y=(m.getD x 0).toNat
end
noncomputable def aQ0:List AO:=[mt 14 0,
om 15 1 (.cw (.t 14)),
om 16 3 (.dd 0 (.t 15)),
om 17 7 (ld 16),
mt 18 1,
mt 19 0,
om 20 32 (.cw (.t 19)),
om 21 96 (.dd 0 (.t 20)),
om 22 224 (ld 21),
mt 23 0,
om 24 512 (.cw (.t 23)),
om 25 1536 (.dd 0 (.t 24)),
om 26 3584 (ld 25),
mt 27 1,
om 28 15872 (.c9 (.slice 1) (.t 26) (.t 27)),
om 29 32256 (ld 28),
om 30 65504 (.c9 (.slice 1) (.t 22) (.t 29)),
om 31 131040 (ld 30),
om 32 262143 (.c9 (.slice 1) (.t 17) (.t 18))]
structure tG(S:St)(ub rb n:Nat)(up:bt):Prop where
 u:S.h.get ub=some (.cells [.sl rb 0 n n false] false 0)
 r:S.h.get rb=some (.cells (aQ up) false 0)
 lu:ub<S.nx
 lr:rb<S.nx
 ne:ub≠rb
def tG.jo{S':St}(h:tG S ub rb n up)(c:jq S S'):tG S' ub rb n up:=⟨(c.2 _ h.lu).trans h.u,(c.2 _ h.lr).trans h.r,Ae h.lu c.1,Ae h.lr c.1,h.ne⟩
def tG.put{m:Nat}{up':bt}(h:tG S ub rb n up):tG ⟨S.h.set rb (js (aQ up')),S.nx+m⟩ ub rb n up':=⟨by simp only;rw[dx,if_neg h.ne];exact h.u,jh,Ae h.lu (Br ..),Ae h.lr (Br ..),h.ne⟩
def aEb(c:h.get ub=js [.sl rb 0 n n false]):eE (.ptr ub (0+0)) false 1 h=some (.sl rb 0 n n false):=zP c rfl
def aVJ(S:St)(ub rb n:Nat)(E:Nat->Nat->Prop)(up:bt)(i:Nat)(k:Nat)(A:bO)(X:St):Prop:=A.inr=false/\cA rb S X/\k<n/\root up k=root up i/\aA 0 A.F= .ptr ub 0/\aA 1 A.F=jr (k:Int)/\∃c,tG X ub rb n c/\yF n E c/\∀x,x<n->root c x=root up x
def aAR(H:Has fns)(R:tG S ub rb n up)(G:yF n E up)(hi:i<n)(Z:n<=1000000):
  iK fns (.fn 77 [] []) [.ptr ub 0,jr (i:Int)] S fun r S'=>r=jr ((root up i:Nat):Int)/\cA rb S S'/\∃c,tG S' ub rb n c/\yF n E c/\∀x,x<n->root c x=root up x:=by
 refine cJ H.f77 (by simp) ?_;refine ae ?_;refine bS (ae ?_);refine aB (aX (Q:=fun o T X=>o= .normal/\cA rb S X/\aA 1 T.F=jr ((root up i:Nat):Int)/\∃c,tG X ub rb n c/\yF n E c/\∀x,x<n->root c x=root up x) ?_ ?_)
 .refine aJ (bL (aVJ S ub rb n E up i) ?_ i _ _ ⟨rfl,cA.refl _ _,hi,rfl,af,af,up,R,G,fun _ _=>rfl⟩);rintro k ⟨F,inr⟩ X ⟨rfl,D,j,y,z,q,c,g,d,f⟩;simp only at z q;have U:=d.lt j;have t:=eX (b:=rb) (o:=false) j;have u:=aAd g.r (show k<c.length by rw[d.len];exact j);rw[U.2] at u;have N:=aEb g.u;refine fZ (ef z q N t u ?_);by_cases e:oE c k=k
  .refine aK (jc e (Aa (show ¬ (k:Int)≠(k:Int) from fun h=>h rfl))) (bH ?_);refine ae ?_;refine⟨D,?_,c,g,d,f⟩;refine c8 q ?_;have:=f k j;rw[lJ d j,if_pos e] at this;rw[<-y,<-this]
  .refine aM i7 (aG ?_);refine ae ?_
   have V:oE c k<k:=by omega
   have l:=d.lt (au:oE c k<n);have A:=eX (b:=rb) (o:=false) (au:oE c k<n);have s:=aAd g.r (show oE c k<c.length by rw[d.len];omega);have B:=s;rw[l.2] at s;have⟨I,J⟩:=aPH d j;have O:=f;have W:(c.set k (c.getD (oE c k) 0)).getD k 0=((oE c (oE c k):Nat):Int):=by
    rw[eJ (by rw[d.len];exact j),if_pos rfl,l.2]
   refine aJ (aB (qL (pre:=aQ0) (K:=19) (m:=524287) (n:=1) (x:=.t 32) (v:=.t 31) rfl rfl rfl rfl ?_));unfold aQ0;simp only[↓aD,aC,rE,↓reduceIte,rA,z,q,dG,fG,dH,aU,cP,aT,N,aY,t,u,A,B,nQ];simp only[cF,aH];refine⟨_,qQ (S:=⟨X.h,X.nx+20⟩) g.r (by rw[d.len];exact j),?_⟩;have w:tG ⟨X.h.set rb (js (aQ (c.set k (c.getD (oE c k) 0)))),X.nx+20⟩ ub rb n (c.set k (c.getD (oE c k) 0)):=g.put;have p:=aAd w.r (show k<(c.set k (c.getD (oE c k) 0)).length by rw[Ar,d.len];exact j);rw[W] at p;have C:=aEb w.u;simp only at p C;refine ae ?_
   refine aF (ef z q C t p ?_);have M:cA rb S ⟨X.h.set rb (js (aQ (c.set k (c.getD (oE c k) 0)))),X.nx+20⟩:=(D.nx 20).put _;refine⟨oE c (oE c k),ax l.1,rfl,M,ax l.1,?_,ah z,af,_,w,I,fun x P=>by rw[J x P,f x P]⟩;rw[<-f _ (ax l.1),zQ d au,zQ d j,f k j];exact y
 .rintro o ⟨F,inr⟩ X ⟨rfl,D,q,c,I,J,Y⟩;simp only at q;refine ae ?_
  refine bS (c8 q ?_);refine aS (ae ?_);exact⟨D,c,I,J,Y⟩
def mnI(a b:Int):Int:=if a<=b then a else b
def aGY(a b:Int):oB false [jr a,jr b]=some (jr (mnI a b)):=by
 show bX (keq .i64 .i64) (lM false [] (jr (bX false (bX (ile b a) a b) (bX (ile a b) a b)))) none=_;rw[fH,aL,aR,qT];show some _=_;unfold mnI;by_cases h:a<=b
 .rw[if_pos h,Ac h,aL]
 .rw[if_neg h,Aa h,aR]
def aKe(H:Has fns)(R:tG S ub rb n up)(g:yF n E up)(hi:i<n)(k:j<n)(T:tE E i j)(P:n<=1000000):
  iK fns (.fn 76 [] []) [.ptr ub 0,jr (i:Int),jr (j:Int)] S fun _ S'=>cA rb S S'/\∃d,tG S' ub rb n d/\yF n E d/\(∀x y,x<n->y<n->root up x=root up y->root d x=root d y)/\root d i=root d j:=by
 refine cJ H.f76 (by simp) ?_;refine ae ?_;refine bS (ae ?_);refine bJ (ae ?_);refine aW (aAR H R g hi P) ?_;rintro _ S1 ⟨rfl,s1,U,z,q,r⟩
 refine bJ (ae ?_);refine aW (aAR H z q k P) ?_;rintro _ V ⟨rfl,s2,f,l,c,A⟩;rw[r j k];have p:∀x,x<n->root f x=root up x:=fun x u=>by rw[A x u,r x u]
 have⟨i1,i2,W⟩:=uF g i hi;have⟨j1,j2,X⟩:=uF g j k;have B:=(uF c i hi).2.1;have C:=(uF c j k).2.1;rw[p i hi] at B;rw[p j k] at C;have v:tE E (root up i) (root up j):=.trans (.symm W) (.trans T X);obtain⟨s,t,D,F,G,Y,Z,I,J,K⟩:∃s t:Nat,s<n/\t<=s/\((s=root up i/\t=root up j)\/(s=root up j/\t=root up i))/\oE f s=s/\oE f t=t/\tE E s t/\mx ((root up i:Nat):Int) ((root up j:Nat):Int)=((s:Nat):Int)/\mnI ((root up i:Nat):Int) ((root up j:Nat):Int)=((t:Nat):Int):=by
  rcases Nat.le_total (root up i) (root up j) with h|h
  .exact⟨root up j,root up i,au,h,.inr ⟨rfl,rfl⟩,C,B,.symm v,by unfold mx;split<;>omega,by unfold mnI;split<;>omega⟩
  .exact⟨root up i,root up j,au,h,.inl ⟨rfl,rfl⟩,B,C,v,by unfold mx;split<;>omega,by unfold mnI;split<;>omega⟩
 have⟨h1,w⟩:=aPU c D F Y Z I;have hu:=aEb l.u;have M:=eX (b:=rb) (o:=false) D
 refine aF (fe hu @rZ @iO @kL @aBd @aGY J K M ?_);refine eK (fun call=>by refine dz @dE @cF ?_;exact qQ (S:=V) l.r (by rw[c.len];exact D)) ?_;refine ae ?_;refine⟨_,rfl,(s1.trans s2).put _,f.set s (t:Int),l.put (m:=0),h1,fun x y u Q e=>?_,?_⟩
 .rw[w x u,w y Q,p x u,p y Q,e]
 .rw[w i hi,w j k,p i hi,p j k];rcases G with⟨N,O⟩|⟨N,O⟩
  .rw[if_pos N.symm,O];split<;>rfl
  .rw[if_pos N.symm,O];split<;>rfl
def aHp(h:aE 1 nM S v L)(hi:i<L.length):∃b q a,eY (.slice 1) v i=some (.ptr b q)/\bN .i64 S a (L.getD i [])/\∀X,jq S X->eE (.ptr b q) false 1 X.h=some a:=by
 obtain⟨_,b,q,d,e,_,⟨a,rfl,f⟩,_,g⟩:=aE.at h az (uZ hi);have c:=g 0 a rfl;rw[Bw] at c;exact⟨b,q,a,d,f,fun X j=>by rw[eM j e];exact c⟩
def aSU{F:Fr}{b:Nat}(c:aA t F= .sl b 0 n n false):iC (.build [.cr] [(0,1,.t t)]) F h=some (.agg [.sl b 0 n n false]):=by
 show(bD (eO _ (dN F [(0,1,.t t)])) fun cs=>some (AV.agg cs))=_;simp only[dN,show(cQ.t t).val F= .sl b 0 n n false from c,eO];rfl
section
variable {S:St}{ub rb n:Nat}{mv:AV}
def aLE(ub n:Nat)(mv:AV)(F:Fr):Prop:=aA 0 F=jr (n:Int)/\aA 1 F=mv/\aA 5 F= .ptr ub 0
def aUw(S:St)(ub rb n:Nat)(mv:AV)(k:Nat)(A:bO)(X:St):Prop:=A.inr=false/\jq S X/\∃ (i:Nat) (l:bt),i+k=n/\l.length=n/\(∀j,j<i->l.getD j 0=(j:Int))/\tG X ub rb n l/\aLE ub n mv A.F/\aA 21 A.F=jr (n:Int)/\aA 22 A.F=jr (i:Int)
def aRN{p:Fr}{r:bt}(H:n<=1000000)(w:jq S Y)(A:S.nx<=rb)(f:tG Y ub rb n r)(g:r.length=n)(x:aLE ub n mv p)(d:aA 21 p=jr (n:Int))(c:aA 22 p=jr ((0:Nat):Int)):
  jN fns qk4 ⟨p,false⟩ Y fun o B X=>o= .normal/\aUw S ub rb n mv 0 B X:=by
 refine aJ (bL (aUw S ub rb n mv) ?_ n _ _ ⟨rfl,w,0,r,au,g,fun j C=>au,f,x,d,c⟩);rintro k ⟨F,inr⟩ X ⟨rfl,y,i,l,s,g,z,f,⟨t,u,q⟩,d,c⟩;simp only at t u q d c;refine bS (dz d c ?_);by_cases h:i<n;rotate_left
 .refine aB (aK i7 (bH ?_));refine ae ?_;obtain rfl:k=0:=by omega
  exact⟨rfl,y,i,l,s,g,z,f,⟨ah t,ah u,ah q⟩,ah d,ah c⟩
 refine aB (aM i7 (aG ?_));refine ae ?_
 have D:=du i
 have v:=eX (b:=rb) (o:=false) h;have G:=aEb f.u;refine aB (aJ (aB (aF ?_)));refine c8 c ?_;refine aF (d8 q G v ?_);refine eK (fun call=>by refine dz @dE @cF ?_;exact qQ (S:=X) f.r (by rw[g];exact h)) ?_;refine ae ?_;refine aF (dz c D ?_);refine⟨k - 1,au,rfl,y.put A _,i+1,l.set i (i:Int),au,by rw[Ar];exact g,fun j C=>?_,f.put (m:=0),⟨ah t,ah u,ah q⟩,ah d,af⟩;rw[eJ au];split
 .rename_i e;rw[e]
 .exact z j au
def aTf(S:St)(ub rb n j ml:Nat)(mv mrow:AV)(m:bt)(E:Nat->Nat->Prop)(up0:bt)(k:Nat)(A:bO)(X:St):Prop:=A.inr=false/\jq S X/\∃ (i:Nat) (up:bt),i+k=n/\tG X ub rb n up/\yF n E up/\(∀x y,x<n->y<n->root up0 x=root up0 y->root up x=root up y)/\(∀x,x<i->root up x=root up (m.getD x 0).toNat)/\aLE ub n mv A.F/\aA 33 A.F=mv/\aA 34 A.F=jr (ml:Int)/\aA 35 A.F=jr (j:Int)/\aA 39 A.F=mrow/\aA 40 A.F=jr (n:Int)/\aA 41 A.F=jr (i:Int)
def aSb{q:Fr}{m:bt}{mrow:AV}{ml:Nat}(H:Has fns)(hn:n<=1000000)(P:jq S Y)(hs:S.nx<=rb)(v:tG Y ub rb n up0)(p:yF n E up0)(Q:bN .i64 S mrow m)(aa:m.length=n)(w:∀x,x<n->0<=m.getD x 0/\m.getD x 0<n)(hE:∀x,x<n->E x (m.getD x 0).toNat)
  (R:aLE ub n mv q) (g:aA 33 q=mv) (h:aA 34 q=jr (ml:Int)) (l:aA 35 q=jr (j:Int)) (d:aA 39 q=mrow) (f:aA 40 q=jr (n:Int)) (c:aA 41 q=jr ((0:Nat):Int)):
  jN fns qk0 ⟨q,false⟩ Y fun o A' X=>o= .normal/\aTf S ub rb n j ml mv mrow m E up0 0 A' X:=by
 refine aJ (bL (aTf S ub rb n j ml mv mrow m E up0) ?_ n _ _ ⟨rfl,P,0,up0,au,v,p,fun _ _ _ _ e=>e,fun x B=>au,R,g,h,l,d,f,c⟩);rintro k ⟨F,inr⟩ X ⟨rfl,C,i,up,G,v,p,T,U,⟨I,J,D⟩,g,h,l,d,f,c⟩;simp only at I J D g h l d f c;refine bS (dz f c ?_);by_cases s:i<n;rotate_left
 .refine aB (aK i7 (bH ?_));refine ae ?_;obtain rfl:k=0:=by omega
  exact⟨rfl,C,i,up,G,v,p,T,U,⟨ah I,ah J,ah D⟩,ah g,ah h,ah l,ah d,ah f,ah c⟩
 refine aB (aM i7 (aG ?_));refine ae ?_
 have w1:=du i
 have ia:=(Q.jo C).c9 (au:i<m.length);have V:=(Q.jo C).ld (au:i<m.length);have⟨m1,m2⟩:=w i s;have u:=hE i s;have K:(∀x,x<i->root up x=root up (m.getD x 0).toNat):=U;obtain⟨t,W⟩:∃t:Nat,m.getD i 0=(t:Int):=⟨(m.getD i 0).toNat,au⟩;rw[W] at V u m2;rw[Am] at u;refine aB (aJ (aB (aF ?_)));refine ec d c ia V ?_;refine aF (c8 D ?_);refine bJ (ae ?_);refine aW (aKe H v p s (au:t<n) (.edge u) hn) ?_;rintro r X1 ⟨s1,M,N,z,A,O⟩
 refine aF (dz c w1 ?_);refine⟨k - 1,au,rfl,cA.jo C s1 hs,i+1,M,au,N,z,fun x y B Z e=>A x y B Z (T x y B Z e),fun x B=>?_,⟨ah I,ah J,ah D⟩,ah g,ah h,ah l,ah d,ah f,af⟩;by_cases e:x=i
 .subst e;rw[W,Am];exact O
 .have:=w x au;exact A x _ au au  (K x au)
def aTD(S:St)(ub rb n ml:Nat)(mv:AV)(L:bo)(k:Nat)(A:bO)(X:St):Prop:=A.inr=false/\jq S X/\∃ (j:Nat) (up:bt),j+k=ml/\tG X ub rb n up/\yF n (mJ n L) up/\(∀x q,x<n->q<j->root up x=root up ((L.getD q []).getD x 0).toNat)/\aLE ub n mv A.F/\aA 33 A.F=mv/\aA 34 A.F=jr (ml:Int)/\aA 35 A.F=jr (j:Int)
def aRr{v:Fr}(H:Has fns)(U:n<=1000000)(O:jq S Y)(V:S.nx<=rb)(w:tG Y ub rb n up0)(g:yF n (mJ n L) up0)(W:aE 1 nM S mv L)(hL:L.length<=1000000)(y:∀m∈L,m.length=n/\∀x,x<n->0<=m.getD x 0/\m.getD x 0<n)
  (P:aLE ub n mv v) (d:aA 33 v=mv) (f:aA 34 v=jr (L.length:Int)) (c:aA 35 v=jr ((0:Nat):Int)):
  jN fns qk9 ⟨v,false⟩ Y fun o Z X=>o= .normal/\aTD S ub rb n L.length mv L 0 Z X:=by
 refine aJ (bL (aTD S ub rb n L.length mv L) ?_ L.length _ _ ⟨rfl,O,0,up0,au,w,g,fun x q p hq=>au,P,d,f,c⟩);rintro k ⟨F,inr⟩ X ⟨rfl,B,j,up,C,w,g,Q,⟨r,s,t⟩,d,f,c⟩;simp only at r s t d f c;refine bS (dz f c ?_);by_cases u:j<L.length;rotate_left
 .refine aB (aK i7 (bH ?_));refine ae ?_;obtain rfl:k=0:=by omega
  exact⟨rfl,B,j,up,C,w,g,Q,⟨ah r,ah s,ah t⟩,ah d,ah f,ah c⟩
 refine aB (aM i7 (aG ?_));refine ae ?_
 have w1:=du j
 have⟨xb,xq,a,xi,R,D⟩:=aHp W u;have D:=D X B;have h:L.getD j []∈L:=by rw[Ad,Ab u];exact Bl u
 have⟨T,l2⟩:=y _ h;have l:=(R.jo B).len;rw[T] at l;refine aB (aJ (aB (aF ?_)));refine ec d c xi D ?_;refine bS (dz l @Ag ?_);refine aX (aSb (S:=S) (ub:=ub) (rb:=rb) (n:=n) (mv:=mv) (mrow:=a) (m:=L.getD j []) (j:=j) (ml:=L.length) (E:=mJ n L) (up0:=up) H U B V w g R T l2 (fun x p=>⟨p,_,h,rfl⟩) ⟨ah r,ah s,ah t⟩ (ah d) (ah f) (ah c) (af) (af) (ag)) ?_;rintro o ⟨F,inr⟩ X1 ⟨rfl,rfl,G,i,I,aa,J,z,K,M,⟨r,s,t⟩,d,f,c,_,_,_⟩;simp only at r s t d f c;obtain rfl:i=n:=by omega
 refine ae ?_
 refine aF (dz c w1 ?_);refine⟨k - 1,au,rfl,G,j+1,I,au,J,z,fun x q p hq=>?_,⟨ah r,ah s,ah t⟩,ah d,ah f,af⟩;by_cases e:q=j
 .subst e;exact M x p
 .have A:q<L.length:=by omega
  have N:L.getD q []∈L:=by rw[Ad,Ab A];exact Bl A
  have:=(y _ N).2 x p;exact K x _ p au (Q x q p au)
def aTG(S:St)(ub rb ob n:Nat)(E:Nat->Nat->Prop)(up0:bt)(k:Nat)(A:bO)(X:St):Prop:=A.inr=false/\jq S X/\ob<X.nx/\∃ (i:Nat) (l up:bt),i+k=n/\l.length=n/\(∀j,j<i->l.getD j 0=((root up0 j:Nat):Int))/\X.h.get ob=js (aQ l)/\tG X ub rb n up/\yF n E up/\(∀x,x<n->root up x=root up0 x)/\aA 5 A.F= .ptr ub 0/\aA 11 A.F= .sl ob 0 n n false/\aA 55 A.F=jr (n:Int)/\aA 56 A.F=jr (i:Int)
def aRH{r:Fr}{w:bt}{ob:Nat}(H:Has fns)(T:n<=1000000)(N:jq S Y)(U:S.nx<=rb)(y:S.nx<=ob)(s:ob≠rb)(z:ob≠ub)(t:tG Y ub rb n up0)(g:yF n E up0)(u:Y.h.get ob=js (aQ w))(h:ob<Y.nx)(A:w.length=n)
  (q:aA 5 r= .ptr ub 0) (d:aA 11 r= .sl ob 0 n n false) (f:aA 55 r=jr (n:Int)) (c:aA 56 r=jr ((0:Nat):Int)):
  jN fns qk1 ⟨r,false⟩ Y fun o V X=>o= .normal/\aTG S ub rb ob n E up0 0 V X:=by
 refine aJ (bL (aTG S ub rb ob n E up0) ?_ n _ _ ⟨rfl,N,h,0,w,up0,au,A,fun j W=>au,u,t,g,fun _ _=>rfl,q,d,f,c⟩);have O:=g;rintro k ⟨F,inr⟩ X ⟨rfl,P,h,i,l,up,B,C,Q,u,t,g,D,q,d,f,c⟩;simp only at q d f c;refine bS (dz f c ?_);by_cases p:i<n;rotate_left
 .refine aB (aK i7 (bH ?_));refine ae ?_;obtain rfl:k=0:=by omega
  exact⟨rfl,P,h,i,l,up,B,C,Q,u,t,g,D,ah q,ah d,ah f,ah c⟩
 refine aB (aM i7 (aG ?_));refine ae ?_
 have Z:=du i
 have G:=eX (b:=ob) (o:=false) p;refine aB (aJ (aB (aF ?_)));refine c8 c ?_;refine aF (dz q d ?_);refine bJ (ae ?_);refine aW (aAR H t g p T) ?_;rintro _ X1 ⟨rfl,s1,I,m,v,J⟩;rw[D i p];have K:=(s1.2 _ h s).trans u;have M:=cA.jo P s1 U;refine c8 G ?_;refine eK (fun call=>by refine dz @dE @cF ?_;exact qQ (S:=X1) K (by rw[C];exact p)) ?_;refine ae ?_;refine aF (dz c Z ?_);refine⟨k - 1,au,rfl,M.put y _,Ae h s1.1,i+1,l.set i ((root up0 i:Nat):Int),I,au,by rw[Ar];exact C,fun j W=>?_,jh,⟨by simp only;rw[dx,if_neg (Ch z)];exact m.u,by simp only;rw[dx,if_neg (Ch s)];exact m.r,m.lu,m.lr,m.ne⟩,v,fun x R=>by rw[J x R,D x R],ah q,ah d,ah f,af⟩;rw[eJ au];split
 .rename_i e;rw[e]
 .exact Q j au
end
def aDa(H:Has fns)(D:n<=1000000)(T:aE 1 nM S mv L)(Y:L.length<=1000000)(v:∀m∈L,m.length=n/\∀x,x<n->0<=m.getD x 0/\m.getD x 0<n):
  iK fns (.fn 66 [] []) [jr (n:Int),mv] S fun r S'=>jq S S'/\∃out,oM S S' r out/\tZ n (mJ n L) out:=by
 refine cJ H.f66 (by simp) ?_;refine ae ?_;refine bS (ae ?_);refine bS (am ?_);refine fQ (oK (n:=n) (jd @aY) (jd @aY) ay ay) ?_;intro S1 s1 n1 G;rw[rG] at G;have I:=fun(F:Fr) (h:Ev.T AB) (a:aA 14 F= .sl S.nx 0 n n false)=>aSU (t:=14) (F:=F) (h:=h) a;refine fx I ?_;refine dC (cs:=[.sl S.nx 0 n n false]) (by refine am ?_;exact bB _) ?_;intro Z s2 n2 J;refine ae ?_;have K:=s1.trans s2;have c:tG Z S1.nx S.nx n (List.replicate n 0):=⟨J,(s2.2 _ au).trans G,au,au,au⟩;have w:=aEb J;have e0:lW (.sl S.nx 0 n n false)=some (jr (n:Int)):=rfl;refine fZ (dz w e0 ?_);refine aX (aRN (S:=S) (n:=n) (ub:=S1.nx) (rb:=S.nx) (mv:=mv) D K (Af _) c (Au ..) ⟨af,af,af⟩ (af) (ag)) ?_;rintro o ⟨F,inr⟩ X ⟨rfl,rfl,U,i,l,aa,hl,hf,hU,⟨g,p,s⟩,_,_⟩;simp only at g p s;obtain rfl:i=n:=by omega
 have el:l=(List.range i).map fun k:Nat=>(k:Int):=oP (by simp [hl]) fun j hj=>by
  rw[hf j au,Ad,Ba,Cm au];rfl
 have M:yF i (mJ i L) l:=by rw[el];exact aId
 refine ae ?_
 apply fZ;refine d8 p ((aE.jo (E:=nM) fR T U).len) @Ag ?_;refine aX (aRr (S:=S) (n:=i) (ub:=S1.nx) (rb:=S.nx) (mv:=mv) (L:=L) H D U (Af _) hU M T Y v ⟨ah g,ah p,ah s⟩ (af) (af) (ag)) ?_;rintro o ⟨F,inr⟩ N ⟨rfl,rfl,z,j,up,ab,c,d,hd,⟨g,p,s⟩,_,_,_⟩;simp only at g p s;obtain rfl:j=L.length:=by omega
 refine ae ?_
 refine bS (fx g ?_);refine fQ (oK (n:=i) (jd @aY) (jd @aY) ay ay) ?_;intro X3 x3 m3 V;rw[rG] at V;refine am ?_;have e3:lW (.sl N.nx 0 i i false)=some (jr (i:Int)):=rfl;have ac:=c.lu;have an:=c.lr;have A:=z.1;refine fZ (c8 e3 ?_);refine aX (aRH (S:=S) (n:=i) (ub:=S1.nx) (rb:=S.nx) (ob:=N.nx) (E:=mJ i L) (up0:=up) H D (z.trans x3) (Af _) A au au  (c.jo x3) d V au (Au ..) (ah s) (af) (af) (ag)) ?_;rintro o ⟨F,inr⟩ X4 ⟨rfl,rfl,O,P,i',out,ao,aw,f,Q,R,_,_,_,_,B,_,_⟩;simp only at B;obtain rfl:i'=i:=by omega
 refine ae ?_
 refine bS (c8 B ?_);refine aS (ae ?_);refine⟨O,out,⟨N.nx,by rw[f],A,P,R⟩,?_⟩;have hE:∀x y,mJ i' L x y->x<i'/\y<i':=fun x y ⟨C,m,u,e⟩=>by
  have:=(v m u).2 x C;omega
 refine aSa d hE (fun x y ⟨C,m,u,e⟩=>?_) f fun x C=>Q x C;obtain⟨q,W,rfl⟩:=Dj.1 u;have:=hd x q C W;rw[Ad (l:=L),Ab W] at this;rw[e];exact this
noncomputable def lI(g:aP):bo->Int
 | []=>0
 | m::L=>if jT g.ce.length m (iQ g m)≠0 then jT g.ce.length m (iQ g m) else lI g L
def aOo(g:aP)(S:St)(cs:bu)(m:bt):Prop:=∃x y,cs= [x,y]/\bN .i64 S x (dh g m)/\aE 1 nM S y (dk g m)
def wJ.low{m:bt}{S1:St}{x:AV}(h:wJ g m S1 X x y)(c:S.nx<=S1.nx):wJ g m S X x y:=by
 have⟨⟨b,d,e,f,i⟩,j,k,cs,l,o,p,q,r⟩:=h;exact⟨⟨b,d,Aq c e,f,i⟩,j,k,cs,l,Aq c o,p,q,r.low c⟩
def wJ.moveF{m:bt}{x:AV}(h:wJ g m S X x y)(d:X.nx<=X'.nx)(e:∀c cs,c<X.nx->X.h.get c=js cs->X'.h.get c=X.h.get c):wJ g m S X' x y:=by
 have⟨⟨b,q,r,f,i⟩,k,s,cs,t,u,l,o,p⟩:=h;refine⟨⟨b,q,r,Ae f d,(e b _ f i).trans i⟩,k,s,cs,t,u,Ae l d,(e k _ l o).trans o,p.move d fun j v=>?_⟩;have⟨a,b,c⟩:=p.bl j v;exact e _ _ b c
def wJ.sl{m:bt}{x:AV}(h:wJ g m S X x y):aOo g X [x,y] m:=by
 obtain⟨c,i,j,cs,rfl,k,d,e,f⟩:=h;exact⟨x,_,rfl,c.is,f.is e d (Af _)⟩
def wJ.cel{m:bt}{x:AV}(h:wJ g m S X x y):x.cells=some [x]/\y.cells=some [y]:=by
 obtain⟨⟨b,rfl,_⟩,c,d,cs,rfl,_⟩:=h;exact⟨rfl,rfl⟩
def aU9{x:AV}{o:Bool}{sz:Nat}(h:S.h.get t=some (.cells [x,y] o sz)):eS (.sl t 0 1 1 false) S.h 2 1=some [x,y]:=by
 show bD (cG S.h t) (fun cs=>cut cs 0 (1 * 2))=_;unfold cG;rw[h];rfl
structure aFw(g:aP)(S X:St)(v:AV)(cs:bu)(L:bo)(j:Nat):Prop where
 gr:fC 2 S X v j cs
 el:∀q,q<j->∃x y,cs[q * 2]? =some x/\cs[q * 2+1]? =some y/\wJ g (L.getD q []) S X x y
def aFw.is(h:aFw g S X v cs L L.length):aE 2 (aOo g) X v L:=by
 rcases h.gr with⟨rfl,f,_⟩|⟨b,rfl,o,j,k,p⟩
 .exact .inl ⟨Bj.1 f,.inl rfl⟩
 .refine .inr ⟨b,0,L.length,true,cs,rfl,Af _,j,by unfold cG;rw[k];rfl,fun i a hi=>?_⟩;obtain⟨d,rfl⟩:=Aj.1 hi;have⟨x,y,l,m,e⟩:=h.el i d;rw[Ad,Ab d] at e;refine⟨[x,y],rfl,fun q w c=>?_,e.sl⟩;rw[An]
  match q,c with
  | 0,c=>cases c;exact l
  | 1,c=>cases c;exact m
  | q+2,c=>simp at c
def aFw.move(h:aFw g S X v cs L j)(d:jq X X'):aFw g S X' v cs L j:=⟨h.gr.step d,fun q e=>by
 have⟨x,y,f,i,k⟩:=h.el q e;exact⟨x,y,f,i,k.moveF d.1 fun c _ l _=>d.2 c l⟩⟩
def aFw.push{g:aP}{S X:St}{v x y:AV}{cs:bu}{L:bo}{j t:Nat}(h:aFw g S X v cs L j)(p:jq S X)(r:wJ g (L.getD j []) S X x y)(s:X.h.get t=js [x,y])(I:j+1<=1000):
  ∃v' X',gQ 48 2 v (.sl t 0 1 1 false) X=some (v',X')/\jq S X'/\X.nx<=X'.nx/\(∀c,c<X.nx->aN v≠some c->X'.h.get c=X.h.get c)/\aFw g S X' v' (cs++ [x,y]) L (j+1):=by
 have⟨v',X',u,w,z,i,k⟩:=h.gr.app (bytes:=48) (m:=1) p rfl (aU9 s) rfl Nat.one_pos ay ay;have d:∀c cs',c<X.nx->X.h.get c=js cs'->X'.h.get c=X.h.get c:=fun c cs' A B=>k c A (h.gr.off B);refine⟨v',X',u,z,i,k,w,fun q J=>?_⟩;have f:=h.gr.csl;by_cases e:q=j
 .subst e;refine⟨x,y,?_,?_,r.moveF i d⟩
  .rw[Ao au,f,Dv];rfl
  .rw[Ao au,f,show q * 2+1 - q * 2=1 by omega];rfl
 .have⟨C,D,l,o,F⟩:=h.el q au;have G:=(Aj.1 l).1;have H:=(Aj.1 o).1;exact⟨C,D,by rw[Ak G];exact l,by rw[Ak H];exact o,F.moveF i d⟩
def aEj(c:j<L.length)(h:jT g.ce.length (L.getD j []) (iQ g (L.getD j []))=0):lI g (L.drop j)=lI g (L.drop (j+1)):=by
 rw[Bt c];have e:L.getD j []=L[j]:=by rw[Ad,Ab c];rfl
 rw[e] at h;show(if _≠_ then _ else _)=_;rw[if_neg (fun e=>e h)]
def aEE(c:j<L.length)(h:jT g.ce.length (L.getD j []) (iQ g (L.getD j []))≠0):lI g (L.drop j)=jT g.ce.length (L.getD j []) (iQ g (L.getD j [])):=by
 rw[Bt c];have e:L.getD j []=L[j]:=by rw[Ad,Ab c];rfl
 rw[e] at h ⊢;show(if _≠_ then _ else _)=_;rw[if_pos h]
def aTv(S:St)(c:Nat)(mv:AV)(g:aP)(L:bo)(k:Nat)(A:bO)(X:St):Prop:=A.inr=false/\jq S X/\∃ (j:Nat) (v:AV) (cs:bu),j+k=L.length/\lI g L=lI g (L.drop j)/\aFw g S X v cs L j/\aA 0 A.F= .ptr c 0/\aA 6 A.F=v/\aA 14 A.F=mv/\aA 15 A.F=jr (L.length:Int)/\aA 16 A.F=jr (j:Int)
def aGu{U Y aa:Nat}{pv:AV}{T:List cL}{Z:bt}(H:Has fns)(hf:cR g=0)(hn:aE 6 bT S nv g.ce)(hi:aE 2 cC S iv g.cg)(hm:aE 1 nM S mv L)(hT:fY g=some T)(ab:T.length=g.ce.length)(ac:bN .i64 S pv (T.map (·.1)))(hB:kE S U Y aa pv nv iv g (mS g) Z):
  iK fns (.fn 65 [] []) [.ptr U 0,mv] S fun r S'=>jq S S'/\∃v,r= .tup [v,jr (if 16<L.length then 4 else lI g L)]/\((if 16<L.length then 4 else lI g L)≠0->v= .cr)/\((if 16<L.length then 4 else lI g L)=0->aE 2 (aOo g) S' v L):=by
 have G:=gR hf;have a0:=G.n2;refine cJ H.f65 (by simp) ?_;refine ae ?_;refine bS (ae ?_);refine fZ (dz hm.len @Ag ?_);by_cases C:16<L.length
 .rw[if_pos C];refine aM i7 ?_;refine bS (ae ?_);refine aS (ae ?_);exact⟨dy _,.cr,rfl,fun _=>rfl,fun h=>au⟩
 rw[if_neg C];refine aK i7 (aG ?_);refine ae ?_
 refine bS (ae ?_);refine aB (aX (Q:=fun o A' X=>(o= .normal/\aTv S U mv g L 0 A' X)\/(o= .ret/\jq S X/\lI g L≠0/\aA 4 A'.F= .cr/\aA 5 A'.F=jr (lI g L))) (aB (aF ?_)) ?_)
 .refine dz hm.len @Ag ?_;refine aJ (bL (aTv S U mv g L) ?_ L.length _ _ ⟨rfl,dy _,0,.cr,[],au,rfl,⟨.inl ⟨rfl,rfl,rfl⟩,fun q hq=>au⟩,af,af,af,af,ag⟩);rintro k ⟨F,inr⟩ X ⟨rfl,d,j,v,cs,D,u,V,I,B,f,i,e⟩;simp only at I B f i e;refine bS (dz i e ?_);by_cases A:j<L.length;rotate_left
  .refine aB (aK i7 (bH ?_));refine ae ?_;obtain rfl:k=0:=by omega
   exact .inl ⟨rfl,d,j,v,cs,D,u,V,ah I,ah B,ah f,ah i,ah e⟩
  refine aB (aM i7 (aG ?_));refine ae ?_
  have w1:=du j
  have⟨xb,xq,a,xi,xs,xl⟩:=aHp hm A;have xl:=xl X d;have w:=aEj (g:=g) A;have z:=aEE (g:=g) A;have an:=@aFw.push g S;obtain⟨m,J⟩:∃m,L.getD j []=m:=⟨_,rfl⟩;rw[J] at xs w z;have K:=hB.jo d;refine aB (aJ (aB (aF ?_)));refine ec f e xi xl ?_;refine bS (fx I ?_);refine bJ (am ?_);refine aW (aAu (P:=wJ g m) (ok:=iQ g m) H (aEu (g:=g) (m:=m)) K.w (aE.jo (E:=bT) bF hn d) (xs.jo d) au (fun h1 h2 _ S' l=>aDI H (aE.jo (E:=bT) bF hn (d.trans l)) (aE.jo (E:=cC) bQ hi (d.trans l)) (xs.jo (d.trans l)) G ⟨h1,h2⟩ hT ab (ac.jo (d.trans l)) (K.jo l))) ?_;rintro _ X1 ⟨x1,x,y,rfl,hp,M⟩;refine gh @ex0 @ex1 ?_;apply cB;intro X2 x2 m2 c2
  have aZ:x.cells=some [x]/\y.cells=some [y]:=by
   by_cases p:jT g.ce.length m (iQ g m)=0
   .have⟨S0,_,h⟩:=hp p;exact h.cel
   .obtain⟨rfl,rfl⟩:=M p;exact⟨rfl,rfl⟩
  refine dB (b:=X1.nx) (aq) (by refine am ?_;exact bB _) c2 rfl rfl ?_;intro X3 x3 m3 c3;refine am ?_
  have s:jq X1 X3:=x3.jo x2 (Af _);have N:=(d.trans x1).trans s
  refine fZ (ae ?_);by_cases p:jT g.ce.length m (iQ g m)=0;rotate_left
  .refine aM (ja (Ac (show jT g.ce.length m (iQ g m)≠0 from p))) ?_;refine bS (ae ?_);apply aS;rw[z p] at u;refine .inr ⟨rfl,N,by rw[u];exact p,af,ah u⟩
  refine aK (ja (Aa (show ¬jT g.ce.length m (iQ g m)≠0 from fun h=>h p))) (aG ?_);refine ae ?_
  have⟨S0,ao,aw⟩:=hp p;have O:wJ g (L.getD j []) S X3 x y:=by
   rw[J];exact(aw.moveF s.1 fun c _ hc _=>s.2 c hc).low (Aq d.1 ao)
  refine aF (gh B (aOp c3) ?_);refine fQ (aEQ (a:=x) (b:=y) (aq)) ?_;intro X4 W m4 c4;have aI:=N.trans W;have⟨v',X5,eA,e2,e3,e4,e5⟩:=(V.move ((x1.trans s).trans W)).push (t:=X3.nx) aI (O.moveF W.1 fun c _ hc _=>W.2 c hc) c4 au
  refine eK (fun call=>by refine fx @fB ?_;exact eA) ?_;refine ae ?_;refine aF (dz e w1 ?_);exact⟨k - 1,au,rfl,e2,j+1,v',_,au,by rw[u];exact w p,e5,ah I,af,ah f,ah i,af⟩
 rintro o ⟨F,inr⟩ X (⟨rfl,q0,d,j,v,cs,D,u,V,I,B,f,i,e⟩|⟨rfl,d,aV,p4,p5⟩)
 .simp only at q0 B;subst q0;obtain rfl:j=L.length:=by omega
  rw[List.drop_length] at u;have R:lI g L=0:=u;refine ae ?_
  refine bS (c8 B ?_);refine aS (ae ?_);exact⟨d,v,by rw[R],fun h=>absurd R h,fun _=>V.is⟩
 .simp only at p4 p5;refine dz p4 p5 ?_;exact⟨d,.cr,rfl,fun _=>rfl,fun h=>absurd h aV⟩
noncomputable def mI(g:aP)(L:bo):Int:=if cR g≠0 then cR g else if 16<L.length then 4 else lI g L
def aCc(h:mI g L=0):cR g=0/\L.length<=16/\lI g L=0:=by
 unfold mI at h;split at h
 .rename_i c;exact absurd h c
 rename_i c;split at h
 .cases h
 .exact⟨Ed.1 c,au,h⟩
def uR{g:aP}:∀ {L:bo},lI g L=0->∀m∈L,jT g.ce.length m (iQ g m)=0
 | [],_,m,c=>by cases c
 | x::L,h,m,c=>by
  have h:(if jT g.ce.length x (iQ g x)≠0 then jT g.ce.length x (iQ g x) else lI g L)=0:=h;split at h
  .rename_i d;exact absurd h d
  .rename_i d;rcases Bm.1 c with rfl|c
   .exact Ed.1 d
   .exact uR h m c
def rV{m:bt}(h:jT g.ce.length m (iQ g m)=0):gF g m:=by
 unfold jT at h;split at h
 .cases h
 rename_i c;split at h
 .cases h
 rename_i d;split at h
 .cases h
 rename_i e;split at h
 .rename_i f;exact⟨⟨Ed.1 c,Classical.not_not.1 d⟩,e,f⟩
 .cases h
def aTr(g:aP)(L:bo)(a b:bt):Prop:=tZ g.ce.length (mJ g.ce.length L) a/\tZ g.cg.length (mJ g.cg.length (L.map (dh g))) b
structure aJA(X1 X:St)(v:AV)(cs:bu)(A:bo)(j:Nat):Prop where
 gr:fC 1 X1 X v j cs
 el:∀q,q<j->∃r,cs[q]? =some r/\bN .i64 X1 r (A.getD q [])
def aJA.is(h:aJA X1 X v cs A A.length)(f:jq X1 X):aE 1 nM X v A:=by
 rcases h.gr with⟨rfl,g,_⟩|⟨b,rfl,m,j,k,o⟩
 .exact .inl ⟨Bj.1 g,.inl rfl⟩
 .refine .inr ⟨b,0,A.length,true,cs,rfl,Af _,j,by unfold cG;rw[k];rfl,fun i a hi=>?_⟩;obtain⟨c,rfl⟩:=Aj.1 hi;have⟨r,l,e⟩:=h.el i c;rw[Ad,Ab c] at e;refine⟨[r],rfl,fun q w d=>?_,r,rfl,e.jo f⟩;rw[An,Ec]
  match q,d with
  | 0,d=>cases d;exact l
  | q+1,d=>simp at d
def aJA.push{r:AV}(h:aJA X1 X v cs A j)(f:jq X1 X)(g:bN .i64 X1 r (A.getD j []))(i:X.h.get t=js [r])(u:j+1<=1000):
  ∃v' X',gQ 24 1 v (.sl t 0 1 1 false) X=some (v',X')/\jq X1 X'/\aJA X1 X' v' (cs++ [r]) A (j+1):=by
 have⟨v',X',k,l,o,w,x⟩:=h.gr.app (bytes:=24) (m:=1) f rfl (aRG i) rfl Nat.one_pos ay ay;refine⟨v',X',k,o,l,fun q y=>?_⟩;have c:=h.gr.csl;by_cases e:q=j
 .subst e;exact⟨r,by rw[Ao au,c,Ec,Dv];rfl,g⟩
 .have⟨p,d,s⟩:=h.el q au;exact⟨p,by rw[Ak (Aj.1 d).1];exact d,s⟩
def aIH{f:bt->bt}(c:j<L.length):(L.map f).getD j []=f (L.getD j []):=by
 rw[Ad,Ba,Ab c,Ad,Ab c];rfl
def aJp(i:cR g=0)(f:∀m∈L,gF g m):(∀m∈L,m.length=g.ce.length/\∀x,x<g.ce.length->0<=m.getD x 0/\m.getD x 0<g.ce.length)/\∀m∈L.map (dh g),m.length=g.cg.length/\∀x,x<g.cg.length->0<=m.getD x 0/\m.getD x 0<g.cg.length:=by
 have G:=gR i;refine⟨fun m c=>⟨(f m c).M.len,fun x d=>?_⟩,fun m c=>?_⟩
 .have:=(f m c).M.at d;omega
 .obtain⟨q,j,rfl⟩:=Cp.1 c;refine⟨by simp [dh],fun x d=>?_⟩;have A:=f q j;have⟨h,k,l⟩:=G.fst x d;have e:(dh g q).getD x 0=(ct g (fW q (fS g x))).jj:=by
   unfold dh;rw[Ad,Ba,Cm d];rfl
  rw[e];have:=G.inf _ (A.M.at h).2 (by rw[<- (A.A.like _ h).1];exact k);exact⟨this.1,this.2.1⟩
def aS1(X1:St)(gb:Nat)(mv c:AV)(d:bo)(k:Nat)(A:bO)(X:St):Prop:=A.inr=false/\jq X1 X/\∃ (j:Nat) (v:AV) (cs:bu),j+k=d.length/\aJA X1 X v cs d j/\aA 1 A.F=mv/\aA 2 A.F= .ptr gb 0/\aA 10 A.F=v/\aA 30 A.F=c/\aA 31 A.F=jr (d.length:Int)/\aA 32 A.F=jr (j:Int)
def aGI(H:Has fns)(hn:aE 6 bT S nv g.ce)(hi:aE 2 cC S iv g.cg)(ac:g.ce.length<=100000)(hm:aE 1 nM S mv L):
  iK fns (.fn 48 [] []) [.agg [jr g.ch,nv,iv],mv] S fun r S'=>jq S S'/\∃x y,r= .tup [x,y,jr (mI g L)]/\(mI g L≠0->x= .cr/\y= .cr)/\(mI g L=0->∃a b,oM S S' x a/\oM S S' y b/\aTr g L a b):=by
 refine cJ H.f48 (by simp) ?_;refine ae ?_;apply bS;refine dC (by refine ae ?_;exact bB _) ?_;intro S1 s1 n1 g1;refine ae ?_;refine bS (c8 (gE g1) ?_);refine bJ (ae ?_);refine aW (aCz H (aE.jo (E:=bT) bF hn s1) (aE.jo (E:=cC) bQ hi s1) ac) ?_;rintro _ S2 ⟨s2,p,rfl,D⟩;refine ae ?_;have f:=s1.trans s2;refine fZ (ae ?_);by_cases s:cR g=0;rotate_left
 .have hE:mI g L=cR g:=by unfold mI;rw[if_pos s]
  rw[hE];refine aM (ja (Ac (show cR g≠0 from s))) ?_;refine bS (ae ?_);refine aS (ae ?_);exact⟨f,.cr,.cr,rfl,fun _=>⟨rfl,rfl⟩,fun h=>absurd h s⟩
 have hE:mI g L=if 16<L.length then 4 else lI g L:=by unfold mI;rw[if_neg (fun h=>h s)]
 rw[hE];refine aK (ja (Aa (show ¬cR g≠0 from fun h=>h s))) (aG ?_);refine ae ?_
 obtain⟨wb,bq,bs,bv,T,Z,rfl,bw,hT,an,ao,hB⟩:=D s;have aw:=aE.jo (E:=bT) bF hn f;have aI:=aE.jo (E:=cC) bQ hi f;have aV:=aE.jo (E:=nM) fR hm f;refine bS (ae ?_);refine bJ (ae ?_);refine aW (aGu H s aw aI aV hT an ao hB) ?_;rintro _ S3 ⟨s3,M,rfl,bm,aZ⟩;generalize he:(if 16<L.length then(4:Int) else lI g L)=e at *;refine ae ?_;have N:=f.trans s3;refine fZ (ae ?_);by_cases d:e=0;rotate_left
 .refine aM (ja (Ac (show e≠0 from d))) ?_;refine bS (ae ?_);refine aS (ae ?_);exact⟨N,.cr,.cr,rfl,fun _=>⟨rfl,rfl⟩,fun h=>absurd h d⟩
 refine aK (ja (Aa (show ¬e≠0 from fun h=>h d))) (aG ?_);refine ae ?_
 have A:=aZ d;have bp:L.length<=16:=by
  rw[<-he] at d;split at d
  .cases d
  .omega
 have O:∀m∈L,gF g m:=fun m hm=>by
  rw[<-he] at d;rw[if_neg au] at d;exact rV (uR d m hm)
 have⟨P,R⟩:=aJp s O;have G:=gR s;have a0:(L.map (dh g)).length=L.length:=Av ..;refine bS (ae ?_);refine aB (aX (Q:=fun o A' X=>o= .normal/\aS1 S3 S.nx mv M (L.map (dh g)) 0 A' X) (aB (aF ?_)) ?_)
 .refine dz (aE.len A) @Ag ?_;refine aJ (bL (aS1 S3 S.nx mv M (L.map (dh g))) ?_ (L.map (dh g)).length _ _ ⟨rfl,dy _,0,.cr,[],au,⟨.inl ⟨rfl,rfl,rfl⟩,fun q hq=>au⟩,af,af,af,af,ah a0,ag⟩);rintro k ⟨F,inr⟩ X ⟨rfl,B,j,v,cs,U,V,I,J,c,u,w,i⟩;simp only at I J c u w i;refine bS (dz w i ?_);by_cases bx:j<(L.map (dh g)).length;rotate_left
  .refine aB (aK i7 (bH ?_));refine ae ?_;obtain rfl:k=0:=by omega
   exact⟨rfl,B,j,v,cs,U,V,ah I,ah J,ah c,ah u,ah w,ah i⟩
  refine aB (aM i7 (aG ?_));refine ae ?_
  have w1:=du j
  have W:j<L.length:=by omega
  obtain⟨_,xb,xq,xi,a1,_,⟨x,y,rfl,hx,hy⟩,Y,_⟩:=aE.at A az (uZ W);rw[<-eM B a1] at Y;have bz:x.cells=some [x]:=bN.cells hx;refine aB (aJ (aB (aF ?_)));refine gy u i @aY xi Y ?_;apply cB;intro X2 x2 m2 c2
  refine dB (b:=X.nx) (aq) (by refine am ?_;exact bB _) c2 rfl rfl ?_;intro X3 x3 m3 c3;refine am ?_
  have C:jq X X3:=x3.jo x2 (Af _);have a2:=B.trans C;refine aF (gu c @aU @aT (aKK c3) ?_);refine fQ (aBD hx (aq)) ?_;intro X4 x4 m4 c4;have a4:=a2.trans x4;have a5:aJA S3 X4 v cs (L.map (dh g)) j:=⟨V.gr.step (C.trans x4),V.el⟩;have⟨v',X5,eA,e2,e3⟩:=a5.push (t:=X3.nx) a4 (r:=x) (by rw[aIH W];exact hx) c4 au
  refine eK (fun call=>by refine fx @fB ?_;exact eA) ?_;refine ae ?_;refine aF (dz i w1 ?_);exact⟨k - 1,au,rfl,e2,j+1,v',_,au,e3,ah I,ah J,af,ah u,ah w,af⟩
 rintro o ⟨F,inr⟩ X ⟨rfl,rfl,B,j,v,cs,U,V,I,J,c,_,_,_⟩;simp only at I J c;obtain rfl:j=(L.map (dh g)).length:=by omega
 have K:=V.is B;have z:=N.trans B;have gX:X.h.get S.nx=js [jr g.ch,nv,iv]:=((s2.trans (s3.trans B)).2 _ au).trans g1;have aa:S.nx<X.nx:=by have:=(s2.trans (s3.trans B)).1;omega
 have ba:=aE.self hn;have bb:=aE.self hi;have bd:=aE.len hn;have be:=aE.len hi;have bA:=G.n2;have bC:=G.ni;refine ae ?_
 refine aB (iN (fun _=>False) ?_);intro X0 x0;refine fe I J c (fN gX) aa @Ap ba bd @Ag ?_;refine dT rfl ?_;refine ae ?_;refine aW (aDa (n:=g.ce.length) H au (aE.jo (E:=nM) fR hm (z.trans x0)) au P) ?_;rintro oa Y1 ⟨y1,a,ha,bj⟩;refine⟨y1,?_⟩;refine fe I J c (jE gX) aa @Ap bb be @Ag ?_;refine dT rfl ?_;refine ae ?_;refine aW (aDa (n:=g.cg.length) H au (aE.jo (E:=nM) fR K (x0.trans y1)) au R) ?_;rintro ob Y2 ⟨y2,b,hb,bk⟩;refine⟨y2,?_⟩
 refine aS (ae ?_);have ab:=((z.trans x0).trans y1).trans y2;have low:∀ {S0 S1 X:St} {v:AV} {l:bt},oM S1 X v l->S0.nx<=S1.nx->oM S0 X v l:=fun h hs=>by
  have⟨b,h1,h2,h3,h4⟩:=h;exact⟨b,h1,Aq hs h2,h3,h4⟩
 exact⟨ab,oa,ob,by rw[d],fun h=>absurd d h,fun _=>⟨a,b,low (ha.jo y2) (z.trans x0).1,low hb ((z.trans x0).trans y1).1,bj,bk⟩⟩
def aCo(l:bt):Nat:=(l.map Int.toNat).sum
def aEl:∀ {l:bt} {i:Nat} {v:Int},i<l.length->aCo (l.set i v)+(l.getD i 0).toNat=aCo l+v.toNat
 | [],i,v,h=>absurd h (Bo _)
 | x::l,0,v,_=>by
  show(v.toNat+aCo l)+x.toNat=(x.toNat+aCo l)+v.toNat;omega
 | x::l,i+1,v,h=>by
  have c:=aEl (l:=l) (i:=i) (v:=v) (Nat.lt_of_succ_lt_succ h);show(x.toNat+aCo (l.set i v))+(l.getD i 0).toNat=(x.toNat+aCo l)+v.toNat;omega
def aQf(h:yF n E out){y:Nat}(g:x<n)(j:y<n)(k:tE E x y)(c:out.getD x 0≠out.getD y 0):
  yF n E ((out.set x (mnI (out.getD x 0) (out.getD y 0))).set y (mnI (out.getD x 0) (out.getD y 0)))/\aCo ((out.set x (mnI (out.getD x 0) (out.getD y 0))).set y (mnI (out.getD x 0) (out.getD y 0)))<aCo out:=by
 have d:x≠y:=fun e=>c (by rw[e]);have r:=h.len;have s:=h.le x g;have t:=h.le y j;have m:=h.con x g;have o:=h.con y j;generalize u:out.getD x 0=a at *;generalize w:out.getD y 0=b at *;have p:(mnI a b=a/\a<b)\/(mnI a b=b/\b<a):=by unfold mnI;split<;>omega
 have q:∀z,((out.set x (mnI a b)).set y (mnI a b)).getD z 0=if z=y then mnI a b else if z=x then mnI a b else out.getD z 0:=fun z=>by
  rw[eJ (by rw[Ar];omega),eJ au]
 refine⟨⟨by rw[Ar,Ar];exact r,fun z f=>?_,fun z f=>?_⟩,?_⟩
 .rw[q];have:=h.le z f;split
  .omega
  .split<;>omega
 .rw[q];split
  .rename_i e;subst e;rcases p with⟨e,_⟩|⟨e,_⟩
   .rw[e];exact .trans (.symm k) m
   .rw[e];exact o
  .split
   .rename_i e;subst e;rcases p with⟨e,_⟩|⟨e,_⟩
    .rw[e];exact m
    .rw[e];exact .trans k o
   .exact h.con z f
 .have s1:=aEl (l:=out) (i:=x) (v:=mnI a b) au;have s2:=aEl (l:=out.set x (mnI a b)) (i:=y) (v:=mnI a b) (by rw[Ar];omega);have A:(out.set x (mnI a b)).getD y 0=b:=by
   rw[eJ au,if_neg (Ch d)];exact w
  rw[u] at s1;rw[A] at s2;omega
def aMK(h:yF n (mJ n L) out)(d:∀q x,x<n->q<L.length->out.getD x 0=out.getD ((L.getD q []).getD x 0).toNat 0):tZ n (mJ n L) out:=
 ⟨h.len,h.le,h.con,fun x y ⟨f,m,g,e⟩=>by
  obtain⟨q,c,rfl⟩:=Dj.1 g;have:=d q x f c;rw[Ad (l:=L),Ab c] at this;rw[e];exact this⟩
section
variable {S:St}{ob n:Nat}{mv:AV}{L:bo}
def aLL(n:Nat)(L:bo)(out0 out:bt)(fl:Bool)(q x:Nat):Prop:=yF n (mJ n L) out/\((fl=true/\aCo out<aCo out0)\/(fl=false/\out=out0/\∀d c,c<n->d<q\/(d=q/\c<x)->out0.getD c 0=out0.getD ((L.getD d []).getD c 0).toNat 0))
def aN1(ob n:Nat)(mv:AV)(fl:Bool)(F:Fr):Prop:=aA 0 F=jr (n:Int)/\aA 1 F=mv/\aA 5 F= .sl ob 0 n n false/\aA 6 F= .bool fl
def aT4(S:St)(ob n:Nat)(mv:AV)(L:bo)(out0:bt)(q:Nat)(k:Nat)(A:bO)(X:St):Prop:=A.inr=false/\jq S X/\ob<X.nx/\∃ (x:Nat) (out:bt) (fl:Bool),x+k=n/\X.h.get ob=js (aQ out)/\aLL n L out0 out fl q x/\aN1 ob n mv fl A.F/\aA 7 A.F=jr (q:Int)/\aA 8 A.F=jr (x:Int)
def aSu{C:Fr}{out1:bt}{q:Nat}(hn:n<=1000000)(hm:aE 1 nM S mv L)(H:∀m∈L,m.length=n/\∀x,x<n->0<=m.getD x 0/\m.getD x 0<n)(I:q<L.length)(R:jq S Y)(T:S.nx<=ob)(f:ob<Y.nx)(j:Y.h.get ob=js (aQ out1))(r:aLL n L out0 out1 fl q 0)(U:aN1 ob n mv fl C)(g:aA 7 C=jr (q:Int))(d:aA 8 C=jr ((0:Nat):Int)):
  jN fns aUE ⟨C,false⟩ Y fun o A' X=>o= .normal/\aT4 S ob n mv L out0 q 0 A' X:=by
 refine aJ (bL (aT4 S ob n mv L out0 q) ?_ n _ _ ⟨rfl,R,f,0,out1,fl,au,j,r,U,g,d⟩);rintro k ⟨F,inr⟩ X ⟨rfl,s,f,x,out,fl,J,j,r,⟨z,v,w,K⟩,g,d⟩;simp only at z v w K g d;refine fZ (dz z d ?_);by_cases i:x<n;rotate_left
 .refine aK i7 (bH ?_);refine ae ?_;obtain rfl:k=0:=by omega
  exact⟨rfl,s,f,x,out,fl,J,j,r,⟨ah z,ah v,ah w,ah K⟩,ah g,ah d⟩
 refine aM i7 (aG ?_);refine ae ?_
 have V:=du x
 have⟨xb,xq,a,W,M,Z⟩:=aHp hm I;have N:=Z X s;have p:L.getD q []∈L:=by rw[Ad,Ab I];exact Bl I
 have⟨l1,l2⟩:=H _ p;have⟨m1,m2⟩:=l2 x i;have t:=r.1;have aa:=t.len;have ia:=eX (b:=ob) (o:=false) i;have la:=aAd j (au:x<out.length);have ir:=(M.jo s).c9 (au:x<(L.getD q []).length);have O:=(M.jo s).ld (au:x<(L.getD q []).length);have sa:=bN.self M;obtain⟨y,P⟩:∃y:Nat,(L.getD q []).getD x 0=(y:Int):=⟨((L.getD q []).getD x 0).toNat,au⟩;rw[P] at O m2;have A:y<n:=by omega
 have ib:=eX (b:=ob) (o:=false) A;have lb:=aAd j (au:y<out.length);have hc:tE (mJ n L) x y:=.edge ⟨i,_,p,by rw[P];rfl⟩;have u:=fun c=>aQf t i A hc c;refine aB (aJ (aB (gI ?_)));refine fo v w g d ia la W N sa ir O ib lb @dO ?_;generalize ea:out.getD x 0=av at *;generalize eb:out.getD y 0=D at *;by_cases c:av=D
 .subst c;refine bS (ae ?_);refine aK (ja (Aa (show ¬av≠av from fun h=>h rfl))) (aG ?_);refine ae ?_
  refine aF (dz d V ?_);refine⟨k - 1,au,rfl,s.trans (jq.nx X _),by simp only;omega,x+1,out,fl,au,j,⟨t,?_⟩,⟨ah z,ah v,ah w,ah K⟩,ah g,af⟩;rcases r.2 with h|⟨h1,G,h3⟩
  .exact .inl h
  .refine .inr ⟨h1,G,fun q' x' Q ab=>?_⟩;by_cases e:q'=q/\x'=x
   .obtain⟨rfl,rfl⟩:=e;rw[P,Am,<-G,ea,eb]
   .exact h3 q' x' Q au
 .have⟨u1,u2⟩:=u c;refine bS (ae ?_);refine aM (ja (Ac (show av≠D from c))) ?_;have B:=Z ⟨X.h,X.nx+16⟩ (s.trans (jq.nx X 16));simp only at B;refine bS (fj v w g d W B ir O @rZ @iO @kL @aGY ia ?_);refine eK (fun call=>by refine dz @dE @cF ?_;exact qQ (S:=⟨X.h,X.nx+16⟩) j au) ?_;refine c8 ib ?_;refine eK (fun call=>by refine dz @dE @cF ?_;exact qQ (S:=⟨X.h.set ob (js (aQ (out.set x (mnI av D)))),X.nx+16⟩) (l:=out.set x (mnI av D)) jh (by rw[Ar];omega)) ?_;refine ae ?_;refine aF (ae ?_);refine aF (dz d V ?_);refine⟨k - 1,au,rfl,((s.trans (jq.nx X 16)).put T _).put T _,by simp only;omega,x+1,_,true,au,jh,⟨u1,.inl ⟨rfl,?_⟩⟩,⟨ah z,ah v,ah w,af⟩,ah g,af⟩;rcases r.2 with h|⟨h1,G,h3⟩
  .omega
  .rw[<-G];exact u2
def aSS(S:St)(ob n:Nat)(mv:AV)(L:bo)(out0:bt)(k:Nat)(A:bO)(X:St):Prop:=A.inr=false/\jq S X/\ob<X.nx/\∃ (q:Nat) (out:bt) (fl:Bool),q+k=L.length/\X.h.get ob=js (aQ out)/\aLL n L out0 out fl q 0/\aN1 ob n mv fl A.F/\aA 7 A.F=jr (q:Int)
def aLL.ji{q:Nat}(h:aLL n L out0 out fl q n):aLL n L out0 out fl (q+1) 0:=⟨h.1,by
 rcases h.2 with e|⟨d,f,g⟩
 .exact .inl e
 .exact .inr ⟨d,f,fun i j c k=>g i j c au⟩⟩
def aSh{l:Fr}(D:n<=1000000)(z:aE 1 nM S mv L)(M:L.length<=1000000)(p:∀m∈L,m.length=n/\∀x,x<n->0<=m.getD x 0/\m.getD x 0<n)(A:jq S Y)(G:S.nx<=ob)(c:ob<Y.nx)(i:Y.h.get ob=js (aQ out0))(H:yF n (mJ n L) out0)(B:aN1 ob n mv false l)(d:aA 7 l=jr ((0:Nat):Int)):
  jN fns aTJ ⟨l,false⟩ Y fun o I X=>o= .normal/\aSS S ob n mv L out0 0 I X:=by
 refine aJ (bL (aSS S ob n mv L out0) ?_ L.length _ _ ⟨rfl,A,c,0,out0,false,au,i,⟨H,.inr ⟨rfl,rfl,fun N O _ P=>au⟩⟩,B,d⟩);rintro k ⟨F,inr⟩ X ⟨rfl,r,c,q,out,fl,s,i,C,⟨f,e,g,h⟩,d⟩;simp only at f e g h d;apply fZ;refine ec e d ((aE.jo (E:=nM) fR z r).len) @Ag ?_;by_cases t:q<L.length;rotate_left
 .refine aK i7 (bH ?_);refine ae ?_;obtain rfl:k=0:=by omega
  exact⟨rfl,r,c,q,out,fl,s,i,C,⟨ah f,ah e,ah g,ah h⟩,ah d⟩
 refine aM i7 (aG ?_);refine ae ?_
 have J:=du q
 refine aB (aJ (aB (aF ?_)));refine ae ?_;refine aX (aSu (S:=S) (ob:=ob) (n:=n) (mv:=mv) (L:=L) (out0:=out0) (out1:=out) (q:=q) (fl:=fl) D z p t r G c i C ⟨ah f,ah e,ah g,ah h⟩ (ah d) (ag)) ?_;rintro o ⟨F,inr⟩ X1 ⟨rfl,rfl,u,j,x,out1,v,K,w,y,⟨f,e,g,h⟩,d,_⟩;simp only at f e g h d;obtain rfl:n=x:=by omega
 refine ae ?_
 refine aF (dz d J ?_);exact⟨k - 1,au,rfl,u,j,q+1,out1,v,au,w,y.ji,⟨ah f,ah e,ah g,ah h⟩,af⟩
end
def aIN(H:Has fns)(A:n<=1000000):iK fns (.fn 46 [] []) [jr (n:Int)] S fun r S'=>oM S S' r ((List.range n).map fun k:Nat=>(k:Int))/\jq S S':=by
 refine cJ H.f46 (by simp) ?_;refine am ?_;refine bS (am ?_);refine bS (am ?_);refine fQ (oK (n:=n) (jd @aY) (jd @aY) ay ay) ?_;intro S1 s1 B w;rw[rG] at w;refine am ?_;refine aB (aX (Q:=fun o y X=>o= .normal/\aFT S S.nx n (fun j=>(j:Int)) (fun F i=>aA 0 F=jr (n:Int)/\aA 3 F= .sl S.nx 0 n n false/\aA 4 F=jr (i:Int)) 0 y X) (aB (aF ?_)) ?_)
 .refine am ?_;refine aJ (bL (aFT S S.nx n (fun j=>(j:Int)) (fun F i=>aA 0 F=jr (n:Int)/\aA 3 F= .sl S.nx 0 n n false/\aA 4 F=jr (i:Int))) ?_ n _ _ ⟨rfl,s1,au,0,_,au,Au ..,fun j x=>au,w,aq,aq,by simp only[↓aD,aC,rE,↓reduceIte,rA];try rfl⟩);rintro k ⟨F,inr⟩ X ⟨rfl,p,q,i,l,h,f,s,t,m,c,g⟩;simp only at m c g;refine fZ (gh m g ?_);by_cases d:i<n
  .refine aM i9 (aG ?_);refine am ?_
   have z:=du i
   have u:=eX (b:=S.nx) (o:=false) d;refine aB (aJ (aF ?_));refine gu c g @aY u ?_;refine eK (fun call=>by refine gh @dE @cF ?_;exact qQ (S:=X) t (by rw[f];exact d)) ?_;refine am ?_;refine aF (gh g z ?_);refine⟨k - 1,au,rfl,p.put (Af _) _,q,i+1,l.set i (i:Int),au,by rw[Ar];exact f,fun j x=>?_,jh,ar m,ar c,aq⟩;rw[eJ (by rw[f];exact d)];split
   .rename_i e;rw[e]
   .exact s j au
  .refine aK i9 (bH ?_);refine am ?_;have v:k=0:=by omega
   subst v;exact⟨rfl,p,q,i,l,h,f,s,t,ar m,ar c,ar g⟩
 rintro o ⟨F,inr⟩ X ⟨rfl,rfl,p,q,i,l,h,f,s,t,m,c,g⟩;simp only at c;have el:l=(List.range n).map fun k:Nat=>(k:Int):=oP (by simp [f]) fun j x=>by
  rw[s j au,Ad,Ba,Cm au];rfl
 subst el;refine am ?_
 refine bS (fx c ?_);refine aS (am ?_);exact⟨⟨S.nx,by simp,Af _,q,t⟩,p⟩
def aS2(S:St)(ob n:Nat)(mv:AV)(L:bo)(k:Nat)(A:bO)(X:St):Prop:=A.inr=false/\jq S X/\ob<X.nx/\∃ (out:bt) (fl:Bool),X.h.get ob=js (aQ out)/\yF n (mJ n L) out/\((fl=true/\k=aCo out+1)\/(fl=false/\k=0/\tZ n (mJ n L) out))/\aN1 ob n mv fl A.F
def aEA(H:Has fns)(C:n<=1000000)(P:aE 1 nM S mv L)(R:L.length<=1000000)(y:∀m∈L,m.length=n/\∀x,x<n->0<=m.getD x 0/\m.getD x 0<n):
  iK fns (.fn 30 [] []) [jr (n:Int),mv] S fun r S'=>jq S S'/\∃out,oM S S' r out/\tZ n (mJ n L) out:=by
 refine cJ H.f30 (by simp) ?_;refine ae ?_;refine bS (ae ?_);refine bS (ae ?_);refine bJ (ae ?_);refine aW (aIN H C) ?_;rintro _ S1 ⟨⟨ob,rfl,D,G,I⟩,s1⟩;have i:yF n (mJ n L) ((List.range n).map fun k:Nat=>(k:Int)):=aId;simp only[Av,Cn]
 refine aB (aX (Q:=fun o J X=>o= .normal/\aS2 S ob n mv L 0 J X/\aA 6 J.F= .bool false) (aB (aF ?_)) ?_)
 .refine ae ?_;refine aJ (bL (aS2 S ob n mv L) ?_ (aCo ((List.range n).map fun k:Nat=>(k:Int))+1) _ _ ⟨rfl,s1,G,_,true,I,i,.inl ⟨rfl,rfl⟩,⟨af,af,af,af⟩⟩);rintro k ⟨F,inr⟩ X ⟨rfl,t,c,out,fl,u,z,e,⟨j,l,f,g⟩⟩;simp only at j l f g;refine fZ (c8 g ?_);rcases e with⟨rfl,K⟩|⟨rfl,K,v⟩
  rotate_left
  .subst K;refine aK (af) (bH ?_);refine ae ?_;exact⟨⟨rfl,t,c,out,false,u,z,.inr ⟨rfl,rfl,v⟩,⟨ah j,ah l,ah f,ah g⟩⟩,ah g⟩
  refine aM (af) (aG ?_);refine ae ?_
  refine aJ (aB (aF ?_));refine ae ?_;refine bS (ae ?_);refine aX (aSh (S:=S) (ob:=ob) (n:=n) (mv:=mv) (L:=L) (out0:=out) C P R y t D c u z ⟨ah j,ah l,ah f,af⟩ (ag)) ?_;rintro o ⟨F,inr⟩ X1 ⟨rfl,rfl,p,d,q,out1,T,M,s,w,N⟩;obtain rfl:q=L.length:=by omega
  refine ae ?_
  rcases w.2 with⟨A,O⟩|⟨A,O,U⟩
  .subst A;exact⟨aCo out1+1,au,rfl,p,d,out1,true,s,w.1,.inl ⟨rfl,rfl⟩,N.1⟩
  .subst A O;exact⟨0,au,rfl,p,d,out1,false,s,w.1,.inr ⟨rfl,rfl,aMK w.1 fun q x V M=>U q x V (.inl M)⟩,N.1⟩
 rintro o ⟨F,inr⟩ X ⟨rfl,⟨rfl,t,c,out,fl,u,z,e,⟨j,l,f,g⟩⟩,B⟩;simp only at f g B;have v:tZ n (mJ n L) out:=by
  rcases e with⟨_,h⟩|⟨_,_,h⟩
  .omega
  .exact h
 refine ae ?_
 refine bS (c8 f ?_);refine aS (ae ?_);exact⟨t,out,⟨ob,by rw[v.len],D,c,u⟩,v⟩
end Go.Ev.Gl
