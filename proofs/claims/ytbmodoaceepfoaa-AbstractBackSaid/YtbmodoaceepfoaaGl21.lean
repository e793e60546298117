import Derived.Test.YtbmodoaceepfoaaGl20
set_option linter.all false
open Nat renaming reduceEqDiff -> rE, reduceAdd -> rA
set_option maxHeartbeats 0
namespace Go.Ev.Gl
variable {fns:T eY}
variable {x y v mv nv iv:AV}{i t ub rb n j:Nat}{S Y X X' X1:St}{up up0:bu}{h:Ev.T AB}{E:Nat->Nat->Prop}{L A:bt}{g:aX}{cs:cd}
inductive aAc(E:Nat->Nat->Prop):Nat->Nat->Prop where
 | edge {x y:Nat}:E x y->aAc E x y
 | refl (x:Nat):aAc E x x
 | symm {x y:Nat}:aAc E x y->aAc E y x
 | trans {x y z:Nat}:aAc E x y->aAc E y z->aAc E x z
structure vC(n:Nat)(E:Nat->Nat->Prop)(out:bu):Prop where
 len:out.length=n
 le:∀x,x<n->0<=out.getD x 0/\out.getD x 0<=x
 con:∀x,x<n->aAc E x (out.getD x 0).toNat
 inv:∀x y,E x y->out.getD x 0=out.getD y 0
section
variable {n:Nat}{E E':Nat->Nat->Prop}{a b up:bu}
theorem aG0{f:Nat->Int}(c:∀x y,E x y->f x=f y){x y:Nat}(h:aAc E x y):f x=f y:=by
 induction h with
 | edge e=>exact c _ _ e
 | refl x=>rfl
 | symm _ d=>exact d.symm
 | trans _ _ g i=>exact g.trans i
def aPO(h:∀x y,E x y->x<n/\y<n)(c:vC n E a)(d:vC n E b):a=b:=by
 have key:∀ {a b:bu},vC n E a->vC n E b->∀x,x<n->b.getD x 0<=a.getD x 0:=fun {a b} c d x e=>by
  have i:=c.le x e;have g:=aG0 (f:=fun x=>b.getD x 0) d.inv (c.con x e);have g:b.getD x 0=b.getD (a.getD x 0).toNat 0:=g;have j:=d.le (a.getD x 0).toNat au;omega
 exact pT (by rw[c.len,d.len]) fun x e=>by
  rw[c.len] at e;have:=key c d x e;have:=key d c x e;omega
structure UpO(n:Nat)(E:Nat->Nat->Prop)(up:bu):Prop where
 len:up.length=n
 le:∀x,x<n->0<=up.getD x 0/\up.getD x 0<=x
 con:∀x,x<n->aAc E x (up.getD x 0).toNat
def oB(up:bu)(x:Nat):Nat:=(up.getD x 0).toNat
def aAh(up:bu):Nat->Nat->Nat
 | 0,x=>x
 | f+1,x=>if oB up x=x then x else aAh up f (oB up x)
def root(up:bu)(x:Nat):Nat:=aAh up x x
def UpO.lt(h:UpO n E up){x:Nat}(c:x<n):oB up x<=x/\up.getD x 0=((oB up x:Nat):Int):=by
 have:=h.le x c;unfold oB;omega
theorem aF1(h:UpO n E up):∀ {f x:Nat},x<n->x<=f->aAh up (f+1) x=aAh up f x
 | 0,x,c,d=>by
  have:=(h.lt c).1;have e:oB up x=x:=by omega
  show(if oB up x=x then x else aAh up 0 (oB up x))=x;rw[if_pos e]
 | f+1,x,c,d=>by
  have:=(h.lt c).1;show(if oB up x=x then x else aAh up (f+1) (oB up x))=if oB up x=x then x else aAh up f (oB up x);by_cases e:oB up x=x
  .rw[if_pos e,if_pos e]
  .rw[if_neg e,if_neg e];exact aF1 h au au
theorem aCD(h:UpO n E up){x:Nat}(c:x<n):∀ {f:Nat},x<=f->aAh up f x=root up x
 | 0,d=>by rw[show x=0 by omega];rfl
 | f+1,d=>by
  rcases De x (f+1) with e|e
  .rw[aF1 h c au];exact aCD h c au
  .rw[show f+1=x by omega];rfl
def lL(h:UpO n E up){x:Nat}(c:x<n):root up x=if oB up x=x then x else root up (oB up x):=by
 have d:=(h.lt c).1;have:aAh up (x+1) x=root up x:=aCD h c au;rw[<-this];show(if oB up x=x then x else aAh up x (oB up x))=_;by_cases e:oB up x=x
 .rw[if_pos e,if_pos e]
 .rw[if_neg e,if_neg e];exact aCD h au au
def zU(h:UpO n E up){x:Nat}(c:x<n):root up (oB up x)=root up x:=by
 by_cases e:oB up x=x
 .rw[e]
 .rw[lL h c,if_neg e]
theorem uK(h:UpO n E up):∀ (x:Nat),x<n->root up x<=x/\oB up (root up x)=root up x/\aAc E x (root up x):=by
 intro x
 induction x using Nat.strongRecOn with
 | _ x d=>
  intro c;have i:=(h.lt c).1;rw[lL h c];by_cases e:oB up x=x
  .rw[if_pos e];exact⟨Af _,e,.refl _⟩
  .rw[if_neg e];have⟨j,f,g⟩:=d (oB up x) au au;exact⟨au,f,.trans (h.con x c) g⟩
theorem aPl(h:UpO n E up)(hi:i<n):UpO n E (up.set i (up.getD (oB up i) 0))/\∀x,x<n->root (up.set i (up.getD (oB up i) 0)) x=root up x:=by
 have q:=(h.lt hi).1;have l:=h.lt (au:oB up i<n);have f:i<up.length:=by rw[h.len];exact hi
 have g:∀x,(up.set i (up.getD (oB up i) 0)).getD x 0=if x=i then up.getD (oB up i) 0 else up.getD x 0:=fun x=>iE f;have j:UpO n E (up.set i (up.getD (oB up i) 0)):=⟨by rw[Aw];exact h.len,fun x c=>by
  rw[g];split
  .omega
  .exact h.le x c,fun x c=>by
  rw[g];split
  .rename_i e;subst e;exact .trans (h.con x c) (h.con (oB up x) au)
  .exact h.con x c⟩
 refine⟨j,fun x=>?_⟩
 induction x using Nat.strongRecOn with
 | _ x k=>
  intro c;have m:=(h.lt c).1;have o:oB (up.set i (up.getD (oB up i) 0)) x=if x=i then oB up (oB up i) else oB up x:=by
   show((up.set i (up.getD (oB up i) 0)).getD x 0).toNat=_;rw[g];split<;>rfl
  rw[lL j c,o];by_cases e:x=i
  .subst e;rw[if_pos rfl];by_cases d:oB up (oB up x)=x
   .rw[if_pos d];have p:oB up x=x:=by omega
    rw[lL h c,if_pos p]
   .rw[if_neg d,k _ au au,zU h au,zU h c]
  .rw[if_neg e];by_cases d:oB up x=x
   .rw[if_pos d,lL h c,if_pos d]
   .rw[if_neg d,k _ au au,zU h c]
theorem aPy(h:UpO n E up){s:Nat}(m:s<n)(o:t<=s)(p:oB up s=s)(q:oB up t=t)(r:aAc E s t):UpO n E (up.set s (t:Int))/\∀x,x<n->root (up.set s (t:Int)) x=if root up x=s then t else root up x:=by
 have f:s<up.length:=by rw[h.len];exact m
 have g:∀x,(up.set s (t:Int)).getD x 0=if x=s then(t:Int) else up.getD x 0:=fun x=>iE f;have k:UpO n E (up.set s (t:Int)):=⟨by rw[Aw];exact h.len,fun x c=>by
  rw[g];split
  .omega
  .exact h.le x c,fun x c=>by
  rw[g];split
  .rename_i e;subst e;exact r
  .exact h.con x c⟩
 have u:∀x,oB (up.set s (t:Int)) x=if x=s then t else oB up x:=fun x=>by
  unfold oB;rw[g];split
  .exact Ay _
  .rfl
 refine⟨k,fun x=>?_⟩
 induction x using Nat.strongRecOn with
 | _ x l=>
  intro c;have v:=(h.lt c).1;rw[lL k c,u];by_cases e:x=s
  .subst e;have i:root up x=x:=by rw[lL h c,if_pos p]
   rw[if_pos rfl,i,if_pos rfl];by_cases d:t=x
   .rw[if_pos d,d]
   .have j:root up t=t:=by rw[lL h au,if_pos q]
    rw[if_neg d,l t au au,j,if_neg d]
  .rw[if_neg e];by_cases d:oB up x=x
   .have i:root up x=x:=by rw[lL h c,if_pos d]
    rw[if_pos d,i,if_neg e]
   .rw[if_neg d,l _ au au,zU h c]
def aRL(h:UpO n E up)(f:∀x y,E x y->x<n/\y<n)(g:∀x y,E x y->root up x=root up y){out:bu}(i:out.length=n)(d:∀x,x<n->out.getD x 0=((root up x:Nat):Int)):vC n E out:=
 ⟨i,fun x c=>by have:=(uK h x c).1;rw[d x c];omega,fun x c=>by rw[d x c,Ay];exact(uK h x c).2.2,fun x y e=>by rw[d x (f x y e).1,d y (f x y e).2,g x y e]⟩
def aNo:UpO n E ((List.range n).map fun k:Nat=>(k:Int)):=by
 have d:∀x,x<n->((List.range n).map fun k:Nat=>(k:Int)).getD x 0=(x:Int):=fun x c=>by
  rw[Ad,Az,Br c];rfl
 exact⟨by simp,fun x c=>by rw[d x c];omega,fun x c=>by rw[d x c,Ay];exact .refl x⟩
def tY(n:Nat)(L:bt)(x y:Nat):Prop:=x<n/\∃m∈L,y=(m.getD x 0).toNat
end
noncomputable def aQF:List AO:=[mt 14 0,
om 15 1 (.cw (.t 14)),
om 16 3 (.dk 0 (.t 15)),
om 17 7 (ld 16),
mt 18 1,
mt 19 0,
om 20 32 (.cw (.t 19)),
om 21 96 (.dk 0 (.t 20)),
om 22 224 (ld 21),
mt 23 0,
om 24 512 (.cw (.t 23)),
om 25 1536 (.dk 0 (.t 24)),
om 26 3584 (ld 25),
mt 27 1,
om 28 15872 (.df (.slice 1) (.t 26) (.t 27)),
om 29 32256 (ld 28),
om 30 65504 (.df (.slice 1) (.t 22) (.t 29)),
om 31 131040 (ld 30),
om 32 262143 (.df (.slice 1) (.t 17) (.t 18))]
structure tA(S:St)(ub rb n:Nat)(up:bu):Prop where
 u:S.h.get ub=some (.cells [.sl rb 0 n n false] false 0)
 r:S.h.get rb=some (.cells (bD up) false 0)
 lu:ub<S.nx
 lr:rb<S.nx
 ne:ub≠rb
def tA.same{d:St}(h:tA S ub rb n up)(c:Same S d):tA d ub rb n up:=⟨(c.2 _ h.lu).trans h.u,(c.2 _ h.lr).trans h.r,Ae h.lu c.1,Ae h.lr c.1,h.ne⟩
def tA.put{m:Nat}{up':bu}(h:tA S ub rb n up):tA ⟨S.h.set rb (jf (bD up')),S.nx+m⟩ ub rb n up':=⟨by simp only;rw[ef,if_neg h.ne];exact h.u,jd,Ae h.lu (Bq ..),Ae h.lr (Bq ..),h.ne⟩
def aEf(c:h.get ub=jf [.sl rb 0 n n false]):eK (.ptr ub (0+0)) false 1 h=some (.sl rb 0 n n false):=ldc c rfl
def aUV(S:St)(ub rb n:Nat)(E:Nat->Nat->Prop)(up:bu)(i:Nat)(k:Nat)(A:bO)(X:St):Prop:=A.inr=false/\cD rb S X/\k<n/\root up k=root up i/\aC 0 A.F= .ptr ub 0/\aC 1 A.F=je (k:Int)/\∃c,tA X ub rb n c/\UpO n E c/\∀x,x<n->root c x=root up x
def aAV(H:Has fns)(U:tA S ub rb n up)(G:UpO n E up)(hi:i<n)(hn:n<=1000000):
  iI fns (.fn 77 [] []) [.ptr ub 0,je (i:Int)] S fun r N=>r=je ((root up i:Nat):Int)/\cD rb S N/\∃c,tA N ub rb n c/\UpO n E c/\∀x,x<n->root c x=root up x:=by
 refine cK H.f77 (by simp) ?_;refine ae ?_;refine cA (ae ?_);refine aD (bB (Q:=fun o V X=>o= .normal/\cD rb S X/\aC 1 V.F=je ((root up i:Nat):Int)/\∃c,tA X ub rb n c/\UpO n E c/\∀x,x<n->root c x=root up x) ?_ ?_)
 .refine aO (bX (aUV S ub rb n E up i) ?_ i _ _ ⟨rfl,cD.refl _ _,hi,rfl,af,af,up,U,G,fun _ _=>rfl⟩);rintro k ⟨F,inr⟩ X ⟨O,D,j,y,z,q,c,g,d,f⟩;simp only at O z q;subst O;have W:=d.lt j;have t:=fQ (b:=rb) (o:=false) j;have u:=aE1 g.r (show k<c.length by rw[d.len];exact j);rw[W.2] at u;have P:=aEf g.u;refine gH ?_;simp only[↓sU,sD,rE,↓reduceIte,rA,z,q,bE,bF,aB,aA,P,aJ,t,u];by_cases e:oB c k=k
  .refine aQ (iy e (Aa (show ¬ (k:Int)≠(k:Int) from fun h=>h rfl))) (bT ?_);refine ae ?_;refine⟨D,?_,c,g,d,f⟩;refine de q ?_;have:=f k j;rw[lL d j,if_pos e] at this;rw[<-y,<-this]
  .refine aS im (aK ?_);refine ae ?_
   have Y:oB c k<k:=by omega
   have l:=d.lt (au:oB c k<n);have A:=fQ (b:=rb) (o:=false) (au:oB c k<n);have s:=aE1 g.r (show oB c k<c.length by rw[d.len];omega);have B:=s;rw[l.2] at s;have⟨I,J⟩:=aPl d j;have R:=f;have Z:(c.set k (c.getD (oB c k) 0)).getD k 0=((oB c (oB c k):Nat):Int):=by
    rw[iE (by rw[d.len];exact j),if_pos rfl,l.2]
   refine aO (aD (sI (pre:=aQF) (K:=19) (m:=524287) (n:=1) (x:=.t 32) (v:=.t 31) rfl rfl rfl rfl ?_));unfold aQF;simp only[↓aF,aE,rE,↓reduceIte,rA,z,q,bE,bP,bF,aB,aP,aA,P,aJ,t,u,A,B,mE];simp only[dD,aH];refine⟨_,yI (S:=⟨X.h,X.nx+20⟩) g.r (by rw[d.len];exact j),?_⟩;have w:tA ⟨X.h.set rb (jf (bD (c.set k (c.getD (oB c k) 0)))),X.nx+20⟩ ub rb n (c.set k (c.getD (oB c k) 0)):=g.put;have p:=aE1 w.r (show k<(c.set k (c.getD (oB c k) 0)).length by rw[Aw,d.len];exact j);rw[Z] at p;have C:=aEf w.u;simp only at p C;refine ae ?_
   refine aL ?_;simp only[↓sU,sD,rE,↓reduceIte,rA,z,q,bE,bF,aB,aA,C,aJ,t,p];have M:cD rb S ⟨X.h.set rb (jf (bD (c.set k (c.getD (oB c k) 0)))),X.nx+20⟩:=(D.nx 20).put _;refine⟨oB c (oB c k),ax l.1,rfl,M,ax l.1,?_,ah z,af,_,w,I,fun x T=>by rw[J x T,f x T]⟩;rw[<-f _ (ax l.1),zU d au,zU d j,f k j];exact y
 .rintro o ⟨F,inr⟩ X ⟨rfl,D,q,c,I,J,h3⟩;simp only at q;refine ae ?_
  refine cA (de q ?_);refine aT (ae ?_);exact⟨D,c,I,J,h3⟩
def mnI(a b:Int):Int:=if a<=b then a else b
def aKC(a b:Int):nP false [je a,je b]=some (je (mnI a b)):=by
 show cC (keq .i64 .i64) (lO false [] (je (cC false (cC (ile b a) a b) (cC (ile a b) a b)))) none=_;rw[fO,aN,aU,qO];show some _=_;unfold mnI;by_cases h:a<=b
 .rw[if_pos h,Ac h,aN]
 .rw[if_neg h,Aa h,aU]
def aJW(H:Has fns)(T:tA S ub rb n up)(g:UpO n E up)(hi:i<n)(k:j<n)(U:aAc E i j)(P:n<=1000000):
  iI fns (.fn 76 [] []) [.ptr ub 0,je (i:Int),je (j:Int)] S fun _ Q=>cD rb S Q/\∃d,tA Q ub rb n d/\UpO n E d/\(∀x y,x<n->y<n->root up x=root up y->root d x=root d y)/\root d i=root d j:=by
 refine cK H.f76 (by simp) ?_;refine ae ?_;refine cA (ae ?_);refine bK (ae ?_);refine aW (aAV H T g hi P) ?_;rintro _ S1 ⟨rfl,s1,V,z,q,r⟩
 refine bK (ae ?_);refine aW (aAV H z q k P) ?_;rintro _ W ⟨rfl,s2,f,l,c,A⟩;rw[r j k];have p:∀x,x<n->root f x=root up x:=fun x u=>by rw[A x u,r x u]
 have⟨i1,i2,X⟩:=uK g i hi;have⟨j1,j2,Y⟩:=uK g j k;have B:=(uK c i hi).2.1;have C:=(uK c j k).2.1;rw[p i hi] at B;rw[p j k] at C;have v:aAc E (root up i) (root up j):=.trans (.symm X) (.trans U Y);obtain⟨s,t,D,F,G,Z,rt,I,J,K⟩:∃s t:Nat,s<n/\t<=s/\((s=root up i/\t=root up j)\/(s=root up j/\t=root up i))/\oB f s=s/\oB f t=t/\aAc E s t/\mx ((root up i:Nat):Int) ((root up j:Nat):Int)=((s:Nat):Int)/\mnI ((root up i:Nat):Int) ((root up j:Nat):Int)=((t:Nat):Int):=by
  rcases Nat.le_total (root up i) (root up j) with h|h
  .exact⟨root up j,root up i,au,h,.inr ⟨rfl,rfl⟩,C,B,.symm v,by unfold mx;split<;>omega,by unfold mnI;split<;>omega⟩
  .exact⟨root up i,root up j,au,h,.inl ⟨rfl,rfl⟩,B,C,v,by unfold mx;split<;>omega,by unfold mnI;split<;>omega⟩
 have⟨h1,w⟩:=aPy c D F Z rt I;have hu:=aEf l.u;have M:=fQ (b:=rb) (o:=false) D
 refine aL ?_;simp only[↓sU,sD,rE,↓reduceIte,rA,bE,bF,aB,aA,hu,aAx,jQ,nR,aDo,aKC,J,K,aJ,M];refine fN (fun call=>by refine ew @dL @dD ?_;exact yI (S:=W) l.r (by rw[c.len];exact D)) ?_;refine ae ?_;refine⟨_,rfl,(s1.trans s2).put _,f.set s (t:Int),l.put (m:=0),h1,fun x y u R e=>?_,?_⟩
 .rw[w x u,w y R,p x u,p y R,e]
 .rw[w i hi,w j k,p i hi,p j k];rcases G with⟨N,O⟩|⟨N,O⟩
  .rw[if_pos N.symm,O];split<;>rfl
  .rw[if_pos N.symm,O];split<;>rfl
def aK1(h:aG 1 nK S v L)(hi:i<L.length):∃b q a,eQ (.slice 1) v i=some (.ptr b q)/\bN .i64 S a (L.getD i [])/\∀X,Same S X->eK (.ptr b q) false 1 X.h=some a:=by
 obtain⟨_,b,q,d,e,_,⟨a,rfl,f⟩,_,g⟩:=aG.at h az (vL hi);have c:=g 0 a rfl;rw[Bs] at c;exact⟨b,q,a,d,f,fun X j=>by rw[jH j e];exact c⟩
def aSn{F:Fr}{b:Nat}(c:aC t F= .sl b 0 n n false):gO (.build [.ct] [(0,1,.t t)]) F h=some (.agg [.sl b 0 n n false]):=by
 show(bG (eI _ (dJ F [(0,1,.t t)])) fun cs=>some (AV.agg cs))=_;simp only[dJ,show(cT.t t).val F= .sl b 0 n n false from c,eI];rfl
section
variable {S:St}{ub rb n:Nat}{mv:AV}
def aLj(ub n:Nat)(mv:AV)(F:Fr):Prop:=aC 0 F=je (n:Int)/\aC 1 F=mv/\aC 5 F= .ptr ub 0
def aTI(S:St)(ub rb n:Nat)(mv:AV)(k:Nat)(A:bO)(X:St):Prop:=A.inr=false/\Same S X/\∃ (i:Nat) (l:bu),i+k=n/\l.length=n/\(∀j,j<i->l.getD j 0=(j:Int))/\tA X ub rb n l/\aLj ub n mv A.F/\aC 21 A.F=je (n:Int)/\aC 22 A.F=je (i:Int)
def aRr{p:Fr}{r:bu}(I:n<=1000000)(w:Same S Y)(B:S.nx<=rb)(f:tA Y ub rb n r)(g:r.length=n)(x:aLj ub n mv p)(d:aC 21 p=je (n:Int))(c:aC 22 p=je ((0:Nat):Int)):
  jP fns qk3 ⟨p,false⟩ Y fun o C X=>o= .normal/\aTI S ub rb n mv 0 C X:=by
 refine aO (bX (aTI S ub rb n mv) ?_ n _ _ ⟨rfl,w,0,r,au,g,fun j D=>au,f,x,d,c⟩);clear x d c f g w;rintro k ⟨F,inr⟩ X ⟨y,z,i,l,s,g,A,f,⟨t,u,q⟩,d,c⟩;simp only at y t u q d c;subst y;refine cA (ew d c ?_);by_cases h:i<n;rotate_left
 .refine aD (aQ im (bT ?_));refine ae ?_;obtain rfl:k=0:=by omega
  exact⟨rfl,z,i,l,s,g,A,f,(by refine⟨?_,?_,?_⟩<;>simp only[↓sU,sD,rE,↓reduceIte,rA,t,u,q]),by refine⟨?_,?_⟩<;>simp only[↓sU,sD,rE,↓reduceIte,rA,d,c]⟩
 refine aD (aS im (aK ?_));refine ae ?_
 have G:=ed i
 have v:=fQ (b:=rb) (o:=false) h;have H:=aEf f.u;refine aD (aO (aD (aL ?_)));refine de c ?_;refine aL (fj q @bE @bF @aB @aA H @aJ v ?_);refine fN (fun call=>by refine ew @dL @dD ?_;exact yI (S:=X) f.r (by rw[g];exact h)) ?_;refine ae ?_;refine aL (ew c G ?_);refine⟨k - 1,au,rfl,z.put B _,i+1,l.set i (i:Int),au,by rw[Aw];exact g,fun j D=>?_,f.put (m:=0),(by refine⟨?_,?_,?_⟩<;>simp only[↓sU,sD,rE,↓reduceIte,rA,t,u,q]),by refine⟨?_,?_⟩<;>simp only[↓sU,sD,rE,↓reduceIte,rA,d]⟩;rw[iE au];split
 .rename_i e;rw[e]
 .exact A j au
def aSE(S:St)(ub rb n j ml:Nat)(mv mrow:AV)(m:bu)(E:Nat->Nat->Prop)(up0:bu)(k:Nat)(A:bO)(X:St):Prop:=A.inr=false/\Same S X/\∃ (i:Nat) (up:bu),i+k=n/\tA X ub rb n up/\UpO n E up/\(∀x y,x<n->y<n->root up0 x=root up0 y->root up x=root up y)/\(∀x,x<i->root up x=root up (m.getD x 0).toNat)/\aLj ub n mv A.F/\aC 33 A.F=mv/\aC 34 A.F=je (ml:Int)/\aC 35 A.F=je (j:Int)/\aC 39 A.F=mrow/\aC 40 A.F=je (n:Int)/\aC 41 A.F=je (i:Int)
def aRM{q:Fr}{m:bu}{mrow:AV}{ml:Nat}(H:Has fns)(hn:n<=1000000)(P:Same S Y)(hs:S.nx<=rb)(v:tA Y ub rb n up0)(p:UpO n E up0)(Q:bN .i64 S mrow m)(aa:m.length=n)(w:∀x,x<n->0<=m.getD x 0/\m.getD x 0<n)(hE:∀x,x<n->E x (m.getD x 0).toNat)
  (R:aLj ub n mv q) (g:aC 33 q=mv) (h:aC 34 q=je (ml:Int)) (l:aC 35 q=je (j:Int)) (d:aC 39 q=mrow) (f:aC 40 q=je (n:Int)) (c:aC 41 q=je ((0:Nat):Int)):
  jP fns qk0 ⟨q,false⟩ Y fun o A' X=>o= .normal/\aSE S ub rb n j ml mv mrow m E up0 0 A' X:=by
 refine aO (bX (aSE S ub rb n j ml mv mrow m E up0) ?_ n _ _ ⟨rfl,P,0,up0,au,v,p,fun _ _ _ _ e=>e,fun x B=>au,R,g,h,l,d,f,c⟩);rintro k ⟨F,inr⟩ X ⟨T,C,i,up,G,v,p,U,V,⟨I,J,D⟩,g,h,l,d,f,c⟩;simp only at T I J D g h l d f c;subst T;refine cA (ew f c ?_);by_cases s:i<n;rotate_left
 .refine aD (aQ im (bT ?_));refine ae ?_;obtain rfl:k=0:=by omega
  exact⟨rfl,C,i,up,G,v,p,U,V,(by refine⟨?_,?_,?_⟩<;>simp only[↓sU,sD,rE,↓reduceIte,rA,I,J,D]),by refine⟨?_,?_,?_,?_,?_,?_⟩<;>simp only[↓sU,sD,rE,↓reduceIte,rA,g,h,l,d,f,c]⟩
 refine aD (aS im (aK ?_));refine ae ?_
 have w1:=ed i
 have ia:=(Q.same C).df (au:i<m.length);have W:=(Q.same C).ld (au:i<m.length);have⟨m1,m2⟩:=w i s;have u:=hE i s;have K:(∀x,x<i->root up x=root up (m.getD x 0).toNat):=V;obtain⟨t,Z⟩:∃t:Nat,m.getD i 0=(t:Int):=⟨(m.getD i 0).toNat,au⟩;rw[Z] at W u m2;rw[Ay] at u;refine aD (aO (aD (aL ?_)));refine ff d c @aJ ia W ?_;refine aL (de D ?_);refine bK (ae (aW (aJW H v p s (au:t<n) (.edge u) hn) ?_));rintro r X1 ⟨s1,M,N,z,A,O⟩
 refine aL (ew c w1 ?_);refine⟨k - 1,au,rfl,cD.same C s1 hs,i+1,M,au,N,z,fun x y B hy e=>A x y B hy (U x y B hy e),fun x B=>?_,(by refine⟨?_,?_,?_⟩<;>simp only[↓sU,sD,rE,↓reduceIte,rA,I,J,D]),by refine⟨?_,?_,?_,?_,?_,?_⟩<;>simp only[↓sU,sD,rE,↓reduceIte,rA,g,h,l,d,f]⟩;by_cases e:x=i
 .subst e;rw[Z,Ay];exact O
 .have:=w x au;exact A x _ au au  (K x au)
def aS1(S:St)(ub rb n ml:Nat)(mv:AV)(L:bt)(k:Nat)(A:bO)(X:St):Prop:=A.inr=false/\Same S X/\∃ (j:Nat) (up:bu),j+k=ml/\tA X ub rb n up/\UpO n (tY n L) up/\(∀x q,x<n->q<j->root up x=root up ((L.getD q []).getD x 0).toNat)/\aLj ub n mv A.F/\aC 33 A.F=mv/\aC 34 A.F=je (ml:Int)/\aC 35 A.F=je (j:Int)
def aQ8{v:Fr}(H:Has fns)(V:n<=1000000)(P:Same S Y)(W:S.nx<=rb)(w:tA Y ub rb n up0)(g:UpO n (tY n L) up0)(Z:aG 1 nK S mv L)(hL:L.length<=1000000)(y:∀m∈L,m.length=n/\∀x,x<n->0<=m.getD x 0/\m.getD x 0<n)
  (Q:aLj ub n mv v) (d:aC 33 v=mv) (f:aC 34 v=je (L.length:Int)) (c:aC 35 v=je ((0:Nat):Int)):
  jP fns qk7 ⟨v,false⟩ Y fun o A' X=>o= .normal/\aS1 S ub rb n L.length mv L 0 A' X:=by
 refine aO (bX (aS1 S ub rb n L.length mv L) ?_ L.length _ _ ⟨rfl,P,0,up0,au,w,g,fun x q p hq=>au,Q,d,f,c⟩);rintro k ⟨F,inr⟩ X ⟨z,C,j,up,D,w,g,R,⟨r,s,t⟩,d,f,c⟩;simp only at z r s t d f c;subst z;refine cA (ew f c ?_);by_cases u:j<L.length;rotate_left
 .refine aD (aQ im (bT ?_));refine ae ?_;obtain rfl:k=0:=by omega
  exact⟨rfl,C,j,up,D,w,g,R,(by refine⟨?_,?_,?_⟩<;>simp only[↓sU,sD,rE,↓reduceIte,rA,r,s,t]),by refine⟨?_,?_,?_⟩<;>simp only[↓sU,sD,rE,↓reduceIte,rA,d,f,c]⟩
 refine aD (aS im (aK ?_));refine ae ?_
 have w1:=ed j
 have⟨xb,xq,a,xi,T,G⟩:=aK1 Z u;have G:=G X C;have h:L.getD j []∈L:=by rw[Ad,Ab u];exact Bt u
 have⟨U,l2⟩:=y _ h;have l:=(T.same C).len;rw[U] at l;refine aD (aO (aD (aL ?_)));refine ff d c @aJ xi G ?_;refine cA (ew l @Ah ?_);refine bB (aRM (S:=S) (ub:=ub) (rb:=rb) (n:=n) (mv:=mv) (mrow:=a) (m:=L.getD j []) (j:=j) (ml:=L.length) (E:=tY n L) (up0:=up) H V C W w g T U l2 (fun x p=>⟨p,_,h,rfl⟩) (by refine⟨?_,?_,?_⟩<;>simp only[↓sU,sD,rE,↓reduceIte,rA,r,s,t]) (ah d) (ah f) (ah c) (af) (af) (ag)) ?_;rintro o ⟨F,inr⟩ X1 ⟨rfl,z,I,i,J,aa,K,A,M,N,⟨r,s,t⟩,d,f,c,_,_,_⟩;simp only at z r s t d f c;subst z;obtain rfl:i=n:=by omega
 refine ae ?_
 refine aL (ew c w1 ?_);refine⟨k - 1,au,rfl,I,j+1,J,au,K,A,fun x q p hq=>?_,(by refine⟨?_,?_,?_⟩<;>simp only[↓sU,sD,rE,↓reduceIte,rA,r,s,t]),by refine⟨?_,?_,?_⟩<;>simp only[↓sU,sD,rE,↓reduceIte,rA,d,f]⟩;by_cases e:q=j
 .subst e;exact N x p
 .have B:q<L.length:=by omega
  have O:L.getD q []∈L:=by rw[Ad,Ab B];exact Bt B
  have:=(y _ O).2 x p;exact M x _ p au (R x q p au)
def aS3(S:St)(ub rb ob n:Nat)(E:Nat->Nat->Prop)(up0:bu)(k:Nat)(A:bO)(X:St):Prop:=A.inr=false/\Same S X/\ob<X.nx/\∃ (i:Nat) (l up:bu),i+k=n/\l.length=n/\(∀j,j<i->l.getD j 0=((root up0 j:Nat):Int))/\X.h.get ob=jf (bD l)/\tA X ub rb n up/\UpO n E up/\(∀x,x<n->root up x=root up0 x)/\aC 5 A.F= .ptr ub 0/\aC 11 A.F= .sl ob 0 n n false/\aC 55 A.F=je (n:Int)/\aC 56 A.F=je (i:Int)
def aRm{r:Fr}{w:bu}{ob:Nat}(H:Has fns)(U:n<=1000000)(N:Same S Y)(V:S.nx<=rb)(y:S.nx<=ob)(s:ob≠rb)(z:ob≠ub)(t:tA Y ub rb n up0)(g:UpO n E up0)(u:Y.h.get ob=jf (bD w))(h:ob<Y.nx)(A:w.length=n)
  (q:aC 5 r= .ptr ub 0) (d:aC 11 r= .sl ob 0 n n false) (f:aC 55 r=je (n:Int)) (c:aC 56 r=je ((0:Nat):Int)):
  jP fns qk1 ⟨r,false⟩ Y fun o W X=>o= .normal/\aS3 S ub rb ob n E up0 0 W X:=by
 refine aO (bX (aS3 S ub rb ob n E up0) ?_ n _ _ ⟨rfl,N,h,0,w,up0,au,A,fun j Z=>au,u,t,g,fun _ _=>rfl,q,d,f,c⟩);clear q d f c t u h N;have O:=g;clear g;rintro k ⟨F,inr⟩ X ⟨P,Q,h,i,l,up,B,C,R,u,t,g,D,q,d,f,c⟩;simp only at P q d f c;subst P;refine cA (ew f c ?_);by_cases p:i<n;rotate_left
 .refine aD (aQ im (bT ?_));refine ae ?_;obtain rfl:k=0:=by omega
  exact⟨rfl,Q,h,i,l,up,B,C,R,u,t,g,D,by refine⟨?_,?_,?_,?_⟩<;>simp only[↓sU,sD,rE,↓reduceIte,rA,q,d,f,c]⟩
 refine aD (aS im (aK ?_));refine ae ?_
 have w1:=ed i
 have G:=fQ (b:=ob) (o:=false) p;refine aD (aO (aD (aL ?_)));refine de c ?_;refine aL (ew q d ?_);refine bK (ae ?_);refine aW (aAV H t g p U) ?_;rintro _ X1 ⟨rfl,s1,I,m,v,J⟩;rw[D i p];have K:=(s1.2 _ h s).trans u;have M:=cD.same Q s1 V;refine ew @aJ G ?_;refine fN (fun call=>by refine ew @dL @dD ?_;exact yI (S:=X1) K (by rw[C];exact p)) ?_;refine ae ?_;refine aL (ew c w1 ?_);refine⟨k - 1,au,rfl,M.put y _,Ae h s1.1,i+1,l.set i ((root up0 i:Nat):Int),I,au,by rw[Aw];exact C,fun j Z=>?_,jd,⟨by simp only;rw[ef,if_neg (Cg z)];exact m.u,by simp only;rw[ef,if_neg (Cg s)];exact m.r,m.lu,m.lr,m.ne⟩,v,fun x T=>by rw[J x T,D x T],by refine⟨?_,?_,?_,?_⟩<;>simp only[↓sU,sD,rE,↓reduceIte,rA,q,d,f]⟩;rw[iE au];split
 .rename_i e;rw[e]
 .exact R j au
end
def aDd(H:Has fns)(G:n<=1000000)(U:aG 1 nK S mv L)(hL:L.length<=1000000)(w:∀m∈L,m.length=n/\∀x,x<n->0<=m.getD x 0/\m.getD x 0<n):
  iI fns (.fn 66 [] []) [je (n:Int),mv] S fun r V=>Same S V/\∃out,tC S V r out/\vC n (tY n L) out:=by
 refine cK H.f66 (by simp) ?_;refine ae ?_;refine cA (ae ?_);refine cA (am ?_);refine fW (pU (n:=n) (iz @aJ) (iz @aJ) ay ay) ?_;intro S1 s1 n1 I;rw[wH] at I;have J:=fun(F:Fr) (h:Ev.T AB) (a:aC 14 F= .sl S.nx 0 n n false)=>aSn (t:=14) (F:=F) (h:=h) a;refine fl J ?_;refine cR (cs:=[.sl S.nx 0 n n false]) (by refine am ?_;exact aY _) ?_;intro S2 s2 n2 K;refine ae ?_;have M:=s1.trans s2;have c:tA S2 S1.nx S.nx n (List.replicate n 0):=⟨K,(s2.2 _ au).trans I,au,au,au⟩;have z:=aEf K;have e0:kR (.sl S.nx 0 n n false)=some (je (n:Int)):=rfl;refine gH (fg @bE @bF @aB @aA z e0 ?_);refine bB (aRr (S:=S) (n:=n) (ub:=S1.nx) (rb:=S.nx) (mv:=mv) G M (Af _) c (Aq ..) (by refine⟨?_,?_,?_⟩<;>simp only[↓sU,sD,rE,↓reduceIte,rA]) (af) (ag)) ?_;clear c z K I;rintro o ⟨F,inr⟩ X ⟨rfl,d,W,i,l,aa,hl,hf,hU,⟨p,s,u⟩,_,_⟩;simp only at d p s u;subst d;obtain rfl:i=n:=by omega
 have el:l=(List.range i).map fun k:Nat=>(k:Int):=pT (by simp [hl]) fun j hj=>by
  rw[hf j au,Ad,Az,Br au];rfl
 have N:UpO i (tY i L) l:=by rw[el];exact aNo
 refine ae ?_
 refine gH ?_;refine ez s ((aG.same (E:=nK) fM U W).len) @Ah ?_;refine bB (aQ8 (S:=S) (n:=i) (ub:=S1.nx) (rb:=S.nx) (mv:=mv) (L:=L) H G W (Af _) hU N U hL w (by refine⟨?_,?_,?_⟩<;>simp only[↓sU,sD,rE,↓reduceIte,rA,p,s,u]) (af) (af) (ag)) ?_;clear p s u;rintro o ⟨F,inr⟩ O ⟨rfl,d,A,j,up,ab,c,f,hd,⟨p,s,u⟩,_,_,_⟩;simp only at d p s u;subst d;obtain rfl:j=L.length:=by omega
 refine ae ?_
 refine cA (fl p ?_);refine fW (pU (n:=i) (iz @aJ) (iz @aJ) ay ay) ?_;intro X3 Y m3 Z;rw[wH] at Z;refine am ?_;have e3:kR (.sl O.nx 0 i i false)=some (je (i:Int)):=rfl;have ac:=c.lu;have an:=c.lr;have B:=A.1;refine gH (de e3 ?_);refine bB (aRm (S:=S) (n:=i) (ub:=S1.nx) (rb:=S.nx) (ob:=O.nx) (E:=tY i L) (up0:=up) H G (A.trans Y) (Af _) B au au  (c.same Y) f Z au (Aq ..) (ah u) (af) (af) (ag)) ?_;clear p s u;rintro o ⟨F,inr⟩ X4 ⟨rfl,d,P,Q,i',out,ao,aw,g,R,T,_,_,_,_,C,_,_⟩;simp only at d C;subst d;obtain rfl:i'=i:=by omega
 refine ae ?_
 refine cA (de C ?_);refine aT (ae ?_);refine⟨P,out,⟨O.nx,by rw[g],B,Q,T⟩,?_⟩;have hE:∀x y,tY i' L x y->x<i'/\y<i':=fun x y ⟨D,m,v,e⟩=>by
  have:=(w m v).2 x D;omega
 refine aRL f hE (fun x y ⟨D,m,v,e⟩=>?_) g fun x D=>R x D;obtain⟨q,hq,rfl⟩:=Dv.1 v;have:=hd x q D hq;rw[Ad (l:=L),Ab hq] at this;rw[e];exact this
noncomputable def oI(g:aX):bt->Int
 | []=>0
 | m::L=>if lE g.cg.length m (jD g m)≠0 then lE g.cg.length m (jD g m) else oI g L
def aN6(g:aX)(S:St)(cs:cd)(m:bu):Prop:=∃x y,cs= [x,y]/\bN .i64 S x (dx g m)/\aG 1 nK S y (dy g m)
def xC.low{m:bu}{S1:St}(h:xC g m S1 X x y)(c:S.nx<=S1.nx):xC g m S X x y:=by
 have⟨⟨b,d,e,f,i⟩,j,k,cs,l,o,p,q,r⟩:=h;exact⟨⟨b,d,Av c e,f,i⟩,j,k,cs,l,Av c o,p,q,r.low c⟩
def xC.moveF{m:bu}(h:xC g m S X x y)(d:X.nx<=X'.nx)(e:∀c cs,c<X.nx->X.h.get c=jf cs->X'.h.get c=X.h.get c):xC g m S X' x y:=by
 have⟨⟨b,q,r,f,i⟩,k,s,cs,t,u,l,o,p⟩:=h;refine⟨⟨b,q,r,Ae f d,(e b _ f i).trans i⟩,k,s,cs,t,u,Ae l d,(e k _ l o).trans o,p.move d fun j v=>?_⟩;have⟨a,b,c⟩:=p.bl j v;exact e _ _ b c
def xC.sl{m:bu}(h:xC g m S X x y):aN6 g X [x,y] m:=by
 obtain⟨c,i,j,cs,rfl,k,d,e,f⟩:=h;exact⟨x,_,rfl,c.is,f.is e d (Af _)⟩
def xC.cel{m:bu}(h:xC g m S X x y):x.cells=some [x]/\y.cells=some [y]:=by
 obtain⟨⟨b,rfl,_⟩,c,d,cs,rfl,_⟩:=h;exact⟨rfl,rfl⟩
def aUj{o:Bool}{sz:Nat}(h:S.h.get t=some (.cells [x,y] o sz)):eU (.sl t 0 1 1 false) S.h 2 1=some [x,y]:=by
 show bG (cI S.h t) (fun cs=>cut cs 0 (1 * 2))=_;unfold cI;rw[h];rfl
structure aFt(g:aX)(S X:St)(v:AV)(cs:cd)(L:bt)(j:Nat):Prop where
 gr:fP 2 S X v j cs
 el:∀q,q<j->∃x y,cs[q * 2]? =some x/\cs[q * 2+1]? =some y/\xC g (L.getD q []) S X x y
def aFt.is(h:aFt g S X v cs L L.length):aG 2 (aN6 g) X v L:=by
 rcases h.gr with⟨rfl,f,_⟩|⟨b,rfl,o,j,k,p⟩
 .exact .inl ⟨Bo.1 f,.inl rfl⟩
 .refine .inr ⟨b,0,L.length,true,cs,rfl,Af _,j,by unfold cI;rw[k];rfl,fun i a hi=>?_⟩;obtain⟨d,rfl⟩:=Ai.1 hi;have⟨x,y,l,m,e⟩:=h.el i d;rw[Ad,Ab d] at e;refine⟨[x,y],rfl,fun q w c=>?_,e.sl⟩;rw[Am]
  match q,c with
  | 0,c=>cases c;exact l
  | 1,c=>cases c;exact m
  | q+2,c=>simp at c
def aFt.move(h:aFt g S X v cs L j)(d:Same X X'):aFt g S X' v cs L j:=⟨h.gr.step d,fun q e=>by
 have⟨x,y,f,i,k⟩:=h.el q e;exact⟨x,y,f,i,k.moveF d.1 fun c _ l _=>d.2 c l⟩⟩
def aFt.push{g:aX}{S X:St}{v x y:AV}{cs:cd}{L:bt}{j t:Nat}(h:aFt g S X v cs L j)(p:Same S X)(r:xC g (L.getD j []) S X x y)(s:X.h.get t=jf [x,y])(I:j+1<=1000):
  ∃v' X',gG 48 2 v (.sl t 0 1 1 false) X=some (v',X')/\Same S X'/\X.nx<=X'.nx/\(∀c,c<X.nx->aM v≠some c->X'.h.get c=X.h.get c)/\aFt g S X' v' (cs++ [x,y]) L (j+1):=by
 have⟨v',X',u,w,z,i,k⟩:=h.gr.app (bytes:=48) (m:=1) p rfl (aUj s) rfl Nat.one_pos ay ay;have d:∀c cs',c<X.nx->X.h.get c=jf cs'->X'.h.get c=X.h.get c:=fun c cs' A B=>k c A (h.gr.off B);refine⟨v',X',u,z,i,k,w,fun q J=>?_⟩;have f:=h.gr.csl;by_cases e:q=j
 .subst e;refine⟨x,y,?_,?_,r.moveF i d⟩
  .rw[Ap au,f,Dt];rfl
  .rw[Ap au,f,show q * 2+1 - q * 2=1 by omega];rfl
 .have⟨C,D,l,o,F⟩:=h.el q au;have G:=(Ai.1 l).1;have H:=(Ai.1 o).1;exact⟨C,D,by rw[Ao G];exact l,by rw[Ao H];exact o,F.moveF i d⟩
def aJv(c:j<L.length)(h:lE g.cg.length (L.getD j []) (jD g (L.getD j []))=0):oI g (L.drop j)=oI g (L.drop (j+1)):=by
 rw[Bz c];have e:L.getD j []=L[j]:=by rw[Ad,Ab c];rfl
 rw[e] at h;show(if _≠_ then _ else _)=_;rw[if_neg (fun e=>e h)]
def aJO(c:j<L.length)(h:lE g.cg.length (L.getD j []) (jD g (L.getD j []))≠0):oI g (L.drop j)=lE g.cg.length (L.getD j []) (jD g (L.getD j [])):=by
 rw[Bz c];have e:L.getD j []=L[j]:=by rw[Ad,Ab c];rfl
 rw[e] at h ⊢;show(if _≠_ then _ else _)=_;rw[if_pos h]
def aSV(S:St)(c:Nat)(mv:AV)(g:aX)(L:bt)(k:Nat)(A:bO)(X:St):Prop:=A.inr=false/\Same S X/\∃ (j:Nat) (v:AV) (cs:cd),j+k=L.length/\oI g L=oI g (L.drop j)/\aFt g S X v cs L j/\aC 0 A.F= .ptr c 0/\aC 6 A.F=v/\aC 14 A.F=mv/\aC 15 A.F=je (L.length:Int)/\aC 16 A.F=je (j:Int)
def aGl{V aa ab:Nat}{pv:AV}{T:List cS}{Z:bu}(H:Has fns)(hf:dC g=0)(hn:aG 6 cF S nv g.cg)(hi:aG 2 cE S iv g.ch)(hm:aG 1 nK S mv L)(hT:gP g=some T)(ac:T.length=g.cg.length)(an:bN .i64 S pv (T.map (·.1)))(hB:kJ S V aa ab pv nv iv g (mO g) Z):
  iI fns (.fn 65 [] []) [.ptr V 0,mv] S fun r S'=>Same S S'/\∃v,r= .tup [v,je (if 16<L.length then 4 else oI g L)]/\((if 16<L.length then 4 else oI g L)≠0->v= .ct)/\((if 16<L.length then 4 else oI g L)=0->aG 2 (aN6 g) S' v L):=by
 have G:=iN hf;have a1:=G.n2;refine cK H.f65 (by simp) ?_;refine ae ?_;refine cA (ae ?_);refine gH (ew hm.len @Ah ?_);by_cases C:16<L.length
 .rw[if_pos C];refine aS im ?_;refine cA (ae ?_);refine aT (ae ?_);exact⟨eu _,.ct,rfl,fun _=>rfl,fun h=>au⟩
 rw[if_neg C];refine aQ im (aK ?_);refine ae ?_
 refine cA (ae ?_);refine aD (bB (Q:=fun o A' X=>(o= .normal/\aSV S V mv g L 0 A' X)\/(o= .ret/\Same S X/\oI g L≠0/\aC 4 A'.F= .ct/\aC 5 A'.F=je (oI g L))) (aD (aL ?_)) ?_)
 .refine ew hm.len @Ah ?_;refine aO (bX (aSV S V mv g L) ?_ L.length _ _ ⟨rfl,eu _,0,.ct,[],au,rfl,⟨.inl ⟨rfl,rfl,rfl⟩,fun q hq=>au⟩,af,af,af,af,ag⟩);rintro k ⟨F,inr⟩ X ⟨D,d,j,v,cs,I,u,W,J,B,f,i,e⟩;simp only at D J B f i e;subst D;refine cA (ew i e ?_);by_cases A:j<L.length;rotate_left
  .refine aD (aQ im (bT ?_));refine ae ?_;obtain rfl:k=0:=by omega
   exact .inl ⟨rfl,d,j,v,cs,I,u,W,by refine⟨?_,?_,?_,?_,?_⟩<;>simp only[↓sU,sD,rE,↓reduceIte,rA,J,B,f,i,e]⟩
  refine aD (aS im (aK ?_));refine ae ?_
  have w1:=ed j
  have⟨xb,xq,a,xi,xs,xl⟩:=aK1 hm A;have xl:=xl X d;have w:=aJv (g:=g) A;have z:=aJO (g:=g) A;have ao:=@aFt.push g S;obtain⟨m,K⟩:∃m,L.getD j []=m:=⟨_,rfl⟩;rw[K] at xs w z;have M:=hB.same d;refine aD (aO (aD (aL ?_)));refine ff f e @aJ xi xl ?_;refine cA (fl J ?_);refine bK (am ?_);refine aW (aAt (P:=xC g m) (ok:=jD g m) H (aEv (g:=g) (m:=m)) M.w (aG.same (E:=cF) bQ hn d) (xs.same d) au (fun h1 h2 _ S' l=>aDL H (aG.same (E:=cF) bQ hn (d.trans l)) (aG.same (E:=cE) cB hi (d.trans l)) (xs.same (d.trans l)) G ⟨h1,h2⟩ hT ac (an.same (d.trans l)) (M.same l))) ?_;rintro _ X1 ⟨x1,x,y,rfl,hp,N⟩;refine fo @xP @xN ?_;refine bS ?_;intro X2 x2 m2 c2
  have a0:x.cells=some [x]/\y.cells=some [y]:=by
   by_cases p:lE g.cg.length m (jD g m)=0
   .have⟨S0,_,h⟩:=hp p;exact h.cel
   .obtain⟨rfl,rfl⟩:=N p;exact⟨rfl,rfl⟩
  refine cQ (b:=X1.nx) (aq) (by refine am ?_;exact aY _) c2 rfl rfl ?_;intro X3 x3 m3 c3;refine am ?_
  have s:Same X1 X3:=x3.same x2 (Af _);have O:=(d.trans x1).trans s;clear x2 x3 c2
  refine gH (ae ?_);by_cases p:lE g.cg.length m (jD g m)=0;rotate_left
  .refine aS (iu (Ac (show lE g.cg.length m (jD g m)≠0 from p))) ?_;refine cA (ae ?_);refine aT ?_;rw[z p] at u;refine .inr ⟨rfl,O,by rw[u];exact p,by refine⟨?_,?_⟩<;>simp only[↓sU,sD,rE,↓reduceIte,rA,u]⟩
  refine aQ (iu (Aa (show ¬lE g.cg.length m (jD g m)≠0 from fun h=>h p))) (aK ?_);refine ae ?_
  have⟨S0,aw,aI⟩:=hp p;have R:xC g (L.getD j []) S X3 x y:=by
   rw[K];exact(aI.moveF s.1 fun c _ hc _=>s.2 c hc).low (Av d.1 aw)
  refine aL (fo B (aCZ c3) ?_);refine fW (aJY (a:=x) (b:=y) (aq)) ?_;intro X4 Y m4 c4;have aV:=O.trans Y;have⟨v',X5,eA,e2,e3,e4,e5⟩:=(W.move ((x1.trans s).trans Y)).push (t:=X3.nx) aV (R.moveF Y.1 fun c _ hc _=>Y.2 c hc) c4 au
  refine fN (fun call=>by refine fl @fK ?_;exact eA) ?_;refine ae ?_;refine aL (ew e w1 ?_);exact⟨k - 1,au,rfl,e2,j+1,v',_,au,by rw[u];exact w p,e5,by refine⟨?_,?_,?_,?_,?_⟩<;>simp only[↓sU,sD,rE,↓reduceIte,rA,J,f,i]⟩
 rintro o ⟨F,inr⟩ X (⟨rfl,D,d,j,v,cs,I,u,W,J,B,f,i,e⟩|⟨rfl,d,aZ,p4,p5⟩)
 .simp only at D B;subst D;obtain rfl:j=L.length:=by omega
  rw[List.drop_length] at u;have U:oI g L=0:=u;refine ae ?_
  refine cA (de B ?_);refine aT (ae ?_);exact⟨d,v,by rw[U],fun h=>absurd U h,fun _=>W.is⟩
 .simp only at p4 p5;refine ew p4 p5 ?_;exact⟨d,.ct,rfl,fun _=>rfl,fun h=>absurd h aZ⟩
noncomputable def pM(g:aX)(L:bt):Int:=if dC g≠0 then dC g else if 16<L.length then 4 else oI g L
def uY(h:pM g L=0):dC g=0/\L.length<=16/\oI g L=0:=by
 unfold pM at h;split at h
 .rename_i c;exact absurd h c
 rename_i c;split at h
 .cases h
 .exact⟨Dx.1 c,au,h⟩
theorem pR{g:aX}:∀ {L:bt},oI g L=0->∀m∈L,lE g.cg.length m (jD g m)=0
 | [],_,m,c=>by cases c
 | x::L,h,m,c=>by
  have h:(if lE g.cg.length x (jD g x)≠0 then lE g.cg.length x (jD g x) else oI g L)=0:=h;split at h
  .rename_i d;exact absurd h d
  .rename_i d;rcases Bp.1 c with rfl|c
   .exact Dx.1 d
   .exact pR h m c
def nS{m:bu}(h:lE g.cg.length m (jD g m)=0):gT g m:=by
 unfold lE at h;split at h
 .cases h
 rename_i c;split at h
 .cases h
 rename_i d;split at h
 .cases h
 rename_i e;split at h
 .rename_i f;exact⟨⟨Dx.1 c,Classical.not_not.1 d⟩,e,f⟩
 .cases h
def aUl(g:aX)(L:bt)(a b:bu):Prop:=vC g.cg.length (tY g.cg.length L) a/\vC g.ch.length (tY g.ch.length (L.map (dx g))) b
structure aJa(X1 X:St)(v:AV)(cs:cd)(A:bt)(j:Nat):Prop where
 gr:fP 1 X1 X v j cs
 el:∀q,q<j->∃r,cs[q]? =some r/\bN .i64 X1 r (A.getD q [])
def aJa.is(h:aJa X1 X v cs A A.length)(f:Same X1 X):aG 1 nK X v A:=by
 rcases h.gr with⟨rfl,g,_⟩|⟨b,rfl,m,j,k,o⟩
 .exact .inl ⟨Bo.1 g,.inl rfl⟩
 .refine .inr ⟨b,0,A.length,true,cs,rfl,Af _,j,by unfold cI;rw[k];rfl,fun i a hi=>?_⟩;obtain⟨c,rfl⟩:=Ai.1 hi;have⟨r,l,e⟩:=h.el i c;rw[Ad,Ab c] at e;refine⟨[r],rfl,fun q w d=>?_,r,rfl,e.same f⟩;rw[Am,Dm]
  match q,d with
  | 0,d=>cases d;exact l
  | q+1,d=>simp at d
def aJa.push{r:AV}(h:aJa X1 X v cs A j)(f:Same X1 X)(g:bN .i64 X1 r (A.getD j []))(i:X.h.get t=jf [r])(u:j+1<=1000):
  ∃v' X',gG 24 1 v (.sl t 0 1 1 false) X=some (v',X')/\Same X1 X'/\aJa X1 X' v' (cs++ [r]) A (j+1):=by
 have⟨v',X',k,l,o,w,x⟩:=h.gr.app (bytes:=24) (m:=1) f rfl (aPE i) rfl Nat.one_pos ay ay;refine⟨v',X',k,o,l,fun q y=>?_⟩;have c:=h.gr.csl;by_cases e:q=j
 .subst e;exact⟨r,by rw[Ap au,c,Dm,Dt];rfl,g⟩
 .have⟨p,d,s⟩:=h.el q au;exact⟨p,by rw[Ao (Ai.1 d).1];exact d,s⟩
def aIk{f:bu->bu}(c:j<L.length):(L.map f).getD j []=f (L.getD j []):=by
 rw[Ad,Az,Ab c,Ad,Ab c];rfl
def aML(i:dC g=0)(f:∀m∈L,gT g m):(∀m∈L,m.length=g.cg.length/\∀x,x<g.cg.length->0<=m.getD x 0/\m.getD x 0<g.cg.length)/\∀m∈L.map (dx g),m.length=g.ch.length/\∀x,x<g.ch.length->0<=m.getD x 0/\m.getD x 0<g.ch.length:=by
 have G:=iN i;refine⟨fun m c=>⟨(f m c).M.len,fun x d=>?_⟩,fun m c=>?_⟩
 .have:=(f m c).M.at d;omega
 .obtain⟨q,j,rfl⟩:=Cq.1 c;refine⟨by simp [dx],fun x d=>?_⟩;have A:=f q j;have⟨h,k,l⟩:=G.fst x d;have e:(dx g q).getD x 0=(cu g (gE q (eG g x))).info:=by
   unfold dx;rw[Ad,Az,Br d];rfl
  rw[e];have:=G.inf _ (A.M.at h).2 (by rw[<- (A.A.like _ h).1];exact k);exact⟨this.1,this.2.1⟩
def aSt(X1:St)(gb:Nat)(mv c:AV)(d:bt)(k:Nat)(A:bO)(X:St):Prop:=A.inr=false/\Same X1 X/\∃ (j:Nat) (v:AV) (cs:cd),j+k=d.length/\aJa X1 X v cs d j/\aC 1 A.F=mv/\aC 2 A.F= .ptr gb 0/\aC 10 A.F=v/\aC 30 A.F=c/\aC 31 A.F=je (d.length:Int)/\aC 32 A.F=je (j:Int)
def aGy(H:Has fns)(hn:aG 6 cF S nv g.cg)(hi:aG 2 cE S iv g.ch)(an:g.cg.length<=100000)(hm:aG 1 nK S mv L):
  iI fns (.fn 48 [] []) [.agg [je g.cm,nv,iv],mv] S fun r S'=>Same S S'/\∃x y,r= .tup [x,y,je (pM g L)]/\(pM g L≠0->x= .ct/\y= .ct)/\(pM g L=0->∃a b,tC S S' x a/\tC S S' y b/\aUl g L a b):=by
 refine cK H.f48 (by simp) ?_;refine ae ?_;refine cA ?_;refine cR (by refine ae ?_;exact aY _) ?_;intro S1 s1 n1 g1;refine ae ?_;refine cA (de (gK g1) ?_);refine bK (ae ?_);refine aW (aCz H (aG.same (E:=cF) bQ hn s1) (aG.same (E:=cE) cB hi s1) an) ?_;rintro _ S2 ⟨s2,p,rfl,D⟩;refine ew @xP @xN ?_;have f:=s1.trans s2;refine gH (ae ?_);by_cases s:dC g=0;rotate_left
 .have hE:pM g L=dC g:=by unfold pM;rw[if_pos s]
  rw[hE];refine aS (iu (Ac (show dC g≠0 from s))) ?_;refine cA (ae ?_);refine aT (ae ?_);exact⟨f,.ct,.ct,rfl,fun _=>⟨rfl,rfl⟩,fun h=>absurd h s⟩
 have hE:pM g L=if 16<L.length then 4 else oI g L:=by unfold pM;rw[if_neg (fun h=>h s)]
 rw[hE];refine aQ (iu (Aa (show ¬dC g≠0 from fun h=>h s))) (aK ?_);refine ae ?_
 obtain⟨wb,bp,bq,bs,T,Z,rfl,bv,hT,ao,aw,hB⟩:=D s;have aI:=aG.same (E:=cF) bQ hn f;have aV:=aG.same (E:=cE) cB hi f;have aZ:=aG.same (E:=nK) fM hm f;refine cA (ae ?_);refine bK (ae ?_);refine aW (aGl H s aI aV aZ hT ao aw hB) ?_;rintro _ S3 ⟨s3,M,rfl,bm,a0⟩;generalize he:(if 16<L.length then(4:Int) else oI g L)=e at *;refine ew @xP @xN ?_;have N:=f.trans s3;refine gH (ae ?_);by_cases d:e=0;rotate_left
 .refine aS (iu (Ac (show e≠0 from d))) ?_;refine cA (ae ?_);refine aT (ae ?_);exact⟨N,.ct,.ct,rfl,fun _=>⟨rfl,rfl⟩,fun h=>absurd h d⟩
 refine aQ (iu (Aa (show ¬e≠0 from fun h=>h d))) (aK ?_);refine ae ?_
 have A:=a0 d;have bn:L.length<=16:=by
  rw[<-he] at d;split at d
  .cases d
  .omega
 have O:∀m∈L,gT g m:=fun m hm=>by
  rw[<-he] at d;rw[if_neg au] at d;exact nS (pR d m hm)
 have⟨P,R⟩:=aML s O;have G:=iN s;have a1:(L.map (dx g)).length=L.length:=Al ..;refine cA (ae ?_);refine aD (bB (Q:=fun o A' X=>o= .normal/\aSt S3 S.nx mv M (L.map (dx g)) 0 A' X) (aD (aL ?_)) ?_)
 .refine ew (aG.len A) @Ah ?_;refine aO (bX (aSt S3 S.nx mv M (L.map (dx g))) ?_ (L.map (dx g)).length _ _ ⟨rfl,eu _,0,.ct,[],au,⟨.inl ⟨rfl,rfl,rfl⟩,fun q hq=>au⟩,af,af,af,af,ah a1,ag⟩);rintro k ⟨F,inr⟩ X ⟨U,B,j,v,cs,V,W,I,J,c,u,w,i⟩;simp only at U I J c u w i;subst U;refine cA (ew w i ?_);by_cases bw:j<(L.map (dx g)).length;rotate_left
  .refine aD (aQ im (bT ?_));refine ae ?_;obtain rfl:k=0:=by omega
   exact⟨rfl,B,j,v,cs,V,W,by refine⟨?_,?_,?_,?_,?_,?_⟩<;>simp only[↓sU,sD,rE,↓reduceIte,rA,I,J,c,u,w,i]⟩
  refine aD (aS im (aK ?_));refine ae ?_
  have w1:=ed j
  have Y:j<L.length:=by omega
  obtain⟨_,xb,xq,xi,a2,_,⟨x,y,rfl,hx,hy⟩,aa,_⟩:=aG.at A az (vL Y);rw[<-jH B a2] at aa;have bx:x.cells=some [x]:=bN.cells hx;refine aD (aO (aD (aL ?_)));refine fx u i @aJ xi aa ?_;refine bS ?_;intro X2 x2 m2 c2
  refine cQ (b:=X.nx) (aq) (by refine am ?_;exact aY _) c2 rfl rfl ?_;intro X3 x3 m3 c3;refine am ?_
  have C:Same X X3:=x3.same x2 (Af _);have a3:=B.trans C;clear x2 x3 c2;refine aL (fu c @aB @aA (aFR c3) ?_);refine fW (aDx hx (aq)) ?_;intro X4 x4 m4 c4;have a5:=a3.trans x4;have a8:aJa S3 X4 v cs (L.map (dx g)) j:=⟨W.gr.step (C.trans x4),W.el⟩;have⟨v',X5,eA,e2,e3⟩:=a8.push (t:=X3.nx) a5 (r:=x) (by rw[aIk Y];exact hx) c4 au
  refine fN (fun call=>by refine fl @fK ?_;exact eA) ?_;refine ae ?_;refine aL (ew i w1 ?_);exact⟨k - 1,au,rfl,e2,j+1,v',_,au,e3,by refine⟨?_,?_,?_,?_,?_,?_⟩<;>simp only[↓sU,sD,rE,↓reduceIte,rA,I,J,u,w]⟩
 rintro o ⟨F,inr⟩ X ⟨rfl,U,B,j,v,cs,V,W,I,J,c,_,_,_⟩;simp only at U I J c;subst U;obtain rfl:j=(L.map (dx g)).length:=by omega
 have K:=W.is B;have z:=N.trans B;have gX:X.h.get S.nx=jf [je g.cm,nv,iv]:=((s2.trans (s3.trans B)).2 _ au).trans g1;have ab:S.nx<X.nx:=by have:=(s2.trans (s3.trans B)).1;omega
 have ba:=aG.self hn;have bb:=aG.self hi;have bd:=aG.len hn;have be:=aG.len hi;have bz:=G.n2;have bA:=G.ni;refine ae ?_
 refine aD (iD (fun _=>False) ?_);intro X0 x0;simp only[↓sU,sD,rE,↓reduceIte,rA,I,J,c,aB,aP,aA,fV gX,ab,An,ba,bd,Ah];refine dR rfl ?_;refine ae ?_;refine aW (aDd (n:=g.cg.length) H au (aG.same (E:=nK) fM hm (z.trans x0)) au P) ?_;rintro oa Y1 ⟨y1,a,ha,bj⟩;refine⟨y1,?_⟩;simp only[↓sU,sD,rE,↓reduceIte,rA,I,J,c,aB,aP,aA,iS gX,ab,An,bb,be,Ah];refine dR rfl ?_;refine ae ?_;refine aW (aDd (n:=g.ch.length) H au (aG.same (E:=nK) fM K (x0.trans y1)) au R) ?_;rintro ob Y2 ⟨y2,b,hb,bk⟩;refine⟨y2,?_⟩
 refine aT (ae ?_);have ac:=((z.trans x0).trans y1).trans y2;have low:∀ {S0 S1 X:St} {v:AV} {l:bu},tC S1 X v l->S0.nx<=S1.nx->tC S0 X v l:=fun h hs=>by
  have⟨b,h1,h2,h3,h4⟩:=h;exact⟨b,h1,Av hs h2,h3,h4⟩
 exact⟨ac,oa,ob,by rw[d],fun h=>absurd d h,fun _=>⟨a,b,low (ha.same y2) (z.trans x0).1,low hb ((z.trans x0).trans y1).1,bj,bk⟩⟩
end Go.Ev.Gl
