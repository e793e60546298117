import Derived.Test.YtdkehphobhnjoaaGl20
open Nat renaming reduceEqDiff -> rE, reduceAdd -> rA
set_option maxHeartbeats 0
set_option linter.unusedSimpArgs false
set_option linter.unusedVariables false
namespace Go.Ev.Gl
variable {fns:T dU}
inductive tZ(E:Nat->Nat->Prop):Nat->Nat->Prop where
 | edge {x y:Nat}:E x y->tZ E x y
 | refl (x:Nat):tZ E x x
 | symm {x y:Nat}:tZ E x y->tZ E y x
 | trans {x y z:Nat}:tZ E x y->tZ E y z->tZ E x z
structure aKL(n:Nat)(E:Nat->Nat->Prop)(out:bu):Prop where
 len:out.length=n
 le:∀x,x<n->0<=out.getD x 0/\out.getD x 0<=x
 con:∀x,x<n->tZ E x (out.getD x 0).toNat
 inv:∀x y,E x y->out.getD x 0=out.getD y 0
section
variable {n:Nat}{E E':Nat->Nat->Prop}{a b up:bu}
theorem aJP{f:Nat->Int}(hf:∀x y,E x y->f x=f y){x y:Nat}(h:tZ E x y):f x=f y:=by
 induction h with
 | edge e=>exact hf _ _ e
 | refl x=>rfl
 | symm _ ih=>exact ih.symm
 | trans _ _ i1 i2=>exact i1.trans i2
structure UpO(n:Nat)(E:Nat->Nat->Prop)(up:bu):Prop where
 len:up.length=n
 le:∀x,x<n->0<=up.getD x 0/\up.getD x 0<=x
 con:∀x,x<n->tZ E x (up.getD x 0).toNat
def mW(up:bu)(x:Nat):Nat:=(up.getD x 0).toNat
def yF(up:bu):Nat->Nat->Nat
 | 0,x=>x
 | f+1,x=>if mW up x=x then x else yF up f (mW up x)
def root(up:bu)(x:Nat):Nat:=yF up x x
theorem UpO.lt(h:UpO n E up){x:Nat}(hx:x<n):mW up x<=x/\up.getD x 0=((mW up x:Nat):Int):=by
 have:=h.le x hx;unfold mW;omega
theorem aEY(h:UpO n E up):∀ {f x:Nat},x<n->x<=f->yF up (f+1) x=yF up f x
 | 0,x,hx,hf=>by
  have:=(h.lt hx).1;have e:mW up x=x:=by omega
  show(if mW up x=x then x else yF up 0 (mW up x))=x;rw[if_pos e]
 | f+1,x,hx,hf=>by
  have:=(h.lt hx).1;show(if mW up x=x then x else yF up (f+1) (mW up x))=if mW up x=x then x else yF up f (mW up x);by_cases e:mW up x=x
  ·rw[if_pos e,if_pos e]
  ·rw[if_neg e,if_neg e];exact aEY h ay ay
theorem aBX(h:UpO n E up){x:Nat}(hx:x<n):∀ {f:Nat},x<=f->yF up f x=root up x
 | 0,hf=>by rw[show x=0 by omega];rfl
 | f+1,hf=>by
  rcases Cd x (f+1) with h1 | h1
  ·rw[aEY h hx ay];exact aBX h hx ay
  ·rw[show f+1=x by omega];rfl
theorem kK(h:UpO n E up){x:Nat}(hx:x<n):root up x=if mW up x=x then x else root up (mW up x):=by
 have hl:=(h.lt hx).1;have:yF up (x+1) x=root up x:=aBX h hx ay;rw[<-this];show(if mW up x=x then x else yF up x (mW up x))=_;by_cases e:mW up x=x
 ·rw[if_pos e,if_pos e]
 ·rw[if_neg e,if_neg e];exact aBX h ay ay
theorem xO(h:UpO n E up){x:Nat}(hx:x<n):root up (mW up x)=root up x:=by
 by_cases e:mW up x=x
 ·rw[e]
 ·rw[kK h hx,if_neg e]
theorem sI(h:UpO n E up):∀ (x:Nat),x<n->root up x<=x/\mW up (root up x)=root up x/\tZ E x (root up x):=by
 intro x
 induction x using Nat.strongRecOn with
 | _ x ih=>
  intro hx;have hl:=(h.lt hx).1;rw[kK h hx];by_cases e:mW up x=x
  ·rw[if_pos e];exact⟨Ag _,e,.refl _⟩
  ·rw[if_neg e];have⟨h1,h2,h3⟩:=ih (mW up x) ay ay;exact⟨ay,h2,.trans (h.con x hx) h3⟩
theorem aN8(h:UpO n E up){i:Nat}(hi:i<n):UpO n E (up.set i (up.getD (mW up i) 0))/\∀x,x<n->root (up.set i (up.getD (mW up i) 0)) x=root up x:=by
 have hl:=(h.lt hi).1;have hl2:=h.lt (ay:mW up i<n);have hil:i<up.length:=by rw[h.len];exact hi
 have hg:∀x,(up.set i (up.getD (mW up i) 0)).getD x 0=if x=i then up.getD (mW up i) 0 else up.getD x 0:=fun x=>gE hil;have hu:UpO n E (up.set i (up.getD (mW up i) 0)):=⟨by rw[Ar];exact h.len,fun x hx=>by
  rw[hg];split
  ·omega
  ·exact h.le x hx,fun x hx=>by
  rw[hg];split
  ·rename_i e;subst e;exact .trans (h.con x hx) (h.con (mW up x) ay)
  ·exact h.con x hx⟩
 refine⟨hu,fun x=>?_⟩
 induction x using Nat.strongRecOn with
 | _ x ih=>
  intro hx;have hlx:=(h.lt hx).1;have hn:mW (up.set i (up.getD (mW up i) 0)) x=if x=i then mW up (mW up i) else mW up x:=by
   show((up.set i (up.getD (mW up i) 0)).getD x 0).toNat=_;rw[hg];split<;>rfl
  rw[kK hu hx,hn];by_cases e:x=i
  ·subst e;rw[if_pos rfl];by_cases e2:mW up (mW up x)=x
   ·rw[if_pos e2];have e3:mW up x=x:=by omega
    rw[kK h hx,if_pos e3]
   ·rw[if_neg e2,ih _ ay ay,xO h ay,xO h hx]
  ·rw[if_neg e];by_cases e2:mW up x=x
   ·rw[if_pos e2,kK h hx,if_pos e2]
   ·rw[if_neg e2,ih _ ay ay,xO h hx]
theorem aOk(h:UpO n E up){s t:Nat}(hs:s<n)(hst:t<=s)(rs:mW up s=s)(rt:mW up t=t)(hc:tZ E s t):UpO n E (up.set s (t:Int))/\∀x,x<n->root (up.set s (t:Int)) x=if root up x=s then t else root up x:=by
 have hsl:s<up.length:=by rw[h.len];exact hs
 have hg:∀x,(up.set s (t:Int)).getD x 0=if x=s then(t:Int) else up.getD x 0:=fun x=>gE hsl;have hu:UpO n E (up.set s (t:Int)):=⟨by rw[Ar];exact h.len,fun x hx=>by
  rw[hg];split
  ·omega
  ·exact h.le x hx,fun x hx=>by
  rw[hg];split
  ·rename_i e;subst e;exact hc
  ·exact h.con x hx⟩
 have hn:∀x,mW (up.set s (t:Int)) x=if x=s then t else mW up x:=fun x=>by
  unfold mW;rw[hg];split
  ·exact Ax _
  ·rfl
 refine⟨hu,fun x=>?_⟩
 induction x using Nat.strongRecOn with
 | _ x ih=>
  intro hx;have hlx:=(h.lt hx).1;rw[kK hu hx,hn];by_cases e:x=s
  ·subst e;have hr:root up x=x:=by rw[kK h hx,if_pos rs]
   rw[if_pos rfl,hr,if_pos rfl];by_cases e2:t=x
   ·rw[if_pos e2,e2]
   ·have hrt:root up t=t:=by rw[kK h ay,if_pos rt]
    rw[if_neg e2,ih t ay ay,hrt,if_neg e2]
  ·rw[if_neg e];by_cases e2:mW up x=x
   ·have hr:root up x=x:=by rw[kK h hx,if_pos e2]
    rw[if_pos e2,hr,if_neg e]
   ·rw[if_neg e2,ih _ ay ay,xO h hx]
theorem aQe(h:UpO n E up)(hE:∀x y,E x y->x<n/\y<n)(hr:∀x y,E x y->root up x=root up y){out:bu}(hl:out.length=n)(ho:∀x,x<n->out.getD x 0=((root up x:Nat):Int)):aKL n E out:=
 ⟨hl,fun x hx=>by have:=(sI h x hx).1;rw[ho x hx];omega,fun x hx=>by rw[ho x hx,Ax];exact(sI h x hx).2.2,fun x y e=>by rw[ho x (hE x y e).1,ho y (hE x y e).2,hr x y e]⟩
theorem aMf:UpO n E ((List.range n).map fun k:Nat=>(k:Int)):=by
 have hg:∀x,x<n->((List.range n).map fun k:Nat=>(k:Int)).getD x 0=(x:Int):=fun x hx=>by
  rw[Ad,Bc,Dc hx];rfl
 exact⟨by simp,fun x hx=>by rw[hg x hx];omega,fun x hx=>by rw[hg x hx,Ax];exact .refl x⟩
def aAw(n:Nat)(L:bt)(x y:Nat):Prop:=x<n/\∃m∈L,y=(m.getD x 0).toNat
end
noncomputable def aPe:List AO:=[mt 14 0,
om 15 1 (.cg (.t 14)),
om 16 3 (.cr 0 (.t 15)),
om 17 7 (ld 16),
mt 18 1,
mt 19 0,
om 20 32 (.cg (.t 19)),
om 21 96 (.cr 0 (.t 20)),
om 22 224 (ld 21),
mt 23 0,
om 24 512 (.cg (.t 23)),
om 25 1536 (.cr 0 (.t 24)),
om 26 3584 (ld 25),
mt 27 1,
om 28 15872 (.cn (.slice 1) (.t 26) (.t 27)),
om 29 32256 (ld 28),
om 30 65504 (.cn (.slice 1) (.t 22) (.t 29)),
om 31 131040 (ld 30),
om 32 262143 (.cn (.slice 1) (.t 17) (.t 18))]
structure qV(S:St)(ub rb n:Nat)(up:bu):Prop where
 u:S.h.get ub=some (.cells [.sl rb 0 n n false] false 0)
 r:S.h.get rb=some (.cells (bJ up) false 0)
 lu:ub<S.nx
 lr:rb<S.nx
 ne:ub≠rb
theorem qV.same{S S':St}{ub rb n:Nat}{up:bu}(h:qV S ub rb n up)(hs:Same S S'):qV S' ub rb n up:=⟨(hs.2 _ h.lu).trans h.u,(hs.2 _ h.lr).trans h.r,Ae h.lu hs.1,Ae h.lr hs.1,h.ne⟩
theorem qV.put{S:St}{ub rb n m:Nat}{up up':bu}(h:qV S ub rb n up):qV ⟨S.h.set rb (some (.cells (bJ up') false 0)),S.nx+m⟩ ub rb n up':=⟨by simp only;rw[dd,if_neg h.ne];exact h.u,fq,Ae h.lu (Cc ..),Ae h.lr (Cc ..),h.ne⟩
theorem aDk{h:Ev.T AB}{ub rb n:Nat}(hu:h.get ub=some (.cells [.sl rb 0 n n false] false 0)):eQ (.ptr ub (0+0)) false 1 h=some (.sl rb 0 n n false):=ldc hu rfl
def aS0(S:St)(ub rb n:Nat)(E:Nat->Nat->Prop)(up:bu)(i:Nat)(k:Nat)(A:bS)(X:St):Prop:=A.inr=false/\cC rb S X/\k<n/\root up k=root up i/\aD 0 A.F= .ptr ub 0/\aD 1 A.F= .int .i64 (k:Int)/\∃up',qV X ub rb n up'/\UpO n E up'/\∀x,x<n->root up' x=root up x
theorem zP{S:St}{ub rb n i:Nat}{E:Nat->Nat->Prop}{up:bu}(H:Has fns)(hU:qV S ub rb n up)(hup:UpO n E up)(hi:i<n)(hn:n<=1000000):
  gH fns (.fn 57 [] []) [.ptr ub 0,.int .i64 (i:Int)] S fun r S'=>r= .int .i64 ((root up i:Nat):Int)/\cC rb S S'/\∃up',qV S' ub rb n up'/\UpO n E up'/\∀x,x<n->root up' x=root up x:=by
 refine cF H.f57 (by simp) ?_;refine af ?_;refine bQ (af ?_);refine aA (aW (Q:=fun o A' X=>o= .normal/\cC rb S X/\aD 1 A'.F= .int .i64 ((root up i:Nat):Int)/\∃up',qV X ub rb n up'/\UpO n E up'/\∀x,x<n->root up' x=root up x) ?_ ?_)
 ·refine aL (bK (aS0 S ub rb n E up i) ?_ i _ _ ⟨rfl,cC.refl _ _,hi,rfl,ag,ag,up,hU,hup,fun _ _=>rfl⟩);rintro k ⟨F,inr⟩ X ⟨q0,hX,hk,hrt,p0,p1,up',hUX,hupX,hroot⟩;simp only at q0 p0 p1;subst q0;have hl:=hupX.lt hk;have hia:=eX (b:=rb) (o:=false) hk;have hla:=aAY hUX.r (show k<up'.length by rw[hupX.len];exact hk);rw[hl.2] at hla;have hu:=aDk hUX.u;refine fE ?_;simp only[↓sU,sD,rE,↓reduceIte,rA,p0,p1,aY,bB,aF,aE,hu,aJ,hia,hla];by_cases e:mW up' k=k
  ·refine aK (fh e (Aa (show ¬ (k:Int)≠(k:Int) from fun h=>h rfl))) (bG ?_);refine af ?_;refine⟨hX,?_,up',hUX,hupX,hroot⟩;refine cm p1 ?_;have:=hroot k hk;rw[kK hupX hk,if_pos e] at this;rw[<-hrt,<-this]
  ·refine aM fe (aH ?_);refine af ?_;have hlt:mW up' k<k:=by omega
   have hl2:=hupX.lt (ay:mW up' k<n);have hia2:=eX (b:=rb) (o:=false) (ay:mW up' k<n);have hla2:=aAY hUX.r (show mW up' k<up'.length by rw[hupX.len];omega);have hla3:=hla2;rw[hl2.2] at hla2;have⟨h1,h2⟩:=aN8 hupX hk;have hup2:=hroot;have hg:(up'.set k (up'.getD (mW up' k) 0)).getD k 0=((mW up' (mW up' k):Nat):Int):=by
    rw[gE (by rw[hupX.len];exact hk),if_pos rfl,hl2.2]
   refine aL (aA (oY (pre:=aPe) (K:=19) (m:=524287) (n:=1) (x:=.t 32) (v:=.t 31) rfl rfl rfl rfl ?_));unfold aPe;simp only[↓aC,aB,rE,↓reduceIte,rA,p0,p1,aY,bN,bB,aF,aU,aE,hu,aJ,hia,hla,hia2,hla3,mR];simp only[cH,aN];refine⟨_,sP (S:=⟨X.h,X.nx+20⟩) hUX.r (by rw[hupX.len];exact hk),?_⟩;have hU2:qV ⟨X.h.set rb (some (.cells (bJ (up'.set k (up'.getD (mW up' k) 0))) false 0)),X.nx+20⟩ ub rb n (up'.set k (up'.getD (mW up' k) 0)):=hUX.put;have hla4:=aAY hU2.r (show k<(up'.set k (up'.getD (mW up' k) 0)).length by rw[Ar,hupX.len];exact hk);rw[hg] at hla4;have hu4:=aDk hU2.u;simp only at hla4 hu4;refine af ?_;refine aG ?_;simp only[↓sU,sD,rE,↓reduceIte,rA,p0,p1,aY,bB,aF,aE,hu4,aJ,hia,hla4];have hX2:cC rb S ⟨X.h.set rb (some (.cells (bJ (up'.set k (up'.getD (mW up' k) 0))) false 0)),X.nx+20⟩:=(hX.nx 20).put _;refine⟨mW up' (mW up' k),az hl2.1,rfl,hX2,az hl2.1,?_,ai p0,ag,_,hU2,h1,fun x hx=>by rw[h2 x hx,hroot x hx]⟩;rw[<-hroot _ (az hl2.1),xO hupX ay,xO hupX hk,hroot k hk];exact hrt
 ·rintro o ⟨F,inr⟩ X ⟨rfl,hX,p1,up',h1,h2,h3⟩;simp only at p1;refine af ?_;refine bQ (cm p1 ?_);refine aR (af ?_);exact⟨hX,up',h1,h2,h3⟩
def mnI(a b:Int):Int:=if a<=b then a else b
theorem aOx(a b:Int):mT false [.int .i64 a,.int .i64 b]=some (.int .i64 (mnI a b)):=by
 show cB (keq .i64 .i64) (kO false [] (.int .i64 (cB false (cB (ile b a) a b) (cB (ile a b) a b)))) none=_;rw[fT,aO,aT,pE];show some _=_;unfold mnI;by_cases h:a<=b
 ·rw[if_pos h,Ab h,aO]
 ·rw[if_neg h,Aa h,aT]
theorem aI4{S:St}{ub rb n i j:Nat}{E:Nat->Nat->Prop}{up:bu}(H:Has fns)(hU:qV S ub rb n up)(hup:UpO n E up)(hi:i<n)(hj:j<n)(hc:tZ E i j)(hn:n<=1000000):
  gH fns (.fn 56 [] []) [.ptr ub 0,.int .i64 (i:Int),.int .i64 (j:Int)] S fun _ S'=>cC rb S S'/\∃up',qV S' ub rb n up'/\UpO n E up'/\(∀x y,x<n->y<n->root up x=root up y->root up' x=root up' y)/\root up' i=root up' j:=by
 refine cF H.f56 (by simp) ?_;refine af ?_;refine bQ (af ?_);refine bE (af ?_);refine aQ (zP H hU hup hi hn) ?_;rintro _ S1 ⟨rfl,s1,up1,hU1,hup1,hr1⟩;refine bE (af ?_);refine aQ (zP H hU1 hup1 hj hn) ?_;rintro _ S2 ⟨rfl,s2,up2,hU2,hup2,hr2⟩;rw[hr1 j hj];have hr:∀x,x<n->root up2 x=root up x:=fun x hx=>by rw[hr2 x hx,hr1 x hx]
 have⟨i1,i2,i3⟩:=sI hup i hi;have⟨j1,j2,j3⟩:=sI hup j hj;have ri:=(sI hup2 i hi).2.1;have rj:=(sI hup2 j hj).2.1;rw[hr i hi] at ri;rw[hr j hj] at rj;have hcc:tZ E (root up i) (root up j):=.trans (.symm i3) (.trans hc j3);obtain⟨s,t,hs,hts,hst,rs,rt,hct,emx,emn⟩:∃s t:Nat,s<n/\t<=s/\((s=root up i/\t=root up j)\/(s=root up j/\t=root up i))/\mW up2 s=s/\mW up2 t=t/\tZ E s t/\mx ((root up i:Nat):Int) ((root up j:Nat):Int)=((s:Nat):Int)/\mnI ((root up i:Nat):Int) ((root up j:Nat):Int)=((t:Nat):Int):=by
  rcases Nat.le_total (root up i) (root up j) with h | h
  ·exact⟨root up j,root up i,ay,h,.inr ⟨rfl,rfl⟩,rj,ri,.symm hcc,by unfold mx;split<;>omega,by unfold mnI;split<;>omega⟩
  ·exact⟨root up i,root up j,ay,h,.inl ⟨rfl,rfl⟩,ri,rj,hcc,by unfold mx;split<;>omega,by unfold mnI;split<;>omega⟩
 have⟨h1,h2⟩:=aOk hup2 hs hts rs rt hct;have hu:=aDk hU2.u;have hia:=eX (b:=rb) (o:=false) hs;refine aG ?_;simp only[↓sU,sD,rE,↓reduceIte,rA,aY,bB,aF,aE,hu,aDb,jI,oE,aCv,aOx,emx,emn,aJ,hia];refine fD (fun call=>by refine df @dS @cH ?_;exact sP (S:=S2) hU2.r (by rw[hup2.len];exact hs)) ?_;refine af ?_;refine⟨_,rfl,(s1.trans s2).put _,up2.set s (t:Int),hU2.put (m:=0),h1,fun x y hx hy e=>?_,?_⟩
 ·rw[h2 x hx,h2 y hy,hr x hx,hr y hy,e]
 ·rw[h2 i hi,h2 j hj,hr i hi,hr j hj];rcases hst with⟨e1,e2⟩ | ⟨e1,e2⟩
  ·rw[if_pos e1.symm,e2];split<;>rfl
  ·rw[if_pos e1.symm,e2];split<;>rfl
theorem aJ0{S:St}{v:AV}{L:bt}{i:Nat}(h:aP 1 pF S v L)(hi:i<L.length):∃b q a,fC (.slice 1) v i=some (.ptr b q)/\bO .i64 S a (L.getD i [])/\∀X,Same S X->eQ (.ptr b q) false 1 X.h=some a:=by
 obtain⟨_,b,q,h1,h2,_,⟨a,rfl,h3⟩,_,h4⟩:=aP.at h bg (wQ hi);have h5:=h4 0 a rfl;rw[Bh] at h5;exact⟨b,q,a,h1,h3,fun X hX=>by rw[oM hX h2];exact h5⟩
theorem aQH{t:Nat}{F:Fr}{h:Ev.T AB}{b n:Nat}(ht:aD t F= .sl b 0 n n false):gT (.build [.cb] [(0,1,.t t)]) F h=some (.agg [.sl b 0 n n false]):=by
 show(bH (eZ _ (eH F [(0,1,.t t)])) fun cs=>some (AV.agg cs))=_;simp only[eH,show(cU.t t).val F= .sl b 0 n n false from ht,eZ];rfl
section
variable {S:St}{ub rb n:Nat}{mv:AV}
def aKc(ub n:Nat)(mv:AV)(F:Fr):Prop:=aD 0 F= .int .i64 (n:Int)/\aD 1 F=mv/\aD 5 F= .ptr ub 0
def aRQ(S:St)(ub rb n:Nat)(mv:AV)(k:Nat)(A:bS)(X:St):Prop:=A.inr=false/\Same S X/\∃ (i:Nat) (l:bu),i+k=n/\l.length=n/\(∀j,j<i->l.getD j 0=(j:Int))/\qV X ub rb n l/\aKc ub n mv A.F/\aD 21 A.F= .int .i64 (n:Int)/\aD 22 A.F= .int .i64 (i:Int)
theorem aPW{Y:St}{F0:Fr}{l0:bu}(hn:n<=1000000)(hS:Same S Y)(hs:S.nx<=rb)(hU:qV Y ub rb n l0)(hl:l0.length=n)(hZ:aKc ub n mv F0)(p21:aD 21 F0= .int .i64 (n:Int))(p22:aD 22 F0= .int .i64 ((0:Nat):Int)):
  lU fns qk3 ⟨F0,false⟩ Y fun o A' X=>o= .normal/\aRQ S ub rb n mv 0 A' X:=by
 refine aL (bK (aRQ S ub rb n mv) ?_ n _ _ ⟨rfl,hS,0,l0,ay,hl,fun j hj=>ay,hU,hZ,p21,p22⟩);clear hZ p21 p22 hU hl hS;rintro k ⟨F,inr⟩ X ⟨q0,hX,i,l,hik,hl,hf,hU,⟨p0,p1,p5⟩,p21,p22⟩;simp only at q0 p0 p1 p5 p21 p22;subst q0;refine bQ (df p21 p22 ?_);by_cases hlt:i<n;rotate_left
 ·refine aA (aK fe (bG ?_));refine af ?_;obtain rfl:k=0:=by omega
  exact⟨rfl,hX,i,l,hik,hl,hf,hU,(by refine⟨?_,?_,?_⟩<;>simp only[↓sU,sD,rE,↓reduceIte,rA,p0,p1,p5]),by refine⟨?_,?_⟩<;>simp only[↓sU,sD,rE,↓reduceIte,rA,p21,p22]⟩
 refine aA (aM fe (aH ?_));refine af ?_;have w1:=dc i
 have hia:=eX (b:=rb) (o:=false) hlt;have hu:=aDk hU.u;refine aA (aL (aA (aG ?_)));refine cm p22 ?_;refine aG (dy p5 @aY @bB @aF @aE hu @aJ hia ?_);refine fD (fun call=>by refine df @dS @cH ?_;exact sP (S:=X) hU.r (by rw[hl];exact hlt)) ?_;refine af ?_;refine aG (df p22 w1 ?_);refine⟨k - 1,ay,rfl,hX.put hs _,i+1,l.set i (i:Int),ay,by rw[Ar];exact hl,fun j hj=>?_,hU.put (m:=0),(by refine⟨?_,?_,?_⟩<;>simp only[↓sU,sD,rE,↓reduceIte,rA,p0,p1,p5]),by refine⟨?_,?_⟩<;>simp only[↓sU,sD,rE,↓reduceIte,rA,p21]⟩;rw[gE ay];split
 ·rename_i e;rw[e]
 ·exact hf j ay
def aQW(S:St)(ub rb n j ml:Nat)(mv mrow:AV)(m:bu)(E:Nat->Nat->Prop)(up0:bu)(k:Nat)(A:bS)(X:St):Prop:=A.inr=false/\Same S X/\∃ (i:Nat) (up:bu),i+k=n/\qV X ub rb n up/\UpO n E up/\(∀x y,x<n->y<n->root up0 x=root up0 y->root up x=root up y)/\(∀x,x<i->root up x=root up (m.getD x 0).toNat)/\aKc ub n mv A.F/\aD 33 A.F=mv/\aD 34 A.F= .int .i64 (ml:Int)/\aD 35 A.F= .int .i64 (j:Int)/\aD 39 A.F=mrow/\aD 40 A.F= .int .i64 (n:Int)/\aD 41 A.F= .int .i64 (i:Int)
theorem aQf{Y:St}{F0:Fr}{up0 m:bu}{mrow:AV}{j ml:Nat}{E:Nat->Nat->Prop}(H:Has fns)(hn:n<=1000000)(hS:Same S Y)(hs:S.nx<=rb)(hU:qV Y ub rb n up0)(hup:UpO n E up0)(hm:bO .i64 S mrow m)(hml:m.length=n)(hin:∀x,x<n->0<=m.getD x 0/\m.getD x 0<n)(hE:∀x,x<n->E x (m.getD x 0).toNat)
  (hZ:aKc ub n mv F0) (p33:aD 33 F0=mv) (p34:aD 34 F0= .int .i64 (ml:Int)) (p35:aD 35 F0= .int .i64 (j:Int)) (p39:aD 39 F0=mrow) (p40:aD 40 F0= .int .i64 (n:Int)) (p41:aD 41 F0= .int .i64 ((0:Nat):Int)):
  lU fns qk0 ⟨F0,false⟩ Y fun o A' X=>o= .normal/\aQW S ub rb n j ml mv mrow m E up0 0 A' X:=by
 refine aL (bK (aQW S ub rb n j ml mv mrow m E up0) ?_ n _ _ ⟨rfl,hS,0,up0,ay,hU,hup,fun _ _ _ _ e=>e,fun x hx=>ay,hZ,p33,p34,p35,p39,p40,p41⟩);clear hZ p33 p34 p35 p39 p40 p41 hU hup hS;rintro k ⟨F,inr⟩ X ⟨q0,hX,i,up,hik,hU,hup,hk,hd,⟨p0,p1,p5⟩,p33,p34,p35,p39,p40,p41⟩;simp only at q0 p0 p1 p5 p33 p34 p35 p39 p40 p41;subst q0;refine bQ (df p40 p41 ?_);by_cases hlt:i<n;rotate_left
 ·refine aA (aK fe (bG ?_));refine af ?_;obtain rfl:k=0:=by omega
  exact⟨rfl,hX,i,up,hik,hU,hup,hk,hd,(by refine⟨?_,?_,?_⟩<;>simp only[↓sU,sD,rE,↓reduceIte,rA,p0,p1,p5]),by refine⟨?_,?_,?_,?_,?_,?_⟩<;>simp only[↓sU,sD,rE,↓reduceIte,rA,p33,p34,p35,p39,p40,p41]⟩
 refine aA (aM fe (aH ?_));refine af ?_;have w1:=dc i
 have ia:=(hm.same hX).cn (ay:i<m.length);have la:=(hm.same hX).ld (ay:i<m.length);have⟨m1,m2⟩:=hin i hlt;have hEi:=hE i hlt;have hdt:(∀x,x<i->root up x=root up (m.getD x 0).toNat):=hd;obtain⟨t,ht⟩:∃t:Nat,m.getD i 0=(t:Int):=⟨(m.getD i 0).toNat,ay⟩;rw[ht] at la hEi m2;rw[Ax] at hEi;refine aA (aL (aA (aG ?_)));refine dt p39 p41 @aJ ia la ?_;refine aG (cm p5 ?_);refine bE (af ?_);refine aQ (aI4 H hU hup hlt (ay:t<n) (.edge hEi) hn) ?_;rintro r X1 ⟨s1,up1,hU1,hup1,hk1,hij⟩;refine aG (df p41 w1 ?_);refine⟨k - 1,ay,rfl,cC.same hX s1 hs,i+1,up1,ay,hU1,hup1,fun x y hx hy e=>hk1 x y hx hy (hk x y hx hy e),fun x hx=>?_,(by refine⟨?_,?_,?_⟩<;>simp only[↓sU,sD,rE,↓reduceIte,rA,p0,p1,p5]),by refine⟨?_,?_,?_,?_,?_,?_⟩<;>simp only[↓sU,sD,rE,↓reduceIte,rA,p33,p34,p35,p39,p40]⟩;by_cases e:x=i
 ·subst e;rw[ht,Ax];exact hij
 ·have:=hin x ay;exact hk1 x _ ay ay  (hdt x ay)
def aRf(S:St)(ub rb n ml:Nat)(mv:AV)(L:bt)(k:Nat)(A:bS)(X:St):Prop:=A.inr=false/\Same S X/\∃ (j:Nat) (up:bu),j+k=ml/\qV X ub rb n up/\UpO n (aAw n L) up/\(∀x q,x<n->q<j->root up x=root up ((L.getD q []).getD x 0).toNat)/\aKc ub n mv A.F/\aD 33 A.F=mv/\aD 34 A.F= .int .i64 (ml:Int)/\aD 35 A.F= .int .i64 (j:Int)
theorem aPB{Y:St}{F0:Fr}{up0:bu}{L:bt}(H:Has fns)(hn:n<=1000000)(hS:Same S Y)(hs:S.nx<=rb)(hU:qV Y ub rb n up0)(hup:UpO n (aAw n L) up0)(hm:aP 1 pF S mv L)(hL:L.length<=1000000)(hin:∀m∈L,m.length=n/\∀x,x<n->0<=m.getD x 0/\m.getD x 0<n)
  (hZ:aKc ub n mv F0) (p33:aD 33 F0=mv) (p34:aD 34 F0= .int .i64 (L.length:Int)) (p35:aD 35 F0= .int .i64 ((0:Nat):Int)):
  lU fns qk5 ⟨F0,false⟩ Y fun o A' X=>o= .normal/\aRf S ub rb n L.length mv L 0 A' X:=by
 refine aL (bK (aRf S ub rb n L.length mv L) ?_ L.length _ _ ⟨rfl,hS,0,up0,ay,hU,hup,fun x q hx hq=>ay,hZ,p33,p34,p35⟩);clear hZ p33 p34 p35 hU hup hS;rintro k ⟨F,inr⟩ X ⟨q0,hX,j,up,hjk,hU,hup,hd,⟨p0,p1,p5⟩,p33,p34,p35⟩;simp only at q0 p0 p1 p5 p33 p34 p35;subst q0;refine bQ (df p34 p35 ?_);by_cases hlt:j<L.length;rotate_left
 ·refine aA (aK fe (bG ?_));refine af ?_;obtain rfl:k=0:=by omega
  exact⟨rfl,hX,j,up,hjk,hU,hup,hd,(by refine⟨?_,?_,?_⟩<;>simp only[↓sU,sD,rE,↓reduceIte,rA,p0,p1,p5]),by refine⟨?_,?_,?_⟩<;>simp only[↓sU,sD,rE,↓reduceIte,rA,p33,p34,p35]⟩
 refine aA (aM fe (aH ?_));refine af ?_;have w1:=dc j
 have⟨xb,xq,a,xi,xs,xl⟩:=aJ0 hm hlt;have xl:=xl X hX;have hmem:L.getD j []∈L:=by rw[Ad,Ac hlt];exact Bo hlt
 have⟨l1,l2⟩:=hin _ hmem;have xlen:=(xs.same hX).len;rw[l1] at xlen;refine aA (aL (aA (aG ?_)));refine dt p33 p35 @aJ xi xl ?_;refine bQ (df xlen @Ah ?_);refine aW (aQf (S:=S) (ub:=ub) (rb:=rb) (n:=n) (mv:=mv) (mrow:=a) (m:=L.getD j []) (j:=j) (ml:=L.length) (E:=aAw n L) (up0:=up) H hn hX hs hU hup xs l1 l2 (fun x hx=>⟨hx,_,hmem,rfl⟩) (by refine⟨?_,?_,?_⟩<;>simp only[↓sU,sD,rE,↓reduceIte,rA,p0,p1,p5]) (ai p33) (ai p34) (ai p35) (ag) (ag) (ah)) ?_;clear p0 p1 p5 p33 p34 p35;rintro o ⟨F,inr⟩ X1 ⟨rfl,q0,hX1,i,up1,hik,hU1,hup1,hk1,hd1,⟨p0,p1,p5⟩,p33,p34,p35,_,_,_⟩;simp only at q0 p0 p1 p5 p33 p34 p35;subst q0;obtain rfl:i=n:=by omega
 refine af ?_;refine aG (df p35 w1 ?_);refine⟨k - 1,ay,rfl,hX1,j+1,up1,ay,hU1,hup1,fun x q hx hq=>?_,(by refine⟨?_,?_,?_⟩<;>simp only[↓sU,sD,rE,↓reduceIte,rA,p0,p1,p5]),by refine⟨?_,?_,?_⟩<;>simp only[↓sU,sD,rE,↓reduceIte,rA,p33,p34]⟩;by_cases e:q=j
 ·subst e;exact hd1 x hx
 ·have hq2:q<L.length:=by omega
  have hmq:L.getD q []∈L:=by rw[Ad,Ac hq2];exact Bo hq2
  have:=(hin _ hmq).2 x hx;exact hk1 x _ hx ay (hd x q hx ay)
def aRh(S:St)(ub rb ob n:Nat)(E:Nat->Nat->Prop)(up0:bu)(k:Nat)(A:bS)(X:St):Prop:=A.inr=false/\Same S X/\ob<X.nx/\∃ (i:Nat) (l up:bu),i+k=n/\l.length=n/\(∀j,j<i->l.getD j 0=((root up0 j:Nat):Int))/\X.h.get ob=some (.cells (bJ l) false 0)/\qV X ub rb n up/\UpO n E up/\(∀x,x<n->root up x=root up0 x)/\aD 5 A.F= .ptr ub 0/\aD 11 A.F= .sl ob 0 n n false/\aD 55 A.F= .int .i64 (n:Int)/\aD 56 A.F= .int .i64 (i:Int)
theorem aPR{Y:St}{F0:Fr}{up0 l0:bu}{ob:Nat}{E:Nat->Nat->Prop}(H:Has fns)(hn:n<=1000000)(hS:Same S Y)(hs:S.nx<=rb)(hso:S.nx<=ob)(hor:ob≠rb)(hou:ob≠ub)(hU:qV Y ub rb n up0)(hup:UpO n E up0)(ho:Y.h.get ob=some (.cells (bJ l0) false 0))(hol:ob<Y.nx)(hl0:l0.length=n)
  (p5:aD 5 F0= .ptr ub 0) (p11:aD 11 F0= .sl ob 0 n n false) (p55:aD 55 F0= .int .i64 (n:Int)) (p56:aD 56 F0= .int .i64 ((0:Nat):Int)):
  lU fns qk1 ⟨F0,false⟩ Y fun o A' X=>o= .normal/\aRh S ub rb ob n E up0 0 A' X:=by
 refine aL (bK (aRh S ub rb ob n E up0) ?_ n _ _ ⟨rfl,hS,hol,0,l0,up0,ay,hl0,fun j hj=>ay,ho,hU,hup,fun _ _=>rfl,p5,p11,p55,p56⟩);clear p5 p11 p55 p56 hU ho hol hS;have hup0:=hup;clear hup;rintro k ⟨F,inr⟩ X ⟨q0,hX,hol,i,l,up,hik,hl,hf,ho,hU,hup,hr,p5,p11,p55,p56⟩;simp only at q0 p5 p11 p55 p56;subst q0;refine bQ (df p55 p56 ?_);by_cases hlt:i<n;rotate_left
 ·refine aA (aK fe (bG ?_));refine af ?_;obtain rfl:k=0:=by omega
  exact⟨rfl,hX,hol,i,l,up,hik,hl,hf,ho,hU,hup,hr,by refine⟨?_,?_,?_,?_⟩<;>simp only[↓sU,sD,rE,↓reduceIte,rA,p5,p11,p55,p56]⟩
 refine aA (aM fe (aH ?_));refine af ?_;have w1:=dc i
 have hia:=eX (b:=ob) (o:=false) hlt;refine aA (aL (aA (aG ?_)));refine cm p56 ?_;refine aG (df p5 p11 ?_);refine bE (af ?_);refine aQ (zP H hU hup hlt hn) ?_;rintro _ X1 ⟨rfl,s1,up1,hU1,hup1,hr1⟩;rw[hr i hlt];have ho1:=(s1.2 _ hol hor).trans ho;have hX1:=cC.same hX s1 hs;refine df @aJ hia ?_;refine fD (fun call=>by refine df @dS @cH ?_;exact sP (S:=X1) ho1 (by rw[hl];exact hlt)) ?_;refine af ?_;refine aG (df p56 w1 ?_);refine⟨k - 1,ay,rfl,hX1.put hso _,Ae hol s1.1,i+1,l.set i ((root up0 i:Nat):Int),up1,ay,by rw[Ar];exact hl,fun j hj=>?_,fq,⟨by simp only;rw[dd,if_neg (Cx hou)];exact hU1.u,by simp only;rw[dd,if_neg (Cx hor)];exact hU1.r,hU1.lu,hU1.lr,hU1.ne⟩,hup1,fun x hx=>by rw[hr1 x hx,hr x hx],by refine⟨?_,?_,?_,?_⟩<;>simp only[↓sU,sD,rE,↓reduceIte,rA,p5,p11,p55]⟩;rw[gE ay];split
 ·rename_i e;rw[e]
 ·exact hf j ay
end
theorem aCo{S:St}{mv:AV}{n:Nat}{L:bt}(H:Has fns)(hn:n<=1000000)(hm:aP 1 pF S mv L)(hL:L.length<=1000000)(hin:∀m∈L,m.length=n/\∀x,x<n->0<=m.getD x 0/\m.getD x 0<n):
  gH fns (.fn 31 [] []) [.int .i64 (n:Int),mv] S fun r S'=>Same S S'/\∃out,mG S S' r out/\aKL n (aAw n L) out:=by
 refine cF H.f31 (by simp) ?_;refine af ?_;refine bQ (af ?_);refine bQ (aq ?_);refine gO (pG (n:=n) (fj @aJ) (fj @aJ) bf bf) ?_;intro S1 s1 n1 c1;rw[pN] at c1;have hb1:=fun(F:Fr) (h:Ev.T AB) (a:aD 14 F= .sl S.nx 0 n n false)=>aQH (t:=14) (F:=F) (h:=h) a;refine dz hb1 ?_;refine dV (cs:=[.sl S.nx 0 n n false]) (by refine aq ?_;exact bL _) ?_;intro S2 s2 n2 c2;refine af ?_;have s12:=s1.trans s2;have hU2:qV S2 S1.nx S.nx n (List.replicate n 0):=⟨c2,(s2.2 _ ay).trans c1,ay,ay,ay⟩;have hu2:=aDk c2;have e0:jD (.sl S.nx 0 n n false)=some (.int .i64 (n:Int)):=rfl;refine fE (du @aY @bB @aF @aE hu2 e0 ?_);refine aW (aPW (S:=S) (n:=n) (ub:=S1.nx) (rb:=S.nx) (mv:=mv) hn s12 (Ag _) hU2 (Aq ..) (by refine⟨?_,?_,?_⟩<;>simp only[↓sU,sD,rE,↓reduceIte,rA]) (ag) (ah)) ?_;clear hU2 hu2 c2 c1;rintro o ⟨F,inr⟩ X ⟨rfl,q0,sX,i,l,hik,hl,hf,hU,⟨p0,p1,p5⟩,_,_⟩;simp only at q0 p0 p1 p5;subst q0;obtain rfl:i=n:=by omega
 have el:l=(List.range i).map fun k:Nat=>(k:Int):=oL (by simp [hl]) fun j hj=>by
  rw[hf j ay,Ad,Bc,Dc ay];rfl
 have hup:UpO i (aAw i L) l:=by rw[el];exact aMf
 refine af ?_;refine fE ?_;refine dh p1 ((aP.same (E:=pF) gL hm sX).len) @Ah ?_;refine aW (aPB (S:=S) (n:=i) (ub:=S1.nx) (rb:=S.nx) (mv:=mv) (L:=L) H hn sX (Ag _) hU hup hm hL hin (by refine⟨?_,?_,?_⟩<;>simp only[↓sU,sD,rE,↓reduceIte,rA,p0,p1,p5]) (ag) (ag) (ah)) ?_;clear p0 p1 p5;rintro o ⟨F,inr⟩ X2 ⟨rfl,q0,sX2,j,up,hjl,hU2,hup2,hd,⟨p0,p1,p5⟩,_,_,_⟩;simp only at q0 p0 p1 p5;subst q0;obtain rfl:j=L.length:=by omega
 refine af ?_;refine bQ (dz p0 ?_);refine gO (pG (n:=i) (fj @aJ) (fj @aJ) bf bf) ?_;intro X3 x3 m3 c3;rw[pN] at c3;refine aq ?_;have e3:jD (.sl X2.nx 0 i i false)=some (.int .i64 (i:Int)):=rfl;have hlu:=hU2.lu;have hlr:=hU2.lr;have hnx:=sX2.1;refine fE (cm e3 ?_);refine aW (aPR (S:=S) (n:=i) (ub:=S1.nx) (rb:=S.nx) (ob:=X2.nx) (E:=aAw i L) (up0:=up) H hn (sX2.trans x3) (Ag _) hnx ay ay  (hU2.same x3) hup2 c3 ay (Aq ..) (ai p5) (ag) (ag) (ah)) ?_;clear p0 p1 p5;rintro o ⟨F,inr⟩ X4 ⟨rfl,q0,sX4,hol,i',out,up4,hi',hol',hof,ho4,_,_,_,_,p11,_,_⟩;simp only at q0 p11;subst q0;obtain rfl:i'=i:=by omega
 refine af ?_;refine bQ (cm p11 ?_);refine aR (af ?_);refine⟨sX4,out,⟨X2.nx,by rw[hol'],hnx,hol,ho4⟩,?_⟩;have hE:∀x y,aAw i' L x y->x<i'/\y<i':=fun x y ⟨hx,m,hmm,e⟩=>by
  have:=(hin m hmm).2 x hx;omega
 refine aQe hup2 hE (fun x y ⟨hx,m,hmm,e⟩=>?_) hol' fun x hx=>hof x hx;obtain⟨q,hq,rfl⟩:=Cv.1 hmm;have:=hd x q hx hq;rw[Ad (l:=L),Ac hq] at this;rw[e];exact this
noncomputable def kD(g:bD):bt->Int
 | []=>0
 | m::L=>if iF g.bk.length m (iB g m)≠0 then iF g.bk.length m (iB g m) else kD g L
def aMS(g:bD)(S:St)(cs:b6)(m:bu):Prop:=∃x y,cs= [x,y]/\bO .i64 S x (cw g m)/\aP 1 pF S y (c8 g m)
theorem tN.low{g:bD}{m:bu}{S S1 X:St}{x y:AV}(h:tN g m S1 X x y)(hs:S.nx<=S1.nx):tN g m S X x y:=by
 have⟨⟨b,h1,h2,h3,h4⟩,ab,bs,cs,k1,k2,k3,k4,k5⟩:=h;exact⟨⟨b,h1,Au hs h2,h3,h4⟩,ab,bs,cs,k1,Au hs k2,k3,k4,k5.low hs⟩
theorem tN.moveF{g:bD}{m:bu}{S X X':St}{x y:AV}(h:tN g m S X x y)(hn:X.nx<=X'.nx)(hh:∀c cs,c<X.nx->X.h.get c=some (.cells cs false 0)->X'.h.get c=X.h.get c):tN g m S X' x y:=by
 have⟨⟨b,h1,h2,h3,h4⟩,ab,bs,cs,k1,k2,k3,k4,k5⟩:=h;refine⟨⟨b,h1,h2,Ae h3 hn,(hh b _ h3 h4).trans h4⟩,ab,bs,cs,k1,k2,Ae k3 hn,(hh ab _ k3 k4).trans k4,k5.move hn fun j hj=>?_⟩;have⟨a,b,c⟩:=k5.bl j hj;exact hh _ _ b c
theorem tN.sl{g:bD}{m:bu}{S X:St}{x y:AV}(h:tN g m S X x y):aMS g X [x,y] m:=by
 obtain⟨h1,ab,bs,cs,rfl,k2,k3,k4,k5⟩:=h;exact⟨x,_,rfl,h1.is,k5.is k4 k3 (Ag _)⟩
theorem tN.cel{g:bD}{m:bu}{S X:St}{x y:AV}(h:tN g m S X x y):x.cells=some [x]/\y.cells=some [y]:=by
 obtain⟨⟨b,rfl,_⟩,ab,bs,cs,rfl,_⟩:=h;exact⟨rfl,rfl⟩
theorem aSq{S:St}{t:Nat}{x y:AV}{o:Bool}{sz:Nat}(h:S.h.get t=some (.cells [x,y] o sz)):eE (.sl t 0 1 1 false) S.h 2 1=some [x,y]:=by
 show bH (cJ S.h t) (fun cs=>cut cs 0 (1 * 2))=_;unfold cJ;rw[h];rfl
structure aEp(g:bD)(S X:St)(v:AV)(cs:b6)(L:bt)(j:Nat):Prop where
 gr:fX 2 S X v j cs
 el:∀q,q<j->∃x y,cs[q * 2]? =some x/\cs[q * 2+1]? =some y/\tN g (L.getD q []) S X x y
theorem aEp.is{g:bD}{S X:St}{v:AV}{cs:b6}{L:bt}(h:aEp g S X v cs L L.length):aP 2 (aMS g) X v L:=by
 rcases h.gr with⟨rfl,h0,_⟩ | ⟨b,rfl,h1,h2,h3,h4⟩
 ·exact .inl ⟨Bv.1 h0,.inl rfl⟩
 ·refine .inr ⟨b,0,L.length,true,cs,rfl,Ag _,h2,by unfold cJ;rw[h3];rfl,fun i a hi=>?_⟩;obtain⟨hlt,rfl⟩:=Aj.1 hi;have⟨x,y,e1,e2,e3⟩:=h.el i hlt;rw[Ad,Ac hlt] at e3;refine⟨[x,y],rfl,fun q w hq=>?_,e3.sl⟩;rw[An]
  match q,hq with
  | 0,hq=>cases hq;exact e1
  | 1,hq=>cases hq;exact e2
  | q+2,hq=>simp at hq
theorem aEp.move{g:bD}{S X X':St}{v:AV}{cs:b6}{L:bt}{j:Nat}(h:aEp g S X v cs L j)(hs:Same X X'):aEp g S X' v cs L j:=⟨h.gr.step hs,fun q hq=>by
 have⟨x,y,e1,e2,e3⟩:=h.el q hq;exact⟨x,y,e1,e2,e3.moveF hs.1 fun c _ hc _=>hs.2 c hc⟩⟩
theorem aEp.push{g:bD}{S X:St}{v x y:AV}{cs:b6}{L:bt}{j t:Nat}(h:aEp g S X v cs L j)(hS:Same S X)(hp:tN g (L.getD j []) S X x y)(ht:X.h.get t=some (.cells [x,y] false 0))(hj:j+1<=1000):
  ∃v' X',fN 48 2 v (.sl t 0 1 1 false) X=some (v',X')/\Same S X'/\X.nx<=X'.nx/\(∀c,c<X.nx->aX v≠some c->X'.h.get c=X.h.get c)/\aEp g S X' v' (cs++ [x,y]) L (j+1):=by
 have⟨v',X',e1,e2,e3,e4,e5⟩:=h.gr.app (bytes:=48) (m:=1) hS rfl (aSq ht) rfl Nat.one_pos bf bf;have hoff:∀c cs',c<X.nx->X.h.get c=some (.cells cs' false 0)->X'.h.get c=X.h.get c:=fun c cs' hc hg=>e5 c hc (h.gr.off hg);refine⟨v',X',e1,e3,e4,e5,e2,fun q hq=>?_⟩;have hcl:=h.gr.csl;by_cases e:q=j
 ·subst e;refine⟨x,y,?_,?_,hp.moveF e4 hoff⟩
  ·rw[Am ay,hcl,Dn];rfl
  ·rw[Am ay,hcl,show q * 2+1 - q * 2=1 by omega];rfl
 ·have⟨x',y',k1,k2,k3⟩:=h.el q ay;have a1:=(Aj.1 k1).1;have a2:=(Aj.1 k2).1;exact⟨x',y',by rw[Al a1];exact k1,by rw[Al a2];exact k2,k3.moveF e4 hoff⟩
theorem aDs{g:bD}{L:bt}{j:Nat}(hj:j<L.length)(h:iF g.bk.length (L.getD j []) (iB g (L.getD j []))=0):kD g (L.drop j)=kD g (L.drop (j+1)):=by
 rw[Cg hj];have e:L.getD j []=L[j]:=by rw[Ad,Ac hj];rfl
 rw[e] at h;show(if _≠_ then _ else _)=_;rw[if_neg (fun e=>e h)]
theorem aDI{g:bD}{L:bt}{j:Nat}(hj:j<L.length)(h:iF g.bk.length (L.getD j []) (iB g (L.getD j []))≠0):kD g (L.drop j)=iF g.bk.length (L.getD j []) (iB g (L.getD j [])):=by
 rw[Cg hj];have e:L.getD j []=L[j]:=by rw[Ad,Ac hj];rfl
 rw[e] at h ⊢;show(if _≠_ then _ else _)=_;rw[if_pos h]
def aRa(S:St)(wb:Nat)(mv:AV)(g:bD)(L:bt)(k:Nat)(A:bS)(X:St):Prop:=A.inr=false/\Same S X/\∃ (j:Nat) (v:AV) (cs:b6),j+k=L.length/\kD g L=kD g (L.drop j)/\aEp g S X v cs L j/\aD 0 A.F= .ptr wb 0/\aD 6 A.F=v/\aD 14 A.F=mv/\aD 15 A.F= .int .i64 (L.length:Int)/\aD 16 A.F= .int .i64 (j:Int)
theorem aAf{S:St}{wb plb szb:Nat}{nv iv pv mv:AV}{g:bD}{L:bt}{T:List cK}{Z:bu}(H:Has fns)(hf:dB g=0)(hn:aP 6 cI S nv g.bk)(hi:aP 2 cW S iv g.bn)(hm:aP 1 pF S mv L)(hT:fJ g=some T)(hTl:T.length=g.bk.length)(hpv:bO .i64 S pv (T.map (·.1)))(hB:iQ S wb plb szb pv nv iv g (lC g) Z):
  gH fns (.fn 30 [] []) [.ptr wb 0,mv] S fun r S'=>Same S S'/\∃v,r= .tup [v,.int .i64 (if 16<L.length then 4 else kD g L)]/\((if 16<L.length then 4 else kD g L)≠0->v= .cb)/\((if 16<L.length then 4 else kD g L)=0->aP 2 (aMS g) S' v L):=by
 have G:=iR hf;have hN2:=G.n2;refine cF H.f30 (by simp) ?_;refine af ?_;refine bQ (af ?_);refine fE (df hm.len @Ah ?_);by_cases h16:16<L.length
 ·rw[if_pos h16];refine aM fe ?_;refine bQ (af ?_);refine aR (af ?_);exact⟨de _,.cb,rfl,fun _=>rfl,fun h=>ay⟩
 rw[if_neg h16];refine aK fe (aH ?_);refine af ?_;refine bQ (af ?_);refine aA (aW (Q:=fun o A' X=>(o= .normal/\aRa S wb mv g L 0 A' X)\/(o= .ret/\Same S X/\kD g L≠0/\aD 4 A'.F= .cb/\aD 5 A'.F= .int .i64 (kD g L))) (aA (aG ?_)) ?_)
 ·refine df hm.len @Ah ?_;refine aL (bK (aRa S wb mv g L) ?_ L.length _ _ ⟨rfl,de _,0,.cb,[],ay,rfl,⟨.inl ⟨rfl,rfl,rfl⟩,fun q hq=>ay⟩,ag,ag,ag,ag,ah⟩);rintro k ⟨F,inr⟩ X ⟨q0,hX,j,v,cs,hjk,hE,hI,p0,p6,p14,p15,p16⟩;simp only at q0 p0 p6 p14 p15 p16;subst q0;refine bQ (df p15 p16 ?_);by_cases hlt:j<L.length;rotate_left
  ·refine aA (aK fe (bG ?_));refine af ?_;obtain rfl:k=0:=by omega
   exact .inl ⟨rfl,hX,j,v,cs,hjk,hE,hI,by refine⟨?_,?_,?_,?_,?_⟩<;>simp only[↓sU,sD,rE,↓reduceIte,rA,p0,p6,p14,p15,p16]⟩
  refine aA (aM fe (aH ?_));refine af ?_;have w1:=dc j
  have⟨xb,xq,a,xi,xs,xl⟩:=aJ0 hm hlt;have xl:=xl X hX;have himd:=aDs (g:=g) hlt;have hims:=aDI (g:=g) hlt;have hpush:=@aEp.push g S;obtain⟨m,hme⟩:∃m,L.getD j []=m:=⟨_,rfl⟩;rw[hme] at xs himd hims;have hBX:=hB.same hX;refine aA (aL (aA (aG ?_)));refine dt p14 p16 @aJ xi xl ?_;refine bQ (dz p0 ?_);refine bE (aq ?_);refine aQ (tX (P:=tN g m) (ok:=iB g m) H (aAK (g:=g) (m:=m)) hBX.w (aP.same (E:=cI) bT hn hX) (xs.same hX) ay (fun h1 h2 _ S' hS'=>yS H (aP.same (E:=cI) bT hn (hX.trans hS')) (aP.same (E:=cW) cM hi (hX.trans hS')) (xs.same (hX.trans hS')) G ⟨h1,h2⟩ hT hTl (hpv.same (hX.trans hS')) (hBX.same hS'))) ?_;rintro _ X1 ⟨x1,x,y,rfl,hp,hnil⟩;refine d6 @ex0 @ex1 ?_;refine dC ?_;intro X2 x2 m2 c2;have hcel:x.cells=some [x]/\y.cells=some [y]:=by
   by_cases h0:iF g.bk.length m (iB g m)=0
   ·have⟨S0,_,h⟩:=hp h0;exact h.cel
   ·obtain⟨rfl,rfl⟩:=hnil h0;exact⟨rfl,rfl⟩
  refine eS (b:=X1.nx) (ar) (by refine aq ?_;exact bL _) c2 rfl rfl ?_;intro X3 x3 m3 c3;refine aq ?_;have s13:Same X1 X3:=x3.same x2 (Ag _);have sX3:=(hX.trans x1).trans s13;clear x2 x3 c2;refine fE (af ?_);by_cases h0:iF g.bk.length m (iB g m)=0;rotate_left
  ·refine aM (fg (Ab (show iF g.bk.length m (iB g m)≠0 from h0))) ?_;refine bQ (af ?_);refine aR ?_;rw[hims h0] at hE;refine .inr ⟨rfl,sX3,by rw[hE];exact h0,by refine⟨?_,?_⟩<;>simp only[↓sU,sD,rE,↓reduceIte,rA,hE]⟩
  refine aK (fg (Aa (show ¬iF g.bk.length m (iB g m)≠0 from fun h=>h h0))) (aH ?_);refine af ?_;have⟨S0,hS0,hpi⟩:=hp h0;have hpi3:tN g (L.getD j []) S X3 x y:=by
   rw[hme];exact(hpi.moveF s13.1 fun c _ hc _=>s13.2 c hc).low (Au hX.1 hS0)
  refine aG (d6 p6 (aRt c3) ?_);refine gO (aNf (a:=x) (b:=y) (ar)) ?_;intro X4 x4 m4 c4;have sX4:=sX3.trans x4;have⟨v',X5,eA,e2,e3,e4,e5⟩:=(hI.move ((x1.trans s13).trans x4)).push (t:=X3.nx) sX4 (hpi3.moveF x4.1 fun c _ hc _=>x4.2 c hc) c4 ay;refine fD (fun call=>by refine dz @fY ?_;exact eA) ?_;refine af ?_;refine aG (df p16 w1 ?_);exact⟨k - 1,ay,rfl,e2,j+1,v',_,ay,by rw[hE];exact himd h0,e5,by refine⟨?_,?_,?_,?_,?_⟩<;>simp only[↓sU,sD,rE,↓reduceIte,rA,p0,p14,p15]⟩
 rintro o ⟨F,inr⟩ X (⟨rfl,q0,hX,j,v,cs,hjk,hE,hI,p0,p6,p14,p15,p16⟩ | ⟨rfl,hX,hne,p4,p5⟩)
 ·simp only at q0 p6;subst q0;obtain rfl:j=L.length:=by omega
  rw[List.drop_length] at hE;have hE0:kD g L=0:=hE;refine af ?_;refine bQ (cm p6 ?_);refine aR (af ?_);exact⟨hX,v,by rw[hE0],fun h=>absurd hE0 h,fun _=>hI.is⟩
 ·simp only at p4 p5;refine df p4 p5 ?_;exact⟨hX,.cb,rfl,fun _=>rfl,fun h=>absurd h hne⟩
noncomputable def jE(g:bD)(L:bt):Int:=if dB g≠0 then dB g else if 16<L.length then 4 else kD g L
theorem aES{g:bD}{L:bt}(h:jE g L=0):dB g=0/\L.length<=16/\kD g L=0:=by
 unfold jE at h;split at h
 ·rename_i h1;exact absurd h h1
 rename_i h1;split at h
 ·cases h
 ·exact⟨Ee.1 h1,ay,h⟩
theorem xM{g:bD}:∀ {L:bt},kD g L=0->∀m∈L,iF g.bk.length m (iB g m)=0
 | [],_,m,hm=>by cases hm
 | x::L,h,m,hm=>by
  have h:(if iF g.bk.length x (iB g x)≠0 then iF g.bk.length x (iB g x) else kD g L)=0:=h;split at h
  ·rename_i h1;exact absurd h h1
  ·rename_i h1;rcases Bm.1 hm with rfl | hm
   ·exact Ee.1 h1
   ·exact xM h m hm
theorem yU{g:bD}{m:bu}(h:iF g.bk.length m (iB g m)=0):gD g m:=by
 unfold iF at h;split at h
 ·cases h
 rename_i h1;split at h
 ·cases h
 rename_i h2;split at h
 ·cases h
 rename_i h3;split at h
 ·rename_i h4;exact⟨⟨Ee.1 h1,Classical.not_not.1 h2⟩,h3,h4⟩
 ·cases h
def aPT(g:bD)(L:bt)(a b:bu):Prop:=aKL g.bk.length (aAw g.bk.length L) a/\aKL g.bn.length (aAw g.bn.length (L.map (cw g))) b
structure aIo(X1 X:St)(v:AV)(cs:b6)(A:bt)(j:Nat):Prop where
 gr:fX 1 X1 X v j cs
 el:∀q,q<j->∃r,cs[q]? =some r/\bO .i64 X1 r (A.getD q [])
theorem aIo.is{X1 X:St}{v:AV}{cs:b6}{A:bt}(h:aIo X1 X v cs A A.length)(hs:Same X1 X):aP 1 pF X v A:=by
 rcases h.gr with⟨rfl,h0,_⟩ | ⟨b,rfl,h1,h2,h3,h4⟩
 ·exact .inl ⟨Bv.1 h0,.inl rfl⟩
 ·refine .inr ⟨b,0,A.length,true,cs,rfl,Ag _,h2,by unfold cJ;rw[h3];rfl,fun i a hi=>?_⟩;obtain⟨hlt,rfl⟩:=Aj.1 hi;have⟨r,e1,e3⟩:=h.el i hlt;rw[Ad,Ac hlt] at e3;refine⟨[r],rfl,fun q w hq=>?_,r,rfl,e3.same hs⟩;rw[An,Dm]
  match q,hq with
  | 0,hq=>cases hq;exact e1
  | q+1,hq=>simp at hq
theorem aIo.push{X1 X:St}{v r:AV}{cs:b6}{A:bt}{j t:Nat}(h:aIo X1 X v cs A j)(hS:Same X1 X)(hr:bO .i64 X1 r (A.getD j []))(ht:X.h.get t=some (.cells [r] false 0))(hj:j+1<=1000):
  ∃v' X',fN 24 1 v (.sl t 0 1 1 false) X=some (v',X')/\Same X1 X'/\aIo X1 X' v' (cs++ [r]) A (j+1):=by
 have⟨v',X',e1,e2,e3,e4,e5⟩:=h.gr.app (bytes:=24) (m:=1) hS rfl (aOq ht) rfl Nat.one_pos bf bf;refine⟨v',X',e1,e3,e2,fun q hq=>?_⟩;have hcl:=h.gr.csl;by_cases e:q=j
 ·subst e;exact⟨r,by rw[Am ay,hcl,Dm,Dn];rfl,hr⟩
 ·have⟨r',k1,k2⟩:=h.el q ay;exact⟨r',by rw[Al (Aj.1 k1).1];exact k1,k2⟩
theorem aHo{f:bu->bu}{L:bt}{j:Nat}(hj:j<L.length):(L.map f).getD j []=f (L.getD j []):=by
 rw[Ad,Bc,Ac hj,Ad,Ac hj];rfl
theorem aPr{g:bD}{L:bt}(hf:dB g=0)(hL:∀m∈L,gD g m):(∀m∈L,m.length=g.bk.length/\∀x,x<g.bk.length->0<=m.getD x 0/\m.getD x 0<g.bk.length)/\∀m∈L.map (cw g),m.length=g.bn.length/\∀x,x<g.bn.length->0<=m.getD x 0/\m.getD x 0<g.bn.length:=by
 have G:=iR hf;refine⟨fun m hm=>⟨(hL m hm).M.len,fun x hx=>?_⟩,fun m hm=>?_⟩
 ·have:=(hL m hm).M.at hx;omega
 ·obtain⟨q,hq,rfl⟩:=Dl.1 hm;refine⟨by simp [cw],fun x hx=>?_⟩;have A:=hL q hq;have⟨h1,h2,h3⟩:=G.fst x hx;have e:(cw g q).getD x 0=(cd g (eR q (kS g x))).info:=by
   unfold cw;rw[Ad,Bc,Dc hx];rfl
  rw[e];have:=G.inf _ (A.M.at h1).2 (by rw[<- (A.A.like _ h1).1];exact h2);exact⟨this.1,this.2.1⟩
def aQN(X1:St)(gb:Nat)(mv imv:AV)(A0:bt)(k:Nat)(A:bS)(X:St):Prop:=A.inr=false/\Same X1 X/\∃ (j:Nat) (v:AV) (cs:b6),j+k=A0.length/\aIo X1 X v cs A0 j/\aD 1 A.F=mv/\aD 2 A.F= .ptr gb 0/\aD 10 A.F=v/\aD 30 A.F=imv/\aD 31 A.F= .int .i64 (A0.length:Int)/\aD 32 A.F= .int .i64 (j:Int)
theorem aFv{S:St}{nv iv mv:AV}{g:bD}{L:bt}(H:Has fns)(hn:aP 6 cI S nv g.bk)(hi:aP 2 cW S iv g.bn)(hln:g.bk.length<=100000)(hm:aP 1 pF S mv L):
  gH fns (.fn 8 [] []) [.agg [.int .i64 g.bo,nv,iv],mv] S fun r S'=>Same S S'/\∃x y,r= .tup [x,y,.int .i64 (jE g L)]/\(jE g L≠0->x= .cb/\y= .cb)/\(jE g L=0->∃a b,mG S S' x a/\mG S S' y b/\aPT g L a b):=by
 refine cF H.f8 (by simp) ?_;refine af ?_;refine bQ ?_;refine dV (by refine af ?_;exact bL _) ?_;intro S1 s1 n1 g1;refine af ?_;refine bQ (cm (iT g1) ?_);refine bE (af ?_);refine aQ (xT H (aP.same (E:=cI) bT hn s1) (aP.same (E:=cW) cM hi s1) hln) ?_;rintro _ S2 ⟨s2,p,rfl,hlook⟩;refine df @ex0 @ex1 ?_;have s12:=s1.trans s2;refine fE (af ?_);by_cases h0:dB g=0;rotate_left
 ·have hE:jE g L=dB g:=by unfold jE;rw[if_pos h0]
  rw[hE];refine aM (fg (Ab (show dB g≠0 from h0))) ?_;refine bQ (af ?_);refine aR (af ?_);exact⟨s12,.cb,.cb,rfl,fun _=>⟨rfl,rfl⟩,fun h=>absurd h h0⟩
 have hE:jE g L=if 16<L.length then 4 else kD g L:=by unfold jE;rw[if_neg (fun h=>h h0)]
 rw[hE];refine aK (fg (Aa (show ¬dB g≠0 from fun h=>h h0))) (aH ?_);refine af ?_;obtain⟨wb,plb,szb,pv0,T,Z,rfl,hwb,hT,hTl,hpv,hB⟩:=hlook h0;have hn2:=aP.same (E:=cI) bT hn s12;have hi2:=aP.same (E:=cW) cM hi s12;have hm2:=aP.same (E:=pF) gL hm s12;refine bQ (af ?_);refine bE (af ?_);refine aQ (aAf H h0 hn2 hi2 hm2 hT hTl hpv hB) ?_;rintro _ S3 ⟨s3,imv,rfl,himn,him⟩;generalize he:(if 16<L.length then(4:Int) else kD g L)=e at *;refine df @ex0 @ex1 ?_;have s13:=s12.trans s3;refine fE (af ?_);by_cases e0:e=0;rotate_left
 ·refine aM (fg (Ab (show e≠0 from e0))) ?_;refine bQ (af ?_);refine aR (af ?_);exact⟨s13,.cb,.cb,rfl,fun _=>⟨rfl,rfl⟩,fun h=>absurd h e0⟩
 refine aK (fg (Aa (show ¬e≠0 from fun h=>h e0))) (aH ?_);refine af ?_;have hims:=him e0;have hL16:L.length<=16:=by
  rw[<-he] at e0;split at e0
  ·cases e0
  ·omega
 have hAll:∀m∈L,gD g m:=fun m hm=>by
  rw[<-he] at e0;rw[if_neg ay] at e0;exact yU (xM e0 m hm)
 have⟨hin1,hin2⟩:=aPr h0 hAll;have G:=iR h0;have hAl:(L.map (cw g)).length=L.length:=Ay ..;refine bQ (af ?_);refine aA (aW (Q:=fun o A' X=>o= .normal/\aQN S3 S.nx mv imv (L.map (cw g)) 0 A' X) (aA (aG ?_)) ?_)
 ·refine df (aP.len hims) @Ah ?_;refine aL (bK (aQN S3 S.nx mv imv (L.map (cw g))) ?_ (L.map (cw g)).length _ _ ⟨rfl,de _,0,.cb,[],ay,⟨.inl ⟨rfl,rfl,rfl⟩,fun q hq=>ay⟩,ag,ag,ag,ag,ai hAl,ah⟩);rintro k ⟨F,inr⟩ X ⟨q0,hX,j,v,cs,hjk,hI,p1,p2,p10,p30,p31,p32⟩;simp only at q0 p1 p2 p10 p30 p31 p32;subst q0;refine bQ (df p31 p32 ?_);by_cases hlt:j<(L.map (cw g)).length;rotate_left
  ·refine aA (aK fe (bG ?_));refine af ?_;obtain rfl:k=0:=by omega
   exact⟨rfl,hX,j,v,cs,hjk,hI,by refine⟨?_,?_,?_,?_,?_,?_⟩<;>simp only[↓sU,sD,rE,↓reduceIte,rA,p1,p2,p10,p30,p31,p32]⟩
  refine aA (aM fe (aH ?_));refine af ?_;have w1:=dc j
  have hjL:j<L.length:=by omega
  obtain⟨_,xb,xq,xi,xlt,_,⟨x,y,rfl,hx,hy⟩,xag,_⟩:=aP.at hims bg (wQ hjL);rw[<-oM hX xlt] at xag;have hcx:x.cells=some [x]:=bO.cells hx;refine aA (aL (aA (aG ?_)));refine d9 p30 p32 @aJ xi xag ?_;refine dC ?_;intro X2 x2 m2 c2;refine eS (b:=X.nx) (ar) (by refine aq ?_;exact bL _) c2 rfl rfl ?_;intro X3 x3 m3 c3;refine aq ?_;have s13':Same X X3:=x3.same x2 (Ag _);have sX3:=hX.trans s13';clear x2 x3 c2;refine aG (d8 p10 @aF @aE (aJw c3) ?_);refine gO (uK hx (ar)) ?_;intro X4 x4 m4 c4;have sX4:=sX3.trans x4;have hI4:aIo S3 X4 v cs (L.map (cw g)) j:=⟨hI.gr.step (s13'.trans x4),hI.el⟩;have⟨v',X5,eA,e2,e3⟩:=hI4.push (t:=X3.nx) sX4 (r:=x) (by rw[aHo hjL];exact hx) c4 ay;refine fD (fun call=>by refine dz @fY ?_;exact eA) ?_;refine af ?_;refine aG (df p32 w1 ?_);exact⟨k - 1,ay,rfl,e2,j+1,v',_,ay,e3,by refine⟨?_,?_,?_,?_,?_,?_⟩<;>simp only[↓sU,sD,rE,↓reduceIte,rA,p1,p2,p30,p31]⟩
 rintro o ⟨F,inr⟩ X ⟨rfl,q0,hX,j,v,cs,hjk,hI,p1,p2,p10,_,_,_⟩;simp only at q0 p1 p2 p10;subst q0;obtain rfl:j=(L.map (cw g)).length:=by omega
 have hrows:=hI.is hX;have hsX:=s13.trans hX;have gX:X.h.get S.nx=some (.cells [.int .i64 g.bo,nv,iv] false 0):=((s2.trans (s3.trans hX)).2 _ ay).trans g1;have lgX:S.nx<X.nx:=by have:=(s2.trans (s3.trans hX)).1;omega
 have snv:=aP.self hn;have siv:=aP.self hi;have lnv:=aP.len hn;have liv:=aP.len hi;have hN2:=G.n2;have hNI:=G.ni;refine af ?_;refine aA (dO (fun _=>False) ?_);intro X0 x0;simp only[↓sU,sD,rE,↓reduceIte,rA,p1,p2,p10,aF,aU,aE,gI gX,lgX,Ap,snv,lnv,Ah];refine cL rfl ?_;refine af ?_;refine aQ (aCo (n:=g.bk.length) H ay (aP.same (E:=pF) gL hm (hsX.trans x0)) ay hin1) ?_;rintro oa Y1 ⟨y1,a,ha,hoa⟩;refine⟨y1,?_⟩;simp only[↓sU,sD,rE,↓reduceIte,rA,p1,p2,p10,aF,aU,aE,lW gX,lgX,Ap,siv,liv,Ah];refine cL rfl ?_;refine af ?_;refine aQ (aCo (n:=g.bn.length) H ay (aP.same (E:=pF) gL hrows (x0.trans y1)) ay hin2) ?_;rintro ob Y2 ⟨y2,b,hb,hob⟩;refine⟨y2,?_⟩;refine aR (af ?_);have sfin:=((hsX.trans x0).trans y1).trans y2;have low:∀ {S0 S1 X:St} {v:AV} {l:bu},mG S1 X v l->S0.nx<=S1.nx->mG S0 X v l:=fun h hs=>by
  have⟨b,h1,h2,h3,h4⟩:=h;exact⟨b,h1,Au hs h2,h3,h4⟩
 exact⟨sfin,oa,ob,by rw[e0],fun h=>absurd e0 h,fun _=>⟨a,b,low (ha.same y2) (hsX.trans x0).1,low hb ((hsX.trans x0).trans y1).1,hoa,hob⟩⟩
section
variable {S:St}{ob n:Nat}{mv:AV}{L:bt}
end
end Go.Ev.Gl
