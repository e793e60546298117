import Derived.Test.YtoojnpjgnnpllaaGl22
open Nat renaming reduceEqDiff -> rE, reduceAdd -> rA
set_option maxHeartbeats 0
set_option linter.unusedSimpArgs false
set_option linter.unusedVariables false
namespace Go.Ev.Gl
variable {fns:T dY}
inductive tY(E:Nat->Nat->Prop):Nat->Nat->Prop where
 | edge {x y:Nat}:E x y->tY E x y
 | refl (x:Nat):tY E x x
 | symm {x y:Nat}:tY E x y->tY E y x
 | trans {x y z:Nat}:tY E x y->tY E y z->tY E x z
structure lD(n:Nat)(E:Nat->Nat->Prop)(out:ba):Prop where
 len:out.length=n
 le:∀x,x<n->0<=out.getD x 0/\out.getD x 0<=x
 con:∀x,x<n->tY E x (out.getD x 0).toNat
 inv:∀x y,E x y->out.getD x 0=out.getD y 0
section
variable {n:Nat}{E E':Nat->Nat->Prop}{a b up:ba}
theorem aGd{f:Nat->Int}(hf:∀x y,E x y->f x=f y){x y:Nat}(h:tY E x y):f x=f y:=by
 induction h with
 | edge e=>exact hf _ _ e
 | refl x=>rfl
 | symm _ ih=>exact ih.symm
 | trans _ _ i1 i2=>exact i1.trans i2
theorem aNu(hE:∀x y,E x y->x<n/\y<n)(ha:lD n E a)(hb:lD n E b):a=b:=by
 have key:∀ {a b:ba},lD n E a->lD n E b->∀x,x<n->b.getD x 0<=a.getD x 0:=fun {a b} ha hb x hx=>by
  have h1:=ha.le x hx;have h2:=aGd (f:=fun x=>b.getD x 0) hb.inv (ha.con x hx);have h2:b.getD x 0=b.getD (a.getD x 0).toNat 0:=h2;have h3:=hb.le (a.getD x 0).toNat ar;omega
 exact oP (by rw[ha.len,hb.len]) fun x hx=>by
  rw[ha.len] at hx;have:=key ha hb x hx;have:=key hb ha x hx;omega
structure wH(n:Nat)(E:Nat->Nat->Prop)(up:ba):Prop where
 len:up.length=n
 le:∀x,x<n->0<=up.getD x 0/\up.getD x 0<=x
 con:∀x,x<n->tY E x (up.getD x 0).toNat
def mU(up:ba)(x:Nat):Nat:=(up.getD x 0).toNat
def zC(up:ba):Nat->Nat->Nat
 | 0,x=>x
 | f+1,x=>if mU up x=x then x else zC up f (mU up x)
def root(up:ba)(x:Nat):Nat:=zC up x x
theorem wH.lt(h:wH n E up){x:Nat}(hx:x<n):mU up x<=x/\up.getD x 0=((mU up x:Nat):Int):=by
 have:=h.le x hx;unfold mU;omega
theorem aFh(h:wH n E up):∀ {f x:Nat},x<n->x<=f->zC up (f+1) x=zC up f x
 | 0,x,hx,hf=>by
  have:=(h.lt hx).1;have e:mU up x=x:=by omega
  show(if mU up x=x then x else zC up 0 (mU up x))=x;rw[if_pos e]
 | f+1,x,hx,hf=>by
  have:=(h.lt hx).1;show(if mU up x=x then x else zC up (f+1) (mU up x))=if mU up x=x then x else zC up f (mU up x);by_cases e:mU up x=x
  ·rw[if_pos e,if_pos e]
  ·rw[if_neg e,if_neg e];exact aFh h ar ar
theorem aBQ(h:wH n E up){x:Nat}(hx:x<n):∀ {f:Nat},x<=f->zC up f x=root up x
 | 0,hf=>by rw[show x=0 by omega];rfl
 | f+1,hf=>by
  rcases Cx x (f+1) with h1 | h1
  ·rw[aFh h hx ar];exact aBQ h hx ar
  ·rw[show f+1=x by omega];rfl
theorem kE(h:wH n E up){x:Nat}(hx:x<n):root up x=if mU up x=x then x else root up (mU up x):=by
 have hl:=(h.lt hx).1;have:zC up (x+1) x=root up x:=aBQ h hx ar;rw[<-this];show(if mU up x=x then x else zC up x (mU up x))=_;by_cases e:mU up x=x
 ·rw[if_pos e,if_pos e]
 ·rw[if_neg e,if_neg e];exact aBQ h ar ar
theorem yK(h:wH n E up){x:Nat}(hx:x<n):root up (mU up x)=root up x:=by
 by_cases e:mU up x=x
 ·rw[e]
 ·rw[kE h hx,if_neg e]
theorem uG(h:wH n E up):∀ (x:Nat),x<n->root up x<=x/\mU up (root up x)=root up x/\tY E x (root up x):=by
 intro x
 induction x using Nat.strongRecOn with
 | _ x ih=>
  intro hx;have hl:=(h.lt hx).1;rw[kE h hx];by_cases e:mU up x=x
  ·rw[if_pos e];exact⟨Ag _,e,.refl _⟩
  ·rw[if_neg e];have⟨h1,h2,h3⟩:=ih (mU up x) ar ar;exact⟨ar,h2,.trans (h.con x hx) h3⟩
theorem aNX(h:wH n E up){i:Nat}(hi:i<n):wH n E (up.set i (up.getD (mU up i) 0))/\∀x,x<n->root (up.set i (up.getD (mU up i) 0)) x=root up x:=by
 have hl:=(h.lt hi).1;have hl2:=h.lt (show mU up i<n by omega);have hil:i<up.length:=by rw[h.len];exact hi
 have hg:∀x,(up.set i (up.getD (mU up i) 0)).getD x 0=if x=i then up.getD (mU up i) 0 else up.getD x 0:=fun x=>gJ hil;have hu:wH n E (up.set i (up.getD (mU up i) 0)):=⟨by rw[Aq];exact h.len,fun x hx=>by
  rw[hg];split
  ·omega
  ·exact h.le x hx,fun x hx=>by
  rw[hg];split
  ·rename_i e;subst e;exact .trans (h.con x hx) (h.con (mU up x) ar)
  ·exact h.con x hx⟩
 refine⟨hu,fun x=>?_⟩
 induction x using Nat.strongRecOn with
 | _ x ih=>
  intro hx;have hlx:=(h.lt hx).1;have hn:mU (up.set i (up.getD (mU up i) 0)) x=if x=i then mU up (mU up i) else mU up x:=by
   show((up.set i (up.getD (mU up i) 0)).getD x 0).toNat=_;rw[hg];split<;>rfl
  rw[kE hu hx,hn];by_cases e:x=i
  ·subst e;rw[if_pos rfl];by_cases e2:mU up (mU up x)=x
   ·rw[if_pos e2];have e3:mU up x=x:=by omega
    rw[kE h hx,if_pos e3]
   ·rw[if_neg e2,ih _ ar ar,yK h ar,yK h hx]
  ·rw[if_neg e];by_cases e2:mU up x=x
   ·rw[if_pos e2,kE h hx,if_pos e2]
   ·rw[if_neg e2,ih _ ar ar,yK h hx]
theorem aOn(h:wH n E up){s t:Nat}(hs:s<n)(hst:t<=s)(rs:mU up s=s)(rt:mU up t=t)(hc:tY E s t):wH n E (up.set s (t:Int))/\∀x,x<n->root (up.set s (t:Int)) x=if root up x=s then t else root up x:=by
 have hsl:s<up.length:=by rw[h.len];exact hs
 have hg:∀x,(up.set s (t:Int)).getD x 0=if x=s then(t:Int) else up.getD x 0:=fun x=>gJ hsl;have hu:wH n E (up.set s (t:Int)):=⟨by rw[Aq];exact h.len,fun x hx=>by
  rw[hg];split
  ·omega
  ·exact h.le x hx,fun x hx=>by
  rw[hg];split
  ·rename_i e;subst e;exact hc
  ·exact h.con x hx⟩
 have hn:∀x,mU (up.set s (t:Int)) x=if x=s then t else mU up x:=fun x=>by
  unfold mU;rw[hg];split
  ·exact Az _
  ·rfl
 refine⟨hu,fun x=>?_⟩
 induction x using Nat.strongRecOn with
 | _ x ih=>
  intro hx;have hlx:=(h.lt hx).1;rw[kE hu hx,hn];by_cases e:x=s
  ·subst e;have hr:root up x=x:=by rw[kE h hx,if_pos rs]
   rw[if_pos rfl,hr,if_pos rfl];by_cases e2:t=x
   ·rw[if_pos e2,e2]
   ·have hrt:root up t=t:=by rw[kE h ar,if_pos rt]
    rw[if_neg e2,ih t ar ar,hrt,if_neg e2]
  ·rw[if_neg e];by_cases e2:mU up x=x
   ·have hr:root up x=x:=by rw[kE h hx,if_pos e2]
    rw[if_pos e2,hr,if_neg e]
   ·rw[if_neg e2,ih _ ar ar,yK h hx]
theorem aQb(h:wH n E up)(hE:∀x y,E x y->x<n/\y<n)(hr:∀x y,E x y->root up x=root up y){out:ba}(hl:out.length=n)(ho:∀x,x<n->out.getD x 0=((root up x:Nat):Int)):lD n E out:=
 ⟨hl,fun x hx=>by have:=(uG h x hx).1;rw[ho x hx];omega,fun x hx=>by rw[ho x hx,Az];exact(uG h x hx).2.2,fun x y e=>by rw[ho x (hE x y e).1,ho y (hE x y e).2,hr x y e]⟩
theorem aDf:wH n E ((List.range n).map fun k:Nat=>(k:Int)):=by
 have hg:∀x,x<n->((List.range n).map fun k:Nat=>(k:Int)).getD x 0=(x:Int):=fun x hx=>by
  rw[Ad,Am,Bf hx];rfl
 exact⟨by simp,fun x hx=>by rw[hg x hx];omega,fun x hx=>by rw[hg x hx,Az];exact .refl x⟩
def iI(n:Nat)(L:a9)(x y:Nat):Prop:=x<n/\∃m∈L,y=(m.getD x 0).toNat
end
noncomputable def aOW:List AO:=[mt 14 0,
om 15 1 (.ch (.t 14)),
om 16 3 (.cw 0 (.t 15)),
om 17 7 (ld 16),
mt 18 1,
mt 19 0,
om 20 32 (.ch (.t 19)),
om 21 96 (.cw 0 (.t 20)),
om 22 224 (ld 21),
mt 23 0,
om 24 512 (.ch (.t 23)),
om 25 1536 (.cw 0 (.t 24)),
om 26 3584 (ld 25),
mt 27 1,
om 28 15872 (.cp (.slice 1) (.t 26) (.t 27)),
om 29 32256 (ld 28),
om 30 65504 (.cp (.slice 1) (.t 22) (.t 29)),
om 31 131040 (ld 30),
om 32 262143 (.cp (.slice 1) (.t 17) (.t 18))]
structure sL(S:St)(ub rb n:Nat)(up:ba):Prop where
 u:S.h.get ub=some (.cells [.sl rb 0 n n false] false 0)
 r:S.h.get rb=some (.cells (aU up) false 0)
 lu:ub<S.nx
 lr:rb<S.nx
 ne:ub≠rb
theorem sL.same{S S':St}{ub rb n:Nat}{up:ba}(h:sL S ub rb n up)(hs:Same S S'):sL S' ub rb n up:=⟨(hs.2 _ h.lu).trans h.u,(hs.2 _ h.lr).trans h.r,Ae h.lu hs.1,Ae h.lr hs.1,h.ne⟩
theorem sL.put{S:St}{ub rb n m:Nat}{up up':ba}(h:sL S ub rb n up):sL ⟨S.h.set rb (some (.cells (aU up') false 0)),S.nx+m⟩ ub rb n up':=⟨by simp only;rw[di,if_neg h.ne];exact h.u,fk,Ae h.lu (Ba ..),Ae h.lr (Ba ..),h.ne⟩
theorem aDr{h:Ev.T AB}{ub rb n:Nat}(hu:h.get ub=some (.cells [.sl rb 0 n n false] false 0)):dT (.ptr ub (0+0)) false 1 h=some (.sl rb 0 n n false):=ldc hu rfl
def aSQ(S:St)(ub rb n:Nat)(E:Nat->Nat->Prop)(up:ba)(i:Nat)(k:Nat)(A:bG)(X:St):Prop:=A.inr=false/\bT rb S X/\k<n/\root up k=root up i/\aD 0 A.F= .ptr ub 0/\aD 1 A.F= .int .i64 (k:Int)/\∃up',sL X ub rb n up'/\wH n E up'/\∀x,x<n->root up' x=root up x
theorem aAi{S:St}{ub rb n i:Nat}{E:Nat->Nat->Prop}{up:ba}(H:Has fns)(hU:sL S ub rb n up)(hup:wH n E up)(hi:i<n)(hn:n<=1000000):
  fZ fns (.fn 179 [] []) [.ptr ub 0,.int .i64 (i:Int)] S fun r S'=>r= .int .i64 ((root up i:Nat):Int)/\bT rb S S'/\∃up',sL S' ub rb n up'/\wH n E up'/\∀x,x<n->root up' x=root up x:=by
 refine cF H.f179 (by simp) ?_;refine ae ?_;refine bO (ae ?_);refine aA (aX (Q:=fun o A' X=>o= .normal/\bT rb S X/\aD 1 A'.F= .int .i64 ((root up i:Nat):Int)/\∃up',sL X ub rb n up'/\wH n E up'/\∀x,x<n->root up' x=root up x) ?_ ?_)
 ·refine aK (bH (aSQ S ub rb n E up i) ?_ i _ _ ⟨rfl,bT.refl _ _,hi,rfl,af,af,up,hU,hup,fun _ _=>rfl⟩);rintro k ⟨F,inr⟩ X ⟨q0,hX,hk,hrt,p0,p1,up',hUX,hupX,hroot⟩;simp only at q0 p0 p1;subst q0;have hl:=hupX.lt hk;have hia:=dR (b:=rb) (o:=false) hk;have hla:=uI hUX.r (show k<up'.length by rw[hupX.len];exact hk);rw[hl.2] at hla;have hu:=aDr hUX.u;refine fC ?_;simp only[↓sU,sD,rE,↓reduceIte,rA,p0,p1,bN,bM,aC,aB,hu,aH,hia,hla];by_cases e:mU up' k=k
  ·refine aM (by simp only[↓sU,sD,rE,↓reduceIte,rA,e,Aa (show ¬ (k:Int)≠(k:Int) from fun h=>h rfl)]) (bJ ?_);refine ae ?_;refine⟨hX,?_,up',hUX,hupX,hroot⟩;refine dm p1 ?_;have:=hroot k hk;rw[kE hupX hk,if_pos e] at this;rw[<-hrt,<-this]
  ·refine aN (by simp only[↓sU,sD,rE,↓reduceIte,rA,Ac (show((mU up' k:Nat):Int)≠(k:Int) by omega)]) (aI ?_);try refine ae ?_
   have hlt:mU up' k<k:=by omega
   have hl2:=hupX.lt (show mU up' k<n by omega);have hia2:=dR (b:=rb) (o:=false) (show mU up' k<n by omega);have hla2:=uI hUX.r (show mU up' k<up'.length by rw[hupX.len];omega);have hla3:=hla2;rw[hl2.2] at hla2;have⟨h1,h2⟩:=aNX hupX hk;have hup2:=hroot;have hg:(up'.set k (up'.getD (mU up' k) 0)).getD k 0=((mU up' (mU up' k):Nat):Int):=by
    rw[gJ (by rw[hupX.len];exact hk),if_pos rfl,hl2.2]
   refine aK (aA (aHJ (pre:=aOW) (K:=19) (m:=524287) (n:=1) (x:=.t 32) (v:=.t 31) rfl rfl rfl rfl ?_));unfold aOW;simp only[↓aF,aG,rE,↓reduceIte,rA,p0,p1,bN,cD,bM,aC,aQ,aB,hu,aH,hia,hla,hia2,hla3,nH];simp only[cR,aL];refine⟨_,sM (S:=⟨X.h,X.nx+20⟩) hUX.r (by rw[hupX.len];exact hk),?_⟩;have hU2:sL ⟨X.h.set rb (some (.cells (aU (up'.set k (up'.getD (mU up' k) 0))) false 0)),X.nx+20⟩ ub rb n (up'.set k (up'.getD (mU up' k) 0)):=hUX.put;have hla4:=uI hU2.r (show k<(up'.set k (up'.getD (mU up' k) 0)).length by rw[Aq,hupX.len];exact hk);rw[hg] at hla4;have hu4:=aDr hU2.u;simp only at hla4 hu4;try refine ae ?_
   refine aJ ?_;simp only[↓sU,sD,rE,↓reduceIte,rA,p0,p1,bN,bM,aC,aB,hu4,aH,hia,hla4];have hX2:bT rb S ⟨X.h.set rb (some (.cells (aU (up'.set k (up'.getD (mU up' k) 0))) false 0)),X.nx+20⟩:=(hX.nx 20).put _;refine⟨mU up' (mU up' k),au hl2.1,rfl,hX2,au hl2.1,?_,ah p0,af,_,hU2,h1,fun x hx=>by rw[h2 x hx,hroot x hx]⟩;rw[<-hroot _ (au hl2.1),yK hupX ar,yK hupX hk,hroot k hk];exact hrt
 ·rintro o ⟨F,inr⟩ X ⟨rfl,hX,p1,up',h1,h2,h3⟩;simp only at p1;try refine ae ?_
  refine bO (dm p1 ?_);refine aP (ae ?_);exact⟨hX,up',h1,h2,h3⟩
def zJ(a b:Int):Int:=if a<=b then a else b
theorem aF3(a b:Int):mH false [.int .i64 a,.int .i64 b]=some (.int .i64 (zJ a b)):=by
 show bQ (keq .i64 .i64) (kI false [] (.int .i64 (bQ false (bQ (ile b a) a b) (bQ (ile a b) a b)))) none=_;rw[fL,aR,bB,pX];show some _=_;unfold zJ;by_cases h:a<=b
 ·rw[if_pos h,Ac h,aR]
 ·rw[if_neg h,Aa h,bB]
theorem aIp{S:St}{ub rb n i j:Nat}{E:Nat->Nat->Prop}{up:ba}(H:Has fns)(hU:sL S ub rb n up)(hup:wH n E up)(hi:i<n)(hj:j<n)(hc:tY E i j)(hn:n<=1000000):
  fZ fns (.fn 178 [] []) [.ptr ub 0,.int .i64 (i:Int),.int .i64 (j:Int)] S fun _ S'=>bT rb S S'/\∃up',sL S' ub rb n up'/\wH n E up'/\(∀x y,x<n->y<n->root up x=root up y->root up' x=root up' y)/\root up' i=root up' j:=by
 refine cF H.f178 (by simp) ?_;refine ae ?_;refine bO (ae ?_);refine bD (ae ?_);refine aW (aAi H hU hup hi hn) ?_;rintro _ S1 ⟨rfl,s1,up1,hU1,hup1,hr1⟩;try refine ae ?_
 refine bD (ae ?_);refine aW (aAi H hU1 hup1 hj hn) ?_;rintro _ S2 ⟨rfl,s2,up2,hU2,hup2,hr2⟩;rw[hr1 j hj];have hr:∀x,x<n->root up2 x=root up x:=fun x hx=>by rw[hr2 x hx,hr1 x hx]
 have⟨i1,i2,i3⟩:=uG hup i hi;have⟨j1,j2,j3⟩:=uG hup j hj;have ri:=(uG hup2 i hi).2.1;have rj:=(uG hup2 j hj).2.1;rw[hr i hi] at ri;rw[hr j hj] at rj;have hcc:tY E (root up i) (root up j):=.trans (.symm i3) (.trans hc j3);obtain⟨s,t,hs,hts,hst,rs,rt,hct,emx,emn⟩:∃s t:Nat,s<n/\t<=s/\((s=root up i/\t=root up j)\/(s=root up j/\t=root up i))/\mU up2 s=s/\mU up2 t=t/\tY E s t/\mx ((root up i:Nat):Int) ((root up j:Nat):Int)=((s:Nat):Int)/\zJ ((root up i:Nat):Int) ((root up j:Nat):Int)=((t:Nat):Int):=by
  rcases Nat.le_total (root up i) (root up j) with h | h
  ·exact⟨root up j,root up i,ar,h,.inr ⟨rfl,rfl⟩,rj,ri,.symm hcc,by unfold mx;split<;>omega,by unfold zJ;split<;>omega⟩
  ·exact⟨root up i,root up j,ar,h,.inl ⟨rfl,rfl⟩,ri,rj,hcc,by unfold mx;split<;>omega,by unfold zJ;split<;>omega⟩
 have⟨h1,h2⟩:=aOn hup2 hs hts rs rt hct;have hu:=aDr hU2.u;have hia:=dR (b:=rb) (o:=false) hs;try refine ae ?_
 refine aJ ?_;simp only[↓sU,sD,rE,↓reduceIte,rA,bN,bM,aC,aB,hu,aAd,iZ,mQ,aGg,aF3,emx,emn,aH,hia];refine fI (fun call=>by refine dn @dS @cR ?_;exact sM (S:=S2) hU2.r (by rw[hup2.len];exact hs)) ?_;refine ae ?_;refine⟨_,rfl,(s1.trans s2).put _,up2.set s (t:Int),hU2.put (m:=0),h1,fun x y hx hy e=>?_,?_⟩
 ·rw[h2 x hx,h2 y hy,hr x hx,hr y hy,e]
 ·rw[h2 i hi,h2 j hj,hr i hi,hr j hj];rcases hst with⟨e1,e2⟩ | ⟨e1,e2⟩
  ·rw[if_pos e1.symm,e2];split<;>rfl
  ·rw[if_pos e1.symm,e2];split<;>rfl
theorem aGr{S:St}{v:AV}{L:a9}{i:Nat}(h:aE 1 iD S v L)(hi:i<L.length):∃b q a,dO (.slice 1) v i=some (.ptr b q)/\bI .i64 S a (L.getD i [])/\∀X,Same S X->dT (.ptr b q) false 1 X.h=some a:=by
 obtain⟨_,b,q,h1,h2,_,⟨a,rfl,h3⟩,_,h4⟩:=aE.at h ay (aA6 hi);have h5:=h4 0 a rfl;rw[Br] at h5;exact⟨b,q,a,h1,h3,fun X hX=>by rw[iA hX h2];exact h5⟩
theorem aQL{t:Nat}{F:Fr}{h:Ev.T AB}{b n:Nat}(ht:aD t F= .sl b 0 n n false):gM (.build [.bw] [(0,1,.t t)]) F h=some (.agg [.sl b 0 n n false]):=by
 show(bC (eQ _ (eH F [(0,1,.t t)])) fun cs=>some (AV.agg cs))=_;simp only[eH,show(cO.t t).val F= .sl b 0 n n false from ht,eQ];rfl
section
variable {S:St}{ub rb n:Nat}{mv:AV}
def aK2(ub n:Nat)(mv:AV)(F:Fr):Prop:=aD 0 F= .int .i64 (n:Int)/\aD 1 F=mv/\aD 5 F= .ptr ub 0
def aQJ(S:St)(ub rb n:Nat)(mv:AV)(k:Nat)(A:bG)(X:St):Prop:=A.inr=false/\Same S X/\∃ (i:Nat) (l:ba),i+k=n/\l.length=n/\(∀j,j<i->l.getD j 0=(j:Int))/\sL X ub rb n l/\aK2 ub n mv A.F/\aD 21 A.F= .int .i64 (n:Int)/\aD 22 A.F= .int .i64 (i:Int)
theorem aP5{Y:St}{F0:Fr}{l0:ba}(hn:n<=1000000)(hS:Same S Y)(hs:S.nx<=rb)(hU:sL Y ub rb n l0)(hl:l0.length=n)(hZ:aK2 ub n mv F0)(p21:aD 21 F0= .int .i64 (n:Int))(p22:aD 22 F0= .int .i64 ((0:Nat):Int)):
  iM fns qk2 ⟨F0,false⟩ Y fun o A' X=>o= .normal/\aQJ S ub rb n mv 0 A' X:=by
 refine aK (bH (aQJ S ub rb n mv) ?_ n _ _ ⟨rfl,hS,0,l0,ar,hl,fun j hj=>ar,hU,hZ,p21,p22⟩);clear hZ p21 p22 hU hl hS;rintro k ⟨F,inr⟩ X ⟨q0,hX,i,l,hik,hl,hf,hU,⟨p0,p1,p5⟩,p21,p22⟩;simp only at q0 p0 p1 p5 p21 p22;subst q0;refine bO (dn p21 p22 ?_);by_cases hlt:i<n;rotate_left
 ·refine aA (aM (by simp only[↓sU,sD,rE,↓reduceIte,rA,Aa (show ¬ (i:Int)<(n:Int) by omega)]) (bJ ?_));refine ae ?_;obtain rfl:k=0:=by omega
  exact⟨rfl,hX,i,l,hik,hl,hf,hU,(by refine⟨?_,?_,?_⟩<;>simp only[↓sU,sD,rE,↓reduceIte,rA,p0,p1,p5]),by refine⟨?_,?_⟩<;>simp only[↓sU,sD,rE,↓reduceIte,rA,p21,p22]⟩
 refine aA (aN (by simp only[↓sU,sD,rE,↓reduceIte,rA,Ac (show(i:Int)<(n:Int) by omega)]) (aI ?_));try refine ae ?_
 have w1:=dh i
 have hia:=dR (b:=rb) (o:=false) hlt;have hu:=aDr hU.u;refine aA (aK (aA (aJ ?_)));refine dm p22 ?_;refine aJ (dw p5 @bN @bM @aC @aB hu @aH hia ?_);refine fI (fun call=>by refine dn @dS @cR ?_;exact sM (S:=X) hU.r (by rw[hl];exact hlt)) ?_;refine ae ?_;refine aJ (dn p22 w1 ?_);refine⟨k - 1,ar,rfl,hX.put hs _,i+1,l.set i (i:Int),ar,by rw[Aq];exact hl,fun j hj=>?_,hU.put (m:=0),(by refine⟨?_,?_,?_⟩<;>simp only[↓sU,sD,rE,↓reduceIte,rA,p0,p1,p5]),by refine⟨?_,?_⟩<;>simp only[↓sU,sD,rE,↓reduceIte,rA,p21]⟩;rw[gJ ar];split
 ·rename_i e;rw[e]
 ·exact hf j ar
def aRG(S:St)(ub rb n j ml:Nat)(mv mrow:AV)(m:ba)(E:Nat->Nat->Prop)(up0:ba)(k:Nat)(A:bG)(X:St):Prop:=A.inr=false/\Same S X/\∃ (i:Nat) (up:ba),i+k=n/\sL X ub rb n up/\wH n E up/\(∀x y,x<n->y<n->root up0 x=root up0 y->root up x=root up y)/\(∀x,x<i->root up x=root up (m.getD x 0).toNat)/\aK2 ub n mv A.F/\aD 33 A.F=mv/\aD 34 A.F= .int .i64 (ml:Int)/\aD 35 A.F= .int .i64 (j:Int)/\aD 39 A.F=mrow/\aD 40 A.F= .int .i64 (n:Int)/\aD 41 A.F= .int .i64 (i:Int)
theorem aQn{Y:St}{F0:Fr}{up0 m:ba}{mrow:AV}{j ml:Nat}{E:Nat->Nat->Prop}(H:Has fns)(hn:n<=1000000)(hS:Same S Y)(hs:S.nx<=rb)(hU:sL Y ub rb n up0)(hup:wH n E up0)(hm:bI .i64 S mrow m)(hml:m.length=n)(hin:∀x,x<n->0<=m.getD x 0/\m.getD x 0<n)(hE:∀x,x<n->E x (m.getD x 0).toNat)
  (hZ:aK2 ub n mv F0) (p33:aD 33 F0=mv) (p34:aD 34 F0= .int .i64 (ml:Int)) (p35:aD 35 F0= .int .i64 (j:Int)) (p39:aD 39 F0=mrow) (p40:aD 40 F0= .int .i64 (n:Int)) (p41:aD 41 F0= .int .i64 ((0:Nat):Int)):
  iM fns qk0 ⟨F0,false⟩ Y fun o A' X=>o= .normal/\aRG S ub rb n j ml mv mrow m E up0 0 A' X:=by
 refine aK (bH (aRG S ub rb n j ml mv mrow m E up0) ?_ n _ _ ⟨rfl,hS,0,up0,ar,hU,hup,fun _ _ _ _ e=>e,fun x hx=>ar,hZ,p33,p34,p35,p39,p40,p41⟩);clear hZ p33 p34 p35 p39 p40 p41 hU hup hS;rintro k ⟨F,inr⟩ X ⟨q0,hX,i,up,hik,hU,hup,hk,hd,⟨p0,p1,p5⟩,p33,p34,p35,p39,p40,p41⟩;simp only at q0 p0 p1 p5 p33 p34 p35 p39 p40 p41;subst q0;refine bO (dn p40 p41 ?_);by_cases hlt:i<n;rotate_left
 ·refine aA (aM (by simp only[↓sU,sD,rE,↓reduceIte,rA,Aa (show ¬ (i:Int)<(n:Int) by omega)]) (bJ ?_));refine ae ?_;obtain rfl:k=0:=by omega
  exact⟨rfl,hX,i,up,hik,hU,hup,hk,hd,(by refine⟨?_,?_,?_⟩<;>simp only[↓sU,sD,rE,↓reduceIte,rA,p0,p1,p5]),by refine⟨?_,?_,?_,?_,?_,?_⟩<;>simp only[↓sU,sD,rE,↓reduceIte,rA,p33,p34,p35,p39,p40,p41]⟩
 refine aA (aN (by simp only[↓sU,sD,rE,↓reduceIte,rA,Ac (show(i:Int)<(n:Int) by omega)]) (aI ?_));try refine ae ?_
 have w1:=dh i
 have ia:=(hm.same hX).cp (show i<m.length by omega);have la:=(hm.same hX).ld (show i<m.length by omega);have⟨m1,m2⟩:=hin i hlt;have hEi:=hE i hlt;have hdt:(∀x,x<i->root up x=root up (m.getD x 0).toNat):=hd;obtain⟨t,ht⟩:∃t:Nat,m.getD i 0=(t:Int):=⟨(m.getD i 0).toNat,ar⟩;rw[ht] at la hEi m2;rw[Az] at hEi;refine aA (aK (aA (aJ ?_)));refine dr p39 p41 @aH ia la ?_;refine aJ (dm p5 ?_);refine bD (ae ?_);refine aW (aIp H hU hup hlt (show t<n by omega) (.edge hEi) hn) ?_;rintro r X1 ⟨s1,up1,hU1,hup1,hk1,hij⟩;try refine ae ?_
 refine aJ (dn p41 w1 ?_);refine⟨k - 1,ar,rfl,bT.same hX s1 hs,i+1,up1,ar,hU1,hup1,fun x y hx hy e=>hk1 x y hx hy (hk x y hx hy e),fun x hx=>?_,(by refine⟨?_,?_,?_⟩<;>simp only[↓sU,sD,rE,↓reduceIte,rA,p0,p1,p5]),by refine⟨?_,?_,?_,?_,?_,?_⟩<;>simp only[↓sU,sD,rE,↓reduceIte,rA,p33,p34,p35,p39,p40]⟩;by_cases e:x=i
 ·subst e;rw[ht,Az];exact hij
 ·have:=hin x ar;exact hk1 x _ ar ar  (hdt x ar)
def aRB(S:St)(ub rb n ml:Nat)(mv:AV)(L:a9)(k:Nat)(A:bG)(X:St):Prop:=A.inr=false/\Same S X/\∃ (j:Nat) (up:ba),j+k=ml/\sL X ub rb n up/\wH n (iI n L) up/\(∀x q,x<n->q<j->root up x=root up ((L.getD q []).getD x 0).toNat)/\aK2 ub n mv A.F/\aD 33 A.F=mv/\aD 34 A.F= .int .i64 (ml:Int)/\aD 35 A.F= .int .i64 (j:Int)
theorem aQt{Y:St}{F0:Fr}{up0:ba}{L:a9}(H:Has fns)(hn:n<=1000000)(hS:Same S Y)(hs:S.nx<=rb)(hU:sL Y ub rb n up0)(hup:wH n (iI n L) up0)(hm:aE 1 iD S mv L)(hL:L.length<=1000000)(hin:∀m∈L,m.length=n/\∀x,x<n->0<=m.getD x 0/\m.getD x 0<n)
  (hZ:aK2 ub n mv F0) (p33:aD 33 F0=mv) (p34:aD 34 F0= .int .i64 (L.length:Int)) (p35:aD 35 F0= .int .i64 ((0:Nat):Int)):
  iM fns qk6 ⟨F0,false⟩ Y fun o A' X=>o= .normal/\aRB S ub rb n L.length mv L 0 A' X:=by
 refine aK (bH (aRB S ub rb n L.length mv L) ?_ L.length _ _ ⟨rfl,hS,0,up0,ar,hU,hup,fun x q hx hq=>ar,hZ,p33,p34,p35⟩);clear hZ p33 p34 p35 hU hup hS;rintro k ⟨F,inr⟩ X ⟨q0,hX,j,up,hjk,hU,hup,hd,⟨p0,p1,p5⟩,p33,p34,p35⟩;simp only at q0 p0 p1 p5 p33 p34 p35;subst q0;refine bO (dn p34 p35 ?_);by_cases hlt:j<L.length;rotate_left
 ·refine aA (aM (by simp only[↓sU,sD,rE,↓reduceIte,rA,Aa (show ¬ (j:Int)<(L.length:Int) by omega)]) (bJ ?_));refine ae ?_;obtain rfl:k=0:=by omega
  exact⟨rfl,hX,j,up,hjk,hU,hup,hd,(by refine⟨?_,?_,?_⟩<;>simp only[↓sU,sD,rE,↓reduceIte,rA,p0,p1,p5]),by refine⟨?_,?_,?_⟩<;>simp only[↓sU,sD,rE,↓reduceIte,rA,p33,p34,p35]⟩
 refine aA (aN (by simp only[↓sU,sD,rE,↓reduceIte,rA,Ac (show(j:Int)<(L.length:Int) by omega)]) (aI ?_));try refine ae ?_
 have w1:=dh j
 have⟨xb,xq,a,xi,xs,xl⟩:=aGr hm hlt;have xl:=xl X hX;have hmem:L.getD j []∈L:=by rw[Ad,Ab hlt];exact Bo hlt
 have⟨l1,l2⟩:=hin _ hmem;have xlen:=(xs.same hX).len;rw[l1] at xlen;refine aA (aK (aA (aJ ?_)));refine dr p33 p35 @aH xi xl ?_;refine bO (dn xlen @Ah ?_);refine aX (aQn (S:=S) (ub:=ub) (rb:=rb) (n:=n) (mv:=mv) (mrow:=a) (m:=L.getD j []) (j:=j) (ml:=L.length) (E:=iI n L) (up0:=up) H hn hX hs hU hup xs l1 l2 (fun x hx=>⟨hx,_,hmem,rfl⟩) (by refine⟨?_,?_,?_⟩<;>simp only[↓sU,sD,rE,↓reduceIte,rA,p0,p1,p5]) (ah p33) (ah p34) (ah p35) (af) (af) (ag)) ?_;clear p0 p1 p5 p33 p34 p35;rintro o ⟨F,inr⟩ X1 ⟨rfl,q0,hX1,i,up1,hik,hU1,hup1,hk1,hd1,⟨p0,p1,p5⟩,p33,p34,p35,_,_,_⟩;simp only at q0 p0 p1 p5 p33 p34 p35;subst q0;obtain rfl:i=n:=by omega
 try refine ae ?_
 refine aJ (dn p35 w1 ?_);refine⟨k - 1,ar,rfl,hX1,j+1,up1,ar,hU1,hup1,fun x q hx hq=>?_,(by refine⟨?_,?_,?_⟩<;>simp only[↓sU,sD,rE,↓reduceIte,rA,p0,p1,p5]),by refine⟨?_,?_,?_⟩<;>simp only[↓sU,sD,rE,↓reduceIte,rA,p33,p34]⟩;by_cases e:q=j
 ·subst e;exact hd1 x hx
 ·have hq2:q<L.length:=by omega
  have hmq:L.getD q []∈L:=by rw[Ad,Ab hq2];exact Bo hq2
  have:=(hin _ hmq).2 x hx;exact hk1 x _ hx ar (hd x q hx ar)
def aQ3(S:St)(ub rb ob n:Nat)(E:Nat->Nat->Prop)(up0:ba)(k:Nat)(A:bG)(X:St):Prop:=A.inr=false/\Same S X/\ob<X.nx/\∃ (i:Nat) (l up:ba),i+k=n/\l.length=n/\(∀j,j<i->l.getD j 0=((root up0 j:Nat):Int))/\X.h.get ob=some (.cells (aU l) false 0)/\sL X ub rb n up/\wH n E up/\(∀x,x<n->root up x=root up0 x)/\aD 5 A.F= .ptr ub 0/\aD 11 A.F= .sl ob 0 n n false/\aD 55 A.F= .int .i64 (n:Int)/\aD 56 A.F= .int .i64 (i:Int)
theorem aQd{Y:St}{F0:Fr}{up0 l0:ba}{ob:Nat}{E:Nat->Nat->Prop}(H:Has fns)(hn:n<=1000000)(hS:Same S Y)(hs:S.nx<=rb)(hso:S.nx<=ob)(hor:ob≠rb)(hou:ob≠ub)(hU:sL Y ub rb n up0)(hup:wH n E up0)(ho:Y.h.get ob=some (.cells (aU l0) false 0))(hol:ob<Y.nx)(hl0:l0.length=n)
  (p5:aD 5 F0= .ptr ub 0) (p11:aD 11 F0= .sl ob 0 n n false) (p55:aD 55 F0= .int .i64 (n:Int)) (p56:aD 56 F0= .int .i64 ((0:Nat):Int)):
  iM fns qk1 ⟨F0,false⟩ Y fun o A' X=>o= .normal/\aQ3 S ub rb ob n E up0 0 A' X:=by
 refine aK (bH (aQ3 S ub rb ob n E up0) ?_ n _ _ ⟨rfl,hS,hol,0,l0,up0,ar,hl0,fun j hj=>ar,ho,hU,hup,fun _ _=>rfl,p5,p11,p55,p56⟩);clear p5 p11 p55 p56 hU ho hol hS;have hup0:=hup;clear hup;rintro k ⟨F,inr⟩ X ⟨q0,hX,hol,i,l,up,hik,hl,hf,ho,hU,hup,hr,p5,p11,p55,p56⟩;simp only at q0 p5 p11 p55 p56;subst q0;refine bO (dn p55 p56 ?_);by_cases hlt:i<n;rotate_left
 ·refine aA (aM (by simp only[↓sU,sD,rE,↓reduceIte,rA,Aa (show ¬ (i:Int)<(n:Int) by omega)]) (bJ ?_));refine ae ?_;obtain rfl:k=0:=by omega
  exact⟨rfl,hX,hol,i,l,up,hik,hl,hf,ho,hU,hup,hr,by refine⟨?_,?_,?_,?_⟩<;>simp only[↓sU,sD,rE,↓reduceIte,rA,p5,p11,p55,p56]⟩
 refine aA (aN (by simp only[↓sU,sD,rE,↓reduceIte,rA,Ac (show(i:Int)<(n:Int) by omega)]) (aI ?_));try refine ae ?_
 have w1:=dh i
 have hia:=dR (b:=ob) (o:=false) hlt;refine aA (aK (aA (aJ ?_)));refine dm p56 ?_;refine aJ (dn p5 p11 ?_);refine bD (ae ?_);refine aW (aAi H hU hup hlt hn) ?_;rintro _ X1 ⟨rfl,s1,up1,hU1,hup1,hr1⟩;rw[hr i hlt];have ho1:=(s1.2 _ hol hor).trans ho;have hX1:=bT.same hX s1 hs;refine dn @aH hia ?_;refine fI (fun call=>by refine dn @dS @cR ?_;exact sM (S:=X1) ho1 (by rw[hl];exact hlt)) ?_;refine ae ?_;refine aJ (dn p56 w1 ?_);refine⟨k - 1,ar,rfl,hX1.put hso _,Ae hol s1.1,i+1,l.set i ((root up0 i:Nat):Int),up1,ar,by rw[Aq];exact hl,fun j hj=>?_,fk,⟨by simp only;rw[di,if_neg (Bt hou)];exact hU1.u,by simp only;rw[di,if_neg (Bt hor)];exact hU1.r,hU1.lu,hU1.lr,hU1.ne⟩,hup1,fun x hx=>by rw[hr1 x hx,hr x hx],by refine⟨?_,?_,?_,?_⟩<;>simp only[↓sU,sD,rE,↓reduceIte,rA,p5,p11,p55]⟩;rw[gJ ar];split
 ·rename_i e;rw[e]
 ·exact hf j ar
end
theorem aCg{S:St}{mv:AV}{n:Nat}{L:a9}(H:Has fns)(hn:n<=1000000)(hm:aE 1 iD S mv L)(hL:L.length<=1000000)(hin:∀m∈L,m.length=n/\∀x,x<n->0<=m.getD x 0/\m.getD x 0<n):
  fZ fns (.fn 167 [] []) [.int .i64 (n:Int),mv] S fun r S'=>Same S S'/\∃out,oH S S' r out/\lD n (iI n L) out:=by
 refine cF H.f167 (by simp) ?_;refine ae ?_;refine bO (ae ?_);refine bO (am ?_);refine fN (lN (n:=n) (by simp only[↓aF,aG,rE,↓reduceIte,rA,aH]) (by simp only[↓aF,aG,rE,↓reduceIte,rA,aH]) ax ax) ?_;intro S1 s1 n1 c1;rw[qJ] at c1;have hb1:=fun(F:Fr) (h:Ev.T AB) (a:aD 14 F= .sl S.nx 0 n n false)=>aQL (t:=14) (F:=F) (h:=h) a;refine dx hb1 ?_;refine cI (cs:=[.sl S.nx 0 n n false]) (by refine am ?_;exact aY _) ?_;intro S2 s2 n2 c2;refine ae ?_;have s12:=s1.trans s2;have hU2:sL S2 S1.nx S.nx n (List.replicate n 0):=⟨c2,(s2.2 _ ar).trans c1,ar,ar,ar⟩;have hu2:=aDr c2;have e0:jJ (.sl S.nx 0 n n false)=some (.int .i64 (n:Int)):=rfl;refine fC (dt @bN @bM @aC @aB hu2 e0 ?_);refine aX (aP5 (S:=S) (n:=n) (ub:=S1.nx) (rb:=S.nx) (mv:=mv) hn s12 (Ag _) hU2 (Au ..) (by refine⟨?_,?_,?_⟩<;>simp only[↓sU,sD,rE,↓reduceIte,rA]) (af) (ag)) ?_;clear hU2 hu2 c2 c1;rintro o ⟨F,inr⟩ X ⟨rfl,q0,sX,i,l,hik,hl,hf,hU,⟨p0,p1,p5⟩,_,_⟩;simp only at q0 p0 p1 p5;subst q0;obtain rfl:i=n:=by omega
 have el:l=(List.range i).map fun k:Nat=>(k:Int):=oP (by simp [hl]) fun j hj=>by
  rw[hf j ar,Ad,Am,Bf ar];rfl
 have hup:wH i (iI i L) l:=by rw[el];exact aDf
 try refine ae ?_
 refine fC ?_;refine dp p1 ((aE.same (E:=iD) cm hm sX).len) @Ah ?_;refine aX (aQt (S:=S) (n:=i) (ub:=S1.nx) (rb:=S.nx) (mv:=mv) (L:=L) H hn sX (Ag _) hU hup hm hL hin (by refine⟨?_,?_,?_⟩<;>simp only[↓sU,sD,rE,↓reduceIte,rA,p0,p1,p5]) (af) (af) (ag)) ?_;clear p0 p1 p5;rintro o ⟨F,inr⟩ X2 ⟨rfl,q0,sX2,j,up,hjl,hU2,hup2,hd,⟨p0,p1,p5⟩,_,_,_⟩;simp only at q0 p0 p1 p5;subst q0;obtain rfl:j=L.length:=by omega
 try refine ae ?_
 refine bO (dx p0 ?_);refine fN (lN (n:=i) (by simp only[↓aF,aG,rE,↓reduceIte,rA,aH]) (by simp only[↓aF,aG,rE,↓reduceIte,rA,aH]) ax ax) ?_;intro X3 x3 m3 c3;rw[qJ] at c3;refine am ?_;have e3:jJ (.sl X2.nx 0 i i false)=some (.int .i64 (i:Int)):=rfl;have hlu:=hU2.lu;have hlr:=hU2.lr;have hnx:=sX2.1;refine fC (dm e3 ?_);refine aX (aQd (S:=S) (n:=i) (ub:=S1.nx) (rb:=S.nx) (ob:=X2.nx) (E:=iI i L) (up0:=up) H hn (sX2.trans x3) (Ag _) hnx ar ar  (hU2.same x3) hup2 c3 ar (Au ..) (ah p5) (af) (af) (ag)) ?_;clear p0 p1 p5;rintro o ⟨F,inr⟩ X4 ⟨rfl,q0,sX4,hol,i',out,up4,hi',hol',hof,ho4,_,_,_,_,p11,_,_⟩;simp only at q0 p11;subst q0;obtain rfl:i'=i:=by omega
 try refine ae ?_
 refine bO (dm p11 ?_);refine aP (ae ?_);refine⟨sX4,out,⟨X2.nx,by rw[hol'],hnx,hol,ho4⟩,?_⟩;have hE:∀x y,iI i' L x y->x<i'/\y<i':=fun x y ⟨hx,m,hmm,e⟩=>by
  have:=(hin m hmm).2 x hx;omega
 refine aQb hup2 hE (fun x y ⟨hx,m,hmm,e⟩=>?_) hol' fun x hx=>hof x hx;obtain⟨q,hq,rfl⟩:=Ey.1 hmm;have:=hd x q hx hq;rw[Ad (l:=L),Ab hq] at this;rw[e];exact this
noncomputable def kQ(g:aS):a9->Int
 | []=>0
 | m::L=>if jE g.bh.length m (iR g m)≠0 then jE g.bh.length m (iR g m) else kQ g L
def aLV(g:aS)(S:St)(cs:bf)(m:ba):Prop:=∃x y,cs= [x,y]/\bI .i64 S x (de g m)/\aE 1 iD S y (df g m)
theorem vR.low{g:aS}{m:ba}{S S1 X:St}{x y:AV}(h:vR g m S1 X x y)(hs:S.nx<=S1.nx):vR g m S X x y:=by
 have⟨⟨b,h1,h2,h3,h4⟩,ab,bs,cs,k1,k2,k3,k4,k5⟩:=h;exact⟨⟨b,h1,Al hs h2,h3,h4⟩,ab,bs,cs,k1,Al hs k2,k3,k4,k5.low hs⟩
theorem vR.moveF{g:aS}{m:ba}{S X X':St}{x y:AV}(h:vR g m S X x y)(hn:X.nx<=X'.nx)(hh:∀c cs,c<X.nx->X.h.get c=some (.cells cs false 0)->X'.h.get c=X.h.get c):vR g m S X' x y:=by
 have⟨⟨b,h1,h2,h3,h4⟩,ab,bs,cs,k1,k2,k3,k4,k5⟩:=h;refine⟨⟨b,h1,h2,Ae h3 hn,(hh b _ h3 h4).trans h4⟩,ab,bs,cs,k1,k2,Ae k3 hn,(hh ab _ k3 k4).trans k4,k5.move hn fun j hj=>?_⟩;have⟨a,b,c⟩:=k5.bl j hj;exact hh _ _ b c
theorem vR.sl{g:aS}{m:ba}{S X:St}{x y:AV}(h:vR g m S X x y):aLV g X [x,y] m:=by
 obtain⟨h1,ab,bs,cs,rfl,k2,k3,k4,k5⟩:=h;exact⟨x,_,rfl,h1.is,k5.is k4 k3 (Ag _)⟩
theorem vR.cel{g:aS}{m:ba}{S X:St}{x y:AV}(h:vR g m S X x y):x.cells=some [x]/\y.cells=some [y]:=by
 obtain⟨⟨b,rfl,_⟩,ab,bs,cs,rfl,_⟩:=h;exact⟨rfl,rfl⟩
theorem aS9{S:St}{t:Nat}{x y:AV}{o:Bool}{sz:Nat}(h:S.h.get t=some (.cells [x,y] o sz)):eY (.sl t 0 1 1 false) S.h 2 1=some [x,y]:=by
 show bC (cK S.h t) (fun cs=>cut cs 0 (1 * 2))=_;unfold cK;rw[h];rfl
structure aEP(g:aS)(S X:St)(v:AV)(cs:bf)(L:a9)(j:Nat):Prop where
 gr:fY 2 S X v j cs
 el:∀q,q<j->∃x y,cs[q * 2]? =some x/\cs[q * 2+1]? =some y/\vR g (L.getD q []) S X x y
theorem aEP.is{g:aS}{S X:St}{v:AV}{cs:bf}{L:a9}(h:aEP g S X v cs L L.length):aE 2 (aLV g) X v L:=by
 rcases h.gr with⟨rfl,h0,_⟩ | ⟨b,rfl,h1,h2,h3,h4⟩
 ·exact .inl ⟨Bu.1 h0,.inl rfl⟩
 ·refine .inr ⟨b,0,L.length,true,cs,rfl,Ag _,h2,by unfold cK;rw[h3];rfl,fun i a hi=>?_⟩;obtain⟨hlt,rfl⟩:=Ai.1 hi;have⟨x,y,e1,e2,e3⟩:=h.el i hlt;rw[Ad,Ab hlt] at e3;refine⟨[x,y],rfl,fun q w hq=>?_,e3.sl⟩;rw[An]
  match q,hq with
  | 0,hq=>cases hq;exact e1
  | 1,hq=>cases hq;exact e2
  | q+2,hq=>simp at hq
theorem aEP.move{g:aS}{S X X':St}{v:AV}{cs:bf}{L:a9}{j:Nat}(h:aEP g S X v cs L j)(hs:Same X X'):aEP g S X' v cs L j:=⟨h.gr.step hs,fun q hq=>by
 have⟨x,y,e1,e2,e3⟩:=h.el q hq;exact⟨x,y,e1,e2,e3.moveF hs.1 fun c _ hc _=>hs.2 c hc⟩⟩
theorem aEP.push{g:aS}{S X:St}{v x y:AV}{cs:bf}{L:a9}{j t:Nat}(h:aEP g S X v cs L j)(hS:Same S X)(hp:vR g (L.getD j []) S X x y)(ht:X.h.get t=some (.cells [x,y] false 0))(hj:j+1<=1000):
  ∃v' X',gP 48 2 v (.sl t 0 1 1 false) X=some (v',X')/\Same S X'/\X.nx<=X'.nx/\(∀c,c<X.nx->aZ v≠some c->X'.h.get c=X.h.get c)/\aEP g S X' v' (cs++ [x,y]) L (j+1):=by
 have⟨v',X',e1,e2,e3,e4,e5⟩:=h.gr.app (bytes:=48) (m:=1) hS rfl (aS9 ht) rfl Nat.one_pos ax ax;have hoff:∀c cs',c<X.nx->X.h.get c=some (.cells cs' false 0)->X'.h.get c=X.h.get c:=fun c cs' hc hg=>e5 c hc (h.gr.off hg);refine⟨v',X',e1,e3,e4,e5,e2,fun q hq=>?_⟩;have hcl:=h.gr.csl;by_cases e:q=j
 ·subst e;refine⟨x,y,?_,?_,hp.moveF e4 hoff⟩
  ·rw[Be ar,hcl,Eh];rfl
  ·rw[Be ar,hcl,show q * 2+1 - q * 2=1 by omega];rfl
 ·have⟨x',y',k1,k2,k3⟩:=h.el q ar;have a1:=(Ai.1 k1).1;have a2:=(Ai.1 k2).1;exact⟨x',y',by rw[Bg a1];exact k1,by rw[Bg a2];exact k2,k3.moveF e4 hoff⟩
theorem aD8{g:aS}{L:a9}{j:Nat}(hj:j<L.length)(h:jE g.bh.length (L.getD j []) (iR g (L.getD j []))=0):kQ g (L.drop j)=kQ g (L.drop (j+1)):=by
 rw[Bw hj];have e:L.getD j []=L[j]:=by rw[Ad,Ab hj];rfl
 rw[e] at h;show(if _≠_ then _ else _)=_;rw[if_neg (fun e=>e h)]
theorem aDM{g:aS}{L:a9}{j:Nat}(hj:j<L.length)(h:jE g.bh.length (L.getD j []) (iR g (L.getD j []))≠0):kQ g (L.drop j)=jE g.bh.length (L.getD j []) (iR g (L.getD j [])):=by
 rw[Bw hj];have e:L.getD j []=L[j]:=by rw[Ad,Ab hj];rfl
 rw[e] at h ⊢;show(if _≠_ then _ else _)=_;rw[if_pos h]
def aRo(S:St)(wb:Nat)(mv:AV)(g:aS)(L:a9)(k:Nat)(A:bG)(X:St):Prop:=A.inr=false/\Same S X/\∃ (j:Nat) (v:AV) (cs:bf),j+k=L.length/\kQ g L=kQ g (L.drop j)/\aEP g S X v cs L j/\aD 0 A.F= .ptr wb 0/\aD 6 A.F=v/\aD 14 A.F=mv/\aD 15 A.F= .int .i64 (L.length:Int)/\aD 16 A.F= .int .i64 (j:Int)
theorem aGb{S:St}{wb plb szb:Nat}{nv iv pv mv:AV}{g:aS}{L:a9}{T:List dM}{Z:ba}(H:Has fns)(hf:cT g=0)(hn:aE 6 bX S nv g.bh)(hi:aE 2 bP S iv g.bj)(hm:aE 1 iD S mv L)(hT:iN g=some T)(hTl:T.length=g.bh.length)(hpv:bI .i64 S pv (T.map (·.1)))(hB:jF S wb plb szb pv nv iv g (lO g) Z):
  fZ fns (.fn 166 [] []) [.ptr wb 0,mv] S fun r S'=>Same S S'/\∃v,r= .tup [v,.int .i64 (if 16<L.length then 4 else kQ g L)]/\((if 16<L.length then 4 else kQ g L)≠0->v= .bw)/\((if 16<L.length then 4 else kQ g L)=0->aE 2 (aLV g) S' v L):=by
 have G:=gF hf;have hN2:=G.n2;refine cF H.f166 (by simp) ?_;refine ae ?_;refine bO (ae ?_);refine fC (dn hm.len @Ah ?_);by_cases h16:16<L.length
 ·rw[if_pos h16];refine aN (by simp only[↓sU,sD,rE,↓reduceIte,rA,Ac (show(L.length:Int)>16 by omega)]) ?_;refine bO (ae ?_);refine aP (ae ?_);exact⟨dk _,.bw,rfl,fun _=>rfl,fun h=>ar⟩
 rw[if_neg h16];refine aM (by simp only[↓sU,sD,rE,↓reduceIte,rA,Aa (show ¬ (L.length:Int)>16 by omega)]) (aI ?_);try refine ae ?_
 refine bO (ae ?_);refine aA (aX (Q:=fun o A' X=>(o= .normal/\aRo S wb mv g L 0 A' X)\/(o= .ret/\Same S X/\kQ g L≠0/\aD 4 A'.F= .bw/\aD 5 A'.F= .int .i64 (kQ g L))) (aA (aJ ?_)) ?_)
 ·refine dn hm.len @Ah ?_;refine aK (bH (aRo S wb mv g L) ?_ L.length _ _ ⟨rfl,dk _,0,.bw,[],ar,rfl,⟨.inl ⟨rfl,rfl,rfl⟩,fun q hq=>ar⟩,af,af,af,af,ag⟩);rintro k ⟨F,inr⟩ X ⟨q0,hX,j,v,cs,hjk,hE,hI,p0,p6,p14,p15,p16⟩;simp only at q0 p0 p6 p14 p15 p16;subst q0;refine bO (dn p15 p16 ?_);by_cases hlt:j<L.length;rotate_left
  ·refine aA (aM (by simp only[↓sU,sD,rE,↓reduceIte,rA,Aa (show ¬ (j:Int)<(L.length:Int) by omega)]) (bJ ?_));refine ae ?_;obtain rfl:k=0:=by omega
   exact .inl ⟨rfl,hX,j,v,cs,hjk,hE,hI,by refine⟨?_,?_,?_,?_,?_⟩<;>simp only[↓sU,sD,rE,↓reduceIte,rA,p0,p6,p14,p15,p16]⟩
  refine aA (aN (by simp only[↓sU,sD,rE,↓reduceIte,rA,Ac (show(j:Int)<(L.length:Int) by omega)]) (aI ?_));try refine ae ?_
  have w1:=dh j
  have⟨xb,xq,a,xi,xs,xl⟩:=aGr hm hlt;have xl:=xl X hX;have himd:=aD8 (g:=g) hlt;have hims:=aDM (g:=g) hlt;have hpush:=@aEP.push g S;obtain⟨m,hme⟩:∃m,L.getD j []=m:=⟨_,rfl⟩;rw[hme] at xs himd hims;have hBX:=hB.same hX;refine aA (aK (aA (aJ ?_)));refine dr p14 p16 @aH xi xl ?_;refine bO (dx p0 ?_);refine bD (am ?_);refine aW (zP (P:=vR g m) (ok:=iR g m) H (aDj (g:=g) (m:=m)) hBX.w (aE.same (E:=bX) bL hn hX) (xs.same hX) ar (fun h1 h2 _ S' hS'=>aC0 H (aE.same (E:=bX) bL hn (hX.trans hS')) (aE.same (E:=bP) bK hi (hX.trans hS')) (xs.same (hX.trans hS')) G ⟨h1,h2⟩ hT hTl (hpv.same (hX.trans hS')) (hBX.same hS'))) ?_;rintro _ X1 ⟨x1,x,y,rfl,hp,hnil⟩;refine dy @rN @sA ?_;refine cA ?_;intro X2 x2 m2 c2;try refine am ?_
  have hcel:x.cells=some [x]/\y.cells=some [y]:=by
   by_cases h0:jE g.bh.length m (iR g m)=0
   ·have⟨S0,_,h⟩:=hp h0;exact h.cel
   ·obtain⟨rfl,rfl⟩:=hnil h0;exact⟨rfl,rfl⟩
  refine cQ (b:=X1.nx) (ap) (by refine am ?_;exact aY _) c2 rfl rfl ?_;intro X3 x3 m3 c3;try refine am ?_
  have s13:Same X1 X3:=x3.same x2 (Ag _);have sX3:=(hX.trans x1).trans s13;clear x2 x3 c2;try refine ae ?_
  refine fC (ae ?_);by_cases h0:jE g.bh.length m (iR g m)=0;rotate_left
  ·refine aN (by simp only[↓sU,sD,rE,↓reduceIte,rA,Ac (show jE g.bh.length m (iR g m)≠0 from h0)]) ?_;refine bO (ae ?_);refine aP ?_;rw[hims h0] at hE;refine .inr ⟨rfl,sX3,by rw[hE];exact h0,by refine⟨?_,?_⟩<;>simp only[↓sU,sD,rE,↓reduceIte,rA,hE]⟩
  refine aM (by simp only[↓sU,sD,rE,↓reduceIte,rA,Aa (show ¬jE g.bh.length m (iR g m)≠0 from fun h=>h h0)]) (aI ?_);try refine ae ?_
  have⟨S0,hS0,hpi⟩:=hp h0;have hpi3:vR g (L.getD j []) S X3 x y:=by
   rw[hme];exact(hpi.moveF s13.1 fun c _ hc _=>s13.2 c hc).low (Al hX.1 hS0)
  refine aJ (dy p6 (aDO c3) ?_);refine fN (aI1 (a:=x) (b:=y) (ap)) ?_;intro X4 x4 m4 c4;have sX4:=sX3.trans x4;have⟨v',X5,eA,e2,e3,e4,e5⟩:=(hI.move ((x1.trans s13).trans x4)).push (t:=X3.nx) sX4 (hpi3.moveF x4.1 fun c _ hc _=>x4.2 c hc) c4 ar;try simp only[↓aF,aG,rE,↓reduceIte,rA,p6]
  refine fI (fun call=>by refine dx @gO ?_;exact eA) ?_;refine ae ?_;refine aJ (dn p16 w1 ?_);exact⟨k - 1,ar,rfl,e2,j+1,v',_,ar,by rw[hE];exact himd h0,e5,by refine⟨?_,?_,?_,?_,?_⟩<;>simp only[↓sU,sD,rE,↓reduceIte,rA,p0,p14,p15]⟩
 rintro o ⟨F,inr⟩ X (⟨rfl,q0,hX,j,v,cs,hjk,hE,hI,p0,p6,p14,p15,p16⟩ | ⟨rfl,hX,hne,p4,p5⟩)
 ·simp only at q0 p6;subst q0;obtain rfl:j=L.length:=by omega
  rw[List.drop_length] at hE;have hE0:kQ g L=0:=hE;try refine ae ?_
  refine bO (dm p6 ?_);refine aP (ae ?_);exact⟨hX,v,by rw[hE0],fun h=>absurd hE0 h,fun _=>hI.is⟩
 ·simp only at p4 p5;refine dn p4 p5 ?_;exact⟨hX,.bw,rfl,fun _=>rfl,fun h=>absurd h hne⟩
noncomputable def jH(g:aS)(L:a9):Int:=if cT g≠0 then cT g else if 16<L.length then 4 else kQ g L
theorem iS{g:aS}{L:a9}(h:jH g L=0):cT g=0/\L.length<=16/\kQ g L=0:=by
 unfold jH at h;split at h
 ·rename_i h1;exact absurd h h1
 rename_i h1;split at h
 ·cases h
 ·exact⟨Dd.1 h1,ar,h⟩
theorem iC{g:aS}:∀ {L:a9},kQ g L=0->∀m∈L,jE g.bh.length m (iR g m)=0
 | [],_,m,hm=>by cases hm
 | x::L,h,m,hm=>by
  have h:(if jE g.bh.length x (iR g x)≠0 then jE g.bh.length x (iR g x) else kQ g L)=0:=h;split at h
  ·rename_i h1;exact absurd h h1
  ·rename_i h1;rcases Bs.1 hm with rfl | hm
   ·exact Dd.1 h1
   ·exact iC h m hm
theorem gR{g:aS}{m:ba}(h:jE g.bh.length m (iR g m)=0):eX g m:=by
 unfold jE at h;split at h
 ·cases h
 rename_i h1;split at h
 ·cases h
 rename_i h2;split at h
 ·cases h
 rename_i h3;split at h
 ·rename_i h4;exact⟨⟨Dd.1 h1,Classical.not_not.1 h2⟩,h3,h4⟩
 ·cases h
def aRc(g:aS)(L:a9)(a b:ba):Prop:=lD g.bh.length (iI g.bh.length L) a/\lD g.bj.length (iI g.bj.length (L.map (de g))) b
structure aIw(X1 X:St)(v:AV)(cs:bf)(A:a9)(j:Nat):Prop where
 gr:fY 1 X1 X v j cs
 el:∀q,q<j->∃r,cs[q]? =some r/\bI .i64 X1 r (A.getD q [])
theorem aIw.is{X1 X:St}{v:AV}{cs:bf}{A:a9}(h:aIw X1 X v cs A A.length)(hs:Same X1 X):aE 1 iD X v A:=by
 rcases h.gr with⟨rfl,h0,_⟩ | ⟨b,rfl,h1,h2,h3,h4⟩
 ·exact .inl ⟨Bu.1 h0,.inl rfl⟩
 ·refine .inr ⟨b,0,A.length,true,cs,rfl,Ag _,h2,by unfold cK;rw[h3];rfl,fun i a hi=>?_⟩;obtain⟨hlt,rfl⟩:=Ai.1 hi;have⟨r,e1,e3⟩:=h.el i hlt;rw[Ad,Ab hlt] at e3;refine⟨[r],rfl,fun q w hq=>?_,r,rfl,e3.same hs⟩;rw[An,Cr]
  match q,hq with
  | 0,hq=>cases hq;exact e1
  | q+1,hq=>simp at hq
theorem aIw.push{X1 X:St}{v r:AV}{cs:bf}{A:a9}{j t:Nat}(h:aIw X1 X v cs A j)(hS:Same X1 X)(hr:bI .i64 X1 r (A.getD j []))(ht:X.h.get t=some (.cells [r] false 0))(hj:j+1<=1000):
  ∃v' X',gP 24 1 v (.sl t 0 1 1 false) X=some (v',X')/\Same X1 X'/\aIw X1 X' v' (cs++ [r]) A (j+1):=by
 have⟨v',X',e1,e2,e3,e4,e5⟩:=h.gr.app (bytes:=24) (m:=1) hS rfl (aLI ht) rfl Nat.one_pos ax ax;refine⟨v',X',e1,e3,e2,fun q hq=>?_⟩;have hcl:=h.gr.csl;by_cases e:q=j
 ·subst e;exact⟨r,by rw[Be ar,hcl,Cr,Eh];rfl,hr⟩
 ·have⟨r',k1,k2⟩:=h.el q ar;exact⟨r',by rw[Bg (Ai.1 k1).1];exact k1,k2⟩
theorem aHy{f:ba->ba}{L:a9}{j:Nat}(hj:j<L.length):(L.map f).getD j []=f (L.getD j []):=by
 rw[Ad,Am,Ab hj,Ad,Ab hj];rfl
theorem aIi{g:aS}{L:a9}(hf:cT g=0)(hL:∀m∈L,eX g m):(∀m∈L,m.length=g.bh.length/\∀x,x<g.bh.length->0<=m.getD x 0/\m.getD x 0<g.bh.length)/\∀m∈L.map (de g),m.length=g.bj.length/\∀x,x<g.bj.length->0<=m.getD x 0/\m.getD x 0<g.bj.length:=by
 have G:=gF hf;refine⟨fun m hm=>⟨(hL m hm).M.len,fun x hx=>?_⟩,fun m hm=>?_⟩
 ·have:=(hL m hm).M.at hx;omega
 ·obtain⟨q,hq,rfl⟩:=Dg.1 hm;refine⟨by simp [de],fun x hx=>?_⟩;have A:=hL q hq;have⟨h1,h2,h3⟩:=G.fst x hx;have e:(de g q).getD x 0=(b8 g (fG q (fU g x))).info:=by
   unfold de;rw[Ad,Am,Bf hx];rfl
  rw[e];have:=G.inf _ (A.M.at h1).2 (by rw[<- (A.A.like _ h1).1];exact h2);exact⟨this.1,this.2.1⟩
def aRS(X1:St)(gb:Nat)(mv imv:AV)(A0:a9)(k:Nat)(A:bG)(X:St):Prop:=A.inr=false/\Same X1 X/\∃ (j:Nat) (v:AV) (cs:bf),j+k=A0.length/\aIw X1 X v cs A0 j/\aD 1 A.F=mv/\aD 2 A.F= .ptr gb 0/\aD 10 A.F=v/\aD 30 A.F=imv/\aD 31 A.F= .int .i64 (A0.length:Int)/\aD 32 A.F= .int .i64 (j:Int)
theorem aGy{S:St}{nv iv mv:AV}{g:aS}{L:a9}(H:Has fns)(hn:aE 6 bX S nv g.bh)(hi:aE 2 bP S iv g.bj)(hln:g.bh.length<=100000)(hm:aE 1 iD S mv L):
  fZ fns (.fn 136 [] []) [.agg [.int .i64 g.bo,nv,iv],mv] S fun r S'=>Same S S'/\∃x y,r= .tup [x,y,.int .i64 (jH g L)]/\(jH g L≠0->x= .bw/\y= .bw)/\(jH g L=0->∃a b,oH S S' x a/\oH S S' y b/\aRc g L a b):=by
 refine cF H.f136 (by simp) ?_;refine ae ?_;refine bO ?_;refine cI (by refine ae ?_;exact aY _) ?_;intro S1 s1 n1 g1;refine ae ?_;refine bO (dm (eJ g1) ?_);refine bD (ae ?_);refine aW (aBX H (aE.same (E:=bX) bL hn s1) (aE.same (E:=bP) bK hi s1) hln) ?_;rintro _ S2 ⟨s2,p,rfl,hlook⟩;refine dn @rN @sA ?_;have s12:=s1.trans s2;refine fC (ae ?_);by_cases h0:cT g=0;rotate_left
 ·have hE:jH g L=cT g:=by unfold jH;rw[if_pos h0]
  rw[hE];refine aN (by simp only[↓sU,sD,rE,↓reduceIte,rA,Ac (show cT g≠0 from h0)]) ?_;refine bO (ae ?_);refine aP (ae ?_);exact⟨s12,.bw,.bw,rfl,fun _=>⟨rfl,rfl⟩,fun h=>absurd h h0⟩
 have hE:jH g L=if 16<L.length then 4 else kQ g L:=by unfold jH;rw[if_neg (fun h=>h h0)]
 rw[hE];refine aM (by simp only[↓sU,sD,rE,↓reduceIte,rA,Aa (show ¬cT g≠0 from fun h=>h h0)]) (aI ?_);try refine ae ?_
 obtain⟨wb,plb,szb,pv0,T,Z,rfl,hwb,hT,hTl,hpv,hB⟩:=hlook h0;have hn2:=aE.same (E:=bX) bL hn s12;have hi2:=aE.same (E:=bP) bK hi s12;have hm2:=aE.same (E:=iD) cm hm s12;refine bO (ae ?_);refine bD (ae ?_);refine aW (aGb H h0 hn2 hi2 hm2 hT hTl hpv hB) ?_;rintro _ S3 ⟨s3,imv,rfl,himn,him⟩;generalize he:(if 16<L.length then(4:Int) else kQ g L)=e at *;refine dn @rN @sA ?_;have s13:=s12.trans s3;refine fC (ae ?_);by_cases e0:e=0;rotate_left
 ·refine aN (by simp only[↓sU,sD,rE,↓reduceIte,rA,Ac (show e≠0 from e0)]) ?_;refine bO (ae ?_);refine aP (ae ?_);exact⟨s13,.bw,.bw,rfl,fun _=>⟨rfl,rfl⟩,fun h=>absurd h e0⟩
 refine aM (by simp only[↓sU,sD,rE,↓reduceIte,rA,Aa (show ¬e≠0 from fun h=>h e0)]) (aI ?_);try refine ae ?_
 have hims:=him e0;have hL16:L.length<=16:=by
  rw[<-he] at e0;split at e0
  ·cases e0
  ·omega
 have hAll:∀m∈L,eX g m:=fun m hm=>by
  rw[<-he] at e0;rw[if_neg ar] at e0;exact gR (iC e0 m hm)
 have⟨hin1,hin2⟩:=aIi h0 hAll;have G:=gF h0;have hAl:(L.map (de g)).length=L.length:=Aj ..;refine bO (ae ?_);refine aA (aX (Q:=fun o A' X=>o= .normal/\aRS S3 S.nx mv imv (L.map (de g)) 0 A' X) (aA (aJ ?_)) ?_)
 ·refine dn (aE.len hims) @Ah ?_;refine aK (bH (aRS S3 S.nx mv imv (L.map (de g))) ?_ (L.map (de g)).length _ _ ⟨rfl,dk _,0,.bw,[],ar,⟨.inl ⟨rfl,rfl,rfl⟩,fun q hq=>ar⟩,af,af,af,af,ah hAl,ag⟩);rintro k ⟨F,inr⟩ X ⟨q0,hX,j,v,cs,hjk,hI,p1,p2,p10,p30,p31,p32⟩;simp only at q0 p1 p2 p10 p30 p31 p32;subst q0;refine bO (dn p31 p32 ?_);by_cases hlt:j<(L.map (de g)).length;rotate_left
  ·refine aA (aM (by simp only[↓sU,sD,rE,↓reduceIte,rA,Aa (show ¬ (j:Int)<(((L.map (de g)).length:Nat):Int) by omega)]) (bJ ?_));refine ae ?_;obtain rfl:k=0:=by omega
   exact⟨rfl,hX,j,v,cs,hjk,hI,by refine⟨?_,?_,?_,?_,?_,?_⟩<;>simp only[↓sU,sD,rE,↓reduceIte,rA,p1,p2,p10,p30,p31,p32]⟩
  refine aA (aN (by simp only[↓sU,sD,rE,↓reduceIte,rA,Ac (show(j:Int)<(((L.map (de g)).length:Nat):Int) by omega)]) (aI ?_));try refine ae ?_
  have w1:=dh j
  have hjL:j<L.length:=by omega
  obtain⟨_,xb,xq,xi,xlt,_,⟨x,y,rfl,hx,hy⟩,xag,_⟩:=aE.at hims ay (aA6 hjL);rw[<-iA hX xlt] at xag;have hcx:x.cells=some [x]:=bI.cells hx;refine aA (aK (aA (aJ ?_)));refine ef p30 p32 @aH xi xag ?_;refine cA ?_;intro X2 x2 m2 c2;try refine am ?_
  refine cQ (b:=X.nx) (ap) (by refine am ?_;exact aY _) c2 rfl rfl ?_;intro X3 x3 m3 c3;try refine am ?_
  have s13':Same X X3:=x3.same x2 (Ag _);have sX3:=hX.trans s13';clear x2 x3 c2;refine aJ (ed p10 @aC @aB (aMa c3) ?_);refine fN (aCY hx (ap)) ?_;intro X4 x4 m4 c4;have sX4:=sX3.trans x4;have hI4:aIw S3 X4 v cs (L.map (de g)) j:=⟨hI.gr.step (s13'.trans x4),hI.el⟩;have⟨v',X5,eA,e2,e3⟩:=hI4.push (t:=X3.nx) sX4 (r:=x) (by rw[aHy hjL];exact hx) c4 ar;try simp only[↓aF,aG,rE,↓reduceIte,rA,p10]
  refine fI (fun call=>by refine dx @gO ?_;exact eA) ?_;refine ae ?_;refine aJ (dn p32 w1 ?_);exact⟨k - 1,ar,rfl,e2,j+1,v',_,ar,e3,by refine⟨?_,?_,?_,?_,?_,?_⟩<;>simp only[↓sU,sD,rE,↓reduceIte,rA,p1,p2,p30,p31]⟩
 rintro o ⟨F,inr⟩ X ⟨rfl,q0,hX,j,v,cs,hjk,hI,p1,p2,p10,_,_,_⟩;simp only at q0 p1 p2 p10;subst q0;obtain rfl:j=(L.map (de g)).length:=by omega
 have hrows:=hI.is hX;have hsX:=s13.trans hX;have gX:X.h.get S.nx=some (.cells [.int .i64 g.bo,nv,iv] false 0):=((s2.trans (s3.trans hX)).2 _ ar).trans g1;have lgX:S.nx<X.nx:=by have:=(s2.trans (s3.trans hX)).1;omega
 have snv:=aE.self hn;have siv:=aE.self hi;have lnv:=aE.len hn;have liv:=aE.len hi;have hN2:=G.n2;have hNI:=G.ni;try refine ae ?_
 refine aA (gS (fun _=>False) ?_);intro X0 x0;simp only[↓sU,sD,rE,↓reduceIte,rA,p1,p2,p10,aC,aQ,aB,fR gX,lgX,Ak,snv,lnv,Ah];refine cU rfl ?_;refine ae ?_;refine aW (aCg (n:=g.bh.length) H ar (aE.same (E:=iD) cm hm (hsX.trans x0)) ar hin1) ?_;rintro oa Y1 ⟨y1,a,ha,hoa⟩;refine⟨y1,?_⟩;simp only[↓sU,sD,rE,↓reduceIte,rA,p1,p2,p10,aC,aQ,aB,fH gX,lgX,Ak,siv,liv,Ah];refine cU rfl ?_;refine ae ?_;refine aW (aCg (n:=g.bj.length) H ar (aE.same (E:=iD) cm hrows (x0.trans y1)) ar hin2) ?_;rintro ob Y2 ⟨y2,b,hb,hob⟩;refine⟨y2,?_⟩;try refine ae ?_
 refine aP (ae ?_);have sfin:=((hsX.trans x0).trans y1).trans y2;have low:∀ {S0 S1 X:St} {v:AV} {l:ba},oH S1 X v l->S0.nx<=S1.nx->oH S0 X v l:=fun h hs=>by
  have⟨b,h1,h2,h3,h4⟩:=h;exact⟨b,h1,Al hs h2,h3,h4⟩
 exact⟨sfin,oa,ob,by rw[e0],fun h=>absurd e0 h,fun _=>⟨a,b,low (ha.same y2) (hsX.trans x0).1,low hb ((hsX.trans x0).trans y1).1,hoa,hob⟩⟩
def yW(l:ba):Nat:=(l.map Int.toNat).sum
theorem aD5:∀ {l:ba} {i:Nat} {v:Int},i<l.length->yW (l.set i v)+(l.getD i 0).toNat=yW l+v.toNat
 | [],i,v,h=>absurd h (Bm _)
 | x::l,0,v,_=>by
  show(v.toNat+yW l)+x.toNat=(x.toNat+yW l)+v.toNat;omega
 | x::l,i+1,v,h=>by
  have ih:=aD5 (l:=l) (i:=i) (v:=v) (Nat.lt_of_succ_lt_succ h);show(x.toNat+yW (l.set i v))+(l.getD i 0).toNat=(x.toNat+yW l)+v.toNat;omega
theorem aJL{n:Nat}{E:Nat->Nat->Prop}{out:ba}(h:wH n E out){x y:Nat}(hx:x<n)(hy:y<n)(hE:tY E x y)(hne:out.getD x 0≠out.getD y 0):
  wH n E ((out.set x (zJ (out.getD x 0) (out.getD y 0))).set y (zJ (out.getD x 0) (out.getD y 0)))/\yW ((out.set x (zJ (out.getD x 0) (out.getD y 0))).set y (zJ (out.getD x 0) (out.getD y 0)))<yW out:=by
 have hxy:x≠y:=fun e=>hne (by rw[e]);have hl:=h.len;have hgx:=h.le x hx;have hgy:=h.le y hy;have cx:=h.con x hx;have cy:=h.con y hy;generalize ea:out.getD x 0=a at *;generalize eb:out.getD y 0=b at *;have hm:(zJ a b=a/\a<b)\/(zJ a b=b/\b<a):=by unfold zJ;split<;>omega
 have hg:∀z,((out.set x (zJ a b)).set y (zJ a b)).getD z 0=if z=y then zJ a b else if z=x then zJ a b else out.getD z 0:=fun z=>by
  rw[gJ (by rw[Aq];omega),gJ ar]
 refine⟨⟨by rw[Aq,Aq];exact hl,fun z hz=>?_,fun z hz=>?_⟩,?_⟩
 ·rw[hg];have:=h.le z hz;split
  ·omega
  ·split<;>omega
 ·rw[hg];split
  ·rename_i e;subst e;rcases hm with⟨e,_⟩ | ⟨e,_⟩
   ·rw[e];exact .trans (.symm hE) cx
   ·rw[e];exact cy
  ·split
   ·rename_i e;subst e;rcases hm with⟨e,_⟩ | ⟨e,_⟩
    ·rw[e];exact cx
    ·rw[e];exact .trans hE cy
   ·exact h.con z hz
 ·have s1:=aD5 (l:=out) (i:=x) (v:=zJ a b) ar;have s2:=aD5 (l:=out.set x (zJ a b)) (i:=y) (v:=zJ a b) (by rw[Aq];omega);have e2:(out.set x (zJ a b)).getD y 0=b:=by
   rw[gJ ar,if_neg (Bt hxy)];exact eb
  rw[ea] at s1;rw[e2] at s2;omega
theorem aE0{n:Nat}{L:a9}{out:ba}(h:wH n (iI n L) out)(hd:∀q x,x<n->q<L.length->out.getD x 0=out.getD ((L.getD q []).getD x 0).toNat 0):lD n (iI n L) out:=
 ⟨h.len,h.le,h.con,fun x y ⟨hx,m,hm,e⟩=>by
  obtain⟨q,hq,rfl⟩:=Ey.1 hm;have:=hd q x hx hq;rw[Ad (l:=L),Ab hq] at this;rw[e];exact this⟩
section
variable {S:St}{ob n:Nat}{mv:AV}{L:a9}
def aDQ(n:Nat)(L:a9)(out0 out:ba)(fl:Bool)(q x:Nat):Prop:=wH n (iI n L) out/\((fl=true/\yW out<yW out0)\/(fl=false/\out=out0/\∀q' x',x'<n->q'<q\/(q'=q/\x'<x)->out0.getD x' 0=out0.getD ((L.getD q' []).getD x' 0).toNat 0))
def aMV(ob n:Nat)(mv:AV)(fl:Bool)(F:Fr):Prop:=aD 0 F= .int .i64 (n:Int)/\aD 1 F=mv/\aD 5 F= .sl ob 0 n n false/\aD 6 F= .bool fl
def aR6(S:St)(ob n:Nat)(mv:AV)(L:a9)(out0:ba)(q:Nat)(k:Nat)(A:bG)(X:St):Prop:=A.inr=false/\Same S X/\ob<X.nx/\∃ (x:Nat) (out:ba) (fl:Bool),x+k=n/\X.h.get ob=some (.cells (aU out) false 0)/\aDQ n L out0 out fl q x/\aMV ob n mv fl A.F/\aD 7 A.F= .int .i64 (q:Int)/\aD 8 A.F= .int .i64 (x:Int)
theorem aPr{Y:St}{F0:Fr}{out0 out1:ba}{q:Nat}{fl:Bool}(hn:n<=1000000)(hm:aE 1 iD S mv L)(hin:∀m∈L,m.length=n/\∀x,x<n->0<=m.getD x 0/\m.getD x 0<n)(hq:q<L.length)(hS:Same S Y)(hs:S.nx<=ob)(hol:ob<Y.nx)(ho:Y.h.get ob=some (.cells (aU out1) false 0))(hD:aDQ n L out0 out1 fl q 0)(hZ:aMV ob n mv fl F0)(p7:aD 7 F0= .int .i64 (q:Int))(p8:aD 8 F0= .int .i64 ((0:Nat):Int)):
  iM fns qk9 ⟨F0,false⟩ Y fun o A' X=>o= .normal/\aR6 S ob n mv L out0 q 0 A' X:=by
 refine aK (bH (aR6 S ob n mv L out0 q) ?_ n _ _ ⟨rfl,hS,hol,0,out1,fl,ar,ho,hD,hZ,p7,p8⟩);clear hZ p7 p8 hD ho hol hS;rintro k ⟨F,inr⟩ X ⟨q0,hX,hol,x,out,fl,hxk,ho,hD,⟨p0,p1,p5,p6⟩,p7,p8⟩;simp only at q0 p0 p1 p5 p6 p7 p8;subst q0;refine fC (dn p0 p8 ?_);by_cases hlt:x<n;rotate_left
 ·refine aM (by simp only[↓sU,sD,rE,↓reduceIte,rA,Aa (show ¬ (x:Int)<(n:Int) by omega)]) (bJ ?_);refine ae ?_;obtain rfl:k=0:=by omega
  exact⟨rfl,hX,hol,x,out,fl,hxk,ho,hD,(by refine⟨?_,?_,?_,?_⟩<;>simp only[↓sU,sD,rE,↓reduceIte,rA,p0,p1,p5,p6]),by refine⟨?_,?_⟩<;>simp only[↓sU,sD,rE,↓reduceIte,rA,p7,p8]⟩
 refine aN (by simp only[↓sU,sD,rE,↓reduceIte,rA,Ac (show(x:Int)<(n:Int) by omega)]) (aI ?_);try refine ae ?_
 have w1:=dh x
 have⟨xb,xq,a,xi,xs,xl⟩:=aGr hm hq;have xl1:=xl X hX;have hmem:L.getD q []∈L:=by rw[Ad,Ab hq];exact Bo hq
 have⟨l1,l2⟩:=hin _ hmem;have⟨m1,m2⟩:=l2 x hlt;have hUp:=hD.1;have hol':=hUp.len;have ia:=dR (b:=ob) (o:=false) hlt;have la:=uI ho (show x<out.length by omega);have ir:=(xs.same hX).cp (show x<(L.getD q []).length by omega);have lr:=(xs.same hX).ld (show x<(L.getD q []).length by omega);have sa:=bI.self xs;obtain⟨y,hy⟩:∃y:Nat,(L.getD q []).getD x 0=(y:Int):=⟨((L.getD q []).getD x 0).toNat,ar⟩;rw[hy] at lr m2;have hyn:y<n:=by omega
 have ib:=dR (b:=ob) (o:=false) hyn;have lb:=uI ho (show y<out.length by omega);have hc:tY (iI n L) x y:=.edge ⟨hlt,_,hmem,by rw[hy];rfl⟩;have hedge:=fun hne=>aJL hUp hlt hyn hc hne;refine aA (aK (aA (gD ?_)));simp only[↓sU,sD,rE,↓reduceIte,rA,p1,p5,p7,p8,aH,ia,la,xi,xl1,sa,ir,lr,ib,lb,dH];generalize ea:out.getD x 0=av at *;generalize eb:out.getD y 0=bv at *;by_cases hne:av=bv
 ·subst hne;refine bO (ae ?_);refine aM (by simp only[↓sU,sD,rE,↓reduceIte,rA,Aa (show ¬av≠av from fun h=>h rfl)]) (aI ?_);try refine ae ?_
  refine aJ (dn p8 w1 ?_);refine⟨k - 1,ar,rfl,hX.trans (Same.nx X _),by simp only;omega,x+1,out,fl,ar,ho,⟨hUp,?_⟩,(by refine⟨?_,?_,?_,?_⟩<;>simp only[↓sU,sD,rE,↓reduceIte,rA,p0,p1,p5,p6]),by refine⟨?_,?_⟩<;>simp only[↓sU,sD,rE,↓reduceIte,rA,p7]⟩;rcases hD.2 with h | ⟨h1,h2,h3⟩
  ·exact .inl h
  ·refine .inr ⟨h1,h2,fun q' x' hx' hc'=>?_⟩;by_cases e:q'=q/\x'=x
   ·obtain⟨rfl,rfl⟩:=e;rw[hy,Az,<-h2,ea,eb]
   ·exact h3 q' x' hx' ar
 ·have⟨u1,u2⟩:=hedge hne;refine bO (ae ?_);refine aN (by simp only[↓sU,sD,rE,↓reduceIte,rA,Ac (show av≠bv from hne)]) ?_;have xl2:=xl ⟨X.h,X.nx+16⟩ (hX.trans (Same.nx X 16));simp only at xl2;refine bO ?_;simp only[↓sU,sD,rE,↓reduceIte,rA,p1,p5,p7,p8,aH,xi,xl2,ir,lr,aAd,iZ,mQ,aF3,ia];refine fI (fun call=>by refine dn @dS @cR ?_;exact sM (S:=⟨X.h,X.nx+16⟩) ho ar) ?_;refine dn @aH ib ?_;refine fI (fun call=>by refine dn @dS @cR ?_;exact sM (S:=⟨X.h.set ob (some (.cells (aU (out.set x (zJ av bv))) false 0)),X.nx+16⟩) (l:=out.set x (zJ av bv)) fk (by rw[Aq];omega)) ?_;refine ae ?_;refine aJ (ae ?_);refine aJ (dn p8 w1 ?_);refine⟨k - 1,ar,rfl,((hX.trans (Same.nx X 16)).put hs _).put hs _,by simp only;omega,x+1,_,true,ar,fk,⟨u1,.inl ⟨rfl,?_⟩⟩,(by refine⟨?_,?_,?_,?_⟩<;>simp only[↓sU,sD,rE,↓reduceIte,rA,p0,p1,p5]),by refine⟨?_,?_⟩<;>simp only[↓sU,sD,rE,↓reduceIte,rA,p7]⟩;rcases hD.2 with h | ⟨h1,h2,h3⟩
  ·omega
  ·rw[<-h2];exact u2
def aQ1(S:St)(ob n:Nat)(mv:AV)(L:a9)(out0:ba)(k:Nat)(A:bG)(X:St):Prop:=A.inr=false/\Same S X/\ob<X.nx/\∃ (q:Nat) (out:ba) (fl:Bool),q+k=L.length/\X.h.get ob=some (.cells (aU out) false 0)/\aDQ n L out0 out fl q 0/\aMV ob n mv fl A.F/\aD 7 A.F= .int .i64 (q:Int)
theorem aDQ.next{out0 out:ba}{fl:Bool}{q:Nat}(h:aDQ n L out0 out fl q n):aDQ n L out0 out fl (q+1) 0:=⟨h.1,by
 rcases h.2 with e | ⟨h1,h2,h3⟩
 ·exact .inl e
 ·exact .inr ⟨h1,h2,fun q' x' hx' hc=>h3 q' x' hx' ar⟩⟩
theorem aPj{Y:St}{F0:Fr}{out0:ba}(hn:n<=1000000)(hm:aE 1 iD S mv L)(hL:L.length<=1000000)(hin:∀m∈L,m.length=n/\∀x,x<n->0<=m.getD x 0/\m.getD x 0<n)(hS:Same S Y)(hs:S.nx<=ob)(hol:ob<Y.nx)(ho:Y.h.get ob=some (.cells (aU out0) false 0))(hU:wH n (iI n L) out0)(hZ:aMV ob n mv false F0)(p7:aD 7 F0= .int .i64 ((0:Nat):Int)):
  iM fns aQZ ⟨F0,false⟩ Y fun o A' X=>o= .normal/\aQ1 S ob n mv L out0 0 A' X:=by
 refine aK (bH (aQ1 S ob n mv L out0) ?_ L.length _ _ ⟨rfl,hS,hol,0,out0,false,ar,ho,⟨hU,.inr ⟨rfl,rfl,fun q' x' _ hc=>ar⟩⟩,hZ,p7⟩);clear hZ p7 ho hol hS;rintro k ⟨F,inr⟩ X ⟨q0,hX,hol,q,out,fl,hqk,ho,hD,⟨p0,p1,p5,p6⟩,p7⟩;simp only at q0 p0 p1 p5 p6 p7;subst q0;refine fC ?_;refine dq p1 p7 ((aE.same (E:=iD) cm hm hX).len) @Ah ?_;by_cases hlt:q<L.length;rotate_left
 ·refine aM (by simp only[↓sU,sD,rE,↓reduceIte,rA,Aa (show ¬ (q:Int)<(L.length:Int) by omega)]) (bJ ?_);refine ae ?_;obtain rfl:k=0:=by omega
  exact⟨rfl,hX,hol,q,out,fl,hqk,ho,hD,(by refine⟨?_,?_,?_,?_⟩<;>simp only[↓sU,sD,rE,↓reduceIte,rA,p0,p1,p5,p6]),ah p7⟩
 refine aN (by simp only[↓sU,sD,rE,↓reduceIte,rA,Ac (show(q:Int)<(L.length:Int) by omega)]) (aI ?_);try refine ae ?_
 have w1:=dh q
 refine aA (aK (aA (aJ ?_)));refine ae ?_;refine aX (aPr (S:=S) (ob:=ob) (n:=n) (mv:=mv) (L:=L) (out0:=out0) (out1:=out) (q:=q) (fl:=fl) hn hm hin hlt hX hs hol ho hD (by refine⟨?_,?_,?_,?_⟩<;>simp only[↓sU,sD,rE,↓reduceIte,rA,p0,p1,p5,p6]) (ah p7) (ag)) ?_;clear p0 p1 p5 p6 p7;rintro o ⟨F,inr⟩ X1 ⟨rfl,q0,hX1,hol1,x,out1,fl1,hxn,ho1,hD1,⟨p0,p1,p5,p6⟩,p7,_⟩;simp only at q0 p0 p1 p5 p6 p7;subst q0;obtain rfl:n=x:=by omega
 try refine ae ?_
 refine aJ (dn p7 w1 ?_);exact⟨k - 1,ar,rfl,hX1,hol1,q+1,out1,fl1,ar,ho1,hD1.next,(by refine⟨?_,?_,?_,?_⟩<;>simp only[↓sU,sD,rE,↓reduceIte,rA,p0,p1,p5,p6]),af⟩
end
theorem aH0{S:St}{n:Nat}(H:Has fns)(hn:n<=1000000):fZ fns (.fn 143 [] []) [.int .i64 (n:Int)] S fun r S'=>oH S S' r ((List.range n).map fun k:Nat=>(k:Int))/\Same S S':=by
 refine cF H.f143 (by simp) ?_;refine am ?_;refine bO (am ?_);refine bO (am ?_);refine fN (lN (n:=n) (by simp only[↓aF,aG,rE,↓reduceIte,rA,aH]) (by simp only[↓aF,aG,rE,↓reduceIte,rA,aH]) ax ax) ?_;intro S1 s1 n1 c1;rw[qJ] at c1;refine am ?_;refine aA (aX (Q:=fun o A' X=>o= .normal/\aJI S S.nx n (fun j=>(j:Int)) (fun F i=>aD 0 F= .int .i64 (n:Int)/\aD 3 F= .sl S.nx 0 n n false/\aD 4 F= .int .i64 (i:Int)) 0 A' X) (aA (aJ ?_)) ?_)
 ·refine am ?_;refine aK (bH (aJI S S.nx n (fun j=>(j:Int)) (fun F i=>aD 0 F= .int .i64 (n:Int)/\aD 3 F= .sl S.nx 0 n n false/\aD 4 F= .int .i64 (i:Int))) ?_ n _ _ ⟨rfl,s1,ar,0,_,ar,Au ..,fun j hj=>ar,c1,ap,ap,by simp only[↓aF,aG,rE,↓reduceIte,rA];try rfl⟩);rintro k ⟨F,inr⟩ X ⟨q0,hX,hb,i,l,hik,hl,hf,hc,p0,p3,p4⟩;simp only at q0 p0 p3 p4;subst q0;refine fC (dy p0 p4 ?_);by_cases hlt:i<n
  ·refine aN (by simp only[↓aF,aG,rE,↓reduceIte,rA,Ac (show(i:Int)<(n:Int) by omega)]) (aI ?_);try refine am ?_
   have w1:=dh i
   have hia:=dR (b:=S.nx) (o:=false) hlt;refine aA (aK (aJ ?_));refine ed p3 p4 @aH hia ?_;refine fI (fun call=>by refine dy @dS @cR ?_;exact sM (S:=X) hc (by rw[hl];exact hlt)) ?_;refine am ?_;refine aJ (dy p4 w1 ?_);refine⟨k - 1,ar,rfl,hX.put (Ag _) _,hb,i+1,l.set i (i:Int),ar,by rw[Aq];exact hl,fun j hj=>?_,fk,by refine⟨?_,?_,?_⟩<;>simp only[↓aF,aG,rE,↓reduceIte,rA,p0,p3]⟩;rw[gJ (by rw[hl];exact hlt)];split
   ·rename_i e;rw[e]
   ·exact hf j ar
  ·refine aM (by simp only[↓aF,aG,rE,↓reduceIte,rA,Aa (show ¬ (i:Int)<(n:Int) by omega)]) (bJ ?_);refine am ?_;have hk0:k=0:=by omega
   subst hk0;exact⟨rfl,hX,hb,i,l,hik,hl,hf,hc,by refine⟨?_,?_,?_⟩<;>simp only[↓aF,aG,rE,↓reduceIte,rA,p0,p3,p4]⟩
 rintro o ⟨F,inr⟩ X ⟨rfl,q0,hX,hb,i,l,hik,hl,hf,hc,p0,p3,p4⟩;simp only at q0 p3;subst q0;have el:l=(List.range n).map fun k:Nat=>(k:Int):=oP (by simp [hl]) fun j hj=>by
  rw[hf j ar,Ad,Am,Bf ar];rfl
 subst el;try refine am ?_
 refine bO (dx p3 ?_);refine aP (am ?_);exact⟨⟨S.nx,by simp,Ag _,hb,hc⟩,hX⟩
def aRX(S:St)(ob n:Nat)(mv:AV)(L:a9)(k:Nat)(A:bG)(X:St):Prop:=A.inr=false/\Same S X/\ob<X.nx/\∃ (out:ba) (fl:Bool),X.h.get ob=some (.cells (aU out) false 0)/\wH n (iI n L) out/\((fl=true/\k=yW out+1)\/(fl=false/\k=0/\lD n (iI n L) out))/\aMV ob n mv fl A.F
theorem aDS{S:St}{mv:AV}{n:Nat}{L:a9}(H:Has fns)(hn:n<=1000000)(hm:aE 1 iD S mv L)(hL:L.length<=1000000)(hin:∀m∈L,m.length=n/\∀x,x<n->0<=m.getD x 0/\m.getD x 0<n):
  fZ fns (.fn 101 [] []) [.int .i64 (n:Int),mv] S fun r S'=>Same S S'/\∃out,oH S S' r out/\lD n (iI n L) out:=by
 refine cF H.f101 (by simp) ?_;refine ae ?_;refine bO (ae ?_);refine bO (ae ?_);refine bD (ae ?_);refine aW (aH0 H hn) ?_;rintro _ S1 ⟨⟨ob,rfl,b1,b2,b3⟩,s1⟩;have hup:wH n (iI n L) ((List.range n).map fun k:Nat=>(k:Int)):=aDf;simp only[Aj,Ay];try refine ae ?_
 refine aA (aX (Q:=fun o A' X=>o= .normal/\aRX S ob n mv L 0 A' X/\aD 6 A'.F= .bool false) (aA (aJ ?_)) ?_)
 ·refine ae ?_;refine aK (bH (aRX S ob n mv L) ?_ (yW ((List.range n).map fun k:Nat=>(k:Int))+1) _ _ ⟨rfl,s1,b2,_,true,b3,hup,.inl ⟨rfl,rfl⟩,(by refine⟨?_,?_,?_,?_⟩<;>simp only[↓sU,sD,rE,↓reduceIte,rA])⟩);clear b3 b2 hup s1;rintro k ⟨F,inr⟩ X ⟨q0,hX,hol,out,fl,ho,hU,hfl,⟨p0,p1,p5,p6⟩⟩;simp only at q0 p0 p1 p5 p6;subst q0;refine fC (dm p6 ?_);rcases hfl with⟨rfl,hk⟩ | ⟨rfl,hk,hO⟩
  rotate_left
  ·subst hk;refine aM (af) (bJ ?_);refine ae ?_;exact⟨⟨rfl,hX,hol,out,false,ho,hU,.inr ⟨rfl,rfl,hO⟩,(by refine⟨?_,?_,?_,?_⟩<;>simp only[↓sU,sD,rE,↓reduceIte,rA,p0,p1,p5,p6])⟩,ah p6⟩
  refine aN (af) (aI ?_);try refine ae ?_
  refine aK (aA (aJ ?_));refine ae ?_;refine bO (ae ?_);refine aX (aPj (S:=S) (ob:=ob) (n:=n) (mv:=mv) (L:=L) (out0:=out) hn hm hL hin hX b1 hol ho hU (by refine⟨?_,?_,?_,?_⟩<;>simp only[↓sU,sD,rE,↓reduceIte,rA,p0,p1,p5]) (ag)) ?_;clear p0 p1 p5 p6;rintro o ⟨F,inr⟩ X1 ⟨rfl,q0,hX1,hol1,q,out1,fl1,hq,ho1,hD,hZ⟩;simp only at q0;subst q0;obtain rfl:q=L.length:=by omega
  try refine ae ?_
  rcases hD.2 with⟨h1,h2⟩ | ⟨h1,h2,h3⟩
  ·subst h1;exact⟨yW out1+1,ar,rfl,hX1,hol1,out1,true,ho1,hD.1,.inl ⟨rfl,rfl⟩,hZ.1⟩
  ·subst h1 h2;exact⟨0,ar,rfl,hX1,hol1,out1,false,ho1,hD.1,.inr ⟨rfl,rfl,aE0 hD.1 fun q x hx hq=>h3 q x hx (.inl hq)⟩,hZ.1⟩
 rintro o ⟨F,inr⟩ X ⟨rfl,⟨q0,hX,hol,out,fl,ho,hU,hfl,⟨p0,p1,p5,p6⟩⟩,p6'⟩;simp only at q0 p5 p6 p6';subst q0;have hO:lD n (iI n L) out:=by
  rcases hfl with⟨_,h⟩ | ⟨_,_,h⟩
  ·omega
  ·exact h
 try refine ae ?_
 refine bO (dm p5 ?_);refine aP (ae ?_);exact⟨hX,out,⟨ob,by rw[hO.len],b1,hol,ho⟩,hO⟩
end Go.Ev.Gl
