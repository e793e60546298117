import Derived.Test.YtdkehphobhnjoaaGl20
open Nat renaming reduceEqDiff → rE, reduceAdd → rA
set_option maxHeartbeats 16000000
set_option linter.unusedSimpArgs false
set_option linter.unusedVariables false
namespace Go.Ev.Gl
variable {fns:T dE}
inductive tF(E:Nat→Nat→Prop):Nat→Nat→Prop where
 | edge {x y:Nat}:E x y→tF E x y
 | refl (x:Nat):tF E x x
 | symm {x y:Nat}:tF E x y→tF E y x
 | trans {x y z:Nat}:tF E x y→tF E y z→tF E x z
structure aAU(n:Nat)(E:Nat→Nat→Prop)(out:List Int):Prop where
 len:out.length=n
 le:∀x,x<n→0≤out.getD x 0∧out.getD x 0≤x
 con:∀x,x<n→tF E x (out.getD x 0).toNat
 inv:∀x y,E x y→out.getD x 0=out.getD y 0
section
variable {n:Nat}{E E':Nat→Nat→Prop}{a b up:List Int}
theorem aLM{f:Nat→Int}(hf:∀x y,E x y→f x=f y){x y:Nat}(h:tF E x y):f x=f y:=by
 induction h with
 | edge e=>exact hf _ _ e
 | refl x=>rfl
 | symm _ ih=>exact ih.symm
 | trans _ _ i1 i2=>exact i1.trans i2
theorem aHl(hE:∀x y,E x y→x<n∧y<n)(ha:aAU n E a)(hb:aAU n E b):a=b:=by
 have key:∀ {a b:List Int},aAU n E a→aAU n E b→∀x,x<n→b.getD x 0≤a.getD x 0:=fun {a b} ha hb x hx=>by
  have h1:=ha.le x hx;have h2:=aLM (f:=fun x=>b.getD x 0) hb.inv (ha.con x hx);have h2:b.getD x 0=b.getD (a.getD x 0).toNat 0:=h2;have h3:=hb.le (a.getD x 0).toNat (by omega);omega
 exact pV (by rw[ha.len,hb.len]) fun x hx=>by
  rw[ha.len] at hx;have:=key ha hb x hx;have:=key hb ha x hx;omega
structure tM(n:Nat)(E:Nat→Nat→Prop)(up:List Int):Prop where
 len:up.length=n
 le:∀x,x<n→0≤up.getD x 0∧up.getD x 0≤x
 con:∀x,x<n→tF E x (up.getD x 0).toNat
def kG(up:List Int)(x:Nat):Nat:=(up.getD x 0).toNat
def vJ(up:List Int):Nat→Nat→Nat
 | 0,x=>x
 | f+1,x=>if kG up x=x then x else vJ up f (kG up x)
def root(up:List Int)(x:Nat):Nat:=vJ up x x
theorem tM.lt(h:tM n E up){x:Nat}(hx:x<n):kG up x≤x∧up.getD x 0=((kG up x:Nat):Int):=by
 have:=h.le x hx;unfold kG;omega
theorem aDa(h:tM n E up):∀ {f x:Nat},x<n→x≤f→vJ up (f+1) x=vJ up f x
 | 0,x,hx,hf=>by
  have:=(h.lt hx).1;have e:kG up x=x:=by omega
  show(if kG up x=x then x else vJ up 0 (kG up x))=x;rw[if_pos e]
 | f+1,x,hx,hf=>by
  have:=(h.lt hx).1;show(if kG up x=x then x else vJ up (f+1) (kG up x))=if kG up x=x then x else vJ up f (kG up x);by_cases e:kG up x=x
  ·rw[if_pos e,if_pos e]
  ·rw[if_neg e,if_neg e];exact aDa h (by omega) (by omega)
theorem aAj(h:tM n E up){x:Nat}(hx:x<n):∀ {f:Nat},x≤f→vJ up f x=root up x
 | 0,hf=>by rw[show x=0 by omega];rfl
 | f+1,hf=>by
  rcases Bx x (f+1) with h1 | h1
  ·rw[aDa h hx (by omega)];exact aAj h hx (by omega)
  ·rw[show f+1=x by omega];rfl
theorem iH(h:tM n E up){x:Nat}(hx:x<n):root up x=if kG up x=x then x else root up (kG up x):=by
 have hl:=(h.lt hx).1;have:vJ up (x+1) x=root up x:=aAj h hx (by omega);rw[←this];show(if kG up x=x then x else vJ up x (kG up x))=_;by_cases e:kG up x=x
 ·rw[if_pos e,if_pos e]
 ·rw[if_neg e,if_neg e];exact aAj h (by omega) (by omega)
theorem uS(h:tM n E up){x:Nat}(hx:x<n):root up (kG up x)=root up x:=by
 by_cases e:kG up x=x
 ·rw[e]
 ·rw[iH h hx,if_neg e]
theorem pF(h:tM n E up):∀ (x:Nat),x<n→root up x≤x∧kG up (root up x)=root up x∧tF E x (root up x):=by
 intro x
 induction x using Nat.strongRecOn with
 | _ x ih=>
  intro hx;have hl:=(h.lt hx).1;rw[iH h hx];by_cases e:kG up x=x
  ·rw[if_pos e];exact⟨Ah _,e,.refl _⟩
  ·rw[if_neg e];obtain⟨h1,h2,h3⟩:=ih (kG up x) (by omega) (by omega);exact⟨by omega,h2,.trans (h.con x hx) h3⟩
theorem aK1(h:tM n E up){i:Nat}(hi:i<n):tM n E (up.set i (up.getD (kG up i) 0))∧∀x,x<n→root (up.set i (up.getD (kG up i) 0)) x=root up x:=by
 have hl:=(h.lt hi).1;have hl2:=h.lt (show kG up i<n by omega);have hil:i<up.length:=by rw[h.len];exact hi
 have hg:∀x,(up.set i (up.getD (kG up i) 0)).getD x 0=if x=i then up.getD (kG up i) 0 else up.getD x 0:=fun x=>dP hil;have hu:tM n E (up.set i (up.getD (kG up i) 0)):=⟨by rw[Al];exact h.len,fun x hx=>by
  rw[hg];split
  ·omega
  ·exact h.le x hx,fun x hx=>by
  rw[hg];split
  ·rename_i e;subst e;exact .trans (h.con x hx) (h.con (kG up x) (by omega))
  ·exact h.con x hx⟩
 refine⟨hu,fun x=>?_⟩
 induction x using Nat.strongRecOn with
 | _ x ih=>
  intro hx;have hlx:=(h.lt hx).1;have hn:kG (up.set i (up.getD (kG up i) 0)) x=if x=i then kG up (kG up i) else kG up x:=by
   show((up.set i (up.getD (kG up i) 0)).getD x 0).toNat=_;rw[hg];split<;>rfl
  rw[iH hu hx,hn];by_cases e:x=i
  ·subst e;rw[if_pos rfl];by_cases e2:kG up (kG up x)=x
   ·rw[if_pos e2];have e3:kG up x=x:=by omega
    rw[iH h hx,if_pos e3]
   ·rw[if_neg e2,ih _ (by omega) (by omega),uS h (by omega),uS h hx]
  ·rw[if_neg e];by_cases e2:kG up x=x
   ·rw[if_pos e2,iH h hx,if_pos e2]
   ·rw[if_neg e2,ih _ (by omega) (by omega),uS h hx]
theorem aLb(h:tM n E up){s t:Nat}(hs:s<n)(hst:t≤s)(rs:kG up s=s)(rt:kG up t=t)(hc:tF E s t):tM n E (up.set s (t:Int))∧∀x,x<n→root (up.set s (t:Int)) x=if root up x=s then t else root up x:=by
 have hsl:s<up.length:=by rw[h.len];exact hs
 have hg:∀x,(up.set s (t:Int)).getD x 0=if x=s then(t:Int) else up.getD x 0:=fun x=>dP hsl;have hu:tM n E (up.set s (t:Int)):=⟨by rw[Al];exact h.len,fun x hx=>by
  rw[hg];split
  ·omega
  ·exact h.le x hx,fun x hx=>by
  rw[hg];split
  ·rename_i e;subst e;exact hc
  ·exact h.con x hx⟩
 have hn:∀x,kG (up.set s (t:Int)) x=if x=s then t else kG up x:=fun x=>by
  unfold kG;rw[hg];split
  ·exact Bf _
  ·rfl
 refine⟨hu,fun x=>?_⟩
 induction x using Nat.strongRecOn with
 | _ x ih=>
  intro hx;have hlx:=(h.lt hx).1;rw[iH hu hx,hn];by_cases e:x=s
  ·subst e;have hr:root up x=x:=by rw[iH h hx,if_pos rs]
   rw[if_pos rfl,hr,if_pos rfl];by_cases e2:t=x
   ·rw[if_pos e2,e2]
   ·have hrt:root up t=t:=by rw[iH h (by omega),if_pos rt]
    rw[if_neg e2,ih t (by omega) (by omega),hrt,if_neg e2]
  ·rw[if_neg e];by_cases e2:kG up x=x
   ·have hr:root up x=x:=by rw[iH h hx,if_pos e2]
    rw[if_pos e2,hr,if_neg e]
   ·rw[if_neg e2,ih _ (by omega) (by omega),uS h hx]
theorem aMQ(h:tM n E up)(hE:∀x y,E x y→x<n∧y<n)(hr:∀x y,E x y→root up x=root up y){out:List Int}(hl:out.length=n)(ho:∀x,x<n→out.getD x 0=((root up x:Nat):Int)):aAU n E out:=
 ⟨hl,fun x hx=>by have:=(pF h x hx).1;rw[ho x hx];omega,fun x hx=>by rw[ho x hx,Bf];exact(pF h x hx).2.2,fun x y e=>by rw[ho x (hE x y e).1,ho y (hE x y e).2,hr x y e]⟩
theorem aEY:tM n E ((List.range n).map fun k:Nat=>(k:Int)):=by
 have hg:∀x,x<n→((List.range n).map fun k:Nat=>(k:Int)).getD x 0=(x:Int):=fun x hx=>by
  rw[Ad,Az,Cn hx];rfl
 exact⟨by simp,fun x hx=>by rw[hg x hx];omega,fun x hx=>by rw[hg x hx,Bf];exact .refl x⟩
def qV(n:Nat)(L:List (List Int))(x y:Nat):Prop:=x<n∧∃m∈L,y=(m.getD x 0).toNat
end
noncomputable def aMa:List AO:=[mt 14 0,
om 15 1 (.nilchk (.t 14)),
om 16 3 (.faddr 0 (.t 15)),
om 17 7 (ld 16),
mt 18 1,
mt 19 0,
om 20 32 (.nilchk (.t 19)),
om 21 96 (.faddr 0 (.t 20)),
om 22 224 (ld 21),
mt 23 0,
om 24 512 (.nilchk (.t 23)),
om 25 1536 (.faddr 0 (.t 24)),
om 26 3584 (ld 25),
mt 27 1,
om 28 15872 (.iaddr (.slice 1) (.t 26) (.t 27)),
om 29 32256 (ld 28),
om 30 65504 (.iaddr (.slice 1) (.t 22) (.t 29)),
om 31 131040 (ld 30),
om 32 262143 (.iaddr (.slice 1) (.t 17) (.t 18))]
structure oE(S:St)(ub rb n:Nat)(up:List Int):Prop where
 u:S.h.get ub=some (.cells [.sl rb 0 n n false] false 0)
 r:S.h.get rb=some (.cells (bC up) false 0)
 lu:ub<S.nx
 lr:rb<S.nx
 ne:ub≠rb
theorem oE.same{S S':St}{ub rb n:Nat}{up:List Int}(h:oE S ub rb n up)(hs:Same S S'):oE S' ub rb n up:=⟨(hs.2 _ h.lu).trans h.u,(hs.2 _ h.lr).trans h.r,Ae h.lu hs.1,Ae h.lr hs.1,h.ne⟩
theorem oE.put{S:St}{ub rb n m:Nat}{up up':List Int}(h:oE S ub rb n up):oE ⟨S.h.set rb (some (.cells (bC up') false 0)),S.nx+m⟩ ub rb n up':=⟨by simp only;rw[T.get_set,if_neg h.ne];exact h.u,by simp only;rw[T.get_set,if_pos rfl],Ae h.lu (Cd ..),Ae h.lr (Cd ..),h.ne⟩
theorem aBD{h:Ev.T AB}{ub rb n:Nat}(hu:h.get ub=some (.cells [.sl rb 0 n n false] false 0)):dT (.ptr ub (0+0)) false 1 h=some (.sl rb 0 n n false):=ldc hu rfl
def aPb(S:St)(ub rb n:Nat)(E:Nat→Nat→Prop)(up:List Int)(i:Nat)(k:Nat)(A:bH)(X:St):Prop:=A.inr=false∧bQ rb S X∧k<n∧root up k=root up i∧aD 0 A.F= .ptr ub 0∧aD 1 A.F= .int .i64 (k:Int)∧∃up',oE X ub rb n up'∧tM n E up'∧∀x,x<n→root up' x=root up x
theorem wQ{S:St}{ub rb n i:Nat}{E:Nat→Nat→Prop}{up:List Int}(H:Has fns)(hU:oE S ub rb n up)(hup:tM n E up)(hi:i<n)(hn:n≤1000000):
  fA fns (.fn 57 [] []) [.ptr ub 0,.int .i64 (i:Int)] S fun r S'=>r= .int .i64 ((root up i:Nat):Int)∧bQ rb S S'∧∃up',oE S' ub rb n up'∧tM n E up'∧∀x,x<n→root up' x=root up x:=by
 refine bP H.f57 (by simp) ?_;simp only[↓sU,sD,rE,↓reduceIte,rA];refine bE ?_;simp only[↓sU,sD,rE,↓reduceIte,rA];refine aA (aS (Q:=fun o A' X=>o= .normal∧bQ rb S X∧aD 1 A'.F= .int .i64 ((root up i:Nat):Int)∧∃up',oE X ub rb n up'∧tM n E up'∧∀x,x<n→root up' x=root up x) ?_ ?_)
 ·refine aJ (bB (aPb S ub rb n E up i) ?_ i _ _ ⟨rfl,bQ.refl _ _,hi,rfl,by simp only[↓sU,sD,rE,↓reduceIte,rA],by simp only[↓sU,sD,rE,↓reduceIte,rA],up,hU,hup,fun _ _=>rfl⟩);rintro k ⟨F,inr⟩ X ⟨q0,hX,hk,hrt,p0,p1,up',hUX,hupX,hroot⟩;simp only at q0 p0 p1;subst q0;have hl:=hupX.lt hk;have hia:=dI (b:=rb) (o:=false) hk;have hla:=vE hUX.r (show k<up'.length by rw[hupX.len];exact hk);rw[hl.2] at hla;have hu:=aBD hUX.u;refine eG ?_;simp only[↓sU,sD,rE,↓reduceIte,rA,p0,p1,bF,bG,aH,aG,hu,aE,hia,hla];by_cases e:kG up' k=k
  ·refine aK (by simp only[↓sU,sD,rE,↓reduceIte,rA,e,Aa (show ¬ (k:Int)≠(k:Int) from fun h=>h rfl)]) (aU ?_);simp only[↓sU,sD,rE,↓reduceIte,rA];refine⟨hX,?_,up',hUX,hupX,hroot⟩;simp only[↓sU,sD,rE,↓reduceIte,rA,p1];have:=hroot k hk;rw[iH hupX hk,if_pos e] at this;rw[←hrt,←this]
  ·refine aM (by simp only[↓sU,sD,rE,↓reduceIte,rA,Ab (show((kG up' k:Nat):Int)≠(k:Int) by omega)]) (aI ?_);try simp only[↓sU,sD,rE,↓reduceIte,rA]
   have hlt:kG up' k<k:=by omega
   have hl2:=hupX.lt (show kG up' k<n by omega);have hia2:=dI (b:=rb) (o:=false) (show kG up' k<n by omega);have hla2:=vE hUX.r (show kG up' k<up'.length by rw[hupX.len];omega);have hla3:=hla2;rw[hl2.2] at hla2;obtain⟨h1,h2⟩:=aK1 hupX hk;have hup2:=hroot;have hg:(up'.set k (up'.getD (kG up' k) 0)).getD k 0=((kG up' (kG up' k):Nat):Int):=by
    rw[dP (by rw[hupX.len];exact hk),if_pos rfl,hl2.2]
   refine aJ (aA (aCa (pre:=aMa) (K:=19) (m:=524287) (n:=1) (x:=.t 32) (v:=.t 31) rfl rfl rfl rfl ?_));unfold aMa;simp only[↓aC,aB,rE,↓reduceIte,rA,p0,p1,bF,bO,bG,aH,aX,aG,hu,aE,hia,hla,hia2,hla3,mM];simp only[cI,aT];refine⟨_,oC (S:=⟨X.h,X.nx+20⟩) hUX.r (by rw[hupX.len];exact hk),?_⟩;have hU2:oE ⟨X.h.set rb (some (.cells (bC (up'.set k (up'.getD (kG up' k) 0))) false 0)),X.nx+20⟩ ub rb n (up'.set k (up'.getD (kG up' k) 0)):=hUX.put;have hla4:=vE hU2.r (show k<(up'.set k (up'.getD (kG up' k) 0)).length by rw[Al,hupX.len];exact hk);rw[hg] at hla4;have hu4:=aBD hU2.u;simp only at hla4 hu4;try simp only[↓sU,sD,rE,↓reduceIte,rA]
   refine aF ?_;simp only[↓sU,sD,rE,↓reduceIte,rA,p0,p1,bF,bG,aH,aG,hu4,aE,hia,hla4];have hX2:bQ rb S ⟨X.h.set rb (some (.cells (bC (up'.set k (up'.getD (kG up' k) 0))) false 0)),X.nx+20⟩:=(hX.nx 20).put _;refine⟨kG up' (kG up' k),by have:=hl2.1;omega,rfl,hX2,by have:=hl2.1;omega,?_,by simp only[↓sU,sD,rE,↓reduceIte,rA,p0],by simp only[↓sU,sD,rE,↓reduceIte,rA],_,hU2,h1,fun x hx=>by rw[h2 x hx,hroot x hx]⟩;rw[←hroot _ (by have:=hl2.1;omega),uS hupX (by omega),uS hupX hk,hroot k hk];exact hrt
 ·rintro o ⟨F,inr⟩ X ⟨rfl,hX,p1,up',h1,h2,h3⟩;simp only at p1;try simp only[↓sU,sD,rE,↓reduceIte,rA]
  refine bE ?_;simp only[↓sU,sD,rE,↓reduceIte,rA,p1];refine aO ?_;simp only[↓sU,sD,rE,↓reduceIte,rA];exact⟨hX,up',h1,h2,h3⟩
def mnI(a b:Int):Int:=if a≤b then a else b
theorem aHj(a b:Int):kB false [.int .i64 a,.int .i64 b]=some (.int .i64 (mnI a b)):=by
 show bL (keq .i64 .i64) (iO false [] (.int .i64 (bL false (bL (ile b a) a b) (bL (ile a b) a b)))) none=_;rw[eH,aQ,aV,mH];show some _=_;unfold mnI;by_cases h:a≤b
 ·rw[if_pos h,Ab h,aQ]
 ·rw[if_neg h,Aa h,aV]
theorem aGQ{S:St}{ub rb n i j:Nat}{E:Nat→Nat→Prop}{up:List Int}(H:Has fns)(hU:oE S ub rb n up)(hup:tM n E up)(hi:i<n)(hj:j<n)(hc:tF E i j)(hn:n≤1000000):
  fA fns (.fn 56 [] []) [.ptr ub 0,.int .i64 (i:Int),.int .i64 (j:Int)] S fun _ S'=>bQ rb S S'∧∃up',oE S' ub rb n up'∧tM n E up'∧(∀x y,x<n→y<n→root up x=root up y→root up' x=root up' y)∧root up' i=root up' j:=by
 refine bP H.f56 (by simp) ?_;simp only[↓sU,sD,rE,↓reduceIte,rA];refine bE ?_;simp only[↓sU,sD,rE,↓reduceIte,rA];refine aY ?_;simp only[↓sU,sD,rE,↓reduceIte,rA];refine aP (wQ H hU hup hi hn) ?_;rintro _ S1 ⟨rfl,s1,up1,hU1,hup1,hr1⟩;try simp only[↓sU,sD,rE,↓reduceIte,rA]
 refine aY ?_;simp only[↓sU,sD,rE,↓reduceIte,rA];refine aP (wQ H hU1 hup1 hj hn) ?_;rintro _ S2 ⟨rfl,s2,up2,hU2,hup2,hr2⟩;rw[hr1 j hj];have hr:∀x,x<n→root up2 x=root up x:=fun x hx=>by rw[hr2 x hx,hr1 x hx]
 obtain⟨i1,i2,i3⟩:=pF hup i hi;obtain⟨j1,j2,j3⟩:=pF hup j hj;have ri:=(pF hup2 i hi).2.1;have rj:=(pF hup2 j hj).2.1;rw[hr i hi] at ri;rw[hr j hj] at rj;have hcc:tF E (root up i) (root up j):=.trans (.symm i3) (.trans hc j3);obtain⟨s,t,hs,hts,hst,rs,rt,hct,emx,emn⟩:∃s t:Nat,s<n∧t≤s∧((s=root up i∧t=root up j)∨(s=root up j∧t=root up i))∧kG up2 s=s∧kG up2 t=t∧tF E s t∧mx ((root up i:Nat):Int) ((root up j:Nat):Int)=((s:Nat):Int)∧mnI ((root up i:Nat):Int) ((root up j:Nat):Int)=((t:Nat):Int):=by
  rcases Nat.le_total (root up i) (root up j) with h | h
  ·exact⟨root up j,root up i,by omega,h,.inr ⟨rfl,rfl⟩,rj,ri,.symm hcc,by unfold mx;split<;>omega,by unfold mnI;split<;>omega⟩
  ·exact⟨root up i,root up j,by omega,h,.inl ⟨rfl,rfl⟩,ri,rj,hcc,by unfold mx;split<;>omega,by unfold mnI;split<;>omega⟩
 obtain⟨h1,h2⟩:=aLb hup2 hs hts rs rt hct;have hu:=aBD hU2.u;have hia:=dI (b:=rb) (o:=false) hs;try simp only[↓sU,sD,rE,↓reduceIte,rA]
 refine aF ?_;simp only[↓sU,sD,rE,↓reduceIte,rA,bF,bG,aH,aG,hu,aBv,gR,lI,aDA,aHj,emx,emn,aE,hia];refine fD (fun call=>by simp only[↓sU,sD,rE,↓reduceIte,rA,eJ,cI];exact oC (S:=S2) hU2.r (by rw[hup2.len];exact hs)) ?_;simp only[↓sU,sD,rE,↓reduceIte,rA];refine⟨_,rfl,(s1.trans s2).put _,up2.set s (t:Int),hU2.put (m:=0),h1,fun x y hx hy e=>?_,?_⟩
 ·rw[h2 x hx,h2 y hy,hr x hx,hr y hy,e]
 ·rw[h2 i hi,h2 j hj,hr i hi,hr j hj];rcases hst with⟨e1,e2⟩ | ⟨e1,e2⟩
  ·rw[if_pos e1.symm,e2];split<;>rfl
  ·rw[if_pos e1.symm,e2];split<;>rfl
theorem aEl{S:St}{v:AV}{L:List (List Int)}{i:Nat}(h:aN 1 kJ S v L)(hi:i<L.length):∃b q a,eU (.slice 1) v i=some (.ptr b q)∧bN .i64 S a (L.getD i [])∧∀X,Same S X→dT (.ptr b q) false 1 X.h=some a:=by
 obtain⟨_,b,q,h1,h2,_,⟨a,rfl,h3⟩,_,h4⟩:=aN.at h (by decide) (aCi hi);have h5:=h4 0 a rfl;rw[Bj] at h5;exact⟨b,q,a,h1,h3,fun X hX=>by rw[jO hX h2];exact h5⟩
theorem aNg{t:Nat}{F:Fr}{h:Ev.T AB}{b n:Nat}(ht:aD t F= .sl b 0 n n false):gS (.build [.nilsl] [(0,1,.t t)]) F h=some (.agg [.sl b 0 n n false]):=by
 show(aZ (gH _ (fF F [(0,1,.t t)])) fun cs=>some (AV.agg cs))=_;simp only[fF,show(cJ.t t).val F= .sl b 0 n n false from ht,gH];rfl
section
variable {S:St}{ub rb n:Nat}{mv:AV}
def aHT(ub n:Nat)(mv:AV)(F:Fr):Prop:=aD 0 F= .int .i64 (n:Int)∧aD 1 F=mv∧aD 5 F= .ptr ub 0
def aOf(S:St)(ub rb n:Nat)(mv:AV)(k:Nat)(A:bH)(X:St):Prop:=A.inr=false∧Same S X∧∃ (i:Nat) (l:List Int),i+k=n∧l.length=n∧(∀j,j<i→l.getD j 0=(j:Int))∧oE X ub rb n l∧aHT ub n mv A.F∧aD 21 A.F= .int .i64 (n:Int)∧aD 22 A.F= .int .i64 (i:Int)
theorem aMF{Y:St}{F0:Fr}{l0:List Int}(hn:n≤1000000)(hS:Same S Y)(hs:S.nx≤rb)(hU:oE Y ub rb n l0)(hl:l0.length=n)(hZ:aHT ub n mv F0)(p21:aD 21 F0= .int .i64 (n:Int))(p22:aD 22 F0= .int .i64 ((0:Nat):Int)):
  mA fns qk2 ⟨F0,false⟩ Y fun o A' X=>o= .normal∧aOf S ub rb n mv 0 A' X:=by
 refine aJ (bB (aOf S ub rb n mv) ?_ n _ _ ⟨rfl,hS,0,l0,by omega,hl,fun j hj=>by omega,hU,hZ,p21,p22⟩);clear hZ p21 p22 hU hl hS;rintro k ⟨F,inr⟩ X ⟨q0,hX,i,l,hik,hl,hf,hU,⟨p0,p1,p5⟩,p21,p22⟩;simp only at q0 p0 p1 p5 p21 p22;subst q0;refine bE ?_;simp only[↓sU,sD,rE,↓reduceIte,rA,p21,p22];by_cases hlt:i<n;rotate_left
 ·refine aA (aK (by simp only[↓sU,sD,rE,↓reduceIte,rA,Aa (show ¬ (i:Int)<(n:Int) by omega)]) (aU ?_));simp only[↓sU,sD,rE,↓reduceIte,rA];obtain rfl:k=0:=by omega
  exact⟨rfl,hX,i,l,hik,hl,hf,hU,(by refine⟨?_,?_,?_⟩<;>simp only[↓sU,sD,rE,↓reduceIte,rA,p0,p1,p5]),by refine⟨?_,?_⟩<;>simp only[↓sU,sD,rE,↓reduceIte,rA,p21,p22]⟩
 refine aA (aM (by simp only[↓sU,sD,rE,↓reduceIte,rA,Ab (show(i:Int)<(n:Int) by omega)]) (aI ?_));try simp only[↓sU,sD,rE,↓reduceIte,rA]
 have w1:IntKind.i64.wrap ((i:Int)+1)=((i+1:Nat):Int):=by rw[wrap_i64 (by omega) (by omega)];omega
 have hia:=dI (b:=rb) (o:=false) hlt;have hu:=aBD hU.u;refine aA (aJ (aA (aF ?_)));simp only[↓sU,sD,rE,↓reduceIte,rA,p22];refine aF ?_;simp only[↓sU,sD,rE,↓reduceIte,rA,p5,bF,bG,aH,aG,hu,aE,hia];refine fD (fun call=>by simp only[↓sU,sD,rE,↓reduceIte,rA,eJ,cI];exact oC (S:=X) hU.r (by rw[hl];exact hlt)) ?_;simp only[↓sU,sD,rE,↓reduceIte,rA];refine aF ?_;simp only[↓sU,sD,rE,↓reduceIte,rA,p22,w1];refine⟨k - 1,by omega,rfl,hX.put hs _,i+1,l.set i (i:Int),by omega,by rw[Al];exact hl,fun j hj=>?_,hU.put (m:=0),(by refine⟨?_,?_,?_⟩<;>simp only[↓sU,sD,rE,↓reduceIte,rA,p0,p1,p5]),by refine⟨?_,?_⟩<;>simp only[↓sU,sD,rE,↓reduceIte,rA,p21]⟩;rw[dP (by omega)];split
 ·rename_i e;rw[e]
 ·exact hf j (by omega)
def aNs(S:St)(ub rb n j ml:Nat)(mv mrow:AV)(m:List Int)(E:Nat→Nat→Prop)(up0:List Int)(k:Nat)(A:bH)(X:St):Prop:=A.inr=false∧Same S X∧∃ (i:Nat) (up:List Int),i+k=n∧oE X ub rb n up∧tM n E up∧(∀x y,x<n→y<n→root up0 x=root up0 y→root up x=root up y)∧(∀x,x<i→root up x=root up (m.getD x 0).toNat)∧aHT ub n mv A.F∧aD 33 A.F=mv∧aD 34 A.F= .int .i64 (ml:Int)∧aD 35 A.F= .int .i64 (j:Int)∧aD 39 A.F=mrow∧aD 40 A.F= .int .i64 (n:Int)∧aD 41 A.F= .int .i64 (i:Int)
theorem aMR{Y:St}{F0:Fr}{up0 m:List Int}{mrow:AV}{j ml:Nat}{E:Nat→Nat→Prop}(H:Has fns)(hn:n≤1000000)(hS:Same S Y)(hs:S.nx≤rb)(hU:oE Y ub rb n up0)(hup:tM n E up0)(hm:bN .i64 S mrow m)(hml:m.length=n)(hin:∀x,x<n→0≤m.getD x 0∧m.getD x 0<n)(hE:∀x,x<n→E x (m.getD x 0).toNat)
  (hZ:aHT ub n mv F0) (p33:aD 33 F0=mv) (p34:aD 34 F0= .int .i64 (ml:Int)) (p35:aD 35 F0= .int .i64 (j:Int)) (p39:aD 39 F0=mrow) (p40:aD 40 F0= .int .i64 (n:Int)) (p41:aD 41 F0= .int .i64 ((0:Nat):Int)):
  mA fns qk0 ⟨F0,false⟩ Y fun o A' X=>o= .normal∧aNs S ub rb n j ml mv mrow m E up0 0 A' X:=by
 refine aJ (bB (aNs S ub rb n j ml mv mrow m E up0) ?_ n _ _ ⟨rfl,hS,0,up0,by omega,hU,hup,fun _ _ _ _ e=>e,fun x hx=>by omega,hZ,p33,p34,p35,p39,p40,p41⟩);clear hZ p33 p34 p35 p39 p40 p41 hU hup hS;rintro k ⟨F,inr⟩ X ⟨q0,hX,i,up,hik,hU,hup,hk,hd,⟨p0,p1,p5⟩,p33,p34,p35,p39,p40,p41⟩;simp only at q0 p0 p1 p5 p33 p34 p35 p39 p40 p41;subst q0;refine bE ?_;simp only[↓sU,sD,rE,↓reduceIte,rA,p40,p41];by_cases hlt:i<n;rotate_left
 ·refine aA (aK (by simp only[↓sU,sD,rE,↓reduceIte,rA,Aa (show ¬ (i:Int)<(n:Int) by omega)]) (aU ?_));simp only[↓sU,sD,rE,↓reduceIte,rA];obtain rfl:k=0:=by omega
  exact⟨rfl,hX,i,up,hik,hU,hup,hk,hd,(by refine⟨?_,?_,?_⟩<;>simp only[↓sU,sD,rE,↓reduceIte,rA,p0,p1,p5]),by refine⟨?_,?_,?_,?_,?_,?_⟩<;>simp only[↓sU,sD,rE,↓reduceIte,rA,p33,p34,p35,p39,p40,p41]⟩
 refine aA (aM (by simp only[↓sU,sD,rE,↓reduceIte,rA,Ab (show(i:Int)<(n:Int) by omega)]) (aI ?_));try simp only[↓sU,sD,rE,↓reduceIte,rA]
 have w1:IntKind.i64.wrap ((i:Int)+1)=((i+1:Nat):Int):=by rw[wrap_i64 (by omega) (by omega)];omega
 have ia:=(hm.same hX).iaddr (show i<m.length by omega);have la:=(hm.same hX).ld (show i<m.length by omega);obtain⟨m1,m2⟩:=hin i hlt;have hEi:=hE i hlt;have hdt:(∀x,x<i→root up x=root up (m.getD x 0).toNat):=hd;obtain⟨t,ht⟩:∃t:Nat,m.getD i 0=(t:Int):=⟨(m.getD i 0).toNat,by omega⟩;rw[ht] at la hEi m2;rw[Bf] at hEi;refine aA (aJ (aA (aF ?_)));simp only[↓sU,sD,rE,↓reduceIte,rA,p39,p41,aE,ia,la];refine aF ?_;simp only[↓sU,sD,rE,↓reduceIte,rA,p5];refine aY ?_;simp only[↓sU,sD,rE,↓reduceIte,rA];refine aP (aGQ H hU hup hlt (show t<n by omega) (.edge hEi) hn) ?_;rintro r X1 ⟨s1,up1,hU1,hup1,hk1,hij⟩;try simp only[↓sU,sD,rE,↓reduceIte,rA]
 refine aF ?_;simp only[↓sU,sD,rE,↓reduceIte,rA,p41,w1];refine⟨k - 1,by omega,rfl,bQ.same hX s1 hs,i+1,up1,by omega,hU1,hup1,fun x y hx hy e=>hk1 x y hx hy (hk x y hx hy e),fun x hx=>?_,(by refine⟨?_,?_,?_⟩<;>simp only[↓sU,sD,rE,↓reduceIte,rA,p0,p1,p5]),by refine⟨?_,?_,?_,?_,?_,?_⟩<;>simp only[↓sU,sD,rE,↓reduceIte,rA,p33,p34,p35,p39,p40]⟩;by_cases e:x=i
 ·subst e;rw[ht,Bf];exact hij
 ·have:=hin x (by omega);exact hk1 x _ (by omega) (by omega) (hdt x (by omega))
def aNJ(S:St)(ub rb n ml:Nat)(mv:AV)(L:List (List Int))(k:Nat)(A:bH)(X:St):Prop:=A.inr=false∧Same S X∧∃ (j:Nat) (up:List Int),j+k=ml∧oE X ub rb n up∧tM n (qV n L) up∧(∀x q,x<n→q<j→root up x=root up ((L.getD q []).getD x 0).toNat)∧aHT ub n mv A.F∧aD 33 A.F=mv∧aD 34 A.F= .int .i64 (ml:Int)∧aD 35 A.F= .int .i64 (j:Int)
theorem aMp{Y:St}{F0:Fr}{up0:List Int}{L:List (List Int)}(H:Has fns)(hn:n≤1000000)(hS:Same S Y)(hs:S.nx≤rb)(hU:oE Y ub rb n up0)(hup:tM n (qV n L) up0)(hm:aN 1 kJ S mv L)(hL:L.length≤1000000)(hin:∀m∈L,m.length=n∧∀x,x<n→0≤m.getD x 0∧m.getD x 0<n)
  (hZ:aHT ub n mv F0) (p33:aD 33 F0=mv) (p34:aD 34 F0= .int .i64 (L.length:Int)) (p35:aD 35 F0= .int .i64 ((0:Nat):Int)):
  mA fns qk3 ⟨F0,false⟩ Y fun o A' X=>o= .normal∧aNJ S ub rb n L.length mv L 0 A' X:=by
 refine aJ (bB (aNJ S ub rb n L.length mv L) ?_ L.length _ _ ⟨rfl,hS,0,up0,by omega,hU,hup,fun x q hx hq=>by omega,hZ,p33,p34,p35⟩);clear hZ p33 p34 p35 hU hup hS;rintro k ⟨F,inr⟩ X ⟨q0,hX,j,up,hjk,hU,hup,hd,⟨p0,p1,p5⟩,p33,p34,p35⟩;simp only at q0 p0 p1 p5 p33 p34 p35;subst q0;refine bE ?_;simp only[↓sU,sD,rE,↓reduceIte,rA,p34,p35];by_cases hlt:j<L.length;rotate_left
 ·refine aA (aK (by simp only[↓sU,sD,rE,↓reduceIte,rA,Aa (show ¬ (j:Int)<((L.length:Nat):Int) by omega)]) (aU ?_));simp only[↓sU,sD,rE,↓reduceIte,rA];obtain rfl:k=0:=by omega
  exact⟨rfl,hX,j,up,hjk,hU,hup,hd,(by refine⟨?_,?_,?_⟩<;>simp only[↓sU,sD,rE,↓reduceIte,rA,p0,p1,p5]),by refine⟨?_,?_,?_⟩<;>simp only[↓sU,sD,rE,↓reduceIte,rA,p33,p34,p35]⟩
 refine aA (aM (by simp only[↓sU,sD,rE,↓reduceIte,rA,Ab (show(j:Int)<((L.length:Nat):Int) by omega)]) (aI ?_));try simp only[↓sU,sD,rE,↓reduceIte,rA]
 have w1:IntKind.i64.wrap ((j:Int)+1)=((j+1:Nat):Int):=by rw[wrap_i64 (by omega) (by omega)];omega
 obtain⟨xb,xq,a,xi,xs,xl⟩:=aEl hm hlt;have xl:=xl X hX;have hmem:L.getD j []∈L:=by rw[Ad,Ac hlt];exact Bh hlt
 obtain⟨l1,l2⟩:=hin _ hmem;have xlen:=(xs.same hX).len;rw[l1] at xlen;refine aA (aJ (aA (aF ?_)));simp only[↓sU,sD,rE,↓reduceIte,rA,p33,p35,aE,xi,xl];refine bE ?_;simp only[↓sU,sD,rE,↓reduceIte,rA,xlen,Ag];refine aS (aMR (S:=S) (ub:=ub) (rb:=rb) (n:=n) (mv:=mv) (mrow:=a) (m:=L.getD j []) (j:=j) (ml:=L.length) (E:=qV n L) (up0:=up) H hn hX hs hU hup xs l1 l2 (fun x hx=>⟨hx,_,hmem,rfl⟩) (by refine⟨?_,?_,?_⟩<;>simp only[↓sU,sD,rE,↓reduceIte,rA,p0,p1,p5]) (by simp only[↓sU,sD,rE,↓reduceIte,rA,p33]) (by simp only[↓sU,sD,rE,↓reduceIte,rA,p34]) (by simp only[↓sU,sD,rE,↓reduceIte,rA,p35]) (by simp only[↓sU,sD,rE,↓reduceIte,rA]) (by simp only[↓sU,sD,rE,↓reduceIte,rA]) (by simp only[↓sU,sD,rE,↓reduceIte,rA];try rfl)) ?_;clear p0 p1 p5 p33 p34 p35;rintro o ⟨F,inr⟩ X1 ⟨rfl,q0,hX1,i,up1,hik,hU1,hup1,hk1,hd1,⟨p0,p1,p5⟩,p33,p34,p35,_,_,_⟩;simp only at q0 p0 p1 p5 p33 p34 p35;subst q0;obtain rfl:i=n:=by omega
 try simp only[↓sU,sD,rE,↓reduceIte,rA]
 refine aF ?_;simp only[↓sU,sD,rE,↓reduceIte,rA,p35,w1];refine⟨k - 1,by omega,rfl,hX1,j+1,up1,by omega,hU1,hup1,fun x q hx hq=>?_,(by refine⟨?_,?_,?_⟩<;>simp only[↓sU,sD,rE,↓reduceIte,rA,p0,p1,p5]),by refine⟨?_,?_,?_⟩<;>simp only[↓sU,sD,rE,↓reduceIte,rA,p33,p34]⟩;by_cases e:q=j
 ·subst e;exact hd1 x hx
 ·have hq2:q<L.length:=by omega
  have hmq:L.getD q []∈L:=by rw[Ad,Ac hq2];exact Bh hq2
  have:=(hin _ hmq).2 x hx;exact hk1 x _ hx (by omega) (hd x q hx (by omega))
def aNL(S:St)(ub rb ob n:Nat)(E:Nat→Nat→Prop)(up0:List Int)(k:Nat)(A:bH)(X:St):Prop:=A.inr=false∧Same S X∧ob<X.nx∧∃ (i:Nat) (l up:List Int),i+k=n∧l.length=n∧(∀j,j<i→l.getD j 0=((root up0 j:Nat):Int))∧X.h.get ob=some (.cells (bC l) false 0)∧oE X ub rb n up∧tM n E up∧(∀x,x<n→root up x=root up0 x)∧aD 5 A.F= .ptr ub 0∧aD 11 A.F= .sl ob 0 n n false∧aD 55 A.F= .int .i64 (n:Int)∧aD 56 A.F= .int .i64 (i:Int)
theorem aMC{Y:St}{F0:Fr}{up0 l0:List Int}{ob:Nat}{E:Nat→Nat→Prop}(H:Has fns)(hn:n≤1000000)(hS:Same S Y)(hs:S.nx≤rb)(hso:S.nx≤ob)(hor:ob≠rb)(hou:ob≠ub)(hU:oE Y ub rb n up0)(hup:tM n E up0)(ho:Y.h.get ob=some (.cells (bC l0) false 0))(hol:ob<Y.nx)(hl0:l0.length=n)
  (p5:aD 5 F0= .ptr ub 0) (p11:aD 11 F0= .sl ob 0 n n false) (p55:aD 55 F0= .int .i64 (n:Int)) (p56:aD 56 F0= .int .i64 ((0:Nat):Int)):
  mA fns qk1 ⟨F0,false⟩ Y fun o A' X=>o= .normal∧aNL S ub rb ob n E up0 0 A' X:=by
 refine aJ (bB (aNL S ub rb ob n E up0) ?_ n _ _ ⟨rfl,hS,hol,0,l0,up0,by omega,hl0,fun j hj=>by omega,ho,hU,hup,fun _ _=>rfl,p5,p11,p55,p56⟩);clear p5 p11 p55 p56 hU ho hol hS;have hup0:=hup;clear hup;rintro k ⟨F,inr⟩ X ⟨q0,hX,hol,i,l,up,hik,hl,hf,ho,hU,hup,hr,p5,p11,p55,p56⟩;simp only at q0 p5 p11 p55 p56;subst q0;refine bE ?_;simp only[↓sU,sD,rE,↓reduceIte,rA,p55,p56];by_cases hlt:i<n;rotate_left
 ·refine aA (aK (by simp only[↓sU,sD,rE,↓reduceIte,rA,Aa (show ¬ (i:Int)<(n:Int) by omega)]) (aU ?_));simp only[↓sU,sD,rE,↓reduceIte,rA];obtain rfl:k=0:=by omega
  exact⟨rfl,hX,hol,i,l,up,hik,hl,hf,ho,hU,hup,hr,by refine⟨?_,?_,?_,?_⟩<;>simp only[↓sU,sD,rE,↓reduceIte,rA,p5,p11,p55,p56]⟩
 refine aA (aM (by simp only[↓sU,sD,rE,↓reduceIte,rA,Ab (show(i:Int)<(n:Int) by omega)]) (aI ?_));try simp only[↓sU,sD,rE,↓reduceIte,rA]
 have w1:IntKind.i64.wrap ((i:Int)+1)=((i+1:Nat):Int):=by rw[wrap_i64 (by omega) (by omega)];omega
 have hia:=dI (b:=ob) (o:=false) hlt;refine aA (aJ (aA (aF ?_)));simp only[↓sU,sD,rE,↓reduceIte,rA,p56];refine aF ?_;simp only[↓sU,sD,rE,↓reduceIte,rA,p5,p11];refine aY ?_;simp only[↓sU,sD,rE,↓reduceIte,rA];refine aP (wQ H hU hup hlt hn) ?_;rintro _ X1 ⟨rfl,s1,up1,hU1,hup1,hr1⟩;rw[hr i hlt];have ho1:=(s1.2 _ hol hor).trans ho;have hX1:=bQ.same hX s1 hs;simp only[↓sU,sD,rE,↓reduceIte,rA,aE,hia];refine fD (fun call=>by simp only[↓sU,sD,rE,↓reduceIte,rA,eJ,cI];exact oC (S:=X1) ho1 (by rw[hl];exact hlt)) ?_;simp only[↓sU,sD,rE,↓reduceIte,rA];refine aF ?_;simp only[↓sU,sD,rE,↓reduceIte,rA,p56,w1];refine⟨k - 1,by omega,rfl,hX1.put hso _,Ae hol s1.1,i+1,l.set i ((root up0 i:Nat):Int),up1,by omega,by rw[Al];exact hl,fun j hj=>?_,by simp only;rw[T.get_set,if_pos rfl],⟨by simp only;rw[T.get_set,if_neg (Co hou)];exact hU1.u,by simp only;rw[T.get_set,if_neg (Co hor)];exact hU1.r,hU1.lu,hU1.lr,hU1.ne⟩,hup1,fun x hx=>by rw[hr1 x hx,hr x hx],by refine⟨?_,?_,?_,?_⟩<;>simp only[↓sU,sD,rE,↓reduceIte,rA,p5,p11,p55]⟩;rw[dP (by omega)];split
 ·rename_i e;rw[e]
 ·exact hf j (by omega)
end
theorem aAR{S:St}{mv:AV}{n:Nat}{L:List (List Int)}(H:Has fns)(hn:n≤1000000)(hm:aN 1 kJ S mv L)(hL:L.length≤1000000)(hin:∀m∈L,m.length=n∧∀x,x<n→0≤m.getD x 0∧m.getD x 0<n):
  fA fns (.fn 31 [] []) [.int .i64 (n:Int),mv] S fun r S'=>Same S S'∧∃out,gF S S' r out∧aAU n (qV n L) out:=by
 refine bP H.f31 (by simp) ?_;simp only[↓sU,sD,rE,↓reduceIte,rA];refine bE ?_;simp only[↓sU,sD,rE,↓reduceIte,rA];refine bE ?_;simp only[↓aC,aB,rE,↓reduceIte,rA];refine fX (mI (n:=n) (by simp only[↓aC,aB,rE,↓reduceIte,rA,aE]) (by simp only[↓aC,aB,rE,↓reduceIte,rA,aE]) (by unfold room;omega) (by unfold room;omega)) ?_;intro S1 s1 n1 c1;rw[lU] at c1;have hb1:=fun(F:Fr) (h:Ev.T AB) (a:aD 14 F= .sl S.nx 0 n n false)=>aNg (t:=14) (F:=F) (h:=h) a;simp only[↓aC,aB,rE,↓reduceIte,rA,hb1];refine dG (cs:=[.sl S.nx 0 n n false]) (by simp only[↓aC,aB,rE,↓reduceIte,rA];exact bJ _) ?_;intro S2 s2 n2 c2;simp only[↓sU,sD,rE,↓reduceIte,rA];have s12:=s1.trans s2;have hU2:oE S2 S1.nx S.nx n (List.replicate n 0):=⟨c2,(s2.2 _ (by omega)).trans c1,by omega,by omega,by omega⟩;have hu2:=aBD c2;have e0:gW (.sl S.nx 0 n n false)=some (.int .i64 (n:Int)):=rfl;refine eG ?_;simp only[↓sU,sD,rE,↓reduceIte,rA,bF,bG,aH,aG,hu2,e0];refine aS (aMF (S:=S) (n:=n) (ub:=S1.nx) (rb:=S.nx) (mv:=mv) hn s12 (Ah _) hU2 (Ao ..) (by refine⟨?_,?_,?_⟩<;>simp only[↓sU,sD,rE,↓reduceIte,rA]) (by simp only[↓sU,sD,rE,↓reduceIte,rA]) (by simp only[↓sU,sD,rE,↓reduceIte,rA];try rfl)) ?_;clear hU2 hu2 c2 c1;rintro o ⟨F,inr⟩ X ⟨rfl,q0,sX,i,l,hik,hl,hf,hU,⟨p0,p1,p5⟩,_,_⟩;simp only at q0 p0 p1 p5;subst q0;obtain rfl:i=n:=by omega
 have el:l=(List.range i).map fun k:Nat=>(k:Int):=pV (by simp [hl]) fun j hj=>by
  rw[hf j (by omega),Ad,Az,Cn (by omega)];rfl
 have hup:tM i (qV i L) l:=by rw[el];exact aEY
 try simp only[↓sU,sD,rE,↓reduceIte,rA]
 refine eG ?_;simp only[↓sU,sD,rE,↓reduceIte,rA,p1,(aN.same (E:=kJ) firm_sl hm sX).len,Ag];refine aS (aMp (S:=S) (n:=i) (ub:=S1.nx) (rb:=S.nx) (mv:=mv) (L:=L) H hn sX (Ah _) hU hup hm hL hin (by refine⟨?_,?_,?_⟩<;>simp only[↓sU,sD,rE,↓reduceIte,rA,p0,p1,p5]) (by simp only[↓sU,sD,rE,↓reduceIte,rA]) (by simp only[↓sU,sD,rE,↓reduceIte,rA]) (by simp only[↓sU,sD,rE,↓reduceIte,rA];try rfl)) ?_;clear p0 p1 p5;rintro o ⟨F,inr⟩ X2 ⟨rfl,q0,sX2,j,up,hjl,hU2,hup2,hd,⟨p0,p1,p5⟩,_,_,_⟩;simp only at q0 p0 p1 p5;subst q0;obtain rfl:j=L.length:=by omega
 try simp only[↓sU,sD,rE,↓reduceIte,rA]
 refine bE ?_;simp only[↓aC,aB,rE,↓reduceIte,rA,p0];refine fX (mI (n:=i) (by simp only[↓aC,aB,rE,↓reduceIte,rA,aE]) (by simp only[↓aC,aB,rE,↓reduceIte,rA,aE]) (by unfold room;omega) (by unfold room;omega)) ?_;intro X3 x3 m3 c3;rw[lU] at c3;simp only[↓aC,aB,rE,↓reduceIte,rA];have e3:gW (.sl X2.nx 0 i i false)=some (.int .i64 (i:Int)):=rfl;have hlu:=hU2.lu;have hlr:=hU2.lr;have hnx:=sX2.1;refine eG ?_;simp only[↓sU,sD,rE,↓reduceIte,rA,e3];refine aS (aMC (S:=S) (n:=i) (ub:=S1.nx) (rb:=S.nx) (ob:=X2.nx) (E:=qV i L) (up0:=up) H hn (sX2.trans x3) (Ah _) hnx (by omega) (by omega) (hU2.same x3) hup2 c3 (by omega) (Ao ..) (by simp only[↓sU,sD,rE,↓reduceIte,rA,p5]) (by simp only[↓sU,sD,rE,↓reduceIte,rA]) (by simp only[↓sU,sD,rE,↓reduceIte,rA]) (by simp only[↓sU,sD,rE,↓reduceIte,rA];try rfl)) ?_;clear p0 p1 p5;rintro o ⟨F,inr⟩ X4 ⟨rfl,q0,sX4,hol,i',out,up4,hi',hol',hof,ho4,_,_,_,_,p11,_,_⟩;simp only at q0 p11;subst q0;obtain rfl:i'=i:=by omega
 try simp only[↓sU,sD,rE,↓reduceIte,rA]
 refine bE ?_;simp only[↓sU,sD,rE,↓reduceIte,rA,p11];refine aO ?_;simp only[↓sU,sD,rE,↓reduceIte,rA];refine⟨sX4,out,⟨X2.nx,by rw[hol'],hnx,hol,ho4⟩,?_⟩;have hE:∀x y,qV i' L x y→x<i'∧y<i':=fun x y ⟨hx,m,hmm,e⟩=>by
  have:=(hin m hmm).2 x hx;omega
 refine aMQ hup2 hE (fun x y ⟨hx,m,hmm,e⟩=>?_) hol' fun x hx=>hof x hx;obtain⟨q,hq,rfl⟩:=Ee.1 hmm;have:=hd x q hx hq;rw[Ad (l:=L),Ac hq] at this;rw[e];exact this
noncomputable def iQ(g:aW):List (List Int)→Int
 | []=>0
 | m::L=>if iL g.nodes.length m (fT g m)≠0 then iL g.nodes.length m (fT g m) else iQ g L
def aJ6(g:aW)(S:St)(cs:List AV)(m:List Int):Prop:=∃x y,cs= [x,y]∧bN .i64 S x (imgI g m)∧aN 1 kJ S y (imgA g m)
theorem vF.low{g:aW}{m:List Int}{S S1 X:St}{x y:AV}(h:vF g m S1 X x y)(hs:S.nx≤S1.nx):vF g m S X x y:=by
 obtain⟨⟨b,h1,h2,h3,h4⟩,ab,bs,cs,k1,k2,k3,k4,k5⟩:=h;exact⟨⟨b,h1,Ay hs h2,h3,h4⟩,ab,bs,cs,k1,Ay hs k2,k3,k4,k5.low hs⟩
theorem vF.moveF{g:aW}{m:List Int}{S X X':St}{x y:AV}(h:vF g m S X x y)(hn:X.nx≤X'.nx)(hh:∀c cs,c<X.nx→X.h.get c=some (.cells cs false 0)→X'.h.get c=X.h.get c):vF g m S X' x y:=by
 obtain⟨⟨b,h1,h2,h3,h4⟩,ab,bs,cs,k1,k2,k3,k4,k5⟩:=h;refine⟨⟨b,h1,h2,Ae h3 hn,(hh b _ h3 h4).trans h4⟩,ab,bs,cs,k1,k2,Ae k3 hn,(hh ab _ k3 k4).trans k4,k5.move hn fun j hj=>?_⟩;obtain⟨a,b,c⟩:=k5.bl j hj;exact hh _ _ b c
theorem vF.sl{g:aW}{m:List Int}{S X:St}{x y:AV}(h:vF g m S X x y):aJ6 g X [x,y] m:=by
 obtain⟨h1,ab,bs,cs,rfl,k2,k3,k4,k5⟩:=h;exact⟨x,_,rfl,h1.is,k5.is k4 k3 (Ah _)⟩
theorem vF.cel{g:aW}{m:List Int}{S X:St}{x y:AV}(h:vF g m S X x y):x.cells=some [x]∧y.cells=some [y]:=by
 obtain⟨⟨b,rfl,_⟩,ab,bs,cs,rfl,_⟩:=h;exact⟨rfl,rfl⟩
theorem aOJ{S:St}{t:Nat}{x y:AV}{o:Bool}{sz:Nat}(h:S.h.get t=some (.cells [x,y] o sz)):fP (.sl t 0 1 1 false) S.h 2 1=some [x,y]:=by
 show aZ (cS S.h t) (fun cs=>cut cs 0 (1 * 2))=_;unfold cS;rw[h];rfl
structure aCG(g:aW)(S X:St)(v:AV)(cs:List AV)(L:List (List Int))(j:Nat):Prop where
 gr:jZ 2 S X v j cs
 el:∀q,q<j→∃x y,cs[q * 2]? =some x∧cs[q * 2+1]? =some y∧vF g (L.getD q []) S X x y
theorem aCG.is{g:aW}{S X:St}{v:AV}{cs:List AV}{L:List (List Int)}(h:aCG g S X v cs L L.length):aN 2 (aJ6 g) X v L:=by
 rcases h.gr with⟨rfl,h0,_⟩ | ⟨b,rfl,h1,h2,h3,h4⟩
 ·exact .inl ⟨Cg.1 h0,.inl rfl⟩
 ·refine .inr ⟨b,0,L.length,true,cs,rfl,Ah _,h2,by unfold cS;rw[h3];rfl,fun i a hi=>?_⟩;obtain⟨hlt,rfl⟩:=Ai.1 hi;obtain⟨x,y,e1,e2,e3⟩:=h.el i hlt;rw[Ad,Ac hlt] at e3;refine⟨[x,y],rfl,fun q w hq=>?_,e3.sl⟩;rw[An]
  match q,hq with
  | 0,hq=>cases hq;exact e1
  | 1,hq=>cases hq;exact e2
  | q+2,hq=>simp at hq
theorem aCG.move{g:aW}{S X X':St}{v:AV}{cs:List AV}{L:List (List Int)}{j:Nat}(h:aCG g S X v cs L j)(hs:Same X X'):aCG g S X' v cs L j:=⟨h.gr.step hs,fun q hq=>by
 obtain⟨x,y,e1,e2,e3⟩:=h.el q hq;exact⟨x,y,e1,e2,e3.moveF hs.1 fun c _ hc _=>hs.2 c hc⟩⟩
theorem aCG.push{g:aW}{S X:St}{v x y:AV}{cs:List AV}{L:List (List Int)}{j t:Nat}(h:aCG g S X v cs L j)(hS:Same S X)(hp:vF g (L.getD j []) S X x y)(ht:X.h.get t=some (.cells [x,y] false 0))(hj:j+1≤1000):
  ∃v' X',iN 48 2 v (.sl t 0 1 1 false) X=some (v',X')∧Same S X'∧X.nx≤X'.nx∧(∀c,c<X.nx→cL v≠some c→X'.h.get c=X.h.get c)∧aCG g S X' v' (cs++ [x,y]) L (j+1):=by
 obtain⟨v',X',e1,e2,e3,e4,e5⟩:=h.gr.app (bytes:=48) (m:=1) hS rfl (aOJ ht) rfl Nat.one_pos (by unfold room;omega) (by unfold room;omega);have hoff:∀c cs',c<X.nx→X.h.get c=some (.cells cs' false 0)→X'.h.get c=X.h.get c:=fun c cs' hc hg=>e5 c hc (h.gr.off hg);refine⟨v',X',e1,e3,e4,e5,e2,fun q hq=>?_⟩;have hcl:=h.gr.csl;by_cases e:q=j
 ·subst e;refine⟨x,y,?_,?_,hp.moveF e4 hoff⟩
  ·rw[Av (by omega),hcl,Dr];rfl
  ·rw[Av (by omega),hcl,show q * 2+1 - q * 2=1 by omega];rfl
 ·obtain⟨x',y',k1,k2,k3⟩:=h.el q (by omega);have a1:=(Ai.1 k1).1;have a2:=(Ai.1 k2).1;exact⟨x',y',by rw[Ba a1];exact k1,by rw[Ba a2];exact k2,k3.moveF e4 hoff⟩
theorem aBK{g:aW}{L:List (List Int)}{j:Nat}(hj:j<L.length)(h:iL g.nodes.length (L.getD j []) (fT g (L.getD j []))=0):iQ g (L.drop j)=iQ g (L.drop (j+1)):=by
 rw[Br hj];have e:L.getD j []=L[j]:=by rw[Ad,Ac hj];rfl
 rw[e] at h;show(if _≠_ then _ else _)=_;rw[if_neg (fun e=>e h)]
theorem aB2{g:aW}{L:List (List Int)}{j:Nat}(hj:j<L.length)(h:iL g.nodes.length (L.getD j []) (fT g (L.getD j []))≠0):iQ g (L.drop j)=iL g.nodes.length (L.getD j []) (fT g (L.getD j [])):=by
 rw[Br hj];have e:L.getD j []=L[j]:=by rw[Ad,Ac hj];rfl
 rw[e] at h ⊢;show(if _≠_ then _ else _)=_;rw[if_pos h]
def aNF(S:St)(wb:Nat)(mv:AV)(g:aW)(L:List (List Int))(k:Nat)(A:bH)(X:St):Prop:=A.inr=false∧Same S X∧∃ (j:Nat) (v:AV) (cs:List AV),j+k=L.length∧iQ g L=iQ g (L.drop j)∧aCG g S X v cs L j∧aD 0 A.F= .ptr wb 0∧aD 6 A.F=v∧aD 14 A.F=mv∧aD 15 A.F= .int .i64 (L.length:Int)∧aD 16 A.F= .int .i64 (j:Int)
theorem xE{S:St}{wb plb szb:Nat}{nv iv pv mv:AV}{g:aW}{L:List (List Int)}{T:List cC}{Z:List Int}(H:Has fns)(hf:cM g=0)(hn:aN 6 bT S nv g.nodes)(hi:aN 2 cV S iv g.infos)(hm:aN 1 kJ S mv L)(hT:eK g=some T)(hTl:T.length=g.nodes.length)(hpv:bN .i64 S pv (T.map (·.1)))(hB:gD S wb plb szb pv nv iv g (jM g) Z):
  fA fns (.fn 30 [] []) [.ptr wb 0,mv] S fun r S'=>Same S S'∧∃v,r= .tup [v,.int .i64 (if 16<L.length then 4 else iQ g L)]∧((if 16<L.length then 4 else iQ g L)≠0→v= .nilsl)∧((if 16<L.length then 4 else iQ g L)=0→aN 2 (aJ6 g) S' v L):=by
 have G:=kA hf;have hN2:=G.n2;refine bP H.f30 (by simp) ?_;simp only[↓sU,sD,rE,↓reduceIte,rA];refine bE ?_;simp only[↓sU,sD,rE,↓reduceIte,rA];refine eG ?_;simp only[↓sU,sD,rE,↓reduceIte,rA,hm.len,Ag];by_cases h16:16<L.length
 ·rw[if_pos h16];refine aM (by simp only[↓sU,sD,rE,↓reduceIte,rA,Ab (show((L.length:Nat):Int)>16 by omega)]) ?_;refine bE ?_;simp only[↓sU,sD,rE,↓reduceIte,rA];refine aO ?_;simp only[↓sU,sD,rE,↓reduceIte,rA];exact⟨Same.refl _,.nilsl,rfl,fun _=>rfl,fun h=>by omega⟩
 rw[if_neg h16];refine aK (by simp only[↓sU,sD,rE,↓reduceIte,rA,Aa (show ¬ ((L.length:Nat):Int)>16 by omega)]) (aI ?_);try simp only[↓sU,sD,rE,↓reduceIte,rA]
 refine bE ?_;simp only[↓sU,sD,rE,↓reduceIte,rA];refine aA (aS (Q:=fun o A' X=>(o= .normal∧aNF S wb mv g L 0 A' X)∨(o= .ret∧Same S X∧iQ g L≠0∧aD 4 A'.F= .nilsl∧aD 5 A'.F= .int .i64 (iQ g L))) (aA (aF ?_)) ?_)
 ·simp only[↓sU,sD,rE,↓reduceIte,rA,hm.len,Ag];refine aJ (bB (aNF S wb mv g L) ?_ L.length _ _ ⟨rfl,Same.refl _,0,.nilsl,[],by omega,rfl,⟨.inl ⟨rfl,rfl,rfl⟩,fun q hq=>by omega⟩,by simp only[↓sU,sD,rE,↓reduceIte,rA],by simp only[↓sU,sD,rE,↓reduceIte,rA],by simp only[↓sU,sD,rE,↓reduceIte,rA],by simp only[↓sU,sD,rE,↓reduceIte,rA],by simp only[↓sU,sD,rE,↓reduceIte,rA];try rfl⟩);rintro k ⟨F,inr⟩ X ⟨q0,hX,j,v,cs,hjk,hE,hI,p0,p6,p14,p15,p16⟩;simp only at q0 p0 p6 p14 p15 p16;subst q0;refine bE ?_;simp only[↓sU,sD,rE,↓reduceIte,rA,p15,p16];by_cases hlt:j<L.length;rotate_left
  ·refine aA (aK (by simp only[↓sU,sD,rE,↓reduceIte,rA,Aa (show ¬ (j:Int)<((L.length:Nat):Int) by omega)]) (aU ?_));simp only[↓sU,sD,rE,↓reduceIte,rA];obtain rfl:k=0:=by omega
   exact .inl ⟨rfl,hX,j,v,cs,hjk,hE,hI,by refine⟨?_,?_,?_,?_,?_⟩<;>simp only[↓sU,sD,rE,↓reduceIte,rA,p0,p6,p14,p15,p16]⟩
  refine aA (aM (by simp only[↓sU,sD,rE,↓reduceIte,rA,Ab (show(j:Int)<((L.length:Nat):Int) by omega)]) (aI ?_));try simp only[↓sU,sD,rE,↓reduceIte,rA]
  have w1:IntKind.i64.wrap ((j:Int)+1)=((j+1:Nat):Int):=by rw[wrap_i64 (by omega) (by omega)];omega
  obtain⟨xb,xq,a,xi,xs,xl⟩:=aEl hm hlt;have xl:=xl X hX;have himd:=aBK (g:=g) hlt;have hims:=aB2 (g:=g) hlt;have hpush:=@aCG.push g S;obtain⟨m,hme⟩:∃m,L.getD j []=m:=⟨_,rfl⟩;rw[hme] at xs himd hims;have hBX:=hB.same hX;refine aA (aJ (aA (aF ?_)));simp only[↓sU,sD,rE,↓reduceIte,rA,p14,p16,aE,xi,xl];refine bE ?_;simp only[↓aC,aB,rE,↓reduceIte,rA,p0];refine aY ?_;simp only[↓aC,aB,rE,↓reduceIte,rA];refine aP (aGa (P:=vF g m) (ok:=fT g m) H (aKa (g:=g) (m:=m)) hBX.w (aN.same (E:=bT) bI hn hX) (xs.same hX) (by omega) (fun h1 h2 _ S' hS'=>aBf H (aN.same (E:=bT) bI hn (hX.trans hS')) (aN.same (E:=cV) cE hi (hX.trans hS')) (xs.same (hX.trans hS')) G ⟨h1,h2⟩ hT hTl (hpv.same (hX.trans hS')) (hBX.same hS'))) ?_;rintro _ X1 ⟨x1,x,y,rfl,hp,hnil⟩;simp only[↓aC,aB,rE,↓reduceIte,rA,ex0,ex1];refine dO ?_;intro X2 x2 m2 c2;try simp only[↓aC,aB,rE,↓reduceIte,rA]
  have hcel:x.cells=some [x]∧y.cells=some [y]:=by
   by_cases h0:iL g.nodes.length m (fT g m)=0
   ·obtain⟨S0,_,h⟩:=hp h0;exact h.cel
   ·obtain⟨rfl,rfl⟩:=hnil h0;exact⟨rfl,rfl⟩
  refine fI (b:=X1.nx) (by simp only[↓aC,aB,rE,↓reduceIte,rA]) (by simp only[↓aC,aB,rE,↓reduceIte,rA];exact bJ _) c2 rfl rfl ?_;intro X3 x3 m3 c3;try simp only[↓aC,aB,rE,↓reduceIte,rA]
  have s13:Same X1 X3:=x3.same x2 (Ah _);have sX3:=(hX.trans x1).trans s13;clear x2 x3 c2;try simp only[↓sU,sD,rE,↓reduceIte,rA]
  refine eG ?_;simp only[↓sU,sD,rE,↓reduceIte,rA];by_cases h0:iL g.nodes.length m (fT g m)=0;rotate_left
  ·refine aM (by simp only[↓sU,sD,rE,↓reduceIte,rA,Ab (show iL g.nodes.length m (fT g m)≠0 from h0)]) ?_;refine bE ?_;simp only[↓sU,sD,rE,↓reduceIte,rA];refine aO ?_;rw[hims h0] at hE;refine .inr ⟨rfl,sX3,by rw[hE];exact h0,by refine⟨?_,?_⟩<;>simp only[↓sU,sD,rE,↓reduceIte,rA,hE]⟩
  refine aK (by simp only[↓sU,sD,rE,↓reduceIte,rA,Aa (show ¬iL g.nodes.length m (fT g m)≠0 from fun h=>h h0)]) (aI ?_);try simp only[↓sU,sD,rE,↓reduceIte,rA]
  obtain⟨S0,hS0,hpi⟩:=hp h0;have hpi3:vF g (L.getD j []) S X3 x y:=by
   rw[hme];exact(hpi.moveF s13.1 fun c _ hc _=>s13.2 c hc).low (Ay hX.1 hS0)
  refine aF ?_;simp only[↓aC,aB,rE,↓reduceIte,rA,p6,aNV c3];refine fX (aMW (a:=x) (b:=y) (by simp only[↓aC,aB,rE,↓reduceIte,rA])) ?_;intro X4 x4 m4 c4;have sX4:=sX3.trans x4;obtain⟨v',X5,eA,e2,e3,e4,e5⟩:=(hI.move ((x1.trans s13).trans x4)).push (t:=X3.nx) sX4 (hpi3.moveF x4.1 fun c _ hc _=>x4.2 c hc) c4 (by omega);try simp only[↓aC,aB,rE,↓reduceIte,rA,p6]
  refine fD (fun call=>by simp only[↓aC,aB,rE,↓reduceIte,rA,mL];exact eA) ?_;simp only[↓sU,sD,rE,↓reduceIte,rA];refine aF ?_;simp only[↓sU,sD,rE,↓reduceIte,rA,p16,w1];exact⟨k - 1,by omega,rfl,e2,j+1,v',_,by omega,by rw[hE];exact himd h0,e5,by refine⟨?_,?_,?_,?_,?_⟩<;>simp only[↓sU,sD,rE,↓reduceIte,rA,p0,p14,p15]⟩
 rintro o ⟨F,inr⟩ X (⟨rfl,q0,hX,j,v,cs,hjk,hE,hI,p0,p6,p14,p15,p16⟩ | ⟨rfl,hX,hne,p4,p5⟩)
 ·simp only at q0 p6;subst q0;obtain rfl:j=L.length:=by omega
  rw[List.drop_length] at hE;have hE0:iQ g L=0:=hE;try simp only[↓sU,sD,rE,↓reduceIte,rA]
  refine bE ?_;simp only[↓sU,sD,rE,↓reduceIte,rA,p6];refine aO ?_;simp only[↓sU,sD,rE,↓reduceIte,rA];exact⟨hX,v,by rw[hE0],fun h=>absurd hE0 h,fun _=>hI.is⟩
 ·simp only at p4 p5;simp only[↓sU,sD,rE,↓reduceIte,rA,p4,p5];exact⟨hX,.nilsl,rfl,fun _=>rfl,fun h=>absurd h hne⟩
noncomputable def fR(g:aW)(L:List (List Int)):Int:=if cM g≠0 then cM g else if 16<L.length then 4 else iQ g L
theorem mY{g:aW}{L:List (List Int)}(h:fR g L=0):cM g=0∧L.length≤16∧iQ g L=0:=by
 unfold fR at h;split at h
 ·rename_i h1;exact absurd h h1
 rename_i h1;split at h
 ·cases h
 ·exact⟨Du.1 h1,by omega,h⟩
theorem lO{g:aW}:∀ {L:List (List Int)},iQ g L=0→∀m∈L,iL g.nodes.length m (fT g m)=0
 | [],_,m,hm=>by cases hm
 | x::L,h,m,hm=>by
  have h:(if iL g.nodes.length x (fT g x)≠0 then iL g.nodes.length x (fT g x) else iQ g L)=0:=h;split at h
  ·rename_i h1;exact absurd h h1
  ·rename_i h1;rcases Bg.1 hm with rfl | hm
   ·exact Du.1 h1
   ·exact lO h m hm
theorem kF{g:aW}{m:List Int}(h:iL g.nodes.length m (fT g m)=0):nK g m:=by
 unfold iL at h;split at h
 ·cases h
 rename_i h1;split at h
 ·cases h
 rename_i h2;split at h
 ·cases h
 rename_i h3;split at h
 ·rename_i h4;exact⟨⟨Du.1 h1,Classical.not_not.1 h2⟩,h3,h4⟩
 ·cases h
def aLk(g:aW)(L:List (List Int))(a b:List Int):Prop:=aAU g.nodes.length (qV g.nodes.length L) a∧aAU g.infos.length (qV g.infos.length (L.map (imgI g))) b
structure aGf(X1 X:St)(v:AV)(cs:List AV)(A:List (List Int))(j:Nat):Prop where
 gr:jZ 1 X1 X v j cs
 el:∀q,q<j→∃r,cs[q]? =some r∧bN .i64 X1 r (A.getD q [])
theorem aGf.is{X1 X:St}{v:AV}{cs:List AV}{A:List (List Int)}(h:aGf X1 X v cs A A.length)(hs:Same X1 X):aN 1 kJ X v A:=by
 rcases h.gr with⟨rfl,h0,_⟩ | ⟨b,rfl,h1,h2,h3,h4⟩
 ·exact .inl ⟨Cg.1 h0,.inl rfl⟩
 ·refine .inr ⟨b,0,A.length,true,cs,rfl,Ah _,h2,by unfold cS;rw[h3];rfl,fun i a hi=>?_⟩;obtain⟨hlt,rfl⟩:=Ai.1 hi;obtain⟨r,e1,e3⟩:=h.el i hlt;rw[Ad,Ac hlt] at e3;refine⟨[r],rfl,fun q w hq=>?_,r,rfl,e3.same hs⟩;rw[An,Dn]
  match q,hq with
  | 0,hq=>cases hq;exact e1
  | q+1,hq=>simp at hq
theorem aGf.push{X1 X:St}{v r:AV}{cs:List AV}{A:List (List Int)}{j t:Nat}(h:aGf X1 X v cs A j)(hS:Same X1 X)(hr:bN .i64 X1 r (A.getD j []))(ht:X.h.get t=some (.cells [r] false 0))(hj:j+1≤1000):
  ∃v' X',iN 24 1 v (.sl t 0 1 1 false) X=some (v',X')∧Same X1 X'∧aGf X1 X' v' (cs++ [r]) A (j+1):=by
 obtain⟨v',X',e1,e2,e3,e4,e5⟩:=h.gr.app (bytes:=24) (m:=1) hS rfl (aLi ht) rfl Nat.one_pos (by unfold room;omega) (by unfold room;omega);refine⟨v',X',e1,e3,e2,fun q hq=>?_⟩;have hcl:=h.gr.csl;by_cases e:q=j
 ·subst e;exact⟨r,by rw[Av (by omega),hcl,Dn,Dr];rfl,hr⟩
 ·obtain⟨r',k1,k2⟩:=h.el q (by omega);exact⟨r',by rw[Ba (Ai.1 k1).1];exact k1,k2⟩
theorem aFo{f:List Int→List Int}{L:List (List Int)}{j:Nat}(hj:j<L.length):(L.map f).getD j []=f (L.getD j []):=by
 rw[Ad,Az,Ac hj,Ad,Ac hj];rfl
theorem aF2{g:aW}{L:List (List Int)}(hf:cM g=0)(hL:∀m∈L,nK g m):(∀m∈L,m.length=g.nodes.length∧∀x,x<g.nodes.length→0≤m.getD x 0∧m.getD x 0<g.nodes.length)∧∀m∈L.map (imgI g),m.length=g.infos.length∧∀x,x<g.infos.length→0≤m.getD x 0∧m.getD x 0<g.infos.length:=by
 have G:=kA hf;refine⟨fun m hm=>⟨(hL m hm).M.len,fun x hx=>?_⟩,fun m hm=>?_⟩
 ·have:=(hL m hm).M.at hx;omega
 ·obtain⟨q,hq,rfl⟩:=Cy.1 hm;refine⟨by simp [imgI],fun x hx=>?_⟩;have A:=hL q hq;obtain⟨h1,h2,h3⟩:=G.fst x hx;have e:(imgI g q).getD x 0=(nodeAt g (eB q (iS g x))).info:=by
   unfold imgI;rw[Ad,Az,Cn hx];rfl
  rw[e];have:=G.inf _ (A.M.at h1).2 (by rw[← (A.A.like _ h1).1];exact h2);exact⟨this.1,this.2.1⟩
def aNl(X1:St)(gb:Nat)(mv imv:AV)(A0:List (List Int))(k:Nat)(A:bH)(X:St):Prop:=A.inr=false∧Same X1 X∧∃ (j:Nat) (v:AV) (cs:List AV),j+k=A0.length∧aGf X1 X v cs A0 j∧aD 1 A.F=mv∧aD 2 A.F= .ptr gb 0∧aD 10 A.F=v∧aD 30 A.F=imv∧aD 31 A.F= .int .i64 (A0.length:Int)∧aD 32 A.F= .int .i64 (j:Int)
theorem aDH{S:St}{nv iv mv:AV}{g:aW}{L:List (List Int)}(H:Has fns)(hn:aN 6 bT S nv g.nodes)(hi:aN 2 cV S iv g.infos)(hln:g.nodes.length≤100000)(hm:aN 1 kJ S mv L):
  fA fns (.fn 8 [] []) [.agg [.int .i64 g.players,nv,iv],mv] S fun r S'=>Same S S'∧∃x y,r= .tup [x,y,.int .i64 (fR g L)]∧(fR g L≠0→x= .nilsl∧y= .nilsl)∧(fR g L=0→∃a b,gF S S' x a∧gF S S' y b∧aLk g L a b):=by
 refine bP H.f8 (by simp) ?_;simp only[↓sU,sD,rE,↓reduceIte,rA];refine bE ?_;refine dG (by simp only[↓sU,sD,rE,↓reduceIte,rA];exact bJ _) ?_;intro S1 s1 n1 g1;simp only[↓sU,sD,rE,↓reduceIte,rA];refine bE ?_;simp only[↓sU,sD,rE,↓reduceIte,rA,gG g1];refine aY ?_;simp only[↓sU,sD,rE,↓reduceIte,rA];refine aP (aDm H (aN.same (E:=bT) bI hn s1) (aN.same (E:=cV) cE hi s1) hln) ?_;rintro _ S2 ⟨s2,p,rfl,hlook⟩;simp only[↓sU,sD,rE,↓reduceIte,rA,ex0,ex1];have s12:=s1.trans s2;refine eG ?_;simp only[↓sU,sD,rE,↓reduceIte,rA];by_cases h0:cM g=0;rotate_left
 ·have hE:fR g L=cM g:=by unfold fR;rw[if_pos h0]
  rw[hE];refine aM (by simp only[↓sU,sD,rE,↓reduceIte,rA,Ab (show cM g≠0 from h0)]) ?_;refine bE ?_;simp only[↓sU,sD,rE,↓reduceIte,rA];refine aO ?_;simp only[↓sU,sD,rE,↓reduceIte,rA];exact⟨s12,.nilsl,.nilsl,rfl,fun _=>⟨rfl,rfl⟩,fun h=>absurd h h0⟩
 have hE:fR g L=if 16<L.length then 4 else iQ g L:=by unfold fR;rw[if_neg (fun h=>h h0)]
 rw[hE];refine aK (by simp only[↓sU,sD,rE,↓reduceIte,rA,Aa (show ¬cM g≠0 from fun h=>h h0)]) (aI ?_);try simp only[↓sU,sD,rE,↓reduceIte,rA]
 obtain⟨wb,plb,szb,pv0,T,Z,rfl,hwb,hT,hTl,hpv,hB⟩:=hlook h0;have hn2:=aN.same (E:=bT) bI hn s12;have hi2:=aN.same (E:=cV) cE hi s12;have hm2:=aN.same (E:=kJ) firm_sl hm s12;refine bE ?_;simp only[↓sU,sD,rE,↓reduceIte,rA];refine aY ?_;simp only[↓sU,sD,rE,↓reduceIte,rA];refine aP (xE H h0 hn2 hi2 hm2 hT hTl hpv hB) ?_;rintro _ S3 ⟨s3,imv,rfl,himn,him⟩;generalize he:(if 16<L.length then(4:Int) else iQ g L)=e at *;simp only[↓sU,sD,rE,↓reduceIte,rA,ex0,ex1];have s13:=s12.trans s3;refine eG ?_;simp only[↓sU,sD,rE,↓reduceIte,rA];by_cases e0:e=0;rotate_left
 ·refine aM (by simp only[↓sU,sD,rE,↓reduceIte,rA,Ab (show e≠0 from e0)]) ?_;refine bE ?_;simp only[↓sU,sD,rE,↓reduceIte,rA];refine aO ?_;simp only[↓sU,sD,rE,↓reduceIte,rA];exact⟨s13,.nilsl,.nilsl,rfl,fun _=>⟨rfl,rfl⟩,fun h=>absurd h e0⟩
 refine aK (by simp only[↓sU,sD,rE,↓reduceIte,rA,Aa (show ¬e≠0 from fun h=>h e0)]) (aI ?_);try simp only[↓sU,sD,rE,↓reduceIte,rA]
 have hims:=him e0;have hL16:L.length≤16:=by
  rw[←he] at e0;split at e0
  ·cases e0
  ·omega
 have hAll:∀m∈L,nK g m:=fun m hm=>by
  rw[←he] at e0;rw[if_neg (by omega)] at e0;exact kF (lO e0 m hm)
 obtain⟨hin1,hin2⟩:=aF2 h0 hAll;have G:=kA h0;have hAl:(L.map (imgI g)).length=L.length:=Bc ..;refine bE ?_;simp only[↓sU,sD,rE,↓reduceIte,rA];refine aA (aS (Q:=fun o A' X=>o= .normal∧aNl S3 S.nx mv imv (L.map (imgI g)) 0 A' X) (aA (aF ?_)) ?_)
 ·simp only[↓sU,sD,rE,↓reduceIte,rA,aN.len hims,Ag];refine aJ (bB (aNl S3 S.nx mv imv (L.map (imgI g))) ?_ (L.map (imgI g)).length _ _ ⟨rfl,Same.refl _,0,.nilsl,[],by omega,⟨.inl ⟨rfl,rfl,rfl⟩,fun q hq=>by omega⟩,by simp only[↓sU,sD,rE,↓reduceIte,rA],by simp only[↓sU,sD,rE,↓reduceIte,rA],by simp only[↓sU,sD,rE,↓reduceIte,rA],by simp only[↓sU,sD,rE,↓reduceIte,rA],by simp only[↓sU,sD,rE,↓reduceIte,rA,hAl],by simp only[↓sU,sD,rE,↓reduceIte,rA];try rfl⟩);rintro k ⟨F,inr⟩ X ⟨q0,hX,j,v,cs,hjk,hI,p1,p2,p10,p30,p31,p32⟩;simp only at q0 p1 p2 p10 p30 p31 p32;subst q0;refine bE ?_;simp only[↓sU,sD,rE,↓reduceIte,rA,p31,p32];by_cases hlt:j<(L.map (imgI g)).length;rotate_left
  ·refine aA (aK (by simp only[↓sU,sD,rE,↓reduceIte,rA,Aa (show ¬ (j:Int)<(((L.map (imgI g)).length:Nat):Int) by omega)]) (aU ?_));simp only[↓sU,sD,rE,↓reduceIte,rA];obtain rfl:k=0:=by omega
   exact⟨rfl,hX,j,v,cs,hjk,hI,by refine⟨?_,?_,?_,?_,?_,?_⟩<;>simp only[↓sU,sD,rE,↓reduceIte,rA,p1,p2,p10,p30,p31,p32]⟩
  refine aA (aM (by simp only[↓sU,sD,rE,↓reduceIte,rA,Ab (show(j:Int)<(((L.map (imgI g)).length:Nat):Int) by omega)]) (aI ?_));try simp only[↓sU,sD,rE,↓reduceIte,rA]
  have w1:IntKind.i64.wrap ((j:Int)+1)=((j+1:Nat):Int):=by rw[wrap_i64 (by omega) (by omega)];omega
  have hjL:j<L.length:=by omega
  obtain⟨_,xb,xq,xi,xlt,_,⟨x,y,rfl,hx,hy⟩,xag,_⟩:=aN.at hims (by decide) (aCi hjL);rw[←jO hX xlt] at xag;have hcx:x.cells=some [x]:=bN.cells hx;refine aA (aJ (aA (aF ?_)));simp only[↓aC,aB,rE,↓reduceIte,rA,p30,p32,aE,xi,xag];refine dO ?_;intro X2 x2 m2 c2;try simp only[↓aC,aB,rE,↓reduceIte,rA]
  refine fI (b:=X.nx) (by simp only[↓aC,aB,rE,↓reduceIte,rA]) (by simp only[↓aC,aB,rE,↓reduceIte,rA];exact bJ _) c2 rfl rfl ?_;intro X3 x3 m3 c3;try simp only[↓aC,aB,rE,↓reduceIte,rA]
  have s13':Same X X3:=x3.same x2 (Ah _);have sX3:=hX.trans s13';clear x2 x3 c2;refine aF ?_;simp only[↓aC,aB,rE,↓reduceIte,rA,p10,aH,aG,aNw c3];refine fX (oP hx (by simp only[↓aC,aB,rE,↓reduceIte,rA])) ?_;intro X4 x4 m4 c4;have sX4:=sX3.trans x4;have hI4:aGf S3 X4 v cs (L.map (imgI g)) j:=⟨hI.gr.step (s13'.trans x4),hI.el⟩;obtain⟨v',X5,eA,e2,e3⟩:=hI4.push (t:=X3.nx) sX4 (r:=x) (by rw[aFo hjL];exact hx) c4 (by omega);try simp only[↓aC,aB,rE,↓reduceIte,rA,p10]
  refine fD (fun call=>by simp only[↓aC,aB,rE,↓reduceIte,rA,mL];exact eA) ?_;simp only[↓sU,sD,rE,↓reduceIte,rA];refine aF ?_;simp only[↓sU,sD,rE,↓reduceIte,rA,p32,w1];exact⟨k - 1,by omega,rfl,e2,j+1,v',_,by omega,e3,by refine⟨?_,?_,?_,?_,?_,?_⟩<;>simp only[↓sU,sD,rE,↓reduceIte,rA,p1,p2,p30,p31]⟩
 rintro o ⟨F,inr⟩ X ⟨rfl,q0,hX,j,v,cs,hjk,hI,p1,p2,p10,_,_,_⟩;simp only at q0 p1 p2 p10;subst q0;obtain rfl:j=(L.map (imgI g)).length:=by omega
 have hrows:=hI.is hX;have hsX:=s13.trans hX;have gX:X.h.get S.nx=some (.cells [.int .i64 g.players,nv,iv] false 0):=((s2.trans (s3.trans hX)).2 _ (by omega)).trans g1;have lgX:S.nx<X.nx:=by have:=(s2.trans (s3.trans hX)).1;omega
 have snv:=aN.self hn;have siv:=aN.self hi;have lnv:=aN.len hn;have liv:=aN.len hi;have hN2:=G.n2;have hNI:=G.ni;try simp only[↓sU,sD,rE,↓reduceIte,rA]
 refine aA (cR (fun _=>False) ?_);intro X0 x0;simp only[↓sU,sD,rE,↓reduceIte,rA,p1,p2,p10,aH,aX,aG,eF gX,lgX,Aq,snv,lnv,Ag];refine bX rfl ?_;simp only[↓sU,sD,rE,↓reduceIte,rA];refine aP (aAR (n:=g.nodes.length) H (by omega) (aN.same (E:=kJ) firm_sl hm (hsX.trans x0)) (by omega) hin1) ?_;rintro oa Y1 ⟨y1,a,ha,hoa⟩;refine⟨y1,?_⟩;simp only[↓sU,sD,rE,↓reduceIte,rA,p1,p2,p10,aH,aX,aG,lB gX,lgX,Aq,siv,liv,Ag];refine bX rfl ?_;simp only[↓sU,sD,rE,↓reduceIte,rA];refine aP (aAR (n:=g.infos.length) H (by omega) (aN.same (E:=kJ) firm_sl hrows (x0.trans y1)) (by omega) hin2) ?_;rintro ob Y2 ⟨y2,b,hb,hob⟩;refine⟨y2,?_⟩;try simp only[↓sU,sD,rE,↓reduceIte,rA]
 refine aO ?_;simp only[↓sU,sD,rE,↓reduceIte,rA];have sfin:=((hsX.trans x0).trans y1).trans y2;have low:∀ {S0 S1 X:St} {v:AV} {l:List Int},gF S1 X v l→S0.nx≤S1.nx→gF S0 X v l:=fun h hs=>by
  obtain⟨b,h1,h2,h3,h4⟩:=h;exact⟨b,h1,Ay hs h2,h3,h4⟩
 exact⟨sfin,oa,ob,by rw[e0],fun h=>absurd e0 h,fun _=>⟨a,b,low (ha.same y2) (hsX.trans x0).1,low hb ((hsX.trans x0).trans y1).1,hoa,hob⟩⟩
def zY(l:List Int):Nat:=(l.map Int.toNat).sum
theorem aBN:∀ {l:List Int} {i:Nat} {v:Int},i<l.length→zY (l.set i v)+(l.getD i 0).toNat=zY l+v.toNat
 | [],i,v,h=>absurd h (Ce _)
 | x::l,0,v,_=>by
  show(v.toNat+zY l)+x.toNat=(x.toNat+zY l)+v.toNat;omega
 | x::l,i+1,v,h=>by
  have ih:=aBN (l:=l) (i:=i) (v:=v) (Nat.lt_of_succ_lt_succ h);show(x.toNat+zY (l.set i v))+(l.getD i 0).toNat=(x.toNat+zY l)+v.toNat;omega
theorem aLz{n:Nat}{E:Nat→Nat→Prop}{out:List Int}(h:tM n E out){x y:Nat}(hx:x<n)(hy:y<n)(hE:tF E x y)(hne:out.getD x 0≠out.getD y 0):
  tM n E ((out.set x (mnI (out.getD x 0) (out.getD y 0))).set y (mnI (out.getD x 0) (out.getD y 0)))∧zY ((out.set x (mnI (out.getD x 0) (out.getD y 0))).set y (mnI (out.getD x 0) (out.getD y 0)))<zY out:=by
 have hxy:x≠y:=fun e=>hne (by rw[e]);have hl:=h.len;have hgx:=h.le x hx;have hgy:=h.le y hy;have cx:=h.con x hx;have cy:=h.con y hy;generalize ea:out.getD x 0=a at *;generalize eb:out.getD y 0=b at *;have hm:(mnI a b=a∧a<b)∨(mnI a b=b∧b<a):=by unfold mnI;split<;>omega
 have hg:∀z,((out.set x (mnI a b)).set y (mnI a b)).getD z 0=if z=y then mnI a b else if z=x then mnI a b else out.getD z 0:=fun z=>by
  rw[dP (by rw[Al];omega),dP (by omega)]
 refine⟨⟨by rw[Al,Al];exact hl,fun z hz=>?_,fun z hz=>?_⟩,?_⟩
 ·rw[hg];have:=h.le z hz;split
  ·omega
  ·split<;>omega
 ·rw[hg];split
  ·rename_i e;subst e;rcases hm with⟨e,_⟩ | ⟨e,_⟩
   ·rw[e];exact .trans (.symm hE) cx
   ·rw[e];exact cy
  ·split
   ·rename_i e;subst e;rcases hm with⟨e,_⟩ | ⟨e,_⟩
    ·rw[e];exact cx
    ·rw[e];exact .trans hE cy
   ·exact h.con z hz
 ·have s1:=aBN (l:=out) (i:=x) (v:=mnI a b) (by omega);have s2:=aBN (l:=out.set x (mnI a b)) (i:=y) (v:=mnI a b) (by rw[Al];omega);have e2:(out.set x (mnI a b)).getD y 0=b:=by
   rw[dP (by omega),if_neg (Co hxy)];exact eb
  rw[ea] at s1;rw[e2] at s2;omega
theorem aIX{n:Nat}{L:List (List Int)}{out:List Int}(h:tM n (qV n L) out)(hd:∀q x,x<n→q<L.length→out.getD x 0=out.getD ((L.getD q []).getD x 0).toNat 0):aAU n (qV n L) out:=
 ⟨h.len,h.le,h.con,fun x y ⟨hx,m,hm,e⟩=>by
  obtain⟨q,hq,rfl⟩:=Ee.1 hm;have:=hd q x hx hq;rw[Ad (l:=L),Ac hq] at this;rw[e];exact this⟩
section
variable {S:St}{ob n:Nat}{mv:AV}{L:List (List Int)}
def aHZ(n:Nat)(L:List (List Int))(out0 out:List Int)(fl:Bool)(q x:Nat):Prop:=tM n (qV n L) out∧((fl=true∧zY out<zY out0)∨(fl=false∧out=out0∧∀q' x',x'<n→q'<q∨(q'=q∧x'<x)→out0.getD x' 0=out0.getD ((L.getD q' []).getD x' 0).toNat 0))
def aJO(ob n:Nat)(mv:AV)(fl:Bool)(F:Fr):Prop:=aD 0 F= .int .i64 (n:Int)∧aD 1 F=mv∧aD 5 F= .sl ob 0 n n false∧aD 6 F= .bool fl
def aN3(S:St)(ob n:Nat)(mv:AV)(L:List (List Int))(out0:List Int)(q:Nat)(k:Nat)(A:bH)(X:St):Prop:=A.inr=false∧Same S X∧ob<X.nx∧∃ (x:Nat) (out:List Int) (fl:Bool),x+k=n∧X.h.get ob=some (.cells (bC out) false 0)∧aHZ n L out0 out fl q x∧aJO ob n mv fl A.F∧aD 7 A.F= .int .i64 (q:Int)∧aD 8 A.F= .int .i64 (x:Int)
theorem aM4{Y:St}{F0:Fr}{out0 out1:List Int}{q:Nat}{fl:Bool}(hn:n≤1000000)(hm:aN 1 kJ S mv L)(hin:∀m∈L,m.length=n∧∀x,x<n→0≤m.getD x 0∧m.getD x 0<n)(hq:q<L.length)(hS:Same S Y)(hs:S.nx≤ob)(hol:ob<Y.nx)(ho:Y.h.get ob=some (.cells (bC out1) false 0))(hD:aHZ n L out0 out1 fl q 0)(hZ:aJO ob n mv fl F0)(p7:aD 7 F0= .int .i64 (q:Int))(p8:aD 8 F0= .int .i64 ((0:Nat):Int)):
  mA fns qk4 ⟨F0,false⟩ Y fun o A' X=>o= .normal∧aN3 S ob n mv L out0 q 0 A' X:=by
 refine aJ (bB (aN3 S ob n mv L out0 q) ?_ n _ _ ⟨rfl,hS,hol,0,out1,fl,by omega,ho,hD,hZ,p7,p8⟩);clear hZ p7 p8 hD ho hol hS;rintro k ⟨F,inr⟩ X ⟨q0,hX,hol,x,out,fl,hxk,ho,hD,⟨p0,p1,p5,p6⟩,p7,p8⟩;simp only at q0 p0 p1 p5 p6 p7 p8;subst q0;refine eG ?_;simp only[↓sU,sD,rE,↓reduceIte,rA,p0,p8];by_cases hlt:x<n;rotate_left
 ·refine aK (by simp only[↓sU,sD,rE,↓reduceIte,rA,Aa (show ¬ (x:Int)<(n:Int) by omega)]) (aU ?_);simp only[↓sU,sD,rE,↓reduceIte,rA];obtain rfl:k=0:=by omega
  exact⟨rfl,hX,hol,x,out,fl,hxk,ho,hD,(by refine⟨?_,?_,?_,?_⟩<;>simp only[↓sU,sD,rE,↓reduceIte,rA,p0,p1,p5,p6]),by refine⟨?_,?_⟩<;>simp only[↓sU,sD,rE,↓reduceIte,rA,p7,p8]⟩
 refine aM (by simp only[↓sU,sD,rE,↓reduceIte,rA,Ab (show(x:Int)<(n:Int) by omega)]) (aI ?_);try simp only[↓sU,sD,rE,↓reduceIte,rA]
 have w1:IntKind.i64.wrap ((x:Int)+1)=((x+1:Nat):Int):=by rw[wrap_i64 (by omega) (by omega)];omega
 obtain⟨xb,xq,a,xi,xs,xl⟩:=aEl hm hq;have xl1:=xl X hX;have hmem:L.getD q []∈L:=by rw[Ad,Ac hq];exact Bh hq
 obtain⟨l1,l2⟩:=hin _ hmem;obtain⟨m1,m2⟩:=l2 x hlt;have hUp:=hD.1;have hol':=hUp.len;have ia:=dI (b:=ob) (o:=false) hlt;have la:=vE ho (show x<out.length by omega);have ir:=(xs.same hX).iaddr (show x<(L.getD q []).length by omega);have lr:=(xs.same hX).ld (show x<(L.getD q []).length by omega);have sa:=bN.self xs;obtain⟨y,hy⟩:∃y:Nat,(L.getD q []).getD x 0=(y:Int):=⟨((L.getD q []).getD x 0).toNat,by omega⟩;rw[hy] at lr m2;have hyn:y<n:=by omega
 have ib:=dI (b:=ob) (o:=false) hyn;have lb:=vE ho (show y<out.length by omega);have hc:tF (qV n L) x y:=.edge ⟨hlt,_,hmem,by rw[hy];rfl⟩;have hedge:=fun hne=>aLz hUp hlt hyn hc hne;refine aA (aJ (aA (gJ ?_)));simp only[↓sU,sD,rE,↓reduceIte,rA,p1,p5,p7,p8,aE,ia,la,xi,xl1,sa,ir,lr,ib,lb,dJ];generalize ea:out.getD x 0=av at *;generalize eb:out.getD y 0=bv at *;by_cases hne:av=bv
 ·subst hne;refine bE ?_;simp only[↓sU,sD,rE,↓reduceIte,rA];refine aK (by simp only[↓sU,sD,rE,↓reduceIte,rA,Aa (show ¬av≠av from fun h=>h rfl)]) (aI ?_);try simp only[↓sU,sD,rE,↓reduceIte,rA]
  refine aF ?_;simp only[↓sU,sD,rE,↓reduceIte,rA,p8,w1];refine⟨k - 1,by omega,rfl,hX.trans (Same.nx X _),by simp only;omega,x+1,out,fl,by omega,ho,⟨hUp,?_⟩,(by refine⟨?_,?_,?_,?_⟩<;>simp only[↓sU,sD,rE,↓reduceIte,rA,p0,p1,p5,p6]),by refine⟨?_,?_⟩<;>simp only[↓sU,sD,rE,↓reduceIte,rA,p7]⟩;rcases hD.2 with h | ⟨h1,h2,h3⟩
  ·exact .inl h
  ·refine .inr ⟨h1,h2,fun q' x' hx' hc'=>?_⟩;by_cases e:q'=q∧x'=x
   ·obtain⟨rfl,rfl⟩:=e;rw[hy,Bf,←h2,ea,eb]
   ·exact h3 q' x' hx' (by omega)
 ·obtain⟨u1,u2⟩:=hedge hne;refine bE ?_;simp only[↓sU,sD,rE,↓reduceIte,rA];refine aM (by simp only[↓sU,sD,rE,↓reduceIte,rA,Ab (show av≠bv from hne)]) ?_;have xl2:=xl ⟨X.h,X.nx+16⟩ (hX.trans (Same.nx X 16));simp only at xl2;refine bE ?_;simp only[↓sU,sD,rE,↓reduceIte,rA,p1,p5,p7,p8,aE,xi,xl2,ir,lr,aBv,gR,lI,aHj,ia];refine fD (fun call=>by simp only[↓sU,sD,rE,↓reduceIte,rA,eJ,cI];exact oC (S:=⟨X.h,X.nx+16⟩) ho (by omega)) ?_;simp only[↓sU,sD,rE,↓reduceIte,rA,aE,ib];refine fD (fun call=>by simp only[↓sU,sD,rE,↓reduceIte,rA,eJ,cI];exact oC (S:=⟨X.h.set ob (some (.cells (bC (out.set x (mnI av bv))) false 0)),X.nx+16⟩) (l:=out.set x (mnI av bv)) (by simp only;rw[T.get_set,if_pos rfl]) (by rw[Al];omega)) ?_;simp only[↓sU,sD,rE,↓reduceIte,rA];refine aF ?_;simp only[↓sU,sD,rE,↓reduceIte,rA];refine aF ?_;simp only[↓sU,sD,rE,↓reduceIte,rA,p8,w1];refine⟨k - 1,by omega,rfl,((hX.trans (Same.nx X 16)).put hs _).put hs _,by simp only;omega,x+1,_,true,by omega,by simp only;rw[T.get_set,if_pos rfl],⟨u1,.inl ⟨rfl,?_⟩⟩,(by refine⟨?_,?_,?_,?_⟩<;>simp only[↓sU,sD,rE,↓reduceIte,rA,p0,p1,p5]),by refine⟨?_,?_⟩<;>simp only[↓sU,sD,rE,↓reduceIte,rA,p7]⟩;rcases hD.2 with h | ⟨h1,h2,h3⟩
  ·omega
  ·rw[←h2];exact u2
def aNf(S:St)(ob n:Nat)(mv:AV)(L:List (List Int))(out0:List Int)(k:Nat)(A:bH)(X:St):Prop:=A.inr=false∧Same S X∧ob<X.nx∧∃ (q:Nat) (out:List Int) (fl:Bool),q+k=L.length∧X.h.get ob=some (.cells (bC out) false 0)∧aHZ n L out0 out fl q 0∧aJO ob n mv fl A.F∧aD 7 A.F= .int .i64 (q:Int)
theorem aHZ.next{out0 out:List Int}{fl:Bool}{q:Nat}(h:aHZ n L out0 out fl q n):aHZ n L out0 out fl (q+1) 0:=⟨h.1,by
 rcases h.2 with e | ⟨h1,h2,h3⟩
 ·exact .inl e
 ·exact .inr ⟨h1,h2,fun q' x' hx' hc=>h3 q' x' hx' (by omega)⟩⟩
theorem aMT{Y:St}{F0:Fr}{out0:List Int}(hn:n≤1000000)(hm:aN 1 kJ S mv L)(hL:L.length≤1000000)(hin:∀m∈L,m.length=n∧∀x,x<n→0≤m.getD x 0∧m.getD x 0<n)(hS:Same S Y)(hs:S.nx≤ob)(hol:ob<Y.nx)(ho:Y.h.get ob=some (.cells (bC out0) false 0))(hU:tM n (qV n L) out0)(hZ:aJO ob n mv false F0)(p7:aD 7 F0= .int .i64 ((0:Nat):Int)):
  mA fns qk6 ⟨F0,false⟩ Y fun o A' X=>o= .normal∧aNf S ob n mv L out0 0 A' X:=by
 refine aJ (bB (aNf S ob n mv L out0) ?_ L.length _ _ ⟨rfl,hS,hol,0,out0,false,by omega,ho,⟨hU,.inr ⟨rfl,rfl,fun q' x' _ hc=>by omega⟩⟩,hZ,p7⟩);clear hZ p7 ho hol hS;rintro k ⟨F,inr⟩ X ⟨q0,hX,hol,q,out,fl,hqk,ho,hD,⟨p0,p1,p5,p6⟩,p7⟩;simp only at q0 p0 p1 p5 p6 p7;subst q0;refine eG ?_;simp only[↓sU,sD,rE,↓reduceIte,rA,p1,p7,(aN.same (E:=kJ) firm_sl hm hX).len,Ag];by_cases hlt:q<L.length;rotate_left
 ·refine aK (by simp only[↓sU,sD,rE,↓reduceIte,rA,Aa (show ¬ (q:Int)<((L.length:Nat):Int) by omega)]) (aU ?_);simp only[↓sU,sD,rE,↓reduceIte,rA];obtain rfl:k=0:=by omega
  exact⟨rfl,hX,hol,q,out,fl,hqk,ho,hD,(by refine⟨?_,?_,?_,?_⟩<;>simp only[↓sU,sD,rE,↓reduceIte,rA,p0,p1,p5,p6]),by simp only[↓sU,sD,rE,↓reduceIte,rA,p7]⟩
 refine aM (by simp only[↓sU,sD,rE,↓reduceIte,rA,Ab (show(q:Int)<((L.length:Nat):Int) by omega)]) (aI ?_);try simp only[↓sU,sD,rE,↓reduceIte,rA]
 have w1:IntKind.i64.wrap ((q:Int)+1)=((q+1:Nat):Int):=by rw[wrap_i64 (by omega) (by omega)];omega
 refine aA (aJ (aA (aF ?_)));simp only[↓sU,sD,rE,↓reduceIte,rA];refine aS (aM4 (S:=S) (ob:=ob) (n:=n) (mv:=mv) (L:=L) (out0:=out0) (out1:=out) (q:=q) (fl:=fl) hn hm hin hlt hX hs hol ho hD (by refine⟨?_,?_,?_,?_⟩<;>simp only[↓sU,sD,rE,↓reduceIte,rA,p0,p1,p5,p6]) (by simp only[↓sU,sD,rE,↓reduceIte,rA,p7]) (by simp only[↓sU,sD,rE,↓reduceIte,rA];try rfl)) ?_;clear p0 p1 p5 p6 p7;rintro o ⟨F,inr⟩ X1 ⟨rfl,q0,hX1,hol1,x,out1,fl1,hxn,ho1,hD1,⟨p0,p1,p5,p6⟩,p7,_⟩;simp only at q0 p0 p1 p5 p6 p7;subst q0;obtain rfl:n=x:=by omega
 try simp only[↓sU,sD,rE,↓reduceIte,rA]
 refine aF ?_;simp only[↓sU,sD,rE,↓reduceIte,rA,p7,w1];exact⟨k - 1,by omega,rfl,hX1,hol1,q+1,out1,fl1,by omega,ho1,hD1.next,(by refine⟨?_,?_,?_,?_⟩<;>simp only[↓sU,sD,rE,↓reduceIte,rA,p0,p1,p5,p6]),by simp only[↓sU,sD,rE,↓reduceIte,rA]⟩
end
theorem aFu{S:St}{n:Nat}(H:Has fns)(hn:n≤1000000):fA fns (.fn 28 [] []) [.int .i64 (n:Int)] S fun r S'=>gF S S' r ((List.range n).map fun k:Nat=>(k:Int))∧Same S S':=by
 refine bP H.f28 (by simp) ?_;simp only[↓aC,aB,rE,↓reduceIte,rA];refine bE ?_;simp only[↓aC,aB,rE,↓reduceIte,rA];refine bE ?_;simp only[↓aC,aB,rE,↓reduceIte,rA];refine fX (mI (n:=n) (by simp only[↓aC,aB,rE,↓reduceIte,rA,aE]) (by simp only[↓aC,aB,rE,↓reduceIte,rA,aE]) (by unfold room;omega) (by unfold room;omega)) ?_;intro S1 s1 n1 c1;rw[lU] at c1;simp only[↓aC,aB,rE,↓reduceIte,rA];refine aA (aS (Q:=fun o A' X=>o= .normal∧sC S S.nx n (fun j=>(j:Int)) (fun F i=>aD 0 F= .int .i64 (n:Int)∧aD 3 F= .sl S.nx 0 n n false∧aD 4 F= .int .i64 (i:Int)) 0 A' X) (aA (aF ?_)) ?_)
 ·simp only[↓aC,aB,rE,↓reduceIte,rA];refine aJ (bB (sC S S.nx n (fun j=>(j:Int)) (fun F i=>aD 0 F= .int .i64 (n:Int)∧aD 3 F= .sl S.nx 0 n n false∧aD 4 F= .int .i64 (i:Int))) ?_ n _ _ ⟨rfl,s1,by omega,0,_,by omega,Ao ..,fun j hj=>by omega,c1,by simp only[↓aC,aB,rE,↓reduceIte,rA],by simp only[↓aC,aB,rE,↓reduceIte,rA],by simp only[↓aC,aB,rE,↓reduceIte,rA];try rfl⟩);rintro k ⟨F,inr⟩ X ⟨q0,hX,hb,i,l,hik,hl,hf,hc,p0,p3,p4⟩;simp only at q0 p0 p3 p4;subst q0;refine eG ?_;simp only[↓aC,aB,rE,↓reduceIte,rA,p0,p4];by_cases hlt:i<n
  ·refine aM (by simp only[↓aC,aB,rE,↓reduceIte,rA,Ab (show(i:Int)<(n:Int) by omega)]) (aI ?_);try simp only[↓aC,aB,rE,↓reduceIte,rA]
   have w1:IntKind.i64.wrap ((i:Int)+1)=((i+1:Nat):Int):=by rw[wrap_i64 (by omega) (by omega)];omega
   have hia:=dI (b:=S.nx) (o:=false) hlt;refine aA (aJ (aF ?_));simp only[↓aC,aB,rE,↓reduceIte,rA,p3,p4,aE,hia];refine fD (fun call=>by simp only[↓aC,aB,rE,↓reduceIte,rA,eJ,cI];exact oC (S:=X) hc (by rw[hl];exact hlt)) ?_;simp only[↓aC,aB,rE,↓reduceIte,rA];refine aF ?_;simp only[↓aC,aB,rE,↓reduceIte,rA,p4,w1];refine⟨k - 1,by omega,rfl,hX.put (Ah _) _,hb,i+1,l.set i (i:Int),by omega,by rw[Al];exact hl,fun j hj=>?_,by simp only;rw[T.get_set,if_pos rfl],by refine⟨?_,?_,?_⟩<;>simp only[↓aC,aB,rE,↓reduceIte,rA,p0,p3]⟩;rw[dP (by rw[hl];exact hlt)];split
   ·rename_i e;rw[e]
   ·exact hf j (by omega)
  ·refine aK (by simp only[↓aC,aB,rE,↓reduceIte,rA,Aa (show ¬ (i:Int)<(n:Int) by omega)]) (aU ?_);simp only[↓aC,aB,rE,↓reduceIte,rA];have hk0:k=0:=by omega
   subst hk0;exact⟨rfl,hX,hb,i,l,hik,hl,hf,hc,by refine⟨?_,?_,?_⟩<;>simp only[↓aC,aB,rE,↓reduceIte,rA,p0,p3,p4]⟩
 rintro o ⟨F,inr⟩ X ⟨rfl,q0,hX,hb,i,l,hik,hl,hf,hc,p0,p3,p4⟩;simp only at q0 p3;subst q0;have el:l=(List.range n).map fun k:Nat=>(k:Int):=pV (by simp [hl]) fun j hj=>by
  rw[hf j (by omega),Ad,Az,Cn (by omega)];rfl
 subst el;try simp only[↓aC,aB,rE,↓reduceIte,rA]
 refine bE ?_;simp only[↓aC,aB,rE,↓reduceIte,rA,p3];refine aO ?_;simp only[↓aC,aB,rE,↓reduceIte,rA];exact⟨⟨S.nx,by simp,Ah _,hb,hc⟩,hX⟩
def aNm(S:St)(ob n:Nat)(mv:AV)(L:List (List Int))(k:Nat)(A:bH)(X:St):Prop:=A.inr=false∧Same S X∧ob<X.nx∧∃ (out:List Int) (fl:Bool),X.h.get ob=some (.cells (bC out) false 0)∧tM n (qV n L) out∧((fl=true∧k=zY out+1)∨(fl=false∧k=0∧aAU n (qV n L) out))∧aJO ob n mv fl A.F
theorem aBX{S:St}{mv:AV}{n:Nat}{L:List (List Int)}(H:Has fns)(hn:n≤1000000)(hm:aN 1 kJ S mv L)(hL:L.length≤1000000)(hin:∀m∈L,m.length=n∧∀x,x<n→0≤m.getD x 0∧m.getD x 0<n):
  fA fns (.fn 34 [] []) [.int .i64 (n:Int),mv] S fun r S'=>Same S S'∧∃out,gF S S' r out∧aAU n (qV n L) out:=by
 refine bP H.f34 (by simp) ?_;simp only[↓sU,sD,rE,↓reduceIte,rA];refine bE ?_;simp only[↓sU,sD,rE,↓reduceIte,rA];refine bE ?_;simp only[↓sU,sD,rE,↓reduceIte,rA];refine aY ?_;simp only[↓sU,sD,rE,↓reduceIte,rA];refine aP (aFu H hn) ?_;rintro _ S1 ⟨⟨ob,rfl,b1,b2,b3⟩,s1⟩;have hup:tM n (qV n L) ((List.range n).map fun k:Nat=>(k:Int)):=aEY;simp only[Bc,Db];try simp only[↓sU,sD,rE,↓reduceIte,rA]
 refine aA (aS (Q:=fun o A' X=>o= .normal∧aNm S ob n mv L 0 A' X∧aD 6 A'.F= .bool false) (aA (aF ?_)) ?_)
 ·simp only[↓sU,sD,rE,↓reduceIte,rA];refine aJ (bB (aNm S ob n mv L) ?_ (zY ((List.range n).map fun k:Nat=>(k:Int))+1) _ _ ⟨rfl,s1,b2,_,true,b3,hup,.inl ⟨rfl,rfl⟩,(by refine⟨?_,?_,?_,?_⟩<;>simp only[↓sU,sD,rE,↓reduceIte,rA])⟩);clear b3 b2 hup s1;rintro k ⟨F,inr⟩ X ⟨q0,hX,hol,out,fl,ho,hU,hfl,⟨p0,p1,p5,p6⟩⟩;simp only at q0 p0 p1 p5 p6;subst q0;refine eG ?_;simp only[↓sU,sD,rE,↓reduceIte,rA,p6];rcases hfl with⟨rfl,hk⟩ | ⟨rfl,hk,hO⟩
  rotate_left
  ·subst hk;refine aK (by simp only[↓sU,sD,rE,↓reduceIte,rA]) (aU ?_);simp only[↓sU,sD,rE,↓reduceIte,rA];exact⟨⟨rfl,hX,hol,out,false,ho,hU,.inr ⟨rfl,rfl,hO⟩,(by refine⟨?_,?_,?_,?_⟩<;>simp only[↓sU,sD,rE,↓reduceIte,rA,p0,p1,p5,p6])⟩,by simp only[↓sU,sD,rE,↓reduceIte,rA,p6]⟩
  refine aM (by simp only[↓sU,sD,rE,↓reduceIte,rA]) (aI ?_);try simp only[↓sU,sD,rE,↓reduceIte,rA]
  refine aJ (aA (aF ?_));simp only[↓sU,sD,rE,↓reduceIte,rA];refine bE ?_;simp only[↓sU,sD,rE,↓reduceIte,rA];refine aS (aMT (S:=S) (ob:=ob) (n:=n) (mv:=mv) (L:=L) (out0:=out) hn hm hL hin hX b1 hol ho hU (by refine⟨?_,?_,?_,?_⟩<;>simp only[↓sU,sD,rE,↓reduceIte,rA,p0,p1,p5]) (by simp only[↓sU,sD,rE,↓reduceIte,rA];try rfl)) ?_;clear p0 p1 p5 p6;rintro o ⟨F,inr⟩ X1 ⟨rfl,q0,hX1,hol1,q,out1,fl1,hq,ho1,hD,hZ⟩;simp only at q0;subst q0;obtain rfl:q=L.length:=by omega
  try simp only[↓sU,sD,rE,↓reduceIte,rA]
  rcases hD.2 with⟨h1,h2⟩ | ⟨h1,h2,h3⟩
  ·subst h1;exact⟨zY out1+1,by omega,rfl,hX1,hol1,out1,true,ho1,hD.1,.inl ⟨rfl,rfl⟩,hZ.1⟩
  ·subst h1 h2;exact⟨0,by omega,rfl,hX1,hol1,out1,false,ho1,hD.1,.inr ⟨rfl,rfl,aIX hD.1 fun q x hx hq=>h3 q x hx (.inl hq)⟩,hZ.1⟩
 rintro o ⟨F,inr⟩ X ⟨rfl,⟨q0,hX,hol,out,fl,ho,hU,hfl,⟨p0,p1,p5,p6⟩⟩,p6'⟩;simp only at q0 p5 p6 p6';subst q0;have hO:aAU n (qV n L) out:=by
  rcases hfl with⟨_,h⟩ | ⟨_,_,h⟩
  ·omega
  ·exact h
 try simp only[↓sU,sD,rE,↓reduceIte,rA]
 refine bE ?_;simp only[↓sU,sD,rE,↓reduceIte,rA,p5];refine aO ?_;simp only[↓sU,sD,rE,↓reduceIte,rA];exact⟨hX,out,⟨ob,by rw[hO.len],b1,hol,ho⟩,hO⟩
end Go.Ev.Gl
