import Derived.Test.YtoojnpjgnnpllaaGl22
open Nat renaming reduceEqDiff → rE, reduceAdd → rA
set_option maxHeartbeats 16000000
set_option linter.unusedSimpArgs false
set_option linter.unusedVariables false
namespace Go.Ev.Gl
variable {fns:T eG}
inductive rK(E:Nat→Nat→Prop):Nat→Nat→Prop where
 | edge {x y:Nat}:E x y→rK E x y
 | refl (x:Nat):rK E x x
 | symm {x y:Nat}:rK E x y→rK E y x
 | trans {x y z:Nat}:rK E x y→rK E y z→rK E x z
structure kT(n:Nat)(E:Nat→Nat→Prop)(out:List Int):Prop where
 len:out.length=n
 le:∀x,x<n→0≤out.getD x 0∧out.getD x 0≤x
 con:∀x,x<n→rK E x (out.getD x 0).toNat
 inv:∀x y,E x y→out.getD x 0=out.getD y 0
section
variable {n:Nat}{E E':Nat→Nat→Prop}{a b up:List Int}
theorem aEB{f:Nat→Int}(hf:∀x y,E x y→f x=f y){x y:Nat}(h:rK E x y):f x=f y:=by
 induction h with
 | edge e=>exact hf _ _ e
 | refl x=>rfl
 | symm _ ih=>exact ih.symm
 | trans _ _ i1 i2=>exact i1.trans i2
theorem aLV(hE:∀x y,E x y→x<n∧y<n)(ha:kT n E a)(hb:kT n E b):a=b:=by
 have key:∀ {a b:List Int},kT n E a→kT n E b→∀x,x<n→b.getD x 0≤a.getD x 0:=fun {a b} ha hb x hx=>by
  have h1:=ha.le x hx;have h2:=aEB (f:=fun x=>b.getD x 0) hb.inv (ha.con x hx);have h2:b.getD x 0=b.getD (a.getD x 0).toNat 0:=h2;have h3:=hb.le (a.getD x 0).toNat (by omega);omega
 exact nF (by rw[ha.len,hb.len]) fun x hx=>by
  rw[ha.len] at hx;have:=key ha hb x hx;have:=key hb ha x hx;omega
structure uM(n:Nat)(E:Nat→Nat→Prop)(up:List Int):Prop where
 len:up.length=n
 le:∀x,x<n→0≤up.getD x 0∧up.getD x 0≤x
 con:∀x,x<n→rK E x (up.getD x 0).toNat
def lO(up:List Int)(x:Nat):Nat:=(up.getD x 0).toNat
def xF(up:List Int):Nat→Nat→Nat
 | 0,x=>x
 | f+1,x=>if lO up x=x then x else xF up f (lO up x)
def root(up:List Int)(x:Nat):Nat:=xF up x x
theorem uM.lt(h:uM n E up){x:Nat}(hx:x<n):lO up x≤x∧up.getD x 0=((lO up x:Nat):Int):=by
 have:=h.le x hx;unfold lO;omega
theorem aEr(h:uM n E up):∀ {f x:Nat},x<n→x≤f→xF up (f+1) x=xF up f x
 | 0,x,hx,hf=>by
  have:=(h.lt hx).1;have e:lO up x=x:=by omega
  show(if lO up x=x then x else xF up 0 (lO up x))=x;rw[if_pos e]
 | f+1,x,hx,hf=>by
  have:=(h.lt hx).1;show(if lO up x=x then x else xF up (f+1) (lO up x))=if lO up x=x then x else xF up f (lO up x);by_cases e:lO up x=x
  ·rw[if_pos e,if_pos e]
  ·rw[if_neg e,if_neg e];exact aEr h (by omega) (by omega)
theorem aA2(h:uM n E up){x:Nat}(hx:x<n):∀ {f:Nat},x≤f→xF up f x=root up x
 | 0,hf=>by rw[show x=0 by omega];rfl
 | f+1,hf=>by
  rcases Cr x (f+1) with h1 | h1
  ·rw[aEr h hx (by omega)];exact aA2 h hx (by omega)
  ·rw[show f+1=x by omega];rfl
theorem jH(h:uM n E up){x:Nat}(hx:x<n):root up x=if lO up x=x then x else root up (lO up x):=by
 have hl:=(h.lt hx).1;have:xF up (x+1) x=root up x:=aA2 h hx (by omega);rw[←this];show(if lO up x=x then x else xF up x (lO up x))=_;by_cases e:lO up x=x
 ·rw[if_pos e,if_pos e]
 ·rw[if_neg e,if_neg e];exact aA2 h (by omega) (by omega)
theorem wN(h:uM n E up){x:Nat}(hx:x<n):root up (lO up x)=root up x:=by
 by_cases e:lO up x=x
 ·rw[e]
 ·rw[jH h hx,if_neg e]
theorem tE(h:uM n E up):∀ (x:Nat),x<n→root up x≤x∧lO up (root up x)=root up x∧rK E x (root up x):=by
 intro x
 induction x using Nat.strongRecOn with
 | _ x ih=>
  intro hx;have hl:=(h.lt hx).1;rw[jH h hx];by_cases e:lO up x=x
  ·rw[if_pos e];exact⟨Ah _,e,.refl _⟩
  ·rw[if_neg e];obtain⟨h1,h2,h3⟩:=ih (lO up x) (by omega) (by omega);exact⟨by omega,h2,.trans (h.con x hx) h3⟩
theorem aLx(h:uM n E up){i:Nat}(hi:i<n):uM n E (up.set i (up.getD (lO up i) 0))∧∀x,x<n→root (up.set i (up.getD (lO up i) 0)) x=root up x:=by
 have hl:=(h.lt hi).1;have hl2:=h.lt (show lO up i<n by omega);have hil:i<up.length:=by rw[h.len];exact hi
 have hg:∀x,(up.set i (up.getD (lO up i) 0)).getD x 0=if x=i then up.getD (lO up i) 0 else up.getD x 0:=fun x=>fX hil;have hu:uM n E (up.set i (up.getD (lO up i) 0)):=⟨by rw[Ap];exact h.len,fun x hx=>by
  rw[hg];split
  ·omega
  ·exact h.le x hx,fun x hx=>by
  rw[hg];split
  ·rename_i e;subst e;exact .trans (h.con x hx) (h.con (lO up x) (by omega))
  ·exact h.con x hx⟩
 refine⟨hu,fun x=>?_⟩
 induction x using Nat.strongRecOn with
 | _ x ih=>
  intro hx;have hlx:=(h.lt hx).1;have hn:lO (up.set i (up.getD (lO up i) 0)) x=if x=i then lO up (lO up i) else lO up x:=by
   show((up.set i (up.getD (lO up i) 0)).getD x 0).toNat=_;rw[hg];split<;>rfl
  rw[jH hu hx,hn];by_cases e:x=i
  ·subst e;rw[if_pos rfl];by_cases e2:lO up (lO up x)=x
   ·rw[if_pos e2];have e3:lO up x=x:=by omega
    rw[jH h hx,if_pos e3]
   ·rw[if_neg e2,ih _ (by omega) (by omega),wN h (by omega),wN h hx]
  ·rw[if_neg e];by_cases e2:lO up x=x
   ·rw[if_pos e2,jH h hx,if_pos e2]
   ·rw[if_neg e2,ih _ (by omega) (by omega),wN h hx]
theorem aL1(h:uM n E up){s t:Nat}(hs:s<n)(hst:t≤s)(rs:lO up s=s)(rt:lO up t=t)(hc:rK E s t):uM n E (up.set s (t:Int))∧∀x,x<n→root (up.set s (t:Int)) x=if root up x=s then t else root up x:=by
 have hsl:s<up.length:=by rw[h.len];exact hs
 have hg:∀x,(up.set s (t:Int)).getD x 0=if x=s then(t:Int) else up.getD x 0:=fun x=>fX hsl;have hu:uM n E (up.set s (t:Int)):=⟨by rw[Ap];exact h.len,fun x hx=>by
  rw[hg];split
  ·omega
  ·exact h.le x hx,fun x hx=>by
  rw[hg];split
  ·rename_i e;subst e;exact hc
  ·exact h.con x hx⟩
 have hn:∀x,lO (up.set s (t:Int)) x=if x=s then t else lO up x:=fun x=>by
  unfold lO;rw[hg];split
  ·exact Ba _
  ·rfl
 refine⟨hu,fun x=>?_⟩
 induction x using Nat.strongRecOn with
 | _ x ih=>
  intro hx;have hlx:=(h.lt hx).1;rw[jH hu hx,hn];by_cases e:x=s
  ·subst e;have hr:root up x=x:=by rw[jH h hx,if_pos rs]
   rw[if_pos rfl,hr,if_pos rfl];by_cases e2:t=x
   ·rw[if_pos e2,e2]
   ·have hrt:root up t=t:=by rw[jH h (by omega),if_pos rt]
    rw[if_neg e2,ih t (by omega) (by omega),hrt,if_neg e2]
  ·rw[if_neg e];by_cases e2:lO up x=x
   ·have hr:root up x=x:=by rw[jH h hx,if_pos e2]
    rw[if_pos e2,hr,if_neg e]
   ·rw[if_neg e2,ih _ (by omega) (by omega),wN h hx]
theorem aNk(h:uM n E up)(hE:∀x y,E x y→x<n∧y<n)(hr:∀x y,E x y→root up x=root up y){out:List Int}(hl:out.length=n)(ho:∀x,x<n→out.getD x 0=((root up x:Nat):Int)):kT n E out:=
 ⟨hl,fun x hx=>by have:=(tE h x hx).1;rw[ho x hx];omega,fun x hx=>by rw[ho x hx,Ba];exact(tE h x hx).2.2,fun x y e=>by rw[ho x (hE x y e).1,ho y (hE x y e).2,hr x y e]⟩
theorem aDJ:uM n E ((List.range n).map fun k:Nat=>(k:Int)):=by
 have hg:∀x,x<n→((List.range n).map fun k:Nat=>(k:Int)).getD x 0=(x:Int):=fun x hx=>by
  rw[Ad,Aq,Bl hx];rfl
 exact⟨by simp,fun x hx=>by rw[hg x hx];omega,fun x hx=>by rw[hg x hx,Ba];exact .refl x⟩
def gJ(n:Nat)(L:List (List Int))(x y:Nat):Prop:=x<n∧∃m∈L,y=(m.getD x 0).toNat
end
noncomputable def aML:List AO:=[mt 14 0,
om 15 1 (.nilchk (.t 14)),
om 16 3 (.faddr 0 (.t 15)),
om 17 7 (ld 16),
mt 18 1,
mt 19 0,
om 20 32 (.nilchk (.t 19)),
om 21 96 (.faddr 0 (.t 20)),
om 22 224 (ld 21),
mt 23 0,
om 24 512 (.nilchk (.t 23)),
om 25 1536 (.faddr 0 (.t 24)),
om 26 3584 (ld 25),
mt 27 1,
om 28 15872 (.iaddr (.slice 1) (.t 26) (.t 27)),
om 29 32256 (ld 28),
om 30 65504 (.iaddr (.slice 1) (.t 22) (.t 29)),
om 31 131040 (ld 30),
om 32 262143 (.iaddr (.slice 1) (.t 17) (.t 18))]
structure qH(S:St)(ub rb n:Nat)(up:List Int):Prop where
 u:S.h.get ub=some (.cells [.sl rb 0 n n false] false 0)
 r:S.h.get rb=some (.cells (aP up) false 0)
 lu:ub<S.nx
 lr:rb<S.nx
 ne:ub≠rb
theorem qH.same{S S':St}{ub rb n:Nat}{up:List Int}(h:qH S ub rb n up)(hs:Same S S'):qH S' ub rb n up:=⟨(hs.2 _ h.lu).trans h.u,(hs.2 _ h.lr).trans h.r,Ae h.lu hs.1,Ae h.lr hs.1,h.ne⟩
theorem qH.put{S:St}{ub rb n m:Nat}{up up':List Int}(h:qH S ub rb n up):qH ⟨S.h.set rb (some (.cells (aP up') false 0)),S.nx+m⟩ ub rb n up':=⟨by simp only;rw[T.get_set,if_neg h.ne];exact h.u,by simp only;rw[T.get_set,if_pos rfl],Ae h.lu (Av ..),Ae h.lr (Av ..),h.ne⟩
theorem aCg{h:Ev.T AB}{ub rb n:Nat}(hu:h.get ub=some (.cells [.sl rb 0 n n false] false 0)):eH (.ptr ub (0+0)) false 1 h=some (.sl rb 0 n n false):=ldc hu rfl
def aQO(S:St)(ub rb n:Nat)(E:Nat→Nat→Prop)(up:List Int)(i:Nat)(k:Nat)(A:bH)(X:St):Prop:=A.inr=false∧bS rb S X∧k<n∧root up k=root up i∧aB 0 A.F= .ptr ub 0∧aB 1 A.F= .int .i64 (k:Int)∧∃up',qH X ub rb n up'∧uM n E up'∧∀x,x<n→root up' x=root up x
theorem yO{S:St}{ub rb n i:Nat}{E:Nat→Nat→Prop}{up:List Int}(H:Has fns)(hU:qH S ub rb n up)(hup:uM n E up)(hi:i<n)(hn:n≤1000000):
  gH fns (.fn 179 [] []) [.ptr ub 0,.int .i64 (i:Int)] S fun r S'=>r= .int .i64 ((root up i:Nat):Int)∧bS rb S S'∧∃up',qH S' ub rb n up'∧uM n E up'∧∀x,x<n→root up' x=root up x:=by
 refine cI H.f179 (by simp) ?_;simp only[↓sU,sD,rE,↓reduceIte,rA];refine bQ ?_;simp only[↓sU,sD,rE,↓reduceIte,rA];refine aA (aY (Q:=fun o A' X=>o= .normal∧bS rb S X∧aB 1 A'.F= .int .i64 ((root up i:Nat):Int)∧∃up',qH X ub rb n up'∧uM n E up'∧∀x,x<n→root up' x=root up x) ?_ ?_)
 ·refine aL (bL (aQO S ub rb n E up i) ?_ i _ _ ⟨rfl,bS.refl _ _,hi,rfl,by simp only[↓sU,sD,rE,↓reduceIte,rA],by simp only[↓sU,sD,rE,↓reduceIte,rA],up,hU,hup,fun _ _=>rfl⟩);rintro k ⟨F,inr⟩ X ⟨q0,hX,hk,hrt,p0,p1,up',hUX,hupX,hroot⟩;simp only at q0 p0 p1;subst q0;have hl:=hupX.lt hk;have hia:=dT (b:=rb) (o:=false) hk;have hla:=sR hUX.r (show k<up'.length by rw[hupX.len];exact hk);rw[hl.2] at hla;have hu:=aCg hUX.u;refine gC ?_;simp only[↓sU,sD,rE,↓reduceIte,rA,p0,p1,bJ,bI,aC,aD,hu,aG,hia,hla];by_cases e:lO up' k=k
  ·refine aN (by simp only[↓sU,sD,rE,↓reduceIte,rA,e,Aa (show ¬ (k:Int)≠(k:Int) from fun h=>h rfl)]) (bM ?_);simp only[↓sU,sD,rE,↓reduceIte,rA];refine⟨hX,?_,up',hUX,hupX,hroot⟩;simp only[↓sU,sD,rE,↓reduceIte,rA,p1];have:=hroot k hk;rw[jH hupX hk,if_pos e] at this;rw[←hrt,←this]
  ·refine aO (by simp only[↓sU,sD,rE,↓reduceIte,rA,Ac (show((lO up' k:Nat):Int)≠(k:Int) by omega)]) (aI ?_);try simp only[↓sU,sD,rE,↓reduceIte,rA]
   have hlt:lO up' k<k:=by omega
   have hl2:=hupX.lt (show lO up' k<n by omega);have hia2:=dT (b:=rb) (o:=false) (show lO up' k<n by omega);have hla2:=sR hUX.r (show lO up' k<up'.length by rw[hupX.len];omega);have hla3:=hla2;rw[hl2.2] at hla2;obtain⟨h1,h2⟩:=aLx hupX hk;have hup2:=hroot;have hg:(up'.set k (up'.getD (lO up' k) 0)).getD k 0=((lO up' (lO up' k):Nat):Int):=by
    rw[fX (by rw[hupX.len];exact hk),if_pos rfl,hl2.2]
   refine aL (aA (aFM (pre:=aML) (K:=19) (m:=524287) (n:=1) (x:=.t 32) (v:=.t 31) rfl rfl rfl rfl ?_));unfold aML;simp only[↓aF,aE,rE,↓reduceIte,rA,p0,p1,bJ,bX,bI,aC,aU,aD,hu,aG,hia,hla,hia2,hla3,nS];simp only[cO,aK];refine⟨_,qL (S:=⟨X.h,X.nx+20⟩) hUX.r (by rw[hupX.len];exact hk),?_⟩;have hU2:qH ⟨X.h.set rb (some (.cells (aP (up'.set k (up'.getD (lO up' k) 0))) false 0)),X.nx+20⟩ ub rb n (up'.set k (up'.getD (lO up' k) 0)):=hUX.put;have hla4:=sR hU2.r (show k<(up'.set k (up'.getD (lO up' k) 0)).length by rw[Ap,hupX.len];exact hk);rw[hg] at hla4;have hu4:=aCg hU2.u;simp only at hla4 hu4;try simp only[↓sU,sD,rE,↓reduceIte,rA]
   refine aJ ?_;simp only[↓sU,sD,rE,↓reduceIte,rA,p0,p1,bJ,bI,aC,aD,hu4,aG,hia,hla4];have hX2:bS rb S ⟨X.h.set rb (some (.cells (aP (up'.set k (up'.getD (lO up' k) 0))) false 0)),X.nx+20⟩:=(hX.nx 20).put _;refine⟨lO up' (lO up' k),by have:=hl2.1;omega,rfl,hX2,by have:=hl2.1;omega,?_,by simp only[↓sU,sD,rE,↓reduceIte,rA,p0],by simp only[↓sU,sD,rE,↓reduceIte,rA],_,hU2,h1,fun x hx=>by rw[h2 x hx,hroot x hx]⟩;rw[←hroot _ (by have:=hl2.1;omega),wN hupX (by omega),wN hupX hk,hroot k hk];exact hrt
 ·rintro o ⟨F,inr⟩ X ⟨rfl,hX,p1,up',h1,h2,h3⟩;simp only at p1;try simp only[↓sU,sD,rE,↓reduceIte,rA]
  refine bQ ?_;simp only[↓sU,sD,rE,↓reduceIte,rA,p1];refine aS ?_;simp only[↓sU,sD,rE,↓reduceIte,rA];exact⟨hX,up',h1,h2,h3⟩
def yB(a b:Int):Int:=if a≤b then a else b
theorem aE9(a b:Int):lK false [.int .i64 a,.int .i64 b]=some (.int .i64 (yB a b)):=by
 show bN (keq .i64 .i64) (jL false [] (.int .i64 (bN false (bN (ile b a) a b) (bN (ile a b) a b)))) none=_;rw[fC,aQ,aW,oT];show some _=_;unfold yB;by_cases h:a≤b
 ·rw[if_pos h,Ac h,aQ]
 ·rw[if_neg h,Aa h,aW]
theorem aHh{S:St}{ub rb n i j:Nat}{E:Nat→Nat→Prop}{up:List Int}(H:Has fns)(hU:qH S ub rb n up)(hup:uM n E up)(hi:i<n)(hj:j<n)(hc:rK E i j)(hn:n≤1000000):
  gH fns (.fn 178 [] []) [.ptr ub 0,.int .i64 (i:Int),.int .i64 (j:Int)] S fun _ S'=>bS rb S S'∧∃up',qH S' ub rb n up'∧uM n E up'∧(∀x y,x<n→y<n→root up x=root up y→root up' x=root up' y)∧root up' i=root up' j:=by
 refine cI H.f178 (by simp) ?_;simp only[↓sU,sD,rE,↓reduceIte,rA];refine bQ ?_;simp only[↓sU,sD,rE,↓reduceIte,rA];refine bG ?_;simp only[↓sU,sD,rE,↓reduceIte,rA];refine aX (yO H hU hup hi hn) ?_;rintro _ S1 ⟨rfl,s1,up1,hU1,hup1,hr1⟩;try simp only[↓sU,sD,rE,↓reduceIte,rA]
 refine bG ?_;simp only[↓sU,sD,rE,↓reduceIte,rA];refine aX (yO H hU1 hup1 hj hn) ?_;rintro _ S2 ⟨rfl,s2,up2,hU2,hup2,hr2⟩;rw[hr1 j hj];have hr:∀x,x<n→root up2 x=root up x:=fun x hx=>by rw[hr2 x hx,hr1 x hx]
 obtain⟨i1,i2,i3⟩:=tE hup i hi;obtain⟨j1,j2,j3⟩:=tE hup j hj;have ri:=(tE hup2 i hi).2.1;have rj:=(tE hup2 j hj).2.1;rw[hr i hi] at ri;rw[hr j hj] at rj;have hcc:rK E (root up i) (root up j):=.trans (.symm i3) (.trans hc j3);obtain⟨s,t,hs,hts,hst,rs,rt,hct,emx,emn⟩:∃s t:Nat,s<n∧t≤s∧((s=root up i∧t=root up j)∨(s=root up j∧t=root up i))∧lO up2 s=s∧lO up2 t=t∧rK E s t∧mx ((root up i:Nat):Int) ((root up j:Nat):Int)=((s:Nat):Int)∧yB ((root up i:Nat):Int) ((root up j:Nat):Int)=((t:Nat):Int):=by
  rcases Nat.le_total (root up i) (root up j) with h | h
  ·exact⟨root up j,root up i,by omega,h,.inr ⟨rfl,rfl⟩,rj,ri,.symm hcc,by unfold mx;split<;>omega,by unfold yB;split<;>omega⟩
  ·exact⟨root up i,root up j,by omega,h,.inl ⟨rfl,rfl⟩,ri,rj,hcc,by unfold mx;split<;>omega,by unfold yB;split<;>omega⟩
 obtain⟨h1,h2⟩:=aL1 hup2 hs hts rs rt hct;have hu:=aCg hU2.u;have hia:=dT (b:=rb) (o:=false) hs;try simp only[↓sU,sD,rE,↓reduceIte,rA]
 refine aJ ?_;simp only[↓sU,sD,rE,↓reduceIte,rA,bJ,bI,aC,aD,hu,xZ,iF,lT,aEK,aE9,emx,emn,aG,hia];refine fJ (fun call=>by simp only[↓sU,sD,rE,↓reduceIte,rA,dN,cO];exact qL (S:=S2) hU2.r (by rw[hup2.len];exact hs)) ?_;simp only[↓sU,sD,rE,↓reduceIte,rA];refine⟨_,rfl,(s1.trans s2).put _,up2.set s (t:Int),hU2.put (m:=0),h1,fun x y hx hy e=>?_,?_⟩
 ·rw[h2 x hx,h2 y hy,hr x hx,hr y hy,e]
 ·rw[h2 i hi,h2 j hj,hr i hi,hr j hj];rcases hst with⟨e1,e2⟩ | ⟨e1,e2⟩
  ·rw[if_pos e1.symm,e2];split<;>rfl
  ·rw[if_pos e1.symm,e2];split<;>rfl
theorem aEC{S:St}{v:AV}{L:List (List Int)}{i:Nat}(h:aH 1 iX S v L)(hi:i<L.length):∃b q a,eU (.slice 1) v i=some (.ptr b q)∧bK .i64 S a (L.getD i [])∧∀X,Same S X→eH (.ptr b q) false 1 X.h=some a:=by
 obtain⟨_,b,q,h1,h2,_,⟨a,rfl,h3⟩,_,h4⟩:=aH.at h (by decide) (zY hi);have h5:=h4 0 a rfl;rw[Br] at h5;exact⟨b,q,a,h1,h3,fun X hX=>by rw[jJ hX h2];exact h5⟩
theorem aPK{t:Nat}{F:Fr}{h:Ev.T AB}{b n:Nat}(ht:aB t F= .sl b 0 n n false):fV (.build [.nilsl] [(0,1,.t t)]) F h=some (.agg [.sl b 0 n n false]):=by
 show(aZ (eS _ (eB F [(0,1,.t t)])) fun cs=>some (AV.agg cs))=_;simp only[eB,show(cL.t t).val F= .sl b 0 n n false from ht,eS];rfl
section
variable {S:St}{ub rb n:Nat}{mv:AV}
def aIU(ub n:Nat)(mv:AV)(F:Fr):Prop:=aB 0 F= .int .i64 (n:Int)∧aB 1 F=mv∧aB 5 F= .ptr ub 0
def aPG(S:St)(ub rb n:Nat)(mv:AV)(k:Nat)(A:bH)(X:St):Prop:=A.inr=false∧Same S X∧∃ (i:Nat) (l:List Int),i+k=n∧l.length=n∧(∀j,j<i→l.getD j 0=(j:Int))∧qH X ub rb n l∧aIU ub n mv A.F∧aB 21 A.F= .int .i64 (n:Int)∧aB 22 A.F= .int .i64 (i:Int)
theorem aN6{Y:St}{F0:Fr}{l0:List Int}(hn:n≤1000000)(hS:Same S Y)(hs:S.nx≤rb)(hU:qH Y ub rb n l0)(hl:l0.length=n)(hZ:aIU ub n mv F0)(p21:aB 21 F0= .int .i64 (n:Int))(p22:aB 22 F0= .int .i64 ((0:Nat):Int)):
  iH fns qk2 ⟨F0,false⟩ Y fun o A' X=>o= .normal∧aPG S ub rb n mv 0 A' X:=by
 refine aL (bL (aPG S ub rb n mv) ?_ n _ _ ⟨rfl,hS,0,l0,by omega,hl,fun j hj=>by omega,hU,hZ,p21,p22⟩);clear hZ p21 p22 hU hl hS;rintro k ⟨F,inr⟩ X ⟨q0,hX,i,l,hik,hl,hf,hU,⟨p0,p1,p5⟩,p21,p22⟩;simp only at q0 p0 p1 p5 p21 p22;subst q0;refine bQ ?_;simp only[↓sU,sD,rE,↓reduceIte,rA,p21,p22];by_cases hlt:i<n;rotate_left
 ·refine aA (aN (by simp only[↓sU,sD,rE,↓reduceIte,rA,Aa (show ¬ (i:Int)<(n:Int) by omega)]) (bM ?_));simp only[↓sU,sD,rE,↓reduceIte,rA];obtain rfl:k=0:=by omega
  exact⟨rfl,hX,i,l,hik,hl,hf,hU,(by refine⟨?_,?_,?_⟩<;>simp only[↓sU,sD,rE,↓reduceIte,rA,p0,p1,p5]),by refine⟨?_,?_⟩<;>simp only[↓sU,sD,rE,↓reduceIte,rA,p21,p22]⟩
 refine aA (aO (by simp only[↓sU,sD,rE,↓reduceIte,rA,Ac (show(i:Int)<(n:Int) by omega)]) (aI ?_));try simp only[↓sU,sD,rE,↓reduceIte,rA]
 have w1:IntKind.i64.wrap ((i:Int)+1)=((i+1:Nat):Int):=by rw[wrap_i64 (by omega) (by omega)];omega
 have hia:=dT (b:=rb) (o:=false) hlt;have hu:=aCg hU.u;refine aA (aL (aA (aJ ?_)));simp only[↓sU,sD,rE,↓reduceIte,rA,p22];refine aJ ?_;simp only[↓sU,sD,rE,↓reduceIte,rA,p5,bJ,bI,aC,aD,hu,aG,hia];refine fJ (fun call=>by simp only[↓sU,sD,rE,↓reduceIte,rA,dN,cO];exact qL (S:=X) hU.r (by rw[hl];exact hlt)) ?_;simp only[↓sU,sD,rE,↓reduceIte,rA];refine aJ ?_;simp only[↓sU,sD,rE,↓reduceIte,rA,p22,w1];refine⟨k - 1,by omega,rfl,hX.put hs _,i+1,l.set i (i:Int),by omega,by rw[Ap];exact hl,fun j hj=>?_,hU.put (m:=0),(by refine⟨?_,?_,?_⟩<;>simp only[↓sU,sD,rE,↓reduceIte,rA,p0,p1,p5]),by refine⟨?_,?_⟩<;>simp only[↓sU,sD,rE,↓reduceIte,rA,p21]⟩;rw[fX (by omega)];split
 ·rename_i e;rw[e]
 ·exact hf j (by omega)
def aOz(S:St)(ub rb n j ml:Nat)(mv mrow:AV)(m:List Int)(E:Nat→Nat→Prop)(up0:List Int)(k:Nat)(A:bH)(X:St):Prop:=A.inr=false∧Same S X∧∃ (i:Nat) (up:List Int),i+k=n∧qH X ub rb n up∧uM n E up∧(∀x y,x<n→y<n→root up0 x=root up0 y→root up x=root up y)∧(∀x,x<i→root up x=root up (m.getD x 0).toNat)∧aIU ub n mv A.F∧aB 33 A.F=mv∧aB 34 A.F= .int .i64 (ml:Int)∧aB 35 A.F= .int .i64 (j:Int)∧aB 39 A.F=mrow∧aB 40 A.F= .int .i64 (n:Int)∧aB 41 A.F= .int .i64 (i:Int)
theorem aM1{Y:St}{F0:Fr}{up0 m:List Int}{mrow:AV}{j ml:Nat}{E:Nat→Nat→Prop}(H:Has fns)(hn:n≤1000000)(hS:Same S Y)(hs:S.nx≤rb)(hU:qH Y ub rb n up0)(hup:uM n E up0)(hm:bK .i64 S mrow m)(hml:m.length=n)(hin:∀x,x<n→0≤m.getD x 0∧m.getD x 0<n)(hE:∀x,x<n→E x (m.getD x 0).toNat)
  (hZ:aIU ub n mv F0) (p33:aB 33 F0=mv) (p34:aB 34 F0= .int .i64 (ml:Int)) (p35:aB 35 F0= .int .i64 (j:Int)) (p39:aB 39 F0=mrow) (p40:aB 40 F0= .int .i64 (n:Int)) (p41:aB 41 F0= .int .i64 ((0:Nat):Int)):
  iH fns qk0 ⟨F0,false⟩ Y fun o A' X=>o= .normal∧aOz S ub rb n j ml mv mrow m E up0 0 A' X:=by
 refine aL (bL (aOz S ub rb n j ml mv mrow m E up0) ?_ n _ _ ⟨rfl,hS,0,up0,by omega,hU,hup,fun _ _ _ _ e=>e,fun x hx=>by omega,hZ,p33,p34,p35,p39,p40,p41⟩);clear hZ p33 p34 p35 p39 p40 p41 hU hup hS;rintro k ⟨F,inr⟩ X ⟨q0,hX,i,up,hik,hU,hup,hk,hd,⟨p0,p1,p5⟩,p33,p34,p35,p39,p40,p41⟩;simp only at q0 p0 p1 p5 p33 p34 p35 p39 p40 p41;subst q0;refine bQ ?_;simp only[↓sU,sD,rE,↓reduceIte,rA,p40,p41];by_cases hlt:i<n;rotate_left
 ·refine aA (aN (by simp only[↓sU,sD,rE,↓reduceIte,rA,Aa (show ¬ (i:Int)<(n:Int) by omega)]) (bM ?_));simp only[↓sU,sD,rE,↓reduceIte,rA];obtain rfl:k=0:=by omega
  exact⟨rfl,hX,i,up,hik,hU,hup,hk,hd,(by refine⟨?_,?_,?_⟩<;>simp only[↓sU,sD,rE,↓reduceIte,rA,p0,p1,p5]),by refine⟨?_,?_,?_,?_,?_,?_⟩<;>simp only[↓sU,sD,rE,↓reduceIte,rA,p33,p34,p35,p39,p40,p41]⟩
 refine aA (aO (by simp only[↓sU,sD,rE,↓reduceIte,rA,Ac (show(i:Int)<(n:Int) by omega)]) (aI ?_));try simp only[↓sU,sD,rE,↓reduceIte,rA]
 have w1:IntKind.i64.wrap ((i:Int)+1)=((i+1:Nat):Int):=by rw[wrap_i64 (by omega) (by omega)];omega
 have ia:=(hm.same hX).iaddr (show i<m.length by omega);have la:=(hm.same hX).ld (show i<m.length by omega);obtain⟨m1,m2⟩:=hin i hlt;have hEi:=hE i hlt;have hdt:(∀x,x<i→root up x=root up (m.getD x 0).toNat):=hd;obtain⟨t,ht⟩:∃t:Nat,m.getD i 0=(t:Int):=⟨(m.getD i 0).toNat,by omega⟩;rw[ht] at la hEi m2;rw[Ba] at hEi;refine aA (aL (aA (aJ ?_)));simp only[↓sU,sD,rE,↓reduceIte,rA,p39,p41,aG,ia,la];refine aJ ?_;simp only[↓sU,sD,rE,↓reduceIte,rA,p5];refine bG ?_;simp only[↓sU,sD,rE,↓reduceIte,rA];refine aX (aHh H hU hup hlt (show t<n by omega) (.edge hEi) hn) ?_;rintro r X1 ⟨s1,up1,hU1,hup1,hk1,hij⟩;try simp only[↓sU,sD,rE,↓reduceIte,rA]
 refine aJ ?_;simp only[↓sU,sD,rE,↓reduceIte,rA,p41,w1];refine⟨k - 1,by omega,rfl,bS.same hX s1 hs,i+1,up1,by omega,hU1,hup1,fun x y hx hy e=>hk1 x y hx hy (hk x y hx hy e),fun x hx=>?_,(by refine⟨?_,?_,?_⟩<;>simp only[↓sU,sD,rE,↓reduceIte,rA,p0,p1,p5]),by refine⟨?_,?_,?_,?_,?_,?_⟩<;>simp only[↓sU,sD,rE,↓reduceIte,rA,p33,p34,p35,p39,p40]⟩;by_cases e:x=i
 ·subst e;rw[ht,Ba];exact hij
 ·have:=hin x (by omega);exact hk1 x _ (by omega) (by omega) (hdt x (by omega))
def aOH(S:St)(ub rb n ml:Nat)(mv:AV)(L:List (List Int))(k:Nat)(A:bH)(X:St):Prop:=A.inr=false∧Same S X∧∃ (j:Nat) (up:List Int),j+k=ml∧qH X ub rb n up∧uM n (gJ n L) up∧(∀x q,x<n→q<j→root up x=root up ((L.getD q []).getD x 0).toNat)∧aIU ub n mv A.F∧aB 33 A.F=mv∧aB 34 A.F= .int .i64 (ml:Int)∧aB 35 A.F= .int .i64 (j:Int)
theorem aNj{Y:St}{F0:Fr}{up0:List Int}{L:List (List Int)}(H:Has fns)(hn:n≤1000000)(hS:Same S Y)(hs:S.nx≤rb)(hU:qH Y ub rb n up0)(hup:uM n (gJ n L) up0)(hm:aH 1 iX S mv L)(hL:L.length≤1000000)(hin:∀m∈L,m.length=n∧∀x,x<n→0≤m.getD x 0∧m.getD x 0<n)
  (hZ:aIU ub n mv F0) (p33:aB 33 F0=mv) (p34:aB 34 F0= .int .i64 (L.length:Int)) (p35:aB 35 F0= .int .i64 ((0:Nat):Int)):
  iH fns qk6 ⟨F0,false⟩ Y fun o A' X=>o= .normal∧aOH S ub rb n L.length mv L 0 A' X:=by
 refine aL (bL (aOH S ub rb n L.length mv L) ?_ L.length _ _ ⟨rfl,hS,0,up0,by omega,hU,hup,fun x q hx hq=>by omega,hZ,p33,p34,p35⟩);clear hZ p33 p34 p35 hU hup hS;rintro k ⟨F,inr⟩ X ⟨q0,hX,j,up,hjk,hU,hup,hd,⟨p0,p1,p5⟩,p33,p34,p35⟩;simp only at q0 p0 p1 p5 p33 p34 p35;subst q0;refine bQ ?_;simp only[↓sU,sD,rE,↓reduceIte,rA,p34,p35];by_cases hlt:j<L.length;rotate_left
 ·refine aA (aN (by simp only[↓sU,sD,rE,↓reduceIte,rA,Aa (show ¬ (j:Int)<((L.length:Nat):Int) by omega)]) (bM ?_));simp only[↓sU,sD,rE,↓reduceIte,rA];obtain rfl:k=0:=by omega
  exact⟨rfl,hX,j,up,hjk,hU,hup,hd,(by refine⟨?_,?_,?_⟩<;>simp only[↓sU,sD,rE,↓reduceIte,rA,p0,p1,p5]),by refine⟨?_,?_,?_⟩<;>simp only[↓sU,sD,rE,↓reduceIte,rA,p33,p34,p35]⟩
 refine aA (aO (by simp only[↓sU,sD,rE,↓reduceIte,rA,Ac (show(j:Int)<((L.length:Nat):Int) by omega)]) (aI ?_));try simp only[↓sU,sD,rE,↓reduceIte,rA]
 have w1:IntKind.i64.wrap ((j:Int)+1)=((j+1:Nat):Int):=by rw[wrap_i64 (by omega) (by omega)];omega
 obtain⟨xb,xq,a,xi,xs,xl⟩:=aEC hm hlt;have xl:=xl X hX;have hmem:L.getD j []∈L:=by rw[Ad,Ab hlt];exact Bo hlt
 obtain⟨l1,l2⟩:=hin _ hmem;have xlen:=(xs.same hX).len;rw[l1] at xlen;refine aA (aL (aA (aJ ?_)));simp only[↓sU,sD,rE,↓reduceIte,rA,p33,p35,aG,xi,xl];refine bQ ?_;simp only[↓sU,sD,rE,↓reduceIte,rA,xlen,Ag];refine aY (aM1 (S:=S) (ub:=ub) (rb:=rb) (n:=n) (mv:=mv) (mrow:=a) (m:=L.getD j []) (j:=j) (ml:=L.length) (E:=gJ n L) (up0:=up) H hn hX hs hU hup xs l1 l2 (fun x hx=>⟨hx,_,hmem,rfl⟩) (by refine⟨?_,?_,?_⟩<;>simp only[↓sU,sD,rE,↓reduceIte,rA,p0,p1,p5]) (by simp only[↓sU,sD,rE,↓reduceIte,rA,p33]) (by simp only[↓sU,sD,rE,↓reduceIte,rA,p34]) (by simp only[↓sU,sD,rE,↓reduceIte,rA,p35]) (by simp only[↓sU,sD,rE,↓reduceIte,rA]) (by simp only[↓sU,sD,rE,↓reduceIte,rA]) (by simp only[↓sU,sD,rE,↓reduceIte,rA];try rfl)) ?_;clear p0 p1 p5 p33 p34 p35;rintro o ⟨F,inr⟩ X1 ⟨rfl,q0,hX1,i,up1,hik,hU1,hup1,hk1,hd1,⟨p0,p1,p5⟩,p33,p34,p35,_,_,_⟩;simp only at q0 p0 p1 p5 p33 p34 p35;subst q0;obtain rfl:i=n:=by omega
 try simp only[↓sU,sD,rE,↓reduceIte,rA]
 refine aJ ?_;simp only[↓sU,sD,rE,↓reduceIte,rA,p35,w1];refine⟨k - 1,by omega,rfl,hX1,j+1,up1,by omega,hU1,hup1,fun x q hx hq=>?_,(by refine⟨?_,?_,?_⟩<;>simp only[↓sU,sD,rE,↓reduceIte,rA,p0,p1,p5]),by refine⟨?_,?_,?_⟩<;>simp only[↓sU,sD,rE,↓reduceIte,rA,p33,p34]⟩;by_cases e:q=j
 ·subst e;exact hd1 x hx
 ·have hq2:q<L.length:=by omega
  have hmq:L.getD q []∈L:=by rw[Ad,Ab hq2];exact Bo hq2
  have:=(hin _ hmq).2 x hx;exact hk1 x _ hx (by omega) (hd x q hx (by omega))
def aOQ(S:St)(ub rb ob n:Nat)(E:Nat→Nat→Prop)(up0:List Int)(k:Nat)(A:bH)(X:St):Prop:=A.inr=false∧Same S X∧ob<X.nx∧∃ (i:Nat) (l up:List Int),i+k=n∧l.length=n∧(∀j,j<i→l.getD j 0=((root up0 j:Nat):Int))∧X.h.get ob=some (.cells (aP l) false 0)∧qH X ub rb n up∧uM n E up∧(∀x,x<n→root up x=root up0 x)∧aB 5 A.F= .ptr ub 0∧aB 11 A.F= .sl ob 0 n n false∧aB 55 A.F= .int .i64 (n:Int)∧aB 56 A.F= .int .i64 (i:Int)
theorem aNR{Y:St}{F0:Fr}{up0 l0:List Int}{ob:Nat}{E:Nat→Nat→Prop}(H:Has fns)(hn:n≤1000000)(hS:Same S Y)(hs:S.nx≤rb)(hso:S.nx≤ob)(hor:ob≠rb)(hou:ob≠ub)(hU:qH Y ub rb n up0)(hup:uM n E up0)(ho:Y.h.get ob=some (.cells (aP l0) false 0))(hol:ob<Y.nx)(hl0:l0.length=n)
  (p5:aB 5 F0= .ptr ub 0) (p11:aB 11 F0= .sl ob 0 n n false) (p55:aB 55 F0= .int .i64 (n:Int)) (p56:aB 56 F0= .int .i64 ((0:Nat):Int)):
  iH fns qk1 ⟨F0,false⟩ Y fun o A' X=>o= .normal∧aOQ S ub rb ob n E up0 0 A' X:=by
 refine aL (bL (aOQ S ub rb ob n E up0) ?_ n _ _ ⟨rfl,hS,hol,0,l0,up0,by omega,hl0,fun j hj=>by omega,ho,hU,hup,fun _ _=>rfl,p5,p11,p55,p56⟩);clear p5 p11 p55 p56 hU ho hol hS;have hup0:=hup;clear hup;rintro k ⟨F,inr⟩ X ⟨q0,hX,hol,i,l,up,hik,hl,hf,ho,hU,hup,hr,p5,p11,p55,p56⟩;simp only at q0 p5 p11 p55 p56;subst q0;refine bQ ?_;simp only[↓sU,sD,rE,↓reduceIte,rA,p55,p56];by_cases hlt:i<n;rotate_left
 ·refine aA (aN (by simp only[↓sU,sD,rE,↓reduceIte,rA,Aa (show ¬ (i:Int)<(n:Int) by omega)]) (bM ?_));simp only[↓sU,sD,rE,↓reduceIte,rA];obtain rfl:k=0:=by omega
  exact⟨rfl,hX,hol,i,l,up,hik,hl,hf,ho,hU,hup,hr,by refine⟨?_,?_,?_,?_⟩<;>simp only[↓sU,sD,rE,↓reduceIte,rA,p5,p11,p55,p56]⟩
 refine aA (aO (by simp only[↓sU,sD,rE,↓reduceIte,rA,Ac (show(i:Int)<(n:Int) by omega)]) (aI ?_));try simp only[↓sU,sD,rE,↓reduceIte,rA]
 have w1:IntKind.i64.wrap ((i:Int)+1)=((i+1:Nat):Int):=by rw[wrap_i64 (by omega) (by omega)];omega
 have hia:=dT (b:=ob) (o:=false) hlt;refine aA (aL (aA (aJ ?_)));simp only[↓sU,sD,rE,↓reduceIte,rA,p56];refine aJ ?_;simp only[↓sU,sD,rE,↓reduceIte,rA,p5,p11];refine bG ?_;simp only[↓sU,sD,rE,↓reduceIte,rA];refine aX (yO H hU hup hlt hn) ?_;rintro _ X1 ⟨rfl,s1,up1,hU1,hup1,hr1⟩;rw[hr i hlt];have ho1:=(s1.2 _ hol hor).trans ho;have hX1:=bS.same hX s1 hs;simp only[↓sU,sD,rE,↓reduceIte,rA,aG,hia];refine fJ (fun call=>by simp only[↓sU,sD,rE,↓reduceIte,rA,dN,cO];exact qL (S:=X1) ho1 (by rw[hl];exact hlt)) ?_;simp only[↓sU,sD,rE,↓reduceIte,rA];refine aJ ?_;simp only[↓sU,sD,rE,↓reduceIte,rA,p56,w1];refine⟨k - 1,by omega,rfl,hX1.put hso _,Ae hol s1.1,i+1,l.set i ((root up0 i:Nat):Int),up1,by omega,by rw[Ap];exact hl,fun j hj=>?_,by simp only;rw[T.get_set,if_pos rfl],⟨by simp only;rw[T.get_set,if_neg (Bq hou)];exact hU1.u,by simp only;rw[T.get_set,if_neg (Bq hor)];exact hU1.r,hU1.lu,hU1.lr,hU1.ne⟩,hup1,fun x hx=>by rw[hr1 x hx,hr x hx],by refine⟨?_,?_,?_,?_⟩<;>simp only[↓sU,sD,rE,↓reduceIte,rA,p5,p11,p55]⟩;rw[fX (by omega)];split
 ·rename_i e;rw[e]
 ·exact hf j (by omega)
end
theorem aBG{S:St}{mv:AV}{n:Nat}{L:List (List Int)}(H:Has fns)(hn:n≤1000000)(hm:aH 1 iX S mv L)(hL:L.length≤1000000)(hin:∀m∈L,m.length=n∧∀x,x<n→0≤m.getD x 0∧m.getD x 0<n):
  gH fns (.fn 167 [] []) [.int .i64 (n:Int),mv] S fun r S'=>Same S S'∧∃out,mX S S' r out∧kT n (gJ n L) out:=by
 refine cI H.f167 (by simp) ?_;simp only[↓sU,sD,rE,↓reduceIte,rA];refine bQ ?_;simp only[↓sU,sD,rE,↓reduceIte,rA];refine bQ ?_;simp only[↓aF,aE,rE,↓reduceIte,rA];refine gM (nK (n:=n) (by simp only[↓aF,aE,rE,↓reduceIte,rA,aG]) (by simp only[↓aF,aE,rE,↓reduceIte,rA,aG]) (by unfold room;omega) (by unfold room;omega)) ?_;intro S1 s1 n1 c1;rw[pG] at c1;have hb1:=fun(F:Fr) (h:Ev.T AB) (a:aB 14 F= .sl S.nx 0 n n false)=>aPK (t:=14) (F:=F) (h:=h) a;simp only[↓aF,aE,rE,↓reduceIte,rA,hb1];refine cM (cs:=[.sl S.nx 0 n n false]) (by simp only[↓aF,aE,rE,↓reduceIte,rA];exact bB _) ?_;intro S2 s2 n2 c2;simp only[↓sU,sD,rE,↓reduceIte,rA];have s12:=s1.trans s2;have hU2:qH S2 S1.nx S.nx n (List.replicate n 0):=⟨c2,(s2.2 _ (by omega)).trans c1,by omega,by omega,by omega⟩;have hu2:=aCg c2;have e0:kO (.sl S.nx 0 n n false)=some (.int .i64 (n:Int)):=rfl;refine gC ?_;simp only[↓sU,sD,rE,↓reduceIte,rA,bJ,bI,aC,aD,hu2,e0];refine aY (aN6 (S:=S) (n:=n) (ub:=S1.nx) (rb:=S.nx) (mv:=mv) hn s12 (Ah _) hU2 (Ar ..) (by refine⟨?_,?_,?_⟩<;>simp only[↓sU,sD,rE,↓reduceIte,rA]) (by simp only[↓sU,sD,rE,↓reduceIte,rA]) (by simp only[↓sU,sD,rE,↓reduceIte,rA];try rfl)) ?_;clear hU2 hu2 c2 c1;rintro o ⟨F,inr⟩ X ⟨rfl,q0,sX,i,l,hik,hl,hf,hU,⟨p0,p1,p5⟩,_,_⟩;simp only at q0 p0 p1 p5;subst q0;obtain rfl:i=n:=by omega
 have el:l=(List.range i).map fun k:Nat=>(k:Int):=nF (by simp [hl]) fun j hj=>by
  rw[hf j (by omega),Ad,Aq,Bl (by omega)];rfl
 have hup:uM i (gJ i L) l:=by rw[el];exact aDJ
 try simp only[↓sU,sD,rE,↓reduceIte,rA]
 refine gC ?_;simp only[↓sU,sD,rE,↓reduceIte,rA,p1,(aH.same (E:=iX) firm_sl hm sX).len,Ag];refine aY (aNj (S:=S) (n:=i) (ub:=S1.nx) (rb:=S.nx) (mv:=mv) (L:=L) H hn sX (Ah _) hU hup hm hL hin (by refine⟨?_,?_,?_⟩<;>simp only[↓sU,sD,rE,↓reduceIte,rA,p0,p1,p5]) (by simp only[↓sU,sD,rE,↓reduceIte,rA]) (by simp only[↓sU,sD,rE,↓reduceIte,rA]) (by simp only[↓sU,sD,rE,↓reduceIte,rA];try rfl)) ?_;clear p0 p1 p5;rintro o ⟨F,inr⟩ X2 ⟨rfl,q0,sX2,j,up,hjl,hU2,hup2,hd,⟨p0,p1,p5⟩,_,_,_⟩;simp only at q0 p0 p1 p5;subst q0;obtain rfl:j=L.length:=by omega
 try simp only[↓sU,sD,rE,↓reduceIte,rA]
 refine bQ ?_;simp only[↓aF,aE,rE,↓reduceIte,rA,p0];refine gM (nK (n:=i) (by simp only[↓aF,aE,rE,↓reduceIte,rA,aG]) (by simp only[↓aF,aE,rE,↓reduceIte,rA,aG]) (by unfold room;omega) (by unfold room;omega)) ?_;intro X3 x3 m3 c3;rw[pG] at c3;simp only[↓aF,aE,rE,↓reduceIte,rA];have e3:kO (.sl X2.nx 0 i i false)=some (.int .i64 (i:Int)):=rfl;have hlu:=hU2.lu;have hlr:=hU2.lr;have hnx:=sX2.1;refine gC ?_;simp only[↓sU,sD,rE,↓reduceIte,rA,e3];refine aY (aNR (S:=S) (n:=i) (ub:=S1.nx) (rb:=S.nx) (ob:=X2.nx) (E:=gJ i L) (up0:=up) H hn (sX2.trans x3) (Ah _) hnx (by omega) (by omega) (hU2.same x3) hup2 c3 (by omega) (Ar ..) (by simp only[↓sU,sD,rE,↓reduceIte,rA,p5]) (by simp only[↓sU,sD,rE,↓reduceIte,rA]) (by simp only[↓sU,sD,rE,↓reduceIte,rA]) (by simp only[↓sU,sD,rE,↓reduceIte,rA];try rfl)) ?_;clear p0 p1 p5;rintro o ⟨F,inr⟩ X4 ⟨rfl,q0,sX4,hol,i',out,up4,hi',hol',hof,ho4,_,_,_,_,p11,_,_⟩;simp only at q0 p11;subst q0;obtain rfl:i'=i:=by omega
 try simp only[↓sU,sD,rE,↓reduceIte,rA]
 refine bQ ?_;simp only[↓sU,sD,rE,↓reduceIte,rA,p11];refine aS ?_;simp only[↓sU,sD,rE,↓reduceIte,rA];refine⟨sX4,out,⟨X2.nx,by rw[hol'],hnx,hol,ho4⟩,?_⟩;have hE:∀x y,gJ i' L x y→x<i'∧y<i':=fun x y ⟨hx,m,hmm,e⟩=>by
  have:=(hin m hmm).2 x hx;omega
 refine aNk hup2 hE (fun x y ⟨hx,m,hmm,e⟩=>?_) hol' fun x hx=>hof x hx;obtain⟨q,hq,rfl⟩:=En.1 hmm;have:=hd x q hx hq;rw[Ad (l:=L),Ab hq] at this;rw[e];exact this
noncomputable def jW(g:aR):List (List Int)→Int
 | []=>0
 | m::L=>if iN g.nodes.length m (iC g m)≠0 then iN g.nodes.length m (iC g m) else jW g L
def aJF(g:aR)(S:St)(cs:List AV)(m:List Int):Prop:=∃x y,cs= [x,y]∧bK .i64 S x (imgI g m)∧aH 1 iX S y (imgA g m)
theorem tL.low{g:aR}{m:List Int}{S S1 X:St}{x y:AV}(h:tL g m S1 X x y)(hs:S.nx≤S1.nx):tL g m S X x y:=by
 obtain⟨⟨b,h1,h2,h3,h4⟩,ab,bs,cs,k1,k2,k3,k4,k5⟩:=h;exact⟨⟨b,h1,Ak hs h2,h3,h4⟩,ab,bs,cs,k1,Ak hs k2,k3,k4,k5.low hs⟩
theorem tL.moveF{g:aR}{m:List Int}{S X X':St}{x y:AV}(h:tL g m S X x y)(hn:X.nx≤X'.nx)(hh:∀c cs,c<X.nx→X.h.get c=some (.cells cs false 0)→X'.h.get c=X.h.get c):tL g m S X' x y:=by
 obtain⟨⟨b,h1,h2,h3,h4⟩,ab,bs,cs,k1,k2,k3,k4,k5⟩:=h;refine⟨⟨b,h1,h2,Ae h3 hn,(hh b _ h3 h4).trans h4⟩,ab,bs,cs,k1,k2,Ae k3 hn,(hh ab _ k3 k4).trans k4,k5.move hn fun j hj=>?_⟩;obtain⟨a,b,c⟩:=k5.bl j hj;exact hh _ _ b c
theorem tL.sl{g:aR}{m:List Int}{S X:St}{x y:AV}(h:tL g m S X x y):aJF g X [x,y] m:=by
 obtain⟨h1,ab,bs,cs,rfl,k2,k3,k4,k5⟩:=h;exact⟨x,_,rfl,h1.is,k5.is k4 k3 (Ah _)⟩
theorem tL.cel{g:aR}{m:List Int}{S X:St}{x y:AV}(h:tL g m S X x y):x.cells=some [x]∧y.cells=some [y]:=by
 obtain⟨⟨b,rfl,_⟩,ab,bs,cs,rfl,_⟩:=h;exact⟨rfl,rfl⟩
theorem aQf{S:St}{t:Nat}{x y:AV}{o:Bool}{sz:Nat}(h:S.h.get t=some (.cells [x,y] o sz)):fG (.sl t 0 1 1 false) S.h 2 1=some [x,y]:=by
 show aZ (cN S.h t) (fun cs=>cut cs 0 (1 * 2))=_;unfold cN;rw[h];rfl
structure aDT(g:aR)(S X:St)(v:AV)(cs:List AV)(L:List (List Int))(j:Nat):Prop where
 gr:fP 2 S X v j cs
 el:∀q,q<j→∃x y,cs[q * 2]? =some x∧cs[q * 2+1]? =some y∧tL g (L.getD q []) S X x y
theorem aDT.is{g:aR}{S X:St}{v:AV}{cs:List AV}{L:List (List Int)}(h:aDT g S X v cs L L.length):aH 2 (aJF g) X v L:=by
 rcases h.gr with⟨rfl,h0,_⟩ | ⟨b,rfl,h1,h2,h3,h4⟩
 ·exact .inl ⟨Bw.1 h0,.inl rfl⟩
 ·refine .inr ⟨b,0,L.length,true,cs,rfl,Ah _,h2,by unfold cN;rw[h3];rfl,fun i a hi=>?_⟩;obtain⟨hlt,rfl⟩:=Ai.1 hi;obtain⟨x,y,e1,e2,e3⟩:=h.el i hlt;rw[Ad,Ab hlt] at e3;refine⟨[x,y],rfl,fun q w hq=>?_,e3.sl⟩;rw[Ao]
  match q,hq with
  | 0,hq=>cases hq;exact e1
  | 1,hq=>cases hq;exact e2
  | q+2,hq=>simp at hq
theorem aDT.move{g:aR}{S X X':St}{v:AV}{cs:List AV}{L:List (List Int)}{j:Nat}(h:aDT g S X v cs L j)(hs:Same X X'):aDT g S X' v cs L j:=⟨h.gr.step hs,fun q hq=>by
 obtain⟨x,y,e1,e2,e3⟩:=h.el q hq;exact⟨x,y,e1,e2,e3.moveF hs.1 fun c _ hc _=>hs.2 c hc⟩⟩
theorem aDT.push{g:aR}{S X:St}{v x y:AV}{cs:List AV}{L:List (List Int)}{j t:Nat}(h:aDT g S X v cs L j)(hS:Same S X)(hp:tL g (L.getD j []) S X x y)(ht:X.h.get t=some (.cells [x,y] false 0))(hj:j+1≤1000):
  ∃v' X',jK 48 2 v (.sl t 0 1 1 false) X=some (v',X')∧Same S X'∧X.nx≤X'.nx∧(∀c,c<X.nx→bD v≠some c→X'.h.get c=X.h.get c)∧aDT g S X' v' (cs++ [x,y]) L (j+1):=by
 obtain⟨v',X',e1,e2,e3,e4,e5⟩:=h.gr.app (bytes:=48) (m:=1) hS rfl (aQf ht) rfl Nat.one_pos (by unfold room;omega) (by unfold room;omega);have hoff:∀c cs',c<X.nx→X.h.get c=some (.cells cs' false 0)→X'.h.get c=X.h.get c:=fun c cs' hc hg=>e5 c hc (h.gr.off hg);refine⟨v',X',e1,e3,e4,e5,e2,fun q hq=>?_⟩;have hcl:=h.gr.csl;by_cases e:q=j
 ·subst e;refine⟨x,y,?_,?_,hp.moveF e4 hoff⟩
  ·rw[Bd (by omega),hcl,Dw];rfl
  ·rw[Bd (by omega),hcl,show q * 2+1 - q * 2=1 by omega];rfl
 ·obtain⟨x',y',k1,k2,k3⟩:=h.el q (by omega);have a1:=(Ai.1 k1).1;have a2:=(Ai.1 k2).1;exact⟨x',y',by rw[Bg a1];exact k1,by rw[Bg a2];exact k2,k3.moveF e4 hoff⟩
theorem aDt{g:aR}{L:List (List Int)}{j:Nat}(hj:j<L.length)(h:iN g.nodes.length (L.getD j []) (iC g (L.getD j []))=0):jW g (L.drop j)=jW g (L.drop (j+1)):=by
 rw[Bt hj];have e:L.getD j []=L[j]:=by rw[Ad,Ab hj];rfl
 rw[e] at h;show(if _≠_ then _ else _)=_;rw[if_neg (fun e=>e h)]
theorem aDG{g:aR}{L:List (List Int)}{j:Nat}(hj:j<L.length)(h:iN g.nodes.length (L.getD j []) (iC g (L.getD j []))≠0):jW g (L.drop j)=iN g.nodes.length (L.getD j []) (iC g (L.getD j [])):=by
 rw[Bt hj];have e:L.getD j []=L[j]:=by rw[Ad,Ab hj];rfl
 rw[e] at h ⊢;show(if _≠_ then _ else _)=_;rw[if_pos h]
def aOG(S:St)(wb:Nat)(mv:AV)(g:aR)(L:List (List Int))(k:Nat)(A:bH)(X:St):Prop:=A.inr=false∧Same S X∧∃ (j:Nat) (v:AV) (cs:List AV),j+k=L.length∧jW g L=jW g (L.drop j)∧aDT g S X v cs L j∧aB 0 A.F= .ptr wb 0∧aB 6 A.F=v∧aB 14 A.F=mv∧aB 15 A.F= .int .i64 (L.length:Int)∧aB 16 A.F= .int .i64 (j:Int)
theorem aEF{S:St}{wb plb szb:Nat}{nv iv pv mv:AV}{g:aR}{L:List (List Int)}{T:List dH}{Z:List Int}(H:Has fns)(hf:cP g=0)(hn:aH 6 bP S nv g.nodes)(hi:aH 2 cA S iv g.infos)(hm:aH 1 iX S mv L)(hT:gS g=some T)(hTl:T.length=g.nodes.length)(hpv:bK .i64 S pv (T.map (·.1)))(hB:iM S wb plb szb pv nv iv g (kN g) Z):
  gH fns (.fn 166 [] []) [.ptr wb 0,mv] S fun r S'=>Same S S'∧∃v,r= .tup [v,.int .i64 (if 16<L.length then 4 else jW g L)]∧((if 16<L.length then 4 else jW g L)≠0→v= .nilsl)∧((if 16<L.length then 4 else jW g L)=0→aH 2 (aJF g) S' v L):=by
 have G:=iK hf;have hN2:=G.n2;refine cI H.f166 (by simp) ?_;simp only[↓sU,sD,rE,↓reduceIte,rA];refine bQ ?_;simp only[↓sU,sD,rE,↓reduceIte,rA];refine gC ?_;simp only[↓sU,sD,rE,↓reduceIte,rA,hm.len,Ag];by_cases h16:16<L.length
 ·rw[if_pos h16];refine aO (by simp only[↓sU,sD,rE,↓reduceIte,rA,Ac (show((L.length:Nat):Int)>16 by omega)]) ?_;refine bQ ?_;simp only[↓sU,sD,rE,↓reduceIte,rA];refine aS ?_;simp only[↓sU,sD,rE,↓reduceIte,rA];exact⟨Same.refl _,.nilsl,rfl,fun _=>rfl,fun h=>by omega⟩
 rw[if_neg h16];refine aN (by simp only[↓sU,sD,rE,↓reduceIte,rA,Aa (show ¬ ((L.length:Nat):Int)>16 by omega)]) (aI ?_);try simp only[↓sU,sD,rE,↓reduceIte,rA]
 refine bQ ?_;simp only[↓sU,sD,rE,↓reduceIte,rA];refine aA (aY (Q:=fun o A' X=>(o= .normal∧aOG S wb mv g L 0 A' X)∨(o= .ret∧Same S X∧jW g L≠0∧aB 4 A'.F= .nilsl∧aB 5 A'.F= .int .i64 (jW g L))) (aA (aJ ?_)) ?_)
 ·simp only[↓sU,sD,rE,↓reduceIte,rA,hm.len,Ag];refine aL (bL (aOG S wb mv g L) ?_ L.length _ _ ⟨rfl,Same.refl _,0,.nilsl,[],by omega,rfl,⟨.inl ⟨rfl,rfl,rfl⟩,fun q hq=>by omega⟩,by simp only[↓sU,sD,rE,↓reduceIte,rA],by simp only[↓sU,sD,rE,↓reduceIte,rA],by simp only[↓sU,sD,rE,↓reduceIte,rA],by simp only[↓sU,sD,rE,↓reduceIte,rA],by simp only[↓sU,sD,rE,↓reduceIte,rA];try rfl⟩);rintro k ⟨F,inr⟩ X ⟨q0,hX,j,v,cs,hjk,hE,hI,p0,p6,p14,p15,p16⟩;simp only at q0 p0 p6 p14 p15 p16;subst q0;refine bQ ?_;simp only[↓sU,sD,rE,↓reduceIte,rA,p15,p16];by_cases hlt:j<L.length;rotate_left
  ·refine aA (aN (by simp only[↓sU,sD,rE,↓reduceIte,rA,Aa (show ¬ (j:Int)<((L.length:Nat):Int) by omega)]) (bM ?_));simp only[↓sU,sD,rE,↓reduceIte,rA];obtain rfl:k=0:=by omega
   exact .inl ⟨rfl,hX,j,v,cs,hjk,hE,hI,by refine⟨?_,?_,?_,?_,?_⟩<;>simp only[↓sU,sD,rE,↓reduceIte,rA,p0,p6,p14,p15,p16]⟩
  refine aA (aO (by simp only[↓sU,sD,rE,↓reduceIte,rA,Ac (show(j:Int)<((L.length:Nat):Int) by omega)]) (aI ?_));try simp only[↓sU,sD,rE,↓reduceIte,rA]
  have w1:IntKind.i64.wrap ((j:Int)+1)=((j+1:Nat):Int):=by rw[wrap_i64 (by omega) (by omega)];omega
  obtain⟨xb,xq,a,xi,xs,xl⟩:=aEC hm hlt;have xl:=xl X hX;have himd:=aDt (g:=g) hlt;have hims:=aDG (g:=g) hlt;have hpush:=@aDT.push g S;obtain⟨m,hme⟩:∃m,L.getD j []=m:=⟨_,rfl⟩;rw[hme] at xs himd hims;have hBX:=hB.same hX;refine aA (aL (aA (aJ ?_)));simp only[↓sU,sD,rE,↓reduceIte,rA,p14,p16,aG,xi,xl];refine bQ ?_;simp only[↓aF,aE,rE,↓reduceIte,rA,p0];refine bG ?_;simp only[↓aF,aE,rE,↓reduceIte,rA];refine aX (yJ (P:=tL g m) (ok:=iC g m) H (aC4 (g:=g) (m:=m)) hBX.w (aH.same (E:=bP) bF hn hX) (xs.same hX) (by omega) (fun h1 h2 _ S' hS'=>aC2 H (aH.same (E:=bP) bF hn (hX.trans hS')) (aH.same (E:=cA) bO hi (hX.trans hS')) (xs.same (hX.trans hS')) G ⟨h1,h2⟩ hT hTl (hpv.same (hX.trans hS')) (hBX.same hS'))) ?_;rintro _ X1 ⟨x1,x,y,rfl,hp,hnil⟩;simp only[↓aF,aE,rE,↓reduceIte,rA,uW,vE];refine cH ?_;intro X2 x2 m2 c2;try simp only[↓aF,aE,rE,↓reduceIte,rA]
  have hcel:x.cells=some [x]∧y.cells=some [y]:=by
   by_cases h0:iN g.nodes.length m (iC g m)=0
   ·obtain⟨S0,_,h⟩:=hp h0;exact h.cel
   ·obtain⟨rfl,rfl⟩:=hnil h0;exact⟨rfl,rfl⟩
  refine dB (b:=X1.nx) (by simp only[↓aF,aE,rE,↓reduceIte,rA]) (by simp only[↓aF,aE,rE,↓reduceIte,rA];exact bB _) c2 rfl rfl ?_;intro X3 x3 m3 c3;try simp only[↓aF,aE,rE,↓reduceIte,rA]
  have s13:Same X1 X3:=x3.same x2 (Ah _);have sX3:=(hX.trans x1).trans s13;clear x2 x3 c2;try simp only[↓sU,sD,rE,↓reduceIte,rA]
  refine gC ?_;simp only[↓sU,sD,rE,↓reduceIte,rA];by_cases h0:iN g.nodes.length m (iC g m)=0;rotate_left
  ·refine aO (by simp only[↓sU,sD,rE,↓reduceIte,rA,Ac (show iN g.nodes.length m (iC g m)≠0 from h0)]) ?_;refine bQ ?_;simp only[↓sU,sD,rE,↓reduceIte,rA];refine aS ?_;rw[hims h0] at hE;refine .inr ⟨rfl,sX3,by rw[hE];exact h0,by refine⟨?_,?_⟩<;>simp only[↓sU,sD,rE,↓reduceIte,rA,hE]⟩
  refine aN (by simp only[↓sU,sD,rE,↓reduceIte,rA,Aa (show ¬iN g.nodes.length m (iC g m)≠0 from fun h=>h h0)]) (aI ?_);try simp only[↓sU,sD,rE,↓reduceIte,rA]
  obtain⟨S0,hS0,hpi⟩:=hp h0;have hpi3:tL g (L.getD j []) S X3 x y:=by
   rw[hme];exact(hpi.moveF s13.1 fun c _ hc _=>s13.2 c hc).low (Ak hX.1 hS0)
  refine aJ ?_;simp only[↓aF,aE,rE,↓reduceIte,rA,p6,aK0 c3];refine gM (aHM (a:=x) (b:=y) (by simp only[↓aF,aE,rE,↓reduceIte,rA])) ?_;intro X4 x4 m4 c4;have sX4:=sX3.trans x4;obtain⟨v',X5,eA,e2,e3,e4,e5⟩:=(hI.move ((x1.trans s13).trans x4)).push (t:=X3.nx) sX4 (hpi3.moveF x4.1 fun c _ hc _=>x4.2 c hc) c4 (by omega);try simp only[↓aF,aE,rE,↓reduceIte,rA,p6]
  refine fJ (fun call=>by simp only[↓aF,aE,rE,↓reduceIte,rA,iG];exact eA) ?_;simp only[↓sU,sD,rE,↓reduceIte,rA];refine aJ ?_;simp only[↓sU,sD,rE,↓reduceIte,rA,p16,w1];exact⟨k - 1,by omega,rfl,e2,j+1,v',_,by omega,by rw[hE];exact himd h0,e5,by refine⟨?_,?_,?_,?_,?_⟩<;>simp only[↓sU,sD,rE,↓reduceIte,rA,p0,p14,p15]⟩
 rintro o ⟨F,inr⟩ X (⟨rfl,q0,hX,j,v,cs,hjk,hE,hI,p0,p6,p14,p15,p16⟩ | ⟨rfl,hX,hne,p4,p5⟩)
 ·simp only at q0 p6;subst q0;obtain rfl:j=L.length:=by omega
  rw[List.drop_length] at hE;have hE0:jW g L=0:=hE;try simp only[↓sU,sD,rE,↓reduceIte,rA]
  refine bQ ?_;simp only[↓sU,sD,rE,↓reduceIte,rA,p6];refine aS ?_;simp only[↓sU,sD,rE,↓reduceIte,rA];exact⟨hX,v,by rw[hE0],fun h=>absurd hE0 h,fun _=>hI.is⟩
 ·simp only at p4 p5;simp only[↓sU,sD,rE,↓reduceIte,rA,p4,p5];exact⟨hX,.nilsl,rfl,fun _=>rfl,fun h=>absurd h hne⟩
noncomputable def jI(g:aR)(L:List (List Int)):Int:=if cP g≠0 then cP g else if 16<L.length then 4 else jW g L
theorem sE{g:aR}{L:List (List Int)}(h:jI g L=0):cP g=0∧L.length≤16∧jW g L=0:=by
 unfold jI at h;split at h
 ·rename_i h1;exact absurd h h1
 rename_i h1;split at h
 ·cases h
 ·exact⟨Cu.1 h1,by omega,h⟩
theorem nG{g:aR}:∀ {L:List (List Int)},jW g L=0→∀m∈L,iN g.nodes.length m (iC g m)=0
 | [],_,m,hm=>by cases hm
 | x::L,h,m,hm=>by
  have h:(if iN g.nodes.length x (iC g x)≠0 then iN g.nodes.length x (iC g x) else jW g L)=0:=h;split at h
  ·rename_i h1;exact absurd h h1
  ·rename_i h1;rcases Bm.1 hm with rfl | hm
   ·exact Cu.1 h1
   ·exact nG h m hm
theorem nI{g:aR}{m:List Int}(h:iN g.nodes.length m (iC g m)=0):fH g m:=by
 unfold iN at h;split at h
 ·cases h
 rename_i h1;split at h
 ·cases h
 rename_i h2;split at h
 ·cases h
 rename_i h3;split at h
 ·rename_i h4;exact⟨⟨Cu.1 h1,Classical.not_not.1 h2⟩,h3,h4⟩
 ·cases h
def aO9(g:aR)(L:List (List Int))(a b:List Int):Prop:=kT g.nodes.length (gJ g.nodes.length L) a∧kT g.infos.length (gJ g.infos.length (L.map (imgI g))) b
structure aHq(X1 X:St)(v:AV)(cs:List AV)(A:List (List Int))(j:Nat):Prop where
 gr:fP 1 X1 X v j cs
 el:∀q,q<j→∃r,cs[q]? =some r∧bK .i64 X1 r (A.getD q [])
theorem aHq.is{X1 X:St}{v:AV}{cs:List AV}{A:List (List Int)}(h:aHq X1 X v cs A A.length)(hs:Same X1 X):aH 1 iX X v A:=by
 rcases h.gr with⟨rfl,h0,_⟩ | ⟨b,rfl,h1,h2,h3,h4⟩
 ·exact .inl ⟨Bw.1 h0,.inl rfl⟩
 ·refine .inr ⟨b,0,A.length,true,cs,rfl,Ah _,h2,by unfold cN;rw[h3];rfl,fun i a hi=>?_⟩;obtain⟨hlt,rfl⟩:=Ai.1 hi;obtain⟨r,e1,e3⟩:=h.el i hlt;rw[Ad,Ab hlt] at e3;refine⟨[r],rfl,fun q w hq=>?_,r,rfl,e3.same hs⟩;rw[Ao,Dh]
  match q,hq with
  | 0,hq=>cases hq;exact e1
  | q+1,hq=>simp at hq
theorem aHq.push{X1 X:St}{v r:AV}{cs:List AV}{A:List (List Int)}{j t:Nat}(h:aHq X1 X v cs A j)(hS:Same X1 X)(hr:bK .i64 X1 r (A.getD j []))(ht:X.h.get t=some (.cells [r] false 0))(hj:j+1≤1000):
  ∃v' X',jK 24 1 v (.sl t 0 1 1 false) X=some (v',X')∧Same X1 X'∧aHq X1 X' v' (cs++ [r]) A (j+1):=by
 obtain⟨v',X',e1,e2,e3,e4,e5⟩:=h.gr.app (bytes:=24) (m:=1) hS rfl (aM3 ht) rfl Nat.one_pos (by unfold room;omega) (by unfold room;omega);refine⟨v',X',e1,e3,e2,fun q hq=>?_⟩;have hcl:=h.gr.csl;by_cases e:q=j
 ·subst e;exact⟨r,by rw[Bd (by omega),hcl,Dh,Dw];rfl,hr⟩
 ·obtain⟨r',k1,k2⟩:=h.el q (by omega);exact⟨r',by rw[Bg (Ai.1 k1).1];exact k1,k2⟩
theorem aFy{f:List Int→List Int}{L:List (List Int)}{j:Nat}(hj:j<L.length):(L.map f).getD j []=f (L.getD j []):=by
 rw[Ad,Aq,Ab hj,Ad,Ab hj];rfl
theorem aG2{g:aR}{L:List (List Int)}(hf:cP g=0)(hL:∀m∈L,fH g m):(∀m∈L,m.length=g.nodes.length∧∀x,x<g.nodes.length→0≤m.getD x 0∧m.getD x 0<g.nodes.length)∧∀m∈L.map (imgI g),m.length=g.infos.length∧∀x,x<g.infos.length→0≤m.getD x 0∧m.getD x 0<g.infos.length:=by
 have G:=iK hf;refine⟨fun m hm=>⟨(hL m hm).M.len,fun x hx=>?_⟩,fun m hm=>?_⟩
 ·have:=(hL m hm).M.at hx;omega
 ·obtain⟨q,hq,rfl⟩:=Du.1 hm;refine⟨by simp [imgI],fun x hx=>?_⟩;have A:=hL q hq;obtain⟨h1,h2,h3⟩:=G.fst x hx;have e:(imgI g q).getD x 0=(nodeAt g (fA q (fM g x))).info:=by
   unfold imgI;rw[Ad,Aq,Bl hx];rfl
  rw[e];have:=G.inf _ (A.M.at h1).2 (by rw[← (A.A.like _ h1).1];exact h2);exact⟨this.1,this.2.1⟩
def aPD(X1:St)(gb:Nat)(mv imv:AV)(A0:List (List Int))(k:Nat)(A:bH)(X:St):Prop:=A.inr=false∧Same X1 X∧∃ (j:Nat) (v:AV) (cs:List AV),j+k=A0.length∧aHq X1 X v cs A0 j∧aB 1 A.F=mv∧aB 2 A.F= .ptr gb 0∧aB 10 A.F=v∧aB 30 A.F=imv∧aB 31 A.F= .int .i64 (A0.length:Int)∧aB 32 A.F= .int .i64 (j:Int)
theorem aFc{S:St}{nv iv mv:AV}{g:aR}{L:List (List Int)}(H:Has fns)(hn:aH 6 bP S nv g.nodes)(hi:aH 2 cA S iv g.infos)(hln:g.nodes.length≤100000)(hm:aH 1 iX S mv L):
  gH fns (.fn 136 [] []) [.agg [.int .i64 g.players,nv,iv],mv] S fun r S'=>Same S S'∧∃x y,r= .tup [x,y,.int .i64 (jI g L)]∧(jI g L≠0→x= .nilsl∧y= .nilsl)∧(jI g L=0→∃a b,mX S S' x a∧mX S S' y b∧aO9 g L a b):=by
 refine cI H.f136 (by simp) ?_;simp only[↓sU,sD,rE,↓reduceIte,rA];refine bQ ?_;refine cM (by simp only[↓sU,sD,rE,↓reduceIte,rA];exact bB _) ?_;intro S1 s1 n1 g1;simp only[↓sU,sD,rE,↓reduceIte,rA];refine bQ ?_;simp only[↓sU,sD,rE,↓reduceIte,rA,fR g1];refine bG ?_;simp only[↓sU,sD,rE,↓reduceIte,rA];refine aX (aAw H (aH.same (E:=bP) bF hn s1) (aH.same (E:=cA) bO hi s1) hln) ?_;rintro _ S2 ⟨s2,p,rfl,hlook⟩;simp only[↓sU,sD,rE,↓reduceIte,rA,uW,vE];have s12:=s1.trans s2;refine gC ?_;simp only[↓sU,sD,rE,↓reduceIte,rA];by_cases h0:cP g=0;rotate_left
 ·have hE:jI g L=cP g:=by unfold jI;rw[if_pos h0]
  rw[hE];refine aO (by simp only[↓sU,sD,rE,↓reduceIte,rA,Ac (show cP g≠0 from h0)]) ?_;refine bQ ?_;simp only[↓sU,sD,rE,↓reduceIte,rA];refine aS ?_;simp only[↓sU,sD,rE,↓reduceIte,rA];exact⟨s12,.nilsl,.nilsl,rfl,fun _=>⟨rfl,rfl⟩,fun h=>absurd h h0⟩
 have hE:jI g L=if 16<L.length then 4 else jW g L:=by unfold jI;rw[if_neg (fun h=>h h0)]
 rw[hE];refine aN (by simp only[↓sU,sD,rE,↓reduceIte,rA,Aa (show ¬cP g≠0 from fun h=>h h0)]) (aI ?_);try simp only[↓sU,sD,rE,↓reduceIte,rA]
 obtain⟨wb,plb,szb,pv0,T,Z,rfl,hwb,hT,hTl,hpv,hB⟩:=hlook h0;have hn2:=aH.same (E:=bP) bF hn s12;have hi2:=aH.same (E:=cA) bO hi s12;have hm2:=aH.same (E:=iX) firm_sl hm s12;refine bQ ?_;simp only[↓sU,sD,rE,↓reduceIte,rA];refine bG ?_;simp only[↓sU,sD,rE,↓reduceIte,rA];refine aX (aEF H h0 hn2 hi2 hm2 hT hTl hpv hB) ?_;rintro _ S3 ⟨s3,imv,rfl,himn,him⟩;generalize he:(if 16<L.length then(4:Int) else jW g L)=e at *;simp only[↓sU,sD,rE,↓reduceIte,rA,uW,vE];have s13:=s12.trans s3;refine gC ?_;simp only[↓sU,sD,rE,↓reduceIte,rA];by_cases e0:e=0;rotate_left
 ·refine aO (by simp only[↓sU,sD,rE,↓reduceIte,rA,Ac (show e≠0 from e0)]) ?_;refine bQ ?_;simp only[↓sU,sD,rE,↓reduceIte,rA];refine aS ?_;simp only[↓sU,sD,rE,↓reduceIte,rA];exact⟨s13,.nilsl,.nilsl,rfl,fun _=>⟨rfl,rfl⟩,fun h=>absurd h e0⟩
 refine aN (by simp only[↓sU,sD,rE,↓reduceIte,rA,Aa (show ¬e≠0 from fun h=>h e0)]) (aI ?_);try simp only[↓sU,sD,rE,↓reduceIte,rA]
 have hims:=him e0;have hL16:L.length≤16:=by
  rw[←he] at e0;split at e0
  ·cases e0
  ·omega
 have hAll:∀m∈L,fH g m:=fun m hm=>by
  rw[←he] at e0;rw[if_neg (by omega)] at e0;exact nI (nG e0 m hm)
 obtain⟨hin1,hin2⟩:=aG2 h0 hAll;have G:=iK h0;have hAl:(L.map (imgI g)).length=L.length:=Aj ..;refine bQ ?_;simp only[↓sU,sD,rE,↓reduceIte,rA];refine aA (aY (Q:=fun o A' X=>o= .normal∧aPD S3 S.nx mv imv (L.map (imgI g)) 0 A' X) (aA (aJ ?_)) ?_)
 ·simp only[↓sU,sD,rE,↓reduceIte,rA,aH.len hims,Ag];refine aL (bL (aPD S3 S.nx mv imv (L.map (imgI g))) ?_ (L.map (imgI g)).length _ _ ⟨rfl,Same.refl _,0,.nilsl,[],by omega,⟨.inl ⟨rfl,rfl,rfl⟩,fun q hq=>by omega⟩,by simp only[↓sU,sD,rE,↓reduceIte,rA],by simp only[↓sU,sD,rE,↓reduceIte,rA],by simp only[↓sU,sD,rE,↓reduceIte,rA],by simp only[↓sU,sD,rE,↓reduceIte,rA],by simp only[↓sU,sD,rE,↓reduceIte,rA,hAl],by simp only[↓sU,sD,rE,↓reduceIte,rA];try rfl⟩);rintro k ⟨F,inr⟩ X ⟨q0,hX,j,v,cs,hjk,hI,p1,p2,p10,p30,p31,p32⟩;simp only at q0 p1 p2 p10 p30 p31 p32;subst q0;refine bQ ?_;simp only[↓sU,sD,rE,↓reduceIte,rA,p31,p32];by_cases hlt:j<(L.map (imgI g)).length;rotate_left
  ·refine aA (aN (by simp only[↓sU,sD,rE,↓reduceIte,rA,Aa (show ¬ (j:Int)<(((L.map (imgI g)).length:Nat):Int) by omega)]) (bM ?_));simp only[↓sU,sD,rE,↓reduceIte,rA];obtain rfl:k=0:=by omega
   exact⟨rfl,hX,j,v,cs,hjk,hI,by refine⟨?_,?_,?_,?_,?_,?_⟩<;>simp only[↓sU,sD,rE,↓reduceIte,rA,p1,p2,p10,p30,p31,p32]⟩
  refine aA (aO (by simp only[↓sU,sD,rE,↓reduceIte,rA,Ac (show(j:Int)<(((L.map (imgI g)).length:Nat):Int) by omega)]) (aI ?_));try simp only[↓sU,sD,rE,↓reduceIte,rA]
  have w1:IntKind.i64.wrap ((j:Int)+1)=((j+1:Nat):Int):=by rw[wrap_i64 (by omega) (by omega)];omega
  have hjL:j<L.length:=by omega
  obtain⟨_,xb,xq,xi,xlt,_,⟨x,y,rfl,hx,hy⟩,xag,_⟩:=aH.at hims (by decide) (zY hjL);rw[←jJ hX xlt] at xag;have hcx:x.cells=some [x]:=bK.cells hx;refine aA (aL (aA (aJ ?_)));simp only[↓aF,aE,rE,↓reduceIte,rA,p30,p32,aG,xi,xag];refine cH ?_;intro X2 x2 m2 c2;try simp only[↓aF,aE,rE,↓reduceIte,rA]
  refine dB (b:=X.nx) (by simp only[↓aF,aE,rE,↓reduceIte,rA]) (by simp only[↓aF,aE,rE,↓reduceIte,rA];exact bB _) c2 rfl rfl ?_;intro X3 x3 m3 c3;try simp only[↓aF,aE,rE,↓reduceIte,rA]
  have s13':Same X X3:=x3.same x2 (Ah _);have sX3:=hX.trans s13';clear x2 x3 c2;refine aJ ?_;simp only[↓aF,aE,rE,↓reduceIte,rA,p10,aC,aD,aOM c3];refine gM (aBX hx (by simp only[↓aF,aE,rE,↓reduceIte,rA])) ?_;intro X4 x4 m4 c4;have sX4:=sX3.trans x4;have hI4:aHq S3 X4 v cs (L.map (imgI g)) j:=⟨hI.gr.step (s13'.trans x4),hI.el⟩;obtain⟨v',X5,eA,e2,e3⟩:=hI4.push (t:=X3.nx) sX4 (r:=x) (by rw[aFy hjL];exact hx) c4 (by omega);try simp only[↓aF,aE,rE,↓reduceIte,rA,p10]
  refine fJ (fun call=>by simp only[↓aF,aE,rE,↓reduceIte,rA,iG];exact eA) ?_;simp only[↓sU,sD,rE,↓reduceIte,rA];refine aJ ?_;simp only[↓sU,sD,rE,↓reduceIte,rA,p32,w1];exact⟨k - 1,by omega,rfl,e2,j+1,v',_,by omega,e3,by refine⟨?_,?_,?_,?_,?_,?_⟩<;>simp only[↓sU,sD,rE,↓reduceIte,rA,p1,p2,p30,p31]⟩
 rintro o ⟨F,inr⟩ X ⟨rfl,q0,hX,j,v,cs,hjk,hI,p1,p2,p10,_,_,_⟩;simp only at q0 p1 p2 p10;subst q0;obtain rfl:j=(L.map (imgI g)).length:=by omega
 have hrows:=hI.is hX;have hsX:=s13.trans hX;have gX:X.h.get S.nx=some (.cells [.int .i64 g.players,nv,iv] false 0):=((s2.trans (s3.trans hX)).2 _ (by omega)).trans g1;have lgX:S.nx<X.nx:=by have:=(s2.trans (s3.trans hX)).1;omega
 have snv:=aH.self hn;have siv:=aH.self hi;have lnv:=aH.len hn;have liv:=aH.len hi;have hN2:=G.n2;have hNI:=G.ni;try simp only[↓sU,sD,rE,↓reduceIte,rA]
 refine aA (iE (fun _=>False) ?_);intro X0 x0;simp only[↓sU,sD,rE,↓reduceIte,rA,p1,p2,p10,aC,aU,aD,eY gX,lgX,Al,snv,lnv,Ag];refine dS rfl ?_;simp only[↓sU,sD,rE,↓reduceIte,rA];refine aX (aBG (n:=g.nodes.length) H (by omega) (aH.same (E:=iX) firm_sl hm (hsX.trans x0)) (by omega) hin1) ?_;rintro oa Y1 ⟨y1,a,ha,hoa⟩;refine⟨y1,?_⟩;simp only[↓sU,sD,rE,↓reduceIte,rA,p1,p2,p10,aC,aU,aD,gG gX,lgX,Al,siv,liv,Ag];refine dS rfl ?_;simp only[↓sU,sD,rE,↓reduceIte,rA];refine aX (aBG (n:=g.infos.length) H (by omega) (aH.same (E:=iX) firm_sl hrows (x0.trans y1)) (by omega) hin2) ?_;rintro ob Y2 ⟨y2,b,hb,hob⟩;refine⟨y2,?_⟩;try simp only[↓sU,sD,rE,↓reduceIte,rA]
 refine aS ?_;simp only[↓sU,sD,rE,↓reduceIte,rA];have sfin:=((hsX.trans x0).trans y1).trans y2;have low:∀ {S0 S1 X:St} {v:AV} {l:List Int},mX S1 X v l→S0.nx≤S1.nx→mX S0 X v l:=fun h hs=>by
  obtain⟨b,h1,h2,h3,h4⟩:=h;exact⟨b,h1,Ak hs h2,h3,h4⟩
 exact⟨sfin,oa,ob,by rw[e0],fun h=>absurd e0 h,fun _=>⟨a,b,low (ha.same y2) (hsX.trans x0).1,low hb ((hsX.trans x0).trans y1).1,hoa,hob⟩⟩
def wY(l:List Int):Nat:=(l.map Int.toNat).sum
theorem aDd:∀ {l:List Int} {i:Nat} {v:Int},i<l.length→wY (l.set i v)+(l.getD i 0).toNat=wY l+v.toNat
 | [],i,v,h=>absurd h (Bs _)
 | x::l,0,v,_=>by
  show(v.toNat+wY l)+x.toNat=(x.toNat+wY l)+v.toNat;omega
 | x::l,i+1,v,h=>by
  have ih:=aDd (l:=l) (i:=i) (v:=v) (Nat.lt_of_succ_lt_succ h);show(x.toNat+wY (l.set i v))+(l.getD i 0).toNat=(x.toNat+wY l)+v.toNat;omega
theorem aId{n:Nat}{E:Nat→Nat→Prop}{out:List Int}(h:uM n E out){x y:Nat}(hx:x<n)(hy:y<n)(hE:rK E x y)(hne:out.getD x 0≠out.getD y 0):
  uM n E ((out.set x (yB (out.getD x 0) (out.getD y 0))).set y (yB (out.getD x 0) (out.getD y 0)))∧wY ((out.set x (yB (out.getD x 0) (out.getD y 0))).set y (yB (out.getD x 0) (out.getD y 0)))<wY out:=by
 have hxy:x≠y:=fun e=>hne (by rw[e]);have hl:=h.len;have hgx:=h.le x hx;have hgy:=h.le y hy;have cx:=h.con x hx;have cy:=h.con y hy;generalize ea:out.getD x 0=a at *;generalize eb:out.getD y 0=b at *;have hm:(yB a b=a∧a<b)∨(yB a b=b∧b<a):=by unfold yB;split<;>omega
 have hg:∀z,((out.set x (yB a b)).set y (yB a b)).getD z 0=if z=y then yB a b else if z=x then yB a b else out.getD z 0:=fun z=>by
  rw[fX (by rw[Ap];omega),fX (by omega)]
 refine⟨⟨by rw[Ap,Ap];exact hl,fun z hz=>?_,fun z hz=>?_⟩,?_⟩
 ·rw[hg];have:=h.le z hz;split
  ·omega
  ·split<;>omega
 ·rw[hg];split
  ·rename_i e;subst e;rcases hm with⟨e,_⟩ | ⟨e,_⟩
   ·rw[e];exact .trans (.symm hE) cx
   ·rw[e];exact cy
  ·split
   ·rename_i e;subst e;rcases hm with⟨e,_⟩ | ⟨e,_⟩
    ·rw[e];exact cx
    ·rw[e];exact .trans hE cy
   ·exact h.con z hz
 ·have s1:=aDd (l:=out) (i:=x) (v:=yB a b) (by omega);have s2:=aDd (l:=out.set x (yB a b)) (i:=y) (v:=yB a b) (by rw[Ap];omega);have e2:(out.set x (yB a b)).getD y 0=b:=by
   rw[fX (by omega),if_neg (Bq hxy)];exact eb
  rw[ea] at s1;rw[e2] at s2;omega
theorem aEo{n:Nat}{L:List (List Int)}{out:List Int}(h:uM n (gJ n L) out)(hd:∀q x,x<n→q<L.length→out.getD x 0=out.getD ((L.getD q []).getD x 0).toNat 0):kT n (gJ n L) out:=
 ⟨h.len,h.le,h.con,fun x y ⟨hx,m,hm,e⟩=>by
  obtain⟨q,hq,rfl⟩:=En.1 hm;have:=hd q x hx hq;rw[Ad (l:=L),Ab hq] at this;rw[e];exact this⟩
section
variable {S:St}{ob n:Nat}{mv:AV}{L:List (List Int)}
def aCr(n:Nat)(L:List (List Int))(out0 out:List Int)(fl:Bool)(q x:Nat):Prop:=uM n (gJ n L) out∧((fl=true∧wY out<wY out0)∨(fl=false∧out=out0∧∀q' x',x'<n→q'<q∨(q'=q∧x'<x)→out0.getD x' 0=out0.getD ((L.getD q' []).getD x' 0).toNat 0))
def aLd(ob n:Nat)(mv:AV)(fl:Bool)(F:Fr):Prop:=aB 0 F= .int .i64 (n:Int)∧aB 1 F=mv∧aB 5 F= .sl ob 0 n n false∧aB 6 F= .bool fl
def aPm(S:St)(ob n:Nat)(mv:AV)(L:List (List Int))(out0:List Int)(q:Nat)(k:Nat)(A:bH)(X:St):Prop:=A.inr=false∧Same S X∧ob<X.nx∧∃ (x:Nat) (out:List Int) (fl:Bool),x+k=n∧X.h.get ob=some (.cells (aP out) false 0)∧aCr n L out0 out fl q x∧aLd ob n mv fl A.F∧aB 7 A.F= .int .i64 (q:Int)∧aB 8 A.F= .int .i64 (x:Int)
theorem aM7{Y:St}{F0:Fr}{out0 out1:List Int}{q:Nat}{fl:Bool}(hn:n≤1000000)(hm:aH 1 iX S mv L)(hin:∀m∈L,m.length=n∧∀x,x<n→0≤m.getD x 0∧m.getD x 0<n)(hq:q<L.length)(hS:Same S Y)(hs:S.nx≤ob)(hol:ob<Y.nx)(ho:Y.h.get ob=some (.cells (aP out1) false 0))(hD:aCr n L out0 out1 fl q 0)(hZ:aLd ob n mv fl F0)(p7:aB 7 F0= .int .i64 (q:Int))(p8:aB 8 F0= .int .i64 ((0:Nat):Int)):
  iH fns qk9 ⟨F0,false⟩ Y fun o A' X=>o= .normal∧aPm S ob n mv L out0 q 0 A' X:=by
 refine aL (bL (aPm S ob n mv L out0 q) ?_ n _ _ ⟨rfl,hS,hol,0,out1,fl,by omega,ho,hD,hZ,p7,p8⟩);clear hZ p7 p8 hD ho hol hS;rintro k ⟨F,inr⟩ X ⟨q0,hX,hol,x,out,fl,hxk,ho,hD,⟨p0,p1,p5,p6⟩,p7,p8⟩;simp only at q0 p0 p1 p5 p6 p7 p8;subst q0;refine gC ?_;simp only[↓sU,sD,rE,↓reduceIte,rA,p0,p8];by_cases hlt:x<n;rotate_left
 ·refine aN (by simp only[↓sU,sD,rE,↓reduceIte,rA,Aa (show ¬ (x:Int)<(n:Int) by omega)]) (bM ?_);simp only[↓sU,sD,rE,↓reduceIte,rA];obtain rfl:k=0:=by omega
  exact⟨rfl,hX,hol,x,out,fl,hxk,ho,hD,(by refine⟨?_,?_,?_,?_⟩<;>simp only[↓sU,sD,rE,↓reduceIte,rA,p0,p1,p5,p6]),by refine⟨?_,?_⟩<;>simp only[↓sU,sD,rE,↓reduceIte,rA,p7,p8]⟩
 refine aO (by simp only[↓sU,sD,rE,↓reduceIte,rA,Ac (show(x:Int)<(n:Int) by omega)]) (aI ?_);try simp only[↓sU,sD,rE,↓reduceIte,rA]
 have w1:IntKind.i64.wrap ((x:Int)+1)=((x+1:Nat):Int):=by rw[wrap_i64 (by omega) (by omega)];omega
 obtain⟨xb,xq,a,xi,xs,xl⟩:=aEC hm hq;have xl1:=xl X hX;have hmem:L.getD q []∈L:=by rw[Ad,Ab hq];exact Bo hq
 obtain⟨l1,l2⟩:=hin _ hmem;obtain⟨m1,m2⟩:=l2 x hlt;have hUp:=hD.1;have hol':=hUp.len;have ia:=dT (b:=ob) (o:=false) hlt;have la:=sR ho (show x<out.length by omega);have ir:=(xs.same hX).iaddr (show x<(L.getD q []).length by omega);have lr:=(xs.same hX).ld (show x<(L.getD q []).length by omega);have sa:=bK.self xs;obtain⟨y,hy⟩:∃y:Nat,(L.getD q []).getD x 0=(y:Int):=⟨((L.getD q []).getD x 0).toNat,by omega⟩;rw[hy] at lr m2;have hyn:y<n:=by omega
 have ib:=dT (b:=ob) (o:=false) hyn;have lb:=sR ho (show y<out.length by omega);have hc:rK (gJ n L) x y:=.edge ⟨hlt,_,hmem,by rw[hy];rfl⟩;have hedge:=fun hne=>aId hUp hlt hyn hc hne;refine aA (aL (aA (gP ?_)));simp only[↓sU,sD,rE,↓reduceIte,rA,p1,p5,p7,p8,aG,ia,la,xi,xl1,sa,ir,lr,ib,lb,cS];generalize ea:out.getD x 0=av at *;generalize eb:out.getD y 0=bv at *;by_cases hne:av=bv
 ·subst hne;refine bQ ?_;simp only[↓sU,sD,rE,↓reduceIte,rA];refine aN (by simp only[↓sU,sD,rE,↓reduceIte,rA,Aa (show ¬av≠av from fun h=>h rfl)]) (aI ?_);try simp only[↓sU,sD,rE,↓reduceIte,rA]
  refine aJ ?_;simp only[↓sU,sD,rE,↓reduceIte,rA,p8,w1];refine⟨k - 1,by omega,rfl,hX.trans (Same.nx X _),by simp only;omega,x+1,out,fl,by omega,ho,⟨hUp,?_⟩,(by refine⟨?_,?_,?_,?_⟩<;>simp only[↓sU,sD,rE,↓reduceIte,rA,p0,p1,p5,p6]),by refine⟨?_,?_⟩<;>simp only[↓sU,sD,rE,↓reduceIte,rA,p7]⟩;rcases hD.2 with h | ⟨h1,h2,h3⟩
  ·exact .inl h
  ·refine .inr ⟨h1,h2,fun q' x' hx' hc'=>?_⟩;by_cases e:q'=q∧x'=x
   ·obtain⟨rfl,rfl⟩:=e;rw[hy,Ba,←h2,ea,eb]
   ·exact h3 q' x' hx' (by omega)
 ·obtain⟨u1,u2⟩:=hedge hne;refine bQ ?_;simp only[↓sU,sD,rE,↓reduceIte,rA];refine aO (by simp only[↓sU,sD,rE,↓reduceIte,rA,Ac (show av≠bv from hne)]) ?_;have xl2:=xl ⟨X.h,X.nx+16⟩ (hX.trans (Same.nx X 16));simp only at xl2;refine bQ ?_;simp only[↓sU,sD,rE,↓reduceIte,rA,p1,p5,p7,p8,aG,xi,xl2,ir,lr,xZ,iF,lT,aE9,ia];refine fJ (fun call=>by simp only[↓sU,sD,rE,↓reduceIte,rA,dN,cO];exact qL (S:=⟨X.h,X.nx+16⟩) ho (by omega)) ?_;simp only[↓sU,sD,rE,↓reduceIte,rA,aG,ib];refine fJ (fun call=>by simp only[↓sU,sD,rE,↓reduceIte,rA,dN,cO];exact qL (S:=⟨X.h.set ob (some (.cells (aP (out.set x (yB av bv))) false 0)),X.nx+16⟩) (l:=out.set x (yB av bv)) (by simp only;rw[T.get_set,if_pos rfl]) (by rw[Ap];omega)) ?_;simp only[↓sU,sD,rE,↓reduceIte,rA];refine aJ ?_;simp only[↓sU,sD,rE,↓reduceIte,rA];refine aJ ?_;simp only[↓sU,sD,rE,↓reduceIte,rA,p8,w1];refine⟨k - 1,by omega,rfl,((hX.trans (Same.nx X 16)).put hs _).put hs _,by simp only;omega,x+1,_,true,by omega,by simp only;rw[T.get_set,if_pos rfl],⟨u1,.inl ⟨rfl,?_⟩⟩,(by refine⟨?_,?_,?_,?_⟩<;>simp only[↓sU,sD,rE,↓reduceIte,rA,p0,p1,p5]),by refine⟨?_,?_⟩<;>simp only[↓sU,sD,rE,↓reduceIte,rA,p7]⟩;rcases hD.2 with h | ⟨h1,h2,h3⟩
  ·omega
  ·rw[←h2];exact u2
def aPu(S:St)(ob n:Nat)(mv:AV)(L:List (List Int))(out0:List Int)(k:Nat)(A:bH)(X:St):Prop:=A.inr=false∧Same S X∧ob<X.nx∧∃ (q:Nat) (out:List Int) (fl:Bool),q+k=L.length∧X.h.get ob=some (.cells (aP out) false 0)∧aCr n L out0 out fl q 0∧aLd ob n mv fl A.F∧aB 7 A.F= .int .i64 (q:Int)
theorem aCr.next{out0 out:List Int}{fl:Bool}{q:Nat}(h:aCr n L out0 out fl q n):aCr n L out0 out fl (q+1) 0:=⟨h.1,by
 rcases h.2 with e | ⟨h1,h2,h3⟩
 ·exact .inl e
 ·exact .inr ⟨h1,h2,fun q' x' hx' hc=>h3 q' x' hx' (by omega)⟩⟩
theorem aN2{Y:St}{F0:Fr}{out0:List Int}(hn:n≤1000000)(hm:aH 1 iX S mv L)(hL:L.length≤1000000)(hin:∀m∈L,m.length=n∧∀x,x<n→0≤m.getD x 0∧m.getD x 0<n)(hS:Same S Y)(hs:S.nx≤ob)(hol:ob<Y.nx)(ho:Y.h.get ob=some (.cells (aP out0) false 0))(hU:uM n (gJ n L) out0)(hZ:aLd ob n mv false F0)(p7:aB 7 F0= .int .i64 ((0:Nat):Int)):
  iH fns aOy ⟨F0,false⟩ Y fun o A' X=>o= .normal∧aPu S ob n mv L out0 0 A' X:=by
 refine aL (bL (aPu S ob n mv L out0) ?_ L.length _ _ ⟨rfl,hS,hol,0,out0,false,by omega,ho,⟨hU,.inr ⟨rfl,rfl,fun q' x' _ hc=>by omega⟩⟩,hZ,p7⟩);clear hZ p7 ho hol hS;rintro k ⟨F,inr⟩ X ⟨q0,hX,hol,q,out,fl,hqk,ho,hD,⟨p0,p1,p5,p6⟩,p7⟩;simp only at q0 p0 p1 p5 p6 p7;subst q0;refine gC ?_;simp only[↓sU,sD,rE,↓reduceIte,rA,p1,p7,(aH.same (E:=iX) firm_sl hm hX).len,Ag];by_cases hlt:q<L.length;rotate_left
 ·refine aN (by simp only[↓sU,sD,rE,↓reduceIte,rA,Aa (show ¬ (q:Int)<((L.length:Nat):Int) by omega)]) (bM ?_);simp only[↓sU,sD,rE,↓reduceIte,rA];obtain rfl:k=0:=by omega
  exact⟨rfl,hX,hol,q,out,fl,hqk,ho,hD,(by refine⟨?_,?_,?_,?_⟩<;>simp only[↓sU,sD,rE,↓reduceIte,rA,p0,p1,p5,p6]),by simp only[↓sU,sD,rE,↓reduceIte,rA,p7]⟩
 refine aO (by simp only[↓sU,sD,rE,↓reduceIte,rA,Ac (show(q:Int)<((L.length:Nat):Int) by omega)]) (aI ?_);try simp only[↓sU,sD,rE,↓reduceIte,rA]
 have w1:IntKind.i64.wrap ((q:Int)+1)=((q+1:Nat):Int):=by rw[wrap_i64 (by omega) (by omega)];omega
 refine aA (aL (aA (aJ ?_)));simp only[↓sU,sD,rE,↓reduceIte,rA];refine aY (aM7 (S:=S) (ob:=ob) (n:=n) (mv:=mv) (L:=L) (out0:=out0) (out1:=out) (q:=q) (fl:=fl) hn hm hin hlt hX hs hol ho hD (by refine⟨?_,?_,?_,?_⟩<;>simp only[↓sU,sD,rE,↓reduceIte,rA,p0,p1,p5,p6]) (by simp only[↓sU,sD,rE,↓reduceIte,rA,p7]) (by simp only[↓sU,sD,rE,↓reduceIte,rA];try rfl)) ?_;clear p0 p1 p5 p6 p7;rintro o ⟨F,inr⟩ X1 ⟨rfl,q0,hX1,hol1,x,out1,fl1,hxn,ho1,hD1,⟨p0,p1,p5,p6⟩,p7,_⟩;simp only at q0 p0 p1 p5 p6 p7;subst q0;obtain rfl:n=x:=by omega
 try simp only[↓sU,sD,rE,↓reduceIte,rA]
 refine aJ ?_;simp only[↓sU,sD,rE,↓reduceIte,rA,p7,w1];exact⟨k - 1,by omega,rfl,hX1,hol1,q+1,out1,fl1,by omega,ho1,hD1.next,(by refine⟨?_,?_,?_,?_⟩<;>simp only[↓sU,sD,rE,↓reduceIte,rA,p0,p1,p5,p6]),by simp only[↓sU,sD,rE,↓reduceIte,rA]⟩
end
theorem aGq{S:St}{n:Nat}(H:Has fns)(hn:n≤1000000):gH fns (.fn 143 [] []) [.int .i64 (n:Int)] S fun r S'=>mX S S' r ((List.range n).map fun k:Nat=>(k:Int))∧Same S S':=by
 refine cI H.f143 (by simp) ?_;simp only[↓aF,aE,rE,↓reduceIte,rA];refine bQ ?_;simp only[↓aF,aE,rE,↓reduceIte,rA];refine bQ ?_;simp only[↓aF,aE,rE,↓reduceIte,rA];refine gM (nK (n:=n) (by simp only[↓aF,aE,rE,↓reduceIte,rA,aG]) (by simp only[↓aF,aE,rE,↓reduceIte,rA,aG]) (by unfold room;omega) (by unfold room;omega)) ?_;intro S1 s1 n1 c1;rw[pG] at c1;simp only[↓aF,aE,rE,↓reduceIte,rA];refine aA (aY (Q:=fun o A' X=>o= .normal∧aH3 S S.nx n (fun j=>(j:Int)) (fun F i=>aB 0 F= .int .i64 (n:Int)∧aB 3 F= .sl S.nx 0 n n false∧aB 4 F= .int .i64 (i:Int)) 0 A' X) (aA (aJ ?_)) ?_)
 ·simp only[↓aF,aE,rE,↓reduceIte,rA];refine aL (bL (aH3 S S.nx n (fun j=>(j:Int)) (fun F i=>aB 0 F= .int .i64 (n:Int)∧aB 3 F= .sl S.nx 0 n n false∧aB 4 F= .int .i64 (i:Int))) ?_ n _ _ ⟨rfl,s1,by omega,0,_,by omega,Ar ..,fun j hj=>by omega,c1,by simp only[↓aF,aE,rE,↓reduceIte,rA],by simp only[↓aF,aE,rE,↓reduceIte,rA],by simp only[↓aF,aE,rE,↓reduceIte,rA];try rfl⟩);rintro k ⟨F,inr⟩ X ⟨q0,hX,hb,i,l,hik,hl,hf,hc,p0,p3,p4⟩;simp only at q0 p0 p3 p4;subst q0;refine gC ?_;simp only[↓aF,aE,rE,↓reduceIte,rA,p0,p4];by_cases hlt:i<n
  ·refine aO (by simp only[↓aF,aE,rE,↓reduceIte,rA,Ac (show(i:Int)<(n:Int) by omega)]) (aI ?_);try simp only[↓aF,aE,rE,↓reduceIte,rA]
   have w1:IntKind.i64.wrap ((i:Int)+1)=((i+1:Nat):Int):=by rw[wrap_i64 (by omega) (by omega)];omega
   have hia:=dT (b:=S.nx) (o:=false) hlt;refine aA (aL (aJ ?_));simp only[↓aF,aE,rE,↓reduceIte,rA,p3,p4,aG,hia];refine fJ (fun call=>by simp only[↓aF,aE,rE,↓reduceIte,rA,dN,cO];exact qL (S:=X) hc (by rw[hl];exact hlt)) ?_;simp only[↓aF,aE,rE,↓reduceIte,rA];refine aJ ?_;simp only[↓aF,aE,rE,↓reduceIte,rA,p4,w1];refine⟨k - 1,by omega,rfl,hX.put (Ah _) _,hb,i+1,l.set i (i:Int),by omega,by rw[Ap];exact hl,fun j hj=>?_,by simp only;rw[T.get_set,if_pos rfl],by refine⟨?_,?_,?_⟩<;>simp only[↓aF,aE,rE,↓reduceIte,rA,p0,p3]⟩;rw[fX (by rw[hl];exact hlt)];split
   ·rename_i e;rw[e]
   ·exact hf j (by omega)
  ·refine aN (by simp only[↓aF,aE,rE,↓reduceIte,rA,Aa (show ¬ (i:Int)<(n:Int) by omega)]) (bM ?_);simp only[↓aF,aE,rE,↓reduceIte,rA];have hk0:k=0:=by omega
   subst hk0;exact⟨rfl,hX,hb,i,l,hik,hl,hf,hc,by refine⟨?_,?_,?_⟩<;>simp only[↓aF,aE,rE,↓reduceIte,rA,p0,p3,p4]⟩
 rintro o ⟨F,inr⟩ X ⟨rfl,q0,hX,hb,i,l,hik,hl,hf,hc,p0,p3,p4⟩;simp only at q0 p3;subst q0;have el:l=(List.range n).map fun k:Nat=>(k:Int):=nF (by simp [hl]) fun j hj=>by
  rw[hf j (by omega),Ad,Aq,Bl (by omega)];rfl
 subst el;try simp only[↓aF,aE,rE,↓reduceIte,rA]
 refine bQ ?_;simp only[↓aF,aE,rE,↓reduceIte,rA,p3];refine aS ?_;simp only[↓aF,aE,rE,↓reduceIte,rA];exact⟨⟨S.nx,by simp,Ah _,hb,hc⟩,hX⟩
def aOS(S:St)(ob n:Nat)(mv:AV)(L:List (List Int))(k:Nat)(A:bH)(X:St):Prop:=A.inr=false∧Same S X∧ob<X.nx∧∃ (out:List Int) (fl:Bool),X.h.get ob=some (.cells (aP out) false 0)∧uM n (gJ n L) out∧((fl=true∧k=wY out+1)∨(fl=false∧k=0∧kT n (gJ n L) out))∧aLd ob n mv fl A.F
theorem aCT{S:St}{mv:AV}{n:Nat}{L:List (List Int)}(H:Has fns)(hn:n≤1000000)(hm:aH 1 iX S mv L)(hL:L.length≤1000000)(hin:∀m∈L,m.length=n∧∀x,x<n→0≤m.getD x 0∧m.getD x 0<n):
  gH fns (.fn 101 [] []) [.int .i64 (n:Int),mv] S fun r S'=>Same S S'∧∃out,mX S S' r out∧kT n (gJ n L) out:=by
 refine cI H.f101 (by simp) ?_;simp only[↓sU,sD,rE,↓reduceIte,rA];refine bQ ?_;simp only[↓sU,sD,rE,↓reduceIte,rA];refine bQ ?_;simp only[↓sU,sD,rE,↓reduceIte,rA];refine bG ?_;simp only[↓sU,sD,rE,↓reduceIte,rA];refine aX (aGq H hn) ?_;rintro _ S1 ⟨⟨ob,rfl,b1,b2,b3⟩,s1⟩;have hup:uM n (gJ n L) ((List.range n).map fun k:Nat=>(k:Int)):=aDJ;simp only[Aj,Bk];try simp only[↓sU,sD,rE,↓reduceIte,rA]
 refine aA (aY (Q:=fun o A' X=>o= .normal∧aOS S ob n mv L 0 A' X∧aB 6 A'.F= .bool false) (aA (aJ ?_)) ?_)
 ·simp only[↓sU,sD,rE,↓reduceIte,rA];refine aL (bL (aOS S ob n mv L) ?_ (wY ((List.range n).map fun k:Nat=>(k:Int))+1) _ _ ⟨rfl,s1,b2,_,true,b3,hup,.inl ⟨rfl,rfl⟩,(by refine⟨?_,?_,?_,?_⟩<;>simp only[↓sU,sD,rE,↓reduceIte,rA])⟩);clear b3 b2 hup s1;rintro k ⟨F,inr⟩ X ⟨q0,hX,hol,out,fl,ho,hU,hfl,⟨p0,p1,p5,p6⟩⟩;simp only at q0 p0 p1 p5 p6;subst q0;refine gC ?_;simp only[↓sU,sD,rE,↓reduceIte,rA,p6];rcases hfl with⟨rfl,hk⟩ | ⟨rfl,hk,hO⟩
  rotate_left
  ·subst hk;refine aN (by simp only[↓sU,sD,rE,↓reduceIte,rA]) (bM ?_);simp only[↓sU,sD,rE,↓reduceIte,rA];exact⟨⟨rfl,hX,hol,out,false,ho,hU,.inr ⟨rfl,rfl,hO⟩,(by refine⟨?_,?_,?_,?_⟩<;>simp only[↓sU,sD,rE,↓reduceIte,rA,p0,p1,p5,p6])⟩,by simp only[↓sU,sD,rE,↓reduceIte,rA,p6]⟩
  refine aO (by simp only[↓sU,sD,rE,↓reduceIte,rA]) (aI ?_);try simp only[↓sU,sD,rE,↓reduceIte,rA]
  refine aL (aA (aJ ?_));simp only[↓sU,sD,rE,↓reduceIte,rA];refine bQ ?_;simp only[↓sU,sD,rE,↓reduceIte,rA];refine aY (aN2 (S:=S) (ob:=ob) (n:=n) (mv:=mv) (L:=L) (out0:=out) hn hm hL hin hX b1 hol ho hU (by refine⟨?_,?_,?_,?_⟩<;>simp only[↓sU,sD,rE,↓reduceIte,rA,p0,p1,p5]) (by simp only[↓sU,sD,rE,↓reduceIte,rA];try rfl)) ?_;clear p0 p1 p5 p6;rintro o ⟨F,inr⟩ X1 ⟨rfl,q0,hX1,hol1,q,out1,fl1,hq,ho1,hD,hZ⟩;simp only at q0;subst q0;obtain rfl:q=L.length:=by omega
  try simp only[↓sU,sD,rE,↓reduceIte,rA]
  rcases hD.2 with⟨h1,h2⟩ | ⟨h1,h2,h3⟩
  ·subst h1;exact⟨wY out1+1,by omega,rfl,hX1,hol1,out1,true,ho1,hD.1,.inl ⟨rfl,rfl⟩,hZ.1⟩
  ·subst h1 h2;exact⟨0,by omega,rfl,hX1,hol1,out1,false,ho1,hD.1,.inr ⟨rfl,rfl,aEo hD.1 fun q x hx hq=>h3 q x hx (.inl hq)⟩,hZ.1⟩
 rintro o ⟨F,inr⟩ X ⟨rfl,⟨q0,hX,hol,out,fl,ho,hU,hfl,⟨p0,p1,p5,p6⟩⟩,p6'⟩;simp only at q0 p5 p6 p6';subst q0;have hO:kT n (gJ n L) out:=by
  rcases hfl with⟨_,h⟩ | ⟨_,_,h⟩
  ·omega
  ·exact h
 try simp only[↓sU,sD,rE,↓reduceIte,rA]
 refine bQ ?_;simp only[↓sU,sD,rE,↓reduceIte,rA,p5];refine aS ?_;simp only[↓sU,sD,rE,↓reduceIte,rA];exact⟨hX,out,⟨ob,by rw[hO.len],b1,hol,ho⟩,hO⟩
end Go.Ev.Gl
