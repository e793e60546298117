import Derived.Test.YtkklchgmpejobaaGreatDoorGl28
open Nat renaming reduceEqDiff → rE, reduceAdd → rA
set_option maxHeartbeats 16000000
set_option linter.unusedSimpArgs false
set_option linter.unusedVariables false
namespace Go.Ev.Gl
variable {fns:T cV}
def PuF(x0 x3:AV)(n rb xb:Nat)(d s i:Int)(F:Fr):Prop:=aD 0 F=x0∧aD 2 F= .int .i64 (n:Int)∧aD 3 F=x3∧aD 8 F= .sl rb 0 n n false∧aD 9 F= .int .i64 d∧aD 10 F= .ptr xb 0∧aD 12 F= .int .i64 s∧aD 13 F= .int .i64 i
noncomputable def aQD:List AO:=[mt 104 8,
mt 105 17,
mt 106 8,
mt 107 17,
om 108 12 (.iaddr (.slice 1) (.t 106) (.t 107)),
om 109 28 (ld 108),
mt 110 15,
mt 111 16,
om 112 192 (bi .quo (.t 110) (.t 111)),
om 113 508 (bi .mul (.t 109) (.t 112)),
oq 114 (.faddr 4 (.t 10)),
om 115 1024 (ld 114),
mt 116 13,
om 117 7168 (.iaddr (.slice 1) (.t 115) (.t 116)),
om 118 15360 (ld 117),
mt 119 14,
mt 120 17,
om 121 98304 (.iaddr (.slice 1) (.t 119) (.t 120)),
om 122 229376 (ld 121),
om 123 523264 (bi .mul (.t 118) (.t 122)),
mt 124 9,
mt 125 16,
om 126 3145728 (bi .quo (.t 124) (.t 125)),
om 127 8387584 (bi .mul (.t 123) (.t 126)),
om 128 16777212 (bi .add (.t 113) (.t 127)),
om 129 33554431 (.iaddr (.slice 1) (.t 104) (.t 105))]
def aQH(Y:St)(rb n:Nat)(P:List Int)(f:Nat→Int)(Z:Fr→Prop)(k:Nat)(A:bQ)(X:St):Prop:=A.inr=false∧bJ rb Y X∧∃ (q:Nat) (l:List Int),q+k=n∧l.length=n∧(∀j,j<q→l.getD j 0=f j)∧(∀j,q≤j→j<n→l.getD j 0=P.getD j 0)∧X.h.get rb=some (.cells (bG l) false 0)∧Z A.F∧aD 17 A.F= .int .i64 (q:Int)
def aPq(x0 x3 pv:AV)(n rb xb:Nat)(d s i e g:Int)(F:Fr):Prop:=PuF x0 x3 n rb xb d s i F∧aD 14 F=pv∧aD 15 F= .int .i64 e∧aD 16 F= .int .i64 g
theorem aPo{Y:St}{F0:Fr}{x0 x3 pv xa xw xp k0 k1 k2:AV}{n rb xb d e t j:Nat}{s:Int}{P p w:List Int}(ht:0<t)(hn:n≤1000)(hd:d≤1000000000000000)(he:e≤1000000000000000)
  (hr:Y.h.get rb=some (.cells (bG P) false 0)) (rl:rb<Y.nx) (hP:P.length=n) (hx:Y.h.get xb=some (.cells [k0,k1,k2,xa,xw,xp] false 0)) (xl:xb<Y.nx) (xr:xb≠rb)
  (hw:cD .i64 Y xw w) (wr:∀c,aT xw=some c→c≠rb) (hj:j<w.length) (hp:cD .i64 Y pv p) (pr:∀c,aT pv=some c→c≠rb) (hpl:p.length=n)
  (hb:∀q,q<n→(P.getD q 0 * ((e / t:Nat):Int)).natAbs≤1000000000000000000∧(w.getD j 0 * p.getD q 0).natAbs≤1000000000000000000∧(w.getD j 0 * p.getD q 0 * ((d / t:Nat):Int)).natAbs≤1000000000000000000)
  (hZ:aPq x0 x3 pv n rb xb d s j e t F0):
  lJ fns qk2 ⟨F0,false⟩ Y fun o A' X=>o= .normal∧aQH Y rb n P (fun q=>P.getD q 0 * ((e / t:Nat):Int)+w.getD j 0 * p.getD q 0 * ((d / t:Nat):Int)) (aPq x0 x3 pv n rb xb d s j e t) 0 A' X:=by
 obtain⟨⟨p0,p2,p3,p8,p9,p10,p12,p13⟩,p14,p15,p16⟩:=hZ;refine cC ?_;refine am ?_;refine aN (bT (aQH Y rb n P (fun q=>P.getD q 0 * ((e / t:Nat):Int)+w.getD j 0 * p.getD q 0 * ((d / t:Nat):Int)) (aPq x0 x3 pv n rb xb d s j e t)) ?_ n _ _ ⟨rfl,bJ.refl _ _,0,P,by omega,hP,fun j hj=>by omega,fun _ _ _=>rfl,hr,⟨(by refine⟨?_,?_,?_,?_,?_,?_,?_,?_⟩<;>simp only[↓sU,sD,rE,↓reduceIte,rA,p0,p2,p3,p8,p9,p10,p12,p13]),by refine⟨?_,?_,?_⟩<;>simp only[↓sU,sD,rE,↓reduceIte,rA,p14,p15,p16]⟩,ar⟩);clear p0 p2 p3 p8 p9 p10 p12 p13 p14 p15 p16;rintro k ⟨F,inr⟩ X ⟨q0,hX,q,l,hqk,hl,h1,h2,hrX,⟨⟨p0,p2,p3,p8,p9,p10,p12,p13⟩,p14,p15,p16⟩,p17⟩;simp only at q0 p0 p2 p3 p8 p9 p10 p12 p13 p14 p15 p16 p17;subst q0;refine iP ?_;simp only[↓sU,sD,rE,↓reduceIte,rA,p2,p17];by_cases hlt:q<n;rotate_left
 ·refine aO (by simp only[↓sU,sD,rE,↓reduceIte,rA,Aa (show ¬ (q:Int)<(n:Int) by omega)]) (bK ?_);simp only[↓sU,sD,rE,↓reduceIte,rA];obtain rfl:k=0:=by omega
  exact⟨rfl,hX,q,l,hqk,hl,h1,h2,hrX,⟨(by refine⟨?_,?_,?_,?_,?_,?_,?_,?_⟩<;>simp only[↓sU,sD,rE,↓reduceIte,rA,p0,p2,p3,p8,p9,p10,p12,p13]),by refine⟨?_,?_,?_⟩<;>simp only[↓sU,sD,rE,↓reduceIte,rA,p14,p15,p16]⟩,au p17⟩
 refine aR (by simp only[↓sU,sD,rE,↓reduceIte,rA,Ad (show(q:Int)<(n:Int) by omega)]) (aM ?_);try simp only[↓sU,sD,rE,↓reduceIte,rA]
 obtain⟨b1,b2,b3⟩:=hb q hlt;have w0:IntKind.i64.wrap ((q:Int)+1)=((q+1:Nat):Int):=by rw[wrap_i64 (by omega) (by omega)];omega
 have hlq:q<l.length:=by omega
 have hia:=iN (b:=rb) (o:=false) hlt;have hlr:=aD8 hrX hlq;rw[h2 q (Ag _) hlt] at hlr;have hxX:=(hX.2 xb xl xr).trans hx;have hwX:=eY hw hX.1 fun c hc=>hX.2 c (dG hw hc) (wr c hc);have hpX:=eY hp hX.1 fun c hc=>hX.2 c (dG hp hc) (pr c hc);have iw:=hwX.iaddr hj;have lw:=hwX.ld hj;have ip:=hpX.iaddr (show q<p.length by omega);have lp:=hpX.ld (show q<p.length by omega);have hf:(fun q=>P.getD q 0 * ((e / t:Nat):Int)+w.getD j 0 * p.getD q 0 * ((d / t:Nat):Int)) q=P.getD q 0 * ((e / t:Nat):Int)+w.getD j 0 * p.getD q 0 * ((d / t:Nat):Int):=rfl;have e1:eJ .quo (.p .int) (.int .i64 ((e:Nat):Int)) (.int .i64 ((t:Nat):Int))=some (.int .i64 ((e / t:Nat):Int)):=tK (.p .int) (by omega) (by omega) (by omega);have e2:eJ .quo (.p .int) (.int .i64 ((d:Nat):Int)) (.int .i64 ((t:Nat):Int))=some (.int .i64 ((d / t:Nat):Int)):=tK (.p .int) (by omega) (by omega) (by omega);generalize P.getD q 0=x at *;generalize p.getD q 0=y at *;generalize w.getD j 0=z at *;generalize e / t=u at *;generalize d / t=v at *;have m1:IntKind.i64.wrap (x * ((u:Nat):Int))=x * ((u:Nat):Int):=wrap_i64 (by omega) (by omega);have m2:IntKind.i64.wrap (z * y)=z * y:=wrap_i64 (by omega) (by omega);have m3:IntKind.i64.wrap (z * y * ((v:Nat):Int))=z * y * ((v:Nat):Int):=wrap_i64 (by omega) (by omega);have m4:IntKind.i64.wrap (x * ((u:Nat):Int)+z * y * ((v:Nat):Int))=x * ((u:Nat):Int)+z * y * ((v:Nat):Int):=wrap_i64 (by omega) (by omega);refine aC (aN (qQ (pre:=aQD) (K:=26) (m:=67108863) (n:=1) (x:=.t 129) (v:=.t 128) rfl rfl rfl rfl ?_));unfold aQD;simp only[↓aA,aB,rE,↓reduceIte,rA,cD.self hw,p8,p9,p10,p13,p14,p15,p16,p17,aE,aW,aF,iD hxX,aH,hia,hlr,iw,lw,ip,lp,e1,e2,m1,m2,m3,m4];simp only[cQ,aK];refine⟨_,aCg (S:=⟨X.h,X.nx+27⟩) hrX hlq,?_⟩;try simp only[↓sU,sD,rE,↓reduceIte,rA]
 refine aG ?_;simp only[↓sU,sD,rE,↓reduceIte,rA,p17,w0];refine⟨k - 1,by omega,rfl,(hX.nx 27).put _,q+1,l.set q (x * ((u:Nat):Int)+z * y * ((v:Nat):Int)),by omega,by rw[Bm];exact hl,fun i hi=>?_,fun i hi hi2=>?_,by simp only;rw[T.get_set,if_pos rfl],⟨(by refine⟨?_,?_,?_,?_,?_,?_,?_,?_⟩<;>simp only[↓sU,sD,rE,↓reduceIte,rA,p0,p2,p3,p8,p9,p10,p12,p13]),by refine⟨?_,?_,?_⟩<;>simp only[↓sU,sD,rE,↓reduceIte,rA,p14,p15,p16]⟩,aq⟩
 ·rw[fH hlq];split
  ·rename_i e;rw[e];exact hf.symm
  ·exact h1 i (by omega)
 ·rw[fH hlq,if_neg (by omega)];exact h2 i (by omega) hi2
theorem aER{x:Int}:∀ {l:List Int} {d:Nat},fS d (l++ [x])=Nat.gcd (fS d l) x.natAbs
 | [],d=>rfl
 | y::l,d=>aER (l:=l) (d:=Nat.gcd d y.natAbs)
theorem aIJ{l:List Int}{d:Nat}(h:0<d):fS d l≤d:=Nat.le_of_dvd h tO.1
def GcI(Y:St)(n d:Nat)(P:List Int)(Z:Fr→Prop)(k:Nat)(A:bQ)(X:St):Prop:=A.inr=false∧Same Y X∧∃ (q:Nat),q+k=n∧Z A.F∧aD 18 A.F= .int .i64 ((fS d (P.take q):Nat):Int)∧aD 19 A.F= .int .i64 (q:Int)
theorem aN2{Y:St}{F0:Fr}{x0 x3:AV}{n rb xb d:Nat}{s i:Int}{P:List Int}(H:Has fns)(hd:0<d)(hd2:d≤10000000000000000)(hn:n≤1000)(hr:Y.h.get rb=some (.cells (bG P) false 0))(rl:rb<Y.nx)(hP:P.length=n)
  (hb:∀q,q<n→(P.getD q 0).natAbs≤1000000000000000000) (hZ:PuF x0 x3 n rb xb d s i F0) (p18:aD 18 F0= .int .i64 (d:Int)):
  lJ fns qk0 ⟨F0,false⟩ Y fun o A' X=>o= .normal∧GcI Y n d P (PuF x0 x3 n rb xb d s i) 0 A' X:=by
 obtain⟨p0,p2,p3,p8,p9,p10,p12,p13⟩:=hZ;refine cC ?_;refine am ?_;refine aN (bT (GcI Y n d P (PuF x0 x3 n rb xb d s i)) ?_ n _ _ ⟨rfl,Same.refl _,0,by omega,(by refine⟨?_,?_,?_,?_,?_,?_,?_,?_⟩<;>simp only[↓sU,sD,rE,↓reduceIte,rA,p0,p2,p3,p8,p9,p10,p12,p13]),by simp only[↓sU,sD,rE,↓reduceIte,rA,p18];try rfl,ar⟩);clear p0 p2 p3 p8 p9 p10 p12 p13 p18;rintro k ⟨F,inr⟩ X ⟨q0,hX,q,hqk,⟨p0,p2,p3,p8,p9,p10,p12,p13⟩,p18,p19⟩;simp only at q0 p0 p2 p3 p8 p9 p10 p12 p13 p18 p19;subst q0;refine iP ?_;simp only[↓sU,sD,rE,↓reduceIte,rA,p2,p19];by_cases hlt:q<n;rotate_left
 ·refine aO (by simp only[↓sU,sD,rE,↓reduceIte,rA,Aa (show ¬ (q:Int)<(n:Int) by omega)]) (bK ?_);simp only[↓sU,sD,rE,↓reduceIte,rA];obtain rfl:k=0:=by omega
  exact⟨rfl,hX,q,hqk,(by refine⟨?_,?_,?_,?_,?_,?_,?_,?_⟩<;>simp only[↓sU,sD,rE,↓reduceIte,rA,p0,p2,p3,p8,p9,p10,p12,p13]),by refine⟨?_,?_⟩<;>simp only[↓sU,sD,rE,↓reduceIte,rA,p18,p19]⟩
 refine aR (by simp only[↓sU,sD,rE,↓reduceIte,rA,Ad (show(q:Int)<(n:Int) by omega)]) (aM ?_);try simp only[↓sU,sD,rE,↓reduceIte,rA]
 have b1:=hb q hlt;have w0:IntKind.i64.wrap ((q:Int)+1)=((q+1:Nat):Int):=by rw[wrap_i64 (by omega) (by omega)];omega
 have hlq:q<P.length:=by omega
 have hia:=iN (b:=rb) (o:=false) hlt;have hlr:=aD8 ((hX.2 _ rl).trans hr) hlq;have hg:=aIJ (l:=P.take q) hd;have htk:P.take (q+1)=P.take q++ [P.getD q 0]:=by
  rw[Bw,Ab hlq,Ae,Ab hlq];rfl
 refine aC (aN (aG ?_));simp only[↓sU,sD,rE,↓reduceIte,rA,p8,p18,p19,aH,hia,hlr];refine aY ?_;refine am ?_;refine aP (aEy H (x:=((fS d (P.take q):Nat):Int)) (y:=P.getD q 0) (by omega) (by omega)) ?_;rintro _ X1 ⟨rfl,hX1⟩;rw[Dr,←aER,←htk];try simp only[↓sU,sD,rE,↓reduceIte,rA]
 refine aG ?_;simp only[↓sU,sD,rE,↓reduceIte,rA,p19,w0];exact⟨k - 1,by omega,rfl,hX.trans hX1,q+1,by omega,(by refine⟨?_,?_,?_,?_,?_,?_,?_,?_⟩<;>simp only[↓sU,sD,rE,↓reduceIte,rA,p0,p2,p3,p8,p9,p10,p12,p13]),by refine⟨?_,?_⟩<;>simp only[↓sU,sD,rE,↓reduceIte,rA]⟩
def aQ7(Y:St)(rb n:Nat)(P:List Int)(f:Nat→Int)(Z:Fr→Prop)(k:Nat)(A:bQ)(X:St):Prop:=A.inr=false∧bJ rb Y X∧∃ (q:Nat) (l:List Int),q+k=n∧l.length=n∧(∀j,j<q→l.getD j 0=f j)∧(∀j,q≤j→j<n→l.getD j 0=P.getD j 0)∧X.h.get rb=some (.cells (bG l) false 0)∧Z A.F∧aD 20 A.F= .int .i64 (q:Int)
def aPM(n rb:Nat)(d g:Int)(F:Fr):Prop:=aD 2 F= .int .i64 (n:Int)∧aD 8 F= .sl rb 0 n n false∧aD 9 F= .int .i64 d∧aD 18 F= .int .i64 g
theorem aPG{Y:St}{F0:Fr}{n rb d t:Nat}{P:List Int}(ht:0<t)(hn:n≤1000)(hr:Y.h.get rb=some (.cells (bG P) false 0))(hP:P.length=n)
  (hb:∀q,q<n→(P.getD q 0).natAbs≤1000000000000000000) (hZ:aPM n rb d t F0):
  lJ fns qk1 ⟨F0,false⟩ Y fun o A' X=>o= .normal∧aQ7 Y rb n P (fun q=>(P.getD q 0).tdiv ((t:Nat):Int)) (aPM n rb d t) 0 A' X:=by
 obtain⟨p2,p8,p9,p18⟩:=hZ;refine cC ?_;refine am ?_;refine aN (bT (aQ7 Y rb n P (fun q=>(P.getD q 0).tdiv ((t:Nat):Int)) (aPM n rb d t)) ?_ n _ _ ⟨rfl,bJ.refl _ _,0,P,by omega,hP,fun j hj=>by omega,fun _ _ _=>rfl,hr,(by refine⟨?_,?_,?_,?_⟩<;>simp only[↓sU,sD,rE,↓reduceIte,rA,p2,p8,p9,p18]),ar⟩);clear p2 p8 p9 p18;rintro k ⟨F,inr⟩ X ⟨q0,hX,q,l,hqk,hl,h1,h2,hrX,⟨p2,p8,p9,p18⟩,p20⟩;simp only at q0 p2 p8 p9 p18 p20;subst q0;refine iP ?_;simp only[↓sU,sD,rE,↓reduceIte,rA,p2,p20];by_cases hlt:q<n;rotate_left
 ·refine aO (by simp only[↓sU,sD,rE,↓reduceIte,rA,Aa (show ¬ (q:Int)<(n:Int) by omega)]) (bK ?_);simp only[↓sU,sD,rE,↓reduceIte,rA];obtain rfl:k=0:=by omega
  exact⟨rfl,hX,q,l,hqk,hl,h1,h2,hrX,(by refine⟨?_,?_,?_,?_⟩<;>simp only[↓sU,sD,rE,↓reduceIte,rA,p2,p8,p9,p18]),au p20⟩
 refine aR (by simp only[↓sU,sD,rE,↓reduceIte,rA,Ad (show(q:Int)<(n:Int) by omega)]) (aM ?_);try simp only[↓sU,sD,rE,↓reduceIte,rA]
 have b1:=hb q hlt;have w0:IntKind.i64.wrap ((q:Int)+1)=((q+1:Nat):Int):=by rw[wrap_i64 (by omega) (by omega)];omega
 have hlq:q<l.length:=by omega
 have hia:=iN (b:=rb) (o:=false) hlt;have hlr:=aD8 hrX hlq;rw[h2 q (Ag _) hlt] at hlr;have hf:(fun q=>(P.getD q 0).tdiv ((t:Nat):Int)) q=(P.getD q 0).tdiv ((t:Nat):Int):=rfl;have b2:((P.getD q 0).tdiv ((t:Nat):Int)).natAbs≤1000000000000000000:=by
  rw[Int.natAbs_tdiv];exact Ap (Ff _ _) b1
 generalize P.getD q 0=x at *;have e1:eJ .quo (.p .int) (.int .i64 x) (.int .i64 ((t:Nat):Int))=some (.int .i64 (x.tdiv ((t:Nat):Int))):=by
  rw[aEG (.p .int) (by omega),wrap_i64 (by omega) (by omega)]
 refine aC (aN (aG ?_));simp only[↓sU,sD,rE,↓reduceIte,rA,p8,p18,p20,aH,hia,hlr,e1];refine eR (fun call=>by simp only[↓sU,sD,rE,↓reduceIte,rA,dD,cQ];exact aCg (S:=X) hrX hlq) ?_;refine am ?_;refine aG ?_;simp only[↓sU,sD,rE,↓reduceIte,rA,p20,w0];refine⟨k - 1,by omega,rfl,hX.put _,q+1,l.set q (x.tdiv ((t:Nat):Int)),by omega,by rw[Bm];exact hl,fun i hi=>?_,fun i hi hi2=>?_,by simp only;rw[T.get_set,if_pos rfl],(by refine⟨?_,?_,?_,?_⟩<;>simp only[↓sU,sD,rE,↓reduceIte,rA,p2,p8,p9,p18]),aq⟩
 ·rw[fH hlq];split
  ·rename_i e;rw[e];exact hf.symm
  ·exact h1 i (by omega)
 ·rw[fH hlq,if_neg (by omega)];exact h2 i (by omega) hi2
def aJA(g:bH)(T:List dH)(c:List Int)(f i n:Nat)(S:St)(r:AV)(S':St):Prop:=Same S S'∧∃ (v:AV) (P:List Int) (d:Nat),r= .tup [v,.int .i64 (d:Int)]∧cD .i64 S' v P∧(∀c,aT v=some c→S.nx≤c)∧aGs (fun q=>aAh g c q f i) n P d∧d * d≤6 ^ (qV T i - 1)∧∀q,q<n→(P.getD q 0).natAbs≤3 * d
def aQJ(S:St)(g:bH)(T:List dH)(c:List Int)(f i n rb xb:Nat)(x0 x3 xa xw xp k0 k1 k2:AV)(k:Nat)(A:bQ)(X:St):Prop:=A.inr=false∧Same S X∧rb<X.nx∧xb<X.nx∧X.h.get xb=some (.cells [k0,k1,k2,xa,xw,xp] false 0)∧∃ (j:Nat) (P:List Int) (d:Nat) (s:Int),j+k=(nodeAt g i).next.length∧aNj g T c f i n j P d s∧(j:Int)≤s∧s≤3 * (j:Int)∧X.h.get rb=some (.cells (bG P) false 0)∧PuF x0 x3 n rb xb d s j A.F
theorem aM6{a D:Nat}(h:a≤9)(hD:D≤609359740010496):3 * a * D≤20000000000000000:=by
 have:=Et (show 3 * a≤27 by omega) hD;omega
theorem aOu{S Y:St}{F0:Fr}{g:bH}{T:List dH}{c:List Int}{f i n rb xb:Nat}{x0 x3 xa xw xp k0 k1 k2:AV}(H:Has fns)(G:aIM g)(hT:lN g=some T)(hTl:T.length=g.nodes.length)(hi:i<g.nodes.length)(hk:(nodeAt g i).kind=1)(n40:g.nodes.length≤40){nx:List Int}(hnx:nx.length=(nodeAt g i).next.length)
  (hw3:∀w∈(nodeAt g i).weights,1≤w∧w≤3) (h3:(nodeAt g i).next.length≤3) (hn:n≤4) (hxa:cD .i64 S xa nx) (hxw:cD .i64 S xw (nodeAt g i).weights)
  (hS:Same S Y) (hr:Y.h.get rb=some (.cells (bG (List.replicate n 0)) false 0)) (rl:rb<Y.nx) (rs:S.nx≤rb) (hx:Y.h.get xb=some (.cells [k0,k1,k2,xa,xw,xp] false 0)) (xl:xb<Y.nx) (xs:S.nx≤xb) (xr:xb≠rb)
  (hrec:∀j,j<(nodeAt g i).next.length→∀X,Same S X→fR fns (.fn 13 [] []) [x0,.int .i64 (nx.getD j 0),.int .i64 (n:Int),x3] X (aJA g T c f ((nodeAt g i).next.getD j 0).toNat n X))
  (hZ:aD 0 F0=x0∧aD 2 F0= .int .i64 (n:Int)∧aD 3 F0=x3∧aD 8 F0= .sl rb 0 n n false∧aD 9 F0= .int .i64 1∧aD 10 F0= .ptr xb 0∧aD 12 F0= .int .i64 0):
  lJ fns qk5 ⟨F0,false⟩ Y fun o A' X=>o= .normal∧aQJ S g T c f i n rb xb x0 x3 xa xw xp k0 k1 k2 0 A' X:=by
 obtain⟨p0,p2,p3,p8,p9,p10,p12⟩:=hZ;refine cC ?_;refine am ?_;refine aN (bT (aQJ S g T c f i n rb xb x0 x3 xa xw xp k0 k1 k2) ?_ (nodeAt g i).next.length _ _ ⟨rfl,hS,rl,xl,hx,0,_,1,0,by omega,aLf,by omega,by omega,hr,⟨au p0,au p2,au p3,au p8,by simp only[↓sU,sD,rE,↓reduceIte,rA,p9];try rfl,au p10,au p12,ar⟩⟩);clear p0 p2 p3 p8 p9 p10 p12 hr rl hx xl hS;rintro k ⟨F,inr⟩ X ⟨q0,hX,rl,xl,hx,j,P,d,s,hjk,hA,hs1,hs2,hr,⟨p0,p2,p3,p8,p9,p10,p12,p13⟩⟩;simp only at q0 p0 p2 p3 p8 p9 p10 p12 p13;subst q0;have hxaX:=hxa.same hX;refine iP ?_;simp only[↓sU,sD,rE,↓reduceIte,rA,p10,p13,aE,aF,gE hx,hxaX.len,hnx,Ak];by_cases hj:j<(nodeAt g i).next.length;rotate_left
 ·refine aO (by simp only[↓sU,sD,rE,↓reduceIte,rA,Aa (show ¬ (j:Int)<(((nodeAt g i).next.length:Nat):Int) by omega)]) (bK ?_);simp only[↓sU,sD,rE,↓reduceIte,rA];obtain rfl:k=0:=by omega
  exact⟨rfl,hX,rl,xl,hx,j,P,d,s,hjk,hA,hs1,hs2,hr,(by refine⟨?_,?_,?_,?_,?_,?_,?_,?_⟩<;>simp only[↓sU,sD,rE,↓reduceIte,rA,p0,p2,p3,p8,p9,p10,p12,p13])⟩
 refine aR (by simp only[↓sU,sD,rE,↓reduceIte,rA,Ad (show(j:Int)<(((nodeAt g i).next.length:Nat):Int) by omega)]) (aM ?_);try simp only[↓sU,sD,rE,↓reduceIte,rA]
 have w1:IntKind.i64.wrap ((j:Int)+1)=((j+1:Nat):Int):=by rw[wrap_i64 (by omega) (by omega)];omega
 have hiac:=hxaX.iaddr (show j<nx.length by omega);have hlac:=hxaX.ld (show j<nx.length by omega);have hrj:=hrec j hj;obtain⟨b1,b2⟩:=G.good.kids i hi j hj;have hexp:=aFI G.good hT hTl hi;have hsz:=aFN hT hTl hi;have hexj:aCe T g i (j+1)≤aCe T g i (nodeAt g i).next.length:=aAY (by omega);have hej:aCe T g i j≤aCe T g i (nodeAt g i).next.length:=aAY (by omega);have hszc:=aFN hT hTl (i:=((nodeAt g i).next.getD j 0).toNat) (by omega);have hwl:=G.good.wts i hi hk;have hjw:j<(nodeAt g i).weights.length:=by omega
 obtain⟨wj,hwj⟩:∃w,(nodeAt g i).weights.getD j 0=w:=⟨_,rfl⟩;have hwb:1≤wj∧wj≤3:=by
  have:=hw3 (nodeAt g i).weights[j] (Br hjw);rw[Ae,Ab hjw] at hwj;rw[←hwj];exact this
 have hstep:=@aGa g T c P;refine aC (aN (aC (aG ?_)));simp only[↓sU,sD,rE,↓reduceIte,rA,p0,p2,p3,p10,p13,aE,aF,gE hx,aH,hiac,hlac];refine aY ?_;refine am ?_;refine aP (hrj X hX) ?_;rintro _ X1 ⟨x1,pv,p,e,rfl,hp,hpn,hlow,hle,hpb⟩;simp only[↓sU,sD,rE,↓reduceIte,rA,ex0,ex1];have hd29:=aOV (n:=aCe T g i j) (by omega) hA.le;have he29:=aOV (by omega) hle;obtain⟨a1,a2,a3,a4⟩:=aGa hA hlow hle hpb hwj.symm (by omega) (by omega);have hD29:=aOV (n:=aCe T g i (j+1)) (by omega) a2;have hdp:=hA.pos;have hep:=hlow.pos;have hgp:0<Nat.gcd d e:=Nat.gcd_pos_of_pos_left _ hdp;have hPl:=hA.len;have hpl:=hlow.len;clear hiac hlac hrj hexp hsz hexj hej hszc a2 hle;refine cC ?_;simp only[↓sU,sD,rE,↓reduceIte,rA,p9];refine aY ?_;refine am ?_;refine aP (aEy H (x:=((d:Nat):Int)) (y:=((e:Nat):Int)) (by omega) (by omega)) ?_;rintro _ X2 ⟨rfl,x2⟩;rw[Dr,Dr];try simp only[↓sU,sD,rE,↓reduceIte,rA]
 have sX2:=hX.trans (x1.trans x2);have rl2:rb<X2.nx:=Ah rl (x1.trans x2).1;have xl2:xb<X2.nx:=Ah xl (x1.trans x2).1;have hr2:=((x1.trans x2).2 _ rl).trans hr;have hx2:=((x1.trans x2).2 _ xl).trans hx;have hp2:=hp.same x2;have hpr:∀c,aT pv=some c→c≠rb:=fun c hc=>by have:=hpn c hc;omega
 have hwr:∀c,aT xw=some c→c≠rb:=fun c hc=>by have:=dG hxw hc;omega
 have hbq:∀q,q<n→(P.getD q 0 * ((e / Nat.gcd d e:Nat):Int)).natAbs≤1000000000000000000∧((nodeAt g i).weights.getD j 0 * p.getD q 0).natAbs≤1000000000000000000∧((nodeAt g i).weights.getD j 0 * p.getD q 0 * ((d / Nat.gcd d e:Nat):Int)).natAbs≤1000000000000000000:=fun q hq=>by
  obtain⟨c1,c2,c3⟩:=a3 q hq;rw[hwj];have m1:=aM6 (a:=s.toNat) (by omega) hD29;have m2:=aM6 (a:=wj.toNat) (by omega) hD29;exact⟨by omega,by omega,by omega⟩
 refine aC (bD (aPo (x0:=x0) (x3:=x3) (pv:=pv) (d:=d) (e:=e) (t:=Nat.gcd d e) (j:=j) (s:=s) (w:=(nodeAt g i).weights) (p:=p) (P:=P) hgp (by omega) (by omega) (by omega) hr2 rl2 hPl hx2 xl2 xr (hxw.same sX2) hwr hjw hp2 hpr hpl hbq ⟨(by refine⟨?_,?_,?_,?_,?_,?_,?_,?_⟩<;>simp only[↓sU,sD,rE,↓reduceIte,rA,p0,p2,p3,p8,p9,p10,p12,p13]),by refine⟨?_,?_,?_⟩<;>simp only[↓sU,sD,rE,↓reduceIte,rA]⟩) ?_);clear p0 p2 p3 p8 p9 p10 p12 p13;rintro o ⟨F,inr⟩ X3 ⟨rfl,q0,x3',q,P',hqn,hPl',hPq,_,hr3,⟨⟨p0,p2,p3,p8,p9,p10,p12,p13⟩,p14,p15,p16⟩,_⟩;simp only at q0 p0 p2 p3 p8 p9 p10 p12 p13 p14 p15 p16;subst q0;obtain rfl:n=q:=by omega
 have hA':=a4 P' hPl' fun q hq=>by rw[hPq q hq,hwj]
 have sX3:Same S X3:=bJ.same sX2 x3' rs;have hx3:=(x3'.2 _ xl2 xr).trans hx2;have rl3:rb<X3.nx:=Ah rl2 x3'.1;have xl3:xb<X3.nx:=Ah xl2 x3'.1;have iw:=(hxw.same sX3).iaddr hjw;have lw:=(hxw.same sX3).ld hjw;rw[hwj] at lw;have e2:eJ .quo (.p .int) (.int .i64 ((d:Nat):Int)) (.int .i64 ((Nat.gcd d e:Nat):Int))=some (.int .i64 ((d / Nat.gcd d e:Nat):Int)):=tK (.p .int) (by omega) (by omega) (by omega);have w2:IntKind.i64.wrap (((d / Nat.gcd d e:Nat):Int) * ((e:Nat):Int))=((d / Nat.gcd d e * e:Nat):Int):=by
  rw[←Fv];exact wrap_i64 (by omega) (by omega)
 have w3:IntKind.i64.wrap (s+wj)=s+wj:=wrap_i64 (by omega) (by omega);try simp only[↓sU,sD,rE,↓reduceIte,rA]
 refine cC ?_;simp only[↓sU,sD,rE,↓reduceIte,rA,p9,p15,p16,e2,w2];refine aG ?_;simp only[↓sU,sD,rE,↓reduceIte,rA,p10,p12,p13,aE,aF,iD hx3,aH,iw,lw,w3];refine aG ?_;simp only[↓sU,sD,rE,↓reduceIte,rA,p13,w1];exact⟨k - 1,by omega,rfl,sX3,rl3,xl3,hx3,j+1,P',_,s+wj,by omega,hA',by omega,by omega,hr3,(by refine⟨?_,?_,?_,?_,?_,?_,?_,?_⟩<;>simp only[↓sU,sD,rE,↓reduceIte,rA,p0,p2,p3,p8,p10])⟩
structure aAp(g m:bH)(cl:Nat→Nat)(T:List dH)(n:Nat):Prop where
 lt:∀v,v<g.nodes.length→cl v<m.nodes.length
 at_:∀v,v<g.nodes.length→nodeAt m (cl v)= {nodeAt g v with next:=(nodeAt g v).next.map fun c=>((cl c.toNat:Nat):Int)}
 G:aIM g
 walk:lN g=some T
 len:T.length=g.nodes.length
 n40:g.nodes.length≤40
 pl:g.players=(n:Int)
 ok:∀x∈g.nodes,mF g.players g.infos x
theorem aAp.chn{g m:bH}{cl:Nat→Nat}{T:List dH}{n i:Nat}(h:aAp g m cl T n)(hi:i<g.nodes.length)(hk:(nodeAt g i).kind=1):aQG (nodeAt g i):=by
 rcases h.ok _ (Aq (dI hi)) with e | e | e
 ·have:=e.kind;omega
 ·exact e
 ·have:=e.kind;omega
theorem aAp.ends{g m:bH}{cl:Nat→Nat}{T:List dH}{n i:Nat}(h:aAp g m cl T n)(hi:i<g.nodes.length)(hk:(nodeAt g i).kind=3):aNB g.players (nodeAt g i):=by
 rcases h.ok _ (Aq (dI hi)) with e | e | e
 ·exact e
 ·have:=e.kind;omega
 ·have:=e.kind;omega
theorem aBs{g m:bH}{cl:Nat→Nat}{T:List dH}{c:List Int}{n:Nat}(H:Has fns)(h:aAp g m cl T n):∀ {f i:Nat} {S:St} {nv cv:AV},i<g.nodes.length→g.nodes.length≤i+f→bB 6 dJ S nv m.nodes→cD .i64 S cv c→
  fR fns (.fn 13 [] []) [nv,.int .i64 ((cl i:Nat):Int),.int .i64 (n:Int),cv] S (aJA g T c f i n S)
 | 0,i,S,nv,cv,hi,hf,_,_=>absurd hi (by omega)
 | f+1,i,S,nv,cv,hi,hf,hn,hc=>by
  have G:=h.G;have hn4:=G.prs;have hpl:=h.pl;have n40:=h.n40;have hnd:=dI (h.lt i hi);rw[h.at_ i hi] at hnd;obtain⟨nx,hnx⟩:∃nx,(nodeAt g i).next.map (fun c=>((cl c.toNat:Nat):Int))=nx:=⟨_,rfl⟩;rw[hnx] at hnd;have hnl:nx.length=(nodeAt g i).next.length:=by rw[←hnx,Az]
  have hng:∀j,j<(nodeAt g i).next.length→nx.getD j 0=((cl ((nodeAt g i).next.getD j 0).toNat:Nat):Int):=fun j hj=>by
   rw[←hnx,Ae,Be,Ab hj,Ae,Ab hj];rfl
  clear hnx;have ih:∀j,j<(nodeAt g i).next.length→∀X,Same S X→fR fns (.fn 13 [] []) [nv,.int .i64 (nx.getD j 0),.int .i64 (n:Int),cv] X (aJA g T c f ((nodeAt g i).next.getD j 0).toNat n X):=fun j hj X hX=>by
   obtain⟨b1,b2⟩:=G.good.kids i hi j hj;have:=aBs (f:=f) (i:=((nodeAt g i).next.getD j 0).toNat) (S:=X) H h (by omega) (by omega) (bB.same (E:=dJ) cT hn hX) (hc.same hX)
   rwa [←hng j hj] at this
  obtain⟨_,bx,qx,hiax,hbx,_,⟨xa,xw,xp,rfl,hxa,hxw,hxp⟩,hldx,_⟩:=bB.at hn (by decide) hnd;simp only at hldx hxa hxw hxp;refine cE H.f13 (by simp) ?_;refine am ?_;refine cC ?_;refine am ?_;refine cC ?_;simp only[↓aA,aB,rE,↓reduceIte,rA,aH,hiax,hldx];refine cR ?_;intro W1 v1 k1 h1;refine fC (b:=S.nx) (ai) (by simp only[↓aA,aB,rE,↓reduceIte,rA];exact bM _) h1 rfl rfl ?_;intro Y v2 k2 h2;simp only[↓aA,aB,rE,↓reduceIte,rA];have sY:Same S Y:=v2.same v1 (Ag _);have lxY:S.nx<Y.nx:=by omega
  clear v1 v2 h1 k1;have hxaY:=hxa.same sY;have hxpY:=hxp.same sY;have hcY:=hc.same sY;refine aC (bD (Q:=fun o A' Z=>(o= .normal∧A'.inr=false∧Z=Y∧(nodeAt g i).kind=1∧aD 0 A'.F=nv∧aD 2 A'.F= .int .i64 (n:Int)∧aD 3 A'.F=cv∧aD 10 A'.F= .ptr S.nx 0)∨(o= .ret∧∃r0 r1,aD 8 A'.F=r0∧aD 9 A'.F=r1∧aJA g T c (f+1) i n S (.tup [r0,r1]) Z)) (aC (aG ?_)) ?_)
  ·simp only[↓sU,sD,rE,↓reduceIte,rA,aE,aF,gT h2];by_cases hk3:(nodeAt g i).kind=3
   ·have hE:=h.ends hi hk3;have hpn:(nodeAt g i).pay.length=n:=by have:=G.pay i hi hk3;omega
    refine aN (aC (aG ?_));simp only[↓sU,sD,rE,↓reduceIte,rA,Ad hk3];refine aR (aq) ?_;refine cC ?_;refine ah ?_;refine fX aAE ?_;intro Y1 y1 m1 b1;have h21:=(y1.2 _ lxY).trans h2;obtain⟨r,Y2,eA,y2,hr⟩:=aCw b1 (hxpY.same y1) (by omega);simp only[↓aA,aB,rE,↓reduceIte,rA,aE,aF,jJ h21];refine eR (fun call=>by simp only[↓aA,aB,rE,↓reduceIte,rA,fJ];exact eA) ?_;refine am ?_;refine aU ?_;refine .inr ⟨rfl,r,.int .i64 ((1:Nat):Int),aq,ar,?_⟩;rcases hr with⟨e1,_⟩ | ⟨hG,_⟩
    ·rw[e1] at hpn;simp only[Bo] at hpn;omega
    ·refine⟨(sY.trans y1).trans y2,r,(nodeAt g i).pay,1,rfl,hG.is,fun b hb=>?_,⟨hpn,Nat.one_pos,fun q hq=>?_,?_⟩,Nat.pow_pos (by decide),fun q hq=>?_⟩
     ·have:=y1.1;rcases hG with⟨_,h0,_⟩ | ⟨b',rfl,h1,_⟩
      ·omega
      ·cases hb;omega
     ·simp only[aAh];rw[if_pos hk3];show _=_ * (((1:Int)):Rat);rw[show(((1:Int)):Rat)=1 from rfl,Rat.mul_one]
     ·have:=tO (l:=(nodeAt g i).pay) (d:=1);exact Nat.dvd_one.1 this.1
     ·have:=hE.pay ((nodeAt g i).pay.getD q 0) (by
       rw[Ae,Ab (by omega)];exact Br (by omega))
      omega
   ·refine aN (aC (aG ?_));simp only[↓sU,sD,rE,↓reduceIte,rA,Aa hk3];refine aO (aq) ?_;refine cC ?_;simp only[↓sU,sD,rE,↓reduceIte,rA];by_cases hk2:(nodeAt g i).kind=2;rotate_left
    ·refine aO (by simp only[↓sU,sD,rE,↓reduceIte,rA,Aa hk2]) (aM ?_);have hk1:(nodeAt g i).kind=1:=by rcases G.knd i hi with e | e | e<;>first | exact e | exact absurd e hk2 | exact absurd e hk3
     exact .inl ⟨rfl,rfl,rfl,hk1,by refine⟨?_,?_,?_,?_⟩<;>simp only[↓sU,sD,rE,↓reduceIte,rA]⟩
    refine aR (by simp only[↓sU,sD,rE,↓reduceIte,rA,Ad hk2]) ?_;obtain⟨a1,a2,a3⟩:=G.good.inf i hi hk2;have hm1:=G.mov i hi hk2;obtain⟨m,hm⟩:∃m:Nat,(nodeAt g i).info=(m:Int):=⟨(nodeAt g i).info.toNat,by omega⟩;refine cC ?_;simp only[↓sU,sD,rE,↓reduceIte,rA];have hval:aAh g c=fun q f' i'=>aAh g c q f' i':=rfl;refine aC (bD (Q:=fun o A' Z=>o= .normal∧A'.inr=false∧Same Y Z∧aD 0 A'.F=nv∧aD 2 A'.F= .int .i64 (n:Int)∧aD 3 A'.F=cv∧aD 10 A'.F= .ptr S.nx 0∧aD 11 A'.F= .int .i64 ((aAJ c (nodeAt g i):Nat):Int)) ?_ ?_)
    ·have hld2:=gR h2;rw[hm] at hld2;by_cases hlt:m<c.length;rotate_left
     ·have e:aAJ c (nodeAt g i)=0:=by unfold aAJ;rw[hm,if_neg (by omega)]
      rw[e];refine aC (kO ?_);simp only[↓sU,sD,rE,↓reduceIte,rA,aE,aW,aF,hld2,hcY.len,Ak,fV,Aa (show ¬ (m:Int)<((c.length:Nat):Int) by omega),mL,iJ,jE,aQ];refine aO (aq) (aM ?_);exact⟨rfl,rfl,Same.nx Y _,aq,aq,aq,aq,ar⟩
     have hia:=hcY.iaddr hlt;have hla:=hcY.ld hlt;have hmn:(nodeAt g i).info.toNat=m:=by omega
     have hpk:aAJ c (nodeAt g i)=if 0≤c.getD m 0∧c.getD m 0<(((nodeAt g i).next.length:Nat):Int) then(c.getD m 0).toNat else 0:=by
      unfold aAJ;rw[hmn];by_cases hc0:0≤c.getD m 0∧c.getD m 0<(((nodeAt g i).next.length:Nat):Int)
      ·rw[if_pos hc0,if_pos ⟨by omega,hc0.1,hc0.2⟩]
      ·rw[if_neg hc0,if_neg (fun e=>hc0 ⟨e.2.1,e.2.2⟩)]
     rw[hpk];generalize c.getD m 0=z at *;by_cases hz0:0≤z;rotate_left
     ·rw[if_neg (by omega)];refine aC (kO ?_);simp only[↓sU,sD,rE,↓reduceIte,rA,aE,aW,aF,hld2,hcY.len,Ak,fV,Ad (show(m:Int)<((c.length:Nat):Int) by omega),aH,hia,hla,Aa (show ¬z≥0 by omega),mL,iJ,jE,aL,aQ];refine aO (aq) (aM ?_);exact⟨rfl,rfl,Same.nx Y _,aq,aq,aq,aq,ar⟩
     by_cases hz1:z<(((nodeAt g i).next.length:Nat):Int);rotate_left
     ·rw[if_neg (by omega)];refine aC (kO ?_);simp only[↓sU,sD,rE,↓reduceIte,rA,aE,aW,aF,hld2,gE h2,cD.self hxaY,hcY.len,hxaY.len,hnl,Ak,fV,Ad (show(m:Int)<((c.length:Nat):Int) by omega),aH,hia,hla,Ad (show z≥0 by omega),Aa hz1,mL,iJ,jE,aL,aQ];refine aO (aq) (aM ?_);exact⟨rfl,rfl,Same.nx Y _,aq,aq,aq,aq,ar⟩
     rw[if_pos ⟨hz0,hz1⟩,Int.toNat_of_nonneg hz0];refine aC (kO ?_);simp only[↓sU,sD,rE,↓reduceIte,rA,aE,aW,aF,hld2,gE h2,cD.self hxaY,hcY.len,hxaY.len,hnl,Ak,fV,Ad (show(m:Int)<((c.length:Nat):Int) by omega),aH,hia,hla,Ad (show z≥0 by omega),Ad hz1,mL,iJ,jE,aL,aQ];refine aR (aq) ?_;refine aG ?_;simp only[↓sU,sD,rE,↓reduceIte,rA,aE,aF,hld2,aH,hia,hla];exact Same.nx Y _
    rintro o ⟨F,inr⟩ Z ⟨rfl,q0,sZ,p0,p2,p3,p10,p11⟩;simp only at q0 p0 p2 p3 p10 p11;subst q0;have hpl:aAJ c (nodeAt g i)<(nodeAt g i).next.length:=by
     unfold aAJ;split
     ·omega
     ·omega
    have h2Z:=(sZ.2 _ lxY).trans h2;have hia:=(hxaY.same sZ).iaddr (show _<nx.length by rw[hnl];exact hpl);have hla:=(hxaY.same sZ).ld (show _<nx.length by rw[hnl];exact hpl);have hch:=ih _ hpl Z (sY.trans sZ);obtain⟨b1,b2⟩:=G.good.kids i hi _ hpl;have hsz:=aMt h.walk h.len G.good hi hpl;have hv:∀q,aAh g c q (f+1) i=aAh g c q f ((nodeAt g i).next.getD (aAJ c (nodeAt g i)) 0).toNat:=fun q=>by
     simp only[aAh];rw[if_neg hk3,if_pos hk2]
    try simp only[↓sU,sD,rE,↓reduceIte,rA]
    refine cC ?_;simp only[↓sU,sD,rE,↓reduceIte,rA,p0,p2,p3,p10,p11,aE,aF,gE h2Z,aH,hia,hla];refine aY ?_;refine am ?_;refine aP hch ?_;rintro _ V ⟨sV,v,P,d,rfl,hP,hfr,hlow,hle,hb⟩;simp only[↓sU,sD,rE,↓reduceIte,rA,ex0,ex1];refine aU ?_;refine .inr ⟨rfl,v,.int .i64 (d:Int),aq,aq,(sY.trans sZ).trans sV,v,P,d,rfl,hP,fun b hb=>Ap (sY.trans sZ).1 (hfr b hb),?_,Ap hle (Dq (by decide) (by omega)),hb⟩;exact⟨hlow.len,hlow.pos,fun q hq=>by rw[hlow.eq q hq,hv q],hlow.low⟩
  rintro o ⟨F,inr⟩ Z (⟨rfl,q0,rfl,hk1,p0,p2,p3,p10⟩ | ⟨rfl,r0,r1,e8,e9,hR⟩);rotate_left
  ·simp only at e8 e9;simp only[↓sU,sD,rE,↓reduceIte,rA,e8,e9];exact hR
  simp only at q0 p0 p2 p3 p10;subst q0;have hC:=h.chn hi hk1;try simp only[↓sU,sD,rE,↓reduceIte,rA]
  refine cC ?_;simp only[↓aA,aB,rE,↓reduceIte,rA,p2];refine fX (pO (n:=n) (by simp only[↓aA,aB,rE,↓reduceIte,rA,aH]) (by simp only[↓aA,aB,rE,↓reduceIte,rA,aH]) (by unfold room;omega) (by unfold room;omega)) ?_;intro Y1 y1 m1 c1;rw[xP] at c1;simp only[↓aA,aB,rE,↓reduceIte,rA];have sY1:=sY.trans y1;have h21:=(y1.2 _ lxY).trans h2;refine cC ?_;simp only[↓sU,sD,rE,↓reduceIte,rA];have hlY:=sY.1;refine aC (bD (aOu (S:=S) (c:=c) (f:=f) (x0:=nv) (x3:=cv) (n:=n) H G h.walk h.len hi hk1 n40 hnl hC.wts hC.n2 (by omega) hxa hxw sY1 c1 (by omega) hlY h21 (by omega) (Ag _) (by omega) ih ⟨au p0,au p2,au p3,aq,ar,au p10,ar⟩) ?_);clear p0 p2 p3 p10 m1 c1 y1 sY1 h21;rintro o ⟨F,inr⟩ X ⟨rfl,q0,sX,rl,xl,hx,j,P,d,s,hj,hA,hs1,hs2,hr,⟨p0,p2,p3,p8,p9,p10,p12,p13⟩⟩;simp only at q0 p0 p2 p3 p8 p9 p10 p12 p13;subst q0;obtain rfl:j=(nodeAt g i).next.length:=by omega
  have c1:=hC.n1;have c2:=hC.n2;obtain⟨z1,z2,z3,z4⟩:=aOS G.good h.walk h.len hi hk1 hA (by omega) hs2 hC.n2;have hsz:=aFN h.walk h.len hi;have hd29:=aOV (n:=aCe T g i (nodeAt g i).next.length) (by have:=aFI G.good h.walk h.len hi;omega) hA.le;obtain⟨st,rfl⟩:∃st:Nat,s=(st:Int):=⟨s.toNat,by omega⟩;rw[Cj] at z1 z2 z3 z4;have hD29:d * st≤609359740010496 * 9:=Et hd29 (by omega);have w2:IntKind.i64.wrap (((d:Nat):Int) * ((st:Nat):Int))=((d * st:Nat):Int):=by
   rw[←Fv];exact wrap_i64 (by omega) (by omega)
  have hbP:∀q,q<n→(P.getD q 0).natAbs≤1000000000000000000:=fun q hq=>by
   have b:=hA.bd q hq;have m:=aM6 (a:=st) (D:=d) (by omega) hd29;rw[Cj] at b;omega
  have hPl:=hA.len;try simp only[↓sU,sD,rE,↓reduceIte,rA]
  refine cC ?_;simp only[↓sU,sD,rE,↓reduceIte,rA,p9,p12,w2];refine cC ?_;refine am ?_;refine aC (bD (aN2 (x0:=nv) (x3:=cv) (n:=n) (rb:=Z.nx) (xb:=S.nx) (d:=d * st) (s:=((st:Nat):Int)) (i:=(((nodeAt g i).next.length:Nat):Int)) (P:=P) H z3 (by omega) (by omega) hr rl hPl hbP (by refine⟨?_,?_,?_,?_,?_,?_,?_,?_⟩<;>simp only[↓sU,sD,rE,↓reduceIte,rA,p0,p2,p3,p8,p10,p12,p13]) (aq)) ?_);clear p0 p2 p3 p8 p9 p10 p12 p13;rintro o ⟨F,inr⟩ X2 ⟨rfl,q0,x2,q,hqn,⟨p0,p2,p3,p8,p9,p10,p12,p13⟩,p18,_⟩;simp only at q0 p0 p2 p3 p8 p9 p10 p12 p13 p18;subst q0;obtain rfl:n=q:=by omega
  rw[←hPl,Ch] at p18;have hgp:0<fS (d * st) P:=aDP z3;have hgd:=aIJ (l:=P) z3;have hr2:=(x2.2 _ rl).trans hr;try simp only[↓sU,sD,rE,↓reduceIte,rA]
  refine aC (bD (aPG (n:=n) (rb:=Z.nx) (d:=d * st) (t:=fS (d * st) P) (P:=P) hgp (by omega) hr2 hPl hbP (by refine⟨?_,?_,?_,?_⟩<;>simp only[↓sU,sD,rE,↓reduceIte,rA,p2,p8,p9,p18])) ?_);clear p0 p2 p3 p8 p9 p10 p12 p13 p18;rintro o ⟨F,inr⟩ X3 ⟨rfl,q0,x3,q,P',hqn,hPl',hPq,_,hr3,⟨p2,p8,p9,p18⟩,_⟩;simp only at q0 p2 p8 p9 p18;subst q0;obtain rfl:n=q:=by omega
  have eP:P'=P.map fun x:Int=>x.tdiv ((fS (d * st) P:Nat):Int):=aEw (by rw[Az,hPl',hPl]) fun q hq=>by
   rw[hPq q (by omega)];have hq2:q<P.length:=by omega
   show(P.getD q 0).tdiv ((fS (d * st) P:Nat):Int)=_;rw[Ae,Ae,Be,Ab hq2];rfl
  subst eP;have e2:eJ .quo (.p .int) (.int .i64 ((d * st:Nat):Int)) (.int .i64 ((fS (d * st) P:Nat):Int))=some (.int .i64 ((d * st / fS (d * st) P:Nat):Int)):=tK (.p .int) (by omega) (by omega) (by omega);have sX3:Same S X3:=bJ.same (sX.trans x2) x3 hlY;have rl3:Z.nx<X3.nx:=Ah rl (Ap x2.1 x3.1);try simp only[↓sU,sD,rE,↓reduceIte,rA]
  refine aC (kO ?_);simp only[↓sU,sD,rE,↓reduceIte,rA,p8,p9,p18,e2];refine aU ?_;simp only[↓sU,sD,rE,↓reduceIte,rA];exact⟨sX3.trans (Same.nx X3 _),_,_,_,rfl,mG (S:=⟨X3.h,_⟩) hr3 (by simp only;omega) (by rw[Az];exact hPl),fun b hb=>by cases hb;exact hlY,z1,z2,z4⟩
end Go.Ev.Gl
