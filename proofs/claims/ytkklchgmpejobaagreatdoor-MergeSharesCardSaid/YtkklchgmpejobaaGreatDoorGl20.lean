import Derived.Test.YtkklchgmpejobaaGreatDoorGl19
open Nat renaming reduceEqDiff → rE, reduceAdd → rA
set_option maxHeartbeats 16000000
set_option linter.unusedSimpArgs false
set_option linter.unusedVariables false
namespace Go.Ev.Gl
open Go.Sort
variable {fns:T cW}
theorem aIZ{u:Nat}(h:u≤18446744073709551615):(eQ u).length≤20:=(wT u 19).2 (Dl h (by decide))
def Rng(z:Int):Prop:= -9223372036854775808≤z∧z≤9223372036854775807
theorem aIK{z:Int}(h:Rng z):(mV z).length≤21:=by
 unfold Rng at h;unfold mV;split
 ·rw[An];have:=aIZ (u:=z.natAbs) (by omega);omega
 ·have:=aIZ (u:=z.toNat) (by omega);omega
def TxF(X:St)(ob:Nat)(v:AV)(X':St):Prop:=X.nx≤X'.nx∧∀c,c<X.nx→c≠ob→aU v≠some c→X'.h.get c=X.h.get c
structure TxB(T0 X:St)(ob:Nat)(v:AV)(l:List Nat):Prop where
 gob:X.h.get ob=some (.cells [v] false 0)
 lt:ob<X.nx
 gw:iD 1 T0 X v l.length (u8s l)
 sm:Same T0 X
 o0:T0.nx≤ob
def aPK(fns:Ev.T cW)(X:St)(ob:Nat)(v f:AV)(φ:Int→Int)(L:List Int):Prop:=∀n∈L,∀Y,TxF X ob v Y→fR fns f [.int .i64 n] Y fun r Y'=>r= .int .i64 (φ n)∧Same Y Y'
theorem TxF.refl(X:St)(ob:Nat)(v:AV):TxF X ob v X:=⟨Af _,fun _ _ _ _=>rfl⟩
theorem TxB.off{T0 X:St}{ob:Nat}{v:AV}{l:List Nat}(h:TxB T0 X ob v l):aU v≠some ob:=h.gw.off h.gob
theorem aLH{t:Nat}{F:Fr}{id:Nat}{n:Int}:tH (.bslice t 1 1 [.int .u8 (.ofNat 0)] [(0,.c (.int .u8 n))]) F id=some (.sl id 0 1 1 false,.cells [.int .u8 n] false 0):=lL rfl
theorem TxB.byte{T0 X X1:St}{ob t:Nat}{v:AV}{l:List Nat}{b:Nat}(h:TxB T0 X ob v l)(x1:Same X X1)(ht:X1.h.get t=some (.cells [.int .u8 (b:Int)] false 0))(hl:l.length≤100000000):∃v' S' S'',gS 1 1 v (.sl t 0 1 1 false) X1=some (v',S')∧v'.cells=some [v']∧jS (.ptr ob 0) 1 [v'] S'=some (.undef,S'')∧TxB T0 S'' ob v' (l++ [b])∧X.nx≤S''.nx∧(∀c,c<X.nx→c≠ob→aU v≠some c→S''.h.get c=X.h.get c)∧∀c,aU v'=some c→X.nx≤c:=by
 obtain⟨v',S',e1,f1,f2,f3,f4,f5⟩:=xU (m:=[b]) (h.gw.step x1) (h.sm.trans x1) (x:=.sl t 0 1 1 false) rfl (aNk ht) (by simp) (by simp;omega);have n1:=x1.1;have gob:S'.h.get ob=some (.cells [v] false 0):=(f4 ob (by have:=h.lt;omega) h.off).trans ((x1.2 ob h.lt).trans h.gob);refine⟨v',S',_,e1,f1.cells,yA (cs:=[v]) (p:=0) gob (by simp),⟨by simp only;rw[T.get_set,if_pos rfl];rfl,by show ob<S'.nx;have:=h.lt;omega,f1.move (Af _) fun c hc=>?_,⟨by show T0.nx≤S'.nx;exact f2.1,fun c hc=>?_⟩,h.o0⟩,by show X.nx≤S'.nx;omega,fun c hc h1 h2=>?_,fun c hc=>by have:=f5 c hc;omega⟩
 ·have:=f5 c hc;have:=h.lt;simp only;rw[T.get_set,if_neg (by omega)]
 ·have:=h.o0;simp only;rw[T.get_set,if_neg (by omega)];exact f2.2 c hc
 ·simp only;rw[T.get_set,if_neg h1,f4 c (by omega) h2];exact x1.2 c hc
theorem TxB.old{T0 X:St}{ob:Nat}{v a:AV}{l:List Nat}{L:List Int}(h:TxB T0 X ob v l)(ha:bT .i64 T0 a L):∀Y,TxF X ob v Y→bT .i64 Y a L:=fun Y hY=>fJ (ha.same h.sm) hY.1 fun c hc=>by
 have h1:=dN ha hc;have h2:=h.sm.1;have h3:=h.o0;exact hY.2 c (by omega) (by omega) fun e=>by have:=(h.gw.blk e).1;omega
theorem aD3{W:Nat→Prop}(K:Nat){ops:List AO}{A:bQ}{S:St}{Q:Out→bQ→St→Prop}{R:Fr→St→List iJ→Prop}(hK:(ops.take K).length=K)(hm:((ops.take K).all fun o=>decide (o.mask<2 ^ K))=true)
  (h:∀S1,Same S S1→S1.h=S.h→S1.nx=S.nx+ops.length→gI fns W S.h S.nx (ops.take K) 0 A.F S1 [] none R)
  (h2:∀F S' ps hs ls,R F S' ps→(∀m,(∀i,i<K→Nat.testBit m i=true)→iR hs m=true)→(∀m h' r,(∀i,i<K→Nat.testBit m i=true)→fI S.h (hs.reverse++(K,m,h')::r) ls=true)→xI fns (ops.drop K) K S.nx ⟨F,S',ps,hs,ls⟩ fun D'=>fI S.h D'.hs.reverse D'.ls=true∧Q .normal ⟨D'.F,A.inr⟩ ⟨(cF (2 ^ ops.length - 1) D'.ps D'.S.h).2,D'.S.nx⟩):mF fns (.drw ops) A S Q:=
 uB (pre:=ops.take K) (suf:=ops.drop K) (Eg K ops).symm hK hm h h2
def TxI(T0 X0:St)(ob:Nat)(v0 a f:AV)(φ:Int→Int)(l:List Nat)(L:List Int)(k:Nat)(A:bQ)(X:St):Prop:=A.inr=false∧TxF X0 ob v0 X∧aD 1 A.F=f∧aD 2 A.F= .ptr ob 0∧aD 7 A.F=a∧aD 8 A.F= .int .i64 (L.length:Int)∧∃ (i:Nat) (v:AV),i+k=L.length∧aD 9 A.F= .int .i64 (i:Int)∧TxB T0 X ob v (l++(L.take i).flatMap (fun n=>mV (φ n)++ [44]))∧∀c,c<X0.nx→aU v=some c→aU v0=some c
theorem aFm{φ:Int→Int}{L:List Int}(h:∀n∈L,Rng (φ n)):(L.flatMap (fun n=>mV (φ n)++ [44])).length≤22 * L.length:=by
 induction L with
 | nil=>simp
 | cons a L ih=>
  have h1:=aIK (h a (by simp));have h2:=ih fun n hn=>h n (by simp [hn]);rw[Dc,Ai,Ai,An];simp only[An,Bp];omega
theorem xP{T0 X0:St}{ob:Nat}{v0 a f:AV}{φ:Int→Int}{l:List Nat}{L:List Int}(H:Has fns)(hL:iO T0)(hB:TxB T0 X0 ob v0 l)(ha:∀Y,TxF X0 ob v0 Y→bT .i64 Y a L)(hN:aPK fns X0 ob v0 f φ L)(hr:∀n∈L,Rng (φ n))(hl:l.length≤10000000)(hLl:L.length≤100000):fR fns (.fn 74 [] [.ptr ob 0]) [a,f] X0 fun _ X=>∃v,TxF X0 ob v0 X∧TxB T0 X ob v (l++pE (L.map φ))∧∀c,c<X0.nx→aU v=some c→aU v0=some c:=by
 refine cD H.f74 (by simp) ?_;simp only[↓aA,aB,rE,↓reduceIte,rA];refine aC (bF (Q:=fun o A' X=>o= .normal∧A'.inr=false∧TxF X0 ob v0 X∧aD 2 A'.F= .ptr ob 0∧∃v,TxB T0 X ob v (l++L.flatMap (fun n=>mV (φ n)++ [44]))∧∀c,c<X0.nx→aU v=some c→aU v0=some c) (aC (aG ?_)) ?_)
 ·simp only[↓aA,aB,rE,↓reduceIte,(ha X0 (TxF.refl _ _ _)).len];refine aO (cA (TxI T0 X0 ob v0 a f φ l L) ?_ L.length _ _ ⟨rfl,TxF.refl _ _ _,by simp only[↓aA,aB,rE,↓reduceIte],by simp only[↓aA,aB,rE,↓reduceIte],by simp only[↓aA,aB,rE,↓reduceIte],by simp only[↓aA,aB,rE,↓reduceIte],0,v0,by omega,by simp only[↓aA,aB,rE,↓reduceIte],by simpa using hB,fun c _ h=>h⟩);rintro k ⟨F,inr⟩ X ⟨q0,hF,p1,p2,p7,p8,i,v,hik,p9,hB,hv⟩;simp only at q0 p1 p2 p7 p8 p9;subst q0;refine cC ?_;simp only[↓aA,aB,rE,↓reduceIte,p8,p9,wL];by_cases hi:i<L.length;rotate_left
  ·refine aC (aP (by simp only[↓aA,aB,rE,↓reduceIte,Aa hi]) (bL ?_));rw[Bj (by omega)] at hB;exact⟨rfl,rfl,hF,by simp only[↓aA,aB,rE,↓reduceIte,p2],v,hB,hv⟩
  refine aC (aS (by simp only[↓aA,aB,rE,↓reduceIte,Ac hi]) (aM ?_));try simp only[↓aA,aB,rE,↓reduceIte]
  have hil:L.getD i 0∈L:=by
   rw[Ag,Ad hi];exact Ck hi
  have ia:=(ha X hF).iaddr hi;have la:=(ha X hF).ld hi;refine aC (aO (aC (aG ?_)));simp only[↓aA,aB,rE,↓reduceIte,p7,p9,aH,ia,la];obtain⟨n,hn⟩:∃n,n=L.getD i 0:=⟨_,rfl⟩;rw[←hn] at hil ⊢;have lob:dB (.ptr ob 0) false 1 X.h=some v:=cT hB.gob rfl;have hsv:cJ v v=true:=hB.gw.self;have hlen:(l++(L.take i).flatMap (fun n=>mV (φ n)++ [44])).length≤20000000:=by
   rw[Ai];have:=aFm (φ:=φ) (L:=L.take i) fun m hm=>hr m (Dk hm);rw[Bz] at this;omega
  obtain⟨l1,hl1⟩:∃l1,l1=l++(L.take i).flatMap (fun n=>mV (φ n)++ [44]):=⟨_,rfl⟩;rw[←hl1] at hB hlen;refine aC (aD3 (W:=fun c=>aU v=some c) (R:=fun F' X' ps=>ps= []∧aK7 T0 X X' v (aD 17 F') (l1++mV (φ n))∧aD 2 F'= .ptr ob 0∧aD 1 F'=f∧aD 7 F'=a∧aD 8 F'= .int .i64 (L.length:Int)∧aD 9 F'= .int .i64 (i:Int)) 5 rfl (by decide) ?_ ?_)
  ·intro S1 s1 hS1 nS1;simp only[Bk,Br];have hlt:=hB.lt;have hoff:=hB.off;simp only[↓sU,sD,rE,↓reduceIte,rA,p1,p2,lob,hsv,hlt,hoff,Ap];refine cH rfl ?_;simp only[↓sU,sD,rE,↓reduceIte,rA,p1];have hFS:TxF X0 ob v0 S1:=⟨Az hF.1 s1.1,fun c hc h1 h2=>(s1.2 c (Ah hc hF.1)).trans (hF.2 c hc h1 h2)⟩;refine aN (hN n hil S1 hFS) ?_;rintro _ Y ⟨rfl,hY⟩;refine⟨hY,?_⟩;have sXY:=s1.trans hY;try simp only[↓sU,sD,rE,↓reduceIte,rA]
   refine jC rfl ?_;simp only[↓sU,sD,rE,↓reduceIte,rA];refine aN (aFt H (hL.same (hB.sm.trans sXY)) (hB.gw.step sXY) (hB.sm.trans sXY) (hr n hil) (by omega)) ?_;rintro r Z ⟨f1,f2,f3,f4,f5⟩;have nY:=sXY.1;have f3:Y.nx≤Z.nx:=f3;refine⟨⟨f3,fun c hc hne=>f4 c (Ah hc nY) hne⟩,?_⟩;try simp only[↓sU,sD,rE,↓reduceIte,rA]
   exact⟨⟨f1,f2,by omega,fun c hc hne=>(f4 c (Ah hc nY) hne).trans (sXY.2 c hc),fun c hc=>Az nY (f5 c hc)⟩,p2,p1,p7,p8,p9⟩
  rintro F' X' ps hs ls ⟨rfl,⟨f1,f2,f3,f4,f5⟩,t2,t1,t7,t8,t9⟩ hlast hld;have m1:∀i,i<5→Nat.testBit 31 i=true:=by decide
  have gob:X'.h.get ob=some (.cells [v] false 0):=(f4 ob hB.lt hB.off).trans hB.gob;simp only[List.drop_succ_cons,Cq];refine jL (v:=.undef) (S1:=⟨X'.h.set ob (some (.cells [aD 17 F'] false 0)),X'.nx⟩) (hlast _ m1) (fun call=>?_) ?_
  ·rw[dD];simp only[fU,t2,f1.cells,aK,bR];exact yA (cs:=[v]) (p:=0) gob (by simp)
  rw[iH];refine⟨?_,?_⟩
  ·simp only[Cl,Aw,Cm,Bl,Bh];exact hld _ _ _ m1
  simp only[bR,dV];obtain⟨X2,hX2⟩:∃X2:St,X2=⟨X'.h.set ob (some (.cells [aD 17 F'] false 0)),X'.nx⟩:=⟨_,rfl⟩;rw[←hX2];have hB2:TxB T0 X2 ob (aD 17 F') (l1++mV (φ n)):=by
   rw[hX2];refine⟨by simp only;rw[T.get_set,if_pos rfl],by show ob<X'.nx;have:=hB.lt;omega,f1.move (Af _) fun c hc=>?_,⟨f2.1,fun c hc=>?_⟩,hB.o0⟩
   ·have:=f5 c hc;have:=hB.lt;simp only;rw[T.get_set,if_neg (by omega)]
   ·have:=hB.o0;simp only;rw[T.get_set,if_neg (by omega)];exact f2.2 c hc
  have k2:∀c,c<X.nx→c≠ob→aU v≠some c→X2.h.get c=X.h.get c:=fun c hc h1 h2=>by
   rw[hX2];simp only;rw[T.get_set,if_neg h1];exact f4 c hc h2
  have n2:X.nx≤X2.nx:=by rw[hX2];exact f3
  obtain⟨w,hw⟩:∃w,w=aD 17 F':=⟨_,rfl⟩;rw[←hw] at hB2 f5;have lob2:dB (.ptr ob 0) false 1 X2.h=some w:=cT hB2.gob rfl;clear hX2 hld hlast gob f1 f2 f3 f4 hw;try simp only[↓aA,aB,rE,↓reduceIte]
  refine aG ?_;simp only[↓aA,aB,rE,↓reduceIte,t2,lob2];refine gH (aLH (n:=44)) ?_;intro X3 x3 n3 g3;try simp only[↓aA,aB,rE,↓reduceIte,t2]
  have hdl:(l1++mV (φ n)).length≤100000000:=by
   rw[Ai];have:=aIK (hr n hil);omega
  obtain⟨w2,X4,X5,e1,e2,e3,hB5,n5,k5,b5⟩:=hB2.byte (b:=44) x3 g3 hdl;refine eR (v:=w2) (S1:=X4) (fun call=>by rw[fS];simp only[↓aA,aB,rE,↓reduceIte];exact e1) ?_;try simp only[↓aA,aB,rE,↓reduceIte,t2]
  refine eR (v:=.undef) (S1:=X5) (fun call=>by rw[dD];simp only[↓aA,aB,rE,↓reduceIte,t2,e2];exact e3) ?_;simp only[↓aA,aB,rE,↓reduceIte];refine aG ?_;simp only[↓aA,aB,rE,↓reduceIte,t9,eH (a:=i) (by omega)];have hX0:=hF.1;refine⟨k - 1,by omega,rfl,⟨by omega,fun c hc h1 h2=>?_⟩,by simp only[↓aA,aB,rE,↓reduceIte,t1],by simp only[↓aA,aB,rE,↓reduceIte,t2],by simp only[↓aA,aB,rE,↓reduceIte,t7],by simp only[↓aA,aB,rE,↓reduceIte,t8],i+1,w2,by omega,by simp only[↓aA,aB,rE,↓reduceIte],?_,fun c hc e=>?_⟩
  ·rw[k5 c (by omega) h1 (fun e=>by have:=f5 c e;omega),k2 c (by omega) h1 (fun e=>h2 (hv c hc e))];exact hF.2 c hc h1 h2
  ·have e:l++(L.take (i+1)).flatMap (fun n=>mV (φ n)++ [44])=l1++mV (φ n)++ [44]:=by
    rw[Bx,List.flatMap_append,←Aw,←hl1,Aw];have:L[i]? =some n:=by rw[hn,Ag,Ad hi];rfl
    rw[this];simp
   rw[e];exact hB5
  ·have:=b5 c e;omega
 rintro o ⟨F,inr⟩ X ⟨rfl,q0,hF,p2,v,hB,hv⟩;simp only at q0 p2;subst q0;have lob:dB (.ptr ob 0) false 1 X.h=some v:=cT hB.gob rfl;try simp only[↓aA,aB,rE,↓reduceIte]
 refine aG ?_;simp only[↓aA,aB,rE,↓reduceIte,p2,lob];refine gH (aLH (n:=59)) ?_;intro X3 x3 n3 g3;try simp only[↓aA,aB,rE,↓reduceIte,p2]
 obtain⟨w2,X4,X5,e1,e2,e3,hB5,n5,k5,b5⟩:=hB.byte (b:=59) x3 g3 (by
  rw[Ai];have:=aFm hr;omega)
 refine eR (v:=w2) (S1:=X4) (fun call=>by rw[fS];simp only[↓aA,aB,rE,↓reduceIte];exact e1) ?_;try simp only[↓aA,aB,rE,↓reduceIte,p2]
 refine eR (v:=.undef) (S1:=X5) (fun call=>by rw[dD];simp only[↓aA,aB,rE,↓reduceIte,p2,e2];exact e3) ?_;have hX0:=hF.1;simp only[↓aA,aB,rE,↓reduceIte];refine⟨_,rfl,w2,⟨by omega,fun c hc h1 h2=>(k5 c (by omega) h1 (fun e=>h2 (hv c hc e))).trans (hF.2 c hc h1 h2)⟩,?_,fun c hc e=>by have:=b5 c e;omega⟩;have e:l++pE (L.map φ)=l++L.flatMap (fun n=>mV (φ n)++ [44])++ [59]:=by
  unfold pE;rw[List.flatMap_map,Aw]
 rw[e];exact hB5
end Go.Ev.Gl
namespace Go.Ev.Gl
open Go.Sort
variable {fns:T cW}
theorem aJX{S:St}{n:Int}(H:Has fns):fR fns (.fn 76 [] []) [.int .i64 n] S fun r S'=>r= .int .i64 n∧Same S S':=by
 refine cD H.f76 (by simp) ?_;simp only[↓aA,aB,rE,↓reduceIte,rA];refine cC ?_;simp only[↓aA,aB,rE,↓reduceIte];refine cC ?_;simp only[↓aA,aB,rE,↓reduceIte];refine aT ?_;simp only[↓aA,aB,rE,↓reduceIte];exact Same.refl _
theorem aKv{S:St}{kb:Nat}{kv:AV}{K:List Int}{c:Int}(H:Has fns)(hk:S.h.get kb=some (.cells [kv] false 0))(hK:bT .i64 S kv K)(h0:0≤c)(h1:c.toNat<K.length):fR fns (.fn 77 [] [.ptr kb 0]) [.int .i64 c] S fun r S'=>r= .int .i64 (K.getD c.toNat 0)∧Same S S':=by
 have l0:dB (.ptr kb 0) false 1 S.h=some kv:=cT hk rfl;have sk:=bT.self hK;refine cD H.f77 (by simp) ?_;simp only[↓aA,aB,rE,↓reduceIte,rA];refine cC ?_;simp only[↓aA,aB,rE,↓reduceIte];refine cC ?_;simp only[↓aA,aB,rE,↓reduceIte,l0,sk,pH _ h0,hK.iaddr h1,hK.ld h1];refine aT ?_;simp only[↓aA,aB,rE,↓reduceIte];exact Same.refl _
theorem aQy{t:Nat}{z:AV}{x y w:cL}{F:Fr}{id:Nat}{n m k:Int}(hx:x.val F= .int .i64 n)(hy:y.val F= .int .i64 m)(hw:w.val F= .int .i64 k):tH (.bslice t 1 3 [z] [(0,x),(1,y),(2,w)]) F id=some (.sl id 0 3 3 false,.cells (bG [n,m,k]) false 0):=by
 show(aX (fL (repeatL [z] 3) [(0 * 1,1,x.val F),(1 * 1,1,y.val F),(2 * 1,1,w.val F)]) fun cs=>some (AV.sl id 0 3 3 false,AB.cells cs false 0))=_;rw[hx,hy,hw];rfl
theorem aCx{l:List Int}:∀d∈pE l,d≤255:=fun d hd=>by
 unfold pE at hd;rcases Bg.1 hd with hd | hd
 ·obtain⟨n,_,hd⟩:=List.mem_flatMap.1 hd;rcases Bg.1 hd with hd | hd
  ·unfold mV at hd;split at hd
   ·rcases Bm.1 hd with rfl | hd
    ·decide
    ·have:=vU _ d hd;omega
   ·have:=vU _ d hd;omega
  ·have:=Bv.1 hd;omega
 ·have:=Bv.1 hd;omega
theorem aOr{x:bP}{K:List Int}:∀d∈oD x K,d≤255:=fun d hd=>by
 unfold oD at hd;rcases Bg.1 hd with hd | hd
 ·exact aCx d hd
 rcases Bg.1 hd with hd | hd
 ·exact aCx d hd
 rcases Bg.1 hd with hd | hd
 ·exact aCx d hd
 ·exact aCx d hd
theorem aCZ{L:List Int}(h:∀n∈L,Rng n):(pE L).length≤22 * L.length+1:=by
 have:=aFm (φ:=id) (L:=L) h;unfold pE;rw[Ai];simp only[id_eq] at this;simp only[An,Bp];omega
structure aNK(x:bP):Prop where
 k:Rng x.kind
 p:Rng x.player
 i:Rng x.info
 w:∀n∈x.weights,Rng n
 y:∀n∈x.pay,Rng n
theorem aKt{S:St}{nv wv pv kv:AV}{x:bP}{K:List Int}(H:Has fns)(hL:iO S)(hn:bT .i64 S nv x.next)(hw:bT .i64 S wv x.weights)(hp:bT .i64 S pv x.pay)(hK:bT .i64 S kv K)(hf:aNK x)(hc:∀c∈x.next,0≤c∧c.toNat<K.length∧Rng (K.getD c.toNat 0))(b1:x.next.length≤1000)(b2:x.weights.length≤1000)(b3:x.pay.length≤1000):
  fR fns (.fn 57 [] []) [.agg [.int .i64 x.kind,.int .i64 x.player,.int .i64 x.info,nv,wv,pv],kv] S fun r S'=>r= .str (oD x K)∧Same S S':=by
 refine cD H.f57 (by simp) ?_;simp only[↓aA,aB,rE,↓reduceIte,rA];refine cC ?_;refine dR (cs:=[.int .i64 x.kind,.int .i64 x.player,.int .i64 x.info,nv,wv,pv]) rfl ?_;intro S1 s1 n1 c1;refine dR (cs:=[kv]) (by simp only[↓aA,aB,rE,↓reduceIte];exact bT.cells hK) ?_;intro S2 s2 n2 c2;simp only[↓aA,aB,rE,↓reduceIte];refine aC (aG (cS ?_));intro S3 s3 n3 c3;have s13:=s1.trans (s2.trans s3);have g1:S3.h.get S.nx=some (.cells [.int .i64 x.kind,.int .i64 x.player,.int .i64 x.info,nv,wv,pv] false 0):=((s3.2 _ (by omega)).trans (s2.2 _ (by omega))).trans c1;have g2:S3.h.get S1.nx=some (.cells [kv] false 0):=(s3.2 _ (by omega)).trans c2;have hB:TxB S S3 S2.nx .nilsl []:=⟨c3,by omega,.inl ⟨rfl,rfl,rfl⟩,s13,by omega⟩;have no:∀ {a b:Nat},a<b→a≠b:=fun h=>by omega
 try simp only[↓aA,aB,rE,↓reduceIte]
 refine cC ?_;simp only[↓aA,aB,rE,↓reduceIte,pV,mD];refine cC ?_;simp only[↓aA,aB,rE,↓reduceIte];have ld:∀ (X:St) (v:AV) (j:Nat) (y:AV),TxF S3 S2.nx v X→aU v≠some S.nx→ [AV.int .i64 x.kind,.int .i64 x.player,.int .i64 x.info,nv,wv,pv][j]? =some y→dB (.ptr S.nx (0+j)) false 1 X.h=some y:=fun X v j y hF hv hj=>ldc ((hF.2 _ (by omega) (by omega) hv).trans g1) hj;have f0:=TxF.refl S3 S2.nx .nilsl;refine cC ?_;simp only[↓aA,aB,rE,↓reduceIte,aE,aF,aW,ld S3 .nilsl 0 _ f0 (by intro h;cases h) rfl,ld S3 .nilsl 1 _ f0 (by intro h;cases h) rfl,ld S3 .nilsl 2 _ f0 (by intro h;cases h) rfl];refine gH (aQy (n:=x.kind) (m:=x.player) (k:=x.info) (by simp only[↓aA,aB,rE,↓reduceIte]) (by simp only[↓aA,aB,rE,↓reduceIte]) (by simp only[↓aA,aB,rE,↓reduceIte])) ?_;intro S4 s4 n4 c4;try simp only[↓aA,aB,rE,↓reduceIte]
 refine bB ?_;try simp only[↓aA,aB,rE,↓reduceIte]
 have hB4:TxB S S4 S2.nx .nilsl []:=⟨(s4.2 _ (by omega)).trans c3,by omega,.inl ⟨rfl,rfl,rfl⟩,s13.trans s4,by omega⟩;have f4:TxF S3 S2.nx .nilsl S4:=⟨s4.1,fun c hc _ _=>s4.2 c hc⟩;have lit:∀Y,TxF S4 S2.nx .nilsl Y→bT .i64 Y (.sl S3.nx 0 3 3 false) [x.kind,x.player,x.info]:=fun Y hY=>lB (o:=false) (sz:=0) ((hY.2 S3.nx (by omega) (by omega) (by intro h;cases h)).trans c4) (by have:=hY.1;omega) rfl;have nam:∀ (X:St) (v:AV) (L:List Int),aPK fns X S2.nx v (.fn 76 [] []) id L:=fun X v L n _ Y _=>aJX H;have rg:∀n∈ [x.kind,x.player,x.info],Rng (id n):=fun n hn=>by
  simp only[Bm,List.not_mem_nil,or_false] at hn;rcases hn with rfl | rfl | rfl
  ·exact hf.k
  ·exact hf.p
  ·exact hf.i
 refine aN (xP H hL hB4 lit (nam _ _ _) rg (by simp) (by simp)) ?_;rintro _ X ⟨v1,tf1,hB,hv1⟩;rw[Bh,List.map_id] at hB;have comp:∀ {X0 X1 X2:St} {u0 u1:AV},TxF X0 S2.nx u0 X1→(∀c,c<X0.nx→aU u1=some c→aU u0=some c)→TxF X1 S2.nx u1 X2→TxF X0 S2.nx u0 X2:=fun {X0 X1 X2 u0 u1} h1 hu h2=>⟨Az h1.1 h2.1,fun c hc k1 k2=>(h2.2 c (Ah hc h1.1) k1 (fun e=>k2 (hu c hc e))).trans (h1.2 c hc k1 k2)⟩;have F1:TxF S3 S2.nx .nilsl X:=comp f4 (fun c _ h=>h) tf1;have V1:∀c,c<S3.nx→aU v1=some c→aU AV.nilsl=some c:=fun c hc h=>hv1 c (by have:=s4.1;omega) h;clear tf1 hv1 lit f4 hB4 c4 n4;try simp only[↓aA,aB,rE,↓reduceIte]
 refine cC ?_;simp only[↓aA,aB,rE,↓reduceIte,aE,aF,aW,ld X .nilsl 4 _ F1 (by intro h;cases h) rfl,bT.self hw];refine bB ?_;try simp only[↓aA,aB,rE,↓reduceIte]
 have l1:(pE [x.kind,x.player,x.info]).length≤100:=by
  have:=aCZ (L:=[x.kind,x.player,x.info]) rg;simp only[An,Bp] at this;omega
 refine aN (xP H hL hB (hB.old hw) (nam _ _ _) (φ:=id) hf.w (by omega) (by omega)) ?_;rintro _ X2 ⟨v2,tf2,hB2,hv2⟩;rw[List.map_id] at hB2;have F2:=comp F1 V1 tf2;have V2:∀c,c<S3.nx→aU v2=some c→aU AV.nilsl=some c:=fun c hc h=>V1 c hc (hv2 c (Ah hc F1.1) h);clear tf2 hv2 hB V1 F1;try simp only[↓aA,aB,rE,↓reduceIte]
 refine cC ?_;simp only[↓aA,aB,rE,↓reduceIte,aE,aF,aW,ld X2 .nilsl 5 _ F2 (by intro h;cases h) rfl,bT.self hp];refine bB ?_;try simp only[↓aA,aB,rE,↓reduceIte]
 have l2:=aCZ (L:=x.weights) hf.w;refine aN (xP H hL hB2 (hB2.old hp) (nam _ _ _) (φ:=id) hf.y (by rw[Ai];omega) (by omega)) ?_;rintro _ X3 ⟨v3,tf3,hB3,hv3⟩;rw[List.map_id] at hB3;have F3:=comp F2 V2 tf3;have V3:∀c,c<S3.nx→aU v3=some c→aU AV.nilsl=some c:=fun c hc h=>V2 c hc (hv3 c (Ah hc F2.1) h);clear tf3 hv3 hB2 V2 F2;try simp only[↓aA,aB,rE,↓reduceIte]
 refine cC ?_;simp only[↓aA,aB,rE,↓reduceIte,aE,aF,aW,pV,mD,ld X3 .nilsl 3 _ F3 (by intro h;cases h) rfl,bT.self hn];refine bB ?_;try simp only[↓aA,aB,rE,↓reduceIte]
 have l3:=aCZ (L:=x.pay) hf.y;have namK:aPK fns X3 S2.nx v3 (.fn 77 [] [.ptr S1.nx 0]) (fun c=>K.getD c.toNat 0) x.next:=fun c hcm Y hY=>by
  have FY:=comp F3 V3 hY;obtain⟨h1,h2,_⟩:=hc c hcm;exact aKv H ((FY.2 _ (by omega) (by omega) (by intro h;cases h)).trans g2) (hB3.old hK Y hY) h1 h2
 refine aN (xP H hL hB3 (hB3.old hn) namK (fun c hcm=>(hc c hcm).2.2) (by rw[Ai,Ai];omega) (by omega)) ?_;rintro _ X4 ⟨v4,tf4,hB4,hv4⟩;have e:pE [x.kind,x.player,x.info]++pE x.weights++pE x.pay++pE (x.next.map fun c=>K.getD c.toNat 0)=oD x K:=by
  unfold oD lO;simp only[Aw]
 rw[e] at hB4;have l5:dB (.ptr S2.nx 0) false 1 X4.h=some v4:=cT hB4.gob rfl;have sv4:cJ v4 v4=true:=hB4.gw.self;have hs:vV .bytesToStr v4 X4.h=some (.str (oD x K)):=by
  rcases hB4.gw with⟨_,h0,_⟩ | ⟨b,rfl,_,_,hg,_⟩
  ·exfalso
   unfold oD pE at h0;simp at h0
  ·have:=aRM (b:=b) (m:=(oD x K).length) (N:=(oD x K).length) (W:=oD x K) (o':=true) hg (Af _) (by rw[Cg];exact aOr)
   rwa [Cg] at this
 have ss:cJ (.str (oD x K)) (.str (oD x K))=true:=by
  show lA _ _=true;rw[aBy];exact Ac rfl
 try simp only[↓aA,aB,rE,↓reduceIte]
 refine cC ?_;simp only[↓aA,aB,rE,↓reduceIte,l5,sv4,hs,ss];refine aT ?_;simp only[↓aA,aB,rE,↓reduceIte];exact hB4.sm
end Go.Ev.Gl
namespace Go.Ev.Gl
open Go.Sort
variable {fns:T cW}
theorem jJ{g:bJ}(G:yC g):dI g:=fun a ha i hi=>by
 obtain⟨L,h1,h2,h3⟩:=G.walk;have hm:(nodeAt g a).next.getD i 0∈jK g (0+a):=by
  rw[Ao,sN,Ag,Ad hi];exact Ck hi
 obtain⟨c1,c2,_⟩:=h3.cf a (by omega) _ hm;unfold iI;omega
def htF(g:bJ):Nat→Nat→Int
 | 0,_=>0
 | f+1,a=>(nodeAt g a).next.foldl (fun m c=>mx m (htF g f c.toNat+1)) 0
theorem aC3{g:bJ}(hK:dI g):∀ (f f' a:Nat),a<g.nodes.length→g.nodes.length - a≤f→g.nodes.length - a≤f'→htF g f a=htF g f' a
 | 0,_,a,ha,h,_=>by omega
 | f+1,0,a,ha,_,h=>by omega
 | f+1,f'+1,a,ha,h1,h2=>by
  unfold htF;refine aB9 (fun m c hc=>?_) 0;obtain⟨k1,k2⟩:=lD (hK:=hK) ha hc;rw[aC3 hK f f' c.toNat k2 (by omega) (by omega)]
def qR(g:bJ)(a:Nat):Int:=htF g g.nodes.length a
def htL(g:bJ):List Int:=(List.range g.nodes.length).map (qR g)
theorem xR(g:bJ):(htL g).length=g.nodes.length:=by unfold htL;rw[Ay,List.length_range]
theorem xG{g:bJ}{i:Nat}(hi:i<g.nodes.length):(htL g).getD i 0=qR g i:=by
 unfold htL;rw[Ag,Bf,Fe hi];rfl
theorem aDE{g:bJ}(hK:dI g){a:Nat}(ha:a<g.nodes.length):qR g a=(nodeAt g a).next.foldl (fun m c=>mx m (qR g c.toNat+1)) 0:=by
 have e:qR g a=htF g (g.nodes.length+1) a:=aC3 hK _ _ a ha (by omega) (by omega);rw[e];rfl
theorem aPp{g:bJ}(hK:dI g):aQb g (htL g):=⟨xR g,fun i hi=>by
 rw[xG hi,aDE hK hi];unfold aN9;refine aB9 (fun m c hc=>?_) 0;rw[xG (lD (hK:=hK) hi hc).2]⟩
structure HtS(g:bJ)(S0 X:St)(mb gb sb rb:Nat)(nv iv:AV)(M:List Int):Prop where
 m:X.h.get mb=some (.cells [.sl rb 0 g.nodes.length g.nodes.length false] false 0)
 gv:X.h.get gb=some (.cells [.int .i64 g.players,nv,iv] false 0)
 s:X.h.get sb=some (.cells [.fn 78 [] [.ptr mb 0,.ptr gb 0,.ptr sb 0]] false 0)
 r:X.h.get rb=some (.cells (bG M) false 0)
 lt:mb<X.nx∧gb<X.nx∧sb<X.nx∧rb<X.nx
 sm:Same S0 X
 len:M.length=g.nodes.length
 ok:∀j,j<g.nodes.length→M.getD j 0= -1∨M.getD j 0=qR g j
section
variable {g:bJ}{S0 X X':St}{mb gb sb rb:Nat}{nv iv:AV}{M:List Int}
theorem HtS.put(h:HtS g S0 X mb gb sb rb nv iv M)(h1:rb≠mb)(h2:rb≠gb)(h3:rb≠sb)(h4:S0.nx≤rb){a:Nat}(ha:a<g.nodes.length):HtS g S0 ⟨X.h.set rb (some (.cells (bG (M.set a (qR g a))) false 0)),X.nx⟩ mb gb sb rb nv iv (M.set a (qR g a)):=by
 refine⟨?_,?_,?_,?_,h.lt,(bH.refl rb X).put _ |>.same h.sm h4,by rw[Bi];exact h.len,fun j hj=>?_⟩
 ·simp only;rw[T.get_set,if_neg (Cr h1)];exact h.m
 ·simp only;rw[T.get_set,if_neg (Cr h2)];exact h.gv
 ·simp only;rw[T.get_set,if_neg (Cr h3)];exact h.s
 ·simp only;rw[T.get_set,if_pos rfl]
 ·rw[fP (by rw[h.len];exact ha)];split
  ·rename_i e;rw[e];exact .inr rfl
  ·exact h.ok j hj
end
theorem aDG{g:bJ}(hK:dI g){a:Nat}(ha:a<g.nodes.length):0≤qR g a∧qR g a≤(g.nodes.length:Int):=by
 have:=aMM hK (aPp hK) a ha;rw[xG ha] at this;omega
def aJT(g:bJ)(l:List Int)(i:Nat):Int:=(l.take i).foldl (fun m c=>mx m (qR g c.toNat+1)) 0
theorem aKf{g:bJ}{l:List Int}{i:Nat}(hi:i<l.length):aJT g l (i+1)=mx (aJT g l i) (qR g (l.getD i 0).toNat+1):=by
 unfold aJT;rw[Bx,List.foldl_append,Ad hi,Ag,Ad hi];rfl
def HtI(g:bJ)(S0 X0:St)(mb gb sb rb:Nat)(nv iv kv:AV)(M0:List Int)(a:Nat)(k:Nat)(A:bQ)(X:St):Prop:=A.inr=false∧bH rb X0 X∧aD 0 A.F= .int .i64 (a:Int)∧aD 1 A.F= .ptr mb 0∧aD 3 A.F= .ptr sb 0∧aD 19 A.F=kv∧aD 20 A.F= .int .i64 (((nodeAt g a).next.length:Nat):Int)∧∃ (i:Nat) (M:List Int),i+k=(nodeAt g a).next.length∧aD 21 A.F= .int .i64 (i:Int)∧aD 6 A.F= .int .i64 (aJT g (nodeAt g a).next i)∧HtS g S0 X mb gb sb rb nv iv M∧∀j,j<g.nodes.length→M0.getD j 0=qR g j→M.getD j 0=qR g j
theorem aLc{g:bJ}{S0:St}{mb gb sb rb:Nat}{nv iv:AV}(H:Has fns)(hK:dI g)(hN:g.nodes.length≤2000)(hn:aY 6 dJ S0 nv g.nodes)(hl:∀i,i<g.nodes.length→(nodeAt g i).next.length≤1000)(h1:rb≠mb)(h2:rb≠gb)(h3:rb≠sb)(h4:S0.nx≤rb):∀a,a<g.nodes.length→∀X M,HtS g S0 X mb gb sb rb nv iv M→fR fns (.fn 78 [] [.ptr mb 0,.ptr gb 0,.ptr sb 0]) [.int .i64 (a:Int)] X fun r X'=>r= .int .i64 (qR g a)∧bH rb X X'∧∃M',HtS g S0 X' mb gb sb rb nv iv M'∧M'.getD a 0=qR g a∧∀j,j<g.nodes.length→M.getD j 0=qR g j→M'.getD j 0=qR g j:=qM fun a ha ih X M hS=>by
 refine cD H.f78 (by simp) ?_;simp only[↓aA,aB,rE,↓reduceIte,rA];refine cC ?_;simp only[↓aA,aB,rE,↓reduceIte];have hva:=aDG hK ha;have hla:=hl a ha;refine aC (bF (Q:=fun o A' X'=>o= .normal∧A'.inr=false∧bH rb X X'∧aD 0 A'.F= .int .i64 (a:Int)∧aD 1 A'.F= .ptr mb 0∧∃M',HtS g S0 X' mb gb sb rb nv iv M'∧M'.getD a 0=qR g a∧∀j,j<g.nodes.length→M.getD j 0=qR g j→M'.getD j 0=qR g j) (aC (aG ?_)) ?_)
 ·have lm:dB (.ptr mb 0) false 1 X.h=some (.sl rb 0 g.nodes.length g.nodes.length false):=cT hS.m rfl;have isr:=lB hS.r hS.lt.2.2.2 hS.len;have ia:=isr.iaddr (by rw[hS.len];exact ha);have la:=isr.ld (by rw[hS.len];exact ha);have sk:=bT.self isr;simp only[↓aA,aB,rE,↓reduceIte,lm,sk,aH,ia,la];by_cases hM:M.getD a 0= -1;rotate_left
  ·have e:M.getD a 0=qR g a:=(hS.ok a ha).resolve_left hM;refine aP (by simp only[↓aA,aB,rE,↓reduceIte,e,Aa (show ¬qR g a<0 by omega)]) (aM ?_);exact⟨rfl,rfl,bH.refl _ _,by simp only[↓aA,aB,rE,↓reduceIte],by simp only[↓aA,aB,rE,↓reduceIte],M,hS,e,fun j _ h=>h⟩
  refine aS (by simp only[↓aA,aB,rE,↓reduceIte,hM,Ac (show(-1:Int)<0 by omega)]) (aC (aG ?_));simp only[↓aA,aB,rE,↓reduceIte];have hx:=dK ha;obtain⟨e,b,p,i1,i2,i3,⟨na,nb,nc,rfl,x1,x2,x3⟩,i5,i6⟩:=aY.at hn (by omega) hx;have lg:=fG hS.gv;have l3:dB (.ptr b (p+3)) false 1 X.h=some na:=(pS hS.sm i2).trans (i6 3 na rfl);refine aC (bF (Q:=fun o A' X'=>o= .normal∧HtI g S0 X mb gb sb rb nv iv na M a 0 A' X') (aC (aG ?_)) ?_)
  ·simp only[↓aA,aB,rE,↓reduceIte,aE,aF,lg,aH,i1,l3,x1.len,bT.self x1,aY.self hn];refine aO (cA (HtI g S0 X mb gb sb rb nv iv na M a) ?_ (nodeAt g a).next.length _ _ ⟨rfl,bH.refl _ _,by simp only[↓aA,aB,rE,↓reduceIte],by simp only[↓aA,aB,rE,↓reduceIte],by simp only[↓aA,aB,rE,↓reduceIte],by simp only[↓aA,aB,rE,↓reduceIte],by simp only[↓aA,aB,rE,↓reduceIte],0,M,by omega,by simp only[↓aA,aB,rE,↓reduceIte],by simp only[↓aA,aB,rE,↓reduceIte];rfl,hS,fun j _ h=>h⟩);rintro k ⟨F,inr⟩ Y ⟨q0,hY,p0,p1,p3,p19,p20,i,M1,hik,p21,p6,hS1,hM1⟩;simp only at q0 p0 p1 p3 p19 p20 p21 p6;subst q0;refine cC ?_;simp only[↓aA,aB,rE,↓reduceIte,p20,p21,wL];by_cases hi:i<(nodeAt g a).next.length;rotate_left
   ·refine aC (aP (by simp only[↓aA,aB,rE,↓reduceIte,Aa hi]) (bL ?_));have hk:k=0:=by omega
    subst hk;exact⟨rfl,rfl,hY,by simp only[↓aA,aB,rE,↓reduceIte,p0],by simp only[↓aA,aB,rE,↓reduceIte,p1],by simp only[↓aA,aB,rE,↓reduceIte,p3],by simp only[↓aA,aB,rE,↓reduceIte,p19],by simp only[↓aA,aB,rE,↓reduceIte,p20],i,M1,hik,by simp only[↓aA,aB,rE,↓reduceIte,p21],by simp only[↓aA,aB,rE,↓reduceIte,p6],hS1,hM1⟩
   refine aC (aS (by simp only[↓aA,aB,rE,↓reduceIte,Ac hi]) (aM ?_));try simp only[↓aA,aB,rE,↓reduceIte]
   obtain⟨k1,k2,k3⟩:=hK a ha i hi;have x1Y:=x1.same hS1.sm;have ia1:=x1Y.iaddr hi;have la1:=x1Y.ld hi;have ls:dB (.ptr sb 0) false 1 Y.h=some (.fn 78 [] [.ptr mb 0,.ptr gb 0,.ptr sb 0]):=cT hS1.s rfl;have hc:(nodeAt g a).next.getD i 0=((iI g a i:Nat):Int):=k3;have hh:=aDG hK k2;refine aC (aO (aC (aG ?_)));simp only[↓aA,aB,rE,↓reduceIte,p19,p21,aH,ia1,la1];rw[hc];refine aG ?_;simp only[↓aA,aB,rE,↓reduceIte,p3,p6,ls];refine bB ?_;try simp only[↓aA,aB,rE,↓reduceIte]
   refine aN (ih _ k1 k2 Y M1 hS1) ?_;rintro _ Z ⟨rfl,hZ,M2,hS2,e2,hM2⟩;have w1:IntKind.i64.wrap (qR g (iI g a i)+1)=qR g (iI g a i)+1:=wrap_i64 (by omega) (by omega);try simp only[↓aA,aB,rE,↓reduceIte,w1,aMj,jT,pT,aIT,p6]
   refine aG ?_;simp only[↓aA,aB,rE,↓reduceIte,p21,eH (a:=i) (by omega)];refine⟨k - 1,by omega,rfl,hY.trans hZ,by simp only[↓aA,aB,rE,↓reduceIte,p0],by simp only[↓aA,aB,rE,↓reduceIte,p1],by simp only[↓aA,aB,rE,↓reduceIte,p3],by simp only[↓aA,aB,rE,↓reduceIte,p19],by simp only[↓aA,aB,rE,↓reduceIte,p20],i+1,M2,by omega,by simp only[↓aA,aB,rE,↓reduceIte],?_,hS2,fun j hj h=>hM2 j hj (hM1 j hj h)⟩;simp only[↓aA,aB,rE,↓reduceIte];rw[aKf hi,hc];rfl
  rintro o ⟨F,inr⟩ Y ⟨rfl,q0,hY,p0,p1,p3,p19,p20,i,M1,hik,p21,p6,hS1,hM1⟩;simp only at q0 p0 p1 p6;subst q0;have hi:i=(nodeAt g a).next.length:=by omega
  subst hi;have e6:aJT g (nodeAt g a).next (nodeAt g a).next.length=qR g a:=by
   unfold aJT;rw[Cg,←aDE hK ha]
  rw[e6] at p6;have lm:dB (.ptr mb 0) false 1 Y.h=some (.sl rb 0 g.nodes.length g.nodes.length false):=cT hS1.m rfl;have ia:=iE (b:=rb) (o:=false) ha;try simp only[↓aA,aB,rE,↓reduceIte]
  refine aG ?_;have sk1:cJ (.sl rb 0 g.nodes.length g.nodes.length false) (.sl rb 0 g.nodes.length g.nodes.length false)=true:=bT.self (lB hS1.r hS1.lt.2.2.2 hS1.len);simp only[↓aA,aB,rE,↓reduceIte,p0,p1,p6,lm,sk1,aH,ia];refine eR (fun call=>by simp only[↓aA,aB,rE,↓reduceIte,rA,dD,cO,p6];exact aBH (S:=Y) hS1.r (by rw[hS1.len];exact ha)) ?_;simp only[↓aA,aB,rE,↓reduceIte];refine⟨hY.put _,p0,p1,_,hS1.put h1 h2 h3 h4 ha,?_,fun j hj h=>?_⟩
  ·rw[fP (by rw[hS1.len];exact ha),if_pos rfl]
  ·rw[fP (by rw[hS1.len];exact ha)];split
   ·rename_i e;rw[e]
   ·exact hM1 j hj h
 rintro o ⟨F,inr⟩ Y ⟨rfl,q0,hY,p0,p1,M1,hS1,e1,hM1⟩;simp only at q0 p0 p1;subst q0;have lm:dB (.ptr mb 0) false 1 Y.h=some (.sl rb 0 g.nodes.length g.nodes.length false):=cT hS1.m rfl;have isr:=lB hS1.r hS1.lt.2.2.2 hS1.len;have sk1:=bT.self isr;have ia:=isr.iaddr (by rw[hS1.len];exact ha);have la:=isr.ld (by rw[hS1.len];exact ha);rw[e1] at la;try simp only[↓aA,aB,rE,↓reduceIte]
 refine cC ?_;simp only[↓aA,aB,rE,↓reduceIte,p0,p1,lm,sk1,aH,ia,la];refine aT ?_;simp only[↓aA,aB,rE,↓reduceIte];exact⟨hY,M1,hS1,e1,hM1⟩
end Go.Ev.Gl
namespace Go.Ev.Gl
open Go.Sort
variable {fns:T cW}
def HtK(g:bJ)(S4:St)(mb gb rb:Nat)(k:Nat)(A:bQ)(X:St):Prop:=A.inr=false∧bH rb S4 X∧aD 1 A.F= .ptr gb 0∧aD 3 A.F= .ptr mb 0∧aD 12 A.F= .int .i64 ((g.nodes.length:Nat):Int)∧∃ (i:Nat) (l:List Int),i+k=g.nodes.length∧aD 13 A.F= .int .i64 (i:Int)∧l.length=g.nodes.length∧(∀j,j<i→l.getD j 0= -1)∧X.h.get rb=some (.cells (bG l) false 0)
def HtR(g:bJ)(S0:St)(mb gb sb rb:Nat)(nv iv:AV)(k:Nat)(A:bQ)(X:St):Prop:=A.inr=false∧aD 3 A.F= .ptr mb 0∧aD 5 A.F= .ptr sb 0∧aD 22 A.F= .int .i64 ((g.nodes.length:Nat):Int)∧∃ (i:Nat) (M:List Int),i+k=g.nodes.length∧aD 23 A.F= .int .i64 (i:Int)∧HtS g S0 X mb gb sb rb nv iv M∧∀j,j<i→M.getD j 0=qR g j
theorem aE7{S:St}{v:AV}{g:bJ}(H:Has fns)(G:yC g)(hv:mA S v g):fR fns (.fn 58 [] []) [v] S fun r X=>aQw S X r (htL g)∧Same S X:=by
 have hK:=jJ G;have hN:=G.n2;obtain⟨nv,iv,rfl,hn,hi⟩:=hv;refine cD H.f58 (by simp) ?_;simp only[↓aA,aB,rE,↓reduceIte,rA];refine cC ?_;refine dR (by simp only[↓aA,aB,rE,↓reduceIte];exact bK _) ?_;intro S1 s1 n1 c1;simp only[↓aA,aB,rE,↓reduceIte];have hnl:=aY.len hn;refine cC ?_;simp only[↓aA,aB,rE,↓reduceIte,aE,aF,fG c1,aY.self hn,hnl];refine gH (oP (n:=g.nodes.length) (by simp only[↓aA,aB,rE,↓reduceIte,aH]) (by simp only[↓aA,aB,rE,↓reduceIte,aH]) (by unfold room;omega) (by unfold room;omega)) ?_;intro S2 s2 n2 c2;rw[uW] at c2;try simp only[↓aA,aB,rE,↓reduceIte]
 refine cS ?_;intro S3 s3 n3 c3;try simp only[↓aA,aB,rE,↓reduceIte]
 obtain⟨S4,hS4⟩:∃S4:St,S4=⟨S3.h.set S2.nx (some (.cells [.sl S1.nx 0 g.nodes.length g.nodes.length false] false 0)),S3.nx⟩:=⟨_,rfl⟩;refine eR (v:=.undef) (S1:=S4) (fun call=>by rw[dD,hS4];simp only[↓aA,aB,rE,↓reduceIte];exact yA (cs:=[.nilsl]) (p:=0) c3 (by simp)) ?_;have n4:S4.nx=S3.nx:=by rw[hS4]
 have h4:∀c,c≠S2.nx→S4.h.get c=S3.h.get c:=fun c hc=>by rw[hS4];simp only;rw[T.get_set,if_neg hc]
 have m4:S4.h.get S2.nx=some (.cells [.sl S1.nx 0 g.nodes.length g.nodes.length false] false 0):=by rw[hS4];simp only;rw[T.get_set,if_pos rfl]
 clear hS4;have g4:S4.h.get S.nx=some (.cells [.int .i64 g.players,nv,iv] false 0):=(h4 _ (by omega)).trans ((s3.2 _ (by omega)).trans ((s2.2 _ (by omega)).trans c1));have r4:S4.h.get S1.nx=some (.cells (bG (List.replicate g.nodes.length 0)) false 0):=(h4 _ (by omega)).trans ((s3.2 _ (by omega)).trans c2);have s4:Same S S4:=⟨by omega,fun c hc=>(h4 c (by omega)).trans (((s1.trans s2).trans s3).2 c hc)⟩;simp only[↓aA,aB,rE,↓reduceIte];refine aC (bF (Q:=fun o A' X=>o= .normal∧HtK g S4 S2.nx S.nx S1.nx 0 A' X) (aC (aG ?_)) ?_)
 ·have lm:dB (.ptr S2.nx 0) false 1 S4.h=some (.sl S1.nx 0 g.nodes.length g.nodes.length false):=cT m4 rfl;have isr:=lB r4 (by omega) (Bd ..);have hl:=isr.len;rw[Bd] at hl;simp only[↓aA,aB,rE,↓reduceIte,lm,bT.self isr,hl];refine aO (cA (HtK g S4 S2.nx S.nx S1.nx) ?_ g.nodes.length _ _ ⟨rfl,bH.refl _ _,by simp only[↓aA,aB,rE,↓reduceIte],by simp only[↓aA,aB,rE,↓reduceIte],by simp only[↓aA,aB,rE,↓reduceIte],0,_,by omega,by simp only[↓aA,aB,rE,↓reduceIte],Bd ..,fun j hj=>by omega,r4⟩);rintro k ⟨F,inr⟩ X ⟨q0,hX,p1,p3,p12,i,l,hik,p13,hl,hf,hc⟩;simp only at q0 p1 p3 p12 p13;subst q0;refine cC ?_;simp only[↓aA,aB,rE,↓reduceIte,p12,p13,wL];by_cases hlt:i<g.nodes.length;rotate_left
  ·refine aC (aP (by simp only[↓aA,aB,rE,↓reduceIte,Aa hlt]) (bL ?_));have hk:k=0:=by omega
   subst hk;exact⟨rfl,rfl,hX,by simp only[↓aA,aB,rE,↓reduceIte,p1],by simp only[↓aA,aB,rE,↓reduceIte,p3],by simp only[↓aA,aB,rE,↓reduceIte,p12],i,l,hik,by simp only[↓aA,aB,rE,↓reduceIte,p13],hl,hf,hc⟩
  refine aC (aS (by simp only[↓aA,aB,rE,↓reduceIte,Ac hlt]) (aM ?_));try simp only[↓aA,aB,rE,↓reduceIte]
  have lmX:dB (.ptr S2.nx 0) false 1 X.h=some (.sl S1.nx 0 g.nodes.length g.nodes.length false):=cT ((hX.2 _ (by omega) (by omega)).trans m4) rfl;have sk:=bT.self isr;have ia:=iE (b:=S1.nx) (o:=false) hlt;refine aC (aO (aC (aG ?_)));simp only[↓aA,aB,rE,↓reduceIte,p13];refine aG ?_;simp only[↓aA,aB,rE,↓reduceIte,p3,lmX,sk,aH,ia];rw[show Int.negSucc 0=(-1:Int) from rfl];refine eR (fun call=>by simp only[↓aA,aB,rE,↓reduceIte,dD,cO];exact aBH (S:=X) hc (by rw[hl];exact hlt)) ?_;simp only[↓aA,aB,rE,↓reduceIte];refine aG ?_;simp only[↓aA,aB,rE,↓reduceIte,p13,eH (a:=i) (by omega)];refine⟨k - 1,by omega,rfl,hX.put _,by simp only[↓aA,aB,rE,↓reduceIte,p1],by simp only[↓aA,aB,rE,↓reduceIte,p3],by simp only[↓aA,aB,rE,↓reduceIte,p12],i+1,l.set i (-1),by omega,by simp only[↓aA,aB,rE,↓reduceIte],by rw[Bi];exact hl,fun j hj=>?_,by simp only;rw[T.get_set,if_pos rfl]⟩;rw[fP (by rw[hl];exact hlt)];split
  ·rfl
  ·exact hf j (by omega)
 rintro o ⟨F,inr⟩ X ⟨rfl,q0,hX,p1,p3,p12,i,l,hik,p13,hl,hf,hc⟩;simp only at q0 p1 p3;subst q0;have hi:i=g.nodes.length:=by omega
 subst hi;have nX:=hX.1;try simp only[↓aA,aB,rE,↓reduceIte]
 refine aC (aG (cS ?_));intro S5 s5 n5 c5;try simp only[↓aA,aB,rE,↓reduceIte]
 refine cC ?_;simp only[↓aA,aB,rE,↓reduceIte,pV,mD,p3,p1];obtain⟨S6,hS6⟩:∃S6:St,S6=⟨S5.h.set X.nx (some (.cells [.fn 78 [] [.ptr S2.nx 0,.ptr S.nx 0,.ptr X.nx 0]] false 0)),S5.nx⟩:=⟨_,rfl⟩;refine eR (v:=.undef) (S1:=S6) (fun call=>by rw[dD,hS6];simp only[↓aA,aB,rE,↓reduceIte];exact yA (cs:=[.nilfn]) (p:=0) c5 (by simp)) ?_;have n6:S6.nx=S5.nx:=by rw[hS6]
 have h6:∀c,c≠X.nx→S6.h.get c=S5.h.get c:=fun c hc=>by rw[hS6];simp only;rw[T.get_set,if_neg hc]
 have m6:S6.h.get X.nx=some (.cells [.fn 78 [] [.ptr S2.nx 0,.ptr S.nx 0,.ptr X.nx 0]] false 0):=by rw[hS6];simp only;rw[T.get_set,if_pos rfl]
 clear hS6;have k6:∀c,c<S4.nx→c≠S1.nx→S6.h.get c=S4.h.get c:=fun c hc hne=>(h6 c (by omega)).trans ((s5.2 c (by omega)).trans (hX.2 c hc hne));have hS:HtS g S S6 S2.nx S.nx X.nx S1.nx nv iv l:=⟨(k6 _ (by omega) (by omega)).trans m4,(k6 _ (by omega) (by omega)).trans g4,m6,(h6 _ (by omega)).trans ((s5.2 _ (by omega)).trans hc),⟨by omega,by omega,by omega,by omega⟩,⟨by omega,fun c hcl=>(k6 c (by omega) (by omega)).trans (s4.2 c hcl)⟩,hl,fun j hj=>.inl (hf j hj)⟩;clear k6 m6 h6 s5 c5 hf hc hX m4 g4 r4;simp only[↓aA,aB,rE,↓reduceIte];refine aC (bF (Q:=fun o A' Y=>o= .normal∧HtR g S S2.nx S.nx X.nx S1.nx nv iv 0 A' Y) (aC (aG ?_)) ?_)
 ·have lm:dB (.ptr S2.nx 0) false 1 S6.h=some (.sl S1.nx 0 g.nodes.length g.nodes.length false):=cT hS.m rfl;have isr:=lB hS.r hS.lt.2.2.2 hS.len;have hl2:=isr.len;rw[hS.len] at hl2;simp only[↓aA,aB,rE,↓reduceIte,p3,lm,bT.self isr,hl2];refine aO (cA (HtR g S S2.nx S.nx X.nx S1.nx nv iv) ?_ g.nodes.length _ _ ⟨rfl,by simp only[↓aA,aB,rE,↓reduceIte,p3],by simp only[↓aA,aB,rE,↓reduceIte],by simp only[↓aA,aB,rE,↓reduceIte],0,l,by omega,by simp only[↓aA,aB,rE,↓reduceIte],hS,fun j hj=>by omega⟩);rintro k ⟨F1,inr⟩ Y ⟨q0,r3,r5,r22,i,M,hik,r23,hS1,hM⟩;simp only at q0 r3 r5 r22 r23;subst q0;refine cC ?_;simp only[↓aA,aB,rE,↓reduceIte,r22,r23,wL];by_cases hlt:i<g.nodes.length;rotate_left
  ·refine aC (aP (by simp only[↓aA,aB,rE,↓reduceIte,Aa hlt]) (bL ?_));have hk:k=0:=by omega
   subst hk;exact⟨rfl,rfl,by simp only[↓aA,aB,rE,↓reduceIte,r3],by simp only[↓aA,aB,rE,↓reduceIte,r5],by simp only[↓aA,aB,rE,↓reduceIte,r22],i,M,hik,by simp only[↓aA,aB,rE,↓reduceIte,r23],hS1,hM⟩
  refine aC (aS (by simp only[↓aA,aB,rE,↓reduceIte,Ac hlt]) (aM ?_));try simp only[↓aA,aB,rE,↓reduceIte]
  have ls:dB (.ptr X.nx 0) false 1 Y.h=some (.fn 78 [] [.ptr S2.nx 0,.ptr S.nx 0,.ptr X.nx 0]):=cT hS1.s rfl;refine aC (aO (aC (aG ?_)));simp only[↓aA,aB,rE,↓reduceIte,r23];refine aG ?_;simp only[↓aA,aB,rE,↓reduceIte,r5,ls];refine bB ?_;try simp only[↓aA,aB,rE,↓reduceIte]
  refine aN (aLc H hK hN hn G.nxt (by omega) (by omega) (by omega) (by omega) i hlt Y M hS1) ?_;rintro _ Z ⟨rfl,hZ,M2,hS2,e2,hM2⟩;try simp only[↓aA,aB,rE,↓reduceIte]
  refine aG ?_;simp only[↓aA,aB,rE,↓reduceIte,r23,eH (a:=i) (by omega)];refine⟨k - 1,by omega,rfl,by simp only[↓aA,aB,rE,↓reduceIte,r3],by simp only[↓aA,aB,rE,↓reduceIte,r5],by simp only[↓aA,aB,rE,↓reduceIte,r22],i+1,M2,by omega,by simp only[↓aA,aB,rE,↓reduceIte],hS2,fun j hj=>?_⟩;by_cases h:j=i
  ·rw[h];exact e2
  ·exact hM2 j (by omega) (hM j (by omega))
 rintro o ⟨F1,inr⟩ Y ⟨rfl,q0,r3,r5,r22,i,M,hik,r23,hS1,hM⟩;simp only at q0 r3;subst q0;have hi:i=g.nodes.length:=by omega
 subst hi;have eM:M=htL g:=aOJ (by rw[hS1.len,xR]) fun j hj=>by
  rw[xR] at hj;rw[hM j hj,xG hj]
 rw[eM] at hS1;have lm:dB (.ptr S2.nx 0) false 1 Y.h=some (.sl S1.nx 0 g.nodes.length g.nodes.length false):=cT hS1.m rfl;have sk:=bT.self (lB hS1.r hS1.lt.2.2.2 hS1.len);try simp only[↓aA,aB,rE,↓reduceIte]
 refine cC ?_;simp only[↓aA,aB,rE,↓reduceIte,r3,lm,sk];refine aT ?_;simp only[↓aA,aB,rE,↓reduceIte];exact⟨⟨S1.nx,by rw[xR],by omega,hS1.lt.2.2.2,hS1.r⟩,hS1.sm⟩
end Go.Ev.Gl
namespace Go.Ev.Gl
open Go.Sort
variable {fns:T cW}
end Go.Ev.Gl
namespace Go.Ev.Gl
open Go.Sort
variable {fns:T cW}
def aPC(h:List Int)(q r:Nat):Int:=if aAc (h.getD r 0) (h.getD q 0)≠0 then aAc (h.getD r 0) (h.getD q 0) else aAc (q:Int) (r:Int)
theorem aLt(h:List Int)(q r:Nat):aPC h q r<0↔bef h q r:=by
 unfold aPC bef;have h1:=aGd (h.getD r 0) (h.getD q 0);have h2:=aGd (q:Int) (r:Int);have h3:=aKF (h.getD r 0) (h.getD q 0);split
 ·rename_i e;rw[h1];constructor
  ·exact .inl
  ·rintro(h4 | h4)
   ·exact h4
   ·exact absurd (h3.2 h4.1.symm) e
 ·rename_i e;have e:aAc (h.getD r 0) (h.getD q 0)=0:=by omega
  rw[h2];have:=h3.1 e;constructor
  ·exact fun h5=>.inr ⟨this.symm,by omega⟩
  ·rintro(h4 | h4)
   ·omega
   ·omega
instance befDec(h:List Int)(q r:Nat):Decidable (bef h q r):=by unfold bef;exact inferInstance
def aBv(x:AV):Nat:=
 match x with
 | .int _ a=>a.toNat
 | _=>0
def ltK(h:List Int)(x y:AV):Bool:=decide (bef h (aBv x) (aBv y))
theorem aJ1{h:List Int}{a b c:Nat}(h1:bef h a b)(h2:bef h b c):bef h a c:=by
 unfold bef at h1 h2 ⊢;omega
theorem aIz{h:List Int}{a b c:Nat}(h1:¬bef h a b)(h2:¬bef h b c):¬bef h a c:=by
 unfold bef at h1 h2 ⊢;omega
theorem aNx(h:List Int):SWO (ltK h) where
 irrefl x:=Aa fun e=>aBp e e
 trans x y z h1 h2:=Ac (aJ1 (Dh h1) (Dh h2))
 ntrans x y z h1 h2:=Aa (aIz (of_decide_eq_false h1) (of_decide_eq_false h2))
theorem aFl{k:IntKind}{S:St}{v:AV}{l:List Int}{i:Nat}(h:bT k S v l)(hi:i<l.length):aJy (fun _=>False) S.nx (aCe v i):=by
 rcases h with⟨rfl,_⟩ | ⟨b,off,cap,o,cs,rfl,_,hb,_⟩
 ·simp at hi
 ·exact⟨_,_,rfl,hb,fun h=>h⟩
theorem aJL{S:St}{hb:Nat}{hv:AV}{h:List Int}{q r:Nat}(H:Has fns)(hg:S.h.get hb=some (.cells [hv] false 0))(hlt:hb<S.nx)(hs:bT .i64 S hv h)(hq:q<h.length)(hr:r<h.length):fR fns (.fn 60 [] [.ptr hb 0]) [.int .i64 (q:Int),.int .i64 (r:Int)] S fun v S'=>v= .int .i64 (aPC h q r)∧Same S S':=by
 have l0:dB (.ptr hb 0) false 1 S.h=some hv:=cT hg rfl;have sk:=bT.self hs;have iq:=hs.iaddr hq;have lq:=hs.ld hq;have ir:=hs.iaddr hr;have lr:=hs.ld hr;refine cD H.f60 (by simp) ?_;simp only[↓aA,aB,rE,↓reduceIte,rA];refine cC ?_;simp only[↓aA,aB,rE,↓reduceIte];refine aC (mL (fun _=>False) ?_);intro X1 x1 hX1 nX1;simp only[↓sU,sD,rE,↓reduceIte,rA,l0,sk,hlt,Ap,aH,iq,ir,lq,lr];refine⟨aFl hs hr,aFl hs hq,?_⟩;refine cH rfl ?_;simp only[↓sU,sD,rE,↓reduceIte,rA];refine aN (aAL H) ?_;rintro _ Y ⟨rfl,rfl⟩;refine⟨Same.refl _,?_⟩;try simp only[↓sU,sD,rE,↓reduceIte,rA]
 refine cH rfl ?_;simp only[↓sU,sD,rE,↓reduceIte,rA];refine aN (aAL H) ?_;rintro _ Z ⟨rfl,rfl⟩;refine⟨Same.refl _,?_⟩;have hb:S.nx+12<Z.nx:=by
  simp only[An,Bp] at nX1;omega
 try simp only[↓sU,sD,rE,↓reduceIte,rA]
 rw[aOH (n:=aAc (h.getD r 0) (h.getD q 0)) (m:=aAc (q:Int) (r:Int)) (by simp only[↓sU,sD,rE,↓reduceIte,rA]) (by simp only[↓sU,sD,rE,↓reduceIte,rA]),iY];simp only[↓sU,sD,rE,↓reduceIte,rA];refine aA4 rfl ?_;rw[dT (by rfl)];simp only[↓sU,sD,rE,↓reduceIte,rA];refine aN (aNC H (lB (b:=S.nx+12) (N:=2) (l:=[aAc (h.getD r 0) (h.getD q 0),aAc (q:Int) (r:Int)]) (o:=false) (sz:=0) (by simp only;rw[T.get_set,if_pos rfl]) hb rfl)) ?_;rintro _ W ⟨rfl,rfl⟩;refine⟨Same.refl _,?_⟩;try simp only[↓sU,sD,rE,↓reduceIte,rA]
 refine aT ?_;try simp only[↓sU,sD,rE,↓reduceIte,rA]
 refine⟨rfl,by show S.nx≤Z.nx;omega,fun c hc=>?_⟩;simp only;rw[T.get_set,if_neg (by omega)];exact x1.2 c hc
end Go.Ev.Gl
namespace Go.Ev.Gl
open Go.Sort
variable {fns:T cW}
def qJ{K V:Type} [DecidableEq K](k:K):List (K×V)→Nat→Option (Nat×V)
 | [],_=>none
 | (k',v)::l,i=>if k=k' then some (i,v) else qJ k l (i+1)
def lkp{K V:Type} [DecidableEq K](l:List (K×V))(k:K):Option V:=(qJ k l 0).map (·.2)
section
variable {K V:Type} [DecidableEq K]{l:List (K×V)}{k k':K}{v:V}
theorem vQ:∀ {l:List (K×V)} {i:Nat},qJ k l (i+1)=(qJ k l i).map fun p=>(p.1+1,p.2)
 | [],i=>rfl
 | (k',v)::l,i=>by
  show(if k=k' then some (i+1,v) else qJ k l (i+1+1))=(if k=k' then some (i,v) else qJ k l (i+1)).map _;by_cases e:k=k'
  ·rw[if_pos e,if_pos e];rfl
  ·rw[if_neg e,if_neg e,vQ]
end
def aJS{K V:Type}(ek:K→AV)(ev:V→AV)(l:List (K×V)):List (AV×AV):=l.map fun p=>(ek p.1,ev p.2)
theorem aIM(a b:List Nat):eqv (.p .str) (.str a) (.str b)=some (decide (a=b)):=by
 show some (lA a b)=_;rw[aBy]
section
variable {K V:Type} [DecidableEq K]{ek:K→AV}{ev:V→AV}{sk:oR}
theorem aCM(he:∀a b,eqv sk (ek a) (ek b)=some (decide (a=b))){k:K}:∀ {l:List (K×V)} {i:Nat},pP sk (ek k) (aJS ek ev l) i=some ((qJ k l i).map fun p=>(p.1,ev p.2))
 | [],i=>rfl
 | (k',v)::l,i=>by
  show(aX (eqv sk (ek k) (ek k')) fun b=>bN b (some (some (i,ev v))) (pP sk (ek k) (aJS ek ev l) (Nat.succ i)))=_;rw[he,aK];show _=some ((if k=k' then some (i,v) else qJ k l (i+1)).map fun p=>(p.1,ev p.2));by_cases e:k=k'
  ·rw[Ac e,aL,if_pos e];rfl
  ·rw[Aa e,aR,if_neg e];exact aCM he
theorem aBN(he:∀a b,eqv sk (ek a) (ek b)=some (decide (a=b))){k:K}{l:List (K×V)}:oN sk (ek k) (aJS ek ev l)=some ((qJ k l 0).map fun p=>(p.1,ev p.2)):=by
 unfold oN;rw[he,aK];exact aCM he
end
abbrev aCq(l:List (List Nat×Nat)):List (AV×AV):=aJS AV.str (fun n:Nat=>AV.int .i64 (n:Int)) l
theorem aMU{h:Ev.T AB}{b:Nat}{l:List (List Nat×Nat)}(hl:h.get b=some (.map (aCq l))){k:List Nat}{m x:cL}{F:Fr}(h1:m.val F= .map b)(h2:x.val F= .str k):iG (.lookup (.p .str) (.int .i64 0) true m x) F h=some (match lkp l k with | some v=>.tup [.int .i64 (v:Int),.bool true] | none=>.tup [.int .i64 0,.bool false]):=by
 show(aX (qL h (m.val F)) fun es=>aX (oN (.p .str) (x.val F) es) fun r=>pJ r (.int .i64 0) true)=_;rw[h1,h2];show(aX (aX (h.get b) rT) fun es=>aX (oN (.p .str) (.str k) es) fun r=>pJ r (.int .i64 0) true)=_;rw[hl,aK];show aX (some (aCq l)) _=_;rw[aK,aBN (ek:=AV.str) aIM,aK];unfold lkp;cases qJ k l 0 with
 | none=>rfl
 | some p=>rfl
theorem aKW{S:St}{b:Nat}{l:List (List Nat×Nat)}(hl:S.h.get b=some (.map (aCq l))){k:List Nat}(v:Nat)(hf:qJ k l 0=none):tO (.map b) (.p .str) (.str k) (.int .i64 (v:Int)) S=some (.undef,⟨S.h.set b (some (.map (aCq (l++ [(k,v)])))),S.nx⟩):=by
 show(aX (aX (S.h.get b) rT) fun es=>aX (oN (.p .str) (.str k) es) fun r=>some (AV.undef,(⟨S.h.set b (some (.map (aBj r es (.str k) (.int .i64 (v:Int))))),S.nx⟩:St)))=_;rw[hl,aK];show aX (some (aCq l)) _=_;rw[aK,aBN (ek:=AV.str) aIM,aK,hf];show some (AV.undef,(⟨S.h.set b (some (.map (vT (aCq l) [(.str k,.int .i64 (v:Int))]))),S.nx⟩:St))=_;rw[gD];unfold aCq aJS;rw[Dz];rfl
theorem aBx{h:Ev.T AB}{b:Nat}{l:List (List Nat×Nat)}(hl:h.get b=some (.map (aCq l))){m:cL}{F:Fr}(h1:m.val F= .map b):iG (.lenMap m) F h=some (.int .i64 ((l.length:Nat):Int)):=by
 show(aX (qL h (m.val F)) fun es=>some (AV.int .i64 (.ofNat (jH es))))=_;rw[h1];show(aX (aX (h.get b) rT) fun es=>some (AV.int .i64 (.ofNat (jH es))))=_;rw[hl,aK];show some (AV.int .i64 (.ofNat (jH (aCq l))))=_;rw[dL];unfold aCq aJS;rw[Ay];rfl
theorem aNj{F:Fr}{id:Nat}:tH .mkMap F id=some (.map id,.map []):=rfl
theorem aEU{K V:Type} [DecidableEq K]{k:K}{v:V}:∀ {l:List (K×V)} {i:Nat},qJ k l 0=some (i,v)→l[i]? =some (k,v)
 | [],i,h=>by cases h
 | (a,b)::l,i,h=>by
  have h:(if k=a then some (0,b) else qJ k l (0+1))=some (i,v):=h;by_cases e:k=a
  ·rw[if_pos e] at h;cases h;rw[e];rfl
  ·rw[if_neg e,vQ] at h;obtain⟨⟨j,w⟩,h1,h2⟩:=Au.1 h;cases h2;show l[j]? =some (k,w);exact aEU h1
theorem aHs{K V:Type} [DecidableEq K]{k:K}:∀ {l:List (K×V)},qJ k l 0=none→∀ (i:Nat) p,l[i]? =some p→p.1≠k
 | [],_,i,p,hp=>by cases hp
 | (a,b)::l,h,i,p,hp=>by
  have h:(if k=a then some (0,b) else qJ k l (0+1))=none:=h;by_cases e:k=a
  ·rw[if_pos e] at h;cases h
  ·rw[if_neg e,vQ] at h;cases i with
   | zero=>cases hp;exact fun e2=>e e2.symm
   | succ i=>exact aHs (Option.map_eq_none_iff.1 h) i p hp
structure aCo(g:bJ)(c:Nat)(K:List Int)(l:List (List Nat×Nat)):Prop where
 ok:aMS g c K
 rng:∀a,c≤a→a<g.nodes.length→∃i:Nat,K.getD a 0=((i:Nat):Int)∧l[i]? =some (oD (nodeAt g a) K,i)
 sur:∀i,i<l.length→∃a,c≤a∧a<g.nodes.length∧K.getD a 0=((i:Nat):Int)
 len:l.length+c≤g.nodes.length
section
variable {g:bJ}{c:Nat}{K:List Int}{l:List (List Nat×Nat)}
theorem aJk(hK:dI g)(hl:K.length=g.nodes.length){a b:Nat}(hab:a≤b)(hb:b<g.nodes.length){v:Int}(ha:a<g.nodes.length):oD (nodeAt g b) (K.set a v)=oD (nodeAt g b) K:=by
 refine aMa ⟨rfl,rfl,rfl,rfl,rfl⟩ ?_;unfold lO;refine Cy fun x hx=>?_;obtain⟨h1,h2⟩:=lD (hK:=hK) hb hx;rw[fP (by rw[hl];exact ha),if_neg (by omega)]
theorem aCo.old(hK:dI g)(h:aCo g (c+1) K l)(hc:c<g.nodes.length){v:Nat}(hf:lkp l (oD (nodeAt g c) K)=some v):aCo g c (K.set c ((v:Nat):Int)) l∧v<l.length:=by
 obtain⟨⟨i,w⟩,h1,h2⟩:=Au.1 hf;cases h2;have hg:=aEU h1;have hil:=(Ae.1 hg).1;obtain⟨b,b1,b2,b3⟩:=h.sur i hil;obtain⟨i',c1,c2⟩:=h.rng b b1 b2;have:i'=i:=by omega
 subst this;rw[hg] at c2;simp only[Ak,Prod.mk.injEq] at c2;obtain⟨c2,rfl⟩:=c2;have hEq:EqS g c b:=(aEs hK h.ok hc b2 (by omega) (by omega)).1 c2;have hl:=h.ok.1;have gs:∀j,(K.set c ((w:Nat):Int)).getD j 0=if j=c then((w:Nat):Int) else K.getD j 0:=fun j=>fP (by rw[hl];exact hc);refine⟨⟨⟨by rw[Bi];exact hl,fun a a' ha ha' hal hal'=>?_⟩,fun a ha hal=>?_,fun j hj=>?_,by have:=h.len;omega⟩,hil⟩
 ·rw[gs,gs];by_cases e1:a=c
  ·by_cases e2:a'=c
   ·rw[if_pos e1,if_pos e2,e1,e2];exact⟨fun _=>aDZ hK c hc,fun _=>rfl⟩
   ·rw[if_pos e1,if_neg e2,e1,←b3,h.ok.2 b a' b1 (by omega) b2 hal'];exact⟨fun k=>kJ hK c hc b b2 a' hal' hEq k,fun k=>kJ hK b b2 c hc a' hal' (qB hK c hc b b2 hEq) k⟩
  ·by_cases e2:a'=c
   ·rw[if_neg e1,if_pos e2,e2,←b3,h.ok.2 a b (by omega) b1 hal b2];exact⟨fun k=>kJ hK a hal b b2 c hc k (qB hK c hc b b2 hEq),fun k=>kJ hK a hal c hc b b2 k hEq⟩
   ·rw[if_neg e1,if_neg e2];exact h.ok.2 a a' (by omega) (by omega) hal hal'
 ·rw[gs,aJk hK hl ha hal hc];by_cases e1:a=c
  ·rw[if_pos e1,e1];exact⟨w,rfl,hg⟩
  ·rw[if_neg e1];exact h.rng a (by omega) hal
 ·obtain⟨a,a1,a2,a3⟩:=h.sur j hj;exact⟨a,by omega,a2,by rw[gs,if_neg (by omega)];exact a3⟩
theorem aCo.new(hK:dI g)(h:aCo g (c+1) K l)(hc:c<g.nodes.length)(hf:lkp l (oD (nodeAt g c) K)=none):aCo g c (K.set c ((l.length:Nat):Int)) (l++ [(oD (nodeAt g c) K,l.length)]):=by
 have hn:=aHs (Option.map_eq_none_iff.1 hf);have hl:=h.ok.1;have gs:∀j,(K.set c ((l.length:Nat):Int)).getD j 0=if j=c then((l.length:Nat):Int) else K.getD j 0:=fun j=>fP (by rw[hl];exact hc);have no:∀a,c<a→a<g.nodes.length→K.getD a 0≠((l.length:Nat):Int)∧¬EqS g c a:=fun a h1 h2=>by
  obtain⟨i,i1,i2⟩:=h.rng a (by omega) h2;have hil:=(Ae.1 i2).1;refine⟨by omega,fun e=>?_⟩;have:=(aEs hK h.ok hc h2 (by omega) (by omega)).2 e;exact hn i _ i2 this.symm
 refine⟨⟨by rw[Bi];exact hl,fun a a' ha ha' hal hal'=>?_⟩,fun a ha hal=>?_,fun j hj=>?_,by rw[Ai,Am];have:=h.len;omega⟩
 ·rw[gs,gs];by_cases e1:a=c
  ·by_cases e2:a'=c
   ·rw[if_pos e1,if_pos e2,e1,e2];exact⟨fun _=>aDZ hK c hc,fun _=>rfl⟩
   ·rw[if_pos e1,if_neg e2,e1];have:=no a' (by omega) hal';exact⟨fun k=>absurd k.symm this.1,fun k=>absurd k this.2⟩
  ·by_cases e2:a'=c
   ·rw[if_neg e1,if_pos e2,e2];have:=no a (by omega) hal;exact⟨fun k=>absurd k this.1,fun k=>absurd (qB hK a hal c hc k) this.2⟩
   ·rw[if_neg e1,if_neg e2];exact h.ok.2 a a' (by omega) (by omega) hal hal'
 ·rw[gs,aJk hK hl ha hal hc];by_cases e1:a=c
  ·rw[if_pos e1,e1];exact⟨l.length,rfl,by rw[Bb (Af _),Ct];rfl⟩
  ·rw[if_neg e1];obtain⟨i,i1,i2⟩:=h.rng a (by omega) hal;exact⟨i,i1,by rw[Ba (Ae.1 i2).1];exact i2⟩
 ·rw[Ai,Am] at hj;by_cases e:j=l.length
  ·exact⟨c,Af _,hc,by rw[gs,if_pos rfl,e]⟩
  ·obtain⟨a,a1,a2,a3⟩:=h.sur j (by omega);exact⟨a,by omega,a2,by rw[gs,if_neg (by omega)];exact a3⟩
end
end Go.Ev.Gl
namespace Go.Ev.Gl
open Go.Sort
variable {fns:T cW}
noncomputable def mI(g:bJ)(i:Nat):List Nat:=(List.range i).filter (oG g)
theorem aEQ(g:bJ)(i:Nat):mI g (i+1)=if oG g i=true then mI g i++ [i] else mI g i:=by
 unfold mI;rw[List.range_succ,List.filter_append];by_cases h:oG g i=true
 ·rw[if_pos h,List.filter_cons_of_pos h];rfl
 ·rw[if_neg h,List.filter_cons_of_neg h,List.filter_nil,Bu]
theorem oI(g:bJ)(i:Nat):(mI g i).length≤i:=by
 have:=List.length_filter_le (oG g) (List.range i)
 rwa [List.length_range] at this
theorem aDo(g:bJ)(i:Nat):(mI g i).Nodup:=List.nodup_range.filter _
theorem aAi{g:bJ}{i q:Nat}:q∈mI g i↔q<i∧oG g q=true:=by
 unfold mI;rw[List.mem_filter,Fm]
section
variable {g:bJ}{K:List Int}{l:List (List Nat×Nat)}
theorem aME(h:aCo g 0 K l){i:Nat}(hi:i<g.nodes.length):(∃j,j<i∧K.getD j 0=K.getD i 0)↔¬oG g i=true:=by
 rw[tE];constructor
 ·rintro⟨j,h1,h2⟩ h3;exact h3 j h1 ((h.ok.2 j i (Cb _) (Cb _) (by omega) hi).1 h2)
 ·intro h3;obtain⟨j,h4⟩:=Classical.not_forall.1 h3;obtain⟨h5,h6⟩:=Classical.not_imp.1 h4;exact⟨j,h5,(h.ok.2 j i (Cb _) (Cb _) (by omega) hi).2 (Classical.not_not.1 h6)⟩
theorem aAB(h:aCo g 0 K l){i:Nat}(hi:i<g.nodes.length):∃k:Nat,K.getD i 0=((k:Nat):Int)∧k<l.length:=by
 obtain⟨k,k1,k2⟩:=h.rng i (Cb _) hi;exact⟨k,k1,(Ae.1 k2).1⟩
theorem aDb{F:List Nat}(hp:F.Perm (mI g g.nodes.length)){p q:Nat}(h:F[p]? =some q):q<g.nodes.length∧oG g q=true:=aAi.1 (hp.mem_iff.1 (Ar h))
theorem aM4(hK:dI g)(h:aCo g 0 K l){F:List Nat}(hp:F.Perm (mI g g.nodes.length)){N:List Int}(hN:N.length=l.length){i q:Nat}(hq:F[i]? =some q)(hI:∀p q,p<i→F[p]? =some q→N.getD (K.getD q 0).toNat 0=(p:Int)):∀p r,p<i+1→F[p]? =some r→(N.set (K.getD q 0).toNat (i:Int)).getD (K.getD r 0).toNat 0=(p:Int):=by
 intro p r hpi hr;obtain⟨q1,q2⟩:=aDb hp hq;obtain⟨r1,r2⟩:=aDb hp hr;obtain⟨k,k1,k2⟩:=aAB h q1;rw[fP (by rw[hN,k1];exact k2)];by_cases e:p=i
 ·subst e;rw[hq] at hr;cases hr;rw[if_pos rfl]
 ·obtain⟨k',k3,k4⟩:=aAB h r1;rw[if_neg,hI p r (by omega) hr];intro e2;have e3:K.getD r 0=K.getD q 0:=by omega
  have e4:=pR hK r1 q1 r2 q2 ((h.ok.2 r q (Cb _) (Cb _) r1 q1).1 e3);subst e4;have nd:F.Nodup:=hp.nodup_iff.2 (aDo g _);obtain⟨p1,p2⟩:=Ae.1 hr;obtain⟨i1,i2⟩:=Ae.1 hq;exact(Dr.1 nd p i p1 i1 (by omega)) (p2.trans i2.symm)
theorem aPd(hK:dI g)(h:aCo g 0 K l){H:List Int}{F:List Nat}(hp:F.Perm (mI g g.nodes.length))(hs:F.Pairwise (bef H)){N C:List Int}(hI:∀p q,p<F.length→F[p]? =some q→N.getD (K.getD q 0).toNat 0=(p:Int))(hC:C.length=g.nodes.length)(hc:∀i,i<g.nodes.length→C.getD i 0=N.getD (K.getD i 0).toNat 0):iV g H F C:=by
 refine⟨hp,hs,hC,fun i hi=>?_⟩;obtain⟨j,j1,j2,j3⟩:=aIw hK hi;have hm:j∈F:=hp.mem_iff.2 (aAi.2 ⟨by omega,j2⟩);obtain⟨p,hpj⟩:=Ep hm;have hpl:=(Ae.1 hpj).1;refine⟨p,j,hpj,?_,j3⟩;rw[hc i hi,← (h.ok.2 j i (Cb _) (Cb _) (by omega) hi).2 j3];exact hI p j hpl hpj
theorem aJZ{H:List Int}{a b:Nat}(h:¬bef H b a)(hne:a≠b):bef H a b:=by
 unfold bef at *;omega
end
end Go.Ev.Gl
namespace Go.Ev.Gl
open Go.Sort
variable {fns:T cW}
def oT(L:List Nat):List Int:=L.map fun q=>((q:Nat):Int)
theorem nD(L:List Nat):(oT L).length=L.length:=by unfold oT;rw[Ay]
theorem aGD{L:List Nat}{i q:Nat}(h:L[i]? =some q):(oT L).getD i 0=(q:Int):=by
 unfold oT;rw[Ag,Bf,h];rfl
def kV(q:Nat):AV:=.int .i64 (q:Int)
theorem aCS(L:List Nat):bG (oT L)=L.map kV:=by
 unfold bG oT;rw[Fp];rfl
noncomputable def aQg(H:Has fns)(N b hb ob n:Nat)(h:List Int)(v:AV)(hN:h.length=N)(hv:0<n→∃cap o,v= .sl b 0 n cap o)(hn:n≤1000000000)(h1:hb≠b)(h2:ob≠b):Ctx fns false 1 where
 b:=b
 off:=0
 n:=n
 v:=v
 opn:=true
 sz:=1
 pre:=[]
 post:=[]
 cl:=fun x=>[x]
 P:=fun x=>∃q,q<N∧x=kV q
 f:=.fn 60 [] [.ptr hb 0]
 I:=fun S=>hb<S.nx∧ob<S.nx∧S.h.get hb=some (.cells [.sl ob 0 N N false] false 0)∧S.h.get ob=some (.cells (bG h) false 0)
 lt:=ltK h
 hpre:=rfl
 hcl:=by
  rintro x ⟨q,_,rfl⟩;refine⟨rfl,?_,rfl,rfl⟩;simp [kV,cJ,eG,aL,kG]
 hv:=hv
 hn:=hn
 hI:=fun S S' ⟨a1,a2,a3,a4⟩ hs=>⟨Ah a1 hs.1,Ah a2 hs.1,(hs.2 _ a1 h1).trans a3,(hs.2 _ a2 h2).trans a4⟩
 cmp:=by
  rintro S x y ⟨a1,a2,a3,a4⟩ ⟨q,hq,rfl⟩ ⟨r,hr,rfl⟩;refine aN (aJL (h:=h) (q:=q) (r:=r) H a3 a1 (lB a4 a2 hN) (by omega) (by omega)) ?_;rintro _ S' ⟨rfl,hS⟩;refine⟨hS,_,rfl,?_⟩;exact decide_eq_decide.2 (aLt h q r)
theorem aPk{S0 S:St}{v:AV}{N hb ob:Nat}{h:List Int}{L:List Nat}(H:Has fns)(hN:h.length=N)(hS:Same S0 S)(hg:iD 1 S0 S v L.length (L.map kV))(hpos:0<L.length)(hL:∀q∈L,q<N)(hnd:L.Nodup)(hn:L.length≤1000000000)(h1:hb<S.nx)(h2:ob<S.nx)(h3:S.h.get hb=some (.cells [.sl ob 0 N N false] false 0))(h4:S.h.get ob=some (.cells (bG h) false 0))(n1:aU v≠some hb)(n2:aU v≠some ob):fR fns (.fn 59 [] []) [v,.fn 60 [] [.ptr hb 0]] S fun _ S'=>∃F:List Nat,F.Perm L∧F.Pairwise (bef h)∧iD 1 S0 S' v F.length (F.map kV)∧S.nx≤S'.nx∧∀c,c<S.nx→aU v≠some c→S'.h.get c=S.h.get c:=by
 rcases hg with⟨_,e0,_⟩ | ⟨b,rfl,k1,k2,k3,k4⟩
 ·omega
 have nb1:hb≠b:=fun e=>n1 (by rw[e];rfl);have nb2:ob≠b:=fun e=>n2 (by rw[e];rfl);obtain⟨C,hC⟩:∃C,C=aQg H N b hb ob L.length h (.sl b 0 L.length L.length true) hN (fun _=>⟨_,true,rfl⟩) hn nb1 nb2:=⟨_,rfl⟩;have hat:C.At S (L.map kV).toArray:=by
  subst hC;refine⟨by simp [aQg],fun i hi=>?_,fun h0=>⟨k2,?_⟩⟩
  ·have hi:i<L.length:=hi;have:=aOX (L.map kV).toArray (i:=i) (by simpa using hi);rw[List.toList_toArray,Bf,Ad hi] at this;exact⟨L[i],hL _ (Ck hi),(by simpa using this.symm)⟩
  ·show S.h.get b=some (.cells ([]++(L.map kV).toArray.toList.flatMap (fun x=>[x])++ []) true 1);rw[k3,Bh,Bu,List.toList_toArray];simp
 have sp:=aEo (C:=C) H (by subst hC;exact aNx h) hat (by subst hC;exact⟨h1,h2,h3,h4⟩) (by subst hC;rfl);have e1:C.v= .sl b 0 L.length L.length true:=by subst hC;rfl
 have e2:C.f= .fn 60 [] [.ptr hb 0]:=by subst hC;rfl
 have e3:C.n=L.length:=by subst hC;rfl
 have e4:C.lt=ltK h:=by subst hC;rfl
 have e5:C.b=b:=by subst hC;rfl
 rw[e1,e2] at sp;refine aN sp ?_;rintro _ S' ⟨e,on,pm,so⟩;rw[e3] at pm so;rw[e4] at so;have hes:e.size=L.length:=by rw[on.1.1,e3]
 have hel:e.toList=(e.toList.map aBv).map kV:=by
  rw[Fp]
  conv=>lhs;rw[←List.map_id e.toList]
  refine Cy fun x hx=>?_;have:∃q,q<N∧x=kV q:=by
   have:=on.1.all x hx;subst hC;exact this
  obtain⟨q,_,rfl⟩:=this;simp [aBv,kV]
 have pm2:e.toList.Perm (L.map kV):=by
  have:=pm.2.2
  rwa [show(L.map kV).toArray.extract 0 L.length=(L.map kV).toArray by rw[show L.length=(L.map kV).toArray.size by simp,Array.extract_size],show e.extract 0 L.length=e by rw[←hes,Array.extract_size]] at this
 have pmL:(e.toList.map aBv).Perm L:=by
  have:=pm2.map aBv;rw[Fp] at this;have e0:L.map (aBv ∘ kV)=L:=by
   conv=>rhs;rw[←List.map_id L]
   refine Cy fun q _=>?_;simp [aBv,kV]
  rwa [e0] at this
 have ndE:(e.toList.map aBv).Nodup:=pmL.nodup_iff.2 hnd;refine⟨e.toList.map aBv,pmL,?_,?_,on.2.2.1,fun c hc hne=>on.2.2.2 c hc fun e6=>hne (by rw[e6,e5];rfl)⟩
 ·rw[Dr];intro i j hi hj hij;rw[Ay,Cz] at hi hj;have h5:=so i j (Cb _) hij (by omega);rw[Fq e j hj,Fq e i hi] at h5;have h6:¬bef h (aBv e[j]) (aBv e[i]):=of_decide_eq_false h5;have h7:=(Dr.1 ndE) i j (by simpa using hi) (by simpa using hj) hij;simp only[Ei,Array.getElem_toList] at h7 ⊢;exact aJZ h6 h7
 ·obtain⟨m1,m2⟩:=on.1.2.2 (by rw[e3];exact hpos);rw[e5] at m1 m2;have el:(e.toList.map aBv).length=L.length:=by simp [hes]
  rw[el,←hel];refine .inr ⟨b,rfl,k1,m1,?_,by simp [hes]⟩;rw[m2];subst hC;show some (AB.cells ([]++e.toList.flatMap (fun x=>[x])++ []) true 1)=_;rw[Bh,Bu];simp
end Go.Ev.Gl
