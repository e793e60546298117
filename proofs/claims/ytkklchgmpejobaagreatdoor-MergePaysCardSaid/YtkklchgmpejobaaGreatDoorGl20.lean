import Derived.Test.YtkklchgmpejobaaGreatDoorGl19
open Nat renaming reduceEqDiff → rE, reduceAdd → rA
set_option maxHeartbeats 16000000
set_option linter.unusedSimpArgs false
set_option linter.unusedVariables false
namespace Go.Ev.Gl
open Go.Sort
variable {fns:T cV}
theorem aJe{u:Nat}(h:u≤18446744073709551615):(eK u).length≤20:=(vV u 19).2 (Dn h (by decide))
def Rng(z:Int):Prop:= -9223372036854775808≤z∧z≤9223372036854775807
theorem aIZ{z:Int}(h:Rng z):(mU z).length≤21:=by
 unfold Rng at h;unfold mU;split
 ·rw[Am];have:=aJe (u:=z.natAbs) (by omega);omega
 ·have:=aJe (u:=z.toNat) (by omega);omega
def TxF(X:St)(ob:Nat)(v:AV)(X':St):Prop:=X.nx≤X'.nx∧∀c,c<X.nx→c≠ob→aT v≠some c→X'.h.get c=X.h.get c
structure TxB(T0 X:St)(ob:Nat)(v:AV)(l:List Nat):Prop where
 gob:X.h.get ob=some (.cells [v] false 0)
 lt:ob<X.nx
 gw:gQ 1 T0 X v l.length (u8s l)
 sm:Same T0 X
 o0:T0.nx≤ob
def aPJ(fns:Ev.T cV)(X:St)(ob:Nat)(v f:AV)(φ:Int→Int)(L:List Int):Prop:=∀n∈L,∀Y,TxF X ob v Y→fR fns f [.int .i64 n] Y fun r Y'=>r= .int .i64 (φ n)∧Same Y Y'
theorem TxF.refl(X:St)(ob:Nat)(v:AV):TxF X ob v X:=⟨Ag _,fun _ _ _ _=>rfl⟩
theorem TxB.off{T0 X:St}{ob:Nat}{v:AV}{l:List Nat}(h:TxB T0 X ob v l):aT v≠some ob:=h.gw.off h.gob
theorem aLg{t:Nat}{F:Fr}{id:Nat}{n:Int}:tQ (.bslice t 1 1 [.int .u8 (.ofNat 0)] [(0,.c (.int .u8 n))]) F id=some (.sl id 0 1 1 false,.cells [.int .u8 n] false 0):=kQ rfl
theorem TxB.byte{T0 X X1:St}{ob t:Nat}{v:AV}{l:List Nat}{b:Nat}(h:TxB T0 X ob v l)(x1:Same X X1)(ht:X1.h.get t=some (.cells [.int .u8 (b:Int)] false 0))(hl:l.length≤100000000):∃v' S' S'',iA 1 1 v (.sl t 0 1 1 false) X1=some (v',S')∧v'.cells=some [v']∧lI (.ptr ob 0) 1 [v'] S'=some (.undef,S'')∧TxB T0 S'' ob v' (l++ [b])∧X.nx≤S''.nx∧(∀c,c<X.nx→c≠ob→aT v≠some c→S''.h.get c=X.h.get c)∧∀c,aT v'=some c→X.nx≤c:=by
 obtain⟨v',S',e1,f1,f2,f3,f4,f5⟩:=xA (m:=[b]) (h.gw.step x1) (h.sm.trans x1) (x:=.sl t 0 1 1 false) rfl (aNU ht) (by simp) (by simp;omega);have n1:=x1.1;have gob:S'.h.get ob=some (.cells [v] false 0):=(f4 ob (by have:=h.lt;omega) h.off).trans ((x1.2 ob h.lt).trans h.gob);refine⟨v',S',_,e1,f1.cells,xW (cs:=[v]) (p:=0) gob (by simp),⟨by simp only;rw[T.get_set,if_pos rfl];rfl,by show ob<S'.nx;have:=h.lt;omega,f1.move (Ag _) fun c hc=>?_,⟨by show T0.nx≤S'.nx;exact f2.1,fun c hc=>?_⟩,h.o0⟩,by show X.nx≤S'.nx;omega,fun c hc h1 h2=>?_,fun c hc=>by have:=f5 c hc;omega⟩
 ·have:=f5 c hc;have:=h.lt;simp only;rw[T.get_set,if_neg (by omega)]
 ·have:=h.o0;simp only;rw[T.get_set,if_neg (by omega)];exact f2.2 c hc
 ·simp only;rw[T.get_set,if_neg h1,f4 c (by omega) h2];exact x1.2 c hc
theorem TxB.old{T0 X:St}{ob:Nat}{v a:AV}{l:List Nat}{L:List Int}(h:TxB T0 X ob v l)(ha:cD .i64 T0 a L):∀Y,TxF X ob v Y→cD .i64 Y a L:=fun Y hY=>eY (ha.same h.sm) hY.1 fun c hc=>by
 have h1:=dG ha hc;have h2:=h.sm.1;have h3:=h.o0;exact hY.2 c (by omega) (by omega) fun e=>by have:=(h.gw.blk e).1;omega
theorem aC6{W:Nat→Prop}(K:Nat){ops:List AO}{A:bQ}{S:St}{Q:Out→bQ→St→Prop}{R:Fr→St→List iM→Prop}(hK:(ops.take K).length=K)(hm:((ops.take K).all fun o=>decide (o.mask<2 ^ K))=true)
  (h:∀S1,Same S S1→S1.h=S.h→S1.nx=S.nx+ops.length→gG fns W S.h S.nx (ops.take K) 0 A.F S1 [] none R)
  (h2:∀F S' ps hs ls,R F S' ps→(∀m,(∀i,i<K→Nat.testBit m i=true)→iS hs m=true)→(∀m h' r,(∀i,i<K→Nat.testBit m i=true)→fK S.h (hs.reverse++(K,m,h')::r) ls=true)→xF fns (ops.drop K) K S.nx ⟨F,S',ps,hs,ls⟩ fun D'=>fK S.h D'.hs.reverse D'.ls=true∧Q .normal ⟨D'.F,A.inr⟩ ⟨(cG (2 ^ ops.length - 1) D'.ps D'.S.h).2,D'.S.nx⟩):lJ fns (.drw ops) A S Q:=
 uV (pre:=ops.take K) (suf:=ops.drop K) (Ej K ops).symm hK hm h h2
def TxI(T0 X0:St)(ob:Nat)(v0 a f:AV)(φ:Int→Int)(l:List Nat)(L:List Int)(k:Nat)(A:bQ)(X:St):Prop:=A.inr=false∧TxF X0 ob v0 X∧aD 1 A.F=f∧aD 2 A.F= .ptr ob 0∧aD 7 A.F=a∧aD 8 A.F= .int .i64 (L.length:Int)∧∃ (i:Nat) (v:AV),i+k=L.length∧aD 9 A.F= .int .i64 (i:Int)∧TxB T0 X ob v (l++(L.take i).flatMap (fun n=>mU (φ n)++ [44]))∧∀c,c<X0.nx→aT v=some c→aT v0=some c
theorem aFB{φ:Int→Int}{L:List Int}(h:∀n∈L,Rng (φ n)):(L.flatMap (fun n=>mU (φ n)++ [44])).length≤22 * L.length:=by
 induction L with
 | nil=>simp
 | cons a L ih=>
  have h1:=aIZ (h a (by simp));have h2:=ih fun n hn=>h n (by simp [hn]);rw[Dg,Ai,Ai,Am];simp only[Am,Bo];omega
theorem xJ{T0 X0:St}{ob:Nat}{v0 a f:AV}{φ:Int→Int}{l:List Nat}{L:List Int}(H:Has fns)(hL:kA T0)(hB:TxB T0 X0 ob v0 l)(ha:∀Y,TxF X0 ob v0 Y→cD .i64 Y a L)(hN:aPJ fns X0 ob v0 f φ L)(hr:∀n∈L,Rng (φ n))(hl:l.length≤10000000)(hLl:L.length≤100000):fR fns (.fn 74 [] [.ptr ob 0]) [a,f] X0 fun _ X=>∃v,TxF X0 ob v0 X∧TxB T0 X ob v (l++pI (L.map φ))∧∀c,c<X0.nx→aT v=some c→aT v0=some c:=by
 refine cE H.f74 (by simp) ?_;refine ah ?_;refine aC (bD (Q:=fun o A' X=>o= .normal∧A'.inr=false∧TxF X0 ob v0 X∧aD 2 A'.F= .ptr ob 0∧∃v,TxB T0 X ob v (l++L.flatMap (fun n=>mU (φ n)++ [44]))∧∀c,c<X0.nx→aT v=some c→aT v0=some c) (aC (aG ?_)) ?_)
 ·simp only[↓aA,aB,rE,↓reduceIte,(ha X0 (TxF.refl _ _ _)).len];refine aN (bT (TxI T0 X0 ob v0 a f φ l L) ?_ L.length _ _ ⟨rfl,TxF.refl _ _ _,ae,ae,ae,ae,0,v0,by omega,ae,by simpa using hB,fun c _ h=>h⟩);rintro k ⟨F,inr⟩ X ⟨q0,hF,p1,p2,p7,p8,i,v,hik,p9,hB,hv⟩;simp only at q0 p1 p2 p7 p8 p9;subst q0;refine cC ?_;simp only[↓aA,aB,rE,↓reduceIte,p8,p9,zV];by_cases hi:i<L.length;rotate_left
  ·refine aC (aO (by simp only[↓aA,aB,rE,↓reduceIte,Aa hi]) (bK ?_));rw[Bj (by omega)] at hB;exact⟨rfl,rfl,hF,ag p2,v,hB,hv⟩
  refine aC (aR (by simp only[↓aA,aB,rE,↓reduceIte,Ad hi]) (aM ?_));try simp only[↓aA,aB,rE,↓reduceIte]
  have hil:L.getD i 0∈L:=by
   rw[Ae,Ab hi];exact Br hi
  have ia:=(ha X hF).iaddr hi;have la:=(ha X hF).ld hi;refine aC (aN (aC (aG ?_)));simp only[↓aA,aB,rE,↓reduceIte,p7,p9,aH,ia,la];obtain⟨n,hn⟩:∃n,n=L.getD i 0:=⟨_,rfl⟩;rw[←hn] at hil ⊢;have lob:dB (.ptr ob 0) false 1 X.h=some v:=cS hB.gob rfl;have hsv:cM v v=true:=hB.gw.self;have hlen:(l++(L.take i).flatMap (fun n=>mU (φ n)++ [44])).length≤20000000:=by
   rw[Ai];have:=aFB (φ:=φ) (L:=L.take i) fun m hm=>hr m (Dm hm);rw[Cc] at this;omega
  obtain⟨l1,hl1⟩:∃l1,l1=l++(L.take i).flatMap (fun n=>mU (φ n)++ [44]):=⟨_,rfl⟩;rw[←hl1] at hB hlen;refine aC (aC6 (W:=fun c=>aT v=some c) (R:=fun F' X' ps=>ps= []∧aMU T0 X X' v (aD 17 F') (l1++mU (φ n))∧aD 2 F'= .ptr ob 0∧aD 1 F'=f∧aD 7 F'=a∧aD 8 F'= .int .i64 (L.length:Int)∧aD 9 F'= .int .i64 (i:Int)) 5 rfl (by decide) ?_ ?_)
  ·intro S1 s1 hS1 nS1;simp only[Bk,Bu];have hlt:=hB.lt;have hoff:=hB.off;simp only[↓sU,sD,rE,↓reduceIte,rA,p1,p2,lob,hsv,hlt,hoff,Ay];refine cP rfl ?_;simp only[↓sU,sD,rE,↓reduceIte,rA,p1];have hFS:TxF X0 ob v0 S1:=⟨Ap hF.1 s1.1,fun c hc h1 h2=>(s1.2 c (Ah hc hF.1)).trans (hF.2 c hc h1 h2)⟩;refine aP (hN n hil S1 hFS) ?_;rintro _ Y ⟨rfl,hY⟩;refine⟨hY,?_⟩;have sXY:=s1.trans hY;try simp only[↓sU,sD,rE,↓reduceIte,rA]
   refine jC rfl ?_;refine am ?_;refine aP (aE5 H (hL.same (hB.sm.trans sXY)) (hB.gw.step sXY) (hB.sm.trans sXY) (hr n hil) (by omega)) ?_;rintro r Z ⟨f1,f2,f3,f4,f5⟩;have nY:=sXY.1;have f3:Y.nx≤Z.nx:=f3;refine⟨⟨f3,fun c hc hne=>f4 c (Ah hc nY) hne⟩,?_⟩;try simp only[↓sU,sD,rE,↓reduceIte,rA]
   exact⟨⟨f1,f2,by omega,fun c hc hne=>(f4 c (Ah hc nY) hne).trans (sXY.2 c hc),fun c hc=>Ap nY (f5 c hc)⟩,p2,p1,p7,p8,p9⟩
  rintro F' X' ps hs ls ⟨rfl,⟨f1,f2,f3,f4,f5⟩,t2,t1,t7,t8,t9⟩ hlast hld;have m1:∀i,i<5→Nat.testBit 31 i=true:=by decide
  have gob:X'.h.get ob=some (.cells [v] false 0):=(f4 ob hB.lt hB.off).trans hB.gob;simp only[List.drop_succ_cons,Ct];refine jR (v:=.undef) (S1:=⟨X'.h.set ob (some (.cells [aD 17 F'] false 0)),X'.nx⟩) (hlast _ m1) (fun call=>?_) ?_
  ·rw[dD];simp only[fW,t2,f1.cells,aK,cB];exact xW (cs:=[v]) (p:=0) gob (by simp)
  rw[iL];refine⟨?_,?_⟩
  ·simp only[Cn,Ba,Co,Bl,Bh];exact hld _ _ _ m1
  simp only[cB,dR];obtain⟨X2,hX2⟩:∃X2:St,X2=⟨X'.h.set ob (some (.cells [aD 17 F'] false 0)),X'.nx⟩:=⟨_,rfl⟩;rw[←hX2];have hB2:TxB T0 X2 ob (aD 17 F') (l1++mU (φ n)):=by
   rw[hX2];refine⟨by simp only;rw[T.get_set,if_pos rfl],by show ob<X'.nx;have:=hB.lt;omega,f1.move (Ag _) fun c hc=>?_,⟨f2.1,fun c hc=>?_⟩,hB.o0⟩
   ·have:=f5 c hc;have:=hB.lt;simp only;rw[T.get_set,if_neg (by omega)]
   ·have:=hB.o0;simp only;rw[T.get_set,if_neg (by omega)];exact f2.2 c hc
  have k2:∀c,c<X.nx→c≠ob→aT v≠some c→X2.h.get c=X.h.get c:=fun c hc h1 h2=>by
   rw[hX2];simp only;rw[T.get_set,if_neg h1];exact f4 c hc h2
  have n2:X.nx≤X2.nx:=by rw[hX2];exact f3
  obtain⟨w,hw⟩:∃w,w=aD 17 F':=⟨_,rfl⟩;rw[←hw] at hB2 f5;have lob2:dB (.ptr ob 0) false 1 X2.h=some w:=cS hB2.gob rfl;clear hX2 hld hlast gob f1 f2 f3 f4 hw;try simp only[↓aA,aB,rE,↓reduceIte]
  refine aG ?_;simp only[↓aA,aB,rE,↓reduceIte,t2,lob2];refine fX (aLg (n:=44)) ?_;intro X3 x3 n3 g3;try simp only[↓aA,aB,rE,↓reduceIte,t2]
  have hdl:(l1++mU (φ n)).length≤100000000:=by
   rw[Ai];have:=aIZ (hr n hil);omega
  obtain⟨w2,X4,X5,e1,e2,e3,hB5,n5,k5,b5⟩:=hB2.byte (b:=44) x3 g3 hdl;refine eR (v:=w2) (S1:=X4) (fun call=>by rw[fJ];simp only[↓aA,aB,rE,↓reduceIte];exact e1) ?_;try simp only[↓aA,aB,rE,↓reduceIte,t2]
  refine eR (v:=.undef) (S1:=X5) (fun call=>by rw[dD];simp only[↓aA,aB,rE,↓reduceIte,t2,e2];exact e3) ?_;refine ac ?_;refine aG ?_;simp only[↓aA,aB,rE,↓reduceIte,t9,fA (a:=i) (by omega)];have hX0:=hF.1;refine⟨k - 1,by omega,rfl,⟨by omega,fun c hc h1 h2=>?_⟩,ag t1,ag t2,ag t7,ag t8,i+1,w2,by omega,ae,?_,fun c hc e=>?_⟩
  ·rw[k5 c (by omega) h1 (fun e=>by have:=f5 c e;omega),k2 c (by omega) h1 (fun e=>h2 (hv c hc e))];exact hF.2 c hc h1 h2
  ·have e:l++(L.take (i+1)).flatMap (fun n=>mU (φ n)++ [44])=l1++mU (φ n)++ [44]:=by
    rw[Bw,List.flatMap_append,←Ba,←hl1,Ba];have:L[i]? =some n:=by rw[hn,Ae,Ab hi];rfl
    rw[this];simp
   rw[e];exact hB5
  ·have:=b5 c e;omega
 rintro o ⟨F,inr⟩ X ⟨rfl,q0,hF,p2,v,hB,hv⟩;simp only at q0 p2;subst q0;have lob:dB (.ptr ob 0) false 1 X.h=some v:=cS hB.gob rfl;try simp only[↓aA,aB,rE,↓reduceIte]
 refine aG ?_;simp only[↓aA,aB,rE,↓reduceIte,p2,lob];refine fX (aLg (n:=59)) ?_;intro X3 x3 n3 g3;try simp only[↓aA,aB,rE,↓reduceIte,p2]
 obtain⟨w2,X4,X5,e1,e2,e3,hB5,n5,k5,b5⟩:=hB.byte (b:=59) x3 g3 (by
  rw[Ai];have:=aFB hr;omega)
 refine eR (v:=w2) (S1:=X4) (fun call=>by rw[fJ];simp only[↓aA,aB,rE,↓reduceIte];exact e1) ?_;try simp only[↓aA,aB,rE,↓reduceIte,p2]
 refine eR (v:=.undef) (S1:=X5) (fun call=>by rw[dD];simp only[↓aA,aB,rE,↓reduceIte,p2,e2];exact e3) ?_;have hX0:=hF.1;refine ac ?_;refine⟨_,rfl,w2,⟨by omega,fun c hc h1 h2=>(k5 c (by omega) h1 (fun e=>h2 (hv c hc e))).trans (hF.2 c hc h1 h2)⟩,?_,fun c hc e=>by have:=b5 c e;omega⟩;have e:l++pI (L.map φ)=l++L.flatMap (fun n=>mU (φ n)++ [44])++ [59]:=by
  unfold pI;rw[List.flatMap_map,Ba]
 rw[e];exact hB5
end Go.Ev.Gl
namespace Go.Ev.Gl
open Go.Sort
variable {fns:T cV}
theorem aK1{S:St}{n:Int}(H:Has fns):fR fns (.fn 76 [] []) [.int .i64 n] S fun r S'=>r= .int .i64 n∧Same S S':=by
 refine cE H.f76 (by simp) ?_;refine ah ?_;refine cC ?_;refine ac ?_;refine cC ?_;refine ac ?_;refine aU ?_;simp only[↓aA,aB,rE,↓reduceIte];exact Same.refl _
theorem aJ1{S:St}{kb:Nat}{kv:AV}{K:List Int}{c:Int}(H:Has fns)(hk:S.h.get kb=some (.cells [kv] false 0))(hK:cD .i64 S kv K)(h0:0≤c)(h1:c.toNat<K.length):fR fns (.fn 77 [] [.ptr kb 0]) [.int .i64 c] S fun r S'=>r= .int .i64 (K.getD c.toNat 0)∧Same S S':=by
 have l0:dB (.ptr kb 0) false 1 S.h=some kv:=cS hk rfl;have sk:=cD.self hK;refine cE H.f77 (by simp) ?_;refine ah ?_;refine cC ?_;refine ac ?_;refine cC ?_;simp only[↓aA,aB,rE,↓reduceIte,l0,sk,oZ _ h0,hK.iaddr h1,hK.ld h1];refine aU ?_;simp only[↓aA,aB,rE,↓reduceIte];exact Same.refl _
theorem aQK{t:Nat}{z:AV}{x y w:cK}{F:Fr}{id:Nat}{n m k:Int}(hx:x.val F= .int .i64 n)(hy:y.val F= .int .i64 m)(hw:w.val F= .int .i64 k):tQ (.bslice t 1 3 [z] [(0,x),(1,y),(2,w)]) F id=some (.sl id 0 3 3 false,.cells (bG [n,m,k]) false 0):=by
 show(aX (fG (repeatL [z] 3) [(0 * 1,1,x.val F),(1 * 1,1,y.val F),(2 * 1,1,w.val F)]) fun cs=>some (AV.sl id 0 3 3 false,AB.cells cs false 0))=_;rw[hx,hy,hw];rfl
theorem aCm{l:List Int}:∀d∈pI l,d≤255:=fun d hd=>by
 unfold pI at hd;rcases Bf.1 hd with hd | hd
 ·obtain⟨n,_,hd⟩:=List.mem_flatMap.1 hd;rcases Bf.1 hd with hd | hd
  ·unfold mU at hd;split at hd
   ·rcases Bi.1 hd with rfl | hd
    ·decide
    ·have:=wG _ d hd;omega
   ·have:=wG _ d hd;omega
  ·have:=Cb.1 hd;omega
 ·have:=Cb.1 hd;omega
theorem aOC{x:bU}{K:List Int}:∀d∈nT x K,d≤255:=fun d hd=>by
 unfold nT at hd;rcases Bf.1 hd with hd | hd
 ·exact aCm d hd
 rcases Bf.1 hd with hd | hd
 ·exact aCm d hd
 rcases Bf.1 hd with hd | hd
 ·exact aCm d hd
 ·exact aCm d hd
theorem aDC{L:List Int}(h:∀n∈L,Rng n):(pI L).length≤22 * L.length+1:=by
 have:=aFB (φ:=id) (L:=L) h;unfold pI;rw[Ai];simp only[id_eq] at this;simp only[Am,Bo];omega
structure aON(x:bU):Prop where
 k:Rng x.kind
 p:Rng x.player
 i:Rng x.info
 w:∀n∈x.weights,Rng n
 y:∀n∈x.pay,Rng n
theorem aKn{S:St}{nv wv pv kv:AV}{x:bU}{K:List Int}(H:Has fns)(hL:kA S)(hn:cD .i64 S nv x.next)(hw:cD .i64 S wv x.weights)(hp:cD .i64 S pv x.pay)(hK:cD .i64 S kv K)(hf:aON x)(hc:∀c∈x.next,0≤c∧c.toNat<K.length∧Rng (K.getD c.toNat 0))(b1:x.next.length≤1000)(b2:x.weights.length≤1000)(b3:x.pay.length≤1000):
  fR fns (.fn 57 [] []) [.agg [.int .i64 x.kind,.int .i64 x.player,.int .i64 x.info,nv,wv,pv],kv] S fun r S'=>r= .str (nT x K)∧Same S S':=by
 refine cE H.f57 (by simp) ?_;refine ah ?_;refine cC ?_;refine eH (cs:=[.int .i64 x.kind,.int .i64 x.player,.int .i64 x.info,nv,wv,pv]) rfl ?_;intro S1 s1 n1 c1;refine eH (cs:=[kv]) (by simp only[↓aA,aB,rE,↓reduceIte];exact cD.cells hK) ?_;intro S2 s2 n2 c2;refine ac ?_;refine aC (aG (cR ?_));intro S3 s3 n3 c3;have s13:=s1.trans (s2.trans s3);have g1:S3.h.get S.nx=some (.cells [.int .i64 x.kind,.int .i64 x.player,.int .i64 x.info,nv,wv,pv] false 0):=((s3.2 _ (by omega)).trans (s2.2 _ (by omega))).trans c1;have g2:S3.h.get S1.nx=some (.cells [kv] false 0):=(s3.2 _ (by omega)).trans c2;have hB:TxB S S3 S2.nx .nilsl []:=⟨c3,by omega,.inl ⟨rfl,rfl,rfl⟩,s13,by omega⟩;have no:∀ {a b:Nat},a<b→a≠b:=fun h=>by omega
 try simp only[↓aA,aB,rE,↓reduceIte]
 refine cC ?_;simp only[↓aA,aB,rE,↓reduceIte,qK,mJ];refine cC ?_;simp only[↓aA,aB,rE,↓reduceIte];have ld:∀ (X:St) (v:AV) (j:Nat) (y:AV),TxF S3 S2.nx v X→aT v≠some S.nx→ [AV.int .i64 x.kind,.int .i64 x.player,.int .i64 x.info,nv,wv,pv][j]? =some y→dB (.ptr S.nx (0+j)) false 1 X.h=some y:=fun X v j y hF hv hj=>ldc ((hF.2 _ (by omega) (by omega) hv).trans g1) hj;have f0:=TxF.refl S3 S2.nx .nilsl;refine cC ?_;simp only[↓aA,aB,rE,↓reduceIte,aE,aF,aW,ld S3 .nilsl 0 _ f0 (by intro h;cases h) rfl,ld S3 .nilsl 1 _ f0 (by intro h;cases h) rfl,ld S3 .nilsl 2 _ f0 (by intro h;cases h) rfl];refine fX (aQK (n:=x.kind) (m:=x.player) (k:=x.info) (ae) (ae) (ae)) ?_;intro S4 s4 n4 c4;try simp only[↓aA,aB,rE,↓reduceIte]
 refine aY ?_;try simp only[↓aA,aB,rE,↓reduceIte]
 have hB4:TxB S S4 S2.nx .nilsl []:=⟨(s4.2 _ (by omega)).trans c3,by omega,.inl ⟨rfl,rfl,rfl⟩,s13.trans s4,by omega⟩;have f4:TxF S3 S2.nx .nilsl S4:=⟨s4.1,fun c hc _ _=>s4.2 c hc⟩;have lit:∀Y,TxF S4 S2.nx .nilsl Y→cD .i64 Y (.sl S3.nx 0 3 3 false) [x.kind,x.player,x.info]:=fun Y hY=>mG (o:=false) (sz:=0) ((hY.2 S3.nx (by omega) (by omega) (by intro h;cases h)).trans c4) (by have:=hY.1;omega) rfl;have nam:∀ (X:St) (v:AV) (L:List Int),aPJ fns X S2.nx v (.fn 76 [] []) id L:=fun X v L n _ Y _=>aK1 H;have rg:∀n∈ [x.kind,x.player,x.info],Rng (id n):=fun n hn=>by
  simp only[Bi,List.not_mem_nil,or_false] at hn;rcases hn with rfl | rfl | rfl
  ·exact hf.k
  ·exact hf.p
  ·exact hf.i
 refine aP (xJ H hL hB4 lit (nam _ _ _) rg (by simp) (by simp)) ?_;rintro _ X ⟨v1,tf1,hB,hv1⟩;rw[Bh,Fy] at hB;have comp:∀ {X0 X1 X2:St} {u0 u1:AV},TxF X0 S2.nx u0 X1→(∀c,c<X0.nx→aT u1=some c→aT u0=some c)→TxF X1 S2.nx u1 X2→TxF X0 S2.nx u0 X2:=fun {X0 X1 X2 u0 u1} h1 hu h2=>⟨Ap h1.1 h2.1,fun c hc k1 k2=>(h2.2 c (Ah hc h1.1) k1 (fun e=>k2 (hu c hc e))).trans (h1.2 c hc k1 k2)⟩;have F1:TxF S3 S2.nx .nilsl X:=comp f4 (fun c _ h=>h) tf1;have V1:∀c,c<S3.nx→aT v1=some c→aT AV.nilsl=some c:=fun c hc h=>hv1 c (by have:=s4.1;omega) h;clear tf1 hv1 lit f4 hB4 c4 n4;try simp only[↓aA,aB,rE,↓reduceIte]
 refine cC ?_;simp only[↓aA,aB,rE,↓reduceIte,aE,aF,aW,ld X .nilsl 4 _ F1 (by intro h;cases h) rfl,cD.self hw];refine aY ?_;try simp only[↓aA,aB,rE,↓reduceIte]
 have l1:(pI [x.kind,x.player,x.info]).length≤100:=by
  have:=aDC (L:=[x.kind,x.player,x.info]) rg;simp only[Am,Bo] at this;omega
 refine aP (xJ H hL hB (hB.old hw) (nam _ _ _) (φ:=id) hf.w (by omega) (by omega)) ?_;rintro _ X2 ⟨v2,tf2,hB2,hv2⟩;rw[Fy] at hB2;have F2:=comp F1 V1 tf2;have V2:∀c,c<S3.nx→aT v2=some c→aT AV.nilsl=some c:=fun c hc h=>V1 c hc (hv2 c (Ah hc F1.1) h);clear tf2 hv2 hB V1 F1;try simp only[↓aA,aB,rE,↓reduceIte]
 refine cC ?_;simp only[↓aA,aB,rE,↓reduceIte,aE,aF,aW,ld X2 .nilsl 5 _ F2 (by intro h;cases h) rfl,cD.self hp];refine aY ?_;try simp only[↓aA,aB,rE,↓reduceIte]
 have l2:=aDC (L:=x.weights) hf.w;refine aP (xJ H hL hB2 (hB2.old hp) (nam _ _ _) (φ:=id) hf.y (by rw[Ai];omega) (by omega)) ?_;rintro _ X3 ⟨v3,tf3,hB3,hv3⟩;rw[Fy] at hB3;have F3:=comp F2 V2 tf3;have V3:∀c,c<S3.nx→aT v3=some c→aT AV.nilsl=some c:=fun c hc h=>V2 c hc (hv3 c (Ah hc F2.1) h);clear tf3 hv3 hB2 V2 F2;try simp only[↓aA,aB,rE,↓reduceIte]
 refine cC ?_;simp only[↓aA,aB,rE,↓reduceIte,aE,aF,aW,qK,mJ,ld X3 .nilsl 3 _ F3 (by intro h;cases h) rfl,cD.self hn];refine aY ?_;try simp only[↓aA,aB,rE,↓reduceIte]
 have l3:=aDC (L:=x.pay) hf.y;have namK:aPJ fns X3 S2.nx v3 (.fn 77 [] [.ptr S1.nx 0]) (fun c=>K.getD c.toNat 0) x.next:=fun c hcm Y hY=>by
  have FY:=comp F3 V3 hY;obtain⟨h1,h2,_⟩:=hc c hcm;exact aJ1 H ((FY.2 _ (by omega) (by omega) (by intro h;cases h)).trans g2) (hB3.old hK Y hY) h1 h2
 refine aP (xJ H hL hB3 (hB3.old hn) namK (fun c hcm=>(hc c hcm).2.2) (by rw[Ai,Ai];omega) (by omega)) ?_;rintro _ X4 ⟨v4,tf4,hB4,hv4⟩;have e:pI [x.kind,x.player,x.info]++pI x.weights++pI x.pay++pI (x.next.map fun c=>K.getD c.toNat 0)=nT x K:=by
  unfold nT lS;simp only[Ba]
 rw[e] at hB4;have l5:dB (.ptr S2.nx 0) false 1 X4.h=some v4:=cS hB4.gob rfl;have sv4:cM v4 v4=true:=hB4.gw.self;have hs:wM .bytesToStr v4 X4.h=some (.str (nT x K)):=by
  rcases hB4.gw with⟨_,h0,_⟩ | ⟨b,rfl,_,_,hg,_⟩
  ·exfalso
   unfold nT pI at h0;simp at h0
  ·have:=aRv (b:=b) (m:=(nT x K).length) (N:=(nT x K).length) (W:=nT x K) (o':=true) hg (Ag _) (by rw[Ch];exact aOC)
   rwa [Ch] at this
 have ss:cM (.str (nT x K)) (.str (nT x K))=true:=by
  show lD _ _=true;rw[aA6];exact Ad rfl
 try simp only[↓aA,aB,rE,↓reduceIte]
 refine cC ?_;simp only[↓aA,aB,rE,↓reduceIte,l5,sv4,hs,ss];refine aU ?_;simp only[↓aA,aB,rE,↓reduceIte];exact hB4.sm
end Go.Ev.Gl
namespace Go.Ev.Gl
open Go.Sort
variable {fns:T cV}
theorem iW{g:bH}(G:qP g):eF g:=fun a ha i hi=>by
 obtain⟨L,h1,h2,h3⟩:=G.walk;have hm:(nodeAt g a).next.getD i 0∈iU g (0+a):=by
  rw[Ao,pM,Ae,Ab hi];exact Br hi
 obtain⟨c1,c2,_⟩:=h3.cf a (by omega) _ hm;unfold jA;omega
def htF(g:bH):Nat→Nat→Int
 | 0,_=>0
 | f+1,a=>(nodeAt g a).next.foldl (fun m c=>mx m (htF g f c.toNat+1)) 0
theorem aDJ{g:bH}(hK:eF g):∀ (f f' a:Nat),a<g.nodes.length→g.nodes.length - a≤f→g.nodes.length - a≤f'→htF g f a=htF g f' a
 | 0,_,a,ha,h,_=>by omega
 | f+1,0,a,ha,_,h=>by omega
 | f+1,f'+1,a,ha,h1,h2=>by
  unfold htF;refine aBR (fun m c hc=>?_) 0;obtain⟨k1,k2⟩:=qN (hK:=hK) ha hc;rw[aDJ hK f f' c.toNat k2 (by omega) (by omega)]
def qU(g:bH)(a:Nat):Int:=htF g g.nodes.length a
def htL(g:bH):List Int:=(List.range g.nodes.length).map (qU g)
theorem xU(g:bH):(htL g).length=g.nodes.length:=by unfold htL;rw[Az,List.length_range]
theorem xT{g:bH}{i:Nat}(hi:i<g.nodes.length):(htL g).getD i 0=qU g i:=by
 unfold htL;rw[Ae,Be,Fj hi];rfl
theorem aCW{g:bH}(hK:eF g){a:Nat}(ha:a<g.nodes.length):qU g a=(nodeAt g a).next.foldl (fun m c=>mx m (qU g c.toNat+1)) 0:=by
 have e:qU g a=htF g (g.nodes.length+1) a:=aDJ hK _ _ a ha (by omega) (by omega);rw[e];rfl
theorem aPH{g:bH}(hK:eF g):aQf g (htL g):=⟨xU g,fun i hi=>by
 rw[xT hi,aCW hK hi];unfold aOj;refine aBR (fun m c hc=>?_) 0;rw[xT (qN (hK:=hK) hi hc).2]⟩
structure HtS(g:bH)(S0 X:St)(mb gb sb rb:Nat)(nv iv:AV)(M:List Int):Prop where
 m:X.h.get mb=some (.cells [.sl rb 0 g.nodes.length g.nodes.length false] false 0)
 gv:X.h.get gb=some (.cells [.int .i64 g.players,nv,iv] false 0)
 s:X.h.get sb=some (.cells [.fn 78 [] [.ptr mb 0,.ptr gb 0,.ptr sb 0]] false 0)
 r:X.h.get rb=some (.cells (bG M) false 0)
 lt:mb<X.nx∧gb<X.nx∧sb<X.nx∧rb<X.nx
 sm:Same S0 X
 len:M.length=g.nodes.length
 ok:∀j,j<g.nodes.length→M.getD j 0= -1∨M.getD j 0=qU g j
section
variable {g:bH}{S0 X X':St}{mb gb sb rb:Nat}{nv iv:AV}{M:List Int}
theorem HtS.put(h:HtS g S0 X mb gb sb rb nv iv M)(h1:rb≠mb)(h2:rb≠gb)(h3:rb≠sb)(h4:S0.nx≤rb){a:Nat}(ha:a<g.nodes.length):HtS g S0 ⟨X.h.set rb (some (.cells (bG (M.set a (qU g a))) false 0)),X.nx⟩ mb gb sb rb nv iv (M.set a (qU g a)):=by
 refine⟨?_,?_,?_,?_,h.lt,(bJ.refl rb X).put _ |>.same h.sm h4,by rw[Bm];exact h.len,fun j hj=>?_⟩
 ·simp only;rw[T.get_set,if_neg (Da h1)];exact h.m
 ·simp only;rw[T.get_set,if_neg (Da h2)];exact h.gv
 ·simp only;rw[T.get_set,if_neg (Da h3)];exact h.s
 ·simp only;rw[T.get_set,if_pos rfl]
 ·rw[fH (by rw[h.len];exact ha)];split
  ·rename_i e;rw[e];exact .inr rfl
  ·exact h.ok j hj
end
theorem aDu{g:bH}(hK:eF g){a:Nat}(ha:a<g.nodes.length):0≤qU g a∧qU g a≤(g.nodes.length:Int):=by
 have:=aMP hK (aPH hK) a ha;rw[xT ha] at this;omega
def aKv(g:bH)(l:List Int)(i:Nat):Int:=(l.take i).foldl (fun m c=>mx m (qU g c.toNat+1)) 0
theorem aJT{g:bH}{l:List Int}{i:Nat}(hi:i<l.length):aKv g l (i+1)=mx (aKv g l i) (qU g (l.getD i 0).toNat+1):=by
 unfold aKv;rw[Bw,List.foldl_append,Ab hi,Ae,Ab hi];rfl
def HtI(g:bH)(S0 X0:St)(mb gb sb rb:Nat)(nv iv kv:AV)(M0:List Int)(a:Nat)(k:Nat)(A:bQ)(X:St):Prop:=A.inr=false∧bJ rb X0 X∧aD 0 A.F= .int .i64 (a:Int)∧aD 1 A.F= .ptr mb 0∧aD 3 A.F= .ptr sb 0∧aD 19 A.F=kv∧aD 20 A.F= .int .i64 (((nodeAt g a).next.length:Nat):Int)∧∃ (i:Nat) (M:List Int),i+k=(nodeAt g a).next.length∧aD 21 A.F= .int .i64 (i:Int)∧aD 6 A.F= .int .i64 (aKv g (nodeAt g a).next i)∧HtS g S0 X mb gb sb rb nv iv M∧∀j,j<g.nodes.length→M0.getD j 0=qU g j→M.getD j 0=qU g j
theorem aMW{g:bH}{S0:St}{mb gb sb rb:Nat}{nv iv:AV}(H:Has fns)(hK:eF g)(hN:g.nodes.length≤2000)(hn:bB 6 dJ S0 nv g.nodes)(hl:∀i,i<g.nodes.length→(nodeAt g i).next.length≤1000)(h1:rb≠mb)(h2:rb≠gb)(h3:rb≠sb)(h4:S0.nx≤rb):∀a,a<g.nodes.length→∀X M,HtS g S0 X mb gb sb rb nv iv M→fR fns (.fn 78 [] [.ptr mb 0,.ptr gb 0,.ptr sb 0]) [.int .i64 (a:Int)] X fun r X'=>r= .int .i64 (qU g a)∧bJ rb X X'∧∃M',HtS g S0 X' mb gb sb rb nv iv M'∧M'.getD a 0=qU g a∧∀j,j<g.nodes.length→M.getD j 0=qU g j→M'.getD j 0=qU g j:=tA fun a ha ih X M hS=>by
 refine cE H.f78 (by simp) ?_;refine ah ?_;refine cC ?_;simp only[↓aA,aB,rE,↓reduceIte];have hva:=aDu hK ha;have hla:=hl a ha;refine aC (bD (Q:=fun o A' X'=>o= .normal∧A'.inr=false∧bJ rb X X'∧aD 0 A'.F= .int .i64 (a:Int)∧aD 1 A'.F= .ptr mb 0∧∃M',HtS g S0 X' mb gb sb rb nv iv M'∧M'.getD a 0=qU g a∧∀j,j<g.nodes.length→M.getD j 0=qU g j→M'.getD j 0=qU g j) (aC (aG ?_)) ?_)
 ·have lm:dB (.ptr mb 0) false 1 X.h=some (.sl rb 0 g.nodes.length g.nodes.length false):=cS hS.m rfl;have isr:=mG hS.r hS.lt.2.2.2 hS.len;have ia:=isr.iaddr (by rw[hS.len];exact ha);have la:=isr.ld (by rw[hS.len];exact ha);have sk:=cD.self isr;simp only[↓aA,aB,rE,↓reduceIte,lm,sk,aH,ia,la];by_cases hM:M.getD a 0= -1;rotate_left
  ·have e:M.getD a 0=qU g a:=(hS.ok a ha).resolve_left hM;refine aO (by simp only[↓aA,aB,rE,↓reduceIte,e,Aa (show ¬qU g a<0 by omega)]) (aM ?_);exact⟨rfl,rfl,bJ.refl _ _,ae,ae,M,hS,e,fun j _ h=>h⟩
  refine aR (by simp only[↓aA,aB,rE,↓reduceIte,hM,Ad (show(-1:Int)<0 by omega)]) (aC (aG ?_));simp only[↓aA,aB,rE,↓reduceIte];have hx:=dI ha;obtain⟨e,b,p,i1,i2,i3,⟨na,nb,nc,rfl,x1,x2,x3⟩,i5,i6⟩:=bB.at hn (by omega) hx;have lg:=fL hS.gv;have l3:dB (.ptr b (p+3)) false 1 X.h=some na:=(sI hS.sm i2).trans (i6 3 na rfl);refine aC (bD (Q:=fun o A' X'=>o= .normal∧HtI g S0 X mb gb sb rb nv iv na M a 0 A' X') (aC (aG ?_)) ?_)
  ·simp only[↓aA,aB,rE,↓reduceIte,aE,aF,lg,aH,i1,l3,x1.len,cD.self x1,bB.self hn];refine aN (bT (HtI g S0 X mb gb sb rb nv iv na M a) ?_ (nodeAt g a).next.length _ _ ⟨rfl,bJ.refl _ _,ae,ae,ae,ae,ae,0,M,by omega,ae,by simp only[↓aA,aB,rE,↓reduceIte];rfl,hS,fun j _ h=>h⟩);rintro k ⟨F,inr⟩ Y ⟨q0,hY,p0,p1,p3,p19,p20,i,M1,hik,p21,p6,hS1,hM1⟩;simp only at q0 p0 p1 p3 p19 p20 p21 p6;subst q0;refine cC ?_;simp only[↓aA,aB,rE,↓reduceIte,p20,p21,zV];by_cases hi:i<(nodeAt g a).next.length;rotate_left
   ·refine aC (aO (by simp only[↓aA,aB,rE,↓reduceIte,Aa hi]) (bK ?_));have hk:k=0:=by omega
    subst hk;exact⟨rfl,rfl,hY,ag p0,ag p1,ag p3,ag p19,ag p20,i,M1,hik,ag p21,ag p6,hS1,hM1⟩
   refine aC (aR (by simp only[↓aA,aB,rE,↓reduceIte,Ad hi]) (aM ?_));try simp only[↓aA,aB,rE,↓reduceIte]
   obtain⟨k1,k2,k3⟩:=hK a ha i hi;have x1Y:=x1.same hS1.sm;have ia1:=x1Y.iaddr hi;have la1:=x1Y.ld hi;have ls:dB (.ptr sb 0) false 1 Y.h=some (.fn 78 [] [.ptr mb 0,.ptr gb 0,.ptr sb 0]):=cS hS1.s rfl;have hc:(nodeAt g a).next.getD i 0=((jA g a i:Nat):Int):=k3;have hh:=aDu hK k2;refine aC (aN (aC (aG ?_)));simp only[↓aA,aB,rE,↓reduceIte,p19,p21,aH,ia1,la1];rw[hc];refine aG ?_;simp only[↓aA,aB,rE,↓reduceIte,p3,p6,ls];refine aY ?_;try simp only[↓aA,aB,rE,↓reduceIte]
   refine aP (ih _ k1 k2 Y M1 hS1) ?_;rintro _ Z ⟨rfl,hZ,M2,hS2,e2,hM2⟩;have w1:IntKind.i64.wrap (qU g (jA g a i)+1)=qU g (jA g a i)+1:=wrap_i64 (by omega) (by omega);try simp only[↓aA,aB,rE,↓reduceIte,w1,aLO,jB,nR,aFL,p6]
   refine aG ?_;simp only[↓aA,aB,rE,↓reduceIte,p21,fA (a:=i) (by omega)];refine⟨k - 1,by omega,rfl,hY.trans hZ,ag p0,ag p1,ag p3,ag p19,ag p20,i+1,M2,by omega,ae,?_,hS2,fun j hj h=>hM2 j hj (hM1 j hj h)⟩;simp only[↓aA,aB,rE,↓reduceIte];rw[aJT hi,hc];rfl
  rintro o ⟨F,inr⟩ Y ⟨rfl,q0,hY,p0,p1,p3,p19,p20,i,M1,hik,p21,p6,hS1,hM1⟩;simp only at q0 p0 p1 p6;subst q0;have hi:i=(nodeAt g a).next.length:=by omega
  subst hi;have e6:aKv g (nodeAt g a).next (nodeAt g a).next.length=qU g a:=by
   unfold aKv;rw[Ch,←aCW hK ha]
  rw[e6] at p6;have lm:dB (.ptr mb 0) false 1 Y.h=some (.sl rb 0 g.nodes.length g.nodes.length false):=cS hS1.m rfl;have ia:=iN (b:=rb) (o:=false) ha;try simp only[↓aA,aB,rE,↓reduceIte]
  refine aG ?_;have sk1:cM (.sl rb 0 g.nodes.length g.nodes.length false) (.sl rb 0 g.nodes.length g.nodes.length false)=true:=cD.self (mG hS1.r hS1.lt.2.2.2 hS1.len);simp only[↓aA,aB,rE,↓reduceIte,p0,p1,p6,lm,sk1,aH,ia];refine eR (fun call=>by simp only[↓aA,aB,rE,↓reduceIte,rA,dD,cQ,p6];exact aCg (S:=Y) hS1.r (by rw[hS1.len];exact ha)) ?_;refine ac ?_;refine⟨hY.put _,p0,p1,_,hS1.put h1 h2 h3 h4 ha,?_,fun j hj h=>?_⟩
  ·rw[fH (by rw[hS1.len];exact ha),if_pos rfl]
  ·rw[fH (by rw[hS1.len];exact ha)];split
   ·rename_i e;rw[e]
   ·exact hM1 j hj h
 rintro o ⟨F,inr⟩ Y ⟨rfl,q0,hY,p0,p1,M1,hS1,e1,hM1⟩;simp only at q0 p0 p1;subst q0;have lm:dB (.ptr mb 0) false 1 Y.h=some (.sl rb 0 g.nodes.length g.nodes.length false):=cS hS1.m rfl;have isr:=mG hS1.r hS1.lt.2.2.2 hS1.len;have sk1:=cD.self isr;have ia:=isr.iaddr (by rw[hS1.len];exact ha);have la:=isr.ld (by rw[hS1.len];exact ha);rw[e1] at la;try simp only[↓aA,aB,rE,↓reduceIte]
 refine cC ?_;simp only[↓aA,aB,rE,↓reduceIte,p0,p1,lm,sk1,aH,ia,la];refine aU ?_;simp only[↓aA,aB,rE,↓reduceIte];exact⟨hY,M1,hS1,e1,hM1⟩
end Go.Ev.Gl
namespace Go.Ev.Gl
open Go.Sort
variable {fns:T cV}
def HtK(g:bH)(S4:St)(mb gb rb:Nat)(k:Nat)(A:bQ)(X:St):Prop:=A.inr=false∧bJ rb S4 X∧aD 1 A.F= .ptr gb 0∧aD 3 A.F= .ptr mb 0∧aD 12 A.F= .int .i64 ((g.nodes.length:Nat):Int)∧∃ (i:Nat) (l:List Int),i+k=g.nodes.length∧aD 13 A.F= .int .i64 (i:Int)∧l.length=g.nodes.length∧(∀j,j<i→l.getD j 0= -1)∧X.h.get rb=some (.cells (bG l) false 0)
def HtR(g:bH)(S0:St)(mb gb sb rb:Nat)(nv iv:AV)(k:Nat)(A:bQ)(X:St):Prop:=A.inr=false∧aD 3 A.F= .ptr mb 0∧aD 5 A.F= .ptr sb 0∧aD 22 A.F= .int .i64 ((g.nodes.length:Nat):Int)∧∃ (i:Nat) (M:List Int),i+k=g.nodes.length∧aD 23 A.F= .int .i64 (i:Int)∧HtS g S0 X mb gb sb rb nv iv M∧∀j,j<i→M.getD j 0=qU g j
theorem aEY{S:St}{v:AV}{g:bH}(H:Has fns)(G:qP g)(hv:nS S v g):fR fns (.fn 58 [] []) [v] S fun r X=>aQR S X r (htL g)∧Same S X:=by
 have hK:=iW G;have hN:=G.n2;obtain⟨nv,iv,rfl,hn,hi⟩:=hv;refine cE H.f58 (by simp) ?_;refine ah ?_;refine cC ?_;refine eH (by simp only[↓aA,aB,rE,↓reduceIte];exact bM _) ?_;intro S1 s1 n1 c1;simp only[↓aA,aB,rE,↓reduceIte];have hnl:=bB.len hn;refine cC ?_;simp only[↓aA,aB,rE,↓reduceIte,aE,aF,fL c1,bB.self hn,hnl];refine fX (pO (n:=g.nodes.length) (by simp only[↓aA,aB,rE,↓reduceIte,aH]) (by simp only[↓aA,aB,rE,↓reduceIte,aH]) (by unfold room;omega) (by unfold room;omega)) ?_;intro S2 s2 n2 c2;rw[xP] at c2;try simp only[↓aA,aB,rE,↓reduceIte]
 refine cR ?_;intro S3 s3 n3 c3;try simp only[↓aA,aB,rE,↓reduceIte]
 obtain⟨S4,hS4⟩:∃S4:St,S4=⟨S3.h.set S2.nx (some (.cells [.sl S1.nx 0 g.nodes.length g.nodes.length false] false 0)),S3.nx⟩:=⟨_,rfl⟩;refine eR (v:=.undef) (S1:=S4) (fun call=>by rw[dD,hS4];simp only[↓aA,aB,rE,↓reduceIte];exact xW (cs:=[.nilsl]) (p:=0) c3 (by simp)) ?_;have n4:S4.nx=S3.nx:=by rw[hS4]
 have h4:∀c,c≠S2.nx→S4.h.get c=S3.h.get c:=fun c hc=>by rw[hS4];simp only;rw[T.get_set,if_neg hc]
 have m4:S4.h.get S2.nx=some (.cells [.sl S1.nx 0 g.nodes.length g.nodes.length false] false 0):=by rw[hS4];simp only;rw[T.get_set,if_pos rfl]
 clear hS4;have g4:S4.h.get S.nx=some (.cells [.int .i64 g.players,nv,iv] false 0):=(h4 _ (by omega)).trans ((s3.2 _ (by omega)).trans ((s2.2 _ (by omega)).trans c1));have r4:S4.h.get S1.nx=some (.cells (bG (List.replicate g.nodes.length 0)) false 0):=(h4 _ (by omega)).trans ((s3.2 _ (by omega)).trans c2);have s4:Same S S4:=⟨by omega,fun c hc=>(h4 c (by omega)).trans (((s1.trans s2).trans s3).2 c hc)⟩;refine ac ?_;refine aC (bD (Q:=fun o A' X=>o= .normal∧HtK g S4 S2.nx S.nx S1.nx 0 A' X) (aC (aG ?_)) ?_)
 ·have lm:dB (.ptr S2.nx 0) false 1 S4.h=some (.sl S1.nx 0 g.nodes.length g.nodes.length false):=cS m4 rfl;have isr:=mG r4 (by omega) (Bg ..);have hl:=isr.len;rw[Bg] at hl;simp only[↓aA,aB,rE,↓reduceIte,lm,cD.self isr,hl];refine aN (bT (HtK g S4 S2.nx S.nx S1.nx) ?_ g.nodes.length _ _ ⟨rfl,bJ.refl _ _,ae,ae,ae,0,_,by omega,ae,Bg ..,fun j hj=>by omega,r4⟩);rintro k ⟨F,inr⟩ X ⟨q0,hX,p1,p3,p12,i,l,hik,p13,hl,hf,hc⟩;simp only at q0 p1 p3 p12 p13;subst q0;refine cC ?_;simp only[↓aA,aB,rE,↓reduceIte,p12,p13,zV];by_cases hlt:i<g.nodes.length;rotate_left
  ·refine aC (aO (by simp only[↓aA,aB,rE,↓reduceIte,Aa hlt]) (bK ?_));have hk:k=0:=by omega
   subst hk;exact⟨rfl,rfl,hX,ag p1,ag p3,ag p12,i,l,hik,ag p13,hl,hf,hc⟩
  refine aC (aR (by simp only[↓aA,aB,rE,↓reduceIte,Ad hlt]) (aM ?_));try simp only[↓aA,aB,rE,↓reduceIte]
  have lmX:dB (.ptr S2.nx 0) false 1 X.h=some (.sl S1.nx 0 g.nodes.length g.nodes.length false):=cS ((hX.2 _ (by omega) (by omega)).trans m4) rfl;have sk:=cD.self isr;have ia:=iN (b:=S1.nx) (o:=false) hlt;refine aC (aN (aC (aG ?_)));simp only[↓aA,aB,rE,↓reduceIte,p13];refine aG ?_;simp only[↓aA,aB,rE,↓reduceIte,p3,lmX,sk,aH,ia];rw[show Int.negSucc 0=(-1:Int) from rfl];refine eR (fun call=>by simp only[↓aA,aB,rE,↓reduceIte,dD,cQ];exact aCg (S:=X) hc (by rw[hl];exact hlt)) ?_;refine ac ?_;refine aG ?_;simp only[↓aA,aB,rE,↓reduceIte,p13,fA (a:=i) (by omega)];refine⟨k - 1,by omega,rfl,hX.put _,ag p1,ag p3,ag p12,i+1,l.set i (-1),by omega,ae,by rw[Bm];exact hl,fun j hj=>?_,by simp only;rw[T.get_set,if_pos rfl]⟩;rw[fH (by rw[hl];exact hlt)];split
  ·rfl
  ·exact hf j (by omega)
 rintro o ⟨F,inr⟩ X ⟨rfl,q0,hX,p1,p3,p12,i,l,hik,p13,hl,hf,hc⟩;simp only at q0 p1 p3;subst q0;have hi:i=g.nodes.length:=by omega
 subst hi;have nX:=hX.1;try simp only[↓aA,aB,rE,↓reduceIte]
 refine aC (aG (cR ?_));intro S5 s5 n5 c5;try simp only[↓aA,aB,rE,↓reduceIte]
 refine cC ?_;simp only[↓aA,aB,rE,↓reduceIte,qK,mJ,p3,p1];obtain⟨S6,hS6⟩:∃S6:St,S6=⟨S5.h.set X.nx (some (.cells [.fn 78 [] [.ptr S2.nx 0,.ptr S.nx 0,.ptr X.nx 0]] false 0)),S5.nx⟩:=⟨_,rfl⟩;refine eR (v:=.undef) (S1:=S6) (fun call=>by rw[dD,hS6];simp only[↓aA,aB,rE,↓reduceIte];exact xW (cs:=[.nilfn]) (p:=0) c5 (by simp)) ?_;have n6:S6.nx=S5.nx:=by rw[hS6]
 have h6:∀c,c≠X.nx→S6.h.get c=S5.h.get c:=fun c hc=>by rw[hS6];simp only;rw[T.get_set,if_neg hc]
 have m6:S6.h.get X.nx=some (.cells [.fn 78 [] [.ptr S2.nx 0,.ptr S.nx 0,.ptr X.nx 0]] false 0):=by rw[hS6];simp only;rw[T.get_set,if_pos rfl]
 clear hS6;have k6:∀c,c<S4.nx→c≠S1.nx→S6.h.get c=S4.h.get c:=fun c hc hne=>(h6 c (by omega)).trans ((s5.2 c (by omega)).trans (hX.2 c hc hne));have hS:HtS g S S6 S2.nx S.nx X.nx S1.nx nv iv l:=⟨(k6 _ (by omega) (by omega)).trans m4,(k6 _ (by omega) (by omega)).trans g4,m6,(h6 _ (by omega)).trans ((s5.2 _ (by omega)).trans hc),⟨by omega,by omega,by omega,by omega⟩,⟨by omega,fun c hcl=>(k6 c (by omega) (by omega)).trans (s4.2 c hcl)⟩,hl,fun j hj=>.inl (hf j hj)⟩;clear k6 m6 h6 s5 c5 hf hc hX m4 g4 r4;refine ac ?_;refine aC (bD (Q:=fun o A' Y=>o= .normal∧HtR g S S2.nx S.nx X.nx S1.nx nv iv 0 A' Y) (aC (aG ?_)) ?_)
 ·have lm:dB (.ptr S2.nx 0) false 1 S6.h=some (.sl S1.nx 0 g.nodes.length g.nodes.length false):=cS hS.m rfl;have isr:=mG hS.r hS.lt.2.2.2 hS.len;have hl2:=isr.len;rw[hS.len] at hl2;simp only[↓aA,aB,rE,↓reduceIte,p3,lm,cD.self isr,hl2];refine aN (bT (HtR g S S2.nx S.nx X.nx S1.nx nv iv) ?_ g.nodes.length _ _ ⟨rfl,ag p3,ae,ae,0,l,by omega,ae,hS,fun j hj=>by omega⟩);rintro k ⟨F1,inr⟩ Y ⟨q0,r3,r5,r22,i,M,hik,r23,hS1,hM⟩;simp only at q0 r3 r5 r22 r23;subst q0;refine cC ?_;simp only[↓aA,aB,rE,↓reduceIte,r22,r23,zV];by_cases hlt:i<g.nodes.length;rotate_left
  ·refine aC (aO (by simp only[↓aA,aB,rE,↓reduceIte,Aa hlt]) (bK ?_));have hk:k=0:=by omega
   subst hk;exact⟨rfl,rfl,ag r3,ag r5,ag r22,i,M,hik,ag r23,hS1,hM⟩
  refine aC (aR (by simp only[↓aA,aB,rE,↓reduceIte,Ad hlt]) (aM ?_));try simp only[↓aA,aB,rE,↓reduceIte]
  have ls:dB (.ptr X.nx 0) false 1 Y.h=some (.fn 78 [] [.ptr S2.nx 0,.ptr S.nx 0,.ptr X.nx 0]):=cS hS1.s rfl;refine aC (aN (aC (aG ?_)));simp only[↓aA,aB,rE,↓reduceIte,r23];refine aG ?_;simp only[↓aA,aB,rE,↓reduceIte,r5,ls];refine aY ?_;try simp only[↓aA,aB,rE,↓reduceIte]
  refine aP (aMW H hK hN hn G.nxt (by omega) (by omega) (by omega) (by omega) i hlt Y M hS1) ?_;rintro _ Z ⟨rfl,hZ,M2,hS2,e2,hM2⟩;try simp only[↓aA,aB,rE,↓reduceIte]
  refine aG ?_;simp only[↓aA,aB,rE,↓reduceIte,r23,fA (a:=i) (by omega)];refine⟨k - 1,by omega,rfl,ag r3,ag r5,ag r22,i+1,M2,by omega,ae,hS2,fun j hj=>?_⟩;by_cases h:j=i
  ·rw[h];exact e2
  ·exact hM2 j (by omega) (hM j (by omega))
 rintro o ⟨F1,inr⟩ Y ⟨rfl,q0,r3,r5,r22,i,M,hik,r23,hS1,hM⟩;simp only at q0 r3;subst q0;have hi:i=g.nodes.length:=by omega
 subst hi;have eM:M=htL g:=aQ4 (by rw[hS1.len,xU]) fun j hj=>by
  rw[xU] at hj;rw[hM j hj,xT hj]
 rw[eM] at hS1;have lm:dB (.ptr S2.nx 0) false 1 Y.h=some (.sl S1.nx 0 g.nodes.length g.nodes.length false):=cS hS1.m rfl;have sk:=cD.self (mG hS1.r hS1.lt.2.2.2 hS1.len);try simp only[↓aA,aB,rE,↓reduceIte]
 refine cC ?_;simp only[↓aA,aB,rE,↓reduceIte,r3,lm,sk];refine aU ?_;simp only[↓aA,aB,rE,↓reduceIte];exact⟨⟨S1.nx,by rw[xU],by omega,hS1.lt.2.2.2,hS1.r⟩,hS1.sm⟩
end Go.Ev.Gl
namespace Go.Ev.Gl
open Go.Sort
variable {fns:T cV}
end Go.Ev.Gl
namespace Go.Ev.Gl
open Go.Sort
variable {fns:T cV}
def aPR(h:List Int)(q r:Nat):Int:=if aAx (h.getD r 0) (h.getD q 0)≠0 then aAx (h.getD r 0) (h.getD q 0) else aAx (q:Int) (r:Int)
theorem aMB(h:List Int)(q r:Nat):aPR h q r<0↔bef h q r:=by
 unfold aPR bef;have h1:=aGZ (h.getD r 0) (h.getD q 0);have h2:=aGZ (q:Int) (r:Int);have h3:=aKk (h.getD r 0) (h.getD q 0);split
 ·rename_i e;rw[h1];constructor
  ·exact .inl
  ·rintro(h4 | h4)
   ·exact h4
   ·exact absurd (h3.2 h4.1.symm) e
 ·rename_i e;have e:aAx (h.getD r 0) (h.getD q 0)=0:=by omega
  rw[h2];have:=h3.1 e;constructor
  ·exact fun h5=>.inr ⟨this.symm,by omega⟩
  ·rintro(h4 | h4)
   ·omega
   ·omega
instance befDec(h:List Int)(q r:Nat):Decidable (bef h q r):=by unfold bef;exact inferInstance
def aAZ(x:AV):Nat:=
 match x with
 | .int _ a=>a.toNat
 | _=>0
def ltK(h:List Int)(x y:AV):Bool:=decide (bef h (aAZ x) (aAZ y))
theorem aJF{h:List Int}{a b c:Nat}(h1:bef h a b)(h2:bef h b c):bef h a c:=by
 unfold bef at h1 h2 ⊢;omega
theorem aH1{h:List Int}{a b c:Nat}(h1:¬bef h a b)(h2:¬bef h b c):¬bef h a c:=by
 unfold bef at h1 h2 ⊢;omega
theorem aOe(h:List Int):SWO (ltK h) where
 irrefl x:=Aa fun e=>aBa e e
 trans x y z h1 h2:=Ad (aJF (Dk h1) (Dk h2))
 ntrans x y z h1 h2:=Aa (aH1 (of_decide_eq_false h1) (of_decide_eq_false h2))
theorem aMH{k:IntKind}{S:St}{v:AV}{l:List Int}{i:Nat}(h:cD k S v l)(hi:i<l.length):aJY (fun _=>False) S.nx (aBM v i):=by
 rcases h with⟨rfl,_⟩ | ⟨b,off,cap,o,cs,rfl,_,hb,_⟩
 ·simp at hi
 ·exact⟨_,_,rfl,hb,fun h=>h⟩
theorem aKM{S:St}{hb:Nat}{hv:AV}{h:List Int}{q r:Nat}(H:Has fns)(hg:S.h.get hb=some (.cells [hv] false 0))(hlt:hb<S.nx)(hs:cD .i64 S hv h)(hq:q<h.length)(hr:r<h.length):fR fns (.fn 60 [] [.ptr hb 0]) [.int .i64 (q:Int),.int .i64 (r:Int)] S fun v S'=>v= .int .i64 (aPR h q r)∧Same S S':=by
 have l0:dB (.ptr hb 0) false 1 S.h=some hv:=cS hg rfl;have sk:=cD.self hs;have iq:=hs.iaddr hq;have lq:=hs.ld hq;have ir:=hs.iaddr hr;have lr:=hs.ld hr;refine cE H.f60 (by simp) ?_;refine ah ?_;refine cC ?_;refine ac ?_;refine aC (qE (fun _=>False) ?_);intro X1 x1 hX1 nX1;simp only[↓sU,sD,rE,↓reduceIte,rA,l0,sk,hlt,Ay,aH,iq,ir,lq,lr];refine⟨aMH hs hr,aMH hs hq,?_⟩;refine cP rfl ?_;refine am ?_;refine aP (aAv H) ?_;rintro _ Y ⟨rfl,rfl⟩;refine⟨Same.refl _,?_⟩;try simp only[↓sU,sD,rE,↓reduceIte,rA]
 refine cP rfl ?_;refine am ?_;refine aP (aAv H) ?_;rintro _ Z ⟨rfl,rfl⟩;refine⟨Same.refl _,?_⟩;have hb:S.nx+12<Z.nx:=by
  simp only[Am,Bo] at nX1;omega
 try simp only[↓sU,sD,rE,↓reduceIte,rA]
 rw[aOQ (n:=aAx (h.getD r 0) (h.getD q 0)) (m:=aAx (q:Int) (r:Int)) (aq) (aq),mE];refine am ?_;refine aBj rfl ?_;rw[dS (by rfl)];refine am ?_;refine aP (aOO H (mG (b:=S.nx+12) (N:=2) (l:=[aAx (h.getD r 0) (h.getD q 0),aAx (q:Int) (r:Int)]) (o:=false) (sz:=0) (by simp only;rw[T.get_set,if_pos rfl]) hb rfl)) ?_;rintro _ W ⟨rfl,rfl⟩;refine⟨Same.refl _,?_⟩;try simp only[↓sU,sD,rE,↓reduceIte,rA]
 refine aU ?_;try simp only[↓sU,sD,rE,↓reduceIte,rA]
 refine⟨rfl,by show S.nx≤Z.nx;omega,fun c hc=>?_⟩;simp only;rw[T.get_set,if_neg (by omega)];exact x1.2 c hc
end Go.Ev.Gl
namespace Go.Ev.Gl
open Go.Sort
variable {fns:T cV}
def pP{K V:Type} [DecidableEq K](k:K):List (K×V)→Nat→Option (Nat×V)
 | [],_=>none
 | (k',v)::l,i=>if k=k' then some (i,v) else pP k l (i+1)
def lkp{K V:Type} [DecidableEq K](l:List (K×V))(k:K):Option V:=(pP k l 0).map (·.2)
section
variable {K V:Type} [DecidableEq K]{l:List (K×V)}{k k':K}{v:V}
theorem vZ:∀ {l:List (K×V)} {i:Nat},pP k l (i+1)=(pP k l i).map fun p=>(p.1+1,p.2)
 | [],i=>rfl
 | (k',v)::l,i=>by
  show(if k=k' then some (i+1,v) else pP k l (i+1+1))=(if k=k' then some (i,v) else pP k l (i+1)).map _;by_cases e:k=k'
  ·rw[if_pos e,if_pos e];rfl
  ·rw[if_neg e,if_neg e,vZ]
end
def aJM{K V:Type}(ek:K→AV)(ev:V→AV)(l:List (K×V)):List (AV×AV):=l.map fun p=>(ek p.1,ev p.2)
theorem aI5(a b:List Nat):eqv (.p .str) (.str a) (.str b)=some (decide (a=b)):=by
 show some (lD a b)=_;rw[aA6]
section
variable {K V:Type} [DecidableEq K]{ek:K→AV}{ev:V→AV}{sk:oO}
theorem aDo(he:∀a b,eqv sk (ek a) (ek b)=some (decide (a=b))){k:K}:∀ {l:List (K×V)} {i:Nat},qS sk (ek k) (aJM ek ev l) i=some ((pP k l i).map fun p=>(p.1,ev p.2))
 | [],i=>rfl
 | (k',v)::l,i=>by
  show(aX (eqv sk (ek k) (ek k')) fun b=>bN b (some (some (i,ev v))) (qS sk (ek k) (aJM ek ev l) (Nat.succ i)))=_;rw[he,aK];show _=some ((if k=k' then some (i,v) else pP k l (i+1)).map fun p=>(p.1,ev p.2));by_cases e:k=k'
  ·rw[Ad e,aL,if_pos e];rfl
  ·rw[Aa e,aQ,if_neg e];exact aDo he
theorem aB6(he:∀a b,eqv sk (ek a) (ek b)=some (decide (a=b))){k:K}{l:List (K×V)}:oS sk (ek k) (aJM ek ev l)=some ((pP k l 0).map fun p=>(p.1,ev p.2)):=by
 unfold oS;rw[he,aK];exact aDo he
end
abbrev aCb(l:List (List Nat×Nat)):List (AV×AV):=aJM AV.str (fun n:Nat=>AV.int .i64 (n:Int)) l
theorem aK7{h:Ev.T AB}{b:Nat}{l:List (List Nat×Nat)}(hl:h.get b=some (.map (aCb l))){k:List Nat}{m x:cK}{F:Fr}(h1:m.val F= .map b)(h2:x.val F= .str k):iI (.lookup (.p .str) (.int .i64 0) true m x) F h=some (match lkp l k with | some v=>.tup [.int .i64 (v:Int),.bool true] | none=>.tup [.int .i64 0,.bool false]):=by
 show(aX (pT h (m.val F)) fun es=>aX (oS (.p .str) (x.val F) es) fun r=>pD r (.int .i64 0) true)=_;rw[h1,h2];show(aX (aX (h.get b) rT) fun es=>aX (oS (.p .str) (.str k) es) fun r=>pD r (.int .i64 0) true)=_;rw[hl,aK];show aX (some (aCb l)) _=_;rw[aK,aB6 (ek:=AV.str) aI5,aK];unfold lkp;cases pP k l 0 with
 | none=>rfl
 | some p=>rfl
theorem aKj{S:St}{b:Nat}{l:List (List Nat×Nat)}(hl:S.h.get b=some (.map (aCb l))){k:List Nat}(v:Nat)(hf:pP k l 0=none):uM (.map b) (.p .str) (.str k) (.int .i64 (v:Int)) S=some (.undef,⟨S.h.set b (some (.map (aCb (l++ [(k,v)])))),S.nx⟩):=by
 show(aX (aX (S.h.get b) rT) fun es=>aX (oS (.p .str) (.str k) es) fun r=>some (AV.undef,(⟨S.h.set b (some (.map (aBb r es (.str k) (.int .i64 (v:Int))))),S.nx⟩:St)))=_;rw[hl,aK];show aX (some (aCb l)) _=_;rw[aK,aB6 (ek:=AV.str) aI5,aK,hf];show some (AV.undef,(⟨S.h.set b (some (.map (wY (aCb l) [(.str k,.int .i64 (v:Int))]))),S.nx⟩:St))=_;rw[gD];unfold aCb aJM;rw[Dc];rfl
theorem aBw{h:Ev.T AB}{b:Nat}{l:List (List Nat×Nat)}(hl:h.get b=some (.map (aCb l))){m:cK}{F:Fr}(h1:m.val F= .map b):iI (.lenMap m) F h=some (.int .i64 ((l.length:Nat):Int)):=by
 show(aX (pT h (m.val F)) fun es=>some (AV.int .i64 (.ofNat (jK es))))=_;rw[h1];show(aX (aX (h.get b) rT) fun es=>some (AV.int .i64 (.ofNat (jK es))))=_;rw[hl,aK];show some (AV.int .i64 (.ofNat (jK (aCb l))))=_;rw[dO];unfold aCb aJM;rw[Az];rfl
theorem aNt{F:Fr}{id:Nat}:tQ .mkMap F id=some (.map id,.map []):=rfl
theorem aEH{K V:Type} [DecidableEq K]{k:K}{v:V}:∀ {l:List (K×V)} {i:Nat},pP k l 0=some (i,v)→l[i]? =some (k,v)
 | [],i,h=>by cases h
 | (a,b)::l,i,h=>by
  have h:(if k=a then some (0,b) else pP k l (0+1))=some (i,v):=h;by_cases e:k=a
  ·rw[if_pos e] at h;cases h;rw[e];rfl
  ·rw[if_neg e,vZ] at h;obtain⟨⟨j,w⟩,h1,h2⟩:=Au.1 h;cases h2;show l[j]? =some (k,w);exact aEH h1
theorem aHi{K V:Type} [DecidableEq K]{k:K}:∀ {l:List (K×V)},pP k l 0=none→∀ (i:Nat) p,l[i]? =some p→p.1≠k
 | [],_,i,p,hp=>by cases hp
 | (a,b)::l,h,i,p,hp=>by
  have h:(if k=a then some (0,b) else pP k l (0+1))=none:=h;by_cases e:k=a
  ·rw[if_pos e] at h;cases h
  ·rw[if_neg e,vZ] at h;cases i with
   | zero=>cases hp;exact fun e2=>e e2.symm
   | succ i=>exact aHi (Option.map_eq_none_iff.1 h) i p hp
structure aB9(g:bH)(c:Nat)(K:List Int)(l:List (List Nat×Nat)):Prop where
 ok:aLG g c K
 rng:∀a,c≤a→a<g.nodes.length→∃i:Nat,K.getD a 0=((i:Nat):Int)∧l[i]? =some (nT (nodeAt g a) K,i)
 sur:∀i,i<l.length→∃a,c≤a∧a<g.nodes.length∧K.getD a 0=((i:Nat):Int)
 len:l.length+c≤g.nodes.length
section
variable {g:bH}{c:Nat}{K:List Int}{l:List (List Nat×Nat)}
theorem aIV(hK:eF g)(hl:K.length=g.nodes.length){a b:Nat}(hab:a≤b)(hb:b<g.nodes.length){v:Int}(ha:a<g.nodes.length):nT (nodeAt g b) (K.set a v)=nT (nodeAt g b) K:=by
 refine aLr ⟨rfl,rfl,rfl,rfl,rfl⟩ ?_;unfold lS;refine Ck fun x hx=>?_;obtain⟨h1,h2⟩:=qN (hK:=hK) hb hx;rw[fH (by rw[hl];exact ha),if_neg (by omega)]
theorem aB9.old(hK:eF g)(h:aB9 g (c+1) K l)(hc:c<g.nodes.length){v:Nat}(hf:lkp l (nT (nodeAt g c) K)=some v):aB9 g c (K.set c ((v:Nat):Int)) l∧v<l.length:=by
 obtain⟨⟨i,w⟩,h1,h2⟩:=Au.1 hf;cases h2;have hg:=aEH h1;have hil:=(Af.1 hg).1;obtain⟨b,b1,b2,b3⟩:=h.sur i hil;obtain⟨i',c1,c2⟩:=h.rng b b1 b2;have:i'=i:=by omega
 subst this;rw[hg] at c2;simp only[Al,Prod.mk.injEq] at c2;obtain⟨c2,rfl⟩:=c2;have hEq:EqS g c b:=(aEC hK h.ok hc b2 (by omega) (by omega)).1 c2;have hl:=h.ok.1;have gs:∀j,(K.set c ((w:Nat):Int)).getD j 0=if j=c then((w:Nat):Int) else K.getD j 0:=fun j=>fH (by rw[hl];exact hc);refine⟨⟨⟨by rw[Bm];exact hl,fun a a' ha ha' hal hal'=>?_⟩,fun a ha hal=>?_,fun j hj=>?_,by have:=h.len;omega⟩,hil⟩
 ·rw[gs,gs];by_cases e1:a=c
  ·by_cases e2:a'=c
   ·rw[if_pos e1,if_pos e2,e1,e2];exact⟨fun _=>aDK hK c hc,fun _=>rfl⟩
   ·rw[if_pos e1,if_neg e2,e1,←b3,h.ok.2 b a' b1 (by omega) b2 hal'];exact⟨fun k=>kK hK c hc b b2 a' hal' hEq k,fun k=>kK hK b b2 c hc a' hal' (pU hK c hc b b2 hEq) k⟩
  ·by_cases e2:a'=c
   ·rw[if_neg e1,if_pos e2,e2,←b3,h.ok.2 a b (by omega) b1 hal b2];exact⟨fun k=>kK hK a hal b b2 c hc k (pU hK c hc b b2 hEq),fun k=>kK hK a hal c hc b b2 k hEq⟩
   ·rw[if_neg e1,if_neg e2];exact h.ok.2 a a' (by omega) (by omega) hal hal'
 ·rw[gs,aIV hK hl ha hal hc];by_cases e1:a=c
  ·rw[if_pos e1,e1];exact⟨w,rfl,hg⟩
  ·rw[if_neg e1];exact h.rng a (by omega) hal
 ·obtain⟨a,a1,a2,a3⟩:=h.sur j hj;exact⟨a,by omega,a2,by rw[gs,if_neg (by omega)];exact a3⟩
theorem aB9.new(hK:eF g)(h:aB9 g (c+1) K l)(hc:c<g.nodes.length)(hf:lkp l (nT (nodeAt g c) K)=none):aB9 g c (K.set c ((l.length:Nat):Int)) (l++ [(nT (nodeAt g c) K,l.length)]):=by
 have hn:=aHi (Option.map_eq_none_iff.1 hf);have hl:=h.ok.1;have gs:∀j,(K.set c ((l.length:Nat):Int)).getD j 0=if j=c then((l.length:Nat):Int) else K.getD j 0:=fun j=>fH (by rw[hl];exact hc);have no:∀a,c<a→a<g.nodes.length→K.getD a 0≠((l.length:Nat):Int)∧¬EqS g c a:=fun a h1 h2=>by
  obtain⟨i,i1,i2⟩:=h.rng a (by omega) h2;have hil:=(Af.1 i2).1;refine⟨by omega,fun e=>?_⟩;have:=(aEC hK h.ok hc h2 (by omega) (by omega)).2 e;exact hn i _ i2 this.symm
 refine⟨⟨by rw[Bm];exact hl,fun a a' ha ha' hal hal'=>?_⟩,fun a ha hal=>?_,fun j hj=>?_,by rw[Ai,An];have:=h.len;omega⟩
 ·rw[gs,gs];by_cases e1:a=c
  ·by_cases e2:a'=c
   ·rw[if_pos e1,if_pos e2,e1,e2];exact⟨fun _=>aDK hK c hc,fun _=>rfl⟩
   ·rw[if_pos e1,if_neg e2,e1];have:=no a' (by omega) hal';exact⟨fun k=>absurd k.symm this.1,fun k=>absurd k this.2⟩
  ·by_cases e2:a'=c
   ·rw[if_neg e1,if_pos e2,e2];have:=no a (by omega) hal;exact⟨fun k=>absurd k this.1,fun k=>absurd (pU hK a hal c hc k) this.2⟩
   ·rw[if_neg e1,if_neg e2];exact h.ok.2 a a' (by omega) (by omega) hal hal'
 ·rw[gs,aIV hK hl ha hal hc];by_cases e1:a=c
  ·rw[if_pos e1,e1];exact⟨l.length,rfl,by rw[Aw (Ag _),Cu];rfl⟩
  ·rw[if_neg e1];obtain⟨i,i1,i2⟩:=h.rng a (by omega) hal;exact⟨i,i1,by rw[Av (Af.1 i2).1];exact i2⟩
 ·rw[Ai,An] at hj;by_cases e:j=l.length
  ·exact⟨c,Ag _,hc,by rw[gs,if_pos rfl,e]⟩
  ·obtain⟨a,a1,a2,a3⟩:=h.sur j (by omega);exact⟨a,by omega,a2,by rw[gs,if_neg (by omega)];exact a3⟩
end
end Go.Ev.Gl
namespace Go.Ev.Gl
open Go.Sort
variable {fns:T cV}
noncomputable def nF(g:bH)(i:Nat):List Nat:=(List.range i).filter (oM g)
theorem aEI(g:bH)(i:Nat):nF g (i+1)=if oM g i=true then nF g i++ [i] else nF g i:=by
 unfold nF;rw[List.range_succ,List.filter_append];by_cases h:oM g i=true
 ·rw[if_pos h,List.filter_cons_of_pos h];rfl
 ·rw[if_neg h,List.filter_cons_of_neg h,List.filter_nil,Bz]
theorem qA(g:bH)(i:Nat):(nF g i).length≤i:=by
 have:=List.length_filter_le (oM g) (List.range i)
 rwa [List.length_range] at this
theorem aCM(g:bH)(i:Nat):(nF g i).Nodup:=List.nodup_range.filter _
theorem aAH{g:bH}{i q:Nat}:q∈nF g i↔q<i∧oM g q=true:=by
 unfold nF;rw[List.mem_filter,Fz]
section
variable {g:bH}{K:List Int}{l:List (List Nat×Nat)}
theorem aLA(h:aB9 g 0 K l){i:Nat}(hi:i<g.nodes.length):(∃j,j<i∧K.getD j 0=K.getD i 0)↔¬oM g i=true:=by
 rw[tL];constructor
 ·rintro⟨j,h1,h2⟩ h3;exact h3 j h1 ((h.ok.2 j i (Bt _) (Bt _) (by omega) hi).1 h2)
 ·intro h3;obtain⟨j,h4⟩:=Classical.not_forall.1 h3;obtain⟨h5,h6⟩:=Classical.not_imp.1 h4;exact⟨j,h5,(h.ok.2 j i (Bt _) (Bt _) (by omega) hi).2 (Classical.not_not.1 h6)⟩
theorem aAI(h:aB9 g 0 K l){i:Nat}(hi:i<g.nodes.length):∃k:Nat,K.getD i 0=((k:Nat):Int)∧k<l.length:=by
 obtain⟨k,k1,k2⟩:=h.rng i (Bt _) hi;exact⟨k,k1,(Af.1 k2).1⟩
theorem aCZ{F:List Nat}(hp:F.Perm (nF g g.nodes.length)){p q:Nat}(h:F[p]? =some q):q<g.nodes.length∧oM g q=true:=aAH.1 (hp.mem_iff.1 (Aq h))
theorem aMO(hK:eF g)(h:aB9 g 0 K l){F:List Nat}(hp:F.Perm (nF g g.nodes.length)){N:List Int}(hN:N.length=l.length){i q:Nat}(hq:F[i]? =some q)(hI:∀p q,p<i→F[p]? =some q→N.getD (K.getD q 0).toNat 0=(p:Int)):∀p r,p<i+1→F[p]? =some r→(N.set (K.getD q 0).toNat (i:Int)).getD (K.getD r 0).toNat 0=(p:Int):=by
 intro p r hpi hr;obtain⟨q1,q2⟩:=aCZ hp hq;obtain⟨r1,r2⟩:=aCZ hp hr;obtain⟨k,k1,k2⟩:=aAI h q1;rw[fH (by rw[hN,k1];exact k2)];by_cases e:p=i
 ·subst e;rw[hq] at hr;cases hr;rw[if_pos rfl]
 ·obtain⟨k',k3,k4⟩:=aAI h r1;rw[if_neg,hI p r (by omega) hr];intro e2;have e3:K.getD r 0=K.getD q 0:=by omega
  have e4:=uT hK r1 q1 r2 q2 ((h.ok.2 r q (Bt _) (Bt _) r1 q1).1 e3);subst e4;have nd:F.Nodup:=hp.nodup_iff.2 (aCM g _);obtain⟨p1,p2⟩:=Af.1 hr;obtain⟨i1,i2⟩:=Af.1 hq;exact(Dw.1 nd p i p1 i1 (by omega)) (p2.trans i2.symm)
theorem aPs(hK:eF g)(h:aB9 g 0 K l){H:List Int}{F:List Nat}(hp:F.Perm (nF g g.nodes.length))(hs:F.Pairwise (bef H)){N C:List Int}(hI:∀p q,p<F.length→F[p]? =some q→N.getD (K.getD q 0).toNat 0=(p:Int))(hC:C.length=g.nodes.length)(hc:∀i,i<g.nodes.length→C.getD i 0=N.getD (K.getD i 0).toNat 0):jN g H F C:=by
 refine⟨hp,hs,hC,fun i hi=>?_⟩;obtain⟨j,j1,j2,j3⟩:=aIy hK hi;have hm:j∈F:=hp.mem_iff.2 (aAH.2 ⟨by omega,j2⟩);obtain⟨p,hpj⟩:=Er hm;have hpl:=(Af.1 hpj).1;refine⟨p,j,hpj,?_,j3⟩;rw[hc i hi,← (h.ok.2 j i (Bt _) (Bt _) (by omega) hi).2 j3];exact hI p j hpl hpj
theorem aJ3{H:List Int}{a b:Nat}(h:¬bef H b a)(hne:a≠b):bef H a b:=by
 unfold bef at *;omega
end
end Go.Ev.Gl
namespace Go.Ev.Gl
open Go.Sort
variable {fns:T cV}
def oT(L:List Nat):List Int:=L.map fun q=>((q:Nat):Int)
theorem nJ(L:List Nat):(oT L).length=L.length:=by unfold oT;rw[Az]
theorem aHv{L:List Nat}{i q:Nat}(h:L[i]? =some q):(oT L).getD i 0=(q:Int):=by
 unfold oT;rw[Ae,Be,h];rfl
def kV(q:Nat):AV:=.int .i64 (q:Int)
theorem aC4(L:List Nat):bG (oT L)=L.map kV:=by
 unfold bG oT;rw[Fp];rfl
noncomputable def aQC(H:Has fns)(N b hb ob n:Nat)(h:List Int)(v:AV)(hN:h.length=N)(hv:0<n→∃cap o,v= .sl b 0 n cap o)(hn:n≤1000000000)(h1:hb≠b)(h2:ob≠b):Ctx fns false 1 where
 b:=b
 off:=0
 n:=n
 v:=v
 opn:=true
 sz:=1
 pre:=[]
 post:=[]
 cl:=fun x=>[x]
 P:=fun x=>∃q,q<N∧x=kV q
 f:=.fn 60 [] [.ptr hb 0]
 I:=fun S=>hb<S.nx∧ob<S.nx∧S.h.get hb=some (.cells [.sl ob 0 N N false] false 0)∧S.h.get ob=some (.cells (bG h) false 0)
 lt:=ltK h
 hpre:=rfl
 hcl:=by
  rintro x ⟨q,_,rfl⟩;refine⟨rfl,?_,rfl,rfl⟩;simp [kV,cM,eQ,aL,lG]
 hv:=hv
 hn:=hn
 hI:=fun S S' ⟨a1,a2,a3,a4⟩ hs=>⟨Ah a1 hs.1,Ah a2 hs.1,(hs.2 _ a1 h1).trans a3,(hs.2 _ a2 h2).trans a4⟩
 cmp:=by
  rintro S x y ⟨a1,a2,a3,a4⟩ ⟨q,hq,rfl⟩ ⟨r,hr,rfl⟩;refine aP (aKM (h:=h) (q:=q) (r:=r) H a3 a1 (mG a4 a2 hN) (by omega) (by omega)) ?_;rintro _ S' ⟨rfl,hS⟩;refine⟨hS,_,rfl,?_⟩;exact decide_eq_decide.2 (aMB h q r)
theorem aPx{S0 S:St}{v:AV}{N hb ob:Nat}{h:List Int}{L:List Nat}(H:Has fns)(hN:h.length=N)(hS:Same S0 S)(hg:gQ 1 S0 S v L.length (L.map kV))(hpos:0<L.length)(hL:∀q∈L,q<N)(hnd:L.Nodup)(hn:L.length≤1000000000)(h1:hb<S.nx)(h2:ob<S.nx)(h3:S.h.get hb=some (.cells [.sl ob 0 N N false] false 0))(h4:S.h.get ob=some (.cells (bG h) false 0))(n1:aT v≠some hb)(n2:aT v≠some ob):fR fns (.fn 59 [] []) [v,.fn 60 [] [.ptr hb 0]] S fun _ S'=>∃F:List Nat,F.Perm L∧F.Pairwise (bef h)∧gQ 1 S0 S' v F.length (F.map kV)∧S.nx≤S'.nx∧∀c,c<S.nx→aT v≠some c→S'.h.get c=S.h.get c:=by
 rcases hg with⟨_,e0,_⟩ | ⟨b,rfl,k1,k2,k3,k4⟩
 ·omega
 have nb1:hb≠b:=fun e=>n1 (by rw[e];rfl);have nb2:ob≠b:=fun e=>n2 (by rw[e];rfl);obtain⟨C,hC⟩:∃C,C=aQC H N b hb ob L.length h (.sl b 0 L.length L.length true) hN (fun _=>⟨_,true,rfl⟩) hn nb1 nb2:=⟨_,rfl⟩;have hat:C.At S (L.map kV).toArray:=by
  subst hC;refine⟨by simp [aQC],fun i hi=>?_,fun h0=>⟨k2,?_⟩⟩
  ·have hi:i<L.length:=hi;have:=aPn (L.map kV).toArray (i:=i) (by simpa using hi);rw[List.toList_toArray,Be,Ab hi] at this;exact⟨L[i],hL _ (Br hi),(by simpa using this.symm)⟩
  ·show S.h.get b=some (.cells ([]++(L.map kV).toArray.toList.flatMap (fun x=>[x])++ []) true 1);rw[k3,Bh,Bz,List.toList_toArray];simp
 have sp:=aD2 (C:=C) H (by subst hC;exact aOe h) hat (by subst hC;exact⟨h1,h2,h3,h4⟩) (by subst hC;rfl);have e1:C.v= .sl b 0 L.length L.length true:=by subst hC;rfl
 have e2:C.f= .fn 60 [] [.ptr hb 0]:=by subst hC;rfl
 have e3:C.n=L.length:=by subst hC;rfl
 have e4:C.lt=ltK h:=by subst hC;rfl
 have e5:C.b=b:=by subst hC;rfl
 rw[e1,e2] at sp;refine aP sp ?_;rintro _ S' ⟨e,on,pm,so⟩;rw[e3] at pm so;rw[e4] at so;have hes:e.size=L.length:=by rw[on.1.1,e3]
 have hel:e.toList=(e.toList.map aAZ).map kV:=by
  rw[Fp]
  conv=>lhs;rw[←Fy e.toList]
  refine Ck fun x hx=>?_;have:∃q,q<N∧x=kV q:=by
   have:=on.1.all x hx;subst hC;exact this
  obtain⟨q,_,rfl⟩:=this;simp [aAZ,kV]
 have pm2:e.toList.Perm (L.map kV):=by
  have:=pm.2.2
  rwa [show(L.map kV).toArray.extract 0 L.length=(L.map kV).toArray by rw[show L.length=(L.map kV).toArray.size by simp,Array.extract_size],show e.extract 0 L.length=e by rw[←hes,Array.extract_size]] at this
 have pmL:(e.toList.map aAZ).Perm L:=by
  have:=pm2.map aAZ;rw[Fp] at this;have e0:L.map (aAZ ∘ kV)=L:=by
   conv=>rhs;rw[←Fy L]
   refine Ck fun q _=>?_;simp [aAZ,kV]
  rwa [e0] at this
 have ndE:(e.toList.map aAZ).Nodup:=pmL.nodup_iff.2 hnd;refine⟨e.toList.map aAZ,pmL,?_,?_,on.2.2.1,fun c hc hne=>on.2.2.2 c hc fun e6=>hne (by rw[e6,e5];rfl)⟩
 ·rw[Dw];intro i j hi hj hij;rw[Az,Db] at hi hj;have h5:=so i j (Bt _) hij (by omega);rw[Gb e j hj,Gb e i hi] at h5;have h6:¬bef h (aAZ e[j]) (aAZ e[i]):=of_decide_eq_false h5;have h7:=(Dw.1 ndE) i j (by simpa using hi) (by simpa using hj) hij;simp only[Em,Array.getElem_toList] at h7 ⊢;exact aJ3 h6 h7
 ·obtain⟨m1,m2⟩:=on.1.2.2 (by rw[e3];exact hpos);rw[e5] at m1 m2;have el:(e.toList.map aAZ).length=L.length:=by simp [hes]
  rw[el,←hel];refine .inr ⟨b,rfl,k1,m1,?_,by simp [hes]⟩;rw[m2];subst hC;show some (AB.cells ([]++e.toList.flatMap (fun x=>[x])++ []) true 1)=_;rw[Bh,Bz];simp
end Go.Ev.Gl
