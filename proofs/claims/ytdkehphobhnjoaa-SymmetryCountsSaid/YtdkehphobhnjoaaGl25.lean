import Derived.Test.YtdkehphobhnjoaaGl24
open Nat renaming reduceEqDiff -> rE, reduceAdd -> rA
set_option maxHeartbeats 0
set_option linter.unusedSimpArgs false
set_option linter.unusedVariables false
namespace Go.Ev.Gl
open Go.Sort
variable {fns:T dU}
def aIs(C:Ctx fns false 1)(S0:St)(e:Array AV)(a b i s:Nat)(A:bS)(X:St):Prop:=A.inr=false/\aD 0 A.F=C.v/\aD 1 A.F= .int .i64 (a:Int)/\aD 2 A.F= .int .i64 (b:Int)/\aD 3 A.F=C.f/\aD 9 A.F= .int .i64 (i:Int)/\aD 10 A.F= .int .i64 (s:Int)/\C.On S0 X e
theorem aFL{C:Ctx fns false 1}{S S0:St}{d:Array AV}{a b:Nat}(H:Has fns)(on:C.On S0 S d)(hab:a<b)(hb:b<=C.n):gH fns (.fn 71 [] []) [C.v,.int .i64 (a:Int),.int .i64 (b:Int),C.f] S fun r S'=>r= .bool (partialInsertionSort C.lt d a b).2/\C.On S0 S' (partialInsertionSort C.lt d a b).1:=by
 have hn:=C.hn;refine cF H.f71 (by simp) ?_;refine aq ?_;refine bQ (aq ?_);refine bQ ?_;refine dz (kQ (ay:a+1<=9223372036854775807)) ?_;obtain⟨R,hR⟩:∃R,R=partialInsertionSort C.lt d a b:=⟨_,rfl⟩;rw[<-hR];refine aA (aW (Q:=fun o A' X=>((o= .normal/\R.2=false)\/(o= .ret/\aD 8 A'.F= .bool R.2))/\C.On S0 X R.1) (aA (aG ?_)) ?_)
 ·refine aq ?_;refine aL (bK (fun k A' X=>∃i e,a<i/\i<=b/\k<=5/\aIs C S0 e a b i (5 - k) A' X/\partialIns C.lt a b k i e=R) ?_ 5 _ _ ⟨a+1,d,ay,ay,ay,⟨rfl,ak,ak,ak,ak,ak,fm @Dn,on⟩,hR.symm⟩);clear on;rintro k ⟨F,inr⟩ X ⟨i0,e,hai,hib,hk,⟨q0,p0,p1,p2,p3,p9,p10,on⟩,he⟩;simp only at q0 p0 p1 p2 p3 p9 p10;subst q0;refine fE (dz p10 ?_);cases k with
  | zero=>
   refine aK (by simp only[↓aC,aB,rE,↓reduceIte];rfl) (bG ?_);have he:(e,false)=R:=he;rw[<-he];exact⟨.inl ⟨rfl,rfl⟩,on⟩
  | succ s=>
  refine aM ff (aH ?_);refine aj ?_;rw[partialIns_succ] at he;obtain⟨i,hi⟩:∃i,i=scanSorted C.lt e b i0:=⟨_,rfl⟩;rw[<-hi] at he;refine aA (aL (aA (aW (Q:=fun o A' X=>o= .normal/\a<i/\i<=b/\aIs C S0 e a b i (5 - (s+1)) A' X) (aL (bK (fun k A' X=>∃j,a<j/\j<=b/\k=b - j/\aIs C S0 e a b j (5 - (s+1)) A' X/\scanSorted C.lt e b j=i) ?_ _ _ _ ⟨i0,ay,ay,rfl,⟨rfl,am p0,am p1,am p2,am p3,am p9,am p10,on⟩,hi.symm⟩)) ?_)))
  ·rintro k ⟨F,inr⟩ X ⟨j,haj,hjb,hk,⟨q0,p0,p1,p2,p3,p9,p10,on⟩,hj⟩;simp only at q0 p0 p1 p2 p3 p9 p10;subst q0;refine aA (aA (dO (fun _=>False) ?_));intro X1 x1;by_cases hlt:j<b
   ·have i1:j<C.n:=by omega
    have i2:j - 1<C.n:=by omega
    rw[scanSorted,Ab hlt,Ew] at hj;simp only[↓sU,sD,rE,↓reduceIte,rA,p0,p2,p3,p9,dlt,Ab hlt,kT (ay:1<=j) (ay:j<=9223372036854775807),aJ,C.ia i1,C.ia i2,on.1.ld i1,on.1.ld i2,on.1.self i1,on.1.self i2,Ctx.old on.1 i1,Ctx.old on.1 i2];refine cL rfl ?_;refine cm p3 ?_;refine aQ ((on.step x1).cmp i1 i2) ?_;rintro _ Y ⟨hY,z,rfl,hz⟩;refine⟨hY,?_⟩;have on2:=(on.step x1).step hY;refine df hz @eF ?_;cases hl:C.lt e[j]! e[j - 1]! with
    | false=>
     rw[hl,Cb,if_pos rfl] at hj;refine aM (fm @Cb) (aH ?_);refine aj ?_;refine aL (aG ?_);refine eu p9 (kQ (ay:j+1<=9223372036854775807)) ?_;exact⟨b - (j+1),ay,j+1,ay,ay,rfl,⟨rfl,am p0,am p1,am p2,am p3,ak,am p10,on2⟩,hj⟩
    | true=>
     rw[hl,Bt,if_neg (by simp)] at hj;refine aK (fm @Bt) (bG ?_);refine aj ?_;rw[<-hj];exact⟨haj,hjb,rfl,am p0,am p1,am p2,am p3,am p9,am p10,on2⟩
   ·rw[scanSorted,Aa hlt,Eo,if_neg (by simp)] at hj;refine du p0 p2 p3 p9 @dlt (Aa hlt) ?_;refine aK (ak) (bG ?_);refine aj ?_;rw[<-hj];exact⟨haj,hjb,rfl,am p0,am p1,am p2,am p3,am p9,am p10,on.step x1⟩
  clear hi on p0 p1 p2 p3 p9 p10;rintro o ⟨F,inr⟩ X ⟨rfl,hai,hib,q0,p0,p1,p2,p3,p9,p10,on⟩;simp only at q0 p0 p1 p2 p3 p9 p10;subst q0;refine aj ?_;refine fE (ew p2 p9 @deq ?_);by_cases hie:i=b
  ·rw[if_pos hie] at he;rw[<-he];refine aM (fm (Ab hie)) (aA (aG ?_));refine aj ?_;refine aR (aj ?_);exact⟨.inr trivial,on⟩
  rw[if_neg hie] at he;refine aK (fm (Aa hie)) (aH ?_);refine aj ?_;refine fE ?_;refine ew p1 p2 (aBA (ay:a<=b) (ay:b<=9223372036854775807)) ?_;by_cases h50:b - a<50
  ·rw[if_pos h50] at he;rw[<-he];refine aM ff (aA (aG ?_));refine aj ?_;refine aR (aj ?_);exact⟨.inr trivial,on⟩
  rw[if_neg h50] at he;refine aK ff (aH ?_);refine aj ?_;have i1:i<C.n:=by omega
  have i2:i - 1<C.n:=by omega
  refine aA ?_;refine jA C i (i - 1) 15 on i1 i2 rfl bg bg bg ?_;simp only[↓aC,aB,rE,↓reduceIte,Ca,Bw,rA,p0,p9,kT (ay:1<=i) (ay:i<=9223372036854775807),aJ,C.ia i1,C.ia i2,on.1.ld i1,on.1.ld i2,on.1.self i1,on.1.self i2];clear on;intro Z on;obtain⟨d1,h1⟩:∃d1,d1=if i - a≥2 then shiftDown C.lt (i - 1) (swp e i (i - 1)) else swp e i (i - 1):=⟨_,rfl⟩;obtain⟨d2,h2⟩:∃d2,d2=if b - i≥2 then shiftUp C.lt b (i+1) d1 else d1:=⟨_,rfl⟩;have he:partialIns C.lt a b s i d2=R:=by
   rw[h2,h1];exact he
  refine aA (aW (Q:=fun o A' X=>o= .normal/\aIs C S0 d1 a b i (5 - (s+1)) A' X) (aA (aG ?_)) ?_)
  ·refine ew p1 p9 (aBA (ay:a<=i) (ay:i<=9223372036854775807)) ?_;by_cases h2a:i - a≥2;rotate_left
   ·rw[if_neg h2a] at h1;refine aK ff (aH ?_);rw[h1];exact⟨rfl,rfl,am p0,am p1,am p2,am p3,am p9,am p10,on⟩
   rw[if_pos h2a] at h1;refine aM ff (aA (aG ?_));refine eu p9 (kT (ay:1<=i) (ay:i<=9223372036854775807)) ?_;refine aL (bK (fun k A' X=>∃f,k<i/\aIs C S0 f a b i (5 - (s+1)) A' X/\aD 11 A'.F= .int .i64 (k:Int)/\shiftDown C.lt k f=d1) ?_ (i - 1) _ _ ⟨_,ay,⟨rfl,am p0,am p1,am p2,am p3,am p9,am p10,on⟩,ak,h1.symm⟩);clear p0 p1 p2 p3 p9 p10 on;rintro k ⟨F,inr⟩ X ⟨f,hki,⟨q0,p0,p1,p2,p3,p9,p10,on⟩,p11,hf⟩;simp only at q0 p0 p1 p2 p3 p9 p10 p11;subst q0;refine fE (eh p11 ?_);cases k with
   | zero=>
    refine aK (by simp only[↓aC,aB,rE,↓reduceIte];rfl) (bG ?_);refine aj ?_;rw[<-hf];exact⟨rfl,am p0,am p1,am p2,am p3,am p9,am p10,on⟩
   | succ t=>
   have w1:IntKind.i64.wrap (((t+1:Nat):Int) - 1)=(t:Int):=kT (a:=t+1) ay ay;refine aM ff (aH ?_);refine aj ?_;have i1:t+1<C.n:=by omega
   have i2:t<C.n:=by omega
   refine aA (aL (aA (aA (dO (fun _=>False) ?_))));intro X1 x1;simp only[↓sU,sD,rE,↓reduceIte,rA,p0,p3,p11,w1,aJ,C.ia i1,C.ia i2,on.1.ld i1,on.1.ld i2,on.1.self i1,on.1.self i2,Ctx.old on.1 i1,Ctx.old on.1 i2];refine cL rfl ?_;refine cm p3 ?_;refine aQ ((on.step x1).cmp i1 i2) ?_;rintro _ Y ⟨hY,z,rfl,hz⟩;refine⟨hY,?_⟩;have on2:=(on.step x1).step hY;refine df hz @eF ?_;rw[shiftDown] at hf;cases hl:C.lt f[t+1]! f[t]! with
   | false=>
    rw[hl,Cb,if_pos rfl] at hf;refine aM (fm @Cb) (bG ?_);refine aj ?_;rw[<-hf];exact⟨rfl,am p0,am p1,am p2,am p3,am p9,am p10,on2⟩
   | true=>
    rw[hl,Bt,if_neg (by simp)] at hf;refine aK (fm @Bt) (aH ?_);refine aj ?_;refine jA C (t+1) t 15 on2 i1 i2 rfl bg bg bg ?_;simp only[↓aC,aB,rE,↓reduceIte,Ca,Bw,rA,p0,p11,w1,aJ,C.ia i1,C.ia i2,on2.1.ld i1,on2.1.ld i2,on2.1.self i1,on2.1.self i2];clear on on2;intro Z on;refine aG (eu p11 w1 ?_);exact⟨t,ay,_,ay,⟨rfl,am p0,am p1,am p2,am p3,am p9,am p10,on⟩,ak,hf⟩
  clear on p0 p1 p2 p3 p9 p10;rintro o ⟨F,inr⟩ X ⟨rfl,q0,p0,p1,p2,p3,p9,p10,on⟩;simp only at q0 p0 p1 p2 p3 p9 p10;subst q0;refine aj ?_;refine aW (Q:=fun o A' X=>o= .normal/\aIs C S0 d2 a b i (5 - (s+1)) A' X) (aA (aG ?_)) ?_
  ·refine ew p2 p9 (aBA (ay:i<=b) (ay:b<=9223372036854775807)) ?_;by_cases h2b:b - i≥2;rotate_left
   ·rw[if_neg h2b] at h2;refine aK ff (aH ?_);rw[h2];exact⟨rfl,rfl,am p0,am p1,am p2,am p3,am p9,am p10,on⟩
   rw[if_pos h2b] at h2;refine aM ff (aA (aG ?_));refine eu p9 (kQ (ay:i+1<=9223372036854775807)) ?_;refine aL (bK (fun k A' X=>∃f j,i<j/\j<=b/\k=b - j/\aIs C S0 f a b i (5 - (s+1)) A' X/\aD 12 A'.F= .int .i64 (j:Int)/\shiftUp C.lt b j f=d2) ?_ _ _ _ ⟨_,i+1,ay,ay,rfl,⟨rfl,am p0,am p1,am p2,am p3,am p9,am p10,on⟩,ak,h2.symm⟩);clear p0 p1 p2 p3 p9 p10 on;rintro k ⟨F,inr⟩ X ⟨f,j,hij,hjb,hk,⟨q0,p0,p1,p2,p3,p9,p10,on⟩,p12,hf⟩;simp only at q0 p0 p1 p2 p3 p9 p10 p12;subst q0;refine fE (ew p2 p12 @dlt ?_);rw[shiftUp] at hf;by_cases hlt:j<b;rotate_left
   ·rw[if_neg hlt] at hf;refine aK (fm (Aa hlt)) (bG ?_);refine aj ?_;rw[<-hf];exact⟨rfl,am p0,am p1,am p2,am p3,am p9,am p10,on⟩
   rw[if_pos hlt] at hf;have w1:=kT (ay:1<=j) (ay:j<=9223372036854775807);refine aM (fm (Ab hlt)) (aH ?_);refine aj ?_;have i1:j<C.n:=by omega
   have i2:j - 1<C.n:=by omega
   refine aA (aL (aA (aA (dO (fun _=>False) ?_))));intro X1 x1;simp only[↓sU,sD,rE,↓reduceIte,rA,p0,p3,p12,w1,aJ,C.ia i1,C.ia i2,on.1.ld i1,on.1.ld i2,on.1.self i1,on.1.self i2,Ctx.old on.1 i1,Ctx.old on.1 i2];refine cL rfl ?_;refine cm p3 ?_;refine aQ ((on.step x1).cmp i1 i2) ?_;rintro _ Y ⟨hY,z,rfl,hz⟩;refine⟨hY,?_⟩;have on2:=(on.step x1).step hY;refine df hz @eF ?_;cases hl:C.lt f[j]! f[j - 1]! with
   | false=>
    rw[hl,Cb,if_pos rfl] at hf;refine aM (fm @Cb) (bG ?_);refine aj ?_;rw[<-hf];exact⟨rfl,am p0,am p1,am p2,am p3,am p9,am p10,on2⟩
   | true=>
    rw[hl,Bt,if_neg (by simp)] at hf;refine aK (fm @Bt) (aH ?_);refine aj ?_;refine jA C j (j - 1) 15 on2 i1 i2 rfl bg bg bg ?_;simp only[↓aC,aB,rE,↓reduceIte,Ca,Bw,rA,p0,p12,w1,aJ,C.ia i1,C.ia i2,on2.1.ld i1,on2.1.ld i2,on2.1.self i1,on2.1.self i2];clear on on2;intro Z on;refine aG ?_;refine eu p12 (kQ (ay:j+1<=9223372036854775807)) ?_;exact⟨b - (j+1),ay,_,j+1,ay,ay,rfl,⟨rfl,am p0,am p1,am p2,am p3,am p9,am p10,on⟩,ak,hf⟩
  clear on p0 p1 p2 p3 p9 p10;rintro o ⟨F,inr⟩ X ⟨rfl,q0,p0,p1,p2,p3,p9,p10,on⟩;simp only at q0 p0 p1 p2 p3 p9 p10;subst q0;refine aj ?_;refine aG ?_;simp only[↓aC,aB,rE,↓reduceIte,p10,show IntKind.i64.wrap (((5 - (s+1):Nat):Int)+1)=((5 - s:Nat):Int) by rw[wrap_i64 ay ay];omega];exact⟨s,ay,i,d2,hai,hib,ay,⟨rfl,am p0,am p1,am p2,am p3,am p9,ak,on⟩,he⟩
 ·rintro o ⟨F,inr⟩ X ⟨⟨rfl,hf⟩ | ⟨rfl,p8⟩,on⟩
  ·rw[hf];refine aj ?_;refine bQ (aj ?_);refine aR (aj ?_);exact on
  ·simp only at p8;refine eh p8 ?_;exact on
end Go.Ev.Gl
namespace Go.Ev.Gl
open Go.Sort
variable {fns:T dU}
theorem aFX(K:Nat){ops:List AO}{m n:Nat}{x v:cU}{A:bS}{S:St}{Q:Out->bS->St->Prop}(he:ops.drop K= [⟨none,.x (.st n x v),none,m⟩])(h3:((ops.take K).all fun o=> !Nat.testBit o.mask K)=true)(hm:((List.range K).all fun i=>Nat.testBit m i)=true)
  (h:mH (ops.take K) A.F S.h fun F'=>∃S1,bH (v.val F').cells (fun cs=>mJ (x.val F') n cs ⟨S.h,S.nx+(K+1)⟩)=some (.undef,S1)/\Q .normal ⟨F',A.inr⟩ S1):lU fns (.drw ops) A S Q:=by
 have hK:(ops.take K).length=K:=by
  have:=congrArg List.length he;simp only[De,Aw,Ci] at this;rw[Bp];omega
 exact oY (by rw[<-he,Dq]) hK h3 hm h
theorem rS{n j:Nat}(h:2 ^ j<=n):bitsLen n=j+bitsLen (n / 2 ^ j):=by
 have key:∀t,bitsLen n<=t↔j+bitsLen (n / 2 ^ j)<=t:=fun t=>by
  rw[bitsLen_le_iff];by_cases ht:j<=t
  ·obtain⟨u,rfl⟩:∃u,t=j+u:=⟨t - j,ay⟩;rw[show(j+bitsLen (n / 2 ^ j)<=j+u)↔bitsLen (n / 2 ^ j)<=u by omega,bitsLen_le_iff,Nat.div_lt_iff_lt_mul (Fm j),<-Nat.pow_add,Fq u j]
  ·constructor
   ·intro h1;have:=Nat.pow_le_pow_right (ay:0<2) (ay:t<=j);omega
   ·omega
 exact Nat.le_antisymm ((key _).2 (Ag _)) ((key _).1 (Ag _))
def len8:b9:=(List.range 256).map bitsLen
theorem len8_get{n:Nat}(h:n<256):len8[n]?.getD 0=bitsLen n:=by
 unfold len8;rw[Bc,Dc h];rfl
theorem aMM{n:Nat}(h:n<256):IntKind.u8.wrap (n:Int)=(n:Int):=xV (by simp [IntKind.min,IntKind.signed]) (by simp [IntKind.max,IntKind.signed,IntKind.bits];omega)
theorem aLa{n:Nat}(h:n<256):bitsLen n<=8:=(bitsLen_le_iff n 8).2 h
set_option maxRecDepth 20000 in
theorem aIh{S:St}{n:Nat}(H:Has fns)(hn:n<=18446744073709551615):gH fns (.fn 75 [] []) [.int .u64 (n:Int)] S fun r S'=>r= .int .i64 (bitsLen n:Int)/\S'=S:=by
 refine cF H.f75 (by simp) ?_;refine aq ?_;refine bQ (aq ?_);refine aA (aW (Q:=fun o A' X=>o= .normal/\X=S/\∃m t:Nat,m<4294967296/\aD 0 A'.F= .int .u64 (m:Int)/\aD 2 A'.F= .int .i64 (t:Int)/\t<=32/\bitsLen n=t+bitsLen m) (aA (aG ?_)) ?_)
 ·refine aq ?_;by_cases h1:4294967296<=n
  ·have sh:iL .shr (.p .int) (.int .u64 (n:Int)) (.int .u64 32)=some (.int .u64 ((n / 4294967296:Nat):Int)):=xX (.p .int) .u64 (a:=n) (n:=32) bg;refine aM ff (aA (aG ?_));refine eh sh ?_;refine aG (aj ?_);exact⟨n / 4294967296,32,ay,rfl,rfl,ay,rS (j:=32) h1⟩
  ·refine aK ff (aH ?_);exact⟨rfl,rfl,n,0,ay,ak,ak,ay,ay⟩
 rintro o ⟨F,inr⟩ X ⟨rfl,rfl,m,t,hm,p0,p2,ht,hb⟩;simp only at p0 p2;refine aj ?_;refine aA (aW (Q:=fun o A' X'=>o= .normal/\X'=X/\∃m t:Nat,m<65536/\aD 0 A'.F= .int .u64 (m:Int)/\aD 2 A'.F= .int .i64 (t:Int)/\t<=48/\bitsLen n=t+bitsLen m) (aA (aG ?_)) ?_)
 ·refine eh p0 ?_;by_cases h1:65536<=m
  ·have sh:iL .shr (.p .int) (.int .u64 (m:Int)) (.int .u64 16)=some (.int .u64 ((m / 65536:Nat):Int)):=xX (.p .int) .u64 (a:=m) (n:=16) bg;refine aM ff (aA (aG ?_));refine eu p0 sh ?_;refine aG ?_;refine eu p2 (show IntKind.i64.wrap ((t:Int)+16)=((t+16:Nat):Int) from aBx (b:=16) ay) ?_;exact⟨m / 65536,t+16,ay,rfl,rfl,ay,by have e8:bitsLen m=16+bitsLen (m / 65536):=rS (j:=16) h1;omega⟩
  ·refine aK ff (aH ?_);exact⟨rfl,rfl,m,t,ay,am p0,am p2,ay,hb⟩
 clear p0 p2 hm ht hb m t;rintro o ⟨F,inr⟩ X ⟨rfl,rfl,m,t,hm,p0,p2,ht,hb⟩;simp only at p0 p2;refine aj ?_;refine aA (aW (Q:=fun o A' X'=>o= .normal/\X'=X/\∃m t:Nat,m<256/\aD 0 A'.F= .int .u64 (m:Int)/\aD 2 A'.F= .int .i64 (t:Int)/\t<=56/\bitsLen n=t+bitsLen m) (aA (aG ?_)) ?_)
 ·refine eh p0 ?_;by_cases h1:256<=m
  ·have sh:iL .shr (.p .int) (.int .u64 (m:Int)) (.int .u64 8)=some (.int .u64 ((m / 256:Nat):Int)):=xX (.p .int) .u64 (a:=m) (n:=8) bg;refine aM ff (aA (aG ?_));refine eu p0 sh ?_;refine aG ?_;refine eu p2 (show IntKind.i64.wrap ((t:Int)+8)=((t+8:Nat):Int) from aBx (b:=8) ay) ?_;exact⟨m / 256,t+8,ay,rfl,rfl,ay,by have e8:bitsLen m=8+bitsLen (m / 256):=rS (j:=8) h1;omega⟩
  ·refine aK ff (aH ?_);exact⟨rfl,rfl,m,t,ay,am p0,am p2,ay,hb⟩
 clear p0 p2 hm ht hb m t;rintro o ⟨F,inr⟩ X ⟨rfl,rfl,m,t,hm,p0,p2,ht,hb⟩;simp only at p0 p2;refine aj ?_;refine bQ ?_;have ix:=aLj (s:=len8) (i:=m) (by simpa [len8] using hm);rw[len8_get hm] at ix;have ix':pQ (.str [0,1,2,2,3,3,3,3,4,4,4,4,4,4,4,4,5,5,5,5,5,5,5,5,5,5,5,5,5,5,5,5,6,6,6,6,6,6,6,6,6,6,6,6,6,6,6,6,6,6,6,6,6,6,6,6,6,6,6,6,6,6,6,6,7,7,7,7,7,7,7,7,7,7,7,7,7,7,7,7,7,7,7,7,7,7,7,7,7,7,7,7,7,7,7,7,7,7,7,7,7,7,7,7,7,7,7,7,7,7,7,7,7,7,7,7,7,7,7,7,7,7,7,7,7,7,7,7,8,8,8,8,8,8,8,8,8,8,8,8,8,8,8,8,8,8,8,8,8,8,8,8,8,8,8,8,8,8,8,8,8,8,8,8,8,8,8,8,8,8,8,8,8,8,8,8,8,8,8,8,8,8,8,8,8,8,8,8,8,8,8,8,8,8,8,8,8,8,8,8,8,8,8,8,8,8,8,8,8,8,8,8,8,8,8,8,8,8,8,8,8,8,8,8,8,8,8,8,8,8,8,8,8,8,8,8,8,8,8,8,8,8,8,8,8,8,8,8,8,8,8,8,8,8,8,8]) m=some (.int .u8 (bitsLen m:Int)):=by
  rw[<-ix];congr 2
 have b8:=aLa hm;simp only[↓aC,aB,rE,↓reduceIte,p0,p2,aMM hm,aIu,aEw,ix',wrap_i64 (n:=(bitsLen m:Int)) ay ay,aBx (a:=t) (b:=bitsLen m) ay];refine aR (aj ?_);rw[hb]
theorem aGD{S:St}{n:Nat}(H:Has fns)(hn:n<=18446744073709551615):gH fns (.fn 60 [] []) [.int .u64 (n:Int)] S fun r S'=>r= .int .i64 (bitsLen n:Int)/\S'=S:=by
 refine cF H.f60 (by simp) ?_;refine aq ?_;refine bQ (aq ?_);refine aA (aK (ak) (aH ?_));refine aj ?_;refine bQ (aj ?_);refine bE (aj ?_);refine aQ (aIh H hn) ?_;rintro _ _ ⟨rfl,rfl⟩;refine aR ?_;simp only[↓aC,aB,rE,↓reduceIte]
theorem aIf{S:St}{n:Nat}(H:Has fns)(hn:n<=1000000000):gH fns (.fn 81 [] []) [.int .i64 (n:Int)] S fun r S'=>r= .int .u64 ((2 ^ bitsLen n:Nat):Int)/\S'=S:=by
 have hb:bitsLen n<=30:=(bitsLen_le_iff n 30).2 ay;have hp:2 ^ bitsLen n<=2 ^ 30:=Nat.pow_le_pow_right ay hb;refine cF H.f81 (by simp) ?_;refine aq ?_;refine bQ (aq ?_);refine bQ ?_;refine eh (wrap_u64 (n:=(n:Int)) ay ay) ?_;refine bE (aj ?_);refine aQ (aGD H ay) ?_;rintro _ _ ⟨rfl,rfl⟩;have sh:iL .shl (.p .int) (.int .u64 1) (.int .i64 (bitsLen n:Int))=some (.int .u64 ((2 ^ bitsLen n:Nat):Int)):=by
  have:=aFf (.p .int) .i64 (a:=1) (n:=bitsLen n) ay;rw[Fi,aAv,Nat.mod_eq_of_lt (Ei hp bg)] at this;exact this
 refine eh sh ?_;refine aR ?_;simp only[↓aC,aB,rE,↓reduceIte]
theorem aBh(e:qF){a b:Nat}(ha:a<=18446744073709551615)(hb:b<=18446744073709551615):∃c:Nat,c<=18446744073709551615/\iL .xor e (.int .u64 (a:Int)) (.int .u64 (b:Int))=some (.int .u64 (c:Int)):=by
 refine⟨Nat.xor a b,?_,?_⟩
 ·have:a ^^^ b<2 ^ 64:=Nat.xor_lt_two_pow ay ay;show a ^^^ b<=_;omega
 show dJ .xor .u64 (Int.ofNat a) .u64 (Int.ofNat b)=_;unfold dJ;rw[show fI .xor=false from rfl,aT,fT,aO];show cB (Nat.ble a 18446744073709551615) (cB (Nat.ble b 18446744073709551615) _ _) _=_;rw[Ak ha,Ak hb];rfl
theorem aHQ(e:qF)(a:Nat){n:Nat}(hn:n<=64):∃c:Nat,c<=18446744073709551615/\iL .shl e (.int .u64 (a:Int)) (.int .u64 (n:Int))=some (.int .u64 (c:Int)):=by
 refine⟨a * 2 ^ n % 2 ^ 64,ay,?_⟩;rw[aFf e .u64 hn,aAv]
def aDa(r:Nat)(S:St):Prop:=r<S.nx/\∃x:Nat,x<=18446744073709551615/\S.h.get r=some (.cells [.int .u64 (x:Int)] false 0)
theorem aId{S:St}{r:Nat}{x y:AV}{m:Nat}(h:S.h.get r=some (.cells [x] false 0)):mJ (.ptr r 0) 1 [y] ⟨S.h,S.nx+m⟩=some (.undef,⟨S.h.set r (some (.cells [y] false 0)),S.nx+m⟩):=stc (S:=⟨S.h,S.nx+m⟩) (cs:=[x]) h (by simp)
theorem aIS{S:St}{r:Nat}(H:Has fns)(h:aDa r S):gH fns (.fn 82 [] []) [.ptr r 0] S fun v S'=>(∃x:Nat,x<=18446744073709551615/\v= .int .u64 (x:Int))/\aDa r S'/\cC r S S':=by
 refine cF H.f82 (by simp) ?_;refine aq ?_;refine bQ (aq ?_);have stepF:∀ (X:St),aDa r X->cC r S X->∀m z:Nat,z<=18446744073709551615->aDa r ⟨X.h.set r (some (.cells [.int .u64 (z:Int)] false 0)),X.nx+m⟩/\cC r S ⟨X.h.set r (some (.cells [.int .u64 (z:Int)] false 0)),X.nx+m⟩:=fun X h hs m z hz=>
  ⟨⟨Ae h.1 (Cc _ _),z,hz,fq⟩,(hs.put _).nx m⟩
 have⟨hlt,x,hx,hg⟩:=id h;have l0:eQ (.ptr r 0) false 1 S.h=some (.int .u64 (x:Int)):=cV hg rfl;have⟨c1,b1,e1⟩:=aHQ (.p .int) x (n:=13) ay;have⟨d1,f1,g1⟩:=aBh (.p .int) hx b1;refine aA (aFX 9 rfl bg bg  ?_);simp only[↓aC,aB,rE,↓reduceIte,Ca,Bw,aY,bN,bB,l0,show iL .shl (.p .int) (.int .u64 (x:Int)) (.int .u64 13)=some (.int .u64 (c1:Int)) from e1,g1,cH];refine⟨_,aId hg,?_⟩;have⟨r1,s1⟩:=stepF S h (cC.refl _ _) 10 d1 f1;revert r1 s1;generalize (⟨S.h.set r (some (.cells [.int .u64 (d1:Int)] false 0)),S.nx+10⟩:St)=X;intro r1 s1;have⟨hlt1,y,hy,hg1⟩:=id r1;have l1:eQ (.ptr r 0) false 1 X.h=some (.int .u64 (y:Int)):=cV hg1 rfl;obtain⟨c2,b2,e2⟩:∃c:Nat,c<=18446744073709551615/\iL .shr (.p .int) (.int .u64 (y:Int)) (.int .u64 7)=some (.int .u64 (c:Int)):=⟨y / 128,ay,xX (.p .int) .u64 (a:=y) (n:=7) bg⟩;have⟨d2,f2,g2⟩:=aBh (.p .int) hy b2;refine aA (aFX 9 rfl bg bg  ?_);simp only[↓aC,aB,rE,↓reduceIte,Ca,Bw,aY,bN,bB,l1,e2,g2,cH];refine⟨_,aId hg1,?_⟩;have⟨r2,s2⟩:=stepF X r1 s1 10 d2 f2;revert r2 s2;generalize (⟨X.h.set r (some (.cells [.int .u64 (d2:Int)] false 0)),X.nx+10⟩:St)=Y;intro r2 s2;have⟨hlt2,w,hw,hg2⟩:=id r2;have l2:eQ (.ptr r 0) false 1 Y.h=some (.int .u64 (w:Int)):=cV hg2 rfl;have⟨c3,b3,e3⟩:=aHQ (.p .int) w (n:=17) ay;have⟨d3,f3,g3⟩:=aBh (.p .int) hw b3;refine aA (aFX 9 rfl bg bg  ?_);simp only[↓aC,aB,rE,↓reduceIte,Ca,Bw,aY,bN,bB,l2,show iL .shl (.p .int) (.int .u64 (w:Int)) (.int .u64 17)=some (.int .u64 (c3:Int)) from e3,g3,cH];refine⟨_,aId hg2,?_⟩;have⟨r3,s3⟩:=stepF Y r2 s2 10 d3 f3;revert r3 s3;generalize (⟨Y.h.set r (some (.cells [.int .u64 (d3:Int)] false 0)),Y.nx+10⟩:St)=Z;intro r3 s3;have⟨hlt3,u,hu,hg3⟩:=id r3;have l3:eQ (.ptr r 0) false 1 Z.h=some (.int .u64 (u:Int)):=cV hg3 rfl;refine bQ (ez @aY @bN @bB l3 ?_);refine aR (aj ?_);exact⟨⟨u,hu,rfl⟩,r3,s3⟩
theorem Ctx.On.other{agg:Bool}{k:Nat}{C:Ctx fns agg k}{S X X':St}{d:Array AV}{r:Nat}(hI:C.I S)(h:C.On S X d)(hs:cC r X X')(hr:S.nx<=r)(hb:0<C.n->C.b<S.nx):C.On S X' d:=by
 have h1:=h.2.2.1;have hbut:cC C.b S X':=⟨Au h1 hs.1,fun c hc hne=>(hs.2 c ay ay).trans (h.2.2.2 c hc hne)⟩;refine h.side hs.1 (fun hn=>?_) hbut (C.hI _ _ hI hbut);have:=hb hn;exact hs.2 _ ay ay
def aSY(C:Ctx fns false 1)(S:St)(d:Array AV)(a b r p s:Nat)(k:Nat)(A:bS)(X:St):Prop:=A.inr=false/\aD 0 A.F=C.v/\aD 1 A.F= .int .i64 (a:Int)/\aD 8 A.F= .int .i64 ((b - a:Nat):Int)/\aD 9 A.F= .ptr r 0/\aD 10 A.F= .int .u64 (p:Int)/\aDa r X/\∃i e,s - 1<=i/\i+k=s+2/\aD 11 A.F= .int .i64 (i:Int)/\C.On S X e/\PermIn a b d e
theorem aI8{C:Ctx fns false 1}{S S0:St}{d:Array AV}{a b:Nat}(H:Has fns)(on0:C.On S0 S d)(hab:a<=b)(hb:b<=C.n):gH fns (.fn 68 [] []) [C.v,.int .i64 (a:Int),.int .i64 (b:Int),C.f] S fun _ S'=>∃e,C.On S0 S' e/\PermIn a b d e:=by
 have hn:=C.hn;have on:=on0.start;refine aQ (Q:=fun _ S'=>∃e,C.On S S' e/\PermIn a b d e) ?_ fun v S' h=>by
  have⟨e,h1,h2⟩:=h;exact⟨e,on0.trans h1,h2⟩
 refine cF H.f68 (by simp) ?_;refine aq ?_;refine bQ ?_;refine dz (aBA (ay:a<=b) (ay:b<=9223372036854775807)) ?_;refine aW (Q:=fun o A' X=>o= .normal/\∃e,C.On S X e/\PermIn a b d e) (aA (aG ?_)) fun o A' X h=>by
  obtain⟨rfl,h⟩:=h;exact⟨_,rfl,h⟩
 refine aj ?_;by_cases h8:8<=b - a;rotate_left
 ·refine aK ff (aH ?_);exact⟨rfl,d,on,permIn_refl _ _ _⟩
 obtain⟨L,hL⟩:∃L,L=b - a:=⟨_,rfl⟩;rw[<-hL] at h8 ⊢;refine aM ff ?_;refine bQ ?_;refine eh (wrap_u64 (n:=(L:Int)) ay ay) ?_;refine dC ?_;intro S1 s1 n1 g1;have rs:∃S2,mJ (.ptr S.nx 0) 1 [.int .u64 (L:Int)] S1=some (.undef,S2)/\Same S S2/\aDa S.nx S2:=by
  refine⟨_,stc (cs:=[.int .u64 0]) g1 (by simp),⟨by simp only;omega,fun c hc=>?_⟩,by show S.nx<S1.nx;omega,L,ay,?_⟩
  ·simp only;rw[dd,if_neg ay];exact s1.2 c hc
  ·simp only;rw[dd,if_pos rfl];rfl
 have⟨S2,e2,s2,rnd⟩:=rs;refine fD (v:=.undef) (S1:=S2) (fun call=>by rw[dS];refine eh @cH ?_;exact e2) ?_;refine aj ?_;have on2:=on.step s2;refine bQ (aj ?_);refine bE (aj ?_);refine aQ (aIf H ay) ?_;rintro _ _ ⟨rfl,rfl⟩;obtain⟨p,hp⟩:∃p,p=2 ^ bitsLen L:=⟨_,rfl⟩;have hp2:p<=2 * L:=by rw[hp];exact two_pow_bitsLen_le ay
 have hp0:0<p:=by rw[hp];exact Fm _
 rw[<-hp];have hq:iL .quo (.p .int) (.int .i64 (L:Int)) (.int .i64 4)=some (.int .i64 ((L / 4:Nat):Int)):=aNZ (n:=4) ay ay;have hm:IntKind.i64.wrap (((L / 4:Nat):Int) * 2)=((L / 4 * 2:Nat):Int):=aP5 (b:=2) ay;have ha1:=aBx (a:=a) (b:=L / 4 * 2) ay;refine bQ ?_;refine ez hq hm ha1 (kT (a:=a+L / 4 * 2) ay ay) ?_;obtain⟨s,hs⟩:∃s,s=a+L / 4 * 2:=⟨_,rfl⟩;rw[<-hs] at ha1 ⊢;refine aL (bK (aSY C S d a b S.nx p s) ?_ 3 _ _ ⟨rfl,ak,ak,am hL,ak,ak,rnd,s - 1,d,ay,ay,ak,on2,permIn_refl _ _ _⟩);clear e2 g1 n1 s1 s2 on2 rnd;rintro k ⟨F,inr⟩ X ⟨q0,p0,p1,p8,p9,p10,rnd,i,e,hsi,hik,p11,onX,pm⟩;simp only at q0 p0 p1 p8 p9 p10 p11;rw[<-hL] at p8;subst q0;refine fE ?_;simp only[↓aC,aB,rE,↓reduceIte,p1,p8,p11,hq,hm,ha1,kQ (a:=s) ay,dle];by_cases hle:i<=s+1;rotate_left
 ·refine aK (fm (Aa hle)) (bG ?_);exact⟨rfl,e,onX,pm⟩
 refine aM (fm (Ab hle)) (aH ?_);refine aj ?_;refine aA (aL (aA (aG ?_)));refine eu p9 p10 ?_;refine bE (eh p9 ?_);refine aQ (aIS H rnd) ?_;rintro _ Y ⟨⟨x,hx,rfl⟩,rnd2,hY⟩;have onY:=Ctx.On.other on.2.1 onX hY (Ag _) (fun hn=>(on.1.2.2 hn).1);have hand:iL .and (.p .int) (.int .u64 (x:Int)) (.int .u64 ((p - 1:Nat):Int))=some (.int .u64 ((Nat.land x (p - 1):Nat):Int)):=aKs _ hx ay;have hlo:Nat.land x (p - 1)<=p - 1:=Nat.and_le_right;obtain⟨y,hy⟩:∃y,y=Nat.land x (p - 1):=⟨_,rfl⟩;rw[<-hy] at hand hlo;simp only[↓aC,aB,rE,↓reduceIte,p10,show IntKind.u64.wrap ((p:Int) - 1)=((p - 1:Nat):Int) by rw[wrap_u64 ay ay];omega,hand,wrap_i64 (n:=(y:Int)) ay ay];refine aA (aW (Q:=fun o A' Z=>o= .normal/\Z=Y/\A'.inr=false/\∃z:Nat,z<L/\aD 12 A'.F= .int .i64 (z:Int)/\aD 0 A'.F=C.v/\aD 1 A'.F= .int .i64 (a:Int)/\aD 8 A'.F= .int .i64 (L:Int)/\aD 9 A'.F= .ptr S.nx 0/\aD 10 A'.F= .int .u64 (p:Int)/\aD 11 A'.F= .int .i64 (i:Int)) (aA (aG ?_)) ?_)
 ·refine eu p8 @dle ?_;by_cases hge:L<=y
  ·refine aM (fm (Ab hge)) (aG ?_);refine eu p8 (aBA (a:=y) (b:=L) ay ay) ?_;exact⟨y - L,ay,rfl,p0,p1,p9,p10,p11⟩
  ·refine aK (fm (Aa hge)) (aH ?_);exact⟨rfl,rfl,rfl,y,ay,by refine⟨?_,?_,?_,?_,?_,?_,?_⟩<;>simp only[↓aC,aB,rE,↓reduceIte,p0,p1,p8,p9,p10,p11]⟩
 clear p0 p1 p8 p9 p10 p11 onX hY;rintro o ⟨F,inr⟩ Z ⟨rfl,rfl,q0,z,hz,p12,p0,p1,p8,p9,p10,p11⟩;simp only at q0 p12 p0 p1 p8 p9 p10 p11;subst q0;refine aj ?_;have w1:=aBx (a:=a) (b:=z) ay;have onT:=onY.start;refine jA C i (a+z) 17 onT ay ay  rfl bg bg bg ?_;simp only[↓aC,aB,rE,↓reduceIte,Ca,Bw,rA,p0,p1,p11,p12,w1,aJ,C.ia (i:=i) ay,C.ia (i:=a+z) ay,onY.1.ld (i:=i) ay,onY.1.ld (i:=a+z) ay,onY.1.self (i:=i) ay,onY.1.self (i:=a+z) ay];intro W hW;have rnd3:aDa S.nx W:=by
  have⟨h1,x',h2,h3⟩:=rnd2;refine⟨Ae h1 hW.2.2.1,x',h2,(hW.2.2.2 _ h1 ?_).trans h3⟩;have:=(on.1.2.2 ay).1;omega
 refine aG ?_;refine eu p11 (kQ (a:=i) ay) ?_;refine⟨k - 1,ay,rfl,am p0,am p1,fo p8 hL,am p9,am p10,rnd3,i+1,_,ay,ay,ak,onY.trans hW,permIn_trans _ _ _ _ _ pm (swp_permIn _ _ _ _ _ ay ay ay ay  ?_)⟩;have:=onY.sz;omega
end Go.Ev.Gl
namespace Go.Ev.Gl
open Go.Sort
variable {fns:T dU}
def aJK(r:Nat)(S:St):Prop:=r<S.nx/\∃x:Int,S.h.get r=some (.cells [.int .i64 x] false 0)
theorem aJK.same{r:Nat}{S S':St}(h:aJK r S)(hs:Same S S'):aJK r S':=⟨Ae h.1 hs.1,h.2.imp fun _ hx=>(hs.2 _ h.1).trans hx⟩
structure Piv{agg:Bool}{k:Nat}(C:Ctx fns agg k)(S0 S:St)(d:Array AV)(r:Nat):Prop where
 on:C.On S0 S d
 hI:C.I S0
 hr:S0.nx<=r
 hb:0<C.n->C.b<S0.nx
 cnt:aJK r S
theorem vL{C:Ctx fns false 1}{S S0:St}{d:Array AV}{r a b:Nat}(H:Has fns)(h:Piv C S0 S d r)(ha:a<C.n)(hb:b<C.n):gH fns (.fn 92 [] []) [C.v,.int .i64 (a:Int),.int .i64 (b:Int),.ptr r 0,C.f] S fun v S'=>∃x y:Nat,v= .tup [.int .i64 (x:Int),.int .i64 (y:Int)]/\(x=a/\y=b\/x=b/\y=a)/\Piv C S0 S' d r:=by
 refine cF H.f92 (by simp) ?_;refine aq ?_;refine bQ (aq ?_);refine aA (aW (Q:=fun o A' X=>o= .normal/\aD 1 A'.F= .int .i64 (a:Int)/\aD 2 A'.F= .int .i64 (b:Int)/\Piv C S0 X d r\/o= .ret/\aD 10 A'.F= .int .i64 (b:Int)/\aD 11 A'.F= .int .i64 (a:Int)/\Piv C S0 X d r) (aA (dO (fun _=>False) ?_)) ?_)
 ·intro X1 x1;have on:=h.on;simp only[↓sU,sD,rE,↓reduceIte,rA,aJ,C.ia ha,C.ia hb,on.1.ld ha,on.1.ld hb,on.1.self ha,on.1.self hb,Ctx.old on.1 ha,Ctx.old on.1 hb];refine cL rfl ?_;refine af ?_;refine aQ ((on.step x1).cmp hb ha) ?_;rintro _ Y ⟨hY,z,rfl,hz⟩;refine⟨hY,?_⟩;refine af ?_;have hSY:=x1.trans hY;have pv:Piv C S0 Y d r:=⟨on.step hSY,h.hI,h.hr,h.hb,h.cnt.same hSY⟩;by_cases hlt:z<0
  ·refine aM (fm (Ab hlt)) ?_;have⟨c1,x,c2⟩:=pv.cnt;have l0:eQ (.ptr r 0) false 1 Y.h=some (.int .i64 x):=cV c2 rfl;refine bQ (ez @aY @bN @bB l0 ?_);refine fD (v:=.undef) (S1:=⟨Y.h.set r (some (.cells [.int .i64 (IntKind.i64.wrap (x+1))] false 0)),Y.nx⟩) (fun call=>by rw[dS];refine eh @cH ?_;exact stc (cs:=[.int .i64 x]) c2 (by simp)) ?_;refine aj ?_;refine bQ (aj ?_);refine aR ?_;refine .inr ⟨rfl,ak,ak,Ctx.On.other pv.hI pv.on ((cC.refl r Y).put _) pv.hr pv.hb,pv.hI,pv.hr,pv.hb,c1,IntKind.i64.wrap (x+1),?_⟩;simp only;rw[dd,if_pos rfl]
  ·refine aK (fm (Aa hlt)) (aH ?_);exact .inl ⟨rfl,ak,ak,pv⟩
 ·rintro o ⟨F,inr⟩ X (⟨rfl,p1,p2,pv⟩ | ⟨rfl,p1,p2,pv⟩)
  ·simp only at p1 p2;refine aj ?_;refine bQ (eu p1 p2 ?_);refine aR (aj ?_);exact⟨a,b,rfl,.inl ⟨rfl,rfl⟩,pv⟩
  ·simp only at p1 p2;refine eu p1 p2 ?_;exact⟨b,a,rfl,.inr ⟨rfl,rfl⟩,pv⟩
theorem qP(x y:AV):jU (.tup [x,y]) 0=some x:=rfl
theorem qS(x y:AV):jU (.tup [x,y]) 1=some y:=rfl
theorem aCa{C:Ctx fns false 1}{S S0:St}{d:Array AV}{r a b c:Nat}(H:Has fns)(h:Piv C S0 S d r)(ha:a<C.n)(hb:b<C.n)(hc:c<C.n):gH fns (.fn 84 [] []) [C.v,.int .i64 (a:Int),.int .i64 (b:Int),.int .i64 (c:Int),.ptr r 0,C.f] S fun v S'=>∃x:Nat,v= .int .i64 (x:Int)/\(x=a\/x=b\/x=c)/\Piv C S0 S' d r:=by
 refine cF H.f84 (by simp) ?_;refine aq ?_;refine bQ (aq ?_);refine bQ (aj ?_);refine bE (aj ?_);refine aQ (vL H h ha hb) ?_;rintro _ X ⟨a1,b1,rfl,h1,pX⟩;refine eu @qP @qS ?_;refine bQ (aj ?_);refine bE (aj ?_);refine aQ (vL H pX ay hc) ?_;rintro _ Y ⟨b2,c2,rfl,h2,pY⟩;refine eu @qP @qS ?_;refine bQ (aj ?_);refine bE (aj ?_);refine aQ (vL H pY (a:=a1) (b:=b2) ay ay) ?_;rintro _ Z ⟨a3,b3,rfl,h3,pZ⟩;refine eu @qP @qS ?_;refine bQ (aj ?_);refine aR (aj ?_);exact⟨b3,rfl,ay,pZ⟩
theorem qJ{C:Ctx fns false 1}{S S0:St}{d:Array AV}{r a:Nat}(H:Has fns)(h:Piv C S0 S d r)(ha:1<=a)(hb:a+1<C.n):gH fns (.fn 83 [] []) [C.v,.int .i64 (a:Int),.ptr r 0,C.f] S fun v S'=>∃x:Nat,v= .int .i64 (x:Int)/\a<=x+1/\x<=a+1/\Piv C S0 S' d r:=by
 have hn:=C.hn;refine cF H.f83 (by simp) ?_;refine aq ?_;refine bQ (aq ?_);refine bQ ?_;refine eu (kQ (ay:a+1<=9223372036854775807)) (kT ha (ay:a<=9223372036854775807)) ?_;refine bE (aj ?_);refine aQ (aCa H h (a:=a - 1) (b:=a) (c:=a+1) ay ay  hb) ?_;rintro _ X ⟨x,rfl,hx,pX⟩;refine aR (aj ?_);exact⟨x,rfl,ay,ay,pX⟩
theorem aIg{C:Ctx fns false 1}{S S0:St}{d:Array AV}{a b:Nat}(H:Has fns)(on0:C.On S0 S d)(hab:12<b - a)(hb:b<=C.n):gH fns (.fn 69 [] []) [C.v,.int .i64 (a:Int),.int .i64 (b:Int),C.f] S fun v S'=>∃x:Nat,∃h:Int,v= .tup [.int .i64 (x:Int),.int .i64 h]/\a<=x/\x<b/\C.On S0 S' d:=by
 have hn:=C.hn;refine aQ (Q:=fun v S'=>∃x:Nat,∃h:Int,v= .tup [.int .i64 (x:Int),.int .i64 h]/\a<=x/\x<b/\C.On S S' d) ?_ fun v S' h=>by
  have⟨x,h,h1,h2,h3,h4⟩:=h;exact⟨x,h,h1,h2,h3,on0.trans h4⟩
 refine cF H.f69 (by simp) ?_;refine aq ?_;refine bQ (aq ?_);refine bQ ?_;refine dz (aBA (ay:a<=b) (ay:b<=9223372036854775807)) ?_;refine aA (aG (dC ?_));intro S1 s1 n1 g1;have pv:Piv C S S1 d S.nx:=⟨on0.start.step s1,on0.2.1,Ag _,fun hn=>(on0.1.2.2 hn).1,ay,0,g1⟩;obtain⟨q,hq⟩:∃q,q=(b - a) / 4:=⟨_,rfl⟩;have hd:iL .quo (.p .int) (.int .i64 ((b - a:Nat):Int)) (.int .i64 4)=some (.int .i64 (q:Int)):=by
  rw[hq];exact aNZ (n:=4) ay ay
 have m1:IntKind.i64.wrap ((q:Int) * 1)=(q:Int):=by rw[Int.mul_one,wrap_i64 ay ay]
 have m2:IntKind.i64.wrap ((q:Int) * 2)=((q * 2:Nat):Int):=aP5 (b:=2) ay;have m3:IntKind.i64.wrap ((q:Int) * 3)=((q * 3:Nat):Int):=aP5 (b:=3) ay;refine aj ?_;refine bQ ?_;refine ew hd m1 (aBx (a:=a) (b:=q) ay) ?_;refine bQ ?_;refine ew hd m2 (aBx (a:=a) (b:=q * 2) ay) ?_;refine bQ ?_;refine ew hd m3 (aBx (a:=a) (b:=q * 3) ay) ?_;refine aA (aW (Q:=fun o A' X=>o= .normal/\∃x:Nat,a<=x/\x<b/\aD 13 A'.F= .int .i64 (x:Int)/\aD 11 A'.F= .ptr S.nx 0/\Piv C S X d S.nx) (aA (aG ?_)) ?_)
 ·refine aj ?_;refine aM ff ?_;refine aA (aW (Q:=fun o A' X=>o= .normal/\(∃x y z:Nat,a<=x/\x<b/\a<=y/\y<b/\a<=z/\z<b/\aD 12 A'.F= .int .i64 (x:Int)/\aD 13 A'.F= .int .i64 (y:Int)/\aD 14 A'.F= .int .i64 (z:Int))/\aD 0 A'.F=C.v/\aD 3 A'.F=C.f/\aD 11 A'.F= .ptr S.nx 0/\Piv C S X d S.nx) (aA (aG ?_)) ?_)
  ·refine aj ?_;by_cases h50:50<=b - a;rotate_left
   ·refine aK ff (aH ?_);exact⟨rfl,⟨a+q,a+q * 2,a+q * 3,ay,ay,ay,ay,ay,ay,by refine⟨?_,?_,?_⟩<;>simp only[↓aC,aB,rE,↓reduceIte]⟩,ak,ak,ak,pv⟩
   refine aM ff ?_;refine bQ (aj ?_);refine bE (aj ?_);refine aQ (qJ H pv (a:=a+q) ay ay) ?_;rintro _ X ⟨x,rfl,hx1,hx2,pX⟩;refine bQ (aj ?_);refine bE (aj ?_);refine aQ (qJ H pX (a:=a+q * 2) ay ay) ?_;rintro _ Y ⟨y,rfl,hy1,hy2,pY⟩;refine aG (aj ?_);refine bE (aj ?_);refine aQ (qJ H pY (a:=a+q * 3) ay ay) ?_;rintro _ Z ⟨z,rfl,hz1,hz2,pZ⟩;exact⟨⟨x,y,z,ay,ay,ay,ay,ay,ay,rfl,rfl,rfl⟩,pZ⟩
  rintro o ⟨F,inr⟩ X ⟨rfl,⟨x,y,z,hx,hx2,hy,hy2,hz,hz2,p12,p13,p14⟩,p0,p3,p11,pX⟩;simp only at p12 p13 p14 p0 p3 p11;refine aj ?_;refine aG ?_;simp only[↓aC,aB,rE,↓reduceIte,p0,p3,p11,p12,p13,p14];refine bE ?_;simp only[↓aC,aB,rE,↓reduceIte,p0,p3,p11,p12,p13,p14];refine aQ (aCa H pX (a:=x) (b:=y) (c:=z) ay ay ay) ?_;rintro _ Y ⟨w,rfl,hw,pY⟩;exact⟨w,ay,ay,rfl,pY⟩
 rintro o ⟨F,inr⟩ X ⟨rfl,x,hx,hx2,p13,p11,pX⟩;simp only at p13 p11;have⟨c1,w,c2⟩:=pX.cnt;have l0:eQ (.ptr S.nx 0) false 1 X.h=some (.int .i64 w):=cV c2 rfl;refine aj ?_;refine bQ (eu p11 l0 ?_);refine aL (aA (aG ?_));refine aj ?_;by_cases h0:w=0
 ·refine aM (fm (Ab h0)) (aA (aG ?_));refine eh p13 ?_;refine aR (aj ?_);exact⟨x,1,rfl,hx,hx2,pX.on⟩
 refine aK (fm (Aa h0)) (aA (aG ?_));refine aj ?_;by_cases h12:w=12
 ·refine aM (fm (Ab h12)) (aA (aG ?_));refine eh p13 ?_;refine aR (aj ?_);exact⟨x,2,rfl,hx,hx2,pX.on⟩
 refine aK (fm (Aa h12)) (aA (aG ?_));refine eh p13 ?_;refine aR (aj ?_);exact⟨x,0,rfl,hx,hx2,pX.on⟩
end Go.Ev.Gl
namespace Go.Ev.Gl
open Go.Sort
variable {fns:T dU}
structure PdI{agg:Bool}{k:Nat}(C:Ctx fns agg k)(S0:St)(a b:Nat)(d:Array AV)(a' b':Nat)(e:Array AV)(X:St):Prop where
 on:C.On S0 X e
 hB:Sort.Below C.lt a' b' e
 fin:∀R,PermIn a' b' e R->SortedIn C.lt a' b' R->PermIn a b d R/\SortedIn C.lt a b R
theorem PdI.perm{agg:Bool}{k:Nat}{C:Ctx fns agg k}{S0 X Y:St}{a b a' b':Nat}{d e e':Array AV}(h:PdI C S0 a b d a' b' e X)(hb:b'<=C.n)(on:C.On S0 Y e')(p:PermIn a' b' e e'):PdI C S0 a b d a' b' e' Y:=
 ⟨on,h.hB.perm (by rw[h.on.sz];exact hb) p,fun R h1 h2=>h.fin R (permIn_trans _ _ _ _ _ p h1) h2⟩
theorem PdI.step{agg:Bool}{k:Nat}{C:Ctx fns agg k}{S0 X Y:St}{a b a' b':Nat}{d e:Array AV}(h:PdI C S0 a b d a' b' e X)(hs:Same X Y):PdI C S0 a b d a' b' e Y:=⟨h.on.step hs,h.hB,h.fin⟩
def PdT{agg:Bool}{k:Nat}(C:Ctx fns agg k)(a b L:Nat)(wb wp:Bool)(A:bS):Prop:=A.inr=false/\aD 0 A.F=C.v/\aD 1 A.F= .int .i64 (a:Int)/\aD 2 A.F= .int .i64 (b:Int)/\aD 3 A.F= .int .i64 (L:Int)/\aD 4 A.F=C.f/\aD 10 A.F= .bool wb/\aD 11 A.F= .bool wp
theorem aL2{C:Ctx fns false 1}(H:Has fns)(hS:SWO C.lt):∀ (N:Nat) {S S0:St} {d:Array AV} {a b L:Nat},b - a<N->C.On S0 S d->a<=b->b<=C.n->L<=1000000000->Sort.Below C.lt a b d->gH fns (.fn 59 [] []) [C.v,.int .i64 (a:Int),.int .i64 (b:Int),.int .i64 (L:Int),C.f] S fun _ S'=>∃e,C.On S0 S' e/\PermIn a b d e/\SortedIn C.lt a b e:=by
 intro N
 induction N with
 | zero=>
 intro S S0 d a b L hN;omega
 | succ N ih=>
 intro S S0 d a b L hN on hab hb hL hB;have hn:=C.hn;refine cF H.f59 (by simp) ?_;refine aq ?_;refine bQ (aq ?_);refine bQ (aq ?_);refine aW (Q:=fun o A' X=>o= .ret/\∃e,C.On S0 X e/\PermIn a b d e/\SortedIn C.lt a b e) (aL (bK (fun k A' X=>∃a' b' L' wb wp e,k=b' - a'/\a'<=b'/\b'<=C.n/\b' - a'<=b - a/\L'<=1000000000/\PdT C a' b' L' wb wp A'/\PdI C S0 a b d a' b' e X) ?_ _ _ _ ⟨a,b,L,true,true,d,rfl,hab,hb,Ag _,hL,⟨rfl,by refine⟨?_,?_,?_,?_,?_,?_,?_⟩<;>simp only[↓aC,aB,rE,↓reduceIte]⟩,on,hB,fun R h1 h2=>⟨h1,h2⟩⟩)) ?_;rotate_left
 ·rintro o A X ⟨rfl,h⟩;exact⟨_,rfl,h⟩
 clear on hB;rintro k ⟨F,inr⟩ X ⟨a',b',L',wb,wp,e,hk,hab',hb',hle,hL',⟨q0,p0,p1,p2,p3,p4,p10,p11⟩,inv⟩;simp only at q0 p0 p1 p2 p3 p4 p10 p11;subst q0;refine aL (aA (aG ?_));refine ew p1 p2 (aBA hab' (ay:b'<=9223372036854775807)) ?_;refine fE (aj ?_);by_cases h12:b' - a'<=12
 ·refine aM ff (aA (aG ?_));refine ez p0 p1 p2 p4 ?_;refine bE (ez p0 p1 p2 p4 ?_);refine aQ (aC4 H inv.on hab' hb') ?_;intro r Z onZ;refine aR (aj ?_);have⟨h1,h2⟩:=insertionSort_holds hS e a' b' hab' (by rw[inv.on.sz];exact hb');exact⟨_,onZ,inv.fin _ h1 h2⟩
 refine aK ff (aH ?_);refine aj ?_;refine fE (eh p3 ?_);by_cases h0:L'=0
 ·subst h0;refine aM (by simp only[↓aC,aB,rE,↓reduceIte];rfl) (aA (aG ?_));refine ez p0 p1 p2 p4 ?_;refine bE (ez p0 p1 p2 p4 ?_);refine aQ (aKS H inv.on ay hb') ?_;intro r Z onZ;refine aR (aj ?_);have⟨h1,h2⟩:=heapSort_holds hS e a' b' hab' (by rw[inv.on.sz];exact hb');exact⟨_,onZ,inv.fin _ h1 h2⟩
 refine aK ff (aH ?_);refine aj ?_;refine aA (aW (Q:=fun o A' X=>o= .normal/\∃L' e,L'<=1000000000/\PdT C a' b' L' wb wp A'/\aD 12 A'.F= .int .i64 ((b' - a':Nat):Int)/\PdI C S0 a b d a' b' e X) (aA (aG ?_)) ?_)
 ·refine eu p10 @eF ?_;cases wb with
  | true=>
   refine aK (fm @Bt) (aH ?_);exact⟨rfl,L',e,hL',⟨rfl,by refine⟨?_,?_,?_,?_,?_,?_,?_⟩<;>simp only[↓aC,aB,rE,↓reduceIte,p0,p1,p2,p3,p4,p10,p11]⟩,ak,inv⟩
  | false=>
   refine aM (fm @Cb) (aA (aG ?_));refine ez p0 p1 p2 p4 ?_;refine bE (ez p0 p1 p2 p4 ?_);refine aQ (aI8 H inv.on hab' hb') ?_;rintro r Z ⟨e1,onZ,pm⟩;refine aG ?_;refine eu p3 (kT (ay:1<=L') (ay:L'<=9223372036854775807)) ?_;exact⟨L' - 1,e1,ay,⟨rfl,by refine⟨?_,?_,?_,?_,?_,?_,?_⟩<;>simp only[↓aC,aB,rE,↓reduceIte,p0,p1,p2,p4,p10,p11]⟩,inv.perm hb' onZ pm⟩
 clear p0 p1 p2 p3 p4 p10 p11 inv hL' h0 L' e;rintro o ⟨F,inr⟩ X ⟨rfl,L',e,hL',⟨q0,p0,p1,p2,p3,p4,p10,p11⟩,p12,inv⟩;simp only at q0 p0 p1 p2 p3 p4 p10 p11 p12;subst q0;refine aj ?_;refine bQ (ez p0 p1 p2 p4 ?_);refine bE (ez p0 p1 p2 p4 ?_);refine aQ (aIg H inv.on ay hb') ?_;rintro _ Y ⟨pv,hint,rfl,hpv1,hpv2,onY⟩
 replace inv:=inv.perm hb' onY (permIn_refl _ _ _)
 refine eu @qP @qS ?_;refine aA (aW (Q:=fun o A' X=>o= .normal/\∃pv hint e,a'<=pv/\pv<b'/\PdT C a' b' L' wb wp A'/\aD 12 A'.F= .int .i64 ((b' - a':Nat):Int)/\aD 13 A'.F= .int .i64 (pv:Nat)/\aD 14 A'.F= .int .i64 hint/\PdI C S0 a b d a' b' e X) (aA (aG ?_)) ?_)
 ·refine aj ?_;by_cases h2:hint=2;rotate_left
  ·refine aK (fm (Aa h2)) (aH ?_);exact⟨rfl,pv,hint,e,hpv1,hpv2,⟨rfl,by refine⟨?_,?_,?_,?_,?_,?_,?_⟩<;>simp only[↓aC,aB,rE,↓reduceIte,p0,p1,p2,p3,p4,p10,p11]⟩,am p12,ak,ak,inv⟩
  refine aM (fm (Ab h2)) (aA (aG ?_));refine ez p0 p1 p2 p4 ?_;refine bE (ez p0 p1 p2 p4 ?_);refine aQ (aF0 H inv.on ay hb') ?_;intro r Z onZ;have pm:=reverseRange_holds e a' b' hab' (by rw[inv.on.sz];exact hb');refine bQ ?_;refine fa p1 p2 (kT (ay:1<=b') (ay:b'<=9223372036854775807)) (aBA hpv1 (ay:pv<=9223372036854775807)) (aBA (a:=b' - 1) (b:=pv - a') ay ay) ?_;refine aG (aj ?_);exact⟨b' - 1 - (pv - a'),1,_,ay,ay,⟨rfl,by refine⟨?_,?_,?_,?_,?_,?_,?_⟩<;>simp only[↓aC,aB,rE,↓reduceIte,p0,p1,p2,p3,p4,p10,p11]⟩,p12,rfl,rfl,inv.perm hb' onZ pm⟩
 clear p0 p1 p2 p3 p4 p10 p11 p12 inv onY hpv1 hpv2 pv hint e;rintro o ⟨F,inr⟩ X ⟨rfl,pv,hint,e,hpv1,hpv2,⟨q0,p0,p1,p2,p3,p4,p10,p11⟩,p12,p13,p14,inv⟩;simp only at q0 p0 p1 p2 p3 p4 p10 p11 p12 p13 p14;subst q0;refine aj ?_;refine aA (aW (Q:=fun o A' X=>o= .ret/\(∃e,C.On S0 X e/\PermIn a b d e/\SortedIn C.lt a b e)\/o= .normal/\∃e,PdT C a' b' L' wb wp A'/\aD 12 A'.F= .int .i64 ((b' - a':Nat):Int)/\aD 13 A'.F= .int .i64 (pv:Nat)/\PdI C S0 a b d a' b' e X) (aA (aG ?_)) ?_)
 ·by_cases hc:wb=true/\wp=true/\hint=1
  ·obtain⟨rfl,rfl,rfl⟩:=hc;refine ew p10 p11 p14 ?_;refine aM (by simp only[↓aC,aB,rE,↓reduceIte];rfl) (aA (aG ?_));refine ez p0 p1 p2 p4 ?_;refine bE (ez p0 p1 p2 p4 ?_);refine aQ (aFL H inv.on ay hb') ?_;rintro _ Z ⟨rfl,onZ⟩;have⟨h1,h2⟩:=partialInsertionSort_holds hS e a' b' ay (by rw[inv.on.sz];exact hb') inv.hB;cases hr:(partialInsertionSort C.lt e a' b').2 with
   | true=>
    refine aM (ak) (aR ?_);exact .inl ⟨rfl,_,onZ,inv.fin _ h1 (h2 hr)⟩
   | false=>
    refine aK (ak) (aH ?_);exact .inr ⟨rfl,_,⟨rfl,by refine⟨?_,?_,?_,?_,?_,?_,?_⟩<;>simp only[↓aC,aB,rE,↓reduceIte,p0,p1,p2,p3,p4,p10,p11]⟩,am p12,am p13,inv.perm hb' onZ h1⟩
  ·cases wb with
   | false=>
    refine ew p10 p11 p14 ?_;refine aK (ak) (aH ?_);exact .inr ⟨rfl,e,⟨rfl,by refine⟨?_,?_,?_,?_,?_,?_,?_⟩<;>simp only[↓aC,aB,rE,↓reduceIte,p0,p1,p2,p3,p4,p10,p11]⟩,am p12,am p13,inv⟩
   | true=>
   cases wp with
   | false=>
    refine ew p10 p11 p14 ?_;refine aK (ak) (aH ?_);exact .inr ⟨rfl,e,⟨rfl,by refine⟨?_,?_,?_,?_,?_,?_,?_⟩<;>simp only[↓aC,aB,rE,↓reduceIte,p0,p1,p2,p3,p4,p10,p11]⟩,am p12,am p13,inv⟩
   | true=>
    have hh:¬hint=1:=fun h=>hc ⟨rfl,rfl,h⟩;refine ez p10 p11 p14 (Aa hh) ?_;refine aK (ak) (aH ?_);exact .inr ⟨rfl,e,⟨rfl,by refine⟨?_,?_,?_,?_,?_,?_,?_⟩<;>simp only[↓aC,aB,rE,↓reduceIte,p0,p1,p2,p3,p4,p10,p11]⟩,am p12,am p13,inv⟩
 clear p0 p1 p2 p3 p4 p10 p11 p12 p13 p14 inv hint e;rintro o ⟨F,inr⟩ X (⟨rfl,h⟩ | ⟨rfl,e,⟨q0,p0,p1,p2,p3,p4,p10,p11⟩,p12,p13,inv⟩)
 ·refine aj ?_;exact h
 simp only at q0 p0 p1 p2 p3 p4 p10 p11 p12 p13;subst q0;refine aj ?_;have ip:pv<C.n:=by omega
 refine aA (aW (Q:=fun o A' X=>o= .normal/\PdT C a' b' L' wb wp A'/\aD 12 A'.F= .int .i64 ((b' - a':Nat):Int)/\aD 13 A'.F= .int .i64 (pv:Nat)/\PdI C S0 a b d a' b' e X\/o= .exit 1/\∃a2 e,a'<a2/\a2<=b'/\PdT C a2 b' L' wb wp A'/\PdI C S0 a b d a2 b' e X) (aA (dO (fun _=>False) ?_)) ?_)
 ·intro X1 x1;by_cases ha0:0<a';rotate_left
  ·refine df p1 (Aa (ay:¬ (0:Int)<(a':Int))) ?_;refine aK (ak) (aH ?_);exact .inl ⟨rfl,⟨rfl,by refine⟨?_,?_,?_,?_,?_,?_,?_⟩<;>simp only[↓aC,aB,rE,↓reduceIte,p0,p1,p2,p3,p4,p10,p11]⟩,am p12,am p13,inv.step x1⟩
  have on:=inv.on;have i1:a' - 1<C.n:=by omega
  simp only[↓sU,sD,rE,↓reduceIte,rA,p0,p1,p4,p13,Ab (ay:(0:Int)<(a':Int)),kT (ay:1<=a') (ay:a'<=9223372036854775807),aJ,C.ia i1,C.ia ip,on.1.ld i1,on.1.ld ip,on.1.self i1,on.1.self ip,Ctx.old on.1 i1,Ctx.old on.1 ip];refine cL rfl ?_;refine cm p4 ?_;refine aQ ((on.step x1).cmp i1 ip) ?_;rintro _ Y ⟨hY,z,rfl,hz⟩;refine⟨hY,?_⟩;refine df hz @eF ?_;have invY:=inv.step (x1.trans hY);cases hl:C.lt e[a' - 1]! e[pv]! with
  | true=>
   refine aK (fm @Bt) (aH ?_);exact .inl ⟨rfl,⟨rfl,by refine⟨?_,?_,?_,?_,?_,?_,?_⟩<;>simp only[↓aC,aB,rE,↓reduceIte,p0,p1,p2,p3,p4,p10,p11]⟩,am p12,am p13,invY⟩
  | false=>
   have⟨r1,r2,r3,r4,r5⟩:=round_eq hS (partitionEqual_holds C.lt) (d3:=e) (d4:=(partitionEqual C.lt e a' b' pv).2) (mid:=(partitionEqual C.lt e a' b' pv).1) ha0 hpv1 hpv2 (by rw[on.sz];exact hb') inv.hB hl rfl;refine aM (fm @Cb) (aA (aG ?_));refine fa p0 p1 p2 p4 p13 ?_;refine bE (fa p0 p1 p2 p4 p13 ?_);refine aQ (aHW H invY.on hpv1 hpv2 hb') ?_;rintro _ Z ⟨rfl,onZ⟩;refine bQ (aj ?_);refine bG ?_;refine .inr ⟨rfl,_,_,r1,r2,⟨rfl,by refine⟨?_,?_,?_,?_,?_,?_,?_⟩<;>simp only[↓aC,aB,rE,↓reduceIte,p0,p2,p3,p4,p10,p11]⟩,onZ,r4,fun R h1 h2=>?_⟩;have⟨h3,h4⟩:=r5 R h1 h2;exact inv.fin R h3 h4
 clear p0 p1 p2 p3 p4 p10 p11 p12 p13 inv;rintro o ⟨F,inr⟩ X (⟨rfl,⟨q0,p0,p1,p2,p3,p4,p10,p11⟩,p12,p13,inv⟩ | ⟨rfl,a2,e2,hl1,hl2,pt,inv⟩);rotate_left
 ·refine aj ?_;exact⟨b' - a2,ay,a2,b',L',wb,wp,e2,rfl,ay,hb',ay,hL',pt,inv⟩
 simp only at q0 p0 p1 p2 p3 p4 p10 p11 p12 p13;subst q0;refine aj ?_;obtain⟨mid,hmid⟩:∃mid,mid=(Sort.partition C.lt e a' b' pv).1:=⟨_,rfl⟩;obtain⟨ap,hap⟩:∃ap,ap=(Sort.partition C.lt e a' b' pv).2.1:=⟨_,rfl⟩;obtain⟨d4,hd4⟩:∃d4,d4=(Sort.partition C.lt e a' b' pv).2.2:=⟨_,rfl⟩;have⟨r1,r2,r3,r4,r5,r6,r7⟩:=round_part hS (partition_holds C.lt) (d3:=e) (d4:=d4) (mid:=mid) (ap:=ap) hpv1 hpv2 (by rw[inv.on.sz];exact hb') inv.hB (by rw[hmid,hap,hd4]);refine bQ (fa p0 p1 p2 p4 p13 ?_);refine bE (fa p0 p1 p2 p4 p13 ?_);refine aQ (aKV H inv.on hpv1 hpv2 hb') ?_;rintro _ Z ⟨rfl,onZ⟩;rw[<-hmid,<-hap];rw[<-hd4] at onZ;refine eu @qP @qS ?_;refine bQ (aj ?_);refine bQ ?_;refine ez p1 p2 (aBA r1 (ay:mid<=9223372036854775807)) (aBA (a:=b') (b:=mid) ay ay) ?_;have hq:iL .quo (.p .int) (.int .i64 ((b' - a':Nat):Int)) (.int .i64 8)=some (.int .i64 (((b' - a') / 8:Nat):Int)):=aNZ (n:=8) ay ay;refine bQ (eu p12 hq ?_);refine bQ (eh @dlt ?_);by_cases hlt:mid - a'<b' - mid
 ·refine aM (fm (Ab hlt)) (aA (aG ?_));refine eh @dle ?_;refine bQ (ez p0 p1 p3 p4 ?_);refine bE (ez p0 p1 p3 p4 ?_);refine aQ (ih ay onZ r1 ay hL' r4) ?_;rintro _ W ⟨e5,onW,pm,so⟩;have⟨hB5,hfin⟩:=r6 e5 pm so;refine aG ?_;refine eh (kQ (ay:mid+1<=9223372036854775807)) ?_;refine⟨b' - (mid+1),ay,mid+1,b',L',decide ((b' - a') / 8<=mid - a'),ap,e5,rfl,ay,hb',ay,hL',⟨rfl,by refine⟨?_,?_,?_,?_,?_,?_,?_⟩<;>simp only[↓aC,aB,rE,↓reduceIte,p0,p2,p3,p4]⟩,onW,hB5,fun R h1 h2=>?_⟩;have⟨h3,h4⟩:=hfin R h1 h2;exact inv.fin R h3 h4
 ·refine aK (fm (Aa hlt)) (aA (aG ?_));refine eh @dle ?_;refine bQ ?_;refine fa p0 p2 p3 p4 (kQ (ay:mid+1<=9223372036854775807)) ?_;refine bE (ez p0 p2 p3 p4 ?_);refine aQ (ih (a:=mid+1) (b:=b') ay onZ ay hb' hL' r5) ?_;rintro _ W ⟨e5,onW,pm,so⟩;have⟨hB5,hfin⟩:=r7 e5 pm so;refine aG (aj ?_);refine⟨mid - a',ay,a',mid,L',decide ((b' - a') / 8<=b' - mid),ap,e5,rfl,ay,ay,ay,hL',⟨rfl,by refine⟨?_,?_,?_,?_,?_,?_,?_⟩<;>simp only[↓aC,aB,rE,↓reduceIte,p0,p1,p3,p4]⟩,onW,hB5,fun R h1 h2=>?_⟩;have⟨h3,h4⟩:=hfin R h1 h2;exact inv.fin R h3 h4
theorem aEx{C:Ctx fns false 1}{S:St}{d:Array AV}(H:Has fns)(hS:SWO C.lt)(h:C.At S d)(hI:C.I S)(hl:jD C.v=some (.int .i64 (C.n:Int))):gH fns (.fn 40 [] []) [C.v,C.f] S fun _ S'=>∃e,C.On S S' e/\PermIn 0 C.n d e/\SortedIn C.lt 0 C.n e:=by
 have hn:=C.hn;have hb:bitsLen C.n<=30:=(bitsLen_le_iff C.n 30).2 ay;refine cF H.f40 (by simp) ?_;refine aq ?_;refine bQ (eh hl ?_);refine aG ?_;refine eh (wrap_u64 (n:=(C.n:Int)) ay ay) ?_;refine bE (aj ?_);refine aQ (aGD H ay) ?_;rintro _ _ ⟨rfl,rfl⟩;refine bE (aj ?_);refine aQ (aL2 (a:=0) (b:=C.n) (L:=bitsLen C.n) H hS (C.n - 0+1) ay (Ctx.On.refl h hI) ay ay ay (.inl rfl)) ?_;intro r Z hZ;exact⟨_,rfl,hZ⟩
end Go.Ev.Gl
namespace Go.Ev.Gl
open Go.Sort
variable {fns:T dU}
def aGC(a b:Int):Int:=if a<b then -1 else if b<a then 1 else 0
theorem aFs{S:St}{a b:Int}(H:Has fns):gH fns (.fn 61 [] []) [.int .i64 a,.int .i64 b] S fun r S'=>r= .int .i64 (aGC a b)/\S'=S:=by
 refine cF H.f61 (by simp) ?_;refine aq ?_;refine bQ (aq ?_);refine bQ (aj ?_);refine bE (aj ?_);refine aQ (yX H) ?_;rintro _ _ ⟨rfl,rfl⟩;refine bQ (aj ?_);refine bE (aj ?_);refine aQ (yX H) ?_;rintro _ _ ⟨rfl,rfl⟩;refine fE (aj ?_);refine aK (ak) (aH ?_);refine aj ?_;refine fE (aj ?_);refine aK (ak) (aH ?_);refine aj ?_;refine fE ?_;simp only[↓aC,aB,rE,↓reduceIte];unfold aGC;by_cases h1:a<b
 ·rw[if_pos h1];refine aM (fm (Ab h1)) (aA (aG ?_));refine aj ?_;refine aR ?_;simp only[↓aC,aB,rE,↓reduceIte];rfl
 rw[if_neg h1];refine aK (fm (Aa h1)) (aH ?_);refine aj ?_;refine fE (aj ?_);by_cases h2:b<a
 ·rw[if_pos h2];refine aM (fm (Ab h2)) (aA (aG ?_));refine aj ?_;refine aR ?_;simp only[↓aC,aB,rE,↓reduceIte]
 rw[if_neg h2];refine aK (fm (Aa h2)) (aH ?_);refine aj ?_;refine bQ (aj ?_);refine aR ?_;simp only[↓aC,aB,rE,↓reduceIte]
end Go.Ev.Gl
namespace Go.Ev.Gl
open Go.Sort
variable {fns:T dU}
theorem aLM(a b:Int):aGC a b<0↔a<b:=by
 unfold aGC;split
 ·omega
 ·split<;>omega
theorem aEN(a b:Int):aGC a b=0↔a=b:=by
 unfold aGC;split
 ·omega
 ·split<;>omega
end Go.Ev.Gl
