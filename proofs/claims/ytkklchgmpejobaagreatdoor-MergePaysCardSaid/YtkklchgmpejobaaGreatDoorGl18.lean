import Derived.Test.YtkklchgmpejobaaGreatDoorGl17
open Nat renaming reduceEqDiff → rE, reduceAdd → rA
set_option maxHeartbeats 16000000
set_option linter.unusedSimpArgs false
set_option linter.unusedVariables false
namespace Go.Ev.Gl
open Go.Sort
variable {fns:T cV}
def aIC(C:Ctx fns false 1)(S0:St)(e:Array AV)(a b i s:Nat)(A:bQ)(X:St):Prop:=A.inr=false∧aD 0 A.F=C.v∧aD 1 A.F= .int .i64 (a:Int)∧aD 2 A.F= .int .i64 (b:Int)∧aD 3 A.F=C.f∧aD 9 A.F= .int .i64 (i:Int)∧aD 10 A.F= .int .i64 (s:Int)∧C.On S0 X e
theorem aFq{C:Ctx fns false 1}{S S0:St}{d:Array AV}{a b:Nat}(H:Has fns)(on:C.On S0 S d)(hab:a<b)(hb:b≤C.n):fR fns (.fn 95 [] []) [C.v,.int .i64 (a:Int),.int .i64 (b:Int),C.f] S fun r S'=>r= .bool (partialInsertionSort C.lt d a b).2∧C.On S0 S' (partialInsertionSort C.lt d a b).1:=by
 have hn:=C.hn;refine cE H.f95 (by simp) ?_;refine ah ?_;refine cC ?_;refine ah ?_;refine cC ?_;simp only[↓aA,aB,rE,↓reduceIte,rA,fA (show a+1≤9223372036854775807 by omega)];obtain⟨R,hR⟩:∃R,R=partialInsertionSort C.lt d a b:=⟨_,rfl⟩;rw[←hR];refine aC (bD (Q:=fun o A' X=>((o= .normal∧R.2=false)∨(o= .ret∧aD 8 A'.F= .bool R.2))∧C.On S0 X R.1) (aC (aG ?_)) ?_)
 ·refine ah ?_;refine aN (bT (fun k A' X=>∃i e,a<i∧i≤b∧k≤5∧aIC C S0 e a b i (5 - k) A' X∧partialIns C.lt a b k i e=R) ?_ 5 _ _ ⟨a+1,d,by omega,by omega,by omega,⟨rfl,ae,ae,ae,ae,ae,by simp only[↓aA,aB,rE,↓reduceIte,Cu],on⟩,hR.symm⟩);clear on;rintro k ⟨F,inr⟩ X ⟨i0,e,hai,hib,hk,⟨q0,p0,p1,p2,p3,p9,p10,on⟩,he⟩;simp only at q0 p0 p1 p2 p3 p9 p10;subst q0;refine iP ?_;simp only[↓aA,aB,rE,↓reduceIte,rA,p10];cases k with
  | zero=>
   refine aO (by simp only[↓aA,aB,rE,↓reduceIte];rfl) (bK ?_);have he:(e,false)=R:=he;rw[←he];exact⟨.inl ⟨rfl,rfl⟩,on⟩
  | succ s=>
  refine aR (by simp only[↓aA,aB,rE,↓reduceIte,Ad (show((5 - (s+1):Nat):Int)<5 by omega)]) (aM ?_);try simp only[↓aA,aB,rE,↓reduceIte]
  rw[partialIns_succ] at he;obtain⟨i,hi⟩:∃i,i=scanSorted C.lt e b i0:=⟨_,rfl⟩;rw[←hi] at he;refine aC (aN (aC (bD (Q:=fun o A' X=>o= .normal∧a<i∧i≤b∧aIC C S0 e a b i (5 - (s+1)) A' X) (aN (bT (fun k A' X=>∃j,a<j∧j≤b∧k=b - j∧aIC C S0 e a b j (5 - (s+1)) A' X∧scanSorted C.lt e b j=i) ?_ _ _ _ ⟨i0,by omega,by omega,rfl,⟨rfl,ag p0,ag p1,ag p2,ag p3,ag p9,ag p10,on⟩,hi.symm⟩)) ?_)))
  ·rintro k ⟨F,inr⟩ X ⟨j,haj,hjb,hk,⟨q0,p0,p1,p2,p3,p9,p10,on⟩,hj⟩;simp only at q0 p0 p1 p2 p3 p9 p10;subst q0;refine aC (aC (dK (fun _=>False) ?_));intro X1 x1;by_cases hlt:j<b
   ·have i1:j<C.n:=by omega
    have i2:j - 1<C.n:=by omega
    rw[scanSorted,Ad hlt,Fa] at hj;simp only[↓sU,sD,rE,↓reduceIte,rA,p0,p2,p3,p9,zV,Ad hlt,jU (show 1≤j by omega) (show j≤9223372036854775807 by omega),aH,C.ia i1,C.ia i2,on.1.ld i1,on.1.ld i2,on.1.self i1,on.1.self i2,Ctx.old on.1 i1,Ctx.old on.1 i2];refine cP rfl ?_;simp only[↓sU,sD,rE,↓reduceIte,rA,p3];refine aP ((on.step x1).cmp i1 i2) ?_;rintro _ Y ⟨hY,z,rfl,hz⟩;refine⟨hY,?_⟩;have on2:=(on.step x1).step hY;simp only[↓sU,sD,rE,↓reduceIte,rA,hz,fQ];cases hl:C.lt e[j]! e[j - 1]! with
    | false=>
     rw[hl,Bx,if_pos rfl] at hj;refine aR (by simp only[↓aA,aB,rE,↓reduceIte,Bx]) (aM ?_);try simp only[↓aA,aB,rE,↓reduceIte]
     refine aN (aG ?_);simp only[↓aA,aB,rE,↓reduceIte,p9,fA (show j+1≤9223372036854775807 by omega)];exact⟨b - (j+1),by omega,j+1,by omega,by omega,rfl,⟨rfl,ag p0,ag p1,ag p2,ag p3,ae,ag p10,on2⟩,hj⟩
    | true=>
     rw[hl,Bp,if_neg (by simp)] at hj;refine aO (by simp only[↓aA,aB,rE,↓reduceIte,Bp]) (bK ?_);try simp only[↓aA,aB,rE,↓reduceIte]
     rw[←hj];exact⟨haj,hjb,rfl,ag p0,ag p1,ag p2,ag p3,ag p9,ag p10,on2⟩
   ·rw[scanSorted,Aa hlt,Es,if_neg (by simp)] at hj;simp only[↓sU,sD,rE,↓reduceIte,rA,p0,p2,p3,p9,zV,Aa hlt];refine aO (ae) (bK ?_);try simp only[↓aA,aB,rE,↓reduceIte]
    rw[←hj];exact⟨haj,hjb,rfl,ag p0,ag p1,ag p2,ag p3,ag p9,ag p10,on.step x1⟩
  clear hi on p0 p1 p2 p3 p9 p10;rintro o ⟨F,inr⟩ X ⟨rfl,hai,hib,q0,p0,p1,p2,p3,p9,p10,on⟩;simp only at q0 p0 p1 p2 p3 p9 p10;subst q0;try simp only[↓aA,aB,rE,↓reduceIte]
  refine iP ?_;simp only[↓aA,aB,rE,↓reduceIte,p2,p9,deq];by_cases hie:i=b
  ·rw[if_pos hie] at he;rw[←he];refine aR (by simp only[↓aA,aB,rE,↓reduceIte,Ad hie]) (aC (aG ?_));refine ac ?_;refine aU ?_;simp only[↓aA,aB,rE,↓reduceIte];exact⟨.inr trivial,on⟩
  rw[if_neg hie] at he;refine aO (by simp only[↓aA,aB,rE,↓reduceIte,Aa hie]) (aM ?_);try simp only[↓aA,aB,rE,↓reduceIte]
  refine iP ?_;simp only[↓aA,aB,rE,↓reduceIte,p1,p2,mK (show a≤b by omega) (show b≤9223372036854775807 by omega)];by_cases h50:b - a<50
  ·rw[if_pos h50] at he;rw[←he];refine aR (by simp only[↓aA,aB,rE,↓reduceIte,Ad (show((b - a:Nat):Int)<50 by omega)]) (aC (aG ?_));refine ac ?_;refine aU ?_;simp only[↓aA,aB,rE,↓reduceIte];exact⟨.inr trivial,on⟩
  rw[if_neg h50] at he;refine aO (by simp only[↓aA,aB,rE,↓reduceIte,Aa (show ¬ ((b - a:Nat):Int)<50 by omega)]) (aM ?_);try simp only[↓aA,aB,rE,↓reduceIte]
  have i1:i<C.n:=by omega
  have i2:i - 1<C.n:=by omega
  refine aC ?_;refine jF C i (i - 1) 15 on i1 i2 rfl (by decide) (by decide) (by decide) ?_;simp only[↓aA,aB,rE,↓reduceIte,Bk,Bu,rA,p0,p9,jU (show 1≤i by omega) (show i≤9223372036854775807 by omega),aH,C.ia i1,C.ia i2,on.1.ld i1,on.1.ld i2,on.1.self i1,on.1.self i2];clear on;intro Z on;try simp only[↓aA,aB,rE,↓reduceIte]
  obtain⟨d1,h1⟩:∃d1,d1=if i - a≥2 then shiftDown C.lt (i - 1) (swp e i (i - 1)) else swp e i (i - 1):=⟨_,rfl⟩;obtain⟨d2,h2⟩:∃d2,d2=if b - i≥2 then shiftUp C.lt b (i+1) d1 else d1:=⟨_,rfl⟩;have he:partialIns C.lt a b s i d2=R:=by
   rw[h2,h1];exact he
  refine aC (bD (Q:=fun o A' X=>o= .normal∧aIC C S0 d1 a b i (5 - (s+1)) A' X) (aC (aG ?_)) ?_)
  ·simp only[↓aA,aB,rE,↓reduceIte,p1,p9,mK (show a≤i by omega) (show i≤9223372036854775807 by omega)];by_cases h2a:i - a≥2;rotate_left
   ·rw[if_neg h2a] at h1;refine aO (by simp only[↓aA,aB,rE,↓reduceIte,Aa (show ¬ (2:Int)≤((i - a:Nat):Int) by omega)]) (aM ?_);rw[h1];exact⟨rfl,rfl,ag p0,ag p1,ag p2,ag p3,ag p9,ag p10,on⟩
   rw[if_pos h2a] at h1;refine aR (by simp only[↓aA,aB,rE,↓reduceIte,Ad (show(2:Int)≤((i - a:Nat):Int) by omega)]) (aC (aG ?_));simp only[↓aA,aB,rE,↓reduceIte,p9,jU (show 1≤i by omega) (show i≤9223372036854775807 by omega)];refine aN (bT (fun k A' X=>∃f,k<i∧aIC C S0 f a b i (5 - (s+1)) A' X∧aD 11 A'.F= .int .i64 (k:Int)∧shiftDown C.lt k f=d1) ?_ (i - 1) _ _ ⟨_,by omega,⟨rfl,ag p0,ag p1,ag p2,ag p3,ag p9,ag p10,on⟩,ae,h1.symm⟩);clear p0 p1 p2 p3 p9 p10 on;rintro k ⟨F,inr⟩ X ⟨f,hki,⟨q0,p0,p1,p2,p3,p9,p10,on⟩,p11,hf⟩;simp only at q0 p0 p1 p2 p3 p9 p10 p11;subst q0;refine iP ?_;simp only[↓aA,aB,rE,↓reduceIte,p11];cases k with
   | zero=>
    refine aO (by simp only[↓aA,aB,rE,↓reduceIte];rfl) (bK ?_);try simp only[↓aA,aB,rE,↓reduceIte]
    rw[←hf];exact⟨rfl,ag p0,ag p1,ag p2,ag p3,ag p9,ag p10,on⟩
   | succ t=>
   have w1:IntKind.i64.wrap (((t+1:Nat):Int) - 1)=(t:Int):=jU (a:=t+1) (by omega) (by omega);refine aR (by simp only[↓aA,aB,rE,↓reduceIte,Ad (show(1:Int)≤((t+1:Nat):Int) by omega)]) (aM ?_);try simp only[↓aA,aB,rE,↓reduceIte]
   have i1:t+1<C.n:=by omega
   have i2:t<C.n:=by omega
   refine aC (aN (aC (aC (dK (fun _=>False) ?_))));intro X1 x1;simp only[↓sU,sD,rE,↓reduceIte,rA,p0,p3,p11,w1,aH,C.ia i1,C.ia i2,on.1.ld i1,on.1.ld i2,on.1.self i1,on.1.self i2,Ctx.old on.1 i1,Ctx.old on.1 i2];refine cP rfl ?_;simp only[↓sU,sD,rE,↓reduceIte,rA,p3];refine aP ((on.step x1).cmp i1 i2) ?_;rintro _ Y ⟨hY,z,rfl,hz⟩;refine⟨hY,?_⟩;have on2:=(on.step x1).step hY;simp only[↓sU,sD,rE,↓reduceIte,rA,hz,fQ];rw[shiftDown] at hf;cases hl:C.lt f[t+1]! f[t]! with
   | false=>
    rw[hl,Bx,if_pos rfl] at hf;refine aR (by simp only[↓aA,aB,rE,↓reduceIte,Bx]) (bK ?_);try simp only[↓aA,aB,rE,↓reduceIte]
    rw[←hf];exact⟨rfl,ag p0,ag p1,ag p2,ag p3,ag p9,ag p10,on2⟩
   | true=>
    rw[hl,Bp,if_neg (by simp)] at hf;refine aO (by simp only[↓aA,aB,rE,↓reduceIte,Bp]) (aM ?_);try simp only[↓aA,aB,rE,↓reduceIte]
    refine jF C (t+1) t 15 on2 i1 i2 rfl (by decide) (by decide) (by decide) ?_;simp only[↓aA,aB,rE,↓reduceIte,Bk,Bu,rA,p0,p11,w1,aH,C.ia i1,C.ia i2,on2.1.ld i1,on2.1.ld i2,on2.1.self i1,on2.1.self i2];clear on on2;intro Z on;refine aG ?_;simp only[↓aA,aB,rE,↓reduceIte,p11,w1];exact⟨t,by omega,_,by omega,⟨rfl,ag p0,ag p1,ag p2,ag p3,ag p9,ag p10,on⟩,ae,hf⟩
  clear on p0 p1 p2 p3 p9 p10;rintro o ⟨F,inr⟩ X ⟨rfl,q0,p0,p1,p2,p3,p9,p10,on⟩;simp only at q0 p0 p1 p2 p3 p9 p10;subst q0;try simp only[↓aA,aB,rE,↓reduceIte]
  refine bD (Q:=fun o A' X=>o= .normal∧aIC C S0 d2 a b i (5 - (s+1)) A' X) (aC (aG ?_)) ?_
  ·simp only[↓aA,aB,rE,↓reduceIte,p2,p9,mK (show i≤b by omega) (show b≤9223372036854775807 by omega)];by_cases h2b:b - i≥2;rotate_left
   ·rw[if_neg h2b] at h2;refine aO (by simp only[↓aA,aB,rE,↓reduceIte,Aa (show ¬ (2:Int)≤((b - i:Nat):Int) by omega)]) (aM ?_);rw[h2];exact⟨rfl,rfl,ag p0,ag p1,ag p2,ag p3,ag p9,ag p10,on⟩
   rw[if_pos h2b] at h2;refine aR (by simp only[↓aA,aB,rE,↓reduceIte,Ad (show(2:Int)≤((b - i:Nat):Int) by omega)]) (aC (aG ?_));simp only[↓aA,aB,rE,↓reduceIte,p9,fA (show i+1≤9223372036854775807 by omega)];refine aN (bT (fun k A' X=>∃f j,i<j∧j≤b∧k=b - j∧aIC C S0 f a b i (5 - (s+1)) A' X∧aD 12 A'.F= .int .i64 (j:Int)∧shiftUp C.lt b j f=d2) ?_ _ _ _ ⟨_,i+1,by omega,by omega,rfl,⟨rfl,ag p0,ag p1,ag p2,ag p3,ag p9,ag p10,on⟩,ae,h2.symm⟩);clear p0 p1 p2 p3 p9 p10 on;rintro k ⟨F,inr⟩ X ⟨f,j,hij,hjb,hk,⟨q0,p0,p1,p2,p3,p9,p10,on⟩,p12,hf⟩;simp only at q0 p0 p1 p2 p3 p9 p10 p12;subst q0;refine iP ?_;simp only[↓aA,aB,rE,↓reduceIte,p2,p12,zV];rw[shiftUp] at hf;by_cases hlt:j<b;rotate_left
   ·rw[if_neg hlt] at hf;refine aO (by simp only[↓aA,aB,rE,↓reduceIte,Aa hlt]) (bK ?_);try simp only[↓aA,aB,rE,↓reduceIte]
    rw[←hf];exact⟨rfl,ag p0,ag p1,ag p2,ag p3,ag p9,ag p10,on⟩
   rw[if_pos hlt] at hf;have w1:=jU (show 1≤j by omega) (show j≤9223372036854775807 by omega);refine aR (by simp only[↓aA,aB,rE,↓reduceIte,Ad hlt]) (aM ?_);try simp only[↓aA,aB,rE,↓reduceIte]
   have i1:j<C.n:=by omega
   have i2:j - 1<C.n:=by omega
   refine aC (aN (aC (aC (dK (fun _=>False) ?_))));intro X1 x1;simp only[↓sU,sD,rE,↓reduceIte,rA,p0,p3,p12,w1,aH,C.ia i1,C.ia i2,on.1.ld i1,on.1.ld i2,on.1.self i1,on.1.self i2,Ctx.old on.1 i1,Ctx.old on.1 i2];refine cP rfl ?_;simp only[↓sU,sD,rE,↓reduceIte,rA,p3];refine aP ((on.step x1).cmp i1 i2) ?_;rintro _ Y ⟨hY,z,rfl,hz⟩;refine⟨hY,?_⟩;have on2:=(on.step x1).step hY;simp only[↓sU,sD,rE,↓reduceIte,rA,hz,fQ];cases hl:C.lt f[j]! f[j - 1]! with
   | false=>
    rw[hl,Bx,if_pos rfl] at hf;refine aR (by simp only[↓aA,aB,rE,↓reduceIte,Bx]) (bK ?_);try simp only[↓aA,aB,rE,↓reduceIte]
    rw[←hf];exact⟨rfl,ag p0,ag p1,ag p2,ag p3,ag p9,ag p10,on2⟩
   | true=>
    rw[hl,Bp,if_neg (by simp)] at hf;refine aO (by simp only[↓aA,aB,rE,↓reduceIte,Bp]) (aM ?_);try simp only[↓aA,aB,rE,↓reduceIte]
    refine jF C j (j - 1) 15 on2 i1 i2 rfl (by decide) (by decide) (by decide) ?_;simp only[↓aA,aB,rE,↓reduceIte,Bk,Bu,rA,p0,p12,w1,aH,C.ia i1,C.ia i2,on2.1.ld i1,on2.1.ld i2,on2.1.self i1,on2.1.self i2];clear on on2;intro Z on;refine aG ?_;simp only[↓aA,aB,rE,↓reduceIte,p12,fA (show j+1≤9223372036854775807 by omega)];exact⟨b - (j+1),by omega,_,j+1,by omega,by omega,rfl,⟨rfl,ag p0,ag p1,ag p2,ag p3,ag p9,ag p10,on⟩,ae,hf⟩
  clear on p0 p1 p2 p3 p9 p10;rintro o ⟨F,inr⟩ X ⟨rfl,q0,p0,p1,p2,p3,p9,p10,on⟩;simp only at q0 p0 p1 p2 p3 p9 p10;subst q0;try simp only[↓aA,aB,rE,↓reduceIte]
  refine aG ?_;simp only[↓aA,aB,rE,↓reduceIte,p10,show IntKind.i64.wrap (((5 - (s+1):Nat):Int)+1)=((5 - s:Nat):Int) by rw[wrap_i64 (by omega) (by omega)];omega];exact⟨s,by omega,i,d2,hai,hib,by omega,⟨rfl,ag p0,ag p1,ag p2,ag p3,ag p9,ae,on⟩,he⟩
 ·rintro o ⟨F,inr⟩ X ⟨⟨rfl,hf⟩ | ⟨rfl,p8⟩,on⟩
  ·rw[hf];try simp only[↓aA,aB,rE,↓reduceIte]
   refine cC ?_;refine ac ?_;refine aU ?_;simp only[↓aA,aB,rE,↓reduceIte];exact on
  ·simp only at p8;simp only[↓aA,aB,rE,↓reduceIte,p8];exact on
end Go.Ev.Gl
namespace Go.Ev.Gl
open Go.Sort
variable {fns:T cV}
theorem aE2(K:Nat){ops:List AO}{m n:Nat}{x v:cK}{A:bQ}{S:St}{Q:Out→bQ→St→Prop}(he:ops.drop K= [⟨none,.x (.st n x v),none,m⟩])(h3:((ops.take K).all fun o=> !Nat.testBit o.mask K)=true)(hm:((List.range K).all fun i=>Nat.testBit m i)=true)
  (h:mD (ops.take K) A.F S.h fun F'=>∃S1,aX (v.val F').cells (fun cs=>lI (x.val F') n cs ⟨S.h,S.nx+(K+1)⟩)=some (.undef,S1)∧Q .normal ⟨F',A.inr⟩ S1):lJ fns (.drw ops) A S Q:=by
 have hK:(ops.take K).length=K:=by
  have:=Dh List.length he;simp only[Cq,Am,Bo] at this;rw[Cc];omega
 exact qQ (by rw[←he,Ej]) hK h3 hm h
theorem sJ{n j:Nat}(h:2 ^ j≤n):bitsLen n=j+bitsLen (n / 2 ^ j):=by
 have key:∀t,bitsLen n≤t↔j+bitsLen (n / 2 ^ j)≤t:=fun t=>by
  rw[bitsLen_le_iff];by_cases ht:j≤t
  ·obtain⟨u,rfl⟩:∃u,t=j+u:=⟨t - j,by omega⟩;rw[show(j+bitsLen (n / 2 ^ j)≤j+u)↔bitsLen (n / 2 ^ j)≤u by omega,bitsLen_le_iff,Nat.div_lt_iff_lt_mul (Ft j),←Nat.pow_add,Nat.add_comm u j]
  ·constructor
   ·intro h1;have:=Dq (show 0<2 by omega) (show t≤j by omega);omega
   ·omega
 exact Nat.le_antisymm ((key _).2 (Ag _)) ((key _).1 (Ag _))
def len8:List Nat:=(List.range 256).map bitsLen
theorem len8_get{n:Nat}(h:n<256):len8[n]?.getD 0=bitsLen n:=by
 unfold len8;rw[Be,Fj h];rfl
theorem aHo{n:Nat}(h:n<256):IntKind.u8.wrap (n:Int)=(n:Int):=tX (by simp [IntKind.min,IntKind.signed]) (by simp [IntKind.max,IntKind.signed,IntKind.bits];omega)
theorem aKg{n:Nat}(h:n<256):bitsLen n≤8:=(bitsLen_le_iff n 8).2 h
set_option maxRecDepth 20000 in
theorem aCV{S:St}{n:Nat}(H:Has fns)(hn:n≤18446744073709551615):fR fns (.fn 99 [] []) [.int .u64 (n:Int)] S fun r S'=>r= .int .i64 (bitsLen n:Int)∧S'=S:=by
 refine cE H.f99 (by simp) ?_;refine ah ?_;refine cC ?_;refine ah ?_;refine aC (bD (Q:=fun o A' X=>o= .normal∧X=S∧∃m t:Nat,m<4294967296∧aD 0 A'.F= .int .u64 (m:Int)∧aD 2 A'.F= .int .i64 (t:Int)∧t≤32∧bitsLen n=t+bitsLen m) (aC (aG ?_)) ?_)
 ·simp only[↓aA,aB,rE,↓reduceIte,rA];by_cases h1:4294967296≤n
  ·have sh:eJ .shr (.p .int) (.int .u64 (n:Int)) (.int .u64 32)=some (.int .u64 ((n / 4294967296:Nat):Int)):=xQ (.p .int) .u64 (a:=n) (n:=32) (by decide);refine aR (by simp only[↓aA,aB,rE,↓reduceIte,Ad (show(4294967296:Int)≤(n:Int) by omega)]) (aC (aG ?_));simp only[↓aA,aB,rE,↓reduceIte,sh];refine aG ?_;simp only[↓aA,aB,rE,↓reduceIte];exact⟨n / 4294967296,32,by omega,rfl,rfl,by omega,sJ (j:=32) h1⟩
  ·refine aO (by simp only[↓aA,aB,rE,↓reduceIte,Aa (show ¬ (4294967296:Int)≤(n:Int) by omega)]) (aM ?_);exact⟨rfl,rfl,n,0,by omega,ae,ae,by omega,by omega⟩
 rintro o ⟨F,inr⟩ X ⟨rfl,rfl,m,t,hm,p0,p2,ht,hb⟩;simp only at p0 p2;try simp only[↓aA,aB,rE,↓reduceIte]
 refine aC (bD (Q:=fun o A' X'=>o= .normal∧X'=X∧∃m t:Nat,m<65536∧aD 0 A'.F= .int .u64 (m:Int)∧aD 2 A'.F= .int .i64 (t:Int)∧t≤48∧bitsLen n=t+bitsLen m) (aC (aG ?_)) ?_)
 ·simp only[↓aA,aB,rE,↓reduceIte,p0];by_cases h1:65536≤m
  ·have sh:eJ .shr (.p .int) (.int .u64 (m:Int)) (.int .u64 16)=some (.int .u64 ((m / 65536:Nat):Int)):=xQ (.p .int) .u64 (a:=m) (n:=16) (by decide);refine aR (by simp only[↓aA,aB,rE,↓reduceIte,Ad (show(65536:Int)≤(m:Int) by omega)]) (aC (aG ?_));simp only[↓aA,aB,rE,↓reduceIte,p0,sh];refine aG ?_;simp only[↓aA,aB,rE,↓reduceIte,p2,show IntKind.i64.wrap ((t:Int)+16)=((t+16:Nat):Int) from yP (b:=16) (by omega)];exact⟨m / 65536,t+16,by omega,rfl,rfl,by omega,by have e8:bitsLen m=16+bitsLen (m / 65536):=sJ (j:=16) h1;omega⟩
  ·refine aO (by simp only[↓aA,aB,rE,↓reduceIte,Aa (show ¬ (65536:Int)≤(m:Int) by omega)]) (aM ?_);exact⟨rfl,rfl,m,t,by omega,ag p0,ag p2,by omega,hb⟩
 clear p0 p2 hm ht hb m t;rintro o ⟨F,inr⟩ X ⟨rfl,rfl,m,t,hm,p0,p2,ht,hb⟩;simp only at p0 p2;try simp only[↓aA,aB,rE,↓reduceIte]
 refine aC (bD (Q:=fun o A' X'=>o= .normal∧X'=X∧∃m t:Nat,m<256∧aD 0 A'.F= .int .u64 (m:Int)∧aD 2 A'.F= .int .i64 (t:Int)∧t≤56∧bitsLen n=t+bitsLen m) (aC (aG ?_)) ?_)
 ·simp only[↓aA,aB,rE,↓reduceIte,p0];by_cases h1:256≤m
  ·have sh:eJ .shr (.p .int) (.int .u64 (m:Int)) (.int .u64 8)=some (.int .u64 ((m / 256:Nat):Int)):=xQ (.p .int) .u64 (a:=m) (n:=8) (by decide);refine aR (by simp only[↓aA,aB,rE,↓reduceIte,Ad (show(256:Int)≤(m:Int) by omega)]) (aC (aG ?_));simp only[↓aA,aB,rE,↓reduceIte,p0,sh];refine aG ?_;simp only[↓aA,aB,rE,↓reduceIte,p2,show IntKind.i64.wrap ((t:Int)+8)=((t+8:Nat):Int) from yP (b:=8) (by omega)];exact⟨m / 256,t+8,by omega,rfl,rfl,by omega,by have e8:bitsLen m=8+bitsLen (m / 256):=sJ (j:=8) h1;omega⟩
  ·refine aO (by simp only[↓aA,aB,rE,↓reduceIte,Aa (show ¬ (256:Int)≤(m:Int) by omega)]) (aM ?_);exact⟨rfl,rfl,m,t,by omega,ag p0,ag p2,by omega,hb⟩
 clear p0 p2 hm ht hb m t;rintro o ⟨F,inr⟩ X ⟨rfl,rfl,m,t,hm,p0,p2,ht,hb⟩;simp only at p0 p2;try simp only[↓aA,aB,rE,↓reduceIte]
 refine cC ?_;have ix:=aBp (s:=len8) (i:=m) (by simpa [len8] using hm);rw[len8_get hm] at ix;have ix':mM (.str [0,1,2,2,3,3,3,3,4,4,4,4,4,4,4,4,5,5,5,5,5,5,5,5,5,5,5,5,5,5,5,5,6,6,6,6,6,6,6,6,6,6,6,6,6,6,6,6,6,6,6,6,6,6,6,6,6,6,6,6,6,6,6,6,7,7,7,7,7,7,7,7,7,7,7,7,7,7,7,7,7,7,7,7,7,7,7,7,7,7,7,7,7,7,7,7,7,7,7,7,7,7,7,7,7,7,7,7,7,7,7,7,7,7,7,7,7,7,7,7,7,7,7,7,7,7,7,7,8,8,8,8,8,8,8,8,8,8,8,8,8,8,8,8,8,8,8,8,8,8,8,8,8,8,8,8,8,8,8,8,8,8,8,8,8,8,8,8,8,8,8,8,8,8,8,8,8,8,8,8,8,8,8,8,8,8,8,8,8,8,8,8,8,8,8,8,8,8,8,8,8,8,8,8,8,8,8,8,8,8,8,8,8,8,8,8,8,8,8,8,8,8,8,8,8,8,8,8,8,8,8,8,8,8,8,8,8,8,8,8,8,8,8,8,8,8,8,8,8,8,8,8,8,8,8,8]) m=some (.int .u8 (bitsLen m:Int)):=by
  rw[←ix];congr 2
 have b8:=aKg hm;simp only[↓aA,aB,rE,↓reduceIte,p0,p2,aHo hm,jX,gK,ix',wrap_i64 (n:=(bitsLen m:Int)) (by omega) (by omega),yP (a:=t) (b:=bitsLen m) (by omega)];refine aU ?_;simp only[↓aA,aB,rE,↓reduceIte];rw[hb]
theorem aGH{S:St}{n:Nat}(H:Has fns)(hn:n≤18446744073709551615):fR fns (.fn 80 [] []) [.int .u64 (n:Int)] S fun r S'=>r= .int .i64 (bitsLen n:Int)∧S'=S:=by
 refine cE H.f80 (by simp) ?_;refine ah ?_;refine cC ?_;refine ah ?_;refine aC (aO (ae) (aM ?_));try simp only[↓aA,aB,rE,↓reduceIte]
 refine cC ?_;refine ac ?_;refine aY ?_;refine ac ?_;refine aP (aCV H hn) ?_;rintro _ _ ⟨rfl,rfl⟩;try simp only[↓aA,aB,rE,↓reduceIte]
 refine aU ?_;simp only[↓aA,aB,rE,↓reduceIte]
theorem aIk{S:St}{n:Nat}(H:Has fns)(hn:n≤1000000000):fR fns (.fn 106 [] []) [.int .i64 (n:Int)] S fun r S'=>r= .int .u64 ((2 ^ bitsLen n:Nat):Int)∧S'=S:=by
 have hb:bitsLen n≤30:=(bitsLen_le_iff n 30).2 (by omega);have hp:2 ^ bitsLen n≤2 ^ 30:=Dq (by omega) hb;refine cE H.f106 (by simp) ?_;refine ah ?_;refine cC ?_;refine ah ?_;refine cC ?_;simp only[↓aA,aB,rE,↓reduceIte,wrap_u64 (n:=(n:Int)) (by omega) (by omega)];refine aY ?_;refine ac ?_;refine aP (aGH H (by omega)) ?_;rintro _ _ ⟨rfl,rfl⟩;have sh:eJ .shl (.p .int) (.int .u64 1) (.int .i64 (bitsLen n:Int))=some (.int .u64 ((2 ^ bitsLen n:Nat):Int)):=by
  have:=aEx (.p .int) .i64 (a:=1) (n:=bitsLen n) (by omega);rw[Fm,aAD,Nat.mod_eq_of_lt (Dn hp (by decide))] at this;exact this
 simp only[↓aA,aB,rE,↓reduceIte,sh];refine aU ?_;simp only[↓aA,aB,rE,↓reduceIte]
theorem aBr(e:oO){a b:Nat}(ha:a≤18446744073709551615)(hb:b≤18446744073709551615):∃c:Nat,c≤18446744073709551615∧eJ .xor e (.int .u64 (a:Int)) (.int .u64 (b:Int))=some (.int .u64 (c:Int)):=by
 refine⟨Nat.xor a b,?_,?_⟩
 ·have:a ^^^ b<2 ^ 64:=Nat.xor_lt_two_pow (by omega) (by omega);show a ^^^ b≤_;omega
 show cN .xor .u64 (Int.ofNat a) .u64 (Int.ofNat b)=_;unfold cN;rw[show dP .xor=false from rfl,aQ,eQ,aL];show bN (Nat.ble a 18446744073709551615) (bN (Nat.ble b 18446744073709551615) _ _) _=_;rw[Aj ha,Aj hb];rfl
theorem aHa(e:oO)(a:Nat){n:Nat}(hn:n≤64):∃c:Nat,c≤18446744073709551615∧eJ .shl e (.int .u64 (a:Int)) (.int .u64 (n:Int))=some (.int .u64 (c:Int)):=by
 refine⟨a * 2 ^ n % 2 ^ 64,by omega,?_⟩;rw[aEx e .u64 hn,aAD]
def aCK(r:Nat)(S:St):Prop:=r<S.nx∧∃x:Nat,x≤18446744073709551615∧S.h.get r=some (.cells [.int .u64 (x:Int)] false 0)
theorem aH9{S:St}{r:Nat}{x y:AV}{m:Nat}(h:S.h.get r=some (.cells [x] false 0)):lI (.ptr r 0) 1 [y] ⟨S.h,S.nx+m⟩=some (.undef,⟨S.h.set r (some (.cells [y] false 0)),S.nx+m⟩):=xW (S:=⟨S.h,S.nx+m⟩) (cs:=[x]) h (by simp)
theorem aHJ{S:St}{r:Nat}(H:Has fns)(h:aCK r S):fR fns (.fn 107 [] []) [.ptr r 0] S fun v S'=>(∃x:Nat,x≤18446744073709551615∧v= .int .u64 (x:Int))∧aCK r S'∧bJ r S S':=by
 refine cE H.f107 (by simp) ?_;refine ah ?_;refine cC ?_;simp only[↓aA,aB,rE,↓reduceIte,rA];have stepF:∀ (X:St),aCK r X→bJ r S X→∀m z:Nat,z≤18446744073709551615→aCK r ⟨X.h.set r (some (.cells [.int .u64 (z:Int)] false 0)),X.nx+m⟩∧bJ r S ⟨X.h.set r (some (.cells [.int .u64 (z:Int)] false 0)),X.nx+m⟩:=fun X h hs m z hz=>
  ⟨⟨Ah h.1 (Dd _ _),z,hz,by simp only;rw[T.get_set,if_pos rfl]⟩,(hs.put _).nx m⟩
 obtain⟨hlt,x,hx,hg⟩:=id h;have l0:dB (.ptr r 0) false 1 S.h=some (.int .u64 (x:Int)):=cS hg rfl;obtain⟨c1,b1,e1⟩:=aHa (.p .int) x (n:=13) (by omega);obtain⟨d1,f1,g1⟩:=aBr (.p .int) hx b1;refine aC (aE2 9 rfl (by decide) (by decide) ?_);simp only[↓aA,aB,rE,↓reduceIte,Bk,Bu,bE,bO,bF,l0,show eJ .shl (.p .int) (.int .u64 (x:Int)) (.int .u64 13)=some (.int .u64 (c1:Int)) from e1,g1,cQ];refine⟨_,aH9 hg,?_⟩;obtain⟨r1,s1⟩:=stepF S h (bJ.refl _ _) 10 d1 f1;revert r1 s1;generalize (⟨S.h.set r (some (.cells [.int .u64 (d1:Int)] false 0)),S.nx+10⟩:St)=X;intro r1 s1;obtain⟨hlt1,y,hy,hg1⟩:=id r1;have l1:dB (.ptr r 0) false 1 X.h=some (.int .u64 (y:Int)):=cS hg1 rfl;obtain⟨c2,b2,e2⟩:∃c:Nat,c≤18446744073709551615∧eJ .shr (.p .int) (.int .u64 (y:Int)) (.int .u64 7)=some (.int .u64 (c:Int)):=⟨y / 128,by omega,xQ (.p .int) .u64 (a:=y) (n:=7) (by decide)⟩;obtain⟨d2,f2,g2⟩:=aBr (.p .int) hy b2;try simp only[↓aA,aB,rE,↓reduceIte]
 refine aC (aE2 9 rfl (by decide) (by decide) ?_);simp only[↓aA,aB,rE,↓reduceIte,Bk,Bu,bE,bO,bF,l1,e2,g2,cQ];refine⟨_,aH9 hg1,?_⟩;obtain⟨r2,s2⟩:=stepF X r1 s1 10 d2 f2;revert r2 s2;generalize (⟨X.h.set r (some (.cells [.int .u64 (d2:Int)] false 0)),X.nx+10⟩:St)=Y;intro r2 s2;obtain⟨hlt2,w,hw,hg2⟩:=id r2;have l2:dB (.ptr r 0) false 1 Y.h=some (.int .u64 (w:Int)):=cS hg2 rfl;obtain⟨c3,b3,e3⟩:=aHa (.p .int) w (n:=17) (by omega);obtain⟨d3,f3,g3⟩:=aBr (.p .int) hw b3;try simp only[↓aA,aB,rE,↓reduceIte]
 refine aC (aE2 9 rfl (by decide) (by decide) ?_);simp only[↓aA,aB,rE,↓reduceIte,Bk,Bu,bE,bO,bF,l2,show eJ .shl (.p .int) (.int .u64 (w:Int)) (.int .u64 17)=some (.int .u64 (c3:Int)) from e3,g3,cQ];refine⟨_,aH9 hg2,?_⟩;obtain⟨r3,s3⟩:=stepF Y r2 s2 10 d3 f3;revert r3 s3;generalize (⟨Y.h.set r (some (.cells [.int .u64 (d3:Int)] false 0)),Y.nx+10⟩:St)=Z;intro r3 s3;obtain⟨hlt3,u,hu,hg3⟩:=id r3;have l3:dB (.ptr r 0) false 1 Z.h=some (.int .u64 (u:Int)):=cS hg3 rfl;try simp only[↓aA,aB,rE,↓reduceIte]
 refine cC ?_;simp only[↓aA,aB,rE,↓reduceIte,bE,bO,bF,l3];refine aU ?_;simp only[↓aA,aB,rE,↓reduceIte];exact⟨⟨u,hu,rfl⟩,r3,s3⟩
theorem Ctx.On.other{agg:Bool}{k:Nat}{C:Ctx fns agg k}{S X X':St}{d:Array AV}{r:Nat}(hI:C.I S)(h:C.On S X d)(hs:bJ r X X')(hr:S.nx≤r)(hb:0<C.n→C.b<S.nx):C.On S X' d:=by
 have h1:=h.2.2.1;have hbut:bJ C.b S X':=⟨Ap h1 hs.1,fun c hc hne=>(hs.2 c (by omega) (by omega)).trans (h.2.2.2 c hc hne)⟩;refine h.side hs.1 (fun hn=>?_) hbut (C.hI _ _ hI hbut);have:=hb hn;exact hs.2 _ (by omega) (by omega)
def aRq(C:Ctx fns false 1)(S:St)(d:Array AV)(a b r p s:Nat)(k:Nat)(A:bQ)(X:St):Prop:=A.inr=false∧aD 0 A.F=C.v∧aD 1 A.F= .int .i64 (a:Int)∧aD 8 A.F= .int .i64 ((b - a:Nat):Int)∧aD 9 A.F= .ptr r 0∧aD 10 A.F= .int .u64 (p:Int)∧aCK r X∧∃i e,s - 1≤i∧i+k=s+2∧aD 11 A.F= .int .i64 (i:Int)∧C.On S X e∧PermIn a b d e
theorem aHZ{C:Ctx fns false 1}{S S0:St}{d:Array AV}{a b:Nat}(H:Has fns)(on0:C.On S0 S d)(hab:a≤b)(hb:b≤C.n):fR fns (.fn 92 [] []) [C.v,.int .i64 (a:Int),.int .i64 (b:Int),C.f] S fun _ S'=>∃e,C.On S0 S' e∧PermIn a b d e:=by
 have hn:=C.hn;have on:=on0.start;refine aP (Q:=fun _ S'=>∃e,C.On S S' e∧PermIn a b d e) ?_ fun v S' h=>by
  obtain⟨e,h1,h2⟩:=h;exact⟨e,on0.trans h1,h2⟩
 refine cE H.f92 (by simp) ?_;refine ah ?_;refine cC ?_;simp only[↓aA,aB,rE,↓reduceIte,rA,mK (show a≤b by omega) (show b≤9223372036854775807 by omega)];refine bD (Q:=fun o A' X=>o= .normal∧∃e,C.On S X e∧PermIn a b d e) (aC (aG ?_)) fun o A' X h=>by
  obtain⟨rfl,h⟩:=h;exact⟨_,rfl,h⟩
 simp only[↓aA,aB,rE,↓reduceIte];by_cases h8:8≤b - a;rotate_left
 ·refine aO (by simp only[↓aA,aB,rE,↓reduceIte,Aa (show ¬ (8:Int)≤((b - a:Nat):Int) by omega)]) (aM ?_);exact⟨rfl,d,on,permIn_refl _ _ _⟩
 obtain⟨L,hL⟩:∃L,L=b - a:=⟨_,rfl⟩;rw[←hL] at h8 ⊢;refine aR (by simp only[↓aA,aB,rE,↓reduceIte,Ad (show(8:Int)≤(L:Int) by omega)]) ?_;refine cC ?_;simp only[↓aA,aB,rE,↓reduceIte,wrap_u64 (n:=(L:Int)) (by omega) (by omega)];refine cR ?_;intro S1 s1 n1 g1;try simp only[↓aA,aB,rE,↓reduceIte]
 have rs:∃S2,lI (.ptr S.nx 0) 1 [.int .u64 (L:Int)] S1=some (.undef,S2)∧Same S S2∧aCK S.nx S2:=by
  refine⟨_,xW (cs:=[.int .u64 0]) g1 (by simp),⟨by simp only;omega,fun c hc=>?_⟩,by show S.nx<S1.nx;omega,L,by omega,?_⟩
  ·simp only;rw[T.get_set,if_neg (by omega)];exact s1.2 c hc
  ·simp only;rw[T.get_set,if_pos rfl];rfl
 obtain⟨S2,e2,s2,rnd⟩:=rs;refine eR (v:=.undef) (S1:=S2) (fun call=>by rw[dD];simp only[↓aA,aB,rE,↓reduceIte,cQ];exact e2) ?_;try simp only[↓aA,aB,rE,↓reduceIte]
 have on2:=on.step s2;refine cC ?_;refine ac ?_;refine aY ?_;refine ac ?_;refine aP (aIk H (by omega)) ?_;rintro _ _ ⟨rfl,rfl⟩;obtain⟨p,hp⟩:∃p,p=2 ^ bitsLen L:=⟨_,rfl⟩;have hp2:p≤2 * L:=by rw[hp];exact two_pow_bitsLen_le (by omega)
 have hp0:0<p:=by rw[hp];exact Ft _
 rw[←hp];try simp only[↓aA,aB,rE,↓reduceIte]
 have hq:eJ .quo (.p .int) (.int .i64 (L:Int)) (.int .i64 4)=some (.int .i64 ((L / 4:Nat):Int)):=aNF (n:=4) (by omega) (by omega);have hm:IntKind.i64.wrap (((L / 4:Nat):Int) * 2)=((L / 4 * 2:Nat):Int):=aMc (b:=2) (by omega);have ha1:=yP (a:=a) (b:=L / 4 * 2) (by omega);refine cC ?_;simp only[↓aA,aB,rE,↓reduceIte,hq,hm,ha1,jU (a:=a+L / 4 * 2) (by omega) (by omega)];obtain⟨s,hs⟩:∃s,s=a+L / 4 * 2:=⟨_,rfl⟩;rw[←hs] at ha1 ⊢;refine aN (bT (aRq C S d a b S.nx p s) ?_ 3 _ _ ⟨rfl,ae,ae,ag hL,ae,ae,rnd,s - 1,d,by omega,by omega,ae,on2,permIn_refl _ _ _⟩);clear e2 g1 n1 s1 s2 on2 rnd;rintro k ⟨F,inr⟩ X ⟨q0,p0,p1,p8,p9,p10,rnd,i,e,hsi,hik,p11,onX,pm⟩;simp only at q0 p0 p1 p8 p9 p10 p11;rw[←hL] at p8;subst q0;refine iP ?_;simp only[↓aA,aB,rE,↓reduceIte,p1,p8,p11,hq,hm,ha1,fA (a:=s) (by omega),dle];by_cases hle:i≤s+1;rotate_left
 ·refine aO (by simp only[↓aA,aB,rE,↓reduceIte,Aa hle]) (bK ?_);exact⟨rfl,e,onX,pm⟩
 refine aR (by simp only[↓aA,aB,rE,↓reduceIte,Ad hle]) (aM ?_);try simp only[↓aA,aB,rE,↓reduceIte]
 refine aC (aN (aC (aG ?_)));simp only[↓aA,aB,rE,↓reduceIte,p9,p10];refine aY ?_;simp only[↓aA,aB,rE,↓reduceIte,p9];refine aP (aHJ H rnd) ?_;rintro _ Y ⟨⟨x,hx,rfl⟩,rnd2,hY⟩;have onY:=Ctx.On.other on.2.1 onX hY (Ag _) (fun hn=>(on.1.2.2 hn).1);have hand:eJ .and (.p .int) (.int .u64 (x:Int)) (.int .u64 ((p - 1:Nat):Int))=some (.int .u64 ((Nat.land x (p - 1):Nat):Int)):=aKs _ hx (by omega);have hlo:Nat.land x (p - 1)≤p - 1:=Nat.and_le_right;obtain⟨y,hy⟩:∃y,y=Nat.land x (p - 1):=⟨_,rfl⟩;rw[←hy] at hand hlo;simp only[↓aA,aB,rE,↓reduceIte,p10,show IntKind.u64.wrap ((p:Int) - 1)=((p - 1:Nat):Int) by rw[wrap_u64 (by omega) (by omega)];omega,hand,wrap_i64 (n:=(y:Int)) (by omega) (by omega)];refine aC (bD (Q:=fun o A' Z=>o= .normal∧Z=Y∧A'.inr=false∧∃z:Nat,z<L∧aD 12 A'.F= .int .i64 (z:Int)∧aD 0 A'.F=C.v∧aD 1 A'.F= .int .i64 (a:Int)∧aD 8 A'.F= .int .i64 (L:Int)∧aD 9 A'.F= .ptr S.nx 0∧aD 10 A'.F= .int .u64 (p:Int)∧aD 11 A'.F= .int .i64 (i:Int)) (aC (aG ?_)) ?_)
 ·simp only[↓aA,aB,rE,↓reduceIte,p8,dle];by_cases hge:L≤y
  ·refine aR (by simp only[↓aA,aB,rE,↓reduceIte,Ad hge]) (aG ?_);simp only[↓aA,aB,rE,↓reduceIte,p8,mK (a:=y) (b:=L) (by omega) (by omega)];exact⟨y - L,by omega,rfl,p0,p1,p9,p10,p11⟩
  ·refine aO (by simp only[↓aA,aB,rE,↓reduceIte,Aa hge]) (aM ?_);exact⟨rfl,rfl,rfl,y,by omega,by refine⟨?_,?_,?_,?_,?_,?_,?_⟩<;>simp only[↓aA,aB,rE,↓reduceIte,p0,p1,p8,p9,p10,p11]⟩
 clear p0 p1 p8 p9 p10 p11 onX hY;rintro o ⟨F,inr⟩ Z ⟨rfl,rfl,q0,z,hz,p12,p0,p1,p8,p9,p10,p11⟩;simp only at q0 p12 p0 p1 p8 p9 p10 p11;subst q0;try simp only[↓aA,aB,rE,↓reduceIte]
 have w1:=yP (a:=a) (b:=z) (by omega);have onT:=onY.start;refine jF C i (a+z) 17 onT (by omega) (by omega) rfl (by decide) (by decide) (by decide) ?_;simp only[↓aA,aB,rE,↓reduceIte,Bk,Bu,rA,p0,p1,p11,p12,w1,aH,C.ia (i:=i) (by omega),C.ia (i:=a+z) (by omega),onY.1.ld (i:=i) (by omega),onY.1.ld (i:=a+z) (by omega),onY.1.self (i:=i) (by omega),onY.1.self (i:=a+z) (by omega)];intro W hW;have rnd3:aCK S.nx W:=by
  obtain⟨h1,x',h2,h3⟩:=rnd2;refine⟨Ah h1 hW.2.2.1,x',h2,(hW.2.2.2 _ h1 ?_).trans h3⟩;have:=(on.1.2.2 (by omega)).1;omega
 refine aG ?_;simp only[↓aA,aB,rE,↓reduceIte,p11,fA (a:=i) (by omega)];refine⟨k - 1,by omega,rfl,ag p0,ag p1,by simp only[↓aA,aB,rE,↓reduceIte,p8,hL],ag p9,ag p10,rnd3,i+1,_,by omega,by omega,ae,onY.trans hW,permIn_trans _ _ _ _ _ pm (swp_permIn _ _ _ _ _ (by omega) (by omega) (by omega) (by omega) ?_)⟩;have:=onY.sz;omega
end Go.Ev.Gl
namespace Go.Ev.Gl
open Go.Sort
variable {fns:T cV}
def aJg(r:Nat)(S:St):Prop:=r<S.nx∧∃x:Int,S.h.get r=some (.cells [.int .i64 x] false 0)
theorem aJg.same{r:Nat}{S S':St}(h:aJg r S)(hs:Same S S'):aJg r S':=⟨Ah h.1 hs.1,h.2.imp fun _ hx=>(hs.2 _ h.1).trans hx⟩
structure Piv{agg:Bool}{k:Nat}(C:Ctx fns agg k)(S0 S:St)(d:Array AV)(r:Nat):Prop where
 on:C.On S0 S d
 hI:C.I S0
 hr:S0.nx≤r
 hb:0<C.n→C.b<S0.nx
 cnt:aJg r S
theorem vU{C:Ctx fns false 1}{S S0:St}{d:Array AV}{r a b:Nat}(H:Has fns)(h:Piv C S0 S d r)(ha:a<C.n)(hb:b<C.n):fR fns (.fn 116 [] []) [C.v,.int .i64 (a:Int),.int .i64 (b:Int),.ptr r 0,C.f] S fun v S'=>∃x y:Nat,v= .tup [.int .i64 (x:Int),.int .i64 (y:Int)]∧(x=a∧y=b∨x=b∧y=a)∧Piv C S0 S' d r:=by
 refine cE H.f116 (by simp) ?_;refine ah ?_;refine cC ?_;refine ah ?_;refine aC (bD (Q:=fun o A' X=>o= .normal∧aD 1 A'.F= .int .i64 (a:Int)∧aD 2 A'.F= .int .i64 (b:Int)∧Piv C S0 X d r∨o= .ret∧aD 10 A'.F= .int .i64 (b:Int)∧aD 11 A'.F= .int .i64 (a:Int)∧Piv C S0 X d r) (aC (dK (fun _=>False) ?_)) ?_)
 ·intro X1 x1;have on:=h.on;simp only[↓sU,sD,rE,↓reduceIte,rA,aH,C.ia ha,C.ia hb,on.1.ld ha,on.1.ld hb,on.1.self ha,on.1.self hb,Ctx.old on.1 ha,Ctx.old on.1 hb];refine cP rfl ?_;refine am ?_;refine aP ((on.step x1).cmp hb ha) ?_;rintro _ Y ⟨hY,z,rfl,hz⟩;refine⟨hY,?_⟩;simp only[↓sU,sD,rE,↓reduceIte,rA];have hSY:=x1.trans hY;have pv:Piv C S0 Y d r:=⟨on.step hSY,h.hI,h.hr,h.hb,h.cnt.same hSY⟩;by_cases hlt:z<0
  ·refine aR (by simp only[↓aA,aB,rE,↓reduceIte,Ad hlt]) ?_;obtain⟨c1,x,c2⟩:=pv.cnt;have l0:dB (.ptr r 0) false 1 Y.h=some (.int .i64 x):=cS c2 rfl;refine cC ?_;simp only[↓aA,aB,rE,↓reduceIte,bE,bO,bF,l0];refine eR (v:=.undef) (S1:=⟨Y.h.set r (some (.cells [.int .i64 (IntKind.i64.wrap (x+1))] false 0)),Y.nx⟩) (fun call=>by rw[dD];simp only[↓aA,aB,rE,↓reduceIte,cQ];exact xW (cs:=[.int .i64 x]) c2 (by simp)) ?_;try simp only[↓aA,aB,rE,↓reduceIte]
   refine cC ?_;try simp only[↓aA,aB,rE,↓reduceIte]
   refine aU ?_;refine .inr ⟨rfl,ae,ae,Ctx.On.other pv.hI pv.on ((bJ.refl r Y).put _) pv.hr pv.hb,pv.hI,pv.hr,pv.hb,c1,IntKind.i64.wrap (x+1),?_⟩;simp only;rw[T.get_set,if_pos rfl]
  ·refine aO (by simp only[↓aA,aB,rE,↓reduceIte,Aa hlt]) (aM ?_);exact .inl ⟨rfl,ae,ae,pv⟩
 ·rintro o ⟨F,inr⟩ X (⟨rfl,p1,p2,pv⟩ | ⟨rfl,p1,p2,pv⟩)
  ·simp only at p1 p2;try simp only[↓aA,aB,rE,↓reduceIte]
   refine cC ?_;simp only[↓aA,aB,rE,↓reduceIte,p1,p2];refine aU ?_;try simp only[↓aA,aB,rE,↓reduceIte]
   exact⟨a,b,rfl,.inl ⟨rfl,rfl⟩,pv⟩
  ·simp only at p1 p2;simp only[↓aA,aB,rE,↓reduceIte,p1,p2];exact⟨b,a,rfl,.inr ⟨rfl,rfl⟩,pv⟩
theorem qC(x y:AV):lO (.tup [x,y]) 0=some x:=rfl
theorem qT(x y:AV):lO (.tup [x,y]) 1=some y:=rfl
theorem aBW{C:Ctx fns false 1}{S S0:St}{d:Array AV}{r a b c:Nat}(H:Has fns)(h:Piv C S0 S d r)(ha:a<C.n)(hb:b<C.n)(hc:c<C.n):fR fns (.fn 109 [] []) [C.v,.int .i64 (a:Int),.int .i64 (b:Int),.int .i64 (c:Int),.ptr r 0,C.f] S fun v S'=>∃x:Nat,v= .int .i64 (x:Int)∧(x=a∨x=b∨x=c)∧Piv C S0 S' d r:=by
 refine cE H.f109 (by simp) ?_;refine ah ?_;refine cC ?_;refine ah ?_;refine cC ?_;try simp only[↓aA,aB,rE,↓reduceIte]
 refine aY ?_;try simp only[↓aA,aB,rE,↓reduceIte]
 refine aP (vU H h ha hb) ?_;rintro _ X ⟨a1,b1,rfl,h1,pX⟩;simp only[↓aA,aB,rE,↓reduceIte,qC,qT];refine cC ?_;try simp only[↓aA,aB,rE,↓reduceIte]
 refine aY ?_;try simp only[↓aA,aB,rE,↓reduceIte]
 refine aP (vU H pX (by omega) hc) ?_;rintro _ Y ⟨b2,c2,rfl,h2,pY⟩;simp only[↓aA,aB,rE,↓reduceIte,qC,qT];refine cC ?_;try simp only[↓aA,aB,rE,↓reduceIte]
 refine aY ?_;try simp only[↓aA,aB,rE,↓reduceIte]
 refine aP (vU H pY (a:=a1) (b:=b2) (by omega) (by omega)) ?_;rintro _ Z ⟨a3,b3,rfl,h3,pZ⟩;simp only[↓aA,aB,rE,↓reduceIte,qC,qT];refine cC ?_;try simp only[↓aA,aB,rE,↓reduceIte]
 refine aU ?_;try simp only[↓aA,aB,rE,↓reduceIte]
 exact⟨b3,rfl,by omega,pZ⟩
theorem qG{C:Ctx fns false 1}{S S0:St}{d:Array AV}{r a:Nat}(H:Has fns)(h:Piv C S0 S d r)(ha:1≤a)(hb:a+1<C.n):fR fns (.fn 108 [] []) [C.v,.int .i64 (a:Int),.ptr r 0,C.f] S fun v S'=>∃x:Nat,v= .int .i64 (x:Int)∧a≤x+1∧x≤a+1∧Piv C S0 S' d r:=by
 have hn:=C.hn;refine cE H.f108 (by simp) ?_;refine ah ?_;refine cC ?_;refine ah ?_;refine cC ?_;simp only[↓aA,aB,rE,↓reduceIte,fA (show a+1≤9223372036854775807 by omega),jU ha (show a≤9223372036854775807 by omega)];refine aY ?_;try simp only[↓aA,aB,rE,↓reduceIte]
 refine aP (aBW H h (a:=a - 1) (b:=a) (c:=a+1) (by omega) (by omega) hb) ?_;rintro _ X ⟨x,rfl,hx,pX⟩;try simp only[↓aA,aB,rE,↓reduceIte]
 refine aU ?_;try simp only[↓aA,aB,rE,↓reduceIte]
 exact⟨x,rfl,by omega,by omega,pX⟩
theorem aHM{C:Ctx fns false 1}{S S0:St}{d:Array AV}{a b:Nat}(H:Has fns)(on0:C.On S0 S d)(hab:12<b - a)(hb:b≤C.n):fR fns (.fn 93 [] []) [C.v,.int .i64 (a:Int),.int .i64 (b:Int),C.f] S fun v S'=>∃x:Nat,∃h:Int,v= .tup [.int .i64 (x:Int),.int .i64 h]∧a≤x∧x<b∧C.On S0 S' d:=by
 have hn:=C.hn;refine aP (Q:=fun v S'=>∃x:Nat,∃h:Int,v= .tup [.int .i64 (x:Int),.int .i64 h]∧a≤x∧x<b∧C.On S S' d) ?_ fun v S' h=>by
  obtain⟨x,h,h1,h2,h3,h4⟩:=h;exact⟨x,h,h1,h2,h3,on0.trans h4⟩
 refine cE H.f93 (by simp) ?_;refine ah ?_;refine cC ?_;refine ah ?_;refine cC ?_;simp only[↓aA,aB,rE,↓reduceIte,rA,mK (show a≤b by omega) (show b≤9223372036854775807 by omega)];refine aC (aG (cR ?_));intro S1 s1 n1 g1;have pv:Piv C S S1 d S.nx:=⟨on0.start.step s1,on0.2.1,Ag _,fun hn=>(on0.1.2.2 hn).1,by omega,0,g1⟩;obtain⟨q,hq⟩:∃q,q=(b - a) / 4:=⟨_,rfl⟩;have hd:eJ .quo (.p .int) (.int .i64 ((b - a:Nat):Int)) (.int .i64 4)=some (.int .i64 (q:Int)):=by
  rw[hq];exact aNF (n:=4) (by omega) (by omega)
 have m1:IntKind.i64.wrap ((q:Int) * 1)=(q:Int):=by rw[Int.mul_one,wrap_i64 (by omega) (by omega)]
 have m2:IntKind.i64.wrap ((q:Int) * 2)=((q * 2:Nat):Int):=aMc (b:=2) (by omega);have m3:IntKind.i64.wrap ((q:Int) * 3)=((q * 3:Nat):Int):=aMc (b:=3) (by omega);try simp only[↓aA,aB,rE,↓reduceIte]
 refine cC ?_;simp only[↓aA,aB,rE,↓reduceIte,hd,m1,yP (a:=a) (b:=q) (by omega)];refine cC ?_;simp only[↓aA,aB,rE,↓reduceIte,hd,m2,yP (a:=a) (b:=q * 2) (by omega)];refine cC ?_;simp only[↓aA,aB,rE,↓reduceIte,hd,m3,yP (a:=a) (b:=q * 3) (by omega)];refine aC (bD (Q:=fun o A' X=>o= .normal∧∃x:Nat,a≤x∧x<b∧aD 13 A'.F= .int .i64 (x:Int)∧aD 11 A'.F= .ptr S.nx 0∧Piv C S X d S.nx) (aC (aG ?_)) ?_)
 ·refine ac ?_;refine aR (by simp only[↓aA,aB,rE,↓reduceIte,Ad (show(8:Int)≤((b - a:Nat):Int) by omega)]) ?_;refine aC (bD (Q:=fun o A' X=>o= .normal∧(∃x y z:Nat,a≤x∧x<b∧a≤y∧y<b∧a≤z∧z<b∧aD 12 A'.F= .int .i64 (x:Int)∧aD 13 A'.F= .int .i64 (y:Int)∧aD 14 A'.F= .int .i64 (z:Int))∧aD 0 A'.F=C.v∧aD 3 A'.F=C.f∧aD 11 A'.F= .ptr S.nx 0∧Piv C S X d S.nx) (aC (aG ?_)) ?_)
  ·simp only[↓aA,aB,rE,↓reduceIte];by_cases h50:50≤b - a;rotate_left
   ·refine aO (by simp only[↓aA,aB,rE,↓reduceIte,Aa (show ¬ (50:Int)≤((b - a:Nat):Int) by omega)]) (aM ?_);exact⟨rfl,⟨a+q,a+q * 2,a+q * 3,by omega,by omega,by omega,by omega,by omega,by omega,by refine⟨?_,?_,?_⟩<;>simp only[↓aA,aB,rE,↓reduceIte]⟩,ae,ae,ae,pv⟩
   refine aR (by simp only[↓aA,aB,rE,↓reduceIte,Ad (show(50:Int)≤((b - a:Nat):Int) by omega)]) ?_;refine cC ?_;try simp only[↓aA,aB,rE,↓reduceIte]
   refine aY ?_;try simp only[↓aA,aB,rE,↓reduceIte]
   refine aP (qG H pv (a:=a+q) (by omega) (by omega)) ?_;rintro _ X ⟨x,rfl,hx1,hx2,pX⟩;try simp only[↓aA,aB,rE,↓reduceIte]
   refine cC ?_;try simp only[↓aA,aB,rE,↓reduceIte]
   refine aY ?_;try simp only[↓aA,aB,rE,↓reduceIte]
   refine aP (qG H pX (a:=a+q * 2) (by omega) (by omega)) ?_;rintro _ Y ⟨y,rfl,hy1,hy2,pY⟩;try simp only[↓aA,aB,rE,↓reduceIte]
   refine aG ?_;try simp only[↓aA,aB,rE,↓reduceIte]
   refine aY ?_;try simp only[↓aA,aB,rE,↓reduceIte]
   refine aP (qG H pY (a:=a+q * 3) (by omega) (by omega)) ?_;rintro _ Z ⟨z,rfl,hz1,hz2,pZ⟩;try simp only[↓aA,aB,rE,↓reduceIte]
   exact⟨⟨x,y,z,by omega,by omega,by omega,by omega,by omega,by omega,rfl,rfl,rfl⟩,pZ⟩
  rintro o ⟨F,inr⟩ X ⟨rfl,⟨x,y,z,hx,hx2,hy,hy2,hz,hz2,p12,p13,p14⟩,p0,p3,p11,pX⟩;simp only at p12 p13 p14 p0 p3 p11;try simp only[↓aA,aB,rE,↓reduceIte]
  refine aG ?_;simp only[↓aA,aB,rE,↓reduceIte,p0,p3,p11,p12,p13,p14];refine aY ?_;simp only[↓aA,aB,rE,↓reduceIte,p0,p3,p11,p12,p13,p14];refine aP (aBW H pX (a:=x) (b:=y) (c:=z) (by omega) (by omega) (by omega)) ?_;rintro _ Y ⟨w,rfl,hw,pY⟩;try simp only[↓aA,aB,rE,↓reduceIte]
  exact⟨w,by omega,by omega,rfl,pY⟩
 rintro o ⟨F,inr⟩ X ⟨rfl,x,hx,hx2,p13,p11,pX⟩;simp only at p13 p11;obtain⟨c1,w,c2⟩:=pX.cnt;have l0:dB (.ptr S.nx 0) false 1 X.h=some (.int .i64 w):=cS c2 rfl;try simp only[↓aA,aB,rE,↓reduceIte]
 refine cC ?_;simp only[↓aA,aB,rE,↓reduceIte,p11,l0];refine aN (aC (aG ?_));try simp only[↓aA,aB,rE,↓reduceIte]
 by_cases h0:w=0
 ·refine aR (by simp only[↓aA,aB,rE,↓reduceIte,Ad h0]) (aC (aG ?_));simp only[↓aA,aB,rE,↓reduceIte,p13];refine aU ?_;try simp only[↓aA,aB,rE,↓reduceIte]
  exact⟨x,1,rfl,hx,hx2,pX.on⟩
 refine aO (by simp only[↓aA,aB,rE,↓reduceIte,Aa h0]) (aC (aG ?_));try simp only[↓aA,aB,rE,↓reduceIte]
 by_cases h12:w=12
 ·refine aR (by simp only[↓aA,aB,rE,↓reduceIte,Ad h12]) (aC (aG ?_));simp only[↓aA,aB,rE,↓reduceIte,p13];refine aU ?_;try simp only[↓aA,aB,rE,↓reduceIte]
  exact⟨x,2,rfl,hx,hx2,pX.on⟩
 refine aO (by simp only[↓aA,aB,rE,↓reduceIte,Aa h12]) (aC (aG ?_));simp only[↓aA,aB,rE,↓reduceIte,p13];refine aU ?_;try simp only[↓aA,aB,rE,↓reduceIte]
 exact⟨x,0,rfl,hx,hx2,pX.on⟩
end Go.Ev.Gl
namespace Go.Ev.Gl
open Go.Sort
variable {fns:T cV}
structure PdI{agg:Bool}{k:Nat}(C:Ctx fns agg k)(S0:St)(a b:Nat)(d:Array AV)(a' b':Nat)(e:Array AV)(X:St):Prop where
 on:C.On S0 X e
 hB:Sort.Below C.lt a' b' e
 fin:∀R,PermIn a' b' e R→SortedIn C.lt a' b' R→PermIn a b d R∧SortedIn C.lt a b R
theorem PdI.perm{agg:Bool}{k:Nat}{C:Ctx fns agg k}{S0 X Y:St}{a b a' b':Nat}{d e e':Array AV}(h:PdI C S0 a b d a' b' e X)(hb:b'≤C.n)(on:C.On S0 Y e')(p:PermIn a' b' e e'):PdI C S0 a b d a' b' e' Y:=
 ⟨on,h.hB.perm (by rw[h.on.sz];exact hb) p,fun R h1 h2=>h.fin R (permIn_trans _ _ _ _ _ p h1) h2⟩
theorem PdI.step{agg:Bool}{k:Nat}{C:Ctx fns agg k}{S0 X Y:St}{a b a' b':Nat}{d e:Array AV}(h:PdI C S0 a b d a' b' e X)(hs:Same X Y):PdI C S0 a b d a' b' e Y:=⟨h.on.step hs,h.hB,h.fin⟩
def PdT{agg:Bool}{k:Nat}(C:Ctx fns agg k)(a b L:Nat)(wb wp:Bool)(A:bQ):Prop:=A.inr=false∧aD 0 A.F=C.v∧aD 1 A.F= .int .i64 (a:Int)∧aD 2 A.F= .int .i64 (b:Int)∧aD 3 A.F= .int .i64 (L:Int)∧aD 4 A.F=C.f∧aD 10 A.F= .bool wb∧aD 11 A.F= .bool wp
theorem aMz{C:Ctx fns false 1}(H:Has fns)(hS:SWO C.lt):∀ (N:Nat) {S S0:St} {d:Array AV} {a b L:Nat},b - a<N→C.On S0 S d→a≤b→b≤C.n→L≤1000000000→Sort.Below C.lt a b d→fR fns (.fn 79 [] []) [C.v,.int .i64 (a:Int),.int .i64 (b:Int),.int .i64 (L:Int),C.f] S fun _ S'=>∃e,C.On S0 S' e∧PermIn a b d e∧SortedIn C.lt a b e:=by
 intro N
 induction N with
 | zero=>
 intro S S0 d a b L hN;omega
 | succ N ih=>
 intro S S0 d a b L hN on hab hb hL hB;have hn:=C.hn;refine cE H.f79 (by simp) ?_;refine ah ?_;refine cC ?_;refine ah ?_;refine cC ?_;refine ah ?_;refine bD (Q:=fun o A' X=>o= .ret∧∃e,C.On S0 X e∧PermIn a b d e∧SortedIn C.lt a b e) (aN (bT (fun k A' X=>∃a' b' L' wb wp e,k=b' - a'∧a'≤b'∧b'≤C.n∧b' - a'≤b - a∧L'≤1000000000∧PdT C a' b' L' wb wp A'∧PdI C S0 a b d a' b' e X) ?_ _ _ _ ⟨a,b,L,true,true,d,rfl,hab,hb,Ag _,hL,⟨rfl,by refine⟨?_,?_,?_,?_,?_,?_,?_⟩<;>simp only[↓aA,aB,rE,↓reduceIte]⟩,on,hB,fun R h1 h2=>⟨h1,h2⟩⟩)) ?_;rotate_left
 ·rintro o A X ⟨rfl,h⟩;exact⟨_,rfl,h⟩
 clear on hB;rintro k ⟨F,inr⟩ X ⟨a',b',L',wb,wp,e,hk,hab',hb',hle,hL',⟨q0,p0,p1,p2,p3,p4,p10,p11⟩,inv⟩;simp only at q0 p0 p1 p2 p3 p4 p10 p11;subst q0;refine aN (aC (aG ?_));simp only[↓aA,aB,rE,↓reduceIte,p1,p2,mK hab' (show b'≤9223372036854775807 by omega)];refine iP ?_;simp only[↓aA,aB,rE,↓reduceIte];by_cases h12:b' - a'≤12
 ·refine aR (by simp only[↓aA,aB,rE,↓reduceIte,Ad (show((b' - a':Nat):Int)≤12 by omega)]) (aC (aG ?_));simp only[↓aA,aB,rE,↓reduceIte,p0,p1,p2,p4];refine aY ?_;simp only[↓aA,aB,rE,↓reduceIte,p0,p1,p2,p4];refine aP (aCs H inv.on hab' hb') ?_;intro r Z onZ;try simp only[↓aA,aB,rE,↓reduceIte]
  refine aU ?_;try simp only[↓aA,aB,rE,↓reduceIte]
  obtain⟨h1,h2⟩:=insertionSort_holds hS e a' b' hab' (by rw[inv.on.sz];exact hb');exact⟨_,onZ,inv.fin _ h1 h2⟩
 refine aO (by simp only[↓aA,aB,rE,↓reduceIte,Aa (show ¬ ((b' - a':Nat):Int)≤12 by omega)]) (aM ?_);try simp only[↓aA,aB,rE,↓reduceIte]
 refine iP ?_;simp only[↓aA,aB,rE,↓reduceIte,p3];by_cases h0:L'=0
 ·subst h0;refine aR (by simp only[↓aA,aB,rE,↓reduceIte];rfl) (aC (aG ?_));simp only[↓aA,aB,rE,↓reduceIte,p0,p1,p2,p4];refine aY ?_;simp only[↓aA,aB,rE,↓reduceIte,p0,p1,p2,p4];refine aP (aKX H inv.on (by omega) hb') ?_;intro r Z onZ;try simp only[↓aA,aB,rE,↓reduceIte]
  refine aU ?_;try simp only[↓aA,aB,rE,↓reduceIte]
  obtain⟨h1,h2⟩:=heapSort_holds hS e a' b' hab' (by rw[inv.on.sz];exact hb');exact⟨_,onZ,inv.fin _ h1 h2⟩
 refine aO (by simp only[↓aA,aB,rE,↓reduceIte,Aa (show ¬ (L':Int)=0 by omega)]) (aM ?_);try simp only[↓aA,aB,rE,↓reduceIte]
 refine aC (bD (Q:=fun o A' X=>o= .normal∧∃L' e,L'≤1000000000∧PdT C a' b' L' wb wp A'∧aD 12 A'.F= .int .i64 ((b' - a':Nat):Int)∧PdI C S0 a b d a' b' e X) (aC (aG ?_)) ?_)
 ·simp only[↓aA,aB,rE,↓reduceIte,p10,fQ];cases wb with
  | true=>
   refine aO (by simp only[↓aA,aB,rE,↓reduceIte,Bp]) (aM ?_);exact⟨rfl,L',e,hL',⟨rfl,by refine⟨?_,?_,?_,?_,?_,?_,?_⟩<;>simp only[↓aA,aB,rE,↓reduceIte,p0,p1,p2,p3,p4,p10,p11]⟩,ae,inv⟩
  | false=>
   refine aR (by simp only[↓aA,aB,rE,↓reduceIte,Bx]) (aC (aG ?_));simp only[↓aA,aB,rE,↓reduceIte,p0,p1,p2,p4];refine aY ?_;simp only[↓aA,aB,rE,↓reduceIte,p0,p1,p2,p4];refine aP (aHZ H inv.on hab' hb') ?_;rintro r Z ⟨e1,onZ,pm⟩;try simp only[↓aA,aB,rE,↓reduceIte]
   refine aG ?_;simp only[↓aA,aB,rE,↓reduceIte,p3,jU (show 1≤L' by omega) (show L'≤9223372036854775807 by omega)];exact⟨L' - 1,e1,by omega,⟨rfl,by refine⟨?_,?_,?_,?_,?_,?_,?_⟩<;>simp only[↓aA,aB,rE,↓reduceIte,p0,p1,p2,p4,p10,p11]⟩,inv.perm hb' onZ pm⟩
 clear p0 p1 p2 p3 p4 p10 p11 inv hL' h0 L' e;rintro o ⟨F,inr⟩ X ⟨rfl,L',e,hL',⟨q0,p0,p1,p2,p3,p4,p10,p11⟩,p12,inv⟩;simp only at q0 p0 p1 p2 p3 p4 p10 p11 p12;subst q0;try simp only[↓aA,aB,rE,↓reduceIte]
 refine cC ?_;simp only[↓aA,aB,rE,↓reduceIte,p0,p1,p2,p4];refine aY ?_;simp only[↓aA,aB,rE,↓reduceIte,p0,p1,p2,p4];refine aP (aHM H inv.on (by omega) hb') ?_;rintro _ Y ⟨pv,hint,rfl,hpv1,hpv2,onY⟩
 replace inv:=inv.perm hb' onY (permIn_refl _ _ _)
 simp only[↓aA,aB,rE,↓reduceIte,qC,qT];refine aC (bD (Q:=fun o A' X=>o= .normal∧∃pv hint e,a'≤pv∧pv<b'∧PdT C a' b' L' wb wp A'∧aD 12 A'.F= .int .i64 ((b' - a':Nat):Int)∧aD 13 A'.F= .int .i64 (pv:Nat)∧aD 14 A'.F= .int .i64 hint∧PdI C S0 a b d a' b' e X) (aC (aG ?_)) ?_)
 ·simp only[↓aA,aB,rE,↓reduceIte];by_cases h2:hint=2;rotate_left
  ·refine aO (by simp only[↓aA,aB,rE,↓reduceIte,Aa h2]) (aM ?_);exact⟨rfl,pv,hint,e,hpv1,hpv2,⟨rfl,by refine⟨?_,?_,?_,?_,?_,?_,?_⟩<;>simp only[↓aA,aB,rE,↓reduceIte,p0,p1,p2,p3,p4,p10,p11]⟩,ag p12,ae,ae,inv⟩
  refine aR (by simp only[↓aA,aB,rE,↓reduceIte,Ad h2]) (aC (aG ?_));simp only[↓aA,aB,rE,↓reduceIte,p0,p1,p2,p4];refine aY ?_;simp only[↓aA,aB,rE,↓reduceIte,p0,p1,p2,p4];refine aP (aFx H inv.on (by omega) hb') ?_;intro r Z onZ;have pm:=reverseRange_holds e a' b' hab' (by rw[inv.on.sz];exact hb');try simp only[↓aA,aB,rE,↓reduceIte]
  refine cC ?_;simp only[↓aA,aB,rE,↓reduceIte,p1,p2,jU (show 1≤b' by omega) (show b'≤9223372036854775807 by omega),mK hpv1 (show pv≤9223372036854775807 by omega),mK (a:=b' - 1) (b:=pv - a') (by omega) (by omega)];refine aG ?_;simp only[↓aA,aB,rE,↓reduceIte];exact⟨b' - 1 - (pv - a'),1,_,by omega,by omega,⟨rfl,by refine⟨?_,?_,?_,?_,?_,?_,?_⟩<;>simp only[↓aA,aB,rE,↓reduceIte,p0,p1,p2,p3,p4,p10,p11]⟩,p12,rfl,rfl,inv.perm hb' onZ pm⟩
 clear p0 p1 p2 p3 p4 p10 p11 p12 inv onY hpv1 hpv2 pv hint e;rintro o ⟨F,inr⟩ X ⟨rfl,pv,hint,e,hpv1,hpv2,⟨q0,p0,p1,p2,p3,p4,p10,p11⟩,p12,p13,p14,inv⟩;simp only at q0 p0 p1 p2 p3 p4 p10 p11 p12 p13 p14;subst q0;try simp only[↓aA,aB,rE,↓reduceIte]
 refine aC (bD (Q:=fun o A' X=>o= .ret∧(∃e,C.On S0 X e∧PermIn a b d e∧SortedIn C.lt a b e)∨o= .normal∧∃e,PdT C a' b' L' wb wp A'∧aD 12 A'.F= .int .i64 ((b' - a':Nat):Int)∧aD 13 A'.F= .int .i64 (pv:Nat)∧PdI C S0 a b d a' b' e X) (aC (aG ?_)) ?_)
 ·by_cases hc:wb=true∧wp=true∧hint=1
  ·obtain⟨rfl,rfl,rfl⟩:=hc;simp only[↓aA,aB,rE,↓reduceIte,p10,p11,p14];refine aR (by simp only[↓aA,aB,rE,↓reduceIte];rfl) (aC (aG ?_));simp only[↓aA,aB,rE,↓reduceIte,p0,p1,p2,p4];refine aY ?_;simp only[↓aA,aB,rE,↓reduceIte,p0,p1,p2,p4];refine aP (aFq H inv.on (by omega) hb') ?_;rintro _ Z ⟨rfl,onZ⟩;obtain⟨h1,h2⟩:=partialInsertionSort_holds hS e a' b' (by omega) (by rw[inv.on.sz];exact hb') inv.hB;try simp only[↓aA,aB,rE,↓reduceIte]
   cases hr:(partialInsertionSort C.lt e a' b').2 with
   | true=>
    refine aR (ae) (aU ?_);exact .inl ⟨rfl,_,onZ,inv.fin _ h1 (h2 hr)⟩
   | false=>
    refine aO (ae) (aM ?_);exact .inr ⟨rfl,_,⟨rfl,by refine⟨?_,?_,?_,?_,?_,?_,?_⟩<;>simp only[↓aA,aB,rE,↓reduceIte,p0,p1,p2,p3,p4,p10,p11]⟩,ag p12,ag p13,inv.perm hb' onZ h1⟩
  ·cases wb with
   | false=>
    simp only[↓aA,aB,rE,↓reduceIte,p10,p11,p14];refine aO (ae) (aM ?_);exact .inr ⟨rfl,e,⟨rfl,by refine⟨?_,?_,?_,?_,?_,?_,?_⟩<;>simp only[↓aA,aB,rE,↓reduceIte,p0,p1,p2,p3,p4,p10,p11]⟩,ag p12,ag p13,inv⟩
   | true=>
   cases wp with
   | false=>
    simp only[↓aA,aB,rE,↓reduceIte,p10,p11,p14];refine aO (ae) (aM ?_);exact .inr ⟨rfl,e,⟨rfl,by refine⟨?_,?_,?_,?_,?_,?_,?_⟩<;>simp only[↓aA,aB,rE,↓reduceIte,p0,p1,p2,p3,p4,p10,p11]⟩,ag p12,ag p13,inv⟩
   | true=>
    have hh:¬hint=1:=fun h=>hc ⟨rfl,rfl,h⟩;simp only[↓aA,aB,rE,↓reduceIte,p10,p11,p14,Aa hh];refine aO (ae) (aM ?_);exact .inr ⟨rfl,e,⟨rfl,by refine⟨?_,?_,?_,?_,?_,?_,?_⟩<;>simp only[↓aA,aB,rE,↓reduceIte,p0,p1,p2,p3,p4,p10,p11]⟩,ag p12,ag p13,inv⟩
 clear p0 p1 p2 p3 p4 p10 p11 p12 p13 p14 inv hint e;rintro o ⟨F,inr⟩ X (⟨rfl,h⟩ | ⟨rfl,e,⟨q0,p0,p1,p2,p3,p4,p10,p11⟩,p12,p13,inv⟩)
 ·try simp only[↓aA,aB,rE,↓reduceIte]
  exact h
 simp only at q0 p0 p1 p2 p3 p4 p10 p11 p12 p13;subst q0;try simp only[↓aA,aB,rE,↓reduceIte]
 have ip:pv<C.n:=by omega
 refine aC (bD (Q:=fun o A' X=>o= .normal∧PdT C a' b' L' wb wp A'∧aD 12 A'.F= .int .i64 ((b' - a':Nat):Int)∧aD 13 A'.F= .int .i64 (pv:Nat)∧PdI C S0 a b d a' b' e X∨o= .exit 1∧∃a2 e,a'<a2∧a2≤b'∧PdT C a2 b' L' wb wp A'∧PdI C S0 a b d a2 b' e X) (aC (dK (fun _=>False) ?_)) ?_)
 ·intro X1 x1;by_cases ha0:0<a';rotate_left
  ·simp only[↓sU,sD,rE,↓reduceIte,rA,p1,Aa (show ¬ (0:Int)<(a':Int) by omega)];refine aO (ae) (aM ?_);exact .inl ⟨rfl,⟨rfl,by refine⟨?_,?_,?_,?_,?_,?_,?_⟩<;>simp only[↓aA,aB,rE,↓reduceIte,p0,p1,p2,p3,p4,p10,p11]⟩,ag p12,ag p13,inv.step x1⟩
  have on:=inv.on;have i1:a' - 1<C.n:=by omega
  simp only[↓sU,sD,rE,↓reduceIte,rA,p0,p1,p4,p13,Ad (show(0:Int)<(a':Int) by omega),jU (show 1≤a' by omega) (show a'≤9223372036854775807 by omega),aH,C.ia i1,C.ia ip,on.1.ld i1,on.1.ld ip,on.1.self i1,on.1.self ip,Ctx.old on.1 i1,Ctx.old on.1 ip];refine cP rfl ?_;simp only[↓sU,sD,rE,↓reduceIte,rA,p4];refine aP ((on.step x1).cmp i1 ip) ?_;rintro _ Y ⟨hY,z,rfl,hz⟩;refine⟨hY,?_⟩;simp only[↓sU,sD,rE,↓reduceIte,rA,hz,fQ];have invY:=inv.step (x1.trans hY);cases hl:C.lt e[a' - 1]! e[pv]! with
  | true=>
   refine aO (by simp only[↓aA,aB,rE,↓reduceIte,Bp]) (aM ?_);exact .inl ⟨rfl,⟨rfl,by refine⟨?_,?_,?_,?_,?_,?_,?_⟩<;>simp only[↓aA,aB,rE,↓reduceIte,p0,p1,p2,p3,p4,p10,p11]⟩,ag p12,ag p13,invY⟩
  | false=>
   obtain⟨r1,r2,r3,r4,r5⟩:=round_eq hS (partitionEqual_holds C.lt) (d3:=e) (d4:=(partitionEqual C.lt e a' b' pv).2) (mid:=(partitionEqual C.lt e a' b' pv).1) ha0 hpv1 hpv2 (by rw[on.sz];exact hb') inv.hB hl rfl;refine aR (by simp only[↓aA,aB,rE,↓reduceIte,Bx]) (aC (aG ?_));simp only[↓aA,aB,rE,↓reduceIte,p0,p1,p2,p4,p13];refine aY ?_;simp only[↓aA,aB,rE,↓reduceIte,p0,p1,p2,p4,p13];refine aP (aGl H invY.on hpv1 hpv2 hb') ?_;rintro _ Z ⟨rfl,onZ⟩;try simp only[↓aA,aB,rE,↓reduceIte]
   refine cC ?_;refine ac ?_;refine bK ?_;refine .inr ⟨rfl,_,_,r1,r2,⟨rfl,by refine⟨?_,?_,?_,?_,?_,?_,?_⟩<;>simp only[↓aA,aB,rE,↓reduceIte,p0,p2,p3,p4,p10,p11]⟩,onZ,r4,fun R h1 h2=>?_⟩;obtain⟨h3,h4⟩:=r5 R h1 h2;exact inv.fin R h3 h4
 clear p0 p1 p2 p3 p4 p10 p11 p12 p13 inv;rintro o ⟨F,inr⟩ X (⟨rfl,⟨q0,p0,p1,p2,p3,p4,p10,p11⟩,p12,p13,inv⟩ | ⟨rfl,a2,e2,hl1,hl2,pt,inv⟩);rotate_left
 ·simp only[↓aA,aB,rE,↓reduceIte];exact⟨b' - a2,by omega,a2,b',L',wb,wp,e2,rfl,by omega,hb',by omega,hL',pt,inv⟩
 simp only at q0 p0 p1 p2 p3 p4 p10 p11 p12 p13;subst q0;try simp only[↓aA,aB,rE,↓reduceIte]
 obtain⟨mid,hmid⟩:∃mid,mid=(Sort.partition C.lt e a' b' pv).1:=⟨_,rfl⟩;obtain⟨ap,hap⟩:∃ap,ap=(Sort.partition C.lt e a' b' pv).2.1:=⟨_,rfl⟩;obtain⟨d4,hd4⟩:∃d4,d4=(Sort.partition C.lt e a' b' pv).2.2:=⟨_,rfl⟩;obtain⟨r1,r2,r3,r4,r5,r6,r7⟩:=round_part hS (partition_holds C.lt) (d3:=e) (d4:=d4) (mid:=mid) (ap:=ap) hpv1 hpv2 (by rw[inv.on.sz];exact hb') inv.hB (by rw[hmid,hap,hd4]);refine cC ?_;simp only[↓aA,aB,rE,↓reduceIte,p0,p1,p2,p4,p13];refine aY ?_;simp only[↓aA,aB,rE,↓reduceIte,p0,p1,p2,p4,p13];refine aP (aJ4 H inv.on hpv1 hpv2 hb') ?_;rintro _ Z ⟨rfl,onZ⟩;rw[←hmid,←hap];rw[←hd4] at onZ;simp only[↓aA,aB,rE,↓reduceIte,qC,qT];refine cC ?_;refine ac ?_;refine cC ?_;simp only[↓aA,aB,rE,↓reduceIte,p1,p2,mK r1 (show mid≤9223372036854775807 by omega),mK (a:=b') (b:=mid) (by omega) (by omega)];have hq:eJ .quo (.p .int) (.int .i64 ((b' - a':Nat):Int)) (.int .i64 8)=some (.int .i64 (((b' - a') / 8:Nat):Int)):=aNF (n:=8) (by omega) (by omega);refine cC ?_;simp only[↓aA,aB,rE,↓reduceIte,p12,hq];refine cC ?_;simp only[↓aA,aB,rE,↓reduceIte,zV];by_cases hlt:mid - a'<b' - mid
 ·refine aR (by simp only[↓aA,aB,rE,↓reduceIte,Ad hlt]) (aC (aG ?_));simp only[↓aA,aB,rE,↓reduceIte,dle];refine cC ?_;simp only[↓aA,aB,rE,↓reduceIte,p0,p1,p3,p4];refine aY ?_;simp only[↓aA,aB,rE,↓reduceIte,p0,p1,p3,p4];refine aP (ih (by omega) onZ r1 (by omega) hL' r4) ?_;rintro _ W ⟨e5,onW,pm,so⟩;obtain⟨hB5,hfin⟩:=r6 e5 pm so;try simp only[↓aA,aB,rE,↓reduceIte]
  refine aG ?_;simp only[↓aA,aB,rE,↓reduceIte,fA (show mid+1≤9223372036854775807 by omega)];refine⟨b' - (mid+1),by omega,mid+1,b',L',decide ((b' - a') / 8≤mid - a'),ap,e5,rfl,by omega,hb',by omega,hL',⟨rfl,by refine⟨?_,?_,?_,?_,?_,?_,?_⟩<;>simp only[↓aA,aB,rE,↓reduceIte,p0,p2,p3,p4]⟩,onW,hB5,fun R h1 h2=>?_⟩;obtain⟨h3,h4⟩:=hfin R h1 h2;exact inv.fin R h3 h4
 ·refine aO (by simp only[↓aA,aB,rE,↓reduceIte,Aa hlt]) (aC (aG ?_));simp only[↓aA,aB,rE,↓reduceIte,dle];refine cC ?_;simp only[↓aA,aB,rE,↓reduceIte,p0,p2,p3,p4,fA (show mid+1≤9223372036854775807 by omega)];refine aY ?_;simp only[↓aA,aB,rE,↓reduceIte,p0,p2,p3,p4];refine aP (ih (a:=mid+1) (b:=b') (by omega) onZ (by omega) hb' hL' r5) ?_;rintro _ W ⟨e5,onW,pm,so⟩;obtain⟨hB5,hfin⟩:=r7 e5 pm so;try simp only[↓aA,aB,rE,↓reduceIte]
  refine aG ?_;refine ac ?_;refine⟨mid - a',by omega,a',mid,L',decide ((b' - a') / 8≤b' - mid),ap,e5,rfl,by omega,by omega,by omega,hL',⟨rfl,by refine⟨?_,?_,?_,?_,?_,?_,?_⟩<;>simp only[↓aA,aB,rE,↓reduceIte,p0,p1,p3,p4]⟩,onW,hB5,fun R h1 h2=>?_⟩;obtain⟨h3,h4⟩:=hfin R h1 h2;exact inv.fin R h3 h4
theorem aD2{C:Ctx fns false 1}{S:St}{d:Array AV}(H:Has fns)(hS:SWO C.lt)(h:C.At S d)(hI:C.I S)(hl:lH C.v=some (.int .i64 (C.n:Int))):fR fns (.fn 59 [] []) [C.v,C.f] S fun _ S'=>∃e,C.On S S' e∧PermIn 0 C.n d e∧SortedIn C.lt 0 C.n e:=by
 have hn:=C.hn;have hb:bitsLen C.n≤30:=(bitsLen_le_iff C.n 30).2 (by omega);refine cE H.f59 (by simp) ?_;refine ah ?_;refine cC ?_;simp only[↓aA,aB,rE,↓reduceIte,hl];refine aG ?_;simp only[↓aA,aB,rE,↓reduceIte,wrap_u64 (n:=(C.n:Int)) (by omega) (by omega)];refine aY ?_;refine ac ?_;refine aP (aGH H (by omega)) ?_;rintro _ _ ⟨rfl,rfl⟩;try simp only[↓aA,aB,rE,↓reduceIte]
 refine aY ?_;refine ac ?_;refine aP (aMz (a:=0) (b:=C.n) (L:=bitsLen C.n) H hS (C.n - 0+1) (by omega) (Ctx.On.refl h hI) (by omega) (by omega) (by omega) (.inl rfl)) ?_;intro r Z hZ;try simp only[↓aA,aB,rE,↓reduceIte]
 exact⟨_,rfl,hZ⟩
end Go.Ev.Gl
