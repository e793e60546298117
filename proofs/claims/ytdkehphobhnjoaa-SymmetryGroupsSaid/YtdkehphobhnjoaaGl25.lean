import Derived.Test.YtdkehphobhnjoaaGl24
open Nat renaming reduceEqDiff → rE, reduceAdd → rA
set_option maxHeartbeats 16000000
set_option linter.unusedSimpArgs false
set_option linter.unusedVariables false
namespace Go.Ev.Gl
open Go.Sort
variable {fns:T dE}
def aGj(C:Ctx fns false 1)(S0:St)(e:Array AV)(a b i s:Nat)(A:bH)(X:St):Prop:=A.inr=false∧aD 0 A.F=C.v∧aD 1 A.F= .int .i64 (a:Int)∧aD 2 A.F= .int .i64 (b:Int)∧aD 3 A.F=C.f∧aD 9 A.F= .int .i64 (i:Int)∧aD 10 A.F= .int .i64 (s:Int)∧C.On S0 X e
theorem aDV{C:Ctx fns false 1}{S S0:St}{d:Array AV}{a b:Nat}(H:Has fns)(on:C.On S0 S d)(hab:a<b)(hb:b≤C.n):fA fns (.fn 71 [] []) [C.v,.int .i64 (a:Int),.int .i64 (b:Int),C.f] S fun r S'=>r= .bool (partialInsertionSort C.lt d a b).2∧C.On S0 S' (partialInsertionSort C.lt d a b).1:=by
 have hn:=C.hn;refine bP H.f71 (by simp) ?_;simp only[↓aC,aB,rE,↓reduceIte,rA];refine bE ?_;simp only[↓aC,aB,rE,↓reduceIte,rA];refine bE ?_;simp only[↓aC,aB,rE,↓reduceIte,rA,iP (show a+1≤9223372036854775807 by omega)];obtain⟨R,hR⟩:∃R,R=partialInsertionSort C.lt d a b:=⟨_,rfl⟩;rw[←hR];refine aA (aS (Q:=fun o A' X=>((o= .normal∧R.2=false)∨(o= .ret∧aD 8 A'.F= .bool R.2))∧C.On S0 X R.1) (aA (aF ?_)) ?_)
 ·simp only[↓aC,aB,rE,↓reduceIte,rA];refine aJ (bB (fun k A' X=>∃i e,a<i∧i≤b∧k≤5∧aGj C S0 e a b i (5 - k) A' X∧partialIns C.lt a b k i e=R) ?_ 5 _ _ ⟨a+1,d,by omega,by omega,by omega,⟨rfl,by simp only[↓aC,aB,rE,↓reduceIte],by simp only[↓aC,aB,rE,↓reduceIte],by simp only[↓aC,aB,rE,↓reduceIte],by simp only[↓aC,aB,rE,↓reduceIte],by simp only[↓aC,aB,rE,↓reduceIte],by simp only[↓aC,aB,rE,↓reduceIte,Dr],on⟩,hR.symm⟩);clear on;rintro k ⟨F,inr⟩ X ⟨i0,e,hai,hib,hk,⟨q0,p0,p1,p2,p3,p9,p10,on⟩,he⟩;simp only at q0 p0 p1 p2 p3 p9 p10;subst q0;refine eG ?_;simp only[↓aC,aB,rE,↓reduceIte,rA,p10];cases k with
  | zero=>
   refine aK (by simp only[↓aC,aB,rE,↓reduceIte];rfl) (aU ?_);have he:(e,false)=R:=he;rw[←he];exact⟨.inl ⟨rfl,rfl⟩,on⟩
  | succ s=>
  refine aM (by simp only[↓aC,aB,rE,↓reduceIte,Ab (show((5 - (s+1):Nat):Int)<5 by omega)]) (aI ?_);try simp only[↓aC,aB,rE,↓reduceIte]
  rw[partialIns_succ] at he;obtain⟨i,hi⟩:∃i,i=scanSorted C.lt e b i0:=⟨_,rfl⟩;rw[←hi] at he;refine aA (aJ (aA (aS (Q:=fun o A' X=>o= .normal∧a<i∧i≤b∧aGj C S0 e a b i (5 - (s+1)) A' X) (aJ (bB (fun k A' X=>∃j,a<j∧j≤b∧k=b - j∧aGj C S0 e a b j (5 - (s+1)) A' X∧scanSorted C.lt e b j=i) ?_ _ _ _ ⟨i0,by omega,by omega,rfl,⟨rfl,by simp only[↓aC,aB,rE,↓reduceIte,p0],by simp only[↓aC,aB,rE,↓reduceIte,p1],by simp only[↓aC,aB,rE,↓reduceIte,p2],by simp only[↓aC,aB,rE,↓reduceIte,p3],by simp only[↓aC,aB,rE,↓reduceIte,p9],by simp only[↓aC,aB,rE,↓reduceIte,p10],on⟩,hi.symm⟩)) ?_)))
  ·rintro k ⟨F,inr⟩ X ⟨j,haj,hjb,hk,⟨q0,p0,p1,p2,p3,p9,p10,on⟩,hj⟩;simp only at q0 p0 p1 p2 p3 p9 p10;subst q0;refine aA (aA (cR (fun _=>False) ?_));intro X1 x1;by_cases hlt:j<b
   ·have i1:j<C.n:=by omega
    have i2:j - 1<C.n:=by omega
    rw[scanSorted,Ab hlt,Ep] at hj;simp only[↓sU,sD,rE,↓reduceIte,rA,p0,p2,p3,p9,dlt,Ab hlt,iT (show 1≤j by omega) (show j≤9223372036854775807 by omega),aE,C.ia i1,C.ia i2,on.1.ld i1,on.1.ld i2,on.1.self i1,on.1.self i2,Ctx.old on.1 i1,Ctx.old on.1 i2];refine bX rfl ?_;simp only[↓sU,sD,rE,↓reduceIte,rA,p3];refine aP ((on.step x1).cmp i1 i2) ?_;rintro _ Y ⟨hY,z,rfl,hz⟩;refine⟨hY,?_⟩;have on2:=(on.step x1).step hY;simp only[↓sU,sD,rE,↓reduceIte,rA,hz,dH];cases hl:C.lt e[j]! e[j - 1]! with
    | false=>
     rw[hl,Bq,if_pos rfl] at hj;refine aM (by simp only[↓aC,aB,rE,↓reduceIte,Bq]) (aI ?_);try simp only[↓aC,aB,rE,↓reduceIte]
     refine aJ (aF ?_);simp only[↓aC,aB,rE,↓reduceIte,p9,iP (show j+1≤9223372036854775807 by omega)];exact⟨b - (j+1),by omega,j+1,by omega,by omega,rfl,⟨rfl,by simp only[↓aC,aB,rE,↓reduceIte,p0],by simp only[↓aC,aB,rE,↓reduceIte,p1],by simp only[↓aC,aB,rE,↓reduceIte,p2],by simp only[↓aC,aB,rE,↓reduceIte,p3],by simp only[↓aC,aB,rE,↓reduceIte],by simp only[↓aC,aB,rE,↓reduceIte,p10],on2⟩,hj⟩
    | true=>
     rw[hl,Bl,if_neg (by simp)] at hj;refine aK (by simp only[↓aC,aB,rE,↓reduceIte,Bl]) (aU ?_);try simp only[↓aC,aB,rE,↓reduceIte]
     rw[←hj];exact⟨haj,hjb,rfl,by simp only[↓aC,aB,rE,↓reduceIte,p0],by simp only[↓aC,aB,rE,↓reduceIte,p1],by simp only[↓aC,aB,rE,↓reduceIte,p2],by simp only[↓aC,aB,rE,↓reduceIte,p3],by simp only[↓aC,aB,rE,↓reduceIte,p9],by simp only[↓aC,aB,rE,↓reduceIte,p10],on2⟩
   ·rw[scanSorted,Aa hlt,Eg,if_neg (by simp)] at hj;simp only[↓sU,sD,rE,↓reduceIte,rA,p0,p2,p3,p9,dlt,Aa hlt];refine aK (by simp only[↓aC,aB,rE,↓reduceIte]) (aU ?_);try simp only[↓aC,aB,rE,↓reduceIte]
    rw[←hj];exact⟨haj,hjb,rfl,by simp only[↓aC,aB,rE,↓reduceIte,p0],by simp only[↓aC,aB,rE,↓reduceIte,p1],by simp only[↓aC,aB,rE,↓reduceIte,p2],by simp only[↓aC,aB,rE,↓reduceIte,p3],by simp only[↓aC,aB,rE,↓reduceIte,p9],by simp only[↓aC,aB,rE,↓reduceIte,p10],on.step x1⟩
  clear hi on p0 p1 p2 p3 p9 p10;rintro o ⟨F,inr⟩ X ⟨rfl,hai,hib,q0,p0,p1,p2,p3,p9,p10,on⟩;simp only at q0 p0 p1 p2 p3 p9 p10;subst q0;try simp only[↓aC,aB,rE,↓reduceIte]
  refine eG ?_;simp only[↓aC,aB,rE,↓reduceIte,p2,p9,deq];by_cases hie:i=b
  ·rw[if_pos hie] at he;rw[←he];refine aM (by simp only[↓aC,aB,rE,↓reduceIte,Ab hie]) (aA (aF ?_));simp only[↓aC,aB,rE,↓reduceIte];refine aO ?_;simp only[↓aC,aB,rE,↓reduceIte];exact⟨.inr trivial,on⟩
  rw[if_neg hie] at he;refine aK (by simp only[↓aC,aB,rE,↓reduceIte,Aa hie]) (aI ?_);try simp only[↓aC,aB,rE,↓reduceIte]
  refine eG ?_;simp only[↓aC,aB,rE,↓reduceIte,p1,p2,zO (show a≤b by omega) (show b≤9223372036854775807 by omega)];by_cases h50:b - a<50
  ·rw[if_pos h50] at he;rw[←he];refine aM (by simp only[↓aC,aB,rE,↓reduceIte,Ab (show((b - a:Nat):Int)<50 by omega)]) (aA (aF ?_));simp only[↓aC,aB,rE,↓reduceIte];refine aO ?_;simp only[↓aC,aB,rE,↓reduceIte];exact⟨.inr trivial,on⟩
  rw[if_neg h50] at he;refine aK (by simp only[↓aC,aB,rE,↓reduceIte,Aa (show ¬ ((b - a:Nat):Int)<50 by omega)]) (aI ?_);try simp only[↓aC,aB,rE,↓reduceIte]
  have i1:i<C.n:=by omega
  have i2:i - 1<C.n:=by omega
  refine aA ?_;refine gK C i (i - 1) 15 on i1 i2 rfl (by decide) (by decide) (by decide) ?_;simp only[↓aC,aB,rE,↓reduceIte,Bo,Bp,rA,p0,p9,iT (show 1≤i by omega) (show i≤9223372036854775807 by omega),aE,C.ia i1,C.ia i2,on.1.ld i1,on.1.ld i2,on.1.self i1,on.1.self i2];clear on;intro Z on;try simp only[↓aC,aB,rE,↓reduceIte]
  obtain⟨d1,h1⟩:∃d1,d1=if i - a≥2 then shiftDown C.lt (i - 1) (swp e i (i - 1)) else swp e i (i - 1):=⟨_,rfl⟩;obtain⟨d2,h2⟩:∃d2,d2=if b - i≥2 then shiftUp C.lt b (i+1) d1 else d1:=⟨_,rfl⟩;have he:partialIns C.lt a b s i d2=R:=by
   rw[h2,h1];exact he
  refine aA (aS (Q:=fun o A' X=>o= .normal∧aGj C S0 d1 a b i (5 - (s+1)) A' X) (aA (aF ?_)) ?_)
  ·simp only[↓aC,aB,rE,↓reduceIte,p1,p9,zO (show a≤i by omega) (show i≤9223372036854775807 by omega)];by_cases h2a:i - a≥2;rotate_left
   ·rw[if_neg h2a] at h1;refine aK (by simp only[↓aC,aB,rE,↓reduceIte,Aa (show ¬ (2:Int)≤((i - a:Nat):Int) by omega)]) (aI ?_);rw[h1];exact⟨rfl,rfl,by simp only[↓aC,aB,rE,↓reduceIte,p0],by simp only[↓aC,aB,rE,↓reduceIte,p1],by simp only[↓aC,aB,rE,↓reduceIte,p2],by simp only[↓aC,aB,rE,↓reduceIte,p3],by simp only[↓aC,aB,rE,↓reduceIte,p9],by simp only[↓aC,aB,rE,↓reduceIte,p10],on⟩
   rw[if_pos h2a] at h1;refine aM (by simp only[↓aC,aB,rE,↓reduceIte,Ab (show(2:Int)≤((i - a:Nat):Int) by omega)]) (aA (aF ?_));simp only[↓aC,aB,rE,↓reduceIte,p9,iT (show 1≤i by omega) (show i≤9223372036854775807 by omega)];refine aJ (bB (fun k A' X=>∃f,k<i∧aGj C S0 f a b i (5 - (s+1)) A' X∧aD 11 A'.F= .int .i64 (k:Int)∧shiftDown C.lt k f=d1) ?_ (i - 1) _ _ ⟨_,by omega,⟨rfl,by simp only[↓aC,aB,rE,↓reduceIte,p0],by simp only[↓aC,aB,rE,↓reduceIte,p1],by simp only[↓aC,aB,rE,↓reduceIte,p2],by simp only[↓aC,aB,rE,↓reduceIte,p3],by simp only[↓aC,aB,rE,↓reduceIte,p9],by simp only[↓aC,aB,rE,↓reduceIte,p10],on⟩,by simp only[↓aC,aB,rE,↓reduceIte],h1.symm⟩);clear p0 p1 p2 p3 p9 p10 on;rintro k ⟨F,inr⟩ X ⟨f,hki,⟨q0,p0,p1,p2,p3,p9,p10,on⟩,p11,hf⟩;simp only at q0 p0 p1 p2 p3 p9 p10 p11;subst q0;refine eG ?_;simp only[↓aC,aB,rE,↓reduceIte,p11];cases k with
   | zero=>
    refine aK (by simp only[↓aC,aB,rE,↓reduceIte];rfl) (aU ?_);try simp only[↓aC,aB,rE,↓reduceIte]
    rw[←hf];exact⟨rfl,by simp only[↓aC,aB,rE,↓reduceIte,p0],by simp only[↓aC,aB,rE,↓reduceIte,p1],by simp only[↓aC,aB,rE,↓reduceIte,p2],by simp only[↓aC,aB,rE,↓reduceIte,p3],by simp only[↓aC,aB,rE,↓reduceIte,p9],by simp only[↓aC,aB,rE,↓reduceIte,p10],on⟩
   | succ t=>
   have w1:IntKind.i64.wrap (((t+1:Nat):Int) - 1)=(t:Int):=iT (a:=t+1) (by omega) (by omega);refine aM (by simp only[↓aC,aB,rE,↓reduceIte,Ab (show(1:Int)≤((t+1:Nat):Int) by omega)]) (aI ?_);try simp only[↓aC,aB,rE,↓reduceIte]
   have i1:t+1<C.n:=by omega
   have i2:t<C.n:=by omega
   refine aA (aJ (aA (aA (cR (fun _=>False) ?_))));intro X1 x1;simp only[↓sU,sD,rE,↓reduceIte,rA,p0,p3,p11,w1,aE,C.ia i1,C.ia i2,on.1.ld i1,on.1.ld i2,on.1.self i1,on.1.self i2,Ctx.old on.1 i1,Ctx.old on.1 i2];refine bX rfl ?_;simp only[↓sU,sD,rE,↓reduceIte,rA,p3];refine aP ((on.step x1).cmp i1 i2) ?_;rintro _ Y ⟨hY,z,rfl,hz⟩;refine⟨hY,?_⟩;have on2:=(on.step x1).step hY;simp only[↓sU,sD,rE,↓reduceIte,rA,hz,dH];rw[shiftDown] at hf;cases hl:C.lt f[t+1]! f[t]! with
   | false=>
    rw[hl,Bq,if_pos rfl] at hf;refine aM (by simp only[↓aC,aB,rE,↓reduceIte,Bq]) (aU ?_);try simp only[↓aC,aB,rE,↓reduceIte]
    rw[←hf];exact⟨rfl,by simp only[↓aC,aB,rE,↓reduceIte,p0],by simp only[↓aC,aB,rE,↓reduceIte,p1],by simp only[↓aC,aB,rE,↓reduceIte,p2],by simp only[↓aC,aB,rE,↓reduceIte,p3],by simp only[↓aC,aB,rE,↓reduceIte,p9],by simp only[↓aC,aB,rE,↓reduceIte,p10],on2⟩
   | true=>
    rw[hl,Bl,if_neg (by simp)] at hf;refine aK (by simp only[↓aC,aB,rE,↓reduceIte,Bl]) (aI ?_);try simp only[↓aC,aB,rE,↓reduceIte]
    refine gK C (t+1) t 15 on2 i1 i2 rfl (by decide) (by decide) (by decide) ?_;simp only[↓aC,aB,rE,↓reduceIte,Bo,Bp,rA,p0,p11,w1,aE,C.ia i1,C.ia i2,on2.1.ld i1,on2.1.ld i2,on2.1.self i1,on2.1.self i2];clear on on2;intro Z on;refine aF ?_;simp only[↓aC,aB,rE,↓reduceIte,p11,w1];exact⟨t,by omega,_,by omega,⟨rfl,by simp only[↓aC,aB,rE,↓reduceIte,p0],by simp only[↓aC,aB,rE,↓reduceIte,p1],by simp only[↓aC,aB,rE,↓reduceIte,p2],by simp only[↓aC,aB,rE,↓reduceIte,p3],by simp only[↓aC,aB,rE,↓reduceIte,p9],by simp only[↓aC,aB,rE,↓reduceIte,p10],on⟩,by simp only[↓aC,aB,rE,↓reduceIte],hf⟩
  clear on p0 p1 p2 p3 p9 p10;rintro o ⟨F,inr⟩ X ⟨rfl,q0,p0,p1,p2,p3,p9,p10,on⟩;simp only at q0 p0 p1 p2 p3 p9 p10;subst q0;try simp only[↓aC,aB,rE,↓reduceIte]
  refine aS (Q:=fun o A' X=>o= .normal∧aGj C S0 d2 a b i (5 - (s+1)) A' X) (aA (aF ?_)) ?_
  ·simp only[↓aC,aB,rE,↓reduceIte,p2,p9,zO (show i≤b by omega) (show b≤9223372036854775807 by omega)];by_cases h2b:b - i≥2;rotate_left
   ·rw[if_neg h2b] at h2;refine aK (by simp only[↓aC,aB,rE,↓reduceIte,Aa (show ¬ (2:Int)≤((b - i:Nat):Int) by omega)]) (aI ?_);rw[h2];exact⟨rfl,rfl,by simp only[↓aC,aB,rE,↓reduceIte,p0],by simp only[↓aC,aB,rE,↓reduceIte,p1],by simp only[↓aC,aB,rE,↓reduceIte,p2],by simp only[↓aC,aB,rE,↓reduceIte,p3],by simp only[↓aC,aB,rE,↓reduceIte,p9],by simp only[↓aC,aB,rE,↓reduceIte,p10],on⟩
   rw[if_pos h2b] at h2;refine aM (by simp only[↓aC,aB,rE,↓reduceIte,Ab (show(2:Int)≤((b - i:Nat):Int) by omega)]) (aA (aF ?_));simp only[↓aC,aB,rE,↓reduceIte,p9,iP (show i+1≤9223372036854775807 by omega)];refine aJ (bB (fun k A' X=>∃f j,i<j∧j≤b∧k=b - j∧aGj C S0 f a b i (5 - (s+1)) A' X∧aD 12 A'.F= .int .i64 (j:Int)∧shiftUp C.lt b j f=d2) ?_ _ _ _ ⟨_,i+1,by omega,by omega,rfl,⟨rfl,by simp only[↓aC,aB,rE,↓reduceIte,p0],by simp only[↓aC,aB,rE,↓reduceIte,p1],by simp only[↓aC,aB,rE,↓reduceIte,p2],by simp only[↓aC,aB,rE,↓reduceIte,p3],by simp only[↓aC,aB,rE,↓reduceIte,p9],by simp only[↓aC,aB,rE,↓reduceIte,p10],on⟩,by simp only[↓aC,aB,rE,↓reduceIte],h2.symm⟩);clear p0 p1 p2 p3 p9 p10 on;rintro k ⟨F,inr⟩ X ⟨f,j,hij,hjb,hk,⟨q0,p0,p1,p2,p3,p9,p10,on⟩,p12,hf⟩;simp only at q0 p0 p1 p2 p3 p9 p10 p12;subst q0;refine eG ?_;simp only[↓aC,aB,rE,↓reduceIte,p2,p12,dlt];rw[shiftUp] at hf;by_cases hlt:j<b;rotate_left
   ·rw[if_neg hlt] at hf;refine aK (by simp only[↓aC,aB,rE,↓reduceIte,Aa hlt]) (aU ?_);try simp only[↓aC,aB,rE,↓reduceIte]
    rw[←hf];exact⟨rfl,by simp only[↓aC,aB,rE,↓reduceIte,p0],by simp only[↓aC,aB,rE,↓reduceIte,p1],by simp only[↓aC,aB,rE,↓reduceIte,p2],by simp only[↓aC,aB,rE,↓reduceIte,p3],by simp only[↓aC,aB,rE,↓reduceIte,p9],by simp only[↓aC,aB,rE,↓reduceIte,p10],on⟩
   rw[if_pos hlt] at hf;have w1:=iT (show 1≤j by omega) (show j≤9223372036854775807 by omega);refine aM (by simp only[↓aC,aB,rE,↓reduceIte,Ab hlt]) (aI ?_);try simp only[↓aC,aB,rE,↓reduceIte]
   have i1:j<C.n:=by omega
   have i2:j - 1<C.n:=by omega
   refine aA (aJ (aA (aA (cR (fun _=>False) ?_))));intro X1 x1;simp only[↓sU,sD,rE,↓reduceIte,rA,p0,p3,p12,w1,aE,C.ia i1,C.ia i2,on.1.ld i1,on.1.ld i2,on.1.self i1,on.1.self i2,Ctx.old on.1 i1,Ctx.old on.1 i2];refine bX rfl ?_;simp only[↓sU,sD,rE,↓reduceIte,rA,p3];refine aP ((on.step x1).cmp i1 i2) ?_;rintro _ Y ⟨hY,z,rfl,hz⟩;refine⟨hY,?_⟩;have on2:=(on.step x1).step hY;simp only[↓sU,sD,rE,↓reduceIte,rA,hz,dH];cases hl:C.lt f[j]! f[j - 1]! with
   | false=>
    rw[hl,Bq,if_pos rfl] at hf;refine aM (by simp only[↓aC,aB,rE,↓reduceIte,Bq]) (aU ?_);try simp only[↓aC,aB,rE,↓reduceIte]
    rw[←hf];exact⟨rfl,by simp only[↓aC,aB,rE,↓reduceIte,p0],by simp only[↓aC,aB,rE,↓reduceIte,p1],by simp only[↓aC,aB,rE,↓reduceIte,p2],by simp only[↓aC,aB,rE,↓reduceIte,p3],by simp only[↓aC,aB,rE,↓reduceIte,p9],by simp only[↓aC,aB,rE,↓reduceIte,p10],on2⟩
   | true=>
    rw[hl,Bl,if_neg (by simp)] at hf;refine aK (by simp only[↓aC,aB,rE,↓reduceIte,Bl]) (aI ?_);try simp only[↓aC,aB,rE,↓reduceIte]
    refine gK C j (j - 1) 15 on2 i1 i2 rfl (by decide) (by decide) (by decide) ?_;simp only[↓aC,aB,rE,↓reduceIte,Bo,Bp,rA,p0,p12,w1,aE,C.ia i1,C.ia i2,on2.1.ld i1,on2.1.ld i2,on2.1.self i1,on2.1.self i2];clear on on2;intro Z on;refine aF ?_;simp only[↓aC,aB,rE,↓reduceIte,p12,iP (show j+1≤9223372036854775807 by omega)];exact⟨b - (j+1),by omega,_,j+1,by omega,by omega,rfl,⟨rfl,by simp only[↓aC,aB,rE,↓reduceIte,p0],by simp only[↓aC,aB,rE,↓reduceIte,p1],by simp only[↓aC,aB,rE,↓reduceIte,p2],by simp only[↓aC,aB,rE,↓reduceIte,p3],by simp only[↓aC,aB,rE,↓reduceIte,p9],by simp only[↓aC,aB,rE,↓reduceIte,p10],on⟩,by simp only[↓aC,aB,rE,↓reduceIte],hf⟩
  clear on p0 p1 p2 p3 p9 p10;rintro o ⟨F,inr⟩ X ⟨rfl,q0,p0,p1,p2,p3,p9,p10,on⟩;simp only at q0 p0 p1 p2 p3 p9 p10;subst q0;try simp only[↓aC,aB,rE,↓reduceIte]
  refine aF ?_;simp only[↓aC,aB,rE,↓reduceIte,p10,show IntKind.i64.wrap (((5 - (s+1):Nat):Int)+1)=((5 - s:Nat):Int) by rw[wrap_i64 (by omega) (by omega)];omega];exact⟨s,by omega,i,d2,hai,hib,by omega,⟨rfl,by simp only[↓aC,aB,rE,↓reduceIte,p0],by simp only[↓aC,aB,rE,↓reduceIte,p1],by simp only[↓aC,aB,rE,↓reduceIte,p2],by simp only[↓aC,aB,rE,↓reduceIte,p3],by simp only[↓aC,aB,rE,↓reduceIte,p9],by simp only[↓aC,aB,rE,↓reduceIte],on⟩,he⟩
 ·rintro o ⟨F,inr⟩ X ⟨⟨rfl,hf⟩ | ⟨rfl,p8⟩,on⟩
  ·rw[hf];try simp only[↓aC,aB,rE,↓reduceIte]
   refine bE ?_;simp only[↓aC,aB,rE,↓reduceIte];refine aO ?_;simp only[↓aC,aB,rE,↓reduceIte];exact on
  ·simp only at p8;simp only[↓aC,aB,rE,↓reduceIte,p8];exact on
end Go.Ev.Gl
namespace Go.Ev.Gl
open Go.Sort
variable {fns:T dE}
theorem aD6(K:Nat){ops:List AO}{m n:Nat}{x v:cJ}{A:bH}{S:St}{Q:Out→bH→St→Prop}(he:ops.drop K= [⟨none,.x (.st n x v),none,m⟩])(h3:((ops.take K).all fun o=> !Nat.testBit o.mask K)=true)(hm:((List.range K).all fun i=>Nat.testBit m i)=true)
  (h:jR (ops.take K) A.F S.h fun F'=>∃S1,aZ (v.val F').cells (fun cs=>lK (x.val F') n cs ⟨S.h,S.nx+(K+1)⟩)=some (.undef,S1)∧Q .normal ⟨F',A.inr⟩ S1):mA fns (.drw ops) A S Q:=by
 have hK:(ops.take K).length=K:=by
  have:=Ey List.length he;simp only[Da,Au,Bu] at this;rw[Ca];omega
 exact aCa (by rw[←he,Cq]) hK h3 hm h
theorem oW{n j:Nat}(h:2 ^ j≤n):bitsLen n=j+bitsLen (n / 2 ^ j):=by
 have key:∀t,bitsLen n≤t↔j+bitsLen (n / 2 ^ j)≤t:=fun t=>by
  rw[bitsLen_le_iff];by_cases ht:j≤t
  ·obtain⟨u,rfl⟩:∃u,t=j+u:=⟨t - j,by omega⟩;rw[show(j+bitsLen (n / 2 ^ j)≤j+u)↔bitsLen (n / 2 ^ j)≤u by omega,bitsLen_le_iff,Nat.div_lt_iff_lt_mul (Fe j),←Nat.pow_add,Nat.add_comm u j]
  ·constructor
   ·intro h1;have:=Nat.pow_le_pow_right (show 0<2 by omega) (show t≤j by omega);omega
   ·omega
 exact Nat.le_antisymm ((key _).2 (Ah _)) ((key _).1 (Ah _))
def len8:List Nat:=(List.range 256).map bitsLen
theorem len8_get{n:Nat}(h:n<256):len8[n]?.getD 0=bitsLen n:=by
 unfold len8;rw[Az,Cn h];rfl
theorem aJY{n:Nat}(h:n<256):IntKind.u8.wrap (n:Int)=(n:Int):=uY (by simp [IntKind.min,IntKind.signed]) (by simp [IntKind.max,IntKind.signed,IntKind.bits];omega)
theorem aIK{n:Nat}(h:n<256):bitsLen n≤8:=(bitsLen_le_iff n 8).2 h
set_option maxRecDepth 20000 in
theorem aF8{S:St}{n:Nat}(H:Has fns)(hn:n≤18446744073709551615):fA fns (.fn 75 [] []) [.int .u64 (n:Int)] S fun r S'=>r= .int .i64 (bitsLen n:Int)∧S'=S:=by
 refine bP H.f75 (by simp) ?_;simp only[↓aC,aB,rE,↓reduceIte,rA];refine bE ?_;simp only[↓aC,aB,rE,↓reduceIte,rA];refine aA (aS (Q:=fun o A' X=>o= .normal∧X=S∧∃m t:Nat,m<4294967296∧aD 0 A'.F= .int .u64 (m:Int)∧aD 2 A'.F= .int .i64 (t:Int)∧t≤32∧bitsLen n=t+bitsLen m) (aA (aF ?_)) ?_)
 ·simp only[↓aC,aB,rE,↓reduceIte,rA];by_cases h1:4294967296≤n
  ·have sh:gO .shr (.p .int) (.int .u64 (n:Int)) (.int .u64 32)=some (.int .u64 ((n / 4294967296:Nat):Int)):=vA (.p .int) .u64 (a:=n) (n:=32) (by decide);refine aM (by simp only[↓aC,aB,rE,↓reduceIte,Ab (show(4294967296:Int)≤(n:Int) by omega)]) (aA (aF ?_));simp only[↓aC,aB,rE,↓reduceIte,sh];refine aF ?_;simp only[↓aC,aB,rE,↓reduceIte];exact⟨n / 4294967296,32,by omega,rfl,rfl,by omega,oW (j:=32) h1⟩
  ·refine aK (by simp only[↓aC,aB,rE,↓reduceIte,Aa (show ¬ (4294967296:Int)≤(n:Int) by omega)]) (aI ?_);exact⟨rfl,rfl,n,0,by omega,by simp only[↓aC,aB,rE,↓reduceIte],by simp only[↓aC,aB,rE,↓reduceIte],by omega,by omega⟩
 rintro o ⟨F,inr⟩ X ⟨rfl,rfl,m,t,hm,p0,p2,ht,hb⟩;simp only at p0 p2;try simp only[↓aC,aB,rE,↓reduceIte]
 refine aA (aS (Q:=fun o A' X'=>o= .normal∧X'=X∧∃m t:Nat,m<65536∧aD 0 A'.F= .int .u64 (m:Int)∧aD 2 A'.F= .int .i64 (t:Int)∧t≤48∧bitsLen n=t+bitsLen m) (aA (aF ?_)) ?_)
 ·simp only[↓aC,aB,rE,↓reduceIte,p0];by_cases h1:65536≤m
  ·have sh:gO .shr (.p .int) (.int .u64 (m:Int)) (.int .u64 16)=some (.int .u64 ((m / 65536:Nat):Int)):=vA (.p .int) .u64 (a:=m) (n:=16) (by decide);refine aM (by simp only[↓aC,aB,rE,↓reduceIte,Ab (show(65536:Int)≤(m:Int) by omega)]) (aA (aF ?_));simp only[↓aC,aB,rE,↓reduceIte,p0,sh];refine aF ?_;simp only[↓aC,aB,rE,↓reduceIte,p2,show IntKind.i64.wrap ((t:Int)+16)=((t+16:Nat):Int) from zL (b:=16) (by omega)];exact⟨m / 65536,t+16,by omega,rfl,rfl,by omega,by have e8:bitsLen m=16+bitsLen (m / 65536):=oW (j:=16) h1;omega⟩
  ·refine aK (by simp only[↓aC,aB,rE,↓reduceIte,Aa (show ¬ (65536:Int)≤(m:Int) by omega)]) (aI ?_);exact⟨rfl,rfl,m,t,by omega,by simp only[↓aC,aB,rE,↓reduceIte,p0],by simp only[↓aC,aB,rE,↓reduceIte,p2],by omega,hb⟩
 clear p0 p2 hm ht hb m t;rintro o ⟨F,inr⟩ X ⟨rfl,rfl,m,t,hm,p0,p2,ht,hb⟩;simp only at p0 p2;try simp only[↓aC,aB,rE,↓reduceIte]
 refine aA (aS (Q:=fun o A' X'=>o= .normal∧X'=X∧∃m t:Nat,m<256∧aD 0 A'.F= .int .u64 (m:Int)∧aD 2 A'.F= .int .i64 (t:Int)∧t≤56∧bitsLen n=t+bitsLen m) (aA (aF ?_)) ?_)
 ·simp only[↓aC,aB,rE,↓reduceIte,p0];by_cases h1:256≤m
  ·have sh:gO .shr (.p .int) (.int .u64 (m:Int)) (.int .u64 8)=some (.int .u64 ((m / 256:Nat):Int)):=vA (.p .int) .u64 (a:=m) (n:=8) (by decide);refine aM (by simp only[↓aC,aB,rE,↓reduceIte,Ab (show(256:Int)≤(m:Int) by omega)]) (aA (aF ?_));simp only[↓aC,aB,rE,↓reduceIte,p0,sh];refine aF ?_;simp only[↓aC,aB,rE,↓reduceIte,p2,show IntKind.i64.wrap ((t:Int)+8)=((t+8:Nat):Int) from zL (b:=8) (by omega)];exact⟨m / 256,t+8,by omega,rfl,rfl,by omega,by have e8:bitsLen m=8+bitsLen (m / 256):=oW (j:=8) h1;omega⟩
  ·refine aK (by simp only[↓aC,aB,rE,↓reduceIte,Aa (show ¬ (256:Int)≤(m:Int) by omega)]) (aI ?_);exact⟨rfl,rfl,m,t,by omega,by simp only[↓aC,aB,rE,↓reduceIte,p0],by simp only[↓aC,aB,rE,↓reduceIte,p2],by omega,hb⟩
 clear p0 p2 hm ht hb m t;rintro o ⟨F,inr⟩ X ⟨rfl,rfl,m,t,hm,p0,p2,ht,hb⟩;simp only at p0 p2;try simp only[↓aC,aB,rE,↓reduceIte]
 refine bE ?_;have ix:=aIU (s:=len8) (i:=m) (by simpa [len8] using hm);rw[len8_get hm] at ix;have ix':mP (.str [0,1,2,2,3,3,3,3,4,4,4,4,4,4,4,4,5,5,5,5,5,5,5,5,5,5,5,5,5,5,5,5,6,6,6,6,6,6,6,6,6,6,6,6,6,6,6,6,6,6,6,6,6,6,6,6,6,6,6,6,6,6,6,6,7,7,7,7,7,7,7,7,7,7,7,7,7,7,7,7,7,7,7,7,7,7,7,7,7,7,7,7,7,7,7,7,7,7,7,7,7,7,7,7,7,7,7,7,7,7,7,7,7,7,7,7,7,7,7,7,7,7,7,7,7,7,7,7,8,8,8,8,8,8,8,8,8,8,8,8,8,8,8,8,8,8,8,8,8,8,8,8,8,8,8,8,8,8,8,8,8,8,8,8,8,8,8,8,8,8,8,8,8,8,8,8,8,8,8,8,8,8,8,8,8,8,8,8,8,8,8,8,8,8,8,8,8,8,8,8,8,8,8,8,8,8,8,8,8,8,8,8,8,8,8,8,8,8,8,8,8,8,8,8,8,8,8,8,8,8,8,8,8,8,8,8,8,8,8,8,8,8,8,8,8,8,8,8,8,8,8,8,8,8,8,8]) m=some (.int .u8 (bitsLen m:Int)):=by
  rw[←ix];congr 2
 have b8:=aIK hm;simp only[↓aC,aB,rE,↓reduceIte,p0,p2,aJY hm,aGm,aCL,ix',wrap_i64 (n:=(bitsLen m:Int)) (by omega) (by omega),zL (a:=t) (b:=bitsLen m) (by omega)];refine aO ?_;simp only[↓aC,aB,rE,↓reduceIte];rw[hb]
theorem aEI{S:St}{n:Nat}(H:Has fns)(hn:n≤18446744073709551615):fA fns (.fn 60 [] []) [.int .u64 (n:Int)] S fun r S'=>r= .int .i64 (bitsLen n:Int)∧S'=S:=by
 refine bP H.f60 (by simp) ?_;simp only[↓aC,aB,rE,↓reduceIte,rA];refine bE ?_;simp only[↓aC,aB,rE,↓reduceIte,rA];refine aA (aK (by simp only[↓aC,aB,rE,↓reduceIte]) (aI ?_));try simp only[↓aC,aB,rE,↓reduceIte]
 refine bE ?_;simp only[↓aC,aB,rE,↓reduceIte];refine aY ?_;simp only[↓aC,aB,rE,↓reduceIte];refine aP (aF8 H hn) ?_;rintro _ _ ⟨rfl,rfl⟩;try simp only[↓aC,aB,rE,↓reduceIte]
 refine aO ?_;simp only[↓aC,aB,rE,↓reduceIte]
theorem aF6{S:St}{n:Nat}(H:Has fns)(hn:n≤1000000000):fA fns (.fn 81 [] []) [.int .i64 (n:Int)] S fun r S'=>r= .int .u64 ((2 ^ bitsLen n:Nat):Int)∧S'=S:=by
 have hb:bitsLen n≤30:=(bitsLen_le_iff n 30).2 (by omega);have hp:2 ^ bitsLen n≤2 ^ 30:=Nat.pow_le_pow_right (by omega) hb;refine bP H.f81 (by simp) ?_;simp only[↓aC,aB,rE,↓reduceIte,rA];refine bE ?_;simp only[↓aC,aB,rE,↓reduceIte,rA];refine bE ?_;simp only[↓aC,aB,rE,↓reduceIte,wrap_u64 (n:=(n:Int)) (by omega) (by omega)];refine aY ?_;simp only[↓aC,aB,rE,↓reduceIte];refine aP (aEI H (by omega)) ?_;rintro _ _ ⟨rfl,rfl⟩;have sh:gO .shl (.p .int) (.int .u64 1) (.int .i64 (bitsLen n:Int))=some (.int .u64 ((2 ^ bitsLen n:Nat):Int)):=by
  have:=aDo (.p .int) .i64 (a:=1) (n:=bitsLen n) (by omega);rw[Nat.one_mul,xS,Nat.mod_eq_of_lt (Dz hp (by decide))] at this;exact this
 simp only[↓aC,aB,rE,↓reduceIte,sh];refine aO ?_;simp only[↓aC,aB,rE,↓reduceIte]
theorem yV(e:nZ){a b:Nat}(ha:a≤18446744073709551615)(hb:b≤18446744073709551615):∃c:Nat,c≤18446744073709551615∧gO .xor e (.int .u64 (a:Int)) (.int .u64 (b:Int))=some (.int .u64 (c:Int)):=by
 refine⟨Nat.xor a b,?_,?_⟩
 ·have:a ^^^ b<2 ^ 64:=Nat.xor_lt_two_pow (by omega) (by omega);show a ^^^ b≤_;omega
 show dD .xor .u64 (Int.ofNat a) .u64 (Int.ofNat b)=_;unfold dD;rw[show eI .xor=false from rfl,aV,eH,aQ];show bL (Nat.ble a 18446744073709551615) (bL (Nat.ble b 18446744073709551615) _ _) _=_;rw[Am ha,Am hb];rfl
theorem aFN(e:nZ)(a:Nat){n:Nat}(hn:n≤64):∃c:Nat,c≤18446744073709551615∧gO .shl e (.int .u64 (a:Int)) (.int .u64 (n:Int))=some (.int .u64 (c:Int)):=by
 refine⟨a * 2 ^ n % 2 ^ 64,by omega,?_⟩;rw[aDo e .u64 hn,xS]
def aBu(r:Nat)(S:St):Prop:=r<S.nx∧∃x:Nat,x≤18446744073709551615∧S.h.get r=some (.cells [.int .u64 (x:Int)] false 0)
theorem aF4{S:St}{r:Nat}{x y:AV}{m:Nat}(h:S.h.get r=some (.cells [x] false 0)):lK (.ptr r 0) 1 [y] ⟨S.h,S.nx+m⟩=some (.undef,⟨S.h.set r (some (.cells [y] false 0)),S.nx+m⟩):=stc (S:=⟨S.h,S.nx+m⟩) (cs:=[x]) h (by simp)
theorem aGE{S:St}{r:Nat}(H:Has fns)(h:aBu r S):fA fns (.fn 82 [] []) [.ptr r 0] S fun v S'=>(∃x:Nat,x≤18446744073709551615∧v= .int .u64 (x:Int))∧aBu r S'∧bQ r S S':=by
 refine bP H.f82 (by simp) ?_;simp only[↓aC,aB,rE,↓reduceIte,rA];refine bE ?_;simp only[↓aC,aB,rE,↓reduceIte,rA];have stepF:∀ (X:St),aBu r X→bQ r S X→∀m z:Nat,z≤18446744073709551615→aBu r ⟨X.h.set r (some (.cells [.int .u64 (z:Int)] false 0)),X.nx+m⟩∧bQ r S ⟨X.h.set r (some (.cells [.int .u64 (z:Int)] false 0)),X.nx+m⟩:=fun X h hs m z hz=>
  ⟨⟨Ae h.1 (Cd _ _),z,hz,by simp only;rw[T.get_set,if_pos rfl]⟩,(hs.put _).nx m⟩
 obtain⟨hlt,x,hx,hg⟩:=id h;have l0:dT (.ptr r 0) false 1 S.h=some (.int .u64 (x:Int)):=fN hg rfl;obtain⟨c1,b1,e1⟩:=aFN (.p .int) x (n:=13) (by omega);obtain⟨d1,f1,g1⟩:=yV (.p .int) hx b1;refine aA (aD6 9 rfl (by decide) (by decide) ?_);simp only[↓aC,aB,rE,↓reduceIte,Bo,Bp,bF,bO,bG,l0,show gO .shl (.p .int) (.int .u64 (x:Int)) (.int .u64 13)=some (.int .u64 (c1:Int)) from e1,g1,cI];refine⟨_,aF4 hg,?_⟩;obtain⟨r1,s1⟩:=stepF S h (bQ.refl _ _) 10 d1 f1;revert r1 s1;generalize (⟨S.h.set r (some (.cells [.int .u64 (d1:Int)] false 0)),S.nx+10⟩:St)=X;intro r1 s1;obtain⟨hlt1,y,hy,hg1⟩:=id r1;have l1:dT (.ptr r 0) false 1 X.h=some (.int .u64 (y:Int)):=fN hg1 rfl;obtain⟨c2,b2,e2⟩:∃c:Nat,c≤18446744073709551615∧gO .shr (.p .int) (.int .u64 (y:Int)) (.int .u64 7)=some (.int .u64 (c:Int)):=⟨y / 128,by omega,vA (.p .int) .u64 (a:=y) (n:=7) (by decide)⟩;obtain⟨d2,f2,g2⟩:=yV (.p .int) hy b2;try simp only[↓aC,aB,rE,↓reduceIte]
 refine aA (aD6 9 rfl (by decide) (by decide) ?_);simp only[↓aC,aB,rE,↓reduceIte,Bo,Bp,bF,bO,bG,l1,e2,g2,cI];refine⟨_,aF4 hg1,?_⟩;obtain⟨r2,s2⟩:=stepF X r1 s1 10 d2 f2;revert r2 s2;generalize (⟨X.h.set r (some (.cells [.int .u64 (d2:Int)] false 0)),X.nx+10⟩:St)=Y;intro r2 s2;obtain⟨hlt2,w,hw,hg2⟩:=id r2;have l2:dT (.ptr r 0) false 1 Y.h=some (.int .u64 (w:Int)):=fN hg2 rfl;obtain⟨c3,b3,e3⟩:=aFN (.p .int) w (n:=17) (by omega);obtain⟨d3,f3,g3⟩:=yV (.p .int) hw b3;try simp only[↓aC,aB,rE,↓reduceIte]
 refine aA (aD6 9 rfl (by decide) (by decide) ?_);simp only[↓aC,aB,rE,↓reduceIte,Bo,Bp,bF,bO,bG,l2,show gO .shl (.p .int) (.int .u64 (w:Int)) (.int .u64 17)=some (.int .u64 (c3:Int)) from e3,g3,cI];refine⟨_,aF4 hg2,?_⟩;obtain⟨r3,s3⟩:=stepF Y r2 s2 10 d3 f3;revert r3 s3;generalize (⟨Y.h.set r (some (.cells [.int .u64 (d3:Int)] false 0)),Y.nx+10⟩:St)=Z;intro r3 s3;obtain⟨hlt3,u,hu,hg3⟩:=id r3;have l3:dT (.ptr r 0) false 1 Z.h=some (.int .u64 (u:Int)):=fN hg3 rfl;try simp only[↓aC,aB,rE,↓reduceIte]
 refine bE ?_;simp only[↓aC,aB,rE,↓reduceIte,bF,bO,bG,l3];refine aO ?_;simp only[↓aC,aB,rE,↓reduceIte];exact⟨⟨u,hu,rfl⟩,r3,s3⟩
theorem Ctx.On.other{agg:Bool}{k:Nat}{C:Ctx fns agg k}{S X X':St}{d:Array AV}{r:Nat}(hI:C.I S)(h:C.On S X d)(hs:bQ r X X')(hr:S.nx≤r)(hb:0<C.n→C.b<S.nx):C.On S X' d:=by
 have h1:=h.2.2.1;have hbut:bQ C.b S X':=⟨Ay h1 hs.1,fun c hc hne=>(hs.2 c (by omega) (by omega)).trans (h.2.2.2 c hc hne)⟩;refine h.side hs.1 (fun hn=>?_) hbut (C.hI _ _ hI hbut);have:=hb hn;exact hs.2 _ (by omega) (by omega)
def aO9(C:Ctx fns false 1)(S:St)(d:Array AV)(a b r p s:Nat)(k:Nat)(A:bH)(X:St):Prop:=A.inr=false∧aD 0 A.F=C.v∧aD 1 A.F= .int .i64 (a:Int)∧aD 8 A.F= .int .i64 ((b - a:Nat):Int)∧aD 9 A.F= .ptr r 0∧aD 10 A.F= .int .u64 (p:Int)∧aBu r X∧∃i e,s - 1≤i∧i+k=s+2∧aD 11 A.F= .int .i64 (i:Int)∧C.On S X e∧PermIn a b d e
theorem aGV{C:Ctx fns false 1}{S S0:St}{d:Array AV}{a b:Nat}(H:Has fns)(on0:C.On S0 S d)(hab:a≤b)(hb:b≤C.n):fA fns (.fn 68 [] []) [C.v,.int .i64 (a:Int),.int .i64 (b:Int),C.f] S fun _ S'=>∃e,C.On S0 S' e∧PermIn a b d e:=by
 have hn:=C.hn;have on:=on0.start;refine aP (Q:=fun _ S'=>∃e,C.On S S' e∧PermIn a b d e) ?_ fun v S' h=>by
  obtain⟨e,h1,h2⟩:=h;exact⟨e,on0.trans h1,h2⟩
 refine bP H.f68 (by simp) ?_;simp only[↓aC,aB,rE,↓reduceIte,rA];refine bE ?_;simp only[↓aC,aB,rE,↓reduceIte,rA,zO (show a≤b by omega) (show b≤9223372036854775807 by omega)];refine aS (Q:=fun o A' X=>o= .normal∧∃e,C.On S X e∧PermIn a b d e) (aA (aF ?_)) fun o A' X h=>by
  obtain⟨rfl,h⟩:=h;exact⟨_,rfl,h⟩
 simp only[↓aC,aB,rE,↓reduceIte];by_cases h8:8≤b - a;rotate_left
 ·refine aK (by simp only[↓aC,aB,rE,↓reduceIte,Aa (show ¬ (8:Int)≤((b - a:Nat):Int) by omega)]) (aI ?_);exact⟨rfl,d,on,permIn_refl _ _ _⟩
 obtain⟨L,hL⟩:∃L,L=b - a:=⟨_,rfl⟩;rw[←hL] at h8 ⊢;refine aM (by simp only[↓aC,aB,rE,↓reduceIte,Ab (show(8:Int)≤(L:Int) by omega)]) ?_;refine bE ?_;simp only[↓aC,aB,rE,↓reduceIte,wrap_u64 (n:=(L:Int)) (by omega) (by omega)];refine dO ?_;intro S1 s1 n1 g1;try simp only[↓aC,aB,rE,↓reduceIte]
 have rs:∃S2,lK (.ptr S.nx 0) 1 [.int .u64 (L:Int)] S1=some (.undef,S2)∧Same S S2∧aBu S.nx S2:=by
  refine⟨_,stc (cs:=[.int .u64 0]) g1 (by simp),⟨by simp only;omega,fun c hc=>?_⟩,by show S.nx<S1.nx;omega,L,by omega,?_⟩
  ·simp only;rw[T.get_set,if_neg (by omega)];exact s1.2 c hc
  ·simp only;rw[T.get_set,if_pos rfl];rfl
 obtain⟨S2,e2,s2,rnd⟩:=rs;refine fD (v:=.undef) (S1:=S2) (fun call=>by rw[eJ];simp only[↓aC,aB,rE,↓reduceIte,cI];exact e2) ?_;try simp only[↓aC,aB,rE,↓reduceIte]
 have on2:=on.step s2;refine bE ?_;simp only[↓aC,aB,rE,↓reduceIte];refine aY ?_;simp only[↓aC,aB,rE,↓reduceIte];refine aP (aF6 H (by omega)) ?_;rintro _ _ ⟨rfl,rfl⟩;obtain⟨p,hp⟩:∃p,p=2 ^ bitsLen L:=⟨_,rfl⟩;have hp2:p≤2 * L:=by rw[hp];exact two_pow_bitsLen_le (by omega)
 have hp0:0<p:=by rw[hp];exact Fe _
 rw[←hp];try simp only[↓aC,aB,rE,↓reduceIte]
 have hq:gO .quo (.p .int) (.int .i64 (L:Int)) (.int .i64 4)=some (.int .i64 ((L / 4:Nat):Int)):=aKT (n:=4) (by omega) (by omega);have hm:IntKind.i64.wrap (((L / 4:Nat):Int) * 2)=((L / 4 * 2:Nat):Int):=aMK (b:=2) (by omega);have ha1:=zL (a:=a) (b:=L / 4 * 2) (by omega);refine bE ?_;simp only[↓aC,aB,rE,↓reduceIte,hq,hm,ha1,iT (a:=a+L / 4 * 2) (by omega) (by omega)];obtain⟨s,hs⟩:∃s,s=a+L / 4 * 2:=⟨_,rfl⟩;rw[←hs] at ha1 ⊢;refine aJ (bB (aO9 C S d a b S.nx p s) ?_ 3 _ _ ⟨rfl,by simp only[↓aC,aB,rE,↓reduceIte],by simp only[↓aC,aB,rE,↓reduceIte],by simp only[↓aC,aB,rE,↓reduceIte,hL],by simp only[↓aC,aB,rE,↓reduceIte],by simp only[↓aC,aB,rE,↓reduceIte],rnd,s - 1,d,by omega,by omega,by simp only[↓aC,aB,rE,↓reduceIte],on2,permIn_refl _ _ _⟩);clear e2 g1 n1 s1 s2 on2 rnd;rintro k ⟨F,inr⟩ X ⟨q0,p0,p1,p8,p9,p10,rnd,i,e,hsi,hik,p11,onX,pm⟩;simp only at q0 p0 p1 p8 p9 p10 p11;rw[←hL] at p8;subst q0;refine eG ?_;simp only[↓aC,aB,rE,↓reduceIte,p1,p8,p11,hq,hm,ha1,iP (a:=s) (by omega),dle];by_cases hle:i≤s+1;rotate_left
 ·refine aK (by simp only[↓aC,aB,rE,↓reduceIte,Aa hle]) (aU ?_);exact⟨rfl,e,onX,pm⟩
 refine aM (by simp only[↓aC,aB,rE,↓reduceIte,Ab hle]) (aI ?_);try simp only[↓aC,aB,rE,↓reduceIte]
 refine aA (aJ (aA (aF ?_)));simp only[↓aC,aB,rE,↓reduceIte,p9,p10];refine aY ?_;simp only[↓aC,aB,rE,↓reduceIte,p9];refine aP (aGE H rnd) ?_;rintro _ Y ⟨⟨x,hx,rfl⟩,rnd2,hY⟩;have onY:=Ctx.On.other on.2.1 onX hY (Ah _) (fun hn=>(on.1.2.2 hn).1);have hand:gO .and (.p .int) (.int .u64 (x:Int)) (.int .u64 ((p - 1:Nat):Int))=some (.int .u64 ((Nat.land x (p - 1):Nat):Int)):=aH8 _ hx (by omega);have hlo:Nat.land x (p - 1)≤p - 1:=Nat.and_le_right;obtain⟨y,hy⟩:∃y,y=Nat.land x (p - 1):=⟨_,rfl⟩;rw[←hy] at hand hlo;simp only[↓aC,aB,rE,↓reduceIte,p10,show IntKind.u64.wrap ((p:Int) - 1)=((p - 1:Nat):Int) by rw[wrap_u64 (by omega) (by omega)];omega,hand,wrap_i64 (n:=(y:Int)) (by omega) (by omega)];refine aA (aS (Q:=fun o A' Z=>o= .normal∧Z=Y∧A'.inr=false∧∃z:Nat,z<L∧aD 12 A'.F= .int .i64 (z:Int)∧aD 0 A'.F=C.v∧aD 1 A'.F= .int .i64 (a:Int)∧aD 8 A'.F= .int .i64 (L:Int)∧aD 9 A'.F= .ptr S.nx 0∧aD 10 A'.F= .int .u64 (p:Int)∧aD 11 A'.F= .int .i64 (i:Int)) (aA (aF ?_)) ?_)
 ·simp only[↓aC,aB,rE,↓reduceIte,p8,dle];by_cases hge:L≤y
  ·refine aM (by simp only[↓aC,aB,rE,↓reduceIte,Ab hge]) (aF ?_);simp only[↓aC,aB,rE,↓reduceIte,p8,zO (a:=y) (b:=L) (by omega) (by omega)];exact⟨y - L,by omega,rfl,p0,p1,p9,p10,p11⟩
  ·refine aK (by simp only[↓aC,aB,rE,↓reduceIte,Aa hge]) (aI ?_);exact⟨rfl,rfl,rfl,y,by omega,by refine⟨?_,?_,?_,?_,?_,?_,?_⟩<;>simp only[↓aC,aB,rE,↓reduceIte,p0,p1,p8,p9,p10,p11]⟩
 clear p0 p1 p8 p9 p10 p11 onX hY;rintro o ⟨F,inr⟩ Z ⟨rfl,rfl,q0,z,hz,p12,p0,p1,p8,p9,p10,p11⟩;simp only at q0 p12 p0 p1 p8 p9 p10 p11;subst q0;try simp only[↓aC,aB,rE,↓reduceIte]
 have w1:=zL (a:=a) (b:=z) (by omega);have onT:=onY.start;refine gK C i (a+z) 17 onT (by omega) (by omega) rfl (by decide) (by decide) (by decide) ?_;simp only[↓aC,aB,rE,↓reduceIte,Bo,Bp,rA,p0,p1,p11,p12,w1,aE,C.ia (i:=i) (by omega),C.ia (i:=a+z) (by omega),onY.1.ld (i:=i) (by omega),onY.1.ld (i:=a+z) (by omega),onY.1.self (i:=i) (by omega),onY.1.self (i:=a+z) (by omega)];intro W hW;have rnd3:aBu S.nx W:=by
  obtain⟨h1,x',h2,h3⟩:=rnd2;refine⟨Ae h1 hW.2.2.1,x',h2,(hW.2.2.2 _ h1 ?_).trans h3⟩;have:=(on.1.2.2 (by omega)).1;omega
 refine aF ?_;simp only[↓aC,aB,rE,↓reduceIte,p11,iP (a:=i) (by omega)];refine⟨k - 1,by omega,rfl,by simp only[↓aC,aB,rE,↓reduceIte,p0],by simp only[↓aC,aB,rE,↓reduceIte,p1],by simp only[↓aC,aB,rE,↓reduceIte,p8,hL],by simp only[↓aC,aB,rE,↓reduceIte,p9],by simp only[↓aC,aB,rE,↓reduceIte,p10],rnd3,i+1,_,by omega,by omega,by simp only[↓aC,aB,rE,↓reduceIte],onY.trans hW,permIn_trans _ _ _ _ _ pm (swp_permIn _ _ _ _ _ (by omega) (by omega) (by omega) (by omega) ?_)⟩;have:=onY.sz;omega
end Go.Ev.Gl
namespace Go.Ev.Gl
open Go.Sort
variable {fns:T dE}
def aHs(r:Nat)(S:St):Prop:=r<S.nx∧∃x:Int,S.h.get r=some (.cells [.int .i64 x] false 0)
theorem aHs.same{r:Nat}{S S':St}(h:aHs r S)(hs:Same S S'):aHs r S':=⟨Ae h.1 hs.1,h.2.imp fun _ hx=>(hs.2 _ h.1).trans hx⟩
structure Piv{agg:Bool}{k:Nat}(C:Ctx fns agg k)(S0 S:St)(d:Array AV)(r:Nat):Prop where
 on:C.On S0 S d
 hI:C.I S0
 hr:S0.nx≤r
 hb:0<C.n→C.b<S0.nx
 cnt:aHs r S
theorem sQ{C:Ctx fns false 1}{S S0:St}{d:Array AV}{r a b:Nat}(H:Has fns)(h:Piv C S0 S d r)(ha:a<C.n)(hb:b<C.n):fA fns (.fn 92 [] []) [C.v,.int .i64 (a:Int),.int .i64 (b:Int),.ptr r 0,C.f] S fun v S'=>∃x y:Nat,v= .tup [.int .i64 (x:Int),.int .i64 (y:Int)]∧(x=a∧y=b∨x=b∧y=a)∧Piv C S0 S' d r:=by
 refine bP H.f92 (by simp) ?_;simp only[↓aC,aB,rE,↓reduceIte,rA];refine bE ?_;simp only[↓aC,aB,rE,↓reduceIte,rA];refine aA (aS (Q:=fun o A' X=>o= .normal∧aD 1 A'.F= .int .i64 (a:Int)∧aD 2 A'.F= .int .i64 (b:Int)∧Piv C S0 X d r∨o= .ret∧aD 10 A'.F= .int .i64 (b:Int)∧aD 11 A'.F= .int .i64 (a:Int)∧Piv C S0 X d r) (aA (cR (fun _=>False) ?_)) ?_)
 ·intro X1 x1;have on:=h.on;simp only[↓sU,sD,rE,↓reduceIte,rA,aE,C.ia ha,C.ia hb,on.1.ld ha,on.1.ld hb,on.1.self ha,on.1.self hb,Ctx.old on.1 ha,Ctx.old on.1 hb];refine bX rfl ?_;simp only[↓sU,sD,rE,↓reduceIte,rA];refine aP ((on.step x1).cmp hb ha) ?_;rintro _ Y ⟨hY,z,rfl,hz⟩;refine⟨hY,?_⟩;simp only[↓sU,sD,rE,↓reduceIte,rA];have hSY:=x1.trans hY;have pv:Piv C S0 Y d r:=⟨on.step hSY,h.hI,h.hr,h.hb,h.cnt.same hSY⟩;by_cases hlt:z<0
  ·refine aM (by simp only[↓aC,aB,rE,↓reduceIte,Ab hlt]) ?_;obtain⟨c1,x,c2⟩:=pv.cnt;have l0:dT (.ptr r 0) false 1 Y.h=some (.int .i64 x):=fN c2 rfl;refine bE ?_;simp only[↓aC,aB,rE,↓reduceIte,bF,bO,bG,l0];refine fD (v:=.undef) (S1:=⟨Y.h.set r (some (.cells [.int .i64 (IntKind.i64.wrap (x+1))] false 0)),Y.nx⟩) (fun call=>by rw[eJ];simp only[↓aC,aB,rE,↓reduceIte,cI];exact stc (cs:=[.int .i64 x]) c2 (by simp)) ?_;try simp only[↓aC,aB,rE,↓reduceIte]
   refine bE ?_;try simp only[↓aC,aB,rE,↓reduceIte]
   refine aO ?_;refine .inr ⟨rfl,by simp only[↓aC,aB,rE,↓reduceIte],by simp only[↓aC,aB,rE,↓reduceIte],Ctx.On.other pv.hI pv.on ((bQ.refl r Y).put _) pv.hr pv.hb,pv.hI,pv.hr,pv.hb,c1,IntKind.i64.wrap (x+1),?_⟩;simp only;rw[T.get_set,if_pos rfl]
  ·refine aK (by simp only[↓aC,aB,rE,↓reduceIte,Aa hlt]) (aI ?_);exact .inl ⟨rfl,by simp only[↓aC,aB,rE,↓reduceIte],by simp only[↓aC,aB,rE,↓reduceIte],pv⟩
 ·rintro o ⟨F,inr⟩ X (⟨rfl,p1,p2,pv⟩ | ⟨rfl,p1,p2,pv⟩)
  ·simp only at p1 p2;try simp only[↓aC,aB,rE,↓reduceIte]
   refine bE ?_;simp only[↓aC,aB,rE,↓reduceIte,p1,p2];refine aO ?_;try simp only[↓aC,aB,rE,↓reduceIte]
   exact⟨a,b,rfl,.inl ⟨rfl,rfl⟩,pv⟩
  ·simp only at p1 p2;simp only[↓aC,aB,rE,↓reduceIte,p1,p2];exact⟨b,a,rfl,.inr ⟨rfl,rfl⟩,pv⟩
theorem nP(x y:AV):gL (.tup [x,y]) 0=some x:=rfl
theorem nT(x y:AV):gL (.tup [x,y]) 1=some y:=rfl
theorem aAz{C:Ctx fns false 1}{S S0:St}{d:Array AV}{r a b c:Nat}(H:Has fns)(h:Piv C S0 S d r)(ha:a<C.n)(hb:b<C.n)(hc:c<C.n):fA fns (.fn 84 [] []) [C.v,.int .i64 (a:Int),.int .i64 (b:Int),.int .i64 (c:Int),.ptr r 0,C.f] S fun v S'=>∃x:Nat,v= .int .i64 (x:Int)∧(x=a∨x=b∨x=c)∧Piv C S0 S' d r:=by
 refine bP H.f84 (by simp) ?_;simp only[↓aC,aB,rE,↓reduceIte,rA];refine bE ?_;simp only[↓aC,aB,rE,↓reduceIte,rA];refine bE ?_;try simp only[↓aC,aB,rE,↓reduceIte]
 refine aY ?_;try simp only[↓aC,aB,rE,↓reduceIte]
 refine aP (sQ H h ha hb) ?_;rintro _ X ⟨a1,b1,rfl,h1,pX⟩;simp only[↓aC,aB,rE,↓reduceIte,nP,nT];refine bE ?_;try simp only[↓aC,aB,rE,↓reduceIte]
 refine aY ?_;try simp only[↓aC,aB,rE,↓reduceIte]
 refine aP (sQ H pX (by omega) hc) ?_;rintro _ Y ⟨b2,c2,rfl,h2,pY⟩;simp only[↓aC,aB,rE,↓reduceIte,nP,nT];refine bE ?_;try simp only[↓aC,aB,rE,↓reduceIte]
 refine aY ?_;try simp only[↓aC,aB,rE,↓reduceIte]
 refine aP (sQ H pY (a:=a1) (b:=b2) (by omega) (by omega)) ?_;rintro _ Z ⟨a3,b3,rfl,h3,pZ⟩;simp only[↓aC,aB,rE,↓reduceIte,nP,nT];refine bE ?_;try simp only[↓aC,aB,rE,↓reduceIte]
 refine aO ?_;try simp only[↓aC,aB,rE,↓reduceIte]
 exact⟨b3,rfl,by omega,pZ⟩
theorem nJ{C:Ctx fns false 1}{S S0:St}{d:Array AV}{r a:Nat}(H:Has fns)(h:Piv C S0 S d r)(ha:1≤a)(hb:a+1<C.n):fA fns (.fn 83 [] []) [C.v,.int .i64 (a:Int),.ptr r 0,C.f] S fun v S'=>∃x:Nat,v= .int .i64 (x:Int)∧a≤x+1∧x≤a+1∧Piv C S0 S' d r:=by
 have hn:=C.hn;refine bP H.f83 (by simp) ?_;simp only[↓aC,aB,rE,↓reduceIte,rA];refine bE ?_;simp only[↓aC,aB,rE,↓reduceIte,rA];refine bE ?_;simp only[↓aC,aB,rE,↓reduceIte,iP (show a+1≤9223372036854775807 by omega),iT ha (show a≤9223372036854775807 by omega)];refine aY ?_;try simp only[↓aC,aB,rE,↓reduceIte]
 refine aP (aAz H h (a:=a - 1) (b:=a) (c:=a+1) (by omega) (by omega) hb) ?_;rintro _ X ⟨x,rfl,hx,pX⟩;try simp only[↓aC,aB,rE,↓reduceIte]
 refine aO ?_;try simp only[↓aC,aB,rE,↓reduceIte]
 exact⟨x,rfl,by omega,by omega,pX⟩
theorem aF7{C:Ctx fns false 1}{S S0:St}{d:Array AV}{a b:Nat}(H:Has fns)(on0:C.On S0 S d)(hab:12<b - a)(hb:b≤C.n):fA fns (.fn 69 [] []) [C.v,.int .i64 (a:Int),.int .i64 (b:Int),C.f] S fun v S'=>∃x:Nat,∃h:Int,v= .tup [.int .i64 (x:Int),.int .i64 h]∧a≤x∧x<b∧C.On S0 S' d:=by
 have hn:=C.hn;refine aP (Q:=fun v S'=>∃x:Nat,∃h:Int,v= .tup [.int .i64 (x:Int),.int .i64 h]∧a≤x∧x<b∧C.On S S' d) ?_ fun v S' h=>by
  obtain⟨x,h,h1,h2,h3,h4⟩:=h;exact⟨x,h,h1,h2,h3,on0.trans h4⟩
 refine bP H.f69 (by simp) ?_;simp only[↓aC,aB,rE,↓reduceIte,rA];refine bE ?_;simp only[↓aC,aB,rE,↓reduceIte,rA];refine bE ?_;simp only[↓aC,aB,rE,↓reduceIte,rA,zO (show a≤b by omega) (show b≤9223372036854775807 by omega)];refine aA (aF (dO ?_));intro S1 s1 n1 g1;have pv:Piv C S S1 d S.nx:=⟨on0.start.step s1,on0.2.1,Ah _,fun hn=>(on0.1.2.2 hn).1,by omega,0,g1⟩;obtain⟨q,hq⟩:∃q,q=(b - a) / 4:=⟨_,rfl⟩;have hd:gO .quo (.p .int) (.int .i64 ((b - a:Nat):Int)) (.int .i64 4)=some (.int .i64 (q:Int)):=by
  rw[hq];exact aKT (n:=4) (by omega) (by omega)
 have m1:IntKind.i64.wrap ((q:Int) * 1)=(q:Int):=by rw[Int.mul_one,wrap_i64 (by omega) (by omega)]
 have m2:IntKind.i64.wrap ((q:Int) * 2)=((q * 2:Nat):Int):=aMK (b:=2) (by omega);have m3:IntKind.i64.wrap ((q:Int) * 3)=((q * 3:Nat):Int):=aMK (b:=3) (by omega);try simp only[↓aC,aB,rE,↓reduceIte]
 refine bE ?_;simp only[↓aC,aB,rE,↓reduceIte,hd,m1,zL (a:=a) (b:=q) (by omega)];refine bE ?_;simp only[↓aC,aB,rE,↓reduceIte,hd,m2,zL (a:=a) (b:=q * 2) (by omega)];refine bE ?_;simp only[↓aC,aB,rE,↓reduceIte,hd,m3,zL (a:=a) (b:=q * 3) (by omega)];refine aA (aS (Q:=fun o A' X=>o= .normal∧∃x:Nat,a≤x∧x<b∧aD 13 A'.F= .int .i64 (x:Int)∧aD 11 A'.F= .ptr S.nx 0∧Piv C S X d S.nx) (aA (aF ?_)) ?_)
 ·simp only[↓aC,aB,rE,↓reduceIte];refine aM (by simp only[↓aC,aB,rE,↓reduceIte,Ab (show(8:Int)≤((b - a:Nat):Int) by omega)]) ?_;refine aA (aS (Q:=fun o A' X=>o= .normal∧(∃x y z:Nat,a≤x∧x<b∧a≤y∧y<b∧a≤z∧z<b∧aD 12 A'.F= .int .i64 (x:Int)∧aD 13 A'.F= .int .i64 (y:Int)∧aD 14 A'.F= .int .i64 (z:Int))∧aD 0 A'.F=C.v∧aD 3 A'.F=C.f∧aD 11 A'.F= .ptr S.nx 0∧Piv C S X d S.nx) (aA (aF ?_)) ?_)
  ·simp only[↓aC,aB,rE,↓reduceIte];by_cases h50:50≤b - a;rotate_left
   ·refine aK (by simp only[↓aC,aB,rE,↓reduceIte,Aa (show ¬ (50:Int)≤((b - a:Nat):Int) by omega)]) (aI ?_);exact⟨rfl,⟨a+q,a+q * 2,a+q * 3,by omega,by omega,by omega,by omega,by omega,by omega,by refine⟨?_,?_,?_⟩<;>simp only[↓aC,aB,rE,↓reduceIte]⟩,by simp only[↓aC,aB,rE,↓reduceIte],by simp only[↓aC,aB,rE,↓reduceIte],by simp only[↓aC,aB,rE,↓reduceIte],pv⟩
   refine aM (by simp only[↓aC,aB,rE,↓reduceIte,Ab (show(50:Int)≤((b - a:Nat):Int) by omega)]) ?_;refine bE ?_;try simp only[↓aC,aB,rE,↓reduceIte]
   refine aY ?_;try simp only[↓aC,aB,rE,↓reduceIte]
   refine aP (nJ H pv (a:=a+q) (by omega) (by omega)) ?_;rintro _ X ⟨x,rfl,hx1,hx2,pX⟩;try simp only[↓aC,aB,rE,↓reduceIte]
   refine bE ?_;try simp only[↓aC,aB,rE,↓reduceIte]
   refine aY ?_;try simp only[↓aC,aB,rE,↓reduceIte]
   refine aP (nJ H pX (a:=a+q * 2) (by omega) (by omega)) ?_;rintro _ Y ⟨y,rfl,hy1,hy2,pY⟩;try simp only[↓aC,aB,rE,↓reduceIte]
   refine aF ?_;try simp only[↓aC,aB,rE,↓reduceIte]
   refine aY ?_;try simp only[↓aC,aB,rE,↓reduceIte]
   refine aP (nJ H pY (a:=a+q * 3) (by omega) (by omega)) ?_;rintro _ Z ⟨z,rfl,hz1,hz2,pZ⟩;try simp only[↓aC,aB,rE,↓reduceIte]
   exact⟨⟨x,y,z,by omega,by omega,by omega,by omega,by omega,by omega,rfl,rfl,rfl⟩,pZ⟩
  rintro o ⟨F,inr⟩ X ⟨rfl,⟨x,y,z,hx,hx2,hy,hy2,hz,hz2,p12,p13,p14⟩,p0,p3,p11,pX⟩;simp only at p12 p13 p14 p0 p3 p11;try simp only[↓aC,aB,rE,↓reduceIte]
  refine aF ?_;simp only[↓aC,aB,rE,↓reduceIte,p0,p3,p11,p12,p13,p14];refine aY ?_;simp only[↓aC,aB,rE,↓reduceIte,p0,p3,p11,p12,p13,p14];refine aP (aAz H pX (a:=x) (b:=y) (c:=z) (by omega) (by omega) (by omega)) ?_;rintro _ Y ⟨w,rfl,hw,pY⟩;try simp only[↓aC,aB,rE,↓reduceIte]
  exact⟨w,by omega,by omega,rfl,pY⟩
 rintro o ⟨F,inr⟩ X ⟨rfl,x,hx,hx2,p13,p11,pX⟩;simp only at p13 p11;obtain⟨c1,w,c2⟩:=pX.cnt;have l0:dT (.ptr S.nx 0) false 1 X.h=some (.int .i64 w):=fN c2 rfl;try simp only[↓aC,aB,rE,↓reduceIte]
 refine bE ?_;simp only[↓aC,aB,rE,↓reduceIte,p11,l0];refine aJ (aA (aF ?_));try simp only[↓aC,aB,rE,↓reduceIte]
 by_cases h0:w=0
 ·refine aM (by simp only[↓aC,aB,rE,↓reduceIte,Ab h0]) (aA (aF ?_));simp only[↓aC,aB,rE,↓reduceIte,p13];refine aO ?_;try simp only[↓aC,aB,rE,↓reduceIte]
  exact⟨x,1,rfl,hx,hx2,pX.on⟩
 refine aK (by simp only[↓aC,aB,rE,↓reduceIte,Aa h0]) (aA (aF ?_));try simp only[↓aC,aB,rE,↓reduceIte]
 by_cases h12:w=12
 ·refine aM (by simp only[↓aC,aB,rE,↓reduceIte,Ab h12]) (aA (aF ?_));simp only[↓aC,aB,rE,↓reduceIte,p13];refine aO ?_;try simp only[↓aC,aB,rE,↓reduceIte]
  exact⟨x,2,rfl,hx,hx2,pX.on⟩
 refine aK (by simp only[↓aC,aB,rE,↓reduceIte,Aa h12]) (aA (aF ?_));simp only[↓aC,aB,rE,↓reduceIte,p13];refine aO ?_;try simp only[↓aC,aB,rE,↓reduceIte]
 exact⟨x,0,rfl,hx,hx2,pX.on⟩
end Go.Ev.Gl
namespace Go.Ev.Gl
open Go.Sort
variable {fns:T dE}
structure PdI{agg:Bool}{k:Nat}(C:Ctx fns agg k)(S0:St)(a b:Nat)(d:Array AV)(a' b':Nat)(e:Array AV)(X:St):Prop where
 on:C.On S0 X e
 hB:Sort.Below C.lt a' b' e
 fin:∀R,PermIn a' b' e R→SortedIn C.lt a' b' R→PermIn a b d R∧SortedIn C.lt a b R
theorem PdI.perm{agg:Bool}{k:Nat}{C:Ctx fns agg k}{S0 X Y:St}{a b a' b':Nat}{d e e':Array AV}(h:PdI C S0 a b d a' b' e X)(hb:b'≤C.n)(on:C.On S0 Y e')(p:PermIn a' b' e e'):PdI C S0 a b d a' b' e' Y:=
 ⟨on,h.hB.perm (by rw[h.on.sz];exact hb) p,fun R h1 h2=>h.fin R (permIn_trans _ _ _ _ _ p h1) h2⟩
theorem PdI.step{agg:Bool}{k:Nat}{C:Ctx fns agg k}{S0 X Y:St}{a b a' b':Nat}{d e:Array AV}(h:PdI C S0 a b d a' b' e X)(hs:Same X Y):PdI C S0 a b d a' b' e Y:=⟨h.on.step hs,h.hB,h.fin⟩
def PdT{agg:Bool}{k:Nat}(C:Ctx fns agg k)(a b L:Nat)(wb wp:Bool)(A:bH):Prop:=A.inr=false∧aD 0 A.F=C.v∧aD 1 A.F= .int .i64 (a:Int)∧aD 2 A.F= .int .i64 (b:Int)∧aD 3 A.F= .int .i64 (L:Int)∧aD 4 A.F=C.f∧aD 10 A.F= .bool wb∧aD 11 A.F= .bool wp
theorem aJw{C:Ctx fns false 1}(H:Has fns)(hS:SWO C.lt):∀ (N:Nat) {S S0:St} {d:Array AV} {a b L:Nat},b - a<N→C.On S0 S d→a≤b→b≤C.n→L≤1000000000→Sort.Below C.lt a b d→fA fns (.fn 59 [] []) [C.v,.int .i64 (a:Int),.int .i64 (b:Int),.int .i64 (L:Int),C.f] S fun _ S'=>∃e,C.On S0 S' e∧PermIn a b d e∧SortedIn C.lt a b e:=by
 intro N
 induction N with
 | zero=>
 intro S S0 d a b L hN;omega
 | succ N ih=>
 intro S S0 d a b L hN on hab hb hL hB;have hn:=C.hn;refine bP H.f59 (by simp) ?_;simp only[↓aC,aB,rE,↓reduceIte,rA];refine bE ?_;simp only[↓aC,aB,rE,↓reduceIte,rA];refine bE ?_;simp only[↓aC,aB,rE,↓reduceIte,rA];refine aS (Q:=fun o A' X=>o= .ret∧∃e,C.On S0 X e∧PermIn a b d e∧SortedIn C.lt a b e) (aJ (bB (fun k A' X=>∃a' b' L' wb wp e,k=b' - a'∧a'≤b'∧b'≤C.n∧b' - a'≤b - a∧L'≤1000000000∧PdT C a' b' L' wb wp A'∧PdI C S0 a b d a' b' e X) ?_ _ _ _ ⟨a,b,L,true,true,d,rfl,hab,hb,Ah _,hL,⟨rfl,by refine⟨?_,?_,?_,?_,?_,?_,?_⟩<;>simp only[↓aC,aB,rE,↓reduceIte]⟩,on,hB,fun R h1 h2=>⟨h1,h2⟩⟩)) ?_;rotate_left
 ·rintro o A X ⟨rfl,h⟩;exact⟨_,rfl,h⟩
 clear on hB;rintro k ⟨F,inr⟩ X ⟨a',b',L',wb,wp,e,hk,hab',hb',hle,hL',⟨q0,p0,p1,p2,p3,p4,p10,p11⟩,inv⟩;simp only at q0 p0 p1 p2 p3 p4 p10 p11;subst q0;refine aJ (aA (aF ?_));simp only[↓aC,aB,rE,↓reduceIte,p1,p2,zO hab' (show b'≤9223372036854775807 by omega)];refine eG ?_;simp only[↓aC,aB,rE,↓reduceIte];by_cases h12:b' - a'≤12
 ·refine aM (by simp only[↓aC,aB,rE,↓reduceIte,Ab (show((b' - a':Nat):Int)≤12 by omega)]) (aA (aF ?_));simp only[↓aC,aB,rE,↓reduceIte,p0,p1,p2,p4];refine aY ?_;simp only[↓aC,aB,rE,↓reduceIte,p0,p1,p2,p4];refine aP (aBp H inv.on hab' hb') ?_;intro r Z onZ;try simp only[↓aC,aB,rE,↓reduceIte]
  refine aO ?_;try simp only[↓aC,aB,rE,↓reduceIte]
  obtain⟨h1,h2⟩:=insertionSort_holds hS e a' b' hab' (by rw[inv.on.sz];exact hb');exact⟨_,onZ,inv.fin _ h1 h2⟩
 refine aK (by simp only[↓aC,aB,rE,↓reduceIte,Aa (show ¬ ((b' - a':Nat):Int)≤12 by omega)]) (aI ?_);try simp only[↓aC,aB,rE,↓reduceIte]
 refine eG ?_;simp only[↓aC,aB,rE,↓reduceIte,p3];by_cases h0:L'=0
 ·subst h0;refine aM (by simp only[↓aC,aB,rE,↓reduceIte];rfl) (aA (aF ?_));simp only[↓aC,aB,rE,↓reduceIte,p0,p1,p2,p4];refine aY ?_;simp only[↓aC,aB,rE,↓reduceIte,p0,p1,p2,p4];refine aP (aIr H inv.on (by omega) hb') ?_;intro r Z onZ;try simp only[↓aC,aB,rE,↓reduceIte]
  refine aO ?_;try simp only[↓aC,aB,rE,↓reduceIte]
  obtain⟨h1,h2⟩:=heapSort_holds hS e a' b' hab' (by rw[inv.on.sz];exact hb');exact⟨_,onZ,inv.fin _ h1 h2⟩
 refine aK (by simp only[↓aC,aB,rE,↓reduceIte,Aa (show ¬ (L':Int)=0 by omega)]) (aI ?_);try simp only[↓aC,aB,rE,↓reduceIte]
 refine aA (aS (Q:=fun o A' X=>o= .normal∧∃L' e,L'≤1000000000∧PdT C a' b' L' wb wp A'∧aD 12 A'.F= .int .i64 ((b' - a':Nat):Int)∧PdI C S0 a b d a' b' e X) (aA (aF ?_)) ?_)
 ·simp only[↓aC,aB,rE,↓reduceIte,p10,dH];cases wb with
  | true=>
   refine aK (by simp only[↓aC,aB,rE,↓reduceIte,Bl]) (aI ?_);exact⟨rfl,L',e,hL',⟨rfl,by refine⟨?_,?_,?_,?_,?_,?_,?_⟩<;>simp only[↓aC,aB,rE,↓reduceIte,p0,p1,p2,p3,p4,p10,p11]⟩,by simp only[↓aC,aB,rE,↓reduceIte],inv⟩
  | false=>
   refine aM (by simp only[↓aC,aB,rE,↓reduceIte,Bq]) (aA (aF ?_));simp only[↓aC,aB,rE,↓reduceIte,p0,p1,p2,p4];refine aY ?_;simp only[↓aC,aB,rE,↓reduceIte,p0,p1,p2,p4];refine aP (aGV H inv.on hab' hb') ?_;rintro r Z ⟨e1,onZ,pm⟩;try simp only[↓aC,aB,rE,↓reduceIte]
   refine aF ?_;simp only[↓aC,aB,rE,↓reduceIte,p3,iT (show 1≤L' by omega) (show L'≤9223372036854775807 by omega)];exact⟨L' - 1,e1,by omega,⟨rfl,by refine⟨?_,?_,?_,?_,?_,?_,?_⟩<;>simp only[↓aC,aB,rE,↓reduceIte,p0,p1,p2,p4,p10,p11]⟩,inv.perm hb' onZ pm⟩
 clear p0 p1 p2 p3 p4 p10 p11 inv hL' h0 L' e;rintro o ⟨F,inr⟩ X ⟨rfl,L',e,hL',⟨q0,p0,p1,p2,p3,p4,p10,p11⟩,p12,inv⟩;simp only at q0 p0 p1 p2 p3 p4 p10 p11 p12;subst q0;try simp only[↓aC,aB,rE,↓reduceIte]
 refine bE ?_;simp only[↓aC,aB,rE,↓reduceIte,p0,p1,p2,p4];refine aY ?_;simp only[↓aC,aB,rE,↓reduceIte,p0,p1,p2,p4];refine aP (aF7 H inv.on (by omega) hb') ?_;rintro _ Y ⟨pv,hint,rfl,hpv1,hpv2,onY⟩
 replace inv:=inv.perm hb' onY (permIn_refl _ _ _)
 simp only[↓aC,aB,rE,↓reduceIte,nP,nT];refine aA (aS (Q:=fun o A' X=>o= .normal∧∃pv hint e,a'≤pv∧pv<b'∧PdT C a' b' L' wb wp A'∧aD 12 A'.F= .int .i64 ((b' - a':Nat):Int)∧aD 13 A'.F= .int .i64 (pv:Nat)∧aD 14 A'.F= .int .i64 hint∧PdI C S0 a b d a' b' e X) (aA (aF ?_)) ?_)
 ·simp only[↓aC,aB,rE,↓reduceIte];by_cases h2:hint=2;rotate_left
  ·refine aK (by simp only[↓aC,aB,rE,↓reduceIte,Aa h2]) (aI ?_);exact⟨rfl,pv,hint,e,hpv1,hpv2,⟨rfl,by refine⟨?_,?_,?_,?_,?_,?_,?_⟩<;>simp only[↓aC,aB,rE,↓reduceIte,p0,p1,p2,p3,p4,p10,p11]⟩,by simp only[↓aC,aB,rE,↓reduceIte,p12],by simp only[↓aC,aB,rE,↓reduceIte],by simp only[↓aC,aB,rE,↓reduceIte],inv⟩
  refine aM (by simp only[↓aC,aB,rE,↓reduceIte,Ab h2]) (aA (aF ?_));simp only[↓aC,aB,rE,↓reduceIte,p0,p1,p2,p4];refine aY ?_;simp only[↓aC,aB,rE,↓reduceIte,p0,p1,p2,p4];refine aP (aEa H inv.on (by omega) hb') ?_;intro r Z onZ;have pm:=reverseRange_holds e a' b' hab' (by rw[inv.on.sz];exact hb');try simp only[↓aC,aB,rE,↓reduceIte]
  refine bE ?_;simp only[↓aC,aB,rE,↓reduceIte,p1,p2,iT (show 1≤b' by omega) (show b'≤9223372036854775807 by omega),zO hpv1 (show pv≤9223372036854775807 by omega),zO (a:=b' - 1) (b:=pv - a') (by omega) (by omega)];refine aF ?_;simp only[↓aC,aB,rE,↓reduceIte];exact⟨b' - 1 - (pv - a'),1,_,by omega,by omega,⟨rfl,by refine⟨?_,?_,?_,?_,?_,?_,?_⟩<;>simp only[↓aC,aB,rE,↓reduceIte,p0,p1,p2,p3,p4,p10,p11]⟩,p12,rfl,rfl,inv.perm hb' onZ pm⟩
 clear p0 p1 p2 p3 p4 p10 p11 p12 inv onY hpv1 hpv2 pv hint e;rintro o ⟨F,inr⟩ X ⟨rfl,pv,hint,e,hpv1,hpv2,⟨q0,p0,p1,p2,p3,p4,p10,p11⟩,p12,p13,p14,inv⟩;simp only at q0 p0 p1 p2 p3 p4 p10 p11 p12 p13 p14;subst q0;try simp only[↓aC,aB,rE,↓reduceIte]
 refine aA (aS (Q:=fun o A' X=>o= .ret∧(∃e,C.On S0 X e∧PermIn a b d e∧SortedIn C.lt a b e)∨o= .normal∧∃e,PdT C a' b' L' wb wp A'∧aD 12 A'.F= .int .i64 ((b' - a':Nat):Int)∧aD 13 A'.F= .int .i64 (pv:Nat)∧PdI C S0 a b d a' b' e X) (aA (aF ?_)) ?_)
 ·by_cases hc:wb=true∧wp=true∧hint=1
  ·obtain⟨rfl,rfl,rfl⟩:=hc;simp only[↓aC,aB,rE,↓reduceIte,p10,p11,p14];refine aM (by simp only[↓aC,aB,rE,↓reduceIte];rfl) (aA (aF ?_));simp only[↓aC,aB,rE,↓reduceIte,p0,p1,p2,p4];refine aY ?_;simp only[↓aC,aB,rE,↓reduceIte,p0,p1,p2,p4];refine aP (aDV H inv.on (by omega) hb') ?_;rintro _ Z ⟨rfl,onZ⟩;obtain⟨h1,h2⟩:=partialInsertionSort_holds hS e a' b' (by omega) (by rw[inv.on.sz];exact hb') inv.hB;try simp only[↓aC,aB,rE,↓reduceIte]
   cases hr:(partialInsertionSort C.lt e a' b').2 with
   | true=>
    refine aM (by simp only[↓aC,aB,rE,↓reduceIte]) (aO ?_);exact .inl ⟨rfl,_,onZ,inv.fin _ h1 (h2 hr)⟩
   | false=>
    refine aK (by simp only[↓aC,aB,rE,↓reduceIte]) (aI ?_);exact .inr ⟨rfl,_,⟨rfl,by refine⟨?_,?_,?_,?_,?_,?_,?_⟩<;>simp only[↓aC,aB,rE,↓reduceIte,p0,p1,p2,p3,p4,p10,p11]⟩,by simp only[↓aC,aB,rE,↓reduceIte,p12],by simp only[↓aC,aB,rE,↓reduceIte,p13],inv.perm hb' onZ h1⟩
  ·cases wb with
   | false=>
    simp only[↓aC,aB,rE,↓reduceIte,p10,p11,p14];refine aK (by simp only[↓aC,aB,rE,↓reduceIte]) (aI ?_);exact .inr ⟨rfl,e,⟨rfl,by refine⟨?_,?_,?_,?_,?_,?_,?_⟩<;>simp only[↓aC,aB,rE,↓reduceIte,p0,p1,p2,p3,p4,p10,p11]⟩,by simp only[↓aC,aB,rE,↓reduceIte,p12],by simp only[↓aC,aB,rE,↓reduceIte,p13],inv⟩
   | true=>
   cases wp with
   | false=>
    simp only[↓aC,aB,rE,↓reduceIte,p10,p11,p14];refine aK (by simp only[↓aC,aB,rE,↓reduceIte]) (aI ?_);exact .inr ⟨rfl,e,⟨rfl,by refine⟨?_,?_,?_,?_,?_,?_,?_⟩<;>simp only[↓aC,aB,rE,↓reduceIte,p0,p1,p2,p3,p4,p10,p11]⟩,by simp only[↓aC,aB,rE,↓reduceIte,p12],by simp only[↓aC,aB,rE,↓reduceIte,p13],inv⟩
   | true=>
    have hh:¬hint=1:=fun h=>hc ⟨rfl,rfl,h⟩;simp only[↓aC,aB,rE,↓reduceIte,p10,p11,p14,Aa hh];refine aK (by simp only[↓aC,aB,rE,↓reduceIte]) (aI ?_);exact .inr ⟨rfl,e,⟨rfl,by refine⟨?_,?_,?_,?_,?_,?_,?_⟩<;>simp only[↓aC,aB,rE,↓reduceIte,p0,p1,p2,p3,p4,p10,p11]⟩,by simp only[↓aC,aB,rE,↓reduceIte,p12],by simp only[↓aC,aB,rE,↓reduceIte,p13],inv⟩
 clear p0 p1 p2 p3 p4 p10 p11 p12 p13 p14 inv hint e;rintro o ⟨F,inr⟩ X (⟨rfl,h⟩ | ⟨rfl,e,⟨q0,p0,p1,p2,p3,p4,p10,p11⟩,p12,p13,inv⟩)
 ·try simp only[↓aC,aB,rE,↓reduceIte]
  exact h
 simp only at q0 p0 p1 p2 p3 p4 p10 p11 p12 p13;subst q0;try simp only[↓aC,aB,rE,↓reduceIte]
 have ip:pv<C.n:=by omega
 refine aA (aS (Q:=fun o A' X=>o= .normal∧PdT C a' b' L' wb wp A'∧aD 12 A'.F= .int .i64 ((b' - a':Nat):Int)∧aD 13 A'.F= .int .i64 (pv:Nat)∧PdI C S0 a b d a' b' e X∨o= .exit 1∧∃a2 e,a'<a2∧a2≤b'∧PdT C a2 b' L' wb wp A'∧PdI C S0 a b d a2 b' e X) (aA (cR (fun _=>False) ?_)) ?_)
 ·intro X1 x1;by_cases ha0:0<a';rotate_left
  ·simp only[↓sU,sD,rE,↓reduceIte,rA,p1,Aa (show ¬ (0:Int)<(a':Int) by omega)];refine aK (by simp only[↓aC,aB,rE,↓reduceIte]) (aI ?_);exact .inl ⟨rfl,⟨rfl,by refine⟨?_,?_,?_,?_,?_,?_,?_⟩<;>simp only[↓aC,aB,rE,↓reduceIte,p0,p1,p2,p3,p4,p10,p11]⟩,by simp only[↓aC,aB,rE,↓reduceIte,p12],by simp only[↓aC,aB,rE,↓reduceIte,p13],inv.step x1⟩
  have on:=inv.on;have i1:a' - 1<C.n:=by omega
  simp only[↓sU,sD,rE,↓reduceIte,rA,p0,p1,p4,p13,Ab (show(0:Int)<(a':Int) by omega),iT (show 1≤a' by omega) (show a'≤9223372036854775807 by omega),aE,C.ia i1,C.ia ip,on.1.ld i1,on.1.ld ip,on.1.self i1,on.1.self ip,Ctx.old on.1 i1,Ctx.old on.1 ip];refine bX rfl ?_;simp only[↓sU,sD,rE,↓reduceIte,rA,p4];refine aP ((on.step x1).cmp i1 ip) ?_;rintro _ Y ⟨hY,z,rfl,hz⟩;refine⟨hY,?_⟩;simp only[↓sU,sD,rE,↓reduceIte,rA,hz,dH];have invY:=inv.step (x1.trans hY);cases hl:C.lt e[a' - 1]! e[pv]! with
  | true=>
   refine aK (by simp only[↓aC,aB,rE,↓reduceIte,Bl]) (aI ?_);exact .inl ⟨rfl,⟨rfl,by refine⟨?_,?_,?_,?_,?_,?_,?_⟩<;>simp only[↓aC,aB,rE,↓reduceIte,p0,p1,p2,p3,p4,p10,p11]⟩,by simp only[↓aC,aB,rE,↓reduceIte,p12],by simp only[↓aC,aB,rE,↓reduceIte,p13],invY⟩
  | false=>
   obtain⟨r1,r2,r3,r4,r5⟩:=round_eq hS (partitionEqual_holds C.lt) (d3:=e) (d4:=(partitionEqual C.lt e a' b' pv).2) (mid:=(partitionEqual C.lt e a' b' pv).1) ha0 hpv1 hpv2 (by rw[on.sz];exact hb') inv.hB hl rfl;refine aM (by simp only[↓aC,aB,rE,↓reduceIte,Bq]) (aA (aF ?_));simp only[↓aC,aB,rE,↓reduceIte,p0,p1,p2,p4,p13];refine aY ?_;simp only[↓aC,aB,rE,↓reduceIte,p0,p1,p2,p4,p13];refine aP (aFQ H invY.on hpv1 hpv2 hb') ?_;rintro _ Z ⟨rfl,onZ⟩;try simp only[↓aC,aB,rE,↓reduceIte]
   refine bE ?_;simp only[↓aC,aB,rE,↓reduceIte];refine aU ?_;refine .inr ⟨rfl,_,_,r1,r2,⟨rfl,by refine⟨?_,?_,?_,?_,?_,?_,?_⟩<;>simp only[↓aC,aB,rE,↓reduceIte,p0,p2,p3,p4,p10,p11]⟩,onZ,r4,fun R h1 h2=>?_⟩;obtain⟨h3,h4⟩:=r5 R h1 h2;exact inv.fin R h3 h4
 clear p0 p1 p2 p3 p4 p10 p11 p12 p13 inv;rintro o ⟨F,inr⟩ X (⟨rfl,⟨q0,p0,p1,p2,p3,p4,p10,p11⟩,p12,p13,inv⟩ | ⟨rfl,a2,e2,hl1,hl2,pt,inv⟩);rotate_left
 ·simp only[↓aC,aB,rE,↓reduceIte];exact⟨b' - a2,by omega,a2,b',L',wb,wp,e2,rfl,by omega,hb',by omega,hL',pt,inv⟩
 simp only at q0 p0 p1 p2 p3 p4 p10 p11 p12 p13;subst q0;try simp only[↓aC,aB,rE,↓reduceIte]
 obtain⟨mid,hmid⟩:∃mid,mid=(Sort.partition C.lt e a' b' pv).1:=⟨_,rfl⟩;obtain⟨ap,hap⟩:∃ap,ap=(Sort.partition C.lt e a' b' pv).2.1:=⟨_,rfl⟩;obtain⟨d4,hd4⟩:∃d4,d4=(Sort.partition C.lt e a' b' pv).2.2:=⟨_,rfl⟩;obtain⟨r1,r2,r3,r4,r5,r6,r7⟩:=round_part hS (partition_holds C.lt) (d3:=e) (d4:=d4) (mid:=mid) (ap:=ap) hpv1 hpv2 (by rw[inv.on.sz];exact hb') inv.hB (by rw[hmid,hap,hd4]);refine bE ?_;simp only[↓aC,aB,rE,↓reduceIte,p0,p1,p2,p4,p13];refine aY ?_;simp only[↓aC,aB,rE,↓reduceIte,p0,p1,p2,p4,p13];refine aP (aIv H inv.on hpv1 hpv2 hb') ?_;rintro _ Z ⟨rfl,onZ⟩;rw[←hmid,←hap];rw[←hd4] at onZ;simp only[↓aC,aB,rE,↓reduceIte,nP,nT];refine bE ?_;simp only[↓aC,aB,rE,↓reduceIte];refine bE ?_;simp only[↓aC,aB,rE,↓reduceIte,p1,p2,zO r1 (show mid≤9223372036854775807 by omega),zO (a:=b') (b:=mid) (by omega) (by omega)];have hq:gO .quo (.p .int) (.int .i64 ((b' - a':Nat):Int)) (.int .i64 8)=some (.int .i64 (((b' - a') / 8:Nat):Int)):=aKT (n:=8) (by omega) (by omega);refine bE ?_;simp only[↓aC,aB,rE,↓reduceIte,p12,hq];refine bE ?_;simp only[↓aC,aB,rE,↓reduceIte,dlt];by_cases hlt:mid - a'<b' - mid
 ·refine aM (by simp only[↓aC,aB,rE,↓reduceIte,Ab hlt]) (aA (aF ?_));simp only[↓aC,aB,rE,↓reduceIte,dle];refine bE ?_;simp only[↓aC,aB,rE,↓reduceIte,p0,p1,p3,p4];refine aY ?_;simp only[↓aC,aB,rE,↓reduceIte,p0,p1,p3,p4];refine aP (ih (by omega) onZ r1 (by omega) hL' r4) ?_;rintro _ W ⟨e5,onW,pm,so⟩;obtain⟨hB5,hfin⟩:=r6 e5 pm so;try simp only[↓aC,aB,rE,↓reduceIte]
  refine aF ?_;simp only[↓aC,aB,rE,↓reduceIte,iP (show mid+1≤9223372036854775807 by omega)];refine⟨b' - (mid+1),by omega,mid+1,b',L',decide ((b' - a') / 8≤mid - a'),ap,e5,rfl,by omega,hb',by omega,hL',⟨rfl,by refine⟨?_,?_,?_,?_,?_,?_,?_⟩<;>simp only[↓aC,aB,rE,↓reduceIte,p0,p2,p3,p4]⟩,onW,hB5,fun R h1 h2=>?_⟩;obtain⟨h3,h4⟩:=hfin R h1 h2;exact inv.fin R h3 h4
 ·refine aK (by simp only[↓aC,aB,rE,↓reduceIte,Aa hlt]) (aA (aF ?_));simp only[↓aC,aB,rE,↓reduceIte,dle];refine bE ?_;simp only[↓aC,aB,rE,↓reduceIte,p0,p2,p3,p4,iP (show mid+1≤9223372036854775807 by omega)];refine aY ?_;simp only[↓aC,aB,rE,↓reduceIte,p0,p2,p3,p4];refine aP (ih (a:=mid+1) (b:=b') (by omega) onZ (by omega) hb' hL' r5) ?_;rintro _ W ⟨e5,onW,pm,so⟩;obtain⟨hB5,hfin⟩:=r7 e5 pm so;try simp only[↓aC,aB,rE,↓reduceIte]
  refine aF ?_;simp only[↓aC,aB,rE,↓reduceIte];refine⟨mid - a',by omega,a',mid,L',decide ((b' - a') / 8≤b' - mid),ap,e5,rfl,by omega,by omega,by omega,hL',⟨rfl,by refine⟨?_,?_,?_,?_,?_,?_,?_⟩<;>simp only[↓aC,aB,rE,↓reduceIte,p0,p1,p3,p4]⟩,onW,hB5,fun R h1 h2=>?_⟩;obtain⟨h3,h4⟩:=hfin R h1 h2;exact inv.fin R h3 h4
theorem aCO{C:Ctx fns false 1}{S:St}{d:Array AV}(H:Has fns)(hS:SWO C.lt)(h:C.At S d)(hI:C.I S)(hl:gW C.v=some (.int .i64 (C.n:Int))):fA fns (.fn 40 [] []) [C.v,C.f] S fun _ S'=>∃e,C.On S S' e∧PermIn 0 C.n d e∧SortedIn C.lt 0 C.n e:=by
 have hn:=C.hn;have hb:bitsLen C.n≤30:=(bitsLen_le_iff C.n 30).2 (by omega);refine bP H.f40 (by simp) ?_;simp only[↓aC,aB,rE,↓reduceIte,rA];refine bE ?_;simp only[↓aC,aB,rE,↓reduceIte,hl];refine aF ?_;simp only[↓aC,aB,rE,↓reduceIte,wrap_u64 (n:=(C.n:Int)) (by omega) (by omega)];refine aY ?_;simp only[↓aC,aB,rE,↓reduceIte];refine aP (aEI H (by omega)) ?_;rintro _ _ ⟨rfl,rfl⟩;try simp only[↓aC,aB,rE,↓reduceIte]
 refine aY ?_;simp only[↓aC,aB,rE,↓reduceIte];refine aP (aJw (a:=0) (b:=C.n) (L:=bitsLen C.n) H hS (C.n - 0+1) (by omega) (Ctx.On.refl h hI) (by omega) (by omega) (by omega) (.inl rfl)) ?_;intro r Z hZ;try simp only[↓aC,aB,rE,↓reduceIte]
 exact⟨_,rfl,hZ⟩
end Go.Ev.Gl
namespace Go.Ev.Gl
open Go.Sort
variable {fns:T dE}
def aEH(a b:Int):Int:=if a<b then -1 else if b<a then 1 else 0
theorem aDF{S:St}{a b:Int}(H:Has fns):fA fns (.fn 61 [] []) [.int .i64 a,.int .i64 b] S fun r S'=>r= .int .i64 (aEH a b)∧S'=S:=by
 refine bP H.f61 (by simp) ?_;simp only[↓aC,aB,rE,↓reduceIte,rA];refine bE ?_;simp only[↓aC,aB,rE,↓reduceIte,rA];refine bE ?_;simp only[↓aC,aB,rE,↓reduceIte];refine aY ?_;simp only[↓aC,aB,rE,↓reduceIte];refine aP (vZ H) ?_;rintro _ _ ⟨rfl,rfl⟩;try simp only[↓aC,aB,rE,↓reduceIte]
 refine bE ?_;simp only[↓aC,aB,rE,↓reduceIte];refine aY ?_;simp only[↓aC,aB,rE,↓reduceIte];refine aP (vZ H) ?_;rintro _ _ ⟨rfl,rfl⟩;try simp only[↓aC,aB,rE,↓reduceIte]
 refine eG ?_;simp only[↓aC,aB,rE,↓reduceIte];refine aK (by simp only[↓aC,aB,rE,↓reduceIte]) (aI ?_);try simp only[↓aC,aB,rE,↓reduceIte]
 refine eG ?_;simp only[↓aC,aB,rE,↓reduceIte];refine aK (by simp only[↓aC,aB,rE,↓reduceIte]) (aI ?_);try simp only[↓aC,aB,rE,↓reduceIte]
 refine eG ?_;simp only[↓aC,aB,rE,↓reduceIte];unfold aEH;by_cases h1:a<b
 ·rw[if_pos h1];refine aM (by simp only[↓aC,aB,rE,↓reduceIte,Ab h1]) (aA (aF ?_));simp only[↓aC,aB,rE,↓reduceIte];refine aO ?_;simp only[↓aC,aB,rE,↓reduceIte];rfl
 rw[if_neg h1];refine aK (by simp only[↓aC,aB,rE,↓reduceIte,Aa h1]) (aI ?_);try simp only[↓aC,aB,rE,↓reduceIte]
 refine eG ?_;simp only[↓aC,aB,rE,↓reduceIte];by_cases h2:b<a
 ·rw[if_pos h2];refine aM (by simp only[↓aC,aB,rE,↓reduceIte,Ab h2]) (aA (aF ?_));simp only[↓aC,aB,rE,↓reduceIte];refine aO ?_;simp only[↓aC,aB,rE,↓reduceIte]
 rw[if_neg h2];refine aK (by simp only[↓aC,aB,rE,↓reduceIte,Aa h2]) (aI ?_);try simp only[↓aC,aB,rE,↓reduceIte]
 refine bE ?_;simp only[↓aC,aB,rE,↓reduceIte];refine aO ?_;simp only[↓aC,aB,rE,↓reduceIte]
end Go.Ev.Gl
namespace Go.Ev.Gl
open Go.Sort
variable {fns:T dE}
theorem aJj(a b:Int):aEH a b<0↔a<b:=by
 unfold aEH;split
 ·omega
 ·split<;>omega
theorem aCX(a b:Int):aEH a b=0↔a=b:=by
 unfold aEH;split
 ·omega
 ·split<;>omega
end Go.Ev.Gl
