import Derived.Test.YtdkehphobhnjoaaGl7
open Nat renaming reduceEqDiff -> rE, reduceAdd -> rA
set_option maxHeartbeats 0
set_option linter.unusedSimpArgs false
set_option linter.unusedVariables false
namespace Go.Ev.Gl
variable {fns:T dU}
def aQU(S:St)(a b:AV)(l m:bu)(k:Nat)(A:bS)(X:St):Prop:=A.inr=false/\Same S X/\∃i,i+k=l.length/\l.take i=m.take i/\aD 0 A.F=a/\aD 1 A.F=b/\aD 5 A.F= .int .i64 (i:Int)
theorem aHj{S:St}{a b:AV}{l m:bu}(H:Has fns)(ha:bO .i64 S a l)(hb:bO .i64 S b m)(hl:l.length<=140737488355328):gH fns (.fn 11 [] []) [a,b] S fun r S'=>r= .bool (decide (l=m))/\Same S S':=by
 refine cF H.f11 (by simp) ?_;refine aq ?_;refine bQ (aq ?_);refine fE (d7 ha.len hb.len @Ah ?_);by_cases hlm:l.length=m.length;rotate_left
 ·rw[Aa (show ¬l=m from fun e=>hlm (by rw[e]))];refine aM ff ?_;refine bQ (aq ?_);refine aR (aq ?_);exact de _
 refine aK ff (aH ?_);refine aq ?_;refine aA (aW (Q:=fun o A' X=>(o= .normal/\aQU S a b l m 0 A' X)\/(o= .ret/\Same S X/\l≠m/\aD 4 A'.F= .bool false)) (aA (aG ?_)) ?_)
 ·refine aq ?_;refine aL (bK (aQU S a b l m) ?_ l.length _ _ ⟨rfl,de _,0,ay,rfl,by refine⟨?_,?_,?_⟩<;>simp only[↓aC,aB,rE,↓reduceIte,rA]⟩);rintro k ⟨F,inr⟩ X ⟨q0,hX,i,hik,he,p0,p1,p5⟩;simp only at q0 p0 p1 p5;subst q0;refine fE (d8 p0 p5 ha.len @Ah ?_);by_cases hlt:i<l.length
  ·refine aM ff (aH ?_);refine aq ?_;have hltm:i<m.length:=by omega
   have ia:=(ha.same hX).cn hlt;have la:=(ha.same hX).ld hlt;have ib:=(hb.same hX).cn hltm;have lb:=(hb.same hX).ld hltm;have w1:=dc i
   refine aA (aL (aA (iJ ?_)));refine eg p0 p1 p5 @aJ ia ib la lb ?_;have el:l.getD i 0=l[i]:=by rw[Ad,Ac hlt];rfl
   have em:m.getD i 0=m[i]:=by rw[Ad,Ac hltm];rfl
   by_cases hx:l.getD i 0=m.getD i 0
   ·refine aK (fj (Aa (show ¬l.getD i 0≠m.getD i 0 from fun h=>h hx))) (aH ?_);refine aq ?_;refine aG (d6 p5 w1 ?_);refine⟨k - 1,ay,rfl,hX.trans (Same.nx _ _),i+1,ay,?_,by refine⟨?_,?_,?_⟩<;>simp only[↓aC,aB,rE,↓reduceIte,rA,p0,p1]⟩;rw[Bx,Bx,he,Ac hlt,Ac hltm,<-el,<-em,hx]
   ·refine aM (fj (Ab (show l.getD i 0≠m.getD i 0 from hx))) ?_;refine bQ (aq ?_);refine aR (aq ?_);exact .inr ⟨hX.trans (Same.nx _ _),fun e=>hx (by rw[e])⟩
  ·refine aK ff (bG ?_);refine aq ?_;have hk0:k=0:=by omega
   subst hk0;exact .inl ⟨rfl,hX,i,hik,he,by refine⟨?_,?_,?_⟩<;>simp only[↓aC,aB,rE,↓reduceIte,rA,p0,p1,p5]⟩
 rintro o ⟨F,inr⟩ X (⟨rfl,q0,hX,i,hik,he,p0,p1,p5⟩ | ⟨rfl,hX,hne,p4⟩);rotate_left
 ·simp only at p4;refine dz p4 ?_;rw[Aa hne];exact⟨rfl,hX⟩
 simp only at q0;subst q0;rw[Bb ay,Bb ay] at he;rw[Ab he];refine aq ?_;refine bQ (aq ?_);refine aR (aq ?_);exact hX
theorem oW{S:St}{a b:AV}{l m:bu}(H:Has fns)(ha:bO .i64 S a l)(hb:bO .i64 S b m)(hl:l.length<=10000000):gH fns (.fn 11 [] []) [a,b] S fun r S'=>r= .bool (decide (l=m))/\Same S S':=
 aHj H ha hb ay
def mG(S S':St)(v:AV)(l:bu):Prop:=∃b,v= .sl b 0 l.length l.length false/\S.nx<=b/\b<S'.nx/\S'.h.get b=some (.cells (bJ l) false 0)
theorem mG.is{S S':St}{v:AV}{l:bu}(h:mG S S' v l):bO .i64 S' v l:=by
 obtain⟨b,rfl,h1,h2,h3⟩:=h;exact aCT h3 h2 rfl
theorem mG.same{S S' S'':St}{v:AV}{l:bu}(h:mG S S' v l)(hs:Same S' S''):mG S S'' v l:=by
 have⟨b,h0,h1,h2,h3⟩:=h;exact⟨b,h0,h1,Ae h2 hs.1,(hs.2 _ h2).trans h3⟩
theorem pN(n:Nat):repeatL [AV.int .i64 0] n=bJ (List.replicate n 0):=by rw[repeatL_one];simp [bJ]
theorem aDT{l m:bu}(hl:l.length=m.length)(h:∀j,j<m.length->l.getD j 0=m.getD j 0):l=m:=by
 refine Ff hl fun j j1 j2=>?_;have:=h j j2;rw[Ad,Ad,Ac j1,Ac j2] at this;exact this
def yG(S:St)(rb n:Nat)(f:Nat->Int)(P:Fr->Nat->Prop)(k:Nat)(A:bS)(X:St):Prop:=A.inr=false/\Same S X/\rb<X.nx/\∃ (i:Nat) (l:bu),i+k=n/\l.length=n/\(∀j,j<i->l.getD j 0=f j)/\X.h.get rb=some (.cells (bJ l) false 0)/\P A.F i
theorem uR{S:St}{n:Nat}(H:Has fns)(hn:n<=1000000):gH fns (.fn 50 [] []) [.int .i64 (n:Int)] S fun r S'=>mG S S' r (List.replicate n (-1))/\Same S S':=by
 refine cF H.f50 (by simp) ?_;refine aq ?_;refine bQ (aq ?_);refine bQ (aq ?_);refine gO (pG (n:=n) (fj @aJ) (fj @aJ) bf bf) ?_;intro S1 s1 n1 c1;rw[pN] at c1;refine aq ?_;refine aA (aW (Q:=fun o A' X=>o= .normal/\yG S S.nx n (fun _=> -1) (fun F i=>aD 3 F= .sl S.nx 0 n n false/\aD 8 F= .int .i64 (n:Int)/\aD 9 F= .int .i64 (i:Int)) 0 A' X) (aA (aG ?_)) ?_)
 ·have e0:jD (.sl S.nx 0 n n false)=some (.int .i64 (n:Int)):=rfl;refine dz e0 ?_;refine aL (bK (yG S S.nx n (fun _=> -1) (fun F i=>aD 3 F= .sl S.nx 0 n n false/\aD 8 F= .int .i64 (n:Int)/\aD 9 F= .int .i64 (i:Int))) ?_ n _ _ ⟨rfl,s1,ay,0,_,ay,Aq ..,fun j hj=>ay,c1,by refine⟨?_,?_,?_⟩<;>simp only[↓aC,aB,rE,↓reduceIte,rA]⟩);rintro k ⟨F,inr⟩ X ⟨q0,hX,hb,i,l,hik,hl,hf,hc,p3,p8,p9⟩;simp only at q0 p3 p8 p9;subst q0;refine bQ (d6 p8 p9 ?_);by_cases hlt:i<n
  ·refine aA (aM ff (aH ?_));refine aq ?_;have w1:=dc i
   have hia:=eX (b:=S.nx) (o:=false) hlt;refine aA (aL (aA (aG ?_)));refine dz p9 ?_;refine aG (d7 p3 @aJ hia ?_);rw[show Int.negSucc 0=(-1:Int) from rfl];refine fD (fun call=>by refine d6 @dS @cH ?_;exact sP (S:=X) hc (by rw[hl];exact hlt)) ?_;refine aq ?_;refine aG (d6 p9 w1 ?_);refine⟨k - 1,ay,rfl,hX.put (Ag _) _,hb,i+1,l.set i (-1),ay,by rw[Ar];exact hl,fun j hj=>?_,fq,by refine⟨?_,?_,?_⟩<;>simp only[↓aC,aB,rE,↓reduceIte,rA,p3,p8]⟩;rw[gE (by rw[hl];exact hlt)];split
   ·rfl
   ·exact hf j ay
  ·refine aA (aK ff (bG ?_));refine aq ?_;have hk0:k=0:=by omega
   subst hk0;exact⟨rfl,hX,hb,i,l,hik,hl,hf,hc,by refine⟨?_,?_,?_⟩<;>simp only[↓aC,aB,rE,↓reduceIte,rA,p3,p8,p9]⟩
 rintro o ⟨F,inr⟩ X ⟨rfl,q0,hX,hb,i,l,hik,hl,hf,hc,p3,p8,p9⟩;simp only at q0 p3;subst q0;have el:l=List.replicate n (-1):=aDT (by rw[hl,Aq]) fun j hj=>by
  rw[Aq] at hj;rw[hf j ay,Ad,Cl,if_pos hj];rfl
 subst el;refine aq ?_;refine bQ (dz p3 ?_);refine aR (aq ?_);exact⟨⟨S.nx,by rw[Aq],Ag _,hb,hc⟩,hX⟩
def cA(a b:bu):bu:=a.map fun x=>b.getD x.toNat 0
def nE(a:bu)(n:Nat):Prop:=∀x∈a,0<=x/\x<n
theorem kI{a b:bu}{i:Nat}(hi:i<a.length):(cA a b).getD i 0=b.getD (a.getD i 0).toNat 0:=by
 unfold cA;rw[Ad,Bc,Ac hi,Ad (l:=a),Ac hi];rfl
theorem aEV{S:St}{av bv:AV}{a b:bu}(H:Has fns)(ha:bO .i64 S av a)(hb:bO .i64 S bv b)(hl:a.length<=1000000)(hin:nE a b.length):gH fns (.fn 39 [] []) [av,bv] S fun r S'=>mG S S' r (cA a b)/\Same S S':=by
 refine cF H.f39 (by simp) ?_;refine aq ?_;refine bQ (aq ?_);refine bQ (d6 ha.len @Ah ?_);refine gO (pG (n:=a.length) (fj @aJ) (fj @aJ) bf bf) ?_;intro S1 s1 n1 c1;rw[pN] at c1;refine aq ?_;refine aA (aW (Q:=fun o A' X=>o= .normal/\yG S S.nx a.length (fun j=>b.getD (a.getD j 0).toNat 0) (fun F i=>aD 1 F=bv/\aD 5 F= .sl S.nx 0 a.length a.length false/\aD 11 F=av/\aD 12 F= .int .i64 (a.length:Int)/\aD 13 F= .int .i64 (i:Int)) 0 A' X) (aA (aG ?_)) ?_)
 ·refine d6 ha.len @Ah ?_;refine aL (bK (yG S S.nx a.length (fun j=>b.getD (a.getD j 0).toNat 0) (fun F i=>aD 1 F=bv/\aD 5 F= .sl S.nx 0 a.length a.length false/\aD 11 F=av/\aD 12 F= .int .i64 (a.length:Int)/\aD 13 F= .int .i64 (i:Int))) ?_ a.length _ _ ⟨rfl,s1,ay,0,_,ay,Aq ..,fun j hj=>ay,c1,by refine⟨?_,?_,?_,?_,?_⟩<;>simp only[↓aC,aB,rE,↓reduceIte,rA]⟩);rintro k ⟨F,inr⟩ X ⟨q0,hX,hbX,i,l,hik,hl',hf,hc,p1,p5,p11,p12,p13⟩;simp only at q0 p1 p5 p11 p12 p13;subst q0;refine bQ (d6 p12 p13 ?_);by_cases hlt:i<a.length
  ·refine aA (aM ff (aH ?_));refine aq ?_;have w1:=dc i
   have hia:=eX (b:=S.nx) (o:=false) hlt;have ia:=(ha.same hX).cn hlt;have la:=(ha.same hX).ld hlt;have hmem:a.getD i 0∈a:=by rw[Ad,Ac hlt];exact Bo hlt
   have⟨x0,x1⟩:=hin _ hmem;have hfi:(fun j=>b.getD (a.getD j 0).toNat 0) i=b.getD (a.getD i 0).toNat 0:=rfl;generalize hxx:a.getD i 0=x at *;obtain⟨m,rfl⟩:∃m:Nat,x=(m:Int):=⟨x.toNat,ay⟩;have hm:m<b.length:=by omega
   have ib:=(hb.same hX).cn hm;have lb:=(hb.same hX).ld hm;refine aA (aL (aA (aG ?_)));refine d9 p11 p13 @aJ ia la ?_;refine aG (ec p1 p5 @aJ hia ib lb ?_);refine fD (fun call=>by refine d6 @dS @cH ?_;exact sP (S:=X) hc (by rw[hl'];exact hlt)) ?_;refine aq ?_;refine aG (d6 p13 w1 ?_);refine⟨k - 1,ay,rfl,hX.put (Ag _) _,hbX,i+1,l.set i (b.getD m 0),ay,by rw[Ar];exact hl',fun j hj=>?_,fq,by refine⟨?_,?_,?_,?_,?_⟩<;>simp only[↓aC,aB,rE,↓reduceIte,rA,p1,p5,p11,p12]⟩;rw[gE (by rw[hl'];exact hlt)];split
   ·rename_i e;rw[e,hfi];rfl
   ·exact hf j ay
  ·refine aA (aK ff (bG ?_));refine aq ?_;have hk0:k=0:=by omega
   subst hk0;exact⟨rfl,hX,hbX,i,l,hik,hl',hf,hc,by refine⟨?_,?_,?_,?_,?_⟩<;>simp only[↓aC,aB,rE,↓reduceIte,rA,p1,p5,p11,p12,p13]⟩
 rintro o ⟨F,inr⟩ X ⟨rfl,q0,hX,hbX,i,l,hik,hl',hf,hc,p1,p5,p11,p12,p13⟩;simp only at q0 p5;subst q0;have ep:(cA a b).length=a.length:=by simp [cA]
 have el:l=cA a b:=aDT (by rw[hl',ep]) fun j hj=>by
  rw[ep] at hj;rw[hf j ay,kI hj]
 subst el;refine aq ?_;refine bQ (dz p5 ?_);refine aR (aq ?_);exact⟨⟨S.nx,by rw[ep],Ag _,hbX,hc⟩,hX⟩
theorem aIW{S:St}{av bv:AV}{a b:bu}(H:Has fns)(ha:bO .i64 S av a)(hb:bO .i64 S bv b)(hl:a.length<=1000000)(hin:nE a b.length):gH fns (.fn 35 [] []) [av,bv] S fun r S'=>mG S S' r (cA a b)/\Same S S':=by
 refine cF H.f35 (by simp) ?_;refine aq ?_;refine bQ (aq ?_);refine bQ (d6 ha.len @Ah ?_);refine gO (pG (n:=a.length) (fj @aJ) (fj @aJ) bf bf) ?_;intro S1 s1 n1 c1;rw[pN] at c1;refine aq ?_;refine aA (aW (Q:=fun o A' X=>o= .normal/\yG S S.nx a.length (fun j=>b.getD (a.getD j 0).toNat 0) (fun F i=>aD 0 F=av/\aD 1 F=bv/\aD 5 F= .sl S.nx 0 a.length a.length false/\aD 6 F= .int .i64 (i:Int)) 0 A' X) (aA (aG ?_)) ?_)
 ·refine aq ?_;refine aL (bK (yG S S.nx a.length (fun j=>b.getD (a.getD j 0).toNat 0) (fun F i=>aD 0 F=av/\aD 1 F=bv/\aD 5 F= .sl S.nx 0 a.length a.length false/\aD 6 F= .int .i64 (i:Int))) ?_ a.length _ _ ⟨rfl,s1,ay,0,_,ay,Aq ..,fun j hj=>ay,c1,by refine⟨?_,?_,?_,?_⟩<;>simp only[↓aC,aB,rE,↓reduceIte,rA]⟩);rintro k ⟨F,inr⟩ X ⟨q0,hX,hbX,i,l,hik,hl',hf,hc,p0,p1,p5,p6⟩;simp only at q0 p0 p1 p5 p6;subst q0;refine fE (d8 p0 p6 ha.len @Ah ?_);by_cases hlt:i<a.length
  ·refine aM ff (aH ?_);refine aq ?_;have w1:=dc i
   have hia:=eX (b:=S.nx) (o:=false) hlt;have ia:=(ha.same hX).cn hlt;have la:=(ha.same hX).ld hlt;have hmem:a.getD i 0∈a:=by rw[Ad,Ac hlt];exact Bo hlt
   have⟨x0,x1⟩:=hin _ hmem;have hfi:(fun j=>b.getD (a.getD j 0).toNat 0) i=b.getD (a.getD i 0).toNat 0:=rfl;generalize hxx:a.getD i 0=x at *;obtain⟨m,rfl⟩:∃m:Nat,x=(m:Int):=⟨x.toNat,ay⟩;have hm:m<b.length:=by omega
   have ib:=(hb.same hX).cn hm;have lb:=(hb.same hX).ld hm;refine aA (aL (aG ?_));simp only[↓aC,aB,rE,↓reduceIte,rA,p0,p1,p5,p6,aJ,ia,la,hia,ib,lb];refine fD (fun call=>by refine d6 @dS @cH ?_;exact sP (S:=X) hc (by rw[hl'];exact hlt)) ?_;refine aq ?_;refine aG (d6 p6 w1 ?_);refine⟨k - 1,ay,rfl,hX.put (Ag _) _,hbX,i+1,l.set i (b.getD m 0),ay,by rw[Ar];exact hl',fun j hj=>?_,fq,by refine⟨?_,?_,?_,?_⟩<;>simp only[↓aC,aB,rE,↓reduceIte,rA,p0,p1,p5]⟩;rw[gE (by rw[hl'];exact hlt)];split
   ·rename_i e;rw[e,hfi];rfl
   ·exact hf j ay
  ·refine aK ff (bG ?_);refine aq ?_;have hk0:k=0:=by omega
   subst hk0;exact⟨rfl,hX,hbX,i,l,hik,hl',hf,hc,by refine⟨?_,?_,?_,?_⟩<;>simp only[↓aC,aB,rE,↓reduceIte,rA,p0,p1,p5,p6]⟩
 rintro o ⟨F,inr⟩ X ⟨rfl,q0,hX,hbX,i,l,hik,hl',hf,hc,p0,p1,p5,p6⟩;simp only at q0 p5;subst q0;have ep:(cA a b).length=a.length:=by simp [cA]
 have el:l=cA a b:=aDT (by rw[hl',ep]) fun j hj=>by
  rw[ep] at hj;rw[hf j ay,kI hj]
 subst el;refine aq ?_;refine bQ (dz p5 ?_);refine aR (aq ?_);exact⟨⟨S.nx,by rw[ep],Ag _,hbX,hc⟩,hX⟩
def mA:bu->Nat->Int->Int
 | [],_,_=> -1
 | x::l,s,c=>if x=c then(s:Int) else mA l (s+1) c
theorem oN{c:Int}:∀ {l:bu} {s:Nat},(mA l s c= -1/\c∉l)\/∃k,mA l s c=((s+k:Nat):Int)/\l[k]? =some c/\∀j,j<k->l[j]? ≠some c
 | [],s=>.inl ⟨rfl,by simp⟩
 | x::l,s=>by
  simp only[mA];by_cases h:x=c
  ·rw[if_pos h];exact .inr ⟨0,rfl,by rw[h];rfl,fun j hj=>ay⟩
  ·rw[if_neg h];rcases oN (c:=c) (l:=l) (s:=s+1) with⟨h1,h2⟩ | ⟨k,h1,h2,h3⟩
   ·exact .inl ⟨h1,by rw[Bm];rintro(e | e);exact h e.symm;exact h2 e⟩
   ·refine .inr ⟨k+1,by rw[h1];congr 1;omega,h2,fun j hj=>?_⟩;cases j with
    | zero=>simp only[List.getElem?_cons_zero,ne_eq,Ao];exact h
    | succ j=>rw[Cz];exact h3 j ay
def aRr(S:St)(nb:Nat)(c:Int)(l:bu)(k:Nat)(A:bS)(X:St):Prop:=A.inr=false/\Same S X/\∃i,i+k=l.length/\mA l 0 c=mA (l.drop i) i c/\aD 1 A.F= .int .i64 c/\aD 2 A.F= .ptr nb 0/\aD 5 A.F= .int .i64 (i:Int)
theorem aIx{S:St}{cs:b6}{x:cP}{c:Int}(H:Has fns)(hx:cI S cs x)(hl:x.next.length<=100000):gH fns (.fn 58 [] []) [.agg cs,.int .i64 c] S fun r S'=>r= .int .i64 (mA x.next 0 c)/\Same S S':=by
 obtain⟨a,bb,cc,rfl,ha,_,_⟩:=hx;refine cF H.f58 (by simp) ?_;refine af ?_;refine bQ ?_;refine dV (by refine af ?_;exact bL _) ?_;intro S1 s1 n1 c1;refine af ?_;have lb:S.nx<S1.nx:=by omega
 refine aA (aW (Q:=fun o A' X=>(o= .normal/\aRr S1 S.nx c x.next 0 A' X)\/(o= .ret/\Same S1 X/\aD 4 A'.F= .int .i64 (mA x.next 0 c))) (aA (aG ?_)) ?_)
 ·refine aq ?_;refine aL (bK (aRr S1 S.nx c x.next) ?_ x.next.length _ _ ⟨rfl,de _,0,ay,rfl,by refine⟨?_,?_,?_⟩<;>simp only[↓aC,aB,rE,↓reduceIte,rA]⟩);rintro k ⟨F,inr⟩ X ⟨q0,hX,i,hik,he,p1,p2,p5⟩;simp only at q0 p1 p2 p5;subst q0;have cX:X.h.get S.nx=some (.cells [.int .i64 x.kind,.int .i64 x.player,.int .i64 x.info,a,bb,cc] false 0):=by rw[hX.2 _ lb];exact c1
  have haX:=ha.same (s1.trans hX);refine fE (ed p2 p5 @aF @aE (dI cX) ha.len @Ah ?_);by_cases hlt:i<x.next.length
  ·refine aM ff (aH ?_);refine aq ?_;have ia:=haX.cn hlt;have la:=haX.ld hlt;have el:x.next.getD i 0=x.next[i]:=by rw[Ad,Ac hlt];rfl
   have hdrop:x.next.drop i=x.next[i]::x.next.drop (i+1):=Cg hlt;have w1:=dc i
   rw[hdrop] at he;simp only[mA] at he;rw[el] at la;refine aA (aL (aA (aG ?_)));simp only[↓aC,aB,rE,↓reduceIte,rA,p1,p2,p5,aF,aE,dI cX,aJ,ia,la];by_cases hc:x.next[i]=c
   ·rw[if_pos hc] at he;refine aM (fj (Ab hc)) ?_;refine bQ (dz p5 ?_);refine aR (aq ?_);exact .inr ⟨hX,by rw[he]⟩
   ·rw[if_neg hc] at he;refine aK (fj (Aa hc)) (aH ?_);refine aq ?_;refine aG (d6 p5 w1 ?_);exact⟨k - 1,ay,rfl,hX,i+1,ay,he,by refine⟨?_,?_,?_⟩<;>simp only[↓aC,aB,rE,↓reduceIte,rA,p1,p2]⟩
  ·refine aK ff (bG ?_);refine aq ?_;have hk0:k=0:=by omega
   subst hk0;exact .inl ⟨rfl,hX,i,hik,he,by refine⟨?_,?_,?_⟩<;>simp only[↓aC,aB,rE,↓reduceIte,rA,p1,p2,p5]⟩
 rintro o ⟨F,inr⟩ X (⟨rfl,q0,hX,i,hik,he,p1,p2,p5⟩ | ⟨rfl,hX,p4⟩);rotate_left
 ·simp only at p4;refine dz p4 ?_;exact s1.trans hX
 simp only at q0;subst q0;rw[Ct ay] at he;refine aq ?_;refine bQ (aq ?_);refine aR (aq ?_);exact⟨by rw[he];rfl,s1.trans hX⟩
def aP8(h:T AB)(K:Nat)(l:jT):Prop:=mP l.v (gT l.q l.F h)=true/\l.i<K/\Nat.testBit l.mask K=false
theorem aAu{h:T AB}{base K:Nat}{rest:List AO}{Q:DS->Prop}:∀ {pre:List AO} {i:Nat} {F:Fr} {S:St} {ls:List jT},S.h=h->i+pre.length=K->(∀o∈pre,Nat.testBit o.mask K=false)->(∀l∈ls,aP8 h K l)->
  mH pre F h (fun F'=>∀ls',(∀l∈ls',aP8 h K l)->vW fns rest K base ⟨F',S,[],[],ls'⟩ Q)->vW fns (pre++rest) i base ⟨F,S,[],[],ls⟩ Q
 | [],i,F,S,ls,h1,h2,_,h4,hr=>by
  simp only[Ci,Bh] at h2;subst h2;exact hr ls h4
 | ⟨d,.q q,g,m⟩::l,i,F,S,ls,h1,h2,h3,h4,hr=>by
  simp only[mH] at hr;have h2':i+1+l.length=K:=by rw[Aw] at h2;omega
  have h3':∀o∈l,Nat.testBit o.mask K=false:=fun o ho=>h3 o (Bj _ ho);have hm:Nat.testBit m K=false:=h3 _ (Br ..);have go:∀ (_:lM (gT q F h) fun v=>(dR q=true->cT v v=true)/\mH l (cR d F v) h (fun F'=>∀ls',(∀l∈ls',aP8 h K l)->vW fns rest K base ⟨F',S,[],[],ls'⟩ Q)),vW fns (⟨d,.q q,none,m⟩::(l++rest)) i base ⟨F,S,[],[],ls⟩ Q:=by
   rintro⟨v,hv,hs,hr⟩;rw[iE];subst h1;refine⟨v,hv,aAu rfl h2' h3' ?_ hr⟩;cases hq:dR q with
   | false=>exact h4
   | true=>
    rw[aO];intro l' hl';rcases Bm.1 hl' with rfl | hl'
    ·refine⟨?_,by show i<K;omega,hm⟩;show mP v (gT q F S.h)=true;rw[hv,iU];exact hs hq
    ·exact h4 _ hl'
  cases g with
  | none=>exact go (by rw[if_pos (show eT none F=true from rfl)] at hr;exact hr)
  | some g=>
   have⟨s,b⟩:=g;by_cases hw:eT (some (s,b)) F=true
   ·rw[if_pos hw] at hr;have⟨n,D',e1,e2⟩:=go hr;refine⟨n,D',?_,e2⟩;have:pV ⟨d,.q q,some (s,b),m⟩ i base (ev fns n).call ⟨F,S,[],[],ls⟩=pV ⟨d,.q q,none,m⟩ i base (ev fns n).call ⟨F,S,[],[],ls⟩:=by
     show cB (eT (some (s,b)) F) _ _=cB true _ _;rw[hw];rfl
    show bH (pV ⟨d,.q q,some (s,b),m⟩ i base (ev fns n).call ⟨F,S,[],[],ls⟩) _=_;rw[this];exact e1
   ·rw[if_neg hw] at hr;have⟨n,D',e1,e2⟩:=aAu (i:=i+1) (F:=cR d F .undef) (ls:=ls) h1 h2' h3' h4 hr;refine⟨n,D',?_,e2⟩;have:pV ⟨d,.q q,some (s,b),m⟩ i base (ev fns n).call ⟨F,S,[],[],ls⟩=some ⟨cR d F .undef,S,[],[],ls⟩:=by
     show cB (eT (some (s,b)) F) _ _=_;rw[show eT (some (s,b)) F=false by simpa using hw];rfl
    show bH (pV ⟨d,.q q,some (s,b),m⟩ i base (ev fns n).call ⟨F,S,[],[],ls⟩) _=_;rw[this];exact e1
 | ⟨d,.a a,g,m⟩::l,i,F,S,ls,h1,h2,h3,h4,hr=>by cases hr
 | ⟨d,.x a,g,m⟩::l,i,F,S,ls,h1,h2,h3,h4,hr=>by cases hr
theorem aOE{ops pre:List AO}{K m n:Nat}{x v:cU}{A:bS}{S:St}{Q:Out->bS->St->Prop}(he:ops=pre++ [⟨none,.x (.st n x v),none,m⟩])(hK:pre.length=K)(h3:∀o∈pre,Nat.testBit o.mask K=false)(hm:∀i,i<K->Nat.testBit m i=true)
  (h:mH pre A.F S.h fun F'=>∃S1,bH (v.val F').cells (fun cs=>mJ (x.val F') n cs ⟨S.h,S.nx+(K+1)⟩)=some (.undef,S1)/\Q .normal ⟨F',A.inr⟩ S1):lU fns (.drw ops) A S Q:=by
 subst he;have hlen:(pre++ [(⟨none,.x (.st n x v),none,m⟩:AO)]).length=K+1:=by simp [hK]
 refine oO ?_;rw[hlen];refine aAu (h:=S.h) (K:=K) (pre:=pre) (i:=0) rfl ay h3 (fun l hl=>by cases hl) ?_;have mono:∀ {P P':Fr->Prop},(∀F,P F->P' F)->∀ (l:List AO) (F:Fr),mH l F S.h P->mH l F S.h P':=fun {P P'} hP l=>by
  induction l with
  | nil=>intro F h;exact hP F h
  | cons o l ih=>
   intro F h;have⟨d,op,g,mm⟩:=o;cases op with
   | q q=>
    simp only[mH] at h ⊢;split at h
    ·rename_i hw;rw[if_pos hw];have⟨w,hw1,hw2,hw3⟩:=h;exact⟨w,hw1,hw2,ih _ hw3⟩
    ·rename_i hw;rw[if_neg hw];exact ih _ h
   | a a=>cases h
   | x a=>cases h
 refine mono ?_ pre A.F h;rintro F' ⟨S1,e1,hQ⟩ ls hls;refine kE (v:=.undef) (S1:=S1) rfl (fun call=>by rw[dS];exact e1) ?_;rw[jB];refine⟨?_,?_⟩
 ·simp only[Cw,Fg,Bq];refine lG fun l hl=>?_;have⟨h1,h2,h4⟩:=hls l hl;unfold dY;rw[h4,aT,h1,aO,hm _ h2,aO]
 ·exact hQ
def kH(T:List cK)(j:Nat):Option Int:=(T[j]?).map (·.1)
def CF(nx:Nat->bu)(a:Nat)(T:List cK):Prop:=∀j,j<T.length->∀c∈nx (a+j),((a+j:Nat):Int)<c/\c<((a+T.length:Nat):Int)/\kH T (c.toNat - a)=some ((a+j:Nat):Int)
def PF(nx:Nat->bu)(a:Nat)(T:List cK)(j:Nat):Prop:=∃q,q<j/\kH T j=some ((a+q:Nat):Int)/\((a+j:Nat):Int)∈nx (a+q)
def aKW(nx:Nat->bu)(a:Nat)(T:List cK):Prop:=∀j,j<T.length->(nx (a+j)).Pairwise (· < ·)
structure WF(nx:Nat->bu)(a:Nat)(p:Int)(T:List cK):Prop where
 pos:0<T.length
 root:kH T 0=some p
 cf:CF nx a T
 pf:∀j,0<j->j<T.length->PF nx a T j
 inc:aKW nx a T
structure KF(nx:Nat->bu)(r:Nat)(p:Int)(l:bu)(L:List cK):Prop where
 cf:CF nx r L
 kid:∀c∈l,((r:Nat):Int)<=c/\c<((r+L.length:Nat):Int)/\kH L (c.toNat - r)=some p
 pf:∀j,j<L.length->(kH L j=some p/\((r+j:Nat):Int)∈l)\/PF nx r L j
 inc:aKW nx r L
 up:l.Pairwise (· < ·)
theorem uI{L1 L2:List cK}{j:Nat}(h:j<L1.length):kH (L1++L2) j=kH L1 j:=by unfold kH;rw[Al h]
theorem rG{L1 L2:List cK}{j:Nat}(h:L1.length<=j):kH (L1++L2) j=kH L2 (j - L1.length):=by unfold kH;rw[Am h]
theorem CF.append{nx:Nat->bu}{r:Nat}{L1 L2:List cK}(h1:CF nx r L1)(h2:CF nx (r+L1.length) L2):CF nx r (L1++L2):=fun j hj c hc=>by
 rw[Ai] at hj ⊢;by_cases h:j<L1.length
 ·have⟨a,b,d⟩:=h1 j h c hc;exact⟨a,ay,by rw[uI ay];exact d⟩
 ·have e:r+j=r+L1.length+(j - L1.length):=by omega
  rw[e] at hc;have⟨a,b,d⟩:=h2 (j - L1.length) ay c hc;refine⟨ay,ay,?_⟩;rw[rG ay,show c.toNat - r - L1.length=c.toNat - (r+L1.length) by omega,d,e]
theorem PF.left{nx:Nat->bu}{r j:Nat}{L1 L2:List cK}(h:PF nx r L1 j)(hj:j<L1.length):PF nx r (L1++L2) j:=by
 have⟨q,h1,h2,h3⟩:=h;exact⟨q,h1,by rw[uI hj];exact h2,h3⟩
theorem PF.right{nx:Nat->bu}{r j:Nat}{L1 L2:List cK}(h:PF nx (r+L1.length) L2 (j - L1.length))(hj:L1.length<=j):PF nx r (L1++L2) j:=by
 have⟨q,h1,h2,h3⟩:=h;refine⟨L1.length+q,ay,?_,?_⟩
 ·rw[rG hj,h2,show r+L1.length+q=r+(L1.length+q) by omega]
 ·rw[show r+(L1.length+q)=r+L1.length+q by omega,show r+j=r+L1.length+(j - L1.length) by omega];exact h3
theorem aKW.append{nx:Nat->bu}{r:Nat}{L1 L2:List cK}(h1:aKW nx r L1)(h2:aKW nx (r+L1.length) L2):aKW nx r (L1++L2):=fun j hj=>by
 rw[Ai] at hj;by_cases h:j<L1.length
 ·exact h1 j h
 ·rw[show r+j=r+L1.length+(j - L1.length) by omega];exact h2 (j - L1.length) ay
theorem aDD{rec:Nat->Option (List cK)}{nx:Nat->bu}{p:Int}(hr:∀r L,rec r=some L->WF nx r p L):∀ {l:bu} {r:Nat} {L:List cK},fH rec l r=some L->KF nx r p l L
 | [],r,L,h=>by
  simp only[fH,Ao] at h;subst h;exact⟨fun j hj=>by simp at hj,fun c hc=>by simp at hc,fun j hj=>by simp at hj,fun j hj=>by simp at hj,.nil⟩
 | c::l,r,L,h=>by
  simp only[fH] at h;split at h
  ·rename_i hc;have⟨L1,h1,h2⟩:=Co.1 h;obtain⟨L2,h3,rfl⟩:=Az.1 h2;have w:=hr r L1 h1;have k:=aDD hr h3;have hp:=w.pos;refine⟨w.cf.append k.cf,fun c' hc'=>?_,fun j hj=>?_,w.inc.append k.inc,?_⟩
   ·rw[Ai];rcases Bm.1 hc' with rfl | hc'
    ·rw[hc];refine⟨ay,ay,?_⟩;rw[show((r:Int)).toNat - r=0 by omega,uI hp];exact w.root
    ·have⟨a,b,d⟩:=k.kid c' hc';refine⟨ay,ay,?_⟩;rw[rG ay,show c'.toNat - r - L1.length=c'.toNat - (r+L1.length) by omega];exact d
   ·rw[Ai] at hj;by_cases h:j<L1.length
    ·by_cases j0:j=0
     ·subst j0;exact .inl ⟨by rw[uI h];exact w.root,by rw[Bh,hc];exact Br ..⟩
     ·exact .inr ((w.pf j ay h).left h)
    ·rcases k.pf (j - L1.length) ay with⟨h4,h5⟩ | h4
     ·exact .inl ⟨by rw[rG ay];exact h4,Bj _ (by rw[show r+j=r+L1.length+(j - L1.length) by omega];exact h5)⟩
     ·exact .inr (PF.right h4 ay)
   ·refine Dz.2 ⟨fun c' hc'=>?_,k.up⟩;have:=(k.kid c' hc').1;omega
  ·cases h
theorem lK{N:Nat}{nx:Nat->bu}:∀ {f at_:Nat} {p d:Int} {T:List cK},eJ N nx f at_ p d=some T->WF nx at_ p T
 | 0,at_,p,d,T,h=>by cases h
 | f+1,at_,p,d,T,h=>by
  simp only[eJ] at h;split at h
  ·obtain⟨L,h1,rfl⟩:=Az.1 h;have k:=aDD (p:=(at_:Int)) (fun r L hr=>lK hr) h1;have ps:∀j,kH ((p,d,((at_+L.length:Nat):Int))::L) (j+1)=kH L j:=fun j=>by unfold kH;rw[Cz]
   refine⟨by simp,rfl,fun j hj c hc=>?_,fun j j0 hj=>?_,fun j hj=>?_⟩
   ·rw[Aw] at hj ⊢;cases j with
    | zero=>
     rw[Bh] at hc ⊢;have⟨a,b,e⟩:=k.kid c hc;refine⟨ay,ay,?_⟩;rw[show c.toNat - at_=(c.toNat - (at_+1))+1 by omega,ps];exact e
    | succ j=>
     rw[show at_+(j+1)=at_+1+j by omega] at hc ⊢;have⟨a,b,e⟩:=k.cf j ay c hc;refine⟨ay,ay,?_⟩;rw[show c.toNat - at_=(c.toNat - (at_+1))+1 by omega,ps];exact e
   ·rw[Aw] at hj;cases j with
    | zero=>omega
    | succ j=>
     rcases k.pf j ay with⟨a,b⟩ | ⟨q,a,b,e⟩
     ·exact⟨0,ay,by rw[ps,a];rfl,by rw[Bh,show at_+(j+1)=at_+1+j by omega];exact b⟩
     ·refine⟨q+1,ay,?_,?_⟩
      ·rw[ps,b,show at_+1+q=at_+(q+1) by omega]
      ·rw[show at_+(q+1)=at_+1+q by omega,show at_+(j+1)=at_+1+j by omega];exact e
   ·rw[Aw] at hj;cases j with
    | zero=>exact k.up
    | succ j=>
     rw[show at_+(j+1)=at_+1+j by omega];exact k.inc j ay
  ·cases h
theorem oY{ops pre:List AO}{K m n:Nat}{x v:cU}{A:bS}{S:St}{Q:Out->bS->St->Prop}(he:ops=pre++ [⟨none,.x (.st n x v),none,m⟩])(hK:pre.length=K)(h3:(pre.all fun o=> !Nat.testBit o.mask K)=true)(hm:((List.range K).all fun i=>Nat.testBit m i)=true)
  (h:mH pre A.F S.h fun F'=>∃S1,bH (v.val F').cells (fun cs=>mJ (x.val F') n cs ⟨S.h,S.nx+(K+1)⟩)=some (.undef,S1)/\Q .normal ⟨F',A.inr⟩ S1):lU fns (.drw ops) A S Q:=by
 refine aOE he hK (fun o ho=>?_) (fun i hi=>?_) h
 ·have:=Dp.1 h3 o ho;simpa using this
 ·exact Dp.1 hm i (Fb.2 hi)
theorem aJ4{W:Nat->Prop}{h0:T AB}{base i:Nat}{l:List AO}{F:Fr}{S:St}{ps:List iH}{last:Option Nat}{Q:Fr->St->List iH->Prop}{d:Option Nat}{t:Nat}{x:cU}{cs:b6}(hx:(x.val F).cells=some cs)
  (hr:gN fns W h0 base l (i+1) (cR d F (.ptr (base+i) 0)) S (⟨i,base+i,.cells cs false 0⟩::ps) last Q):aHJ fns W h0 base (sH (.box t x) F (base+i)) d l i F S ps last Q:=by
 rw[aJX,hx,aN,oF];exact hr
theorem bO.cells{k:IntKind}{S:St}{v:AV}{l:bu}(h:bO k S v l):v.cells=some [v]:=by
 rcases h with⟨_,rfl | rfl⟩ | ⟨b,off,cap,o,cs,rfl,_⟩<;>rfl
def aCq:bu->Nat->bu->bu
 | [],_,r=>r
 | c::l,s,r=>aCq l (s+1) (r.set c.toNat (s:Int))
def aDz(g:bD):Nat->bu->bu
 | 0,r=>r
 | i+1,r=>aDz g i (aCq (dN g i) 0 r)
def lC(g:bD):bu:=aDz g g.bk.length (List.replicate g.bk.length 0)
structure iQ(S:St)(wb plb szb:Nat)(pv nv iv:AV)(g:bD)(R Z:bu):Prop where
 w:tQ S wb g.bo nv iv pv (.sl plb 0 g.bk.length g.bk.length false) (.sl szb 0 g.bk.length g.bk.length false)
 gp:S.h.get plb=some (.cells (bJ R) false 0)
 gz:S.h.get szb=some (.cells (bJ Z) false 0)
 lp:R.length=g.bk.length
 lz:Z.length=g.bk.length
 bp:plb<S.nx
 bz:szb<S.nx
theorem iQ.setZ{X:St}{wb plb szb n:Nat}{pv nv iv:AV}{g:bD}{R Z Z':bu}(h:iQ X wb plb szb pv nv iv g R Z)(n1:wb≠szb)(n2:plb≠szb)(hn:X.nx<=n)(hZ:Z'.length=g.bk.length):iQ ⟨X.h.set szb (some (.cells (bJ Z') false 0)),n⟩ wb plb szb pv nv iv g R Z':=
 ⟨⟨by simp only;rw[dd,if_neg n1];exact h.w.1,Ae h.w.2 hn⟩,by simp only;rw[dd,if_neg n2];exact h.gp,fq,h.lp,hZ,Ae h.bp hn,Ae h.bz hn⟩
theorem iQ.setP{X:St}{wb plb szb n:Nat}{pv nv iv:AV}{g:bD}{R R' Z:bu}(h:iQ X wb plb szb pv nv iv g R Z)(n1:wb≠plb)(n2:plb≠szb)(hn:X.nx<=n)(hR:R'.length=g.bk.length):iQ ⟨X.h.set plb (some (.cells (bJ R') false 0)),n⟩ wb plb szb pv nv iv g R' Z:=
 ⟨⟨by simp only;rw[dd,if_neg n1];exact h.w.1,Ae h.w.2 hn⟩,fq,by simp only;rw[dd,if_neg (Cx n2)];exact h.gz,hR,h.lz,Ae h.bp hn,Ae h.bz hn⟩
theorem qW.put{plb szb:Nat}{S X:St}{n b:Nat}{v:Option AB}(h:qW plb szb szb S X)(hb:b=plb\/b=szb)(hn:X.nx<=n):qW plb szb szb S ⟨X.h.set b v,n⟩:=⟨Au h.1 hn,fun c hc h1 h2 h3=>by
 simp only;rw[dd,if_neg (by rcases hb with rfl | rfl<;>assumption)];exact h.2 c hc h1 h2 h3⟩
theorem aKa{P:Ev.T AB->Prop}{h:Ev.T AB}{b1 b2 b3:Nat}{c1 z:Option AB}(n1:b1≠b2)(n2:b1≠b3)(n3:b2≠b3)(H:∀h':Ev.T AB,h'.get b1=c1->h'.get b2=z->h'.get b3=z->(∀c,c≠b1->c≠b2->c≠b3->h'.get c=h.get c)->P h'):P (((h.set b1 c1).set b2 z).set b3 z):=by
 refine H _ ?_ ?_ ?_ fun c h1 h2 h3=>?_
 ·rw[dd,if_neg n2,dd,if_neg n1,dd,if_pos rfl]
 ·rw[dd,if_neg n3,dd,if_pos rfl]
 ·rw[dd,if_pos rfl]
 ·rw[dd,if_neg h3,dd,if_neg h2,dd,if_neg h1]
theorem aJY{hi:Int}:∀ {l:bu} {lo:Int},l.Pairwise (· < ·)->(∀c∈l,lo<=c/\c<hi)->l.length<=(hi - lo).toNat
 | [],lo,_,_=>by simp
 | c::l,lo,h,hb=>by
  have⟨h1,h2⟩:=Dz.1 h;have hc:=hb c (Br ..);have:=aJY (lo:=c+1) h2 fun c' hc'=>⟨by have:=h1 c' hc';omega,(hb c' (Bj _ hc')).2⟩;rw[Aw];omega
noncomputable def aPa:List AO:=[mt 47 7,
om 48 1 (.cg (.t 47)),
om 49 3 (.cr 5 (.t 48)),
om 50 7 (ld 49),
mt 51 4,
mt 52 8,
om 53 48 (.cn (.slice 1) (.t 51) (.t 52)),
om 54 112 (ld 53),
om 55 255 (.cn (.slice 1) (.t 50) (.t 54)),
om 56 511 (ld 55),
mt 57 7,
om 58 1024 (.cg (.t 57)),
om 59 3072 (.cr 5 (.t 58)),
om 60 7168 (ld 59),
mt 61 8,
om 62 31744 (.cn (.slice 1) (.t 60) (.t 61)),
om 63 64512 (ld 62),
om 64 131071 (bi .add (.t 56) (.t 63)),
om 65 262143 (.cn (.slice 1) (.t 50) (.t 54))]
def szS(T:List cK)(i:Nat)(Z:bu):bu:=if 0<i then(Z.set i (IntKind.i64.wrap (Z.getD i 0+1))).set ((T.map fun t:cK=>t.1).getD i 0).toNat (IntKind.i64.wrap ((Z.set i (IntKind.i64.wrap (Z.getD i 0+1))).getD ((T.map fun t:cK=>t.1).getD i 0).toNat 0+(Z.set i (IntKind.i64.wrap (Z.getD i 0+1))).getD i 0)) else Z.set i (IntKind.i64.wrap (Z.getD i 0+1))
def szG(T:List cK):Nat->bu->bu
 | 0,Z=>Z
 | i+1,Z=>szG T i (szS T i Z)
def szL(T:List cK)(n:Nat):bu:=szG T n (List.replicate n 0)
def aRR(Z0:St)(gb wb plb szb:Nat)(pv nv iv:AV)(g:bD)(T:List cK)(k:Nat)(A:bS)(X:St):Prop:=A.inr=false/\qW plb szb szb Z0 X/\∃R Z,iQ X wb plb szb pv nv iv g R Z/\k<=g.bk.length/\aDz g k R=lC g/\szG T k Z=szL T g.bk.length/\aD 1 A.F= .ptr gb 0/\aD 4 A.F=pv/\aD 7 A.F= .ptr wb 0/\aD 8 A.F= .int .i64 ((k:Int) - 1)
def aRF(Z0:St)(gb wb plb szb:Nat)(pv nv iv a:AV)(g:bD)(i:Nat)(next Z:bu)(k:Nat)(A:bS)(X:St):Prop:=A.inr=false/\qW plb szb szb Z0 X/\∃j R,iQ X wb plb szb pv nv iv g R Z/\j+k=next.length/\aDz g i (aCq (next.drop j) j R)=lC g/\aD 1 A.F= .ptr gb 0/\aD 4 A.F=pv/\aD 7 A.F= .ptr wb 0/\aD 8 A.F= .int .i64 (i:Int)/\aD 71 A.F=a/\aD 72 A.F= .int .i64 (next.length:Int)/\aD 73 A.F= .int .i64 (j:Int)
def aQl(S S':St)(p nv iv:AV)(g:bD):Prop:=∃ (wb plb szb:Nat) (pv:AV) (T:List cK) (Z:bu),p= .ptr wb 0/\S.nx<=wb/\fJ g=some T/\T.length=g.bk.length/\bO .i64 S' pv (T.map (·.1))/\iQ S' wb plb szb pv nv iv g (lC g) Z
def aNS(S S':St)(p nv iv:AV)(g:bD):Prop:=∃ (wb plb szb:Nat) (pv:AV) (T:List cK),p= .ptr wb 0/\S.nx<=wb/\fJ g=some T/\T.length=g.bk.length/\bO .i64 S' pv (T.map (·.1))/\iQ S' wb plb szb pv nv iv g (lC g) (szL T g.bk.length)
theorem aD1{S:St}{nv iv:AV}{g:bD}(H:Has fns)(hn:aP 6 cI S nv g.bk)(hi:aP 2 cW S iv g.bn)(hln:g.bk.length<=100000):
  gH fns (.fn 22 [] []) [.agg [.int .i64 g.bo,nv,iv]] S fun r S'=>Same S S'/\∃p,r= .tup [p,.int .i64 (dB g)]/\(dB g=0->aNS S S' p nv iv g):=by
 refine cF H.f22 (by simp) ?_;refine af ?_;refine bQ ?_;refine dV (by refine af ?_;exact bL _) ?_;intro S1 s1 n1 c1;refine af ?_;refine bQ (cm (iT c1) ?_);refine bE (af ?_);refine aQ (aFV H (aP.same (E:=cI) bT hn s1) (aP.same (E:=cW) cM hi s1) hln) ?_;rintro _ X ⟨pv,rfl,hX,hP⟩;refine df @ex0 @ex1 ?_;refine fE (af ?_);by_cases h0:dB g=0;rotate_left
 ·refine aM (fg (Ab (show dB g≠0 from h0))) ?_;refine bQ (af ?_);refine aR (af ?_);exact⟨s1.trans hX,_,rfl,fun h=>absurd h h0⟩
 refine aK (fg (Aa (show ¬dB g≠0 from fun h=>h h0))) (aH ?_);refine af ?_;have⟨T,hT,hTl,hpv⟩:=hP.2 h0;have hwf:=lK (show eJ g.bk.length (dN g) (g.bk.length+1) 0 (-1) 0=some T from hT);have sX:=s1.trans hX;have lgX:S.nx<X.nx:=by have:=hX.1;omega
 have cX:X.h.get S.nx=some (.cells [.int .i64 g.bo,nv,iv] false 0):=by rw[hX.2 _ ay];exact c1
 have sn:=aP.self hn;have si:=aP.self hi;have sg:=aBp (eM .i64 g.bo) sn si;refine bQ (dk @aF @aE (gI cX) hn.len ?_);refine aA (qO (fun _=>False) ?_);intro X1 x1 hx1 hm1;have hbd:∀ (F:Fr) (h:Ev.T AB) (x y:AV),aD 22 F= .agg [.int .i64 g.bo,nv,iv]->aD 23 F=pv->aD 25 F=x->aD 27 F=y->x.cells=some [x]->y.cells=some [y]->gT (.build [.int .i64 0,.cb,.cb,.cb,.cb,.cb] [(0,3,.t 22),(3,1,.t 23),(4,1,.t 25),(5,1,.t 27)]) F h=some (.agg [.int .i64 g.bo,nv,iv,pv,x,y]):=fun F h x y h1 h2 h3 h4 h5 h6=>by
  show(bH (eZ _ (eH F [(0,3,.t 22),(3,1,.t 23),(4,1,.t 25),(5,1,.t 27)])) fun cs=>some (AV.agg cs))=_;simp only[eH,show(cU.t 22).val F= .agg [.int .i64 g.bo,nv,iv] from h1,show(cU.t 23).val F=pv from h2,show(cU.t 25).val F=x from h3,show(cU.t 27).val F=y from h4,eZ,bO.cells hpv,h5,h6,bL,aN];rfl
 refine dx @aF @aU @aE (iT cX) lgX @Ap sg ?_;refine qI (n:=g.bk.length) (fg @aJ) (fg @aJ) bf bf  ?_;refine af ?_;refine qI (n:=g.bk.length) (fg @aJ) (fg @aJ) bf bf  ?_;have hbd':=fun(F:Fr) (h:Ev.T AB) h1 h2 h3 h4=>hbd F h (.sl (X.nx+3) 0 g.bk.length g.bk.length false) (.sl (X.nx+5) 0 g.bk.length g.bk.length false) h1 h2 h3 h4 rfl rfl;refine df @nS hbd' ?_;refine aJ4 (cs:=[.int .i64 g.bo,nv,iv,pv,.sl (X.nx+3) 0 g.bk.length g.bk.length false,.sl (X.nx+5) 0 g.bk.length g.bk.length false]) (by refine af ?_;exact bL _) ?_;refine af ?_;rw[pN,iD (bg:Nat.testBit (2 ^ 9 - 1) 7=true),iD (bg:Nat.testBit (2 ^ 9 - 1) 5=true),iD (bg:Nat.testBit (2 ^ 9 - 1) 3=true),bX];refine aKa (P:=fun h'=>lU fns _ _ ⟨h',X1.nx⟩ _) ay ay ay ?_;intro Zh gw g5 g3 gr;have hm1:X1.nx=X.nx+9:=hm1;have sZ:Same S ⟨Zh,X1.nx⟩:=⟨by show S.nx<=X1.nx;have:=sX.1;omega,fun c hc=>by
  have:=sX.1;show Zh.get c=S.h.get c;rw[gr c ay ay ay,hx1];exact sX.2 c hc⟩
 have cZ:Zh.get S.nx=some (.cells [.int .i64 g.bo,nv,iv] false 0):=by
  rw[gr _ ay ay ay,hx1];exact cX
 have hB:iQ ⟨Zh,X1.nx⟩ (X.nx+7) (X.nx+3) (X.nx+5) pv nv iv g (List.replicate g.bk.length 0) (List.replicate g.bk.length 0):=⟨⟨gw,by show X.nx+7<X1.nx;omega⟩,g3,g5,Aq ..,Aq ..,by show _<X1.nx;omega,by show _<X1.nx;omega⟩;have sXZ:Same X ⟨Zh,X1.nx⟩:=⟨by show X.nx<=X1.nx;omega,fun c hc=>by
  show Zh.get c=X.h.get c;rw[gr c ay ay ay,hx1]⟩
 have lwS:=sX.1;generalize hZ:(⟨Zh,X1.nx⟩:St)=Z0 at *;have cZ:Z0.h.get S.nx=some (.cells [.int .i64 g.bo,nv,iv] false 0):=by rw[<-hZ];exact cZ
 have lgZ:S.nx<Z0.nx:=Ae lgX sXZ.1;have n73:X.nx+7≠X.nx+3:=by omega
 have n75:X.nx+7≠X.nx+5:=by omega
 have n35:X.nx+3≠X.nx+5:=by omega
 have ng3:S.nx≠X.nx+3:=by omega
 have ng5:S.nx≠X.nx+5:=by omega
 have l3:S.nx<=X.nx+3:=by omega
 have l5:S.nx<=X.nx+5:=by omega
 have l7:S.nx<=X.nx+7:=by omega
 have lx3:X.nx<=X.nx+3:=by omega
 have lx5:X.nx<=X.nx+5:=by omega
 generalize hb7:X.nx+7=wb at *;generalize hb3:X.nx+3=plb at *;generalize hb5:X.nx+5=szb at *;have hcr:∀i,i<g.bk.length->∀c∈dN g i,(i:Int)<c/\c<(g.bk.length:Int):=fun i hi c hc=>by
  have:=hwf.cf i ay c (by rw[An];exact hc);omega
 have hpr:∀i,0<i->i<g.bk.length->∃q:Nat,q<i/\(T.map (·.1)).getD i 0=(q:Int):=fun i h1 h2=>by
  have⟨q,a,b,_⟩:=hwf.pf i h1 ay;refine⟨q,a,?_⟩;rw[Ad,Bc];unfold kH at b;rw[b,An];rfl
 have hN:g.bk.length<=100000:=hln;have w0:IntKind.i64.wrap ((g.bk.length:Int) - 1)=(g.bk.length:Int) - 1:=wrap_i64 ay ay;refine aA (aW (Q:=fun o A' Y=>o= .normal/\aRR Z0 S.nx wb plb szb pv nv iv g T 0 A' Y) (aA (aG ?_)) ?_)
 ·refine dz w0 ?_;refine aL (bK (aRR Z0 S.nx wb plb szb pv nv iv g T) ?_ g.bk.length _ _ ⟨rfl,qW.refl _ _ _ _,_,_,hB,Ag _,rfl,rfl,by refine⟨?_,?_,?_,?_⟩<;>simp only[↓aC,aB,rE,↓reduceIte,rA]⟩);rintro k ⟨F,inr⟩ Y ⟨q0,hY,R,Z,hB,hkN,hpl,hsz,p1,p4,p7,p8⟩;simp only at q0 p1 p4 p7 p8;subst q0;refine fE (dz p8 ?_);by_cases hk:0<k
  ·refine aM ff (aH ?_);refine aq ?_;obtain⟨i,rfl⟩:∃i,k=i+1:=⟨k - 1,ay⟩;have e1:(((i+1:Nat):Int)) - 1=(i:Int):=by omega
   rw[e1] at p8;have hlt:i<g.bk.length:=by omega
   have hia:=eX (b:=szb) (o:=false) hlt;have hltZ:i<Z.length:=by rw[hB.lz];exact hlt
   have hz0:=cV (p:=i) (x:=.int .i64 (Z.getD i 0)) hB.gz (by unfold bJ;rw[Bc,Ac hltZ,Ad,Ac hltZ];rfl);refine aA (aL (aA (aG ?_)));simp only[↓aC,aB,rE,↓reduceIte,rA,p7,p8,aY,bB,aF,aE,dW hB.w.1,aJ,hia,hz0];refine fD (fun call=>by refine d6 @dS @cH ?_;exact sP (S:=Y) hB.gz hltZ) ?_;refine aq ?_;have hS:szS T i Z=if 0<i then(Z.set i (IntKind.i64.wrap (Z.getD i 0+1))).set ((T.map fun t:cK=>t.1).getD i 0).toNat (IntKind.i64.wrap ((Z.set i (IntKind.i64.wrap (Z.getD i 0+1))).getD ((T.map fun t:cK=>t.1).getD i 0).toNat 0+(Z.set i (IntKind.i64.wrap (Z.getD i 0+1))).getD i 0)) else Z.set i (IntKind.i64.wrap (Z.getD i 0+1)):=rfl;have hsz:szG T i (szS T i Z)=szL T g.bk.length:=hsz;generalize szS T i Z=ZS at hS hsz;have hB1:=hB.setZ (Z':=Z.set i (IntKind.i64.wrap (Z.getD i 0+1))) n75 n35 (Ag _) (by rw[Ar];exact hB.lz);have hY1:=hY.put (b:=szb) (v:=some (.cells (bJ (Z.set i (IntKind.i64.wrap (Z.getD i 0+1)))) false 0)) (.inr rfl) (Ag Y.nx);generalize (⟨Y.h.set szb (some (.cells (bJ (Z.set i (IntKind.i64.wrap (Z.getD i 0+1)))) false 0)),Y.nx⟩:St)=Y1 at *;generalize Z.set i (IntKind.i64.wrap (Z.getD i 0+1))=Z1 at *;clear hz0 hltZ hB hY;have sXY:Same X Y1:=hY1.same sXZ lx3 lx5 lx5;have hltZ:i<Z1.length:=by rw[hB1.lz];exact hlt
   have ldz:∀j,j<g.bk.length->eQ (.ptr szb j) false 1 Y1.h=some (.int .i64 (Z1.getD j 0)):=fun j hj=>cV hB1.gz (by
    have hj':j<Z1.length:=by rw[hB1.lz];exact hj
    unfold bJ;rw[Bc,Ac hj',Ad,Ac hj'];rfl)
   refine aA (aW (Q:=fun o A' Y'=>o= .normal/\A'.inr=false/\qW plb szb szb Z0 Y'/\iQ Y' wb plb szb pv nv iv g R ZS/\aD 1 A'.F= .ptr S.nx 0/\aD 4 A'.F=pv/\aD 7 A'.F= .ptr wb 0/\aD 8 A'.F= .int .i64 (i:Int)) (aA (aG ?_)) ?_)
   ·refine dz p8 ?_;by_cases hi0:0<i
    ·refine aM ff ?_;have⟨q,hq,hqv⟩:=hpr i hi0 hlt;have hltP:i<(T.map (·.1)).length:=by rw[Ay];omega
     have iap:=(hpv.same sXY).cn hltP;have lap:=(hpv.same sXY).ld hltP;rw[hqv] at lap;have hiq:=eX (b:=szb) (N:=g.bk.length) (o:=false) (ay:q<g.bk.length);have lq:=ldz q ay;have li:=ldz i hlt;rw[if_pos hi0,hqv,Ax] at hS;subst hS;refine oY (pre:=aPa) (K:=19) (m:=524287) (n:=1) (x:=.t 65) (v:=.t 64) rfl rfl rfl rfl ?_;unfold aPa;simp only[↓aC,aB,rE,↓reduceIte,rA,p4,p7,p8,aY,bN,bB,aF,aU,aE,dW hB1.w.1,aJ,iap,lap,hiq,lq,hia,li];simp only[cH,aN];exact⟨_,sP (S:=⟨Y1.h,Y1.nx+20⟩) hB1.gz (by rw[hB1.lz];omega),hY1.put (.inr rfl) (Cc _ _),hB1.setZ n75 n35 (Cc _ _) (by rw[Ar];exact hB1.lz),p1⟩
    ·refine aK ff (aH ?_);refine aq ?_;rw[if_neg hi0] at hS;subst hS;exact⟨hY1,hB1,by refine⟨?_,?_,?_,?_⟩<;>simp only[↓aC,aB,rE,↓reduceIte,rA,p1,p4,p7,p8]⟩
   clear p1 p4 p7 p8 ldz hltZ hY1 hB1 sXY;rintro o ⟨F,inr⟩ Y2 ⟨rfl,q0,hY2,hB2,p1,p4,p7,p8⟩;simp only at q0 p1 p4 p7 p8;subst q0;refine aq ?_;have sSY:Same S Y2:=hY2.same sZ l3 l5 l5;have cY:Y2.h.get S.nx=some (.cells [.int .i64 g.bo,nv,iv] false 0):=by rw[hY2.2 _ lgZ ng3 ng5 ng5];exact cZ
   obtain⟨x,hx⟩:∃x,g.bk[i]? =some x:=⟨_,Ac hlt⟩;have hnx:=uM hx;obtain⟨e,b,q,hian,hb,he,⟨a,bb,cc,rfl,ha,_,_⟩,_,hlf⟩:=aP.at hn bg hx;have hl3:=hlf 3 a rfl;rw[<-oM sSY hb] at hl3;have hcx:=hcr i hlt;rw[hnx] at hcx;have hpl:aDz g i (aCq x.next 0 R)=lC g:=by rw[<-hnx];exact hpl
   have hxl:x.next.length<=100000:=by
    have hinc:=hwf.inc i ay;rw[An,hnx] at hinc;have:=aJY (lo:=0) hinc fun c hc=>⟨by have:=(hcx c hc).1;omega,(hcx c hc).2⟩;omega
   refine bQ ?_;simp only[↓aC,aB,rE,↓reduceIte,rA,p1,p8,aF,aE,gI cY,aJ,hian,hl3,ha.len,Ah];refine aW (Q:=fun o A' Y'=>o= .normal/\aRF Z0 S.nx wb plb szb pv nv iv a g i x.next ZS 0 A' Y') ?_ ?_
   ·refine aL (bK (aRF Z0 S.nx wb plb szb pv nv iv a g i x.next ZS) ?_ x.next.length _ _ ⟨rfl,hY2,0,R,hB2,ay,hpl,by refine⟨?_,?_,?_,?_,?_,?_,?_⟩<;>simp only[↓aC,aB,rE,↓reduceIte,rA,p1,p4,p7,p8]⟩);clear p1 p4 p7 p8 hpl cY hian hb hl3 hlf hB2 hY2 sSY;rintro k ⟨F,inr⟩ W ⟨q0,hW,j,R,hB,hjk,hpl,p1,p4,p7,p8,p71,p72,p73⟩;simp only at q0 p1 p4 p7 p8 p71 p72 p73;subst q0;refine bQ (d6 p72 p73 ?_);by_cases hj:j<x.next.length
    ·refine aA (aM ff (aH ?_));refine aq ?_;have sSW:Same S W:=hW.same sZ l3 l5 l5;have haW:=ha.same sSW;have iaj:=haW.cn hj;have laj:=haW.ld hj;have hdr:x.next.drop j=x.next[j]::x.next.drop (j+1):=Cg hj;have hgd:x.next.getD j 0=x.next[j]:=by rw[Ad,Ac hj];rfl
     rw[hgd] at laj;rw[hdr] at hpl;have⟨c0,c1'⟩:=hcx _ (Bo hj);generalize x.next[j]=c at *;obtain⟨m,rfl⟩:∃m:Nat,c=(m:Int):=⟨c.toNat,ay⟩;have hm:m<g.bk.length:=by omega
     have hiam:=eX (b:=plb) (o:=false) hm;have w1:=dc j
     refine aA (aL (aA (aG ?_)));refine d9 p71 p73 @aJ iaj laj ?_;refine aG (eg p7 @aY @bB @aF @aE (dP hB.w.1) @aJ hiam ?_);refine fD (fun call=>by refine d6 @dS @cH ?_;exact sP (S:=W) hB.gp (by rw[hB.lp];exact hm)) ?_;refine aq ?_;refine aG ?_;simp only[↓aC,aB,rE,↓reduceIte,rA,p73,w1];simp only[aCq,Ax] at hpl;exact⟨k - 1,ay,rfl,hW.put (.inl rfl) (Ag _),j+1,R.set m (j:Int),hB.setP n73 n35 (Ag _) (by rw[Ar];exact hB.lp),ay,hpl,by refine⟨?_,?_,?_,?_,?_,?_,?_⟩<;>simp only[↓aC,aB,rE,↓reduceIte,rA,p1,p4,p7,p8,p71,p72]⟩
    ·refine aA (aK ff (bG ?_));refine aq ?_;have hk0:k=0:=by omega
     subst hk0;exact⟨rfl,hW,j,R,hB,hjk,hpl,by refine⟨?_,?_,?_,?_,?_,?_,?_⟩<;>simp only[↓aC,aB,rE,↓reduceIte,rA,p1,p4,p7,p8,p71,p72,p73]⟩
   clear p1 p4 p7 p8;rintro o ⟨F,inr⟩ W ⟨rfl,q0,hW,j,R3,hB3,hjk,hpl3,p1,p4,p7,p8,p71,p72,p73⟩;simp only at q0 p1 p4 p7 p8;subst q0;rw[Ct ay] at hpl3;have w2:IntKind.i64.wrap ((i:Int) - 1)=(i:Int) - 1:=wrap_i64 ay ay;refine aq ?_;refine aG (d6 p8 w2 ?_);exact⟨i,ay,rfl,hW,R3,ZS,hB3,ay,hpl3,hsz,by refine⟨?_,?_,?_,?_⟩<;>simp only[↓aC,aB,rE,↓reduceIte,rA,p1,p4,p7]⟩
  ·refine aK ff (bG ?_);refine aq ?_;have hk0:k=0:=by omega
   subst hk0;exact⟨rfl,hY,R,Z,hB,hkN,hpl,hsz,by refine⟨?_,?_,?_,?_⟩<;>simp only[↓aC,aB,rE,↓reduceIte,rA,p1,p4,p7,p8]⟩
 rintro o ⟨F,inr⟩ Y ⟨rfl,q0,hY,R,Z,hB,hkN,hpl,hsz,p1,p4,p7,p8⟩;simp only at q0 p7;subst q0;have hpl:R=lC g:=hpl;subst hpl;have hsz:Z=szL T g.bk.length:=hsz;subst hsz;refine aq ?_;refine bQ (dz p7 ?_);refine aR (aq ?_);rw[h0];have sXY:Same X Y:=hY.same sXZ lx3 lx5 lx5;exact⟨sX.trans sXY,_,rfl,fun _=>⟨wb,plb,szb,pv,T,rfl,l7,hT,hTl,hpv.same sXY,hB⟩⟩
theorem xT{S:St}{nv iv:AV}{g:bD}(H:Has fns)(hn:aP 6 cI S nv g.bk)(hi:aP 2 cW S iv g.bn)(hln:g.bk.length<=100000):
  gH fns (.fn 22 [] []) [.agg [.int .i64 g.bo,nv,iv]] S fun r S'=>Same S S'/\∃p,r= .tup [p,.int .i64 (dB g)]/\(dB g=0->aQl S S' p nv iv g):=by
 refine aQ (aD1 H hn hi hln) fun r S' h=>?_;have⟨h1,p,h2,h3⟩:=h;refine⟨h1,p,h2,fun h0=>?_⟩;have⟨wb,plb,szb,pv,T,a,b,c,d,e,f⟩:=h3 h0;exact⟨wb,plb,szb,pv,T,_,a,b,c,d,e,f⟩
def aCO(m:bu):Prop:=∃i k,k<i/\i<m.length/\m.getD i 0=m.getD k 0
open Classical in
noncomputable def iF(n:Nat)(m:bu)(ok:Prop):Int:=if m.length≠n then 10 else if ¬nE m n then 2 else if aCO m then 8 else if ok then 0 else 3
def CkR(S1:St)(gb:Nat)(mv:AV)(n:Nat)(m:bu)(k:Nat)(A:bS)(X:St):Prop:=A.inr=false/\Same S1 X/\∃i,i+k=n/\(∀j,j<i->0<=m.getD j 0/\m.getD j 0<n)/\aD 1 A.F=mv/\aD 2 A.F= .ptr gb 0/\aD 5 A.F= .int .i64 (n:Int)/\aD 6 A.F= .int .i64 (i:Int)
def CkD(S1:St)(gb:Nat)(mv:AV)(n:Nat)(m:bu)(k:Nat)(A:bS)(X:St):Prop:=A.inr=false/\Same S1 X/\∃i,i+k=n/\(∀j l,l<j->j<i->m.getD j 0≠m.getD l 0)/\aD 1 A.F=mv/\aD 2 A.F= .ptr gb 0/\aD 5 A.F= .int .i64 (n:Int)/\aD 7 A.F= .int .i64 (i:Int)
def CkE(S1:St)(gb:Nat)(mv:AV)(n i:Nat)(m:bu)(k:Nat)(A:bS)(X:St):Prop:=A.inr=false/\Same S1 X/\∃l,l+k=i/\(∀j,j<l->m.getD i 0≠m.getD j 0)/\aD 1 A.F=mv/\aD 2 A.F= .ptr gb 0/\aD 5 A.F= .int .i64 (n:Int)/\aD 7 A.F= .int .i64 (i:Int)/\aD 8 A.F= .int .i64 (l:Int)
theorem aHT{S:St}{nv iv mv:AV}{g:bD}{m:bu}{ok:Prop}(H:Has fns)(hn:aP 6 cI S nv g.bk)(hm:bO .i64 S mv m)(hln:g.bk.length<=100000)
  (himg:m.length=g.bk.length->nE m g.bk.length->¬aCO m->∀S',Same S S'->gH fns (.fn 33 [] []) [.agg [.int .i64 g.bo,nv,iv],mv] S' fun r S''=>Same S' S''/\∃a b t,r= .tup [a,b,.bool t]/\(t=true↔ok)):
  gH fns (.fn 29 [] []) [.agg [.int .i64 g.bo,nv,iv],mv] S fun r S'=>r= .int .i64 (iF g.bk.length m ok)/\Same S S':=by
 refine cF H.f29 (by simp) ?_;refine af ?_;refine bQ ?_;refine dV (by refine af ?_;exact bL _) ?_;intro S1 s1 n1 c1;refine af ?_;have lg1:S.nx<S1.nx:=by omega
 refine bQ (dk @aF @aE (gI c1) hn.len ?_);refine fE (df hm.len @Ah ?_);by_cases hlen:m.length=g.bk.length;rotate_left
 ·refine aM fe ?_;refine bQ (af ?_);refine aR ?_;simp only[↓sU,sD,rE,↓reduceIte,rA];unfold iF;rw[if_pos hlen];exact⟨rfl,s1⟩
 refine aK fe (aH ?_);simp only[↓sU,sD,rE,↓reduceIte,rA];unfold iF;rw[if_neg (fun h=>h hlen)];refine aA (aW (Q:=fun o A' X=>(o= .normal/\CkR S1 S.nx mv g.bk.length m 0 A' X)\/(o= .ret/\Same S1 X/\¬nE m g.bk.length/\aD 4 A'.F= .int .i64 2)) (aA (aG ?_)) ?_)
 ·refine aq ?_;refine aL (bK (CkR S1 S.nx mv g.bk.length m) ?_ g.bk.length _ _ ⟨rfl,de _,0,ay,fun j hj=>ay,by refine⟨?_,?_,?_,?_⟩<;>simp only[↓aC,aB,rE,↓reduceIte,rA]⟩);rintro k ⟨F,inr⟩ X ⟨q0,hX,i,hik,hr,p1,p2,p5,p6⟩;simp only at q0 p1 p2 p5 p6;subst q0;refine fE (d6 p5 p6 ?_);by_cases hlt:i<g.bk.length
  ·refine aM ff (aH ?_);refine aq ?_;have hmX:=hm.same (s1.trans hX);have ia:=hmX.cn (ay:i<m.length);have la:=hmX.ld (ay:i<m.length);have hmem:m.getD i 0∈m:=by rw[Ad,Ac (ay:i<m.length)];exact Bo _
   have w1:=dc i
   refine aA (aL (aA (aW (Q:=fun o A' Y=>o= .normal/\A'.inr=false/\Y=X/\aD 1 A'.F=mv/\aD 2 A'.F= .ptr S.nx 0/\aD 5 A'.F= .int .i64 (g.bk.length:Int)/\aD 6 A'.F= .int .i64 (i:Int)/\aD 36 A'.F= .bool (decide (m.getD i 0<0\/(g.bk.length:Int)<=m.getD i 0))) (aG ?_) ?_)))
   ·by_cases h1:m.getD i 0<0
    ·rw[Ab (show m.getD i 0<0\/(g.bk.length:Int)<=m.getD i 0 from .inl h1)];simp only[↓aC,aB,rE,↓reduceIte,rA,p1,p2,p5,p6,aJ,ia,la,Ab h1]
    ·by_cases h2:(g.bk.length:Int)<=m.getD i 0
     ·rw[Ab (show m.getD i 0<0\/(g.bk.length:Int)<=m.getD i 0 from .inr h2)];simp only[↓aC,aB,rE,↓reduceIte,rA,p1,p2,p5,p6,aJ,ia,la,Aa h1,Ab h2]
     ·rw[Aa (ay:¬ (m.getD i 0<0\/(g.bk.length:Int)<=m.getD i 0))];simp only[↓aC,aB,rE,↓reduceIte,rA,p1,p2,p5,p6,aJ,ia,la,Aa h1,Aa h2]
   clear p1 p2 p5 p6;rintro o ⟨F,inr⟩ Y ⟨rfl,q0,hYX,p1,p2,p5,p6,pb⟩;simp only at q0 p1 p2 p5 p6 pb;subst q0;rw[hYX];refine aq ?_;by_cases hbad:m.getD i 0<0\/(g.bk.length:Int)<=m.getD i 0
   ·refine aM (fl pb (Ab hbad)) ?_;refine bQ (aq ?_);refine aR (aq ?_);exact .inr ⟨hX,fun h=>by have:=h _ hmem;omega⟩
   ·refine aK (fl pb (Aa hbad)) (aH ?_);refine aq ?_;refine aG (d6 p6 w1 ?_);refine⟨k - 1,ay,rfl,hX,i+1,ay,fun j hj=>?_,by refine⟨?_,?_,?_,?_⟩<;>simp only[↓aC,aB,rE,↓reduceIte,rA,p1,p2,p5]⟩;by_cases hji:j=i
    ·rw[hji];omega
    ·exact hr j ay
  ·refine aK ff (bG ?_);refine aq ?_;have hk0:k=0:=by omega
   subst hk0;exact .inl ⟨rfl,hX,i,hik,hr,by refine⟨?_,?_,?_,?_⟩<;>simp only[↓aC,aB,rE,↓reduceIte,rA,p1,p2,p5,p6]⟩
 rintro o ⟨F,inr⟩ X (⟨rfl,q0,hX,i,hik,hr,p1,p2,p5,p6⟩ | ⟨rfl,hX,hno,p4⟩);rotate_left
 ·simp only at p4;refine dz p4 ?_;rw[if_pos hno];exact⟨rfl,s1.trans hX⟩
 simp only at q0 p1 p2 p5;subst q0;have hin:nE m g.bk.length:=fun x hx=>by
  obtain⟨j,hj,rfl⟩:=Cv.1 hx;have:=hr j ay;rw[Ad,Ac hj] at this;exact this
 rw[if_neg (fun h=>h hin)];clear p6 hik hr i;refine aq ?_;refine aA (aW (Q:=fun o A' Y=>(o= .normal/\CkD X S.nx mv g.bk.length m 0 A' Y)\/(o= .ret/\Same X Y/\aCO m/\aD 4 A'.F= .int .i64 8)) (aA (aG ?_)) ?_)
 ·refine aq ?_;refine aL (bK (CkD X S.nx mv g.bk.length m) ?_ g.bk.length _ _ ⟨rfl,de _,0,ay,fun j l _ hj=>ay,by refine⟨?_,?_,?_,?_⟩<;>simp only[↓aC,aB,rE,↓reduceIte,rA,p1,p2,p5]⟩);clear p1 p2 p5;rintro k ⟨F,inr⟩ Y ⟨q0,hY,i,hik,hr,p1,p2,p5,p7⟩;simp only at q0 p1 p2 p5 p7;subst q0;refine fE (d6 p5 p7 ?_);by_cases hlt:i<g.bk.length
  ·refine aM ff (aH ?_);refine aq ?_;have w1:=dc i
   refine aA (aL (aA (aG ?_)));refine aq ?_;refine aW (Q:=fun o A' W=>(o= .normal/\CkE Y S.nx mv g.bk.length i m 0 A' W)\/(o= .ret/\Same Y W/\aCO m/\aD 4 A'.F= .int .i64 8)) (aL (bK (CkE Y S.nx mv g.bk.length i m) ?_ i _ _ ⟨rfl,de _,0,ay,fun j hj=>ay,by refine⟨?_,?_,?_,?_,?_⟩<;>simp only[↓aC,aB,rE,↓reduceIte,rA,p1,p2,p5,p7]⟩)) ?_
   ·clear p1 p2 p5 p7;rintro k ⟨F,inr⟩ W ⟨q0,hW,l,hlk,hd,p1,p2,p5,p7,p8⟩;simp only at q0 p1 p2 p5 p7 p8;subst q0;refine fE (d6 p7 p8 ?_);by_cases hl:l<i
    ·refine aM ff (aH ?_);refine aq ?_;have hmW:=hm.same (s1.trans (hX.trans (hY.trans hW)));have ia:=hmW.cn (ay:i<m.length);have la:=hmW.ld (ay:i<m.length);have ib:=hmW.cn (ay:l<m.length);have lb:=hmW.ld (ay:l<m.length);have w2:=dc l
     refine aA (aL (aA (iJ ?_)));refine eg p1 p7 p8 @aJ ia la ib lb ?_;by_cases he:m.getD i 0=m.getD l 0
     ·refine aM (fj (Ab he)) ?_;refine bQ (aq ?_);refine aR (aq ?_);exact .inr ⟨hW.trans (Same.nx _ _),i,l,hl,ay,he⟩
     ·refine aK (fj (Aa he)) (aH ?_);refine aq ?_;refine aG (d6 p8 w2 ?_);refine⟨k - 1,ay,rfl,hW.trans (Same.nx _ _),l+1,ay,fun j hj=>?_,by refine⟨?_,?_,?_,?_,?_⟩<;>simp only[↓aC,aB,rE,↓reduceIte,rA,p1,p2,p5,p7]⟩;by_cases hjl:j=l
      ·rw[hjl];exact he
      ·exact hd j ay
    ·refine aK ff (bG ?_);refine aq ?_;have hk0:k=0:=by omega
     subst hk0;exact .inl ⟨rfl,hW,l,hlk,hd,by refine⟨?_,?_,?_,?_,?_⟩<;>simp only[↓aC,aB,rE,↓reduceIte,rA,p1,p2,p5,p7,p8]⟩
   clear p1 p2 p5 p7;rintro o ⟨F,inr⟩ W (⟨rfl,q0,hW,l,hlk,hd,p1,p2,p5,p7,p8⟩ | ⟨rfl,hW,hdup,p4⟩)
   ·simp only at q0 p1 p2 p5 p7;subst q0;refine aq ?_;refine aG (d6 p7 w1 ?_);refine⟨k - 1,ay,rfl,hY.trans hW,i+1,ay,fun j l' hl' hj=>?_,by refine⟨?_,?_,?_,?_⟩<;>simp only[↓aC,aB,rE,↓reduceIte,rA,p1,p2,p5]⟩;by_cases hji:j=i
    ·rw[hji];exact hd l' ay
    ·exact hr j l' hl' ay
   ·simp only at p4;refine aq ?_;exact .inr ⟨hY.trans hW,hdup,p4⟩
  ·refine aK ff (bG ?_);refine aq ?_;have hk0:k=0:=by omega
   subst hk0;exact .inl ⟨rfl,hY,i,hik,hr,by refine⟨?_,?_,?_,?_⟩<;>simp only[↓aC,aB,rE,↓reduceIte,rA,p1,p2,p5,p7]⟩
 clear p1 p2 p5;rintro o ⟨F,inr⟩ Y (⟨rfl,q0,hY,i,hik,hr,p1,p2,p5,p7⟩ | ⟨rfl,hY,hdup,p4⟩);rotate_left
 ·simp only at p4;refine dz p4 ?_;rw[if_pos hdup];exact⟨rfl,s1.trans (hX.trans hY)⟩
 simp only at q0 p1 p2;subst q0;have hnd:¬aCO m:=fun⟨i',k',h1,h2,h3⟩=>hr i' k' h1 ay h3;rw[if_neg hnd];have sY:=s1.trans (hX.trans hY);have cY:Y.h.get S.nx=some (.cells [.int .i64 g.bo,nv,iv] false 0):=by rw[(hX.trans hY).2 _ lg1];exact c1
 refine aq ?_;refine fE (d7 p1 p2 (iT cY) ?_);refine bE (aq ?_);refine aQ (himg hlen hin hnd Y sY) ?_;rintro _ Z ⟨hZ,a,b,t,rfl,ht⟩;have ex2:jU (.tup [a,b,.bool t]) 2=some (.bool t):=rfl;refine d7 @ex0 @ex1 ex2 ?_;refine bQ (dz @eF ?_);cases t with
 | false=>
  rw[if_neg (fun h=>by have:=ht.2 h;cases this)];refine aM (by simp only[↓aC,aB,rE,↓reduceIte,rA];rfl) ?_;refine bQ (aq ?_);refine aR (aq ?_);exact sY.trans hZ
 | true=>
  rw[if_pos (ht.1 rfl)];refine aK (by simp only[↓aC,aB,rE,↓reduceIte,rA];rfl) (aH ?_);refine aq ?_;refine bQ (aq ?_);refine aR (aq ?_);exact sY.trans hZ
def aR3(S1:St)(mv:AV)(w e:Nat)(n:Nat)(m:bu)(k:Nat)(A:bS)(X:St):Prop:=A.inr=false/\Same S1 X/\∃i,i+k=m.length/\(∀j,j<i->0<=m.getD j 0/\m.getD j 0<n)/\aD 0 A.F= .ptr w 0/\aD 1 A.F=mv/\aD 4 A.F= .ptr e 0/\aD 6 A.F= .int .i64 (n:Int)/\aD 25 A.F=mv/\aD 26 A.F= .int .i64 (m.length:Int)/\aD 27 A.F= .int .i64 (i:Int)
def aRu(X1:St)(mv:AV)(w e sb n:Nat)(m:bu)(k:Nat)(A:bS)(X:St):Prop:=A.inr=false/\cC sb X1 X/\sb<X.nx/\∃i cs,i+k=m.length/\X.h.get sb=some (.cells cs false 0)/\cs.length=n/\(∀v,v<n->cs[v]? =some (.bool (decide (∃j,j<i/\m.getD j 0=(v:Int)))))/\(∀j l,l<j->j<i->m.getD j 0≠m.getD l 0)/\aD 0 A.F= .ptr w 0/\aD 1 A.F=mv/\aD 4 A.F= .ptr e 0/\aD 9 A.F= .sl sb 0 n n false/\aD 42 A.F=mv/\aD 43 A.F= .int .i64 (m.length:Int)/\aD 44 A.F= .int .i64 (i:Int)
theorem tX{S:St}{wb:Nat}{nv iv pv plv szv mv:AV}{g:bD}{m:bu}{ok:Prop}{P:St->St->AV->AV->Prop}(H:Has fns)(hP:∀ {S0 S1 S2:St} {x y:AV},P S0 S1 x y->S1.nx<=S2.nx->(∀c,S0.nx<=c->c<S1.nx->S2.h.get c=S1.h.get c)->P S0 S2 x y)(hW:tQ S wb g.bo nv iv pv plv szv)(hn:aP 6 cI S nv g.bk)(hm:bO .i64 S mv m)(hln:g.bk.length<=100000)
  (himg:m.length=g.bk.length->nE m g.bk.length->¬aCO m->∀S',Same S S'->gH fns (.fn 25 [] []) [.ptr wb 0,mv] S' fun r S''=>Same S' S''/\∃x y t,r= .tup [.agg [x,y],.bool t]/\(t=true↔ok)/\(t=true->P S' S'' x y)):
  gH fns (.fn 43 [] []) [.ptr wb 0,mv] S fun r S'=>Same S S'/\∃x y,r= .tup [.agg [x,y],.int .i64 (iF g.bk.length m ok)]/\(iF g.bk.length m ok=0->∃S0,S.nx<=S0.nx/\P S0 S' x y)/\(iF g.bk.length m ok≠0->x= .cb/\y= .cb):=by
 have hb0:∀ (F:Fr) (h:Ev.T AB),gT (.build [.cb,.cb] []) F h=some (.agg [.cb,.cb]):=fun _ _=>rfl;refine cF H.f43 (by simp) ?_;refine aq ?_;refine bQ ?_;refine dC ?_;intro S1 s1 n1 c1;refine aq ?_;have lw:=hW.2;have hW1:=hW.same s1;have le:S.nx<S1.nx:=by omega
 refine bQ (ec @aY @bB @aF @aE (dL hW1.1) hn.len ?_);refine fE (d6 hm.len @Ah ?_);by_cases hlen:m.length=g.bk.length;rotate_left
 ·have hE:iF g.bk.length m ok=10:=by unfold iF;rw[if_pos hlen]
  rw[hE];refine aM ff ?_;refine bQ (dz hb0 ?_);refine eS (b:=S.nx) (ar) (by refine aq ?_;exact bL _) c1 rfl rfl ?_;intro S2 s2 n2 c2;refine aq ?_;have ld2:=rB (n:=2) c2 rfl;refine aR (d6 @gF ld2 ?_);exact⟨s2.same s1 (Ag _),_,_,rfl,fun h=>absurd h bg,fun _=>⟨rfl,rfl⟩⟩
 refine aK ff (aH ?_);refine aq ?_;refine aA (aW (Q:=fun o A' X=>(o= .normal/\aR3 S1 mv wb S.nx g.bk.length m 0 A' X)\/(o= .ret/\cC S.nx S1 X/\X.h.get S.nx=some (.cells [.cb,.cb] false 0)/\¬nE m g.bk.length/\aD 4 A'.F= .ptr S.nx 0/\aD 5 A'.F= .int .i64 2)) (aA (aG ?_)) ?_)
 ·refine d6 hm.len @Ah ?_;refine aL (bK (aR3 S1 mv wb S.nx g.bk.length m) ?_ m.length _ _ ⟨rfl,de _,0,ay,fun j hj=>ay,by refine⟨?_,?_,?_,?_,?_,?_,?_⟩<;>simp only[↓aC,aB,rE,↓reduceIte,rA]⟩);rintro k ⟨F,inr⟩ X ⟨q0,hX,i,hik,hr,p0,p1,p4,p6,p25,p26,p27⟩;simp only at q0 p0 p1 p4 p6 p25 p26 p27;subst q0;refine bQ (d6 p26 p27 ?_);by_cases hlt:i<m.length
  ·refine aA (aM ff (aH ?_));refine aq ?_;have hmX:=hm.same (s1.trans hX);have ia:=hmX.cn hlt;have la:=hmX.ld hlt;have hmem:m.getD i 0∈m:=by rw[Ad,Ac hlt];exact Bo _
   have cX:X.h.get S.nx=some (.cells [.cb,.cb] false 0):=by rw[hX.2 _ le];exact c1
   have w1:=dc i
   refine aA (aL (aA (aG ?_)));refine d9 p25 p27 @aJ ia la ?_;refine aA (aW (Q:=fun o A' Y=>o= .normal/\A'.inr=false/\Y=X/\aD 0 A'.F= .ptr wb 0/\aD 1 A'.F=mv/\aD 4 A'.F= .ptr S.nx 0/\aD 6 A'.F= .int .i64 (g.bk.length:Int)/\aD 25 A'.F=mv/\aD 26 A'.F= .int .i64 (m.length:Int)/\aD 27 A'.F= .int .i64 (i:Int)/\aD 37 A'.F= .bool (decide (m.getD i 0<0\/(g.bk.length:Int)<=m.getD i 0))) (aG ?_) ?_)
   ·by_cases h1:m.getD i 0<0
    ·rw[Ab (show m.getD i 0<0\/(g.bk.length:Int)<=m.getD i 0 from .inl h1)];simp only[↓aC,aB,rE,↓reduceIte,rA,p0,p1,p4,p6,p25,p26,p27,Ab h1]
    ·by_cases h2:(g.bk.length:Int)<=m.getD i 0
     ·rw[Ab (show m.getD i 0<0\/(g.bk.length:Int)<=m.getD i 0 from .inr h2)];simp only[↓aC,aB,rE,↓reduceIte,rA,p0,p1,p4,p6,p25,p26,p27,Aa h1,Ab h2]
     ·rw[Aa (ay:¬ (m.getD i 0<0\/(g.bk.length:Int)<=m.getD i 0))];simp only[↓aC,aB,rE,↓reduceIte,rA,p0,p1,p4,p6,p25,p26,p27,Aa h1,Aa h2]
   clear p0 p1 p4 p6 p25 p26 p27;rintro o ⟨F,inr⟩ Y ⟨rfl,q0,hYX,p0,p1,p4,p6,p25,p26,p27,pb⟩;simp only at q0 p0 p1 p4 p6 p25 p26 p27 pb;subst q0;rw[hYX];refine aq ?_;by_cases hbad:m.getD i 0<0\/(g.bk.length:Int)<=m.getD i 0
   ·refine aM (fl pb (Ab hbad)) ?_;refine bQ (dz hb0 ?_);refine eS (b:=S.nx) (ax p4) (by refine aq ?_;exact bL _) cX rfl rfl ?_;intro X2 x2 m2 d2;refine aq ?_;refine aR (dz p4 ?_);exact .inr ⟨⟨Au hX.1 x2.1,fun c hc hne=>by rw[x2.2 _ (Ae hc hX.1) hne,hX.2 _ hc]⟩,d2,fun h=>by have:=h _ hmem;omega⟩
   ·refine aK (fl pb (Aa hbad)) (aH ?_);refine aq ?_;refine aG (d6 p27 w1 ?_);refine⟨k - 1,ay,rfl,hX,i+1,ay,fun j hj=>?_,by refine⟨?_,?_,?_,?_,?_,?_,?_⟩<;>simp only[↓aC,aB,rE,↓reduceIte,rA,p0,p1,p4,p6,p25,p26]⟩;by_cases hji:j=i
    ·rw[hji];omega
    ·exact hr j ay
  ·refine aA (aK ff (bG ?_));refine aq ?_;have hk0:k=0:=by omega
   subst hk0;exact .inl ⟨rfl,hX,i,hik,hr,by refine⟨?_,?_,?_,?_,?_,?_,?_⟩<;>simp only[↓aC,aB,rE,↓reduceIte,rA,p0,p1,p4,p6,p25,p26,p27]⟩
 rintro o ⟨F,inr⟩ X (⟨rfl,q0,hX,i,hik,hr,p0,p1,p4,p6,p25,p26,p27⟩ | ⟨rfl,hX,cX,hno,p4,p5⟩);rotate_left
 ·have hE:iF g.bk.length m ok=2:=by unfold iF;rw[if_neg (fun h=>h hlen),if_pos hno]
  rw[hE];simp only at p4 p5;have ld2:=rB (n:=2) cX rfl;refine d8 @gF p4 p5 ld2 ?_;exact⟨⟨Au s1.1 hX.1,fun c hc=>by rw[hX.2 _ (Ae hc s1.1) ay,s1.2 _ hc]⟩,_,_,rfl,fun h=>absurd h bg,fun _=>⟨rfl,rfl⟩⟩
 simp only at q0 p0 p1 p4 p6;subst q0;have hin:nE m g.bk.length:=fun x hx=>by
  obtain⟨j,hj,rfl⟩:=Cv.1 hx;have:=hr j ay;rw[Ad,Ac hj] at this;exact this
 clear p25 p26 p27 hik hr i;have sX:=s1.trans hX;have leX:S.nx<X.nx:=Ae le hX.1;have cX:X.h.get S.nx=some (.cells [.cb,.cb] false 0):=by rw[hX.2 _ le];exact c1
 refine aq ?_;refine bQ (dz p6 ?_);refine gO (pG (n:=g.bk.length) (fj @aJ) (fj @aJ) bf bf) ?_;intro X1 x1 m1 d1;rw[repeatL_one] at d1;refine aq ?_;have sX1:=sX.trans x1;refine aA (aW (Q:=fun o A' Y=>(o= .normal/\aRu X1 mv wb S.nx X.nx g.bk.length m 0 A' Y)\/(o= .ret/\Same S Y/\Y.h.get S.nx=some (.cells [.cb,.cb] false 0)/\aCO m/\aD 4 A'.F= .ptr S.nx 0/\aD 5 A'.F= .int .i64 8)) (aA (aG ?_)) ?_)
 ·refine d7 p1 hm.len @Ah ?_;refine aL (bK (aRu X1 mv wb S.nx X.nx g.bk.length m) ?_ m.length _ _ ⟨rfl,cC.refl _ _,ay,0,_,ay,d1,Aq ..,fun v hv=>?_,fun j l _ hj=>ay,by refine⟨?_,?_,?_,?_,?_,?_,?_⟩<;>simp only[↓aC,aB,rE,↓reduceIte,rA,p0,p1,p4]⟩);rotate_left
  ·rw[Cl,if_pos hv,Aa (fun⟨j,hj,_⟩=>ay)]
  clear p0 p1 p4 p6;rintro k ⟨F,inr⟩ Y ⟨q0,hY,hsb,i,cs,hik,hg,hcs,hse,hnd,p0,p1,p4,p9,p42,p43,p44⟩;simp only at q0 p0 p1 p4 p9 p42 p43 p44;subst q0;refine bQ (d6 p43 p44 ?_);by_cases hlt:i<m.length
  ·refine aA (aM ff (aH ?_));refine aq ?_;have lX1:X.nx<X1.nx:=by omega
   have sY:Same S Y:=⟨Au sX1.1 hY.1,fun c hc=>by rw[hY.2 _ (Ae hc sX1.1) ay];exact sX1.2 _ hc⟩;have cY:Y.h.get S.nx=some (.cells [.cb,.cb] false 0):=by rw[hY.2 _ ay ay,x1.2 _ leX];exact cX
   have hmY:=hm.same sY;have ia:=hmY.cn hlt;have la:=hmY.ld hlt;have hmem:m.getD i 0∈m:=by rw[Ad,Ac hlt];exact Bo _
   have w1:=dc i
   have⟨v0,v1⟩:=hin _ hmem;generalize hvv:m.getD i 0=v at *;obtain⟨u,rfl⟩:∃u:Nat,v=(u:Int):=⟨v.toNat,ay⟩;have hu:u<g.bk.length:=by omega
   have hia:=eX (b:=X.nx) (o:=false) hu;have hlu:=cV hg (hse u hu);refine aA (aL (aA (aG ?_)));refine d9 p42 p44 @aJ ia la ?_;refine fE (d8 p9 @aJ hia hlu ?_);by_cases hd:∃j,j<i/\m.getD j 0=(u:Int)
   ·refine aM (fj (Ab hd)) ?_;refine bQ (dz hb0 ?_);refine eS (b:=S.nx) (ax p4) (by refine aq ?_;exact bL _) cY rfl rfl ?_;intro X2 x2 m2 d2;refine aq ?_;refine aR (dz p4 ?_);have⟨j,hj,hjv⟩:=hd;exact .inr ⟨⟨Au sY.1 x2.1,fun c hc=>by rw[x2.2 _ (Ae hc sY.1) ay,sY.2 _ hc]⟩,d2,i,j,hj,hlt,by rw[hvv,hjv]⟩
   ·refine aK (fj (Aa hd)) (aH ?_);refine aq ?_;refine aG (d7 p9 @aJ hia ?_);refine fD (fun call=>by refine dz @dS ?_;exact stc (S:=Y) (w:=.bool true) hg (by rw[hcs];exact hu)) ?_;refine aq ?_;refine aG (d6 p44 w1 ?_);refine⟨k - 1,ay,rfl,hY.put _,hsb,i+1,cs.set u (.bool true),ay,fq,by rw[Ar];exact hcs,fun v hv=>?_,fun j l hl hj=>?_,by refine⟨?_,?_,?_,?_,?_,?_,?_⟩<;>simp only[↓aC,aB,rE,↓reduceIte,rA,p0,p1,p4,p9,p42,p43]⟩
    ·rw[Du];split
     ·rename_i e;rw[if_pos (by rw[hcs];exact hu),Ab (show ∃j,j<i+1/\m.getD j 0=(v:Int) from⟨i,ay,by rw[hvv,e]⟩)]
     ·rename_i e;rw[hse v hv];congr 2;rw[Cr,Cq,Cq];constructor
      ·rintro⟨j,h1,h2⟩;exact⟨j,ay,h2⟩
      ·rintro⟨j,h1,h2⟩;refine⟨j,?_,h2⟩;by_cases hji:j=i
       ·rw[hji,hvv] at h2;omega
       ·omega
    ·by_cases hji:j=i
     ·rw[hji,hvv];exact fun h=>hd ⟨l,ay,h.symm⟩
     ·exact hnd j l hl ay
  ·refine aA (aK ff (bG ?_));refine aq ?_;have hk0:k=0:=by omega
   subst hk0;exact .inl ⟨rfl,hY,hsb,i,cs,hik,hg,hcs,hse,hnd,by refine⟨?_,?_,?_,?_,?_,?_,?_⟩<;>simp only[↓aC,aB,rE,↓reduceIte,rA,p0,p1,p4,p9,p42,p43,p44]⟩
 clear p0 p1 p4 p6;rintro o ⟨F,inr⟩ Y (⟨rfl,q0,hY,hsb,i,cs,hik,hg,hcs,hse,hnd,p0,p1,p4,p9,p42,p43,p44⟩ | ⟨rfl,sY,cY,hdup,p4,p5⟩);rotate_left
 ·have hE:iF g.bk.length m ok=8:=by unfold iF;rw[if_neg (fun h=>h hlen),if_neg (fun h=>h hin),if_pos hdup]
  rw[hE];simp only at p4 p5;have ld2:=rB (n:=2) cY rfl;refine d8 @gF p4 p5 ld2 ?_;exact⟨sY,_,_,rfl,fun h=>absurd h bg,fun _=>⟨rfl,rfl⟩⟩
 simp only at q0 p0 p1 p4;subst q0;have hnd':¬aCO m:=fun⟨i',k',h1,h2,h3⟩=>hnd i' k' h1 ay h3;have lX1:X.nx<X1.nx:=by omega
 have sY:Same S Y:=⟨Au sX1.1 hY.1,fun c hc=>by rw[hY.2 _ (Ae hc sX1.1) ay];exact sX1.2 _ hc⟩;have cY:Y.h.get S.nx=some (.cells [.cb,.cb] false 0):=by rw[hY.2 _ ay ay,x1.2 _ leX];exact cX
 have leY:S.nx<Y.nx:=by have:=hY.1;omega
 have hE0:ok->iF g.bk.length m ok=0:=fun hk=>by unfold iF;rw[if_neg (fun h=>h hlen),if_neg (fun h=>h hin),if_neg hnd',if_pos hk]
 have hE3:¬ok->iF g.bk.length m ok=3:=fun hk=>by unfold iF;rw[if_neg (fun h=>h hlen),if_neg (fun h=>h hin),if_neg hnd',if_neg hk]
 refine aq ?_;refine fE (d6 p0 p1 ?_);refine bE (aq ?_);refine aQ (himg hlen hin hnd' Y sY) ?_;rintro _ Z ⟨hZ,x,y,t,rfl,ht,htP⟩;refine d6 @ex0 @ex1 ?_;refine dC ?_;intro Z1 z1 k1 e1;refine eS (b:=Z.nx) (ar) (by refine aq ?_;exact bL _) e1 rfl rfl ?_;intro Z2 z2 k2 e2;refine aq ?_;have sZ2:Same Z Z2:=z2.same z1 (Ag _);have sSZ2:=(sY.trans hZ).trans sZ2;have cZ2:Z2.h.get S.nx=some (.cells [.cb,.cb] false 0):=by rw[(hZ.trans sZ2).2 _ leY];exact cY
 have lZ2:S.nx<Z2.nx:=Ae leY (hZ.trans sZ2).1;have ldim:=rB (n:=2) e2 rfl;refine bQ (aq ?_);cases t with
 | true=>
  rw[hE0 (ht.1 rfl)];refine aM (ar) ?_;refine bQ (dz ldim ?_);refine eS (b:=S.nx) (ax p4) (by refine aq ?_;exact bL _) cZ2 rfl rfl ?_;intro Z3 z3 k3 e3;refine aq ?_;have ld3:=rB (n:=2) e3 rfl;refine aR (d7 @gF p4 @ld3 ?_);refine⟨⟨Au sSZ2.1 z3.1,fun c hc=>by rw[z3.2 _ (Ae hc sSZ2.1) ay,sSZ2.2 _ hc]⟩,x,y,rfl,⟨Y,sY.1,hP (htP rfl) (Au sZ2.1 z3.1) fun c h1 h2=>?_⟩,fun h=>absurd rfl h⟩;rw[z3.2 _ (Ae h2 sZ2.1) ay,sZ2.2 _ h2]
 | false=>
  rw[hE3 (fun h=>by have:=ht.2 h;cases this)];refine aK (ar) (aH ?_);refine aq ?_;refine bQ (dz hb0 ?_);refine eS (b:=S.nx) (ax p4) (by refine aq ?_;exact bL _) cZ2 rfl rfl ?_;intro Z3 z3 k3 e3;refine aq ?_;have ld3:=rB (n:=2) e3 rfl;refine aR (d7 @gF p4 @ld3 ?_);exact⟨⟨Au sSZ2.1 z3.1,fun c hc=>by rw[z3.2 _ (Ae hc sSZ2.1) ay,sSZ2.2 _ hc]⟩,_,_,rfl,fun h=>absurd h bg,fun _=>⟨rfl,rfl⟩⟩
theorem aGk:∀ (l:bu) (s:Nat) (r:bu),(aCq l s r).length=r.length
 | [],_,_=>rfl
 | c::l,s,r=>by simp only[aCq];rw[aGk l,Ar]
theorem aD5{v:Nat}:∀ (l:bu) (s:Nat) (r:bu),(∀c∈l,c.toNat≠v)->(aCq l s r).getD v 0=r.getD v 0
 | [],_,_,_=>rfl
 | c::l,s,r,h=>by
  simp only[aCq];rw[aD5 l _ _ fun c' hc'=>h c' (Bj _ hc')];have hne:=h c (Br ..);rw[Ad,Du,if_neg hne,Ad]
theorem aJZ{k:Nat}{c:Int}:∀ (l:bu) (s:Nat) (r:bu),l.Pairwise (· < ·)->(∀c∈l,0<=c)->l[k]? =some c->c.toNat<r.length->(aCq l s r).getD c.toNat 0=((s+k:Nat):Int)
 | [],_,_,_,_,h,_=>by simp at h
 | x::l,s,r,hi,h0,hk,hr=>by
  have⟨h1,h2⟩:=Dz.1 hi;simp only[aCq];cases k with
  | zero=>
   rw[List.getElem?_cons_zero] at hk;cases hk;rw[aD5 l _ _ fun c' hc'=>by
    have:=h1 c' hc';have:=h0 c (Br ..);omega,gE hr,if_pos rfl,Bh]
  | succ k=>
   rw[Cz] at hk;rw[aJZ l (s+1) _ h2 (fun c' hc'=>h0 c' (Bj _ hc')) hk (by rw[Ar];exact hr)];congr 1;omega
theorem aHn{g:bD}{v:Nat}:∀ (i:Nat) (r:bu),(∀j,j<i->∀c∈dN g j,c.toNat≠v)->(aDz g i r).getD v 0=r.getD v 0
 | 0,_,_=>rfl
 | i+1,r,h=>by
  simp only[aDz];rw[aHn i _ fun j hj=>h j ay,aD5 _ _ _ (h i ay)]
theorem aGS{g:bD}{i:Nat}:∀ (n:Nat) (r:bu),i<=n->∃r1,r1.length=r.length/\aDz g n r=aDz g i r1
 | 0,r,h=>⟨r,rfl,by rw[show i=0 by omega]⟩
 | n+1,r,h=>by
  by_cases e:i=n+1
  ·exact⟨r,rfl,by rw[e]⟩
  ·obtain⟨r1,h1,h2⟩:=aGS (i:=i) n (aCq (dN g n) 0 r) ay;exact⟨r1,by rw[h1,aGk],by simp only[aDz];exact h2⟩
theorem aJa{g:bD}{T:List cK}(hw:WF (dN g) 0 (-1) T)(hT:T.length=g.bk.length){i k:Nat}{c:Int}(hi:i<g.bk.length)(hk:(dN g i)[k]? =some c):(lC g).getD c.toNat 0=(k:Int):=by
 have cf:∀j,j<g.bk.length->∀c∈dN g j,(j:Int)<c/\c<(g.bk.length:Int)/\kH T c.toNat=some (j:Int):=fun j hj c hc=>by
  have⟨a,b,e⟩:=hw.cf j ay c (by rw[An];exact hc);rw[An] at a b e;exact⟨a,ay,e⟩
 have hc:=Bu hk;have⟨c1,c2,c3⟩:=cf i hi c hc;unfold lC;have⟨r1,h1,h2⟩:=aGS (g:=g) (i:=i+1) g.bk.length (List.replicate g.bk.length 0) ay;rw[Aq] at h1;rw[h2];simp only[aDz];rw[aHn i _ fun j hj c' hc' e=>?_,aJZ _ _ _ ?_ (fun c' hc'=>by have:=(cf i hi c' hc').1;omega) hk (by rw[h1];omega),An]
 ·have:=hw.inc i ay;rw[An] at this;exact this
 ·have h3:=(cf j ay c' hc').2.2;rw[e,c3] at h3;have:=Bl h3;omega
end Go.Ev.Gl
