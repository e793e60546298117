import Derived.Test.YtdkehphobhnjoaaGl7
open Nat renaming reduceEqDiff → rE, reduceAdd → rA
set_option maxHeartbeats 16000000
set_option linter.unusedSimpArgs false
set_option linter.unusedVariables false
namespace Go.Ev.Gl
variable {fns:T dE}
def aNr(S:St)(a b:AV)(l m:List Int)(k:Nat)(A:bH)(X:St):Prop:=A.inr=false∧Same S X∧∃i,i+k=l.length∧l.take i=m.take i∧aD 0 A.F=a∧aD 1 A.F=b∧aD 5 A.F= .int .i64 (i:Int)
theorem aFi{S:St}{a b:AV}{l m:List Int}(H:Has fns)(ha:bN .i64 S a l)(hb:bN .i64 S b m)(hl:l.length≤140737488355328):fA fns (.fn 11 [] []) [a,b] S fun r S'=>r= .bool (decide (l=m))∧Same S S':=by
 refine bP H.f11 (by simp) ?_;simp only[↓aC,aB,rE,↓reduceIte,rA];refine bE ?_;simp only[↓aC,aB,rE,↓reduceIte,rA];refine eG ?_;simp only[↓aC,aB,rE,↓reduceIte,rA,ha.len,hb.len,Ag];by_cases hlm:l.length=m.length;rotate_left
 ·rw[Aa (show ¬l=m from fun e=>hlm (by rw[e]))];refine aM (by simp only[↓aC,aB,rE,↓reduceIte,rA,Ab (show((l.length:Nat):Int)≠((m.length:Nat):Int) by omega)]) ?_;refine bE ?_;simp only[↓aC,aB,rE,↓reduceIte,rA];refine aO ?_;simp only[↓aC,aB,rE,↓reduceIte,rA];exact Same.refl _
 refine aK (by simp only[↓aC,aB,rE,↓reduceIte,rA,Aa (show ¬ ((l.length:Nat):Int)≠((m.length:Nat):Int) by omega)]) (aI ?_);try simp only[↓aC,aB,rE,↓reduceIte,rA]
 refine aA (aS (Q:=fun o A' X=>(o= .normal∧aNr S a b l m 0 A' X)∨(o= .ret∧Same S X∧l≠m∧aD 4 A'.F= .bool false)) (aA (aF ?_)) ?_)
 ·simp only[↓aC,aB,rE,↓reduceIte,rA];refine aJ (bB (aNr S a b l m) ?_ l.length _ _ ⟨rfl,Same.refl _,0,by omega,rfl,by refine⟨?_,?_,?_⟩<;>simp only[↓aC,aB,rE,↓reduceIte,rA]⟩);rintro k ⟨F,inr⟩ X ⟨q0,hX,i,hik,he,p0,p1,p5⟩;simp only at q0 p0 p1 p5;subst q0;refine eG ?_;simp only[↓aC,aB,rE,↓reduceIte,rA,p0,p5,ha.len,Ag];by_cases hlt:i<l.length
  ·refine aM (by simp only[↓aC,aB,rE,↓reduceIte,rA,Ab (show(i:Int)<((l.length:Nat):Int) by omega)]) (aI ?_);try simp only[↓aC,aB,rE,↓reduceIte,rA]
   have hltm:i<m.length:=by omega
   have ia:=(ha.same hX).iaddr hlt;have la:=(ha.same hX).ld hlt;have ib:=(hb.same hX).iaddr hltm;have lb:=(hb.same hX).ld hltm;have w1:IntKind.i64.wrap ((i:Int)+1)=((i+1:Nat):Int):=by rw[wrap_i64 (by omega) (by omega)];omega
   refine aA (aJ (aA (gJ ?_)));simp only[↓aC,aB,rE,↓reduceIte,rA,p0,p1,p5,aE,ia,ib,la,lb];have el:l.getD i 0=l[i]:=by rw[Ad,Ac hlt];rfl
   have em:m.getD i 0=m[i]:=by rw[Ad,Ac hltm];rfl
   by_cases hx:l.getD i 0=m.getD i 0
   ·refine aK (by simp only[↓aC,aB,rE,↓reduceIte,rA,Aa (show ¬l.getD i 0≠m.getD i 0 from fun h=>h hx)]) (aI ?_);try simp only[↓aC,aB,rE,↓reduceIte,rA]
    refine aF ?_;simp only[↓aC,aB,rE,↓reduceIte,rA,p5,w1];refine⟨k - 1,by omega,rfl,hX.trans (Same.nx _ _),i+1,by omega,?_,by refine⟨?_,?_,?_⟩<;>simp only[↓aC,aB,rE,↓reduceIte,rA,p0,p1]⟩;rw[Bi,Bi,he,Ac hlt,Ac hltm,←el,←em,hx]
   ·refine aM (by simp only[↓aC,aB,rE,↓reduceIte,rA,Ab (show l.getD i 0≠m.getD i 0 from hx)]) ?_;refine bE ?_;simp only[↓aC,aB,rE,↓reduceIte,rA];refine aO ?_;simp only[↓aC,aB,rE,↓reduceIte,rA];exact .inr ⟨hX.trans (Same.nx _ _),fun e=>hx (by rw[e])⟩
  ·refine aK (by simp only[↓aC,aB,rE,↓reduceIte,rA,Aa (show ¬ (i:Int)<((l.length:Nat):Int) by omega)]) (aU ?_);simp only[↓aC,aB,rE,↓reduceIte,rA];have hk0:k=0:=by omega
   subst hk0;exact .inl ⟨rfl,hX,i,hik,he,by refine⟨?_,?_,?_⟩<;>simp only[↓aC,aB,rE,↓reduceIte,rA,p0,p1,p5]⟩
 rintro o ⟨F,inr⟩ X (⟨rfl,q0,hX,i,hik,he,p0,p1,p5⟩ | ⟨rfl,hX,hne,p4⟩);rotate_left
 ·simp only at p4;simp only[↓aC,aB,rE,↓reduceIte,rA,p4];rw[Aa hne];exact⟨rfl,hX⟩
 simp only at q0;subst q0;rw[Ax (by omega),Ax (by omega)] at he;rw[Ab he];try simp only[↓aC,aB,rE,↓reduceIte,rA]
 refine bE ?_;simp only[↓aC,aB,rE,↓reduceIte,rA];refine aO ?_;simp only[↓aC,aB,rE,↓reduceIte,rA];exact hX
theorem mD{S:St}{a b:AV}{l m:List Int}(H:Has fns)(ha:bN .i64 S a l)(hb:bN .i64 S b m)(hl:l.length≤10000000):fA fns (.fn 11 [] []) [a,b] S fun r S'=>r= .bool (decide (l=m))∧Same S S':=
 aFi H ha hb (by omega)
def aL7(S:St)(a b:AV)(l m:List (List Int))(k:Nat)(A:bH)(X:St):Prop:=A.inr=false∧Same S X∧∃i,i+k=l.length∧l.take i=m.take i∧aD 0 A.F=a∧aD 1 A.F=b∧aD 5 A.F= .int .i64 (i:Int)
theorem aAJ{S:St}{a b:AV}{l m:List (List Int)}(H:Has fns)(ha:aN 1 kJ S a l)(hb:aN 1 kJ S b m)(hl:l.length≤10000000)(hll:∀x∈l,x.length≤10000000):fA fns (.fn 10 [] []) [a,b] S fun r S'=>r= .bool (decide (l=m))∧Same S S':=by
 refine bP H.f10 (by simp) ?_;simp only[↓aC,aB,rE,↓reduceIte,rA];refine bE ?_;simp only[↓aC,aB,rE,↓reduceIte,rA];refine eG ?_;simp only[↓aC,aB,rE,↓reduceIte,rA,ha.len,hb.len,Ag];by_cases hlm:l.length=m.length;rotate_left
 ·rw[Aa (show ¬l=m from fun e=>hlm (by rw[e]))];refine aM (by simp only[↓aC,aB,rE,↓reduceIte,rA,Ab (show((l.length:Nat):Int)≠((m.length:Nat):Int) by omega)]) ?_;refine bE ?_;simp only[↓aC,aB,rE,↓reduceIte,rA];refine aO ?_;simp only[↓aC,aB,rE,↓reduceIte,rA];exact Same.refl _
 refine aK (by simp only[↓aC,aB,rE,↓reduceIte,rA,Aa (show ¬ ((l.length:Nat):Int)≠((m.length:Nat):Int) by omega)]) (aI ?_);try simp only[↓aC,aB,rE,↓reduceIte,rA]
 refine aA (aS (Q:=fun o A' X=>(o= .normal∧aL7 S a b l m 0 A' X)∨(o= .ret∧Same S X∧l≠m∧aD 4 A'.F= .bool false)) (aA (aF ?_)) ?_)
 ·simp only[↓aC,aB,rE,↓reduceIte,rA];refine aJ (bB (aL7 S a b l m) ?_ l.length _ _ ⟨rfl,Same.refl _,0,by omega,rfl,by refine⟨?_,?_,?_⟩<;>simp only[↓aC,aB,rE,↓reduceIte,rA]⟩);rintro k ⟨F,inr⟩ X ⟨q0,hX,i,hik,he,p0,p1,p5⟩;simp only at q0 p0 p1 p5;subst q0;refine eG ?_;simp only[↓aC,aB,rE,↓reduceIte,rA,p0,p5,ha.len,Ag];by_cases hlt:i<l.length
  ·refine aM (by simp only[↓aC,aB,rE,↓reduceIte,rA,Ab (show(i:Int)<((l.length:Nat):Int) by omega)]) (aI ?_);try simp only[↓aC,aB,rE,↓reduceIte,rA]
   have hltm:i<m.length:=by omega
   obtain⟨e1,b1,q1,ia,lb1,_,⟨a1,rfl,h1⟩,_,hf1⟩:=aN.at (aN.same (E:=kJ) firm_sl ha hX) (by decide) (Ac hlt);obtain⟨e2,b2,q2,ib,lb2,_,⟨a2,rfl,h2⟩,_,hf2⟩:=aN.at (aN.same (E:=kJ) firm_sl hb hX) (by decide) (Ac hltm);have la:=hf1 0 a1 rfl;have lb:=hf2 0 a2 rfl;rw[Bj] at la lb;have sa1:=bN.self h1;have sa2:=bN.self h2;have w1:IntKind.i64.wrap ((i:Int)+1)=((i+1:Nat):Int):=by rw[wrap_i64 (by omega) (by omega)];omega
   refine aA (aJ (aA (cR (fun _=>False) ?_)));intro X1 x1;simp only[↓sU,sD,rE,↓reduceIte,rA,p0,p1,p5,aE,ia,ib,la,lb,sa1,sa2,lb1,lb2,Aq];refine bX rfl ?_;simp only[↓sU,sD,rE,↓reduceIte,rA];refine aP (mD H (h1.same x1) (h2.same x1) (hll _ (Bh hlt))) ?_;rintro _ Y ⟨rfl,hY⟩;refine⟨hY,?_⟩;have hSY:=hX.trans (x1.trans hY);try simp only[↓sU,sD,rE,↓reduceIte,rA,dH]
   by_cases hx:l[i]=m[i]
   ·refine aK (by simp only[↓aC,aB,rE,↓reduceIte,rA,Ab hx,Bl]) (aI ?_);try simp only[↓aC,aB,rE,↓reduceIte,rA]
    refine aF ?_;simp only[↓aC,aB,rE,↓reduceIte,rA,p5,w1];refine⟨k - 1,by omega,rfl,hSY,i+1,by omega,?_,by refine⟨?_,?_,?_⟩<;>simp only[↓aC,aB,rE,↓reduceIte,rA,p0,p1]⟩;rw[Bi,Bi,he,Ac hlt,Ac hltm,hx]
   ·refine aM (by simp only[↓aC,aB,rE,↓reduceIte,rA,Aa hx,Bq]) ?_;refine bE ?_;simp only[↓aC,aB,rE,↓reduceIte,rA];refine aO ?_;simp only[↓aC,aB,rE,↓reduceIte,rA];exact .inr ⟨hSY,fun e=>hx (by subst e;rfl)⟩
  ·refine aK (by simp only[↓aC,aB,rE,↓reduceIte,rA,Aa (show ¬ (i:Int)<((l.length:Nat):Int) by omega)]) (aU ?_);simp only[↓aC,aB,rE,↓reduceIte,rA];have hk0:k=0:=by omega
   subst hk0;exact .inl ⟨rfl,hX,i,hik,he,by refine⟨?_,?_,?_⟩<;>simp only[↓aC,aB,rE,↓reduceIte,rA,p0,p1,p5]⟩
 rintro o ⟨F,inr⟩ X (⟨rfl,q0,hX,i,hik,he,p0,p1,p5⟩ | ⟨rfl,hX,hne,p4⟩);rotate_left
 ·simp only at p4;simp only[↓aC,aB,rE,↓reduceIte,rA,p4];rw[Aa hne];exact⟨rfl,hX⟩
 simp only at q0;subst q0;rw[Ax (by omega),Ax (by omega)] at he;rw[Ab he];try simp only[↓aC,aB,rE,↓reduceIte,rA]
 refine bE ?_;simp only[↓aC,aB,rE,↓reduceIte,rA];refine aO ?_;simp only[↓aC,aB,rE,↓reduceIte,rA];exact hX
def gF(S S':St)(v:AV)(l:List Int):Prop:=∃b,v= .sl b 0 l.length l.length false∧S.nx≤b∧b<S'.nx∧S'.h.get b=some (.cells (bC l) false 0)
theorem gF.is{S S':St}{v:AV}{l:List Int}(h:gF S S' v l):bN .i64 S' v l:=by
 obtain⟨b,rfl,h1,h2,h3⟩:=h;exact aBg h3 h2 rfl
theorem gF.same{S S' S'':St}{v:AV}{l:List Int}(h:gF S S' v l)(hs:Same S' S''):gF S S'' v l:=by
 obtain⟨b,h0,h1,h2,h3⟩:=h;exact⟨b,h0,h1,Ae h2 hs.1,(hs.2 _ h2).trans h3⟩
theorem lU(n:Nat):repeatL [AV.int .i64 0] n=bC (List.replicate n 0):=by rw[repeatL_one];simp [bC]
theorem aCc{l m:List Int}(hl:l.length=m.length)(h:∀j,j<m.length→l.getD j 0=m.getD j 0):l=m:=by
 refine Ez hl fun j j1 j2=>?_;have:=h j j2;rw[Ad,Ad,Ac j1,Ac j2] at this;exact this
def sC(S:St)(rb n:Nat)(f:Nat→Int)(P:Fr→Nat→Prop)(k:Nat)(A:bH)(X:St):Prop:=A.inr=false∧Same S X∧rb<X.nx∧∃ (i:Nat) (l:List Int),i+k=n∧l.length=n∧(∀j,j<i→l.getD j 0=f j)∧X.h.get rb=some (.cells (bC l) false 0)∧P A.F i
theorem rV{S:St}{n:Nat}(H:Has fns)(hn:n≤1000000):fA fns (.fn 50 [] []) [.int .i64 (n:Int)] S fun r S'=>gF S S' r (List.replicate n (-1))∧Same S S':=by
 refine bP H.f50 (by simp) ?_;simp only[↓aC,aB,rE,↓reduceIte,rA];refine bE ?_;simp only[↓aC,aB,rE,↓reduceIte,rA];refine bE ?_;simp only[↓aC,aB,rE,↓reduceIte,rA];refine fX (mI (n:=n) (by simp only[↓aC,aB,rE,↓reduceIte,rA,aE]) (by simp only[↓aC,aB,rE,↓reduceIte,rA,aE]) (by unfold room;omega) (by unfold room;omega)) ?_;intro S1 s1 n1 c1;rw[lU] at c1;simp only[↓aC,aB,rE,↓reduceIte,rA];refine aA (aS (Q:=fun o A' X=>o= .normal∧sC S S.nx n (fun _=> -1) (fun F i=>aD 3 F= .sl S.nx 0 n n false∧aD 8 F= .int .i64 (n:Int)∧aD 9 F= .int .i64 (i:Int)) 0 A' X) (aA (aF ?_)) ?_)
 ·have e0:gW (.sl S.nx 0 n n false)=some (.int .i64 (n:Int)):=rfl;simp only[↓aC,aB,rE,↓reduceIte,rA,e0];refine aJ (bB (sC S S.nx n (fun _=> -1) (fun F i=>aD 3 F= .sl S.nx 0 n n false∧aD 8 F= .int .i64 (n:Int)∧aD 9 F= .int .i64 (i:Int))) ?_ n _ _ ⟨rfl,s1,by omega,0,_,by omega,Ao ..,fun j hj=>by omega,c1,by refine⟨?_,?_,?_⟩<;>simp only[↓aC,aB,rE,↓reduceIte,rA]⟩);rintro k ⟨F,inr⟩ X ⟨q0,hX,hb,i,l,hik,hl,hf,hc,p3,p8,p9⟩;simp only at q0 p3 p8 p9;subst q0;refine bE ?_;simp only[↓aC,aB,rE,↓reduceIte,rA,p8,p9];by_cases hlt:i<n
  ·refine aA (aM (by simp only[↓aC,aB,rE,↓reduceIte,rA,Ab (show(i:Int)<(n:Int) by omega)]) (aI ?_));try simp only[↓aC,aB,rE,↓reduceIte,rA]
   have w1:IntKind.i64.wrap ((i:Int)+1)=((i+1:Nat):Int):=by rw[wrap_i64 (by omega) (by omega)];omega
   have hia:=dI (b:=S.nx) (o:=false) hlt;refine aA (aJ (aA (aF ?_)));simp only[↓aC,aB,rE,↓reduceIte,rA,p9];refine aF ?_;simp only[↓aC,aB,rE,↓reduceIte,rA,p3,aE,hia];rw[show Int.negSucc 0=(-1:Int) from rfl];refine fD (fun call=>by simp only[↓aC,aB,rE,↓reduceIte,rA,eJ,cI];exact oC (S:=X) hc (by rw[hl];exact hlt)) ?_;simp only[↓aC,aB,rE,↓reduceIte,rA];refine aF ?_;simp only[↓aC,aB,rE,↓reduceIte,rA,p9,w1];refine⟨k - 1,by omega,rfl,hX.put (Ah _) _,hb,i+1,l.set i (-1),by omega,by rw[Al];exact hl,fun j hj=>?_,by simp only;rw[T.get_set,if_pos rfl],by refine⟨?_,?_,?_⟩<;>simp only[↓aC,aB,rE,↓reduceIte,rA,p3,p8]⟩;rw[dP (by rw[hl];exact hlt)];split
   ·rfl
   ·exact hf j (by omega)
  ·refine aA (aK (by simp only[↓aC,aB,rE,↓reduceIte,rA,Aa (show ¬ (i:Int)<(n:Int) by omega)]) (aU ?_));simp only[↓aC,aB,rE,↓reduceIte,rA];have hk0:k=0:=by omega
   subst hk0;exact⟨rfl,hX,hb,i,l,hik,hl,hf,hc,by refine⟨?_,?_,?_⟩<;>simp only[↓aC,aB,rE,↓reduceIte,rA,p3,p8,p9]⟩
 rintro o ⟨F,inr⟩ X ⟨rfl,q0,hX,hb,i,l,hik,hl,hf,hc,p3,p8,p9⟩;simp only at q0 p3;subst q0;have el:l=List.replicate n (-1):=aCc (by rw[hl,Ao]) fun j hj=>by
  rw[Ao] at hj;rw[hf j (by omega),Ad,Cx,if_pos hj];rfl
 subst el;try simp only[↓aC,aB,rE,↓reduceIte,rA]
 refine bE ?_;simp only[↓aC,aB,rE,↓reduceIte,rA,p3];refine aO ?_;simp only[↓aC,aB,rE,↓reduceIte,rA];exact⟨⟨S.nx,by rw[Ao],Ah _,hb,hc⟩,hX⟩
def eS(a b:List Int):List Int:=a.map fun x=>b.getD x.toNat 0
def lF(a:List Int)(n:Nat):Prop:=∀x∈a,0≤x∧x<n
theorem aC2{a b:List Int}{i:Nat}(hi:i<a.length):(eS a b).getD i 0=b.getD (a.getD i 0).toNat 0:=by
 unfold eS;rw[Ad,Az,Ac hi,Ad (l:=a),Ac hi];rfl
theorem aIo{S:St}{av bv:AV}{a b:List Int}(H:Has fns)(ha:bN .i64 S av a)(hb:bN .i64 S bv b)(hl:a.length≤1000000)(hin:lF a b.length):fA fns (.fn 39 [] []) [av,bv] S fun r S'=>gF S S' r (eS a b)∧Same S S':=by
 refine bP H.f39 (by simp) ?_;simp only[↓aC,aB,rE,↓reduceIte,rA];refine bE ?_;simp only[↓aC,aB,rE,↓reduceIte,rA];refine bE ?_;simp only[↓aC,aB,rE,↓reduceIte,rA,ha.len,Ag];refine fX (mI (n:=a.length) (by simp only[↓aC,aB,rE,↓reduceIte,rA,aE]) (by simp only[↓aC,aB,rE,↓reduceIte,rA,aE]) (by unfold room;omega) (by unfold room;omega)) ?_;intro S1 s1 n1 c1;rw[lU] at c1;simp only[↓aC,aB,rE,↓reduceIte,rA];refine aA (aS (Q:=fun o A' X=>o= .normal∧sC S S.nx a.length (fun j=>b.getD (a.getD j 0).toNat 0) (fun F i=>aD 1 F=bv∧aD 5 F= .sl S.nx 0 a.length a.length false∧aD 11 F=av∧aD 12 F= .int .i64 ((a.length:Nat):Int)∧aD 13 F= .int .i64 (i:Int)) 0 A' X) (aA (aF ?_)) ?_)
 ·simp only[↓aC,aB,rE,↓reduceIte,rA,ha.len,Ag];refine aJ (bB (sC S S.nx a.length (fun j=>b.getD (a.getD j 0).toNat 0) (fun F i=>aD 1 F=bv∧aD 5 F= .sl S.nx 0 a.length a.length false∧aD 11 F=av∧aD 12 F= .int .i64 ((a.length:Nat):Int)∧aD 13 F= .int .i64 (i:Int))) ?_ a.length _ _ ⟨rfl,s1,by omega,0,_,by omega,Ao ..,fun j hj=>by omega,c1,by refine⟨?_,?_,?_,?_,?_⟩<;>simp only[↓aC,aB,rE,↓reduceIte,rA]⟩);rintro k ⟨F,inr⟩ X ⟨q0,hX,hbX,i,l,hik,hl',hf,hc,p1,p5,p11,p12,p13⟩;simp only at q0 p1 p5 p11 p12 p13;subst q0;refine bE ?_;simp only[↓aC,aB,rE,↓reduceIte,rA,p12,p13];by_cases hlt:i<a.length
  ·refine aA (aM (by simp only[↓aC,aB,rE,↓reduceIte,rA,Ab (show(i:Int)<((a.length:Nat):Int) by omega)]) (aI ?_));try simp only[↓aC,aB,rE,↓reduceIte,rA]
   have w1:IntKind.i64.wrap ((i:Int)+1)=((i+1:Nat):Int):=by rw[wrap_i64 (by omega) (by omega)];omega
   have hia:=dI (b:=S.nx) (o:=false) hlt;have ia:=(ha.same hX).iaddr hlt;have la:=(ha.same hX).ld hlt;have hmem:a.getD i 0∈a:=by rw[Ad,Ac hlt];exact Bh hlt
   obtain⟨x0,x1⟩:=hin _ hmem;have hfi:(fun j=>b.getD (a.getD j 0).toNat 0) i=b.getD (a.getD i 0).toNat 0:=rfl;generalize hxx:a.getD i 0=x at *;obtain⟨m,rfl⟩:∃m:Nat,x=(m:Int):=⟨x.toNat,by omega⟩;have hm:m<b.length:=by omega
   have ib:=(hb.same hX).iaddr hm;have lb:=(hb.same hX).ld hm;refine aA (aJ (aA (aF ?_)));simp only[↓aC,aB,rE,↓reduceIte,rA,p11,p13,aE,ia,la];refine aF ?_;simp only[↓aC,aB,rE,↓reduceIte,rA,p1,p5,aE,hia,ib,lb];refine fD (fun call=>by simp only[↓aC,aB,rE,↓reduceIte,rA,eJ,cI];exact oC (S:=X) hc (by rw[hl'];exact hlt)) ?_;simp only[↓aC,aB,rE,↓reduceIte,rA];refine aF ?_;simp only[↓aC,aB,rE,↓reduceIte,rA,p13,w1];refine⟨k - 1,by omega,rfl,hX.put (Ah _) _,hbX,i+1,l.set i (b.getD m 0),by omega,by rw[Al];exact hl',fun j hj=>?_,by simp only;rw[T.get_set,if_pos rfl],by refine⟨?_,?_,?_,?_,?_⟩<;>simp only[↓aC,aB,rE,↓reduceIte,rA,p1,p5,p11,p12]⟩;rw[dP (by rw[hl'];exact hlt)];split
   ·rename_i e;rw[e,hfi];rfl
   ·exact hf j (by omega)
  ·refine aA (aK (by simp only[↓aC,aB,rE,↓reduceIte,rA,Aa (show ¬ (i:Int)<((a.length:Nat):Int) by omega)]) (aU ?_));simp only[↓aC,aB,rE,↓reduceIte,rA];have hk0:k=0:=by omega
   subst hk0;exact⟨rfl,hX,hbX,i,l,hik,hl',hf,hc,by refine⟨?_,?_,?_,?_,?_⟩<;>simp only[↓aC,aB,rE,↓reduceIte,rA,p1,p5,p11,p12,p13]⟩
 rintro o ⟨F,inr⟩ X ⟨rfl,q0,hX,hbX,i,l,hik,hl',hf,hc,p1,p5,p11,p12,p13⟩;simp only at q0 p5;subst q0;have ep:(eS a b).length=a.length:=by simp [eS]
 have el:l=eS a b:=aCc (by rw[hl',ep]) fun j hj=>by
  rw[ep] at hj;rw[hf j (by omega),aC2 hj]
 subst el;try simp only[↓aC,aB,rE,↓reduceIte,rA]
 refine bE ?_;simp only[↓aC,aB,rE,↓reduceIte,rA,p5];refine aO ?_;simp only[↓aC,aB,rE,↓reduceIte,rA];exact⟨⟨S.nx,by rw[ep],Ah _,hbX,hc⟩,hX⟩
theorem aGH{S:St}{av bv:AV}{a b:List Int}(H:Has fns)(ha:bN .i64 S av a)(hb:bN .i64 S bv b)(hl:a.length≤1000000)(hin:lF a b.length):fA fns (.fn 35 [] []) [av,bv] S fun r S'=>gF S S' r (eS a b)∧Same S S':=by
 refine bP H.f35 (by simp) ?_;simp only[↓aC,aB,rE,↓reduceIte,rA];refine bE ?_;simp only[↓aC,aB,rE,↓reduceIte,rA];refine bE ?_;simp only[↓aC,aB,rE,↓reduceIte,rA,ha.len,Ag];refine fX (mI (n:=a.length) (by simp only[↓aC,aB,rE,↓reduceIte,rA,aE]) (by simp only[↓aC,aB,rE,↓reduceIte,rA,aE]) (by unfold room;omega) (by unfold room;omega)) ?_;intro S1 s1 n1 c1;rw[lU] at c1;simp only[↓aC,aB,rE,↓reduceIte,rA];refine aA (aS (Q:=fun o A' X=>o= .normal∧sC S S.nx a.length (fun j=>b.getD (a.getD j 0).toNat 0) (fun F i=>aD 0 F=av∧aD 1 F=bv∧aD 5 F= .sl S.nx 0 a.length a.length false∧aD 6 F= .int .i64 (i:Int)) 0 A' X) (aA (aF ?_)) ?_)
 ·simp only[↓aC,aB,rE,↓reduceIte,rA];refine aJ (bB (sC S S.nx a.length (fun j=>b.getD (a.getD j 0).toNat 0) (fun F i=>aD 0 F=av∧aD 1 F=bv∧aD 5 F= .sl S.nx 0 a.length a.length false∧aD 6 F= .int .i64 (i:Int))) ?_ a.length _ _ ⟨rfl,s1,by omega,0,_,by omega,Ao ..,fun j hj=>by omega,c1,by refine⟨?_,?_,?_,?_⟩<;>simp only[↓aC,aB,rE,↓reduceIte,rA]⟩);rintro k ⟨F,inr⟩ X ⟨q0,hX,hbX,i,l,hik,hl',hf,hc,p0,p1,p5,p6⟩;simp only at q0 p0 p1 p5 p6;subst q0;refine eG ?_;simp only[↓aC,aB,rE,↓reduceIte,rA,p0,p6,ha.len,Ag];by_cases hlt:i<a.length
  ·refine aM (by simp only[↓aC,aB,rE,↓reduceIte,rA,Ab (show(i:Int)<((a.length:Nat):Int) by omega)]) (aI ?_);try simp only[↓aC,aB,rE,↓reduceIte,rA]
   have w1:IntKind.i64.wrap ((i:Int)+1)=((i+1:Nat):Int):=by rw[wrap_i64 (by omega) (by omega)];omega
   have hia:=dI (b:=S.nx) (o:=false) hlt;have ia:=(ha.same hX).iaddr hlt;have la:=(ha.same hX).ld hlt;have hmem:a.getD i 0∈a:=by rw[Ad,Ac hlt];exact Bh hlt
   obtain⟨x0,x1⟩:=hin _ hmem;have hfi:(fun j=>b.getD (a.getD j 0).toNat 0) i=b.getD (a.getD i 0).toNat 0:=rfl;generalize hxx:a.getD i 0=x at *;obtain⟨m,rfl⟩:∃m:Nat,x=(m:Int):=⟨x.toNat,by omega⟩;have hm:m<b.length:=by omega
   have ib:=(hb.same hX).iaddr hm;have lb:=(hb.same hX).ld hm;refine aA (aJ (aF ?_));simp only[↓aC,aB,rE,↓reduceIte,rA,p0,p1,p5,p6,aE,ia,la,hia,ib,lb];refine fD (fun call=>by simp only[↓aC,aB,rE,↓reduceIte,rA,eJ,cI];exact oC (S:=X) hc (by rw[hl'];exact hlt)) ?_;simp only[↓aC,aB,rE,↓reduceIte,rA];refine aF ?_;simp only[↓aC,aB,rE,↓reduceIte,rA,p6,w1];refine⟨k - 1,by omega,rfl,hX.put (Ah _) _,hbX,i+1,l.set i (b.getD m 0),by omega,by rw[Al];exact hl',fun j hj=>?_,by simp only;rw[T.get_set,if_pos rfl],by refine⟨?_,?_,?_,?_⟩<;>simp only[↓aC,aB,rE,↓reduceIte,rA,p0,p1,p5]⟩;rw[dP (by rw[hl'];exact hlt)];split
   ·rename_i e;rw[e,hfi];rfl
   ·exact hf j (by omega)
  ·refine aK (by simp only[↓aC,aB,rE,↓reduceIte,rA,Aa (show ¬ (i:Int)<((a.length:Nat):Int) by omega)]) (aU ?_);simp only[↓aC,aB,rE,↓reduceIte,rA];have hk0:k=0:=by omega
   subst hk0;exact⟨rfl,hX,hbX,i,l,hik,hl',hf,hc,by refine⟨?_,?_,?_,?_⟩<;>simp only[↓aC,aB,rE,↓reduceIte,rA,p0,p1,p5,p6]⟩
 rintro o ⟨F,inr⟩ X ⟨rfl,q0,hX,hbX,i,l,hik,hl',hf,hc,p0,p1,p5,p6⟩;simp only at q0 p5;subst q0;have ep:(eS a b).length=a.length:=by simp [eS]
 have el:l=eS a b:=aCc (by rw[hl',ep]) fun j hj=>by
  rw[ep] at hj;rw[hf j (by omega),aC2 hj]
 subst el;try simp only[↓aC,aB,rE,↓reduceIte,rA]
 refine bE ?_;simp only[↓aC,aB,rE,↓reduceIte,rA,p5];refine aO ?_;simp only[↓aC,aB,rE,↓reduceIte,rA];exact⟨⟨S.nx,by rw[ep],Ah _,hbX,hc⟩,hX⟩
def iJ:List Int→Nat→Int→Int
 | [],_,_=> -1
 | x::l,s,c=>if x=c then(s:Int) else iJ l (s+1) c
theorem lS{c:Int}:∀ {l:List Int} {s:Nat},(iJ l s c= -1∧c∉l)∨∃k,iJ l s c=((s+k:Nat):Int)∧l[k]? =some c∧∀j,j<k→l[j]? ≠some c
 | [],s=>.inl ⟨rfl,by simp⟩
 | x::l,s=>by
  simp only[iJ];by_cases h:x=c
  ·rw[if_pos h];exact .inr ⟨0,rfl,by rw[h];rfl,fun j hj=>by omega⟩
  ·rw[if_neg h];rcases lS (c:=c) (l:=l) (s:=s+1) with⟨h1,h2⟩ | ⟨k,h1,h2,h3⟩
   ·exact .inl ⟨h1,by rw[Bg];rintro(e | e);exact h e.symm;exact h2 e⟩
   ·refine .inr ⟨k+1,by rw[h1];congr 1;omega,h2,fun j hj=>?_⟩;cases j with
    | zero=>simp only[List.getElem?_cons_zero,ne_eq,Aj];exact h
    | succ j=>rw[Dm];exact h3 j (by omega)
def aNT(S:St)(nb:Nat)(c:Int)(l:List Int)(k:Nat)(A:bH)(X:St):Prop:=A.inr=false∧Same S X∧∃i,i+k=l.length∧iJ l 0 c=iJ (l.drop i) i c∧aD 1 A.F= .int .i64 c∧aD 2 A.F= .ptr nb 0∧aD 5 A.F= .int .i64 (i:Int)
theorem aGp{S:St}{cs:List AV}{x:dW}{c:Int}(H:Has fns)(hx:bT S cs x)(hl:x.next.length≤100000):fA fns (.fn 58 [] []) [.agg cs,.int .i64 c] S fun r S'=>r= .int .i64 (iJ x.next 0 c)∧Same S S':=by
 obtain⟨a,bb,cc,rfl,ha,_,_⟩:=hx;refine bP H.f58 (by simp) ?_;simp only[↓sU,sD,rE,↓reduceIte,rA];refine bE ?_;refine dG (by simp only[↓sU,sD,rE,↓reduceIte,rA];exact bJ _) ?_;intro S1 s1 n1 c1;simp only[↓sU,sD,rE,↓reduceIte,rA];have lb:S.nx<S1.nx:=by omega
 refine aA (aS (Q:=fun o A' X=>(o= .normal∧aNT S1 S.nx c x.next 0 A' X)∨(o= .ret∧Same S1 X∧aD 4 A'.F= .int .i64 (iJ x.next 0 c))) (aA (aF ?_)) ?_)
 ·simp only[↓aC,aB,rE,↓reduceIte,rA];refine aJ (bB (aNT S1 S.nx c x.next) ?_ x.next.length _ _ ⟨rfl,Same.refl _,0,by omega,rfl,by refine⟨?_,?_,?_⟩<;>simp only[↓aC,aB,rE,↓reduceIte,rA]⟩);rintro k ⟨F,inr⟩ X ⟨q0,hX,i,hik,he,p1,p2,p5⟩;simp only at q0 p1 p2 p5;subst q0;have cX:X.h.get S.nx=some (.cells [.int .i64 x.kind,.int .i64 x.player,.int .i64 x.info,a,bb,cc] false 0):=by rw[hX.2 _ lb];exact c1
  have haX:=ha.same (s1.trans hX);refine eG ?_;simp only[↓aC,aB,rE,↓reduceIte,rA,p2,p5,aH,aG,cP cX,ha.len,Ag];by_cases hlt:i<x.next.length
  ·refine aM (by simp only[↓aC,aB,rE,↓reduceIte,rA,Ab (show(i:Int)<((x.next.length:Nat):Int) by omega)]) (aI ?_);try simp only[↓aC,aB,rE,↓reduceIte,rA]
   have ia:=haX.iaddr hlt;have la:=haX.ld hlt;have el:x.next.getD i 0=x.next[i]:=by rw[Ad,Ac hlt];rfl
   have hdrop:x.next.drop i=x.next[i]::x.next.drop (i+1):=Br hlt;have w1:IntKind.i64.wrap ((i:Int)+1)=((i+1:Nat):Int):=by rw[wrap_i64 (by omega) (by omega)];omega
   rw[hdrop] at he;simp only[iJ] at he;rw[el] at la;refine aA (aJ (aA (aF ?_)));simp only[↓aC,aB,rE,↓reduceIte,rA,p1,p2,p5,aH,aG,cP cX,aE,ia,la];by_cases hc:x.next[i]=c
   ·rw[if_pos hc] at he;refine aM (by simp only[↓aC,aB,rE,↓reduceIte,rA,Ab hc]) ?_;refine bE ?_;simp only[↓aC,aB,rE,↓reduceIte,rA,p5];refine aO ?_;simp only[↓aC,aB,rE,↓reduceIte,rA];exact .inr ⟨hX,by rw[he]⟩
   ·rw[if_neg hc] at he;refine aK (by simp only[↓aC,aB,rE,↓reduceIte,rA,Aa hc]) (aI ?_);try simp only[↓aC,aB,rE,↓reduceIte,rA]
    refine aF ?_;simp only[↓aC,aB,rE,↓reduceIte,rA,p5,w1];exact⟨k - 1,by omega,rfl,hX,i+1,by omega,he,by refine⟨?_,?_,?_⟩<;>simp only[↓aC,aB,rE,↓reduceIte,rA,p1,p2]⟩
  ·refine aK (by simp only[↓aC,aB,rE,↓reduceIte,rA,Aa (show ¬ (i:Int)<((x.next.length:Nat):Int) by omega)]) (aU ?_);simp only[↓aC,aB,rE,↓reduceIte,rA];have hk0:k=0:=by omega
   subst hk0;exact .inl ⟨rfl,hX,i,hik,he,by refine⟨?_,?_,?_⟩<;>simp only[↓aC,aB,rE,↓reduceIte,rA,p1,p2,p5]⟩
 rintro o ⟨F,inr⟩ X (⟨rfl,q0,hX,i,hik,he,p1,p2,p5⟩ | ⟨rfl,hX,p4⟩);rotate_left
 ·simp only at p4;simp only[↓aC,aB,rE,↓reduceIte,rA,p4];exact s1.trans hX
 simp only at q0;subst q0;rw[Cc (by omega)] at he;try simp only[↓aC,aB,rE,↓reduceIte,rA]
 refine bE ?_;simp only[↓aC,aB,rE,↓reduceIte,rA];refine aO ?_;simp only[↓aC,aB,rE,↓reduceIte,rA];exact⟨by rw[he];rfl,s1.trans hX⟩
def aMM(h:T AB)(K:Nat)(l:kL):Prop:=oK l.v (gS l.q l.F h)=true∧l.i<K∧Nat.testBit l.mask K=false
theorem xR{h:T AB}{base K:Nat}{rest:List AO}{Q:DS→Prop}:∀ {pre:List AO} {i:Nat} {F:Fr} {S:St} {ls:List kL},S.h=h→i+pre.length=K→(∀o∈pre,Nat.testBit o.mask K=false)→(∀l∈ls,aMM h K l)→
  jR pre F h (fun F'=>∀ls',(∀l∈ls',aMM h K l)→yO fns rest K base ⟨F',S,[],[],ls'⟩ Q)→yO fns (pre++rest) i base ⟨F,S,[],[],ls⟩ Q
 | [],i,F,S,ls,h1,h2,_,h4,hr=>by
  simp only[Bu,Bj] at h2;subst h2;exact hr ls h4
 | ⟨d,.q q,g,m⟩::l,i,F,S,ls,h1,h2,h3,h4,hr=>by
  simp only[jR] at hr;have h2':i+1+l.length=K:=by rw[Au] at h2;omega
  have h3':∀o∈l,Nat.testBit o.mask K=false:=fun o ho=>h3 o (Bn _ ho);have hm:Nat.testBit m K=false:=h3 _ (Bt ..);have go:∀ (_:jD (gS q F h) fun v=>(dL q=true→cB v v=true)∧jR l (cD d F v) h (fun F'=>∀ls',(∀l∈ls',aMM h K l)→yO fns rest K base ⟨F',S,[],[],ls'⟩ Q)),yO fns (⟨d,.q q,none,m⟩::(l++rest)) i base ⟨F,S,[],[],ls⟩ Q:=by
   rintro⟨v,hv,hs,hr⟩;rw[mF];subst h1;refine⟨v,hv,xR rfl h2' h3' ?_ hr⟩;cases hq:dL q with
   | false=>exact h4
   | true=>
    rw[aQ];intro l' hl';rcases Bg.1 hl' with rfl | hl'
    ·refine⟨?_,by show i<K;omega,hm⟩;show oK v (gS q F S.h)=true;rw[hv,fY];exact hs hq
    ·exact h4 _ hl'
  cases g with
  | none=>exact go (by rw[if_pos (show dS none F=true from rfl)] at hr;exact hr)
  | some g=>
   obtain⟨s,b⟩:=g;by_cases hw:dS (some (s,b)) F=true
   ·rw[if_pos hw] at hr;obtain⟨n,D',e1,e2⟩:=go hr;refine⟨n,D',?_,e2⟩;have:sJ ⟨d,.q q,some (s,b),m⟩ i base (ev fns n).call ⟨F,S,[],[],ls⟩=sJ ⟨d,.q q,none,m⟩ i base (ev fns n).call ⟨F,S,[],[],ls⟩:=by
     show bL (dS (some (s,b)) F) _ _=bL true _ _;rw[hw];rfl
    show aZ (sJ ⟨d,.q q,some (s,b),m⟩ i base (ev fns n).call ⟨F,S,[],[],ls⟩) _=_;rw[this];exact e1
   ·rw[if_neg hw] at hr;obtain⟨n,D',e1,e2⟩:=xR (i:=i+1) (F:=cD d F .undef) (ls:=ls) h1 h2' h3' h4 hr;refine⟨n,D',?_,e2⟩;have:sJ ⟨d,.q q,some (s,b),m⟩ i base (ev fns n).call ⟨F,S,[],[],ls⟩=some ⟨cD d F .undef,S,[],[],ls⟩:=by
     show bL (dS (some (s,b)) F) _ _=_;rw[show dS (some (s,b)) F=false by simpa using hw];rfl
    show aZ (sJ ⟨d,.q q,some (s,b),m⟩ i base (ev fns n).call ⟨F,S,[],[],ls⟩) _=_;rw[this];exact e1
 | ⟨d,.a a,g,m⟩::l,i,F,S,ls,h1,h2,h3,h4,hr=>by cases hr
 | ⟨d,.x a,g,m⟩::l,i,F,S,ls,h1,h2,h3,h4,hr=>by cases hr
theorem aLB{ops pre:List AO}{K m n:Nat}{x v:cJ}{A:bH}{S:St}{Q:Out→bH→St→Prop}(he:ops=pre++ [⟨none,.x (.st n x v),none,m⟩])(hK:pre.length=K)(h3:∀o∈pre,Nat.testBit o.mask K=false)(hm:∀i,i<K→Nat.testBit m i=true)
  (h:jR pre A.F S.h fun F'=>∃S1,aZ (v.val F').cells (fun cs=>lK (x.val F') n cs ⟨S.h,S.nx+(K+1)⟩)=some (.undef,S1)∧Q .normal ⟨F',A.inr⟩ S1):mA fns (.drw ops) A S Q:=by
 subst he;have hlen:(pre++ [(⟨none,.x (.st n x v),none,m⟩:AO)]).length=K+1:=by simp [hK]
 refine qX ?_;rw[hlen];refine xR (h:=S.h) (K:=K) (pre:=pre) (i:=0) rfl (by omega) h3 (fun l hl=>by cases hl) ?_;have mono:∀ {P P':Fr→Prop},(∀F,P F→P' F)→∀ (l:List AO) (F:Fr),jR l F S.h P→jR l F S.h P':=fun {P P'} hP l=>by
  induction l with
  | nil=>intro F h;exact hP F h
  | cons o l ih=>
   intro F h;obtain⟨d,op,g,mm⟩:=o;cases op with
   | q q=>
    simp only[jR] at h ⊢;split at h
    ·rename_i hw;rw[if_pos hw];obtain⟨w,hw1,hw2,hw3⟩:=h;exact⟨w,hw1,hw2,ih _ hw3⟩
    ·rename_i hw;rw[if_neg hw];exact ih _ h
   | a a=>cases h
   | x a=>cases h
 refine mono ?_ pre A.F h;rintro F' ⟨S1,e1,hQ⟩ ls hls;refine aC7 (v:=.undef) (S1:=S1) rfl (fun call=>by rw[eJ];exact e1) ?_;rw[oO];refine⟨?_,?_⟩
 ·simp only[Ff,List.reverse_nil,Cm];refine nH fun l hl=>?_;obtain⟨h1,h2,h4⟩:=hls l hl;unfold eY;rw[h4,aV,h1,aQ,hm _ h2,aQ]
 ·exact hQ
def gP(T:List cC)(j:Nat):Option Int:=(T[j]?).map (·.1)
def CF(nx:Nat→List Int)(a:Nat)(T:List cC):Prop:=∀j,j<T.length→∀c∈nx (a+j),((a+j:Nat):Int)<c∧c<((a+T.length:Nat):Int)∧gP T (c.toNat - a)=some ((a+j:Nat):Int)
def PF(nx:Nat→List Int)(a:Nat)(T:List cC)(j:Nat):Prop:=∃q,q<j∧gP T j=some ((a+q:Nat):Int)∧((a+j:Nat):Int)∈nx (a+q)
def aIw(nx:Nat→List Int)(a:Nat)(T:List cC):Prop:=∀j,j<T.length→(nx (a+j)).Pairwise (· < ·)
structure WF(nx:Nat→List Int)(a:Nat)(p:Int)(T:List cC):Prop where
 pos:0<T.length
 root:gP T 0=some p
 cf:CF nx a T
 pf:∀j,0<j→j<T.length→PF nx a T j
 inc:aIw nx a T
structure KF(nx:Nat→List Int)(r:Nat)(p:Int)(l:List Int)(L:List cC):Prop where
 cf:CF nx r L
 kid:∀c∈l,((r:Nat):Int)≤c∧c<((r+L.length:Nat):Int)∧gP L (c.toNat - r)=some p
 pf:∀j,j<L.length→(gP L j=some p∧((r+j:Nat):Int)∈l)∨PF nx r L j
 inc:aIw nx r L
 up:l.Pairwise (· < ·)
theorem rM{L1 L2:List cC}{j:Nat}(h:j<L1.length):gP (L1++L2) j=gP L1 j:=by unfold gP;rw[Ba h]
theorem oL{L1 L2:List cC}{j:Nat}(h:L1.length≤j):gP (L1++L2) j=gP L2 (j - L1.length):=by unfold gP;rw[Av h]
theorem CF.append{nx:Nat→List Int}{r:Nat}{L1 L2:List cC}(h1:CF nx r L1)(h2:CF nx (r+L1.length) L2):CF nx r (L1++L2):=fun j hj c hc=>by
 rw[Ak] at hj ⊢;by_cases h:j<L1.length
 ·obtain⟨a,b,d⟩:=h1 j h c hc;exact⟨a,by omega,by rw[rM (by omega)];exact d⟩
 ·have e:r+j=r+L1.length+(j - L1.length):=by omega
  rw[e] at hc;obtain⟨a,b,d⟩:=h2 (j - L1.length) (by omega) c hc;refine⟨by omega,by omega,?_⟩;rw[oL (by omega),show c.toNat - r - L1.length=c.toNat - (r+L1.length) by omega,d,e]
theorem PF.left{nx:Nat→List Int}{r j:Nat}{L1 L2:List cC}(h:PF nx r L1 j)(hj:j<L1.length):PF nx r (L1++L2) j:=by
 obtain⟨q,h1,h2,h3⟩:=h;exact⟨q,h1,by rw[rM hj];exact h2,h3⟩
theorem PF.right{nx:Nat→List Int}{r j:Nat}{L1 L2:List cC}(h:PF nx (r+L1.length) L2 (j - L1.length))(hj:L1.length≤j):PF nx r (L1++L2) j:=by
 obtain⟨q,h1,h2,h3⟩:=h;refine⟨L1.length+q,by omega,?_,?_⟩
 ·rw[oL hj,h2,show r+L1.length+q=r+(L1.length+q) by omega]
 ·rw[show r+(L1.length+q)=r+L1.length+q by omega,show r+j=r+L1.length+(j - L1.length) by omega];exact h3
theorem aIw.append{nx:Nat→List Int}{r:Nat}{L1 L2:List cC}(h1:aIw nx r L1)(h2:aIw nx (r+L1.length) L2):aIw nx r (L1++L2):=fun j hj=>by
 rw[Ak] at hj;by_cases h:j<L1.length
 ·exact h1 j h
 ·rw[show r+j=r+L1.length+(j - L1.length) by omega];exact h2 (j - L1.length) (by omega)
theorem aBV{rec:Nat→Option (List cC)}{nx:Nat→List Int}{p:Int}(hr:∀r L,rec r=some L→WF nx r p L):∀ {l:List Int} {r:Nat} {L:List cC},fW rec l r=some L→KF nx r p l L
 | [],r,L,h=>by
  simp only[fW,Aj] at h;subst h;exact⟨fun j hj=>by simp at hj,fun c hc=>by simp at hc,fun j hj=>by simp at hj,fun j hj=>by simp at hj,.nil⟩
 | c::l,r,L,h=>by
  simp only[fW] at h;split at h
  ·rename_i hc;obtain⟨L1,h1,h2⟩:=Cw.1 h;obtain⟨L2,h3,rfl⟩:=Ap.1 h2;have w:=hr r L1 h1;have k:=aBV hr h3;have hp:=w.pos;refine⟨w.cf.append k.cf,fun c' hc'=>?_,fun j hj=>?_,w.inc.append k.inc,?_⟩
   ·rw[Ak];rcases Bg.1 hc' with rfl | hc'
    ·rw[hc];refine⟨by omega,by omega,?_⟩;rw[show((r:Int)).toNat - r=0 by omega,rM hp];exact w.root
    ·obtain⟨a,b,d⟩:=k.kid c' hc';refine⟨by omega,by omega,?_⟩;rw[oL (by omega),show c'.toNat - r - L1.length=c'.toNat - (r+L1.length) by omega];exact d
   ·rw[Ak] at hj;by_cases h:j<L1.length
    ·by_cases j0:j=0
     ·subst j0;exact .inl ⟨by rw[rM h];exact w.root,by rw[Bj,hc];exact Bt ..⟩
     ·exact .inr ((w.pf j (by omega) h).left h)
    ·rcases k.pf (j - L1.length) (by omega) with⟨h4,h5⟩ | h4
     ·exact .inl ⟨by rw[oL (by omega)];exact h4,Bn _ (by rw[show r+j=r+L1.length+(j - L1.length) by omega];exact h5)⟩
     ·exact .inr (PF.right h4 (by omega))
   ·refine Cu.2 ⟨fun c' hc'=>?_,k.up⟩;have:=(k.kid c' hc').1;omega
  ·cases h
theorem iC{N:Nat}{nx:Nat→List Int}:∀ {f at_:Nat} {p d:Int} {T:List cC},eE N nx f at_ p d=some T→WF nx at_ p T
 | 0,at_,p,d,T,h=>by cases h
 | f+1,at_,p,d,T,h=>by
  simp only[eE] at h;split at h
  ·obtain⟨L,h1,rfl⟩:=Ap.1 h;have k:=aBV (p:=(at_:Int)) (fun r L hr=>iC hr) h1;have ps:∀j,gP ((p,d,((at_+L.length:Nat):Int))::L) (j+1)=gP L j:=fun j=>by unfold gP;rw[Dm]
   refine⟨by simp,rfl,fun j hj c hc=>?_,fun j j0 hj=>?_,fun j hj=>?_⟩
   ·rw[Au] at hj ⊢;cases j with
    | zero=>
     rw[Bj] at hc ⊢;obtain⟨a,b,e⟩:=k.kid c hc;refine⟨by omega,by omega,?_⟩;rw[show c.toNat - at_=(c.toNat - (at_+1))+1 by omega,ps];exact e
    | succ j=>
     rw[show at_+(j+1)=at_+1+j by omega] at hc ⊢;obtain⟨a,b,e⟩:=k.cf j (by omega) c hc;refine⟨by omega,by omega,?_⟩;rw[show c.toNat - at_=(c.toNat - (at_+1))+1 by omega,ps];exact e
   ·rw[Au] at hj;cases j with
    | zero=>omega
    | succ j=>
     rcases k.pf j (by omega) with⟨a,b⟩ | ⟨q,a,b,e⟩
     ·exact⟨0,by omega,by rw[ps,a];rfl,by rw[Bj,show at_+(j+1)=at_+1+j by omega];exact b⟩
     ·refine⟨q+1,by omega,?_,?_⟩
      ·rw[ps,b,show at_+1+q=at_+(q+1) by omega]
      ·rw[show at_+(q+1)=at_+1+q by omega,show at_+(j+1)=at_+1+j by omega];exact e
   ·rw[Au] at hj;cases j with
    | zero=>exact k.up
    | succ j=>
     rw[show at_+(j+1)=at_+1+j by omega];exact k.inc j (by omega)
  ·cases h
theorem aCa{ops pre:List AO}{K m n:Nat}{x v:cJ}{A:bH}{S:St}{Q:Out→bH→St→Prop}(he:ops=pre++ [⟨none,.x (.st n x v),none,m⟩])(hK:pre.length=K)(h3:(pre.all fun o=> !Nat.testBit o.mask K)=true)(hm:((List.range K).all fun i=>Nat.testBit m i)=true)
  (h:jR pre A.F S.h fun F'=>∃S1,aZ (v.val F').cells (fun cs=>lK (x.val F') n cs ⟨S.h,S.nx+(K+1)⟩)=some (.undef,S1)∧Q .normal ⟨F',A.inr⟩ S1):mA fns (.drw ops) A S Q:=by
 refine aLB he hK (fun o ho=>?_) (fun i hi=>?_) h
 ·have:=Dk.1 h3 o ho;simpa using this
 ·exact Dk.1 hm i (Fa.2 hi)
theorem aHM{W:Nat→Prop}{h0:T AB}{base i:Nat}{l:List AO}{F:Fr}{S:St}{ps:List iV}{last:Option Nat}{Q:Fr→St→List iV→Prop}{d:Option Nat}{t:Nat}{x:cJ}{cs:List AV}(hx:(x.val F).cells=some cs)
  (hr:fQ fns W h0 base l (i+1) (cD d F (.ptr (base+i) 0)) S (⟨i,base+i,.cells cs false 0⟩::ps) last Q):aFE fns W h0 base (vG (.box t x) F (base+i)) d l i F S ps last Q:=by
 rw[aHD,hx,aT,nE];exact hr
theorem bN.cells{k:IntKind}{S:St}{v:AV}{l:List Int}(h:bN k S v l):v.cells=some [v]:=by
 rcases h with⟨_,rfl | rfl⟩ | ⟨b,off,cap,o,cs,rfl,_⟩<;>rfl
def aAT:List Int→Nat→List Int→List Int
 | [],_,r=>r
 | c::l,s,r=>aAT l (s+1) (r.set c.toNat (s:Int))
def aBU(g:aW):Nat→List Int→List Int
 | 0,r=>r
 | i+1,r=>aBU g i (aAT (dB g i) 0 r)
def jM(g:aW):List Int:=aBU g g.nodes.length (List.replicate g.nodes.length 0)
structure gD(S:St)(wb plb szb:Nat)(pv nv iv:AV)(g:aW)(R Z:List Int):Prop where
 w:qJ S wb g.players nv iv pv (.sl plb 0 g.nodes.length g.nodes.length false) (.sl szb 0 g.nodes.length g.nodes.length false)
 gp:S.h.get plb=some (.cells (bC R) false 0)
 gz:S.h.get szb=some (.cells (bC Z) false 0)
 lp:R.length=g.nodes.length
 lz:Z.length=g.nodes.length
 bp:plb<S.nx
 bz:szb<S.nx
theorem gD.setZ{X:St}{wb plb szb n:Nat}{pv nv iv:AV}{g:aW}{R Z Z':List Int}(h:gD X wb plb szb pv nv iv g R Z)(n1:wb≠szb)(n2:plb≠szb)(hn:X.nx≤n)(hZ:Z'.length=g.nodes.length):gD ⟨X.h.set szb (some (.cells (bC Z') false 0)),n⟩ wb plb szb pv nv iv g R Z':=
 ⟨⟨by simp only;rw[T.get_set,if_neg n1];exact h.w.1,Ae h.w.2 hn⟩,by simp only;rw[T.get_set,if_neg n2];exact h.gp,by simp only;rw[T.get_set,if_pos rfl],h.lp,hZ,Ae h.bp hn,Ae h.bz hn⟩
theorem gD.setP{X:St}{wb plb szb n:Nat}{pv nv iv:AV}{g:aW}{R R' Z:List Int}(h:gD X wb plb szb pv nv iv g R Z)(n1:wb≠plb)(n2:plb≠szb)(hn:X.nx≤n)(hR:R'.length=g.nodes.length):gD ⟨X.h.set plb (some (.cells (bC R') false 0)),n⟩ wb plb szb pv nv iv g R' Z:=
 ⟨⟨by simp only;rw[T.get_set,if_neg n1];exact h.w.1,Ae h.w.2 hn⟩,by simp only;rw[T.get_set,if_pos rfl],by simp only;rw[T.get_set,if_neg (Co n2)];exact h.gz,hR,h.lz,Ae h.bp hn,Ae h.bz hn⟩
theorem oG.put{plb szb:Nat}{S X:St}{n b:Nat}{v:Option AB}(h:oG plb szb szb S X)(hb:b=plb∨b=szb)(hn:X.nx≤n):oG plb szb szb S ⟨X.h.set b v,n⟩:=⟨Ay h.1 hn,fun c hc h1 h2 h3=>by
 simp only;rw[T.get_set,if_neg (by rcases hb with rfl | rfl<;>assumption)];exact h.2 c hc h1 h2 h3⟩
theorem aHS{P:Ev.T AB→Prop}{h:Ev.T AB}{b1 b2 b3:Nat}{c1 z:Option AB}(n1:b1≠b2)(n2:b1≠b3)(n3:b2≠b3)(H:∀h':Ev.T AB,h'.get b1=c1→h'.get b2=z→h'.get b3=z→(∀c,c≠b1→c≠b2→c≠b3→h'.get c=h.get c)→P h'):P (((h.set b1 c1).set b2 z).set b3 z):=by
 refine H _ ?_ ?_ ?_ fun c h1 h2 h3=>?_
 ·rw[T.get_set,if_neg n2,T.get_set,if_neg n1,T.get_set,if_pos rfl]
 ·rw[T.get_set,if_neg n3,T.get_set,if_pos rfl]
 ·rw[T.get_set,if_pos rfl]
 ·rw[T.get_set,if_neg h3,T.get_set,if_neg h2,T.get_set,if_neg h1]
theorem aHE{hi:Int}:∀ {l:List Int} {lo:Int},l.Pairwise (· < ·)→(∀c∈l,lo≤c∧c<hi)→l.length≤(hi - lo).toNat
 | [],lo,_,_=>by simp
 | c::l,lo,h,hb=>by
  obtain⟨h1,h2⟩:=Cu.1 h;have hc:=hb c (Bt ..);have:=aHE (lo:=c+1) h2 fun c' hc'=>⟨by have:=h1 c' hc';omega,(hb c' (Bn _ hc')).2⟩;rw[Au];omega
noncomputable def aL6:List AO:=[mt 47 7,
om 48 1 (.nilchk (.t 47)),
om 49 3 (.faddr 5 (.t 48)),
om 50 7 (ld 49),
mt 51 4,
mt 52 8,
om 53 48 (.iaddr (.slice 1) (.t 51) (.t 52)),
om 54 112 (ld 53),
om 55 255 (.iaddr (.slice 1) (.t 50) (.t 54)),
om 56 511 (ld 55),
mt 57 7,
om 58 1024 (.nilchk (.t 57)),
om 59 3072 (.faddr 5 (.t 58)),
om 60 7168 (ld 59),
mt 61 8,
om 62 31744 (.iaddr (.slice 1) (.t 60) (.t 61)),
om 63 64512 (ld 62),
om 64 131071 (bi .add (.t 56) (.t 63)),
om 65 262143 (.iaddr (.slice 1) (.t 50) (.t 54))]
def szS(T:List cC)(i:Nat)(Z:List Int):List Int:=if 0<i then(Z.set i (IntKind.i64.wrap (Z.getD i 0+1))).set ((T.map fun t:cC=>t.1).getD i 0).toNat (IntKind.i64.wrap ((Z.set i (IntKind.i64.wrap (Z.getD i 0+1))).getD ((T.map fun t:cC=>t.1).getD i 0).toNat 0+(Z.set i (IntKind.i64.wrap (Z.getD i 0+1))).getD i 0)) else Z.set i (IntKind.i64.wrap (Z.getD i 0+1))
def szG(T:List cC):Nat→List Int→List Int
 | 0,Z=>Z
 | i+1,Z=>szG T i (szS T i Z)
def szL(T:List cC)(n:Nat):List Int:=szG T n (List.replicate n 0)
def aOg(Z0:St)(gb wb plb szb:Nat)(pv nv iv:AV)(g:aW)(T:List cC)(k:Nat)(A:bH)(X:St):Prop:=A.inr=false∧oG plb szb szb Z0 X∧∃R Z,gD X wb plb szb pv nv iv g R Z∧k≤g.nodes.length∧aBU g k R=jM g∧szG T k Z=szL T g.nodes.length∧aD 1 A.F= .ptr gb 0∧aD 4 A.F=pv∧aD 7 A.F= .ptr wb 0∧aD 8 A.F= .int .i64 ((k:Int) - 1)
def aN6(Z0:St)(gb wb plb szb:Nat)(pv nv iv a:AV)(g:aW)(i:Nat)(next Z:List Int)(k:Nat)(A:bH)(X:St):Prop:=A.inr=false∧oG plb szb szb Z0 X∧∃j R,gD X wb plb szb pv nv iv g R Z∧j+k=next.length∧aBU g i (aAT (next.drop j) j R)=jM g∧aD 1 A.F= .ptr gb 0∧aD 4 A.F=pv∧aD 7 A.F= .ptr wb 0∧aD 8 A.F= .int .i64 (i:Int)∧aD 71 A.F=a∧aD 72 A.F= .int .i64 ((next.length:Nat):Int)∧aD 73 A.F= .int .i64 (j:Int)
def aMX(S S':St)(p nv iv:AV)(g:aW):Prop:=∃ (wb plb szb:Nat) (pv:AV) (T:List cC) (Z:List Int),p= .ptr wb 0∧S.nx≤wb∧eK g=some T∧T.length=g.nodes.length∧bN .i64 S' pv (T.map (·.1))∧gD S' wb plb szb pv nv iv g (jM g) Z
def aKN(S S':St)(p nv iv:AV)(g:aW):Prop:=∃ (wb plb szb:Nat) (pv:AV) (T:List cC),p= .ptr wb 0∧S.nx≤wb∧eK g=some T∧T.length=g.nodes.length∧bN .i64 S' pv (T.map (·.1))∧gD S' wb plb szb pv nv iv g (jM g) (szL T g.nodes.length)
theorem aCj{S:St}{nv iv:AV}{g:aW}(H:Has fns)(hn:aN 6 bT S nv g.nodes)(hi:aN 2 cV S iv g.infos)(hln:g.nodes.length≤100000):
  fA fns (.fn 22 [] []) [.agg [.int .i64 g.players,nv,iv]] S fun r S'=>Same S S'∧∃p,r= .tup [p,.int .i64 (cM g)]∧(cM g=0→aKN S S' p nv iv g):=by
 refine bP H.f22 (by simp) ?_;simp only[↓sU,sD,rE,↓reduceIte,rA];refine bE ?_;refine dG (by simp only[↓sU,sD,rE,↓reduceIte,rA];exact bJ _) ?_;intro S1 s1 n1 c1;simp only[↓sU,sD,rE,↓reduceIte,rA];refine bE ?_;simp only[↓sU,sD,rE,↓reduceIte,rA,gG c1];refine aY ?_;simp only[↓sU,sD,rE,↓reduceIte,rA];refine aP (aD4 H (aN.same (E:=bT) bI hn s1) (aN.same (E:=cV) cE hi s1) hln) ?_;rintro _ X ⟨pv,rfl,hX,hP⟩;simp only[↓sU,sD,rE,↓reduceIte,rA,ex0,ex1];refine eG ?_;simp only[↓sU,sD,rE,↓reduceIte,rA];by_cases h0:cM g=0;rotate_left
 ·refine aM (by simp only[↓sU,sD,rE,↓reduceIte,rA,Ab (show cM g≠0 from h0)]) ?_;refine bE ?_;simp only[↓sU,sD,rE,↓reduceIte,rA];refine aO ?_;simp only[↓sU,sD,rE,↓reduceIte,rA];exact⟨s1.trans hX,_,rfl,fun h=>absurd h h0⟩
 refine aK (by simp only[↓sU,sD,rE,↓reduceIte,rA,Aa (show ¬cM g≠0 from fun h=>h h0)]) (aI ?_);try simp only[↓sU,sD,rE,↓reduceIte,rA]
 obtain⟨T,hT,hTl,hpv⟩:=hP.2 h0;have hwf:=iC (show eE g.nodes.length (dB g) (g.nodes.length+1) 0 (-1) 0=some T from hT);have sX:=s1.trans hX;have lgX:S.nx<X.nx:=by have:=hX.1;omega
 have cX:X.h.get S.nx=some (.cells [.int .i64 g.players,nv,iv] false 0):=by rw[hX.2 _ (by omega)];exact c1
 have sn:=aN.self hn;have si:=aN.self hi;have sg:=zB (dJ .i64 g.players) sn si;refine bE ?_;simp only[↓sU,sD,rE,↓reduceIte,rA,aH,aG,eF cX,hn.len];refine aA (qA (fun _=>False) ?_);intro X1 x1 hx1 hm1;have hbd:∀ (F:Fr) (h:Ev.T AB) (x y:AV),aD 22 F= .agg [.int .i64 g.players,nv,iv]→aD 23 F=pv→aD 25 F=x→aD 27 F=y→x.cells=some [x]→y.cells=some [y]→gS (.build [.int .i64 0,.nilsl,.nilsl,.nilsl,.nilsl,.nilsl] [(0,3,.t 22),(3,1,.t 23),(4,1,.t 25),(5,1,.t 27)]) F h=some (.agg [.int .i64 g.players,nv,iv,pv,x,y]):=fun F h x y h1 h2 h3 h4 h5 h6=>by
  show(aZ (gH _ (fF F [(0,3,.t 22),(3,1,.t 23),(4,1,.t 25),(5,1,.t 27)])) fun cs=>some (AV.agg cs))=_;simp only[fF,show(cJ.t 22).val F= .agg [.int .i64 g.players,nv,iv] from h1,show(cJ.t 23).val F=pv from h2,show(cJ.t 25).val F=x from h3,show(cJ.t 27).val F=y from h4,gH,bN.cells hpv,h5,h6,bJ,aT];rfl
 simp only[↓sU,sD,rE,↓reduceIte,rA,aH,aX,aG,gG cX,lgX,Aq,sg];refine nI (n:=g.nodes.length) (by simp only[↓sU,sD,rE,↓reduceIte,rA,aE]) (by simp only[↓sU,sD,rE,↓reduceIte,rA,aE]) (by unfold room;omega) (by unfold room;omega) ?_;simp only[↓sU,sD,rE,↓reduceIte,rA];refine nI (n:=g.nodes.length) (by simp only[↓sU,sD,rE,↓reduceIte,rA,aE]) (by simp only[↓sU,sD,rE,↓reduceIte,rA,aE]) (by unfold room;omega) (by unfold room;omega) ?_;have hbd':=fun(F:Fr) (h:Ev.T AB) h1 h2 h3 h4=>hbd F h (.sl (X.nx+3) 0 g.nodes.length g.nodes.length false) (.sl (X.nx+5) 0 g.nodes.length g.nodes.length false) h1 h2 h3 h4 rfl rfl;simp only[↓sU,sD,rE,↓reduceIte,rA,mR,hbd'];refine aHM (cs:=[.int .i64 g.players,nv,iv,pv,.sl (X.nx+3) 0 g.nodes.length g.nodes.length false,.sl (X.nx+5) 0 g.nodes.length g.nodes.length false]) (by simp only[↓sU,sD,rE,↓reduceIte,rA];exact bJ _) ?_;simp only[↓sU,sD,rE,↓reduceIte,rA];rw[lU,fH (show Nat.testBit (2 ^ 9 - 1) 7=true by decide),fH (show Nat.testBit (2 ^ 9 - 1) 5=true by decide),fH (show Nat.testBit (2 ^ 9 - 1) 3=true by decide),cK];refine aHS (P:=fun h'=>mA fns _ _ ⟨h',X1.nx⟩ _) (by omega) (by omega) (by omega) ?_;intro Zh gw g5 g3 gr;have hm1:X1.nx=X.nx+9:=hm1;have sZ:Same S ⟨Zh,X1.nx⟩:=⟨by show S.nx≤X1.nx;have:=sX.1;omega,fun c hc=>by
  have:=sX.1;show Zh.get c=S.h.get c;rw[gr c (by omega) (by omega) (by omega),hx1];exact sX.2 c hc⟩
 have cZ:Zh.get S.nx=some (.cells [.int .i64 g.players,nv,iv] false 0):=by
  rw[gr _ (by omega) (by omega) (by omega),hx1];exact cX
 have hB:gD ⟨Zh,X1.nx⟩ (X.nx+7) (X.nx+3) (X.nx+5) pv nv iv g (List.replicate g.nodes.length 0) (List.replicate g.nodes.length 0):=⟨⟨gw,by show X.nx+7<X1.nx;omega⟩,g3,g5,Ao ..,Ao ..,by show _<X1.nx;omega,by show _<X1.nx;omega⟩;have sXZ:Same X ⟨Zh,X1.nx⟩:=⟨by show X.nx≤X1.nx;omega,fun c hc=>by
  show Zh.get c=X.h.get c;rw[gr c (by omega) (by omega) (by omega),hx1]⟩
 have lwS:=sX.1;generalize hZ:(⟨Zh,X1.nx⟩:St)=Z0 at *;have cZ:Z0.h.get S.nx=some (.cells [.int .i64 g.players,nv,iv] false 0):=by rw[←hZ];exact cZ
 have lgZ:S.nx<Z0.nx:=Ae lgX sXZ.1;have n73:X.nx+7≠X.nx+3:=by omega
 have n75:X.nx+7≠X.nx+5:=by omega
 have n35:X.nx+3≠X.nx+5:=by omega
 have ng3:S.nx≠X.nx+3:=by omega
 have ng5:S.nx≠X.nx+5:=by omega
 have l3:S.nx≤X.nx+3:=by omega
 have l5:S.nx≤X.nx+5:=by omega
 have l7:S.nx≤X.nx+7:=by omega
 have lx3:X.nx≤X.nx+3:=by omega
 have lx5:X.nx≤X.nx+5:=by omega
 generalize hb7:X.nx+7=wb at *;generalize hb3:X.nx+3=plb at *;generalize hb5:X.nx+5=szb at *;have hcr:∀i,i<g.nodes.length→∀c∈dB g i,(i:Int)<c∧c<((g.nodes.length:Nat):Int):=fun i hi c hc=>by
  have:=hwf.cf i (by omega) c (by rw[An];exact hc);omega
 have hpr:∀i,0<i→i<g.nodes.length→∃q:Nat,q<i∧(T.map (·.1)).getD i 0=(q:Int):=fun i h1 h2=>by
  obtain⟨q,a,b,_⟩:=hwf.pf i h1 (by omega);refine⟨q,a,?_⟩;rw[Ad,Az];unfold gP at b;rw[b,An];rfl
 have hN:g.nodes.length≤100000:=hln;have w0:IntKind.i64.wrap (((g.nodes.length:Nat):Int) - 1)=((g.nodes.length:Nat):Int) - 1:=wrap_i64 (by omega) (by omega);refine aA (aS (Q:=fun o A' Y=>o= .normal∧aOg Z0 S.nx wb plb szb pv nv iv g T 0 A' Y) (aA (aF ?_)) ?_)
 ·simp only[↓aC,aB,rE,↓reduceIte,rA,w0];refine aJ (bB (aOg Z0 S.nx wb plb szb pv nv iv g T) ?_ g.nodes.length _ _ ⟨rfl,oG.refl _ _ _ _,_,_,hB,Ah _,rfl,rfl,by refine⟨?_,?_,?_,?_⟩<;>simp only[↓aC,aB,rE,↓reduceIte,rA]⟩);rintro k ⟨F,inr⟩ Y ⟨q0,hY,R,Z,hB,hkN,hpl,hsz,p1,p4,p7,p8⟩;simp only at q0 p1 p4 p7 p8;subst q0;refine eG ?_;simp only[↓aC,aB,rE,↓reduceIte,rA,p8];by_cases hk:0<k
  ·refine aM (by simp only[↓aC,aB,rE,↓reduceIte,rA,Ab (show(0:Int)≤(k:Int) - 1 by omega)]) (aI ?_);try simp only[↓aC,aB,rE,↓reduceIte,rA]
   obtain⟨i,rfl⟩:∃i,k=i+1:=⟨k - 1,by omega⟩;have e1:(((i+1:Nat):Int)) - 1=(i:Int):=by omega
   rw[e1] at p8;have hlt:i<g.nodes.length:=by omega
   have hia:=dI (b:=szb) (o:=false) hlt;have hltZ:i<Z.length:=by rw[hB.lz];exact hlt
   have hz0:=fN (p:=i) (x:=.int .i64 (Z.getD i 0)) hB.gz (by unfold bC;rw[Az,Ac hltZ,Ad,Ac hltZ];rfl);refine aA (aJ (aA (aF ?_)));simp only[↓aC,aB,rE,↓reduceIte,rA,p7,p8,bF,bG,aH,aG,dF hB.w.1,aE,hia,hz0];refine fD (fun call=>by simp only[↓aC,aB,rE,↓reduceIte,rA,eJ,cI];exact oC (S:=Y) hB.gz hltZ) ?_;simp only[↓aC,aB,rE,↓reduceIte,rA];have hS:szS T i Z=if 0<i then(Z.set i (IntKind.i64.wrap (Z.getD i 0+1))).set ((T.map fun t:cC=>t.1).getD i 0).toNat (IntKind.i64.wrap ((Z.set i (IntKind.i64.wrap (Z.getD i 0+1))).getD ((T.map fun t:cC=>t.1).getD i 0).toNat 0+(Z.set i (IntKind.i64.wrap (Z.getD i 0+1))).getD i 0)) else Z.set i (IntKind.i64.wrap (Z.getD i 0+1)):=rfl;have hsz:szG T i (szS T i Z)=szL T g.nodes.length:=hsz;generalize szS T i Z=ZS at hS hsz;have hB1:=hB.setZ (Z':=Z.set i (IntKind.i64.wrap (Z.getD i 0+1))) n75 n35 (Ah _) (by rw[Al];exact hB.lz);have hY1:=hY.put (b:=szb) (v:=some (.cells (bC (Z.set i (IntKind.i64.wrap (Z.getD i 0+1)))) false 0)) (.inr rfl) (Ah Y.nx);generalize (⟨Y.h.set szb (some (.cells (bC (Z.set i (IntKind.i64.wrap (Z.getD i 0+1)))) false 0)),Y.nx⟩:St)=Y1 at *;generalize Z.set i (IntKind.i64.wrap (Z.getD i 0+1))=Z1 at *;clear hz0 hltZ hB hY;have sXY:Same X Y1:=hY1.same sXZ lx3 lx5 lx5;have hltZ:i<Z1.length:=by rw[hB1.lz];exact hlt
   have ldz:∀j,j<g.nodes.length→dT (.ptr szb j) false 1 Y1.h=some (.int .i64 (Z1.getD j 0)):=fun j hj=>fN hB1.gz (by
    have hj':j<Z1.length:=by rw[hB1.lz];exact hj
    unfold bC;rw[Az,Ac hj',Ad,Ac hj'];rfl)
   refine aA (aS (Q:=fun o A' Y'=>o= .normal∧A'.inr=false∧oG plb szb szb Z0 Y'∧gD Y' wb plb szb pv nv iv g R ZS∧aD 1 A'.F= .ptr S.nx 0∧aD 4 A'.F=pv∧aD 7 A'.F= .ptr wb 0∧aD 8 A'.F= .int .i64 (i:Int)) (aA (aF ?_)) ?_)
   ·simp only[↓aC,aB,rE,↓reduceIte,rA,p8];by_cases hi0:0<i
    ·refine aM (by simp only[↓aC,aB,rE,↓reduceIte,rA,Ab (show(0:Int)<(i:Int) by omega)]) ?_;obtain⟨q,hq,hqv⟩:=hpr i hi0 hlt;have hltP:i<(T.map (·.1)).length:=by rw[Bc];omega
     have iap:=(hpv.same sXY).iaddr hltP;have lap:=(hpv.same sXY).ld hltP;rw[hqv] at lap;have hiq:=dI (b:=szb) (N:=g.nodes.length) (o:=false) (show q<g.nodes.length by omega);have lq:=ldz q (by omega);have li:=ldz i hlt;rw[if_pos hi0,hqv,Bf] at hS;subst hS;refine aCa (pre:=aL6) (K:=19) (m:=524287) (n:=1) (x:=.t 65) (v:=.t 64) rfl rfl rfl rfl ?_;unfold aL6;simp only[↓aC,aB,rE,↓reduceIte,rA,p4,p7,p8,bF,bO,bG,aH,aX,aG,dF hB1.w.1,aE,iap,lap,hiq,lq,hia,li];simp only[cI,aT];exact⟨_,oC (S:=⟨Y1.h,Y1.nx+20⟩) hB1.gz (by rw[hB1.lz];omega),hY1.put (.inr rfl) (Cd _ _),hB1.setZ n75 n35 (Cd _ _) (by rw[Al];exact hB1.lz),p1⟩
    ·refine aK (by simp only[↓aC,aB,rE,↓reduceIte,rA,Aa (show ¬ (0:Int)<(i:Int) by omega)]) (aI ?_);try simp only[↓aC,aB,rE,↓reduceIte,rA]
     rw[if_neg hi0] at hS;subst hS;exact⟨hY1,hB1,by refine⟨?_,?_,?_,?_⟩<;>simp only[↓aC,aB,rE,↓reduceIte,rA,p1,p4,p7,p8]⟩
   clear p1 p4 p7 p8 ldz hltZ hY1 hB1 sXY;rintro o ⟨F,inr⟩ Y2 ⟨rfl,q0,hY2,hB2,p1,p4,p7,p8⟩;simp only at q0 p1 p4 p7 p8;subst q0;try simp only[↓aC,aB,rE,↓reduceIte,rA]
   have sSY:Same S Y2:=hY2.same sZ l3 l5 l5;have cY:Y2.h.get S.nx=some (.cells [.int .i64 g.players,nv,iv] false 0):=by rw[hY2.2 _ lgZ ng3 ng5 ng5];exact cZ
   obtain⟨x,hx⟩:∃x,g.nodes[i]? =some x:=⟨_,Ac hlt⟩;have hnx:=wR hx;obtain⟨e,b,q,hian,hb,he,⟨a,bb,cc,rfl,ha,_,_⟩,_,hlf⟩:=aN.at hn (by decide) hx;have hl3:=hlf 3 a rfl;rw[←jO sSY hb] at hl3;have hcx:=hcr i hlt;rw[hnx] at hcx;have hpl:aBU g i (aAT x.next 0 R)=jM g:=by rw[←hnx];exact hpl
   have hxl:x.next.length≤100000:=by
    have hinc:=hwf.inc i (by omega);rw[An,hnx] at hinc;have:=aHE (lo:=0) hinc fun c hc=>⟨by have:=(hcx c hc).1;omega,(hcx c hc).2⟩;omega
   refine bE ?_;simp only[↓aC,aB,rE,↓reduceIte,rA,p1,p8,aH,aG,eF cY,aE,hian,hl3,ha.len,Ag];refine aS (Q:=fun o A' Y'=>o= .normal∧aN6 Z0 S.nx wb plb szb pv nv iv a g i x.next ZS 0 A' Y') ?_ ?_
   ·refine aJ (bB (aN6 Z0 S.nx wb plb szb pv nv iv a g i x.next ZS) ?_ x.next.length _ _ ⟨rfl,hY2,0,R,hB2,by omega,hpl,by refine⟨?_,?_,?_,?_,?_,?_,?_⟩<;>simp only[↓aC,aB,rE,↓reduceIte,rA,p1,p4,p7,p8]⟩);clear p1 p4 p7 p8 hpl cY hian hb hl3 hlf hB2 hY2 sSY;rintro k ⟨F,inr⟩ W ⟨q0,hW,j,R,hB,hjk,hpl,p1,p4,p7,p8,p71,p72,p73⟩;simp only at q0 p1 p4 p7 p8 p71 p72 p73;subst q0;refine bE ?_;simp only[↓aC,aB,rE,↓reduceIte,rA,p72,p73];by_cases hj:j<x.next.length
    ·refine aA (aM (by simp only[↓aC,aB,rE,↓reduceIte,rA,Ab (show(j:Int)<((x.next.length:Nat):Int) by omega)]) (aI ?_));try simp only[↓aC,aB,rE,↓reduceIte,rA]
     have sSW:Same S W:=hW.same sZ l3 l5 l5;have haW:=ha.same sSW;have iaj:=haW.iaddr hj;have laj:=haW.ld hj;have hdr:x.next.drop j=x.next[j]::x.next.drop (j+1):=Br hj;have hgd:x.next.getD j 0=x.next[j]:=by rw[Ad,Ac hj];rfl
     rw[hgd] at laj;rw[hdr] at hpl;obtain⟨c0,c1'⟩:=hcx _ (Bh hj);generalize x.next[j]=c at *;obtain⟨m,rfl⟩:∃m:Nat,c=(m:Int):=⟨c.toNat,by omega⟩;have hm:m<g.nodes.length:=by omega
     have hiam:=dI (b:=plb) (o:=false) hm;have w1:IntKind.i64.wrap ((j:Int)+1)=((j+1:Nat):Int):=by rw[wrap_i64 (by omega) (by omega)];omega
     refine aA (aJ (aA (aF ?_)));simp only[↓aC,aB,rE,↓reduceIte,rA,p71,p73,aE,iaj,laj];refine aF ?_;simp only[↓aC,aB,rE,↓reduceIte,rA,p7,bF,bG,aH,aG,cU hB.w.1,aE,hiam];refine fD (fun call=>by simp only[↓aC,aB,rE,↓reduceIte,rA,eJ,cI];exact oC (S:=W) hB.gp (by rw[hB.lp];exact hm)) ?_;simp only[↓aC,aB,rE,↓reduceIte,rA];refine aF ?_;simp only[↓aC,aB,rE,↓reduceIte,rA,p73,w1];simp only[aAT,Bf] at hpl;exact⟨k - 1,by omega,rfl,hW.put (.inl rfl) (Ah _),j+1,R.set m (j:Int),hB.setP n73 n35 (Ah _) (by rw[Al];exact hB.lp),by omega,hpl,by refine⟨?_,?_,?_,?_,?_,?_,?_⟩<;>simp only[↓aC,aB,rE,↓reduceIte,rA,p1,p4,p7,p8,p71,p72]⟩
    ·refine aA (aK (by simp only[↓aC,aB,rE,↓reduceIte,rA,Aa (show ¬ (j:Int)<((x.next.length:Nat):Int) by omega)]) (aU ?_));simp only[↓aC,aB,rE,↓reduceIte,rA];have hk0:k=0:=by omega
     subst hk0;exact⟨rfl,hW,j,R,hB,hjk,hpl,by refine⟨?_,?_,?_,?_,?_,?_,?_⟩<;>simp only[↓aC,aB,rE,↓reduceIte,rA,p1,p4,p7,p8,p71,p72,p73]⟩
   clear p1 p4 p7 p8;rintro o ⟨F,inr⟩ W ⟨rfl,q0,hW,j,R3,hB3,hjk,hpl3,p1,p4,p7,p8,p71,p72,p73⟩;simp only at q0 p1 p4 p7 p8;subst q0;rw[Cc (by omega)] at hpl3;have w2:IntKind.i64.wrap ((i:Int) - 1)=(i:Int) - 1:=wrap_i64 (by omega) (by omega);try simp only[↓aC,aB,rE,↓reduceIte,rA]
   refine aF ?_;simp only[↓aC,aB,rE,↓reduceIte,rA,p8,w2];exact⟨i,by omega,rfl,hW,R3,ZS,hB3,by omega,hpl3,hsz,by refine⟨?_,?_,?_,?_⟩<;>simp only[↓aC,aB,rE,↓reduceIte,rA,p1,p4,p7]⟩
  ·refine aK (by simp only[↓aC,aB,rE,↓reduceIte,rA,Aa (show ¬ (0:Int)≤(k:Int) - 1 by omega)]) (aU ?_);simp only[↓aC,aB,rE,↓reduceIte,rA];have hk0:k=0:=by omega
   subst hk0;exact⟨rfl,hY,R,Z,hB,hkN,hpl,hsz,by refine⟨?_,?_,?_,?_⟩<;>simp only[↓aC,aB,rE,↓reduceIte,rA,p1,p4,p7,p8]⟩
 rintro o ⟨F,inr⟩ Y ⟨rfl,q0,hY,R,Z,hB,hkN,hpl,hsz,p1,p4,p7,p8⟩;simp only at q0 p7;subst q0;have hpl:R=jM g:=hpl;subst hpl;have hsz:Z=szL T g.nodes.length:=hsz;subst hsz;try simp only[↓aC,aB,rE,↓reduceIte,rA]
 refine bE ?_;simp only[↓aC,aB,rE,↓reduceIte,rA,p7];refine aO ?_;simp only[↓aC,aB,rE,↓reduceIte,rA];rw[h0];have sXY:Same X Y:=hY.same sXZ lx3 lx5 lx5;exact⟨sX.trans sXY,_,rfl,fun _=>⟨wb,plb,szb,pv,T,rfl,l7,hT,hTl,hpv.same sXY,hB⟩⟩
theorem aDm{S:St}{nv iv:AV}{g:aW}(H:Has fns)(hn:aN 6 bT S nv g.nodes)(hi:aN 2 cV S iv g.infos)(hln:g.nodes.length≤100000):
  fA fns (.fn 22 [] []) [.agg [.int .i64 g.players,nv,iv]] S fun r S'=>Same S S'∧∃p,r= .tup [p,.int .i64 (cM g)]∧(cM g=0→aMX S S' p nv iv g):=by
 refine aP (aCj H hn hi hln) fun r S' h=>?_;obtain⟨h1,p,h2,h3⟩:=h;refine⟨h1,p,h2,fun h0=>?_⟩;obtain⟨wb,plb,szb,pv,T,a,b,c,d,e,f⟩:=h3 h0;exact⟨wb,plb,szb,pv,T,_,a,b,c,d,e,f⟩
def aDq(m:List Int):Prop:=∃i k,k<i∧i<m.length∧m.getD i 0=m.getD k 0
open Classical in
noncomputable def iL(n:Nat)(m:List Int)(ok:Prop):Int:=if m.length≠n then 10 else if ¬lF m n then 2 else if aDq m then 8 else if ok then 0 else 3
def CkR(S1:St)(gb:Nat)(mv:AV)(n:Nat)(m:List Int)(k:Nat)(A:bH)(X:St):Prop:=A.inr=false∧Same S1 X∧∃i,i+k=n∧(∀j,j<i→0≤m.getD j 0∧m.getD j 0<n)∧aD 1 A.F=mv∧aD 2 A.F= .ptr gb 0∧aD 5 A.F= .int .i64 (n:Int)∧aD 6 A.F= .int .i64 (i:Int)
def CkD(S1:St)(gb:Nat)(mv:AV)(n:Nat)(m:List Int)(k:Nat)(A:bH)(X:St):Prop:=A.inr=false∧Same S1 X∧∃i,i+k=n∧(∀j l,l<j→j<i→m.getD j 0≠m.getD l 0)∧aD 1 A.F=mv∧aD 2 A.F= .ptr gb 0∧aD 5 A.F= .int .i64 (n:Int)∧aD 7 A.F= .int .i64 (i:Int)
def CkE(S1:St)(gb:Nat)(mv:AV)(n i:Nat)(m:List Int)(k:Nat)(A:bH)(X:St):Prop:=A.inr=false∧Same S1 X∧∃l,l+k=i∧(∀j,j<l→m.getD i 0≠m.getD j 0)∧aD 1 A.F=mv∧aD 2 A.F= .ptr gb 0∧aD 5 A.F= .int .i64 (n:Int)∧aD 7 A.F= .int .i64 (i:Int)∧aD 8 A.F= .int .i64 (l:Int)
theorem aAL{S:St}{nv iv mv:AV}{g:aW}{m:List Int}{ok:Prop}(H:Has fns)(hn:aN 6 bT S nv g.nodes)(hm:bN .i64 S mv m)(hln:g.nodes.length≤100000)
  (himg:m.length=g.nodes.length→lF m g.nodes.length→¬aDq m→∀S',Same S S'→fA fns (.fn 33 [] []) [.agg [.int .i64 g.players,nv,iv],mv] S' fun r S''=>Same S' S''∧∃a b t,r= .tup [a,b,.bool t]∧(t=true↔ok)):
  fA fns (.fn 29 [] []) [.agg [.int .i64 g.players,nv,iv],mv] S fun r S'=>r= .int .i64 (iL g.nodes.length m ok)∧Same S S':=by
 refine bP H.f29 (by simp) ?_;simp only[↓sU,sD,rE,↓reduceIte,rA];refine bE ?_;refine dG (by simp only[↓sU,sD,rE,↓reduceIte,rA];exact bJ _) ?_;intro S1 s1 n1 c1;simp only[↓sU,sD,rE,↓reduceIte,rA];have lg1:S.nx<S1.nx:=by omega
 refine bE ?_;simp only[↓sU,sD,rE,↓reduceIte,rA,aH,aG,eF c1,hn.len];refine eG ?_;simp only[↓sU,sD,rE,↓reduceIte,rA,hm.len,Ag];by_cases hlen:m.length=g.nodes.length;rotate_left
 ·refine aM (by simp only[↓sU,sD,rE,↓reduceIte,rA,Ab (show((m.length:Nat):Int)≠((g.nodes.length:Nat):Int) by omega)]) ?_;refine bE ?_;simp only[↓sU,sD,rE,↓reduceIte,rA];refine aO ?_;simp only[↓sU,sD,rE,↓reduceIte,rA];unfold iL;rw[if_pos hlen];exact⟨rfl,s1⟩
 refine aK (by simp only[↓sU,sD,rE,↓reduceIte,rA,Aa (show ¬ ((m.length:Nat):Int)≠((g.nodes.length:Nat):Int) by omega)]) (aI ?_);try simp only[↓sU,sD,rE,↓reduceIte,rA]
 unfold iL;rw[if_neg (fun h=>h hlen)];refine aA (aS (Q:=fun o A' X=>(o= .normal∧CkR S1 S.nx mv g.nodes.length m 0 A' X)∨(o= .ret∧Same S1 X∧¬lF m g.nodes.length∧aD 4 A'.F= .int .i64 2)) (aA (aF ?_)) ?_)
 ·simp only[↓aC,aB,rE,↓reduceIte,rA];refine aJ (bB (CkR S1 S.nx mv g.nodes.length m) ?_ g.nodes.length _ _ ⟨rfl,Same.refl _,0,by omega,fun j hj=>by omega,by refine⟨?_,?_,?_,?_⟩<;>simp only[↓aC,aB,rE,↓reduceIte,rA]⟩);rintro k ⟨F,inr⟩ X ⟨q0,hX,i,hik,hr,p1,p2,p5,p6⟩;simp only at q0 p1 p2 p5 p6;subst q0;refine eG ?_;simp only[↓aC,aB,rE,↓reduceIte,rA,p5,p6];by_cases hlt:i<g.nodes.length
  ·refine aM (by simp only[↓aC,aB,rE,↓reduceIte,rA,Ab (show(i:Int)<((g.nodes.length:Nat):Int) by omega)]) (aI ?_);try simp only[↓aC,aB,rE,↓reduceIte,rA]
   have hmX:=hm.same (s1.trans hX);have ia:=hmX.iaddr (show i<m.length by omega);have la:=hmX.ld (show i<m.length by omega);have hmem:m.getD i 0∈m:=by rw[Ad,Ac (show i<m.length by omega)];exact Bh _
   have w1:IntKind.i64.wrap ((i:Int)+1)=((i+1:Nat):Int):=by rw[wrap_i64 (by omega) (by omega)];omega
   refine aA (aJ (aA (aS (Q:=fun o A' Y=>o= .normal∧A'.inr=false∧Y=X∧aD 1 A'.F=mv∧aD 2 A'.F= .ptr S.nx 0∧aD 5 A'.F= .int .i64 ((g.nodes.length:Nat):Int)∧aD 6 A'.F= .int .i64 (i:Int)∧aD 36 A'.F= .bool (decide (m.getD i 0<0∨((g.nodes.length:Nat):Int)≤m.getD i 0))) (aF ?_) ?_)))
   ·by_cases h1:m.getD i 0<0
    ·rw[Ab (show m.getD i 0<0∨((g.nodes.length:Nat):Int)≤m.getD i 0 from .inl h1)];simp only[↓aC,aB,rE,↓reduceIte,rA,p1,p2,p5,p6,aE,ia,la,Ab h1]
    ·by_cases h2:((g.nodes.length:Nat):Int)≤m.getD i 0
     ·rw[Ab (show m.getD i 0<0∨((g.nodes.length:Nat):Int)≤m.getD i 0 from .inr h2)];simp only[↓aC,aB,rE,↓reduceIte,rA,p1,p2,p5,p6,aE,ia,la,Aa h1,Ab h2]
     ·rw[Aa (show ¬ (m.getD i 0<0∨((g.nodes.length:Nat):Int)≤m.getD i 0) by omega)];simp only[↓aC,aB,rE,↓reduceIte,rA,p1,p2,p5,p6,aE,ia,la,Aa h1,Aa h2]
   clear p1 p2 p5 p6;rintro o ⟨F,inr⟩ Y ⟨rfl,q0,hYX,p1,p2,p5,p6,pb⟩;simp only at q0 p1 p2 p5 p6 pb;subst q0;rw[hYX];try simp only[↓aC,aB,rE,↓reduceIte,rA]
   by_cases hbad:m.getD i 0<0∨((g.nodes.length:Nat):Int)≤m.getD i 0
   ·refine aM (by simp only[↓aC,aB,rE,↓reduceIte,rA,pb,Ab hbad]) ?_;refine bE ?_;simp only[↓aC,aB,rE,↓reduceIte,rA];refine aO ?_;simp only[↓aC,aB,rE,↓reduceIte,rA];exact .inr ⟨hX,fun h=>by have:=h _ hmem;omega⟩
   ·refine aK (by simp only[↓aC,aB,rE,↓reduceIte,rA,pb,Aa hbad]) (aI ?_);try simp only[↓aC,aB,rE,↓reduceIte,rA]
    refine aF ?_;simp only[↓aC,aB,rE,↓reduceIte,rA,p6,w1];refine⟨k - 1,by omega,rfl,hX,i+1,by omega,fun j hj=>?_,by refine⟨?_,?_,?_,?_⟩<;>simp only[↓aC,aB,rE,↓reduceIte,rA,p1,p2,p5]⟩;by_cases hji:j=i
    ·rw[hji];omega
    ·exact hr j (by omega)
  ·refine aK (by simp only[↓aC,aB,rE,↓reduceIte,rA,Aa (show ¬ (i:Int)<((g.nodes.length:Nat):Int) by omega)]) (aU ?_);simp only[↓aC,aB,rE,↓reduceIte,rA];have hk0:k=0:=by omega
   subst hk0;exact .inl ⟨rfl,hX,i,hik,hr,by refine⟨?_,?_,?_,?_⟩<;>simp only[↓aC,aB,rE,↓reduceIte,rA,p1,p2,p5,p6]⟩
 rintro o ⟨F,inr⟩ X (⟨rfl,q0,hX,i,hik,hr,p1,p2,p5,p6⟩ | ⟨rfl,hX,hno,p4⟩);rotate_left
 ·simp only at p4;simp only[↓aC,aB,rE,↓reduceIte,rA,p4];rw[if_pos hno];exact⟨rfl,s1.trans hX⟩
 simp only at q0 p1 p2 p5;subst q0;have hin:lF m g.nodes.length:=fun x hx=>by
  obtain⟨j,hj,rfl⟩:=Ee.1 hx;have:=hr j (by omega);rw[Ad,Ac hj] at this;exact this
 rw[if_neg (fun h=>h hin)];clear p6 hik hr i;try simp only[↓aC,aB,rE,↓reduceIte,rA]
 refine aA (aS (Q:=fun o A' Y=>(o= .normal∧CkD X S.nx mv g.nodes.length m 0 A' Y)∨(o= .ret∧Same X Y∧aDq m∧aD 4 A'.F= .int .i64 8)) (aA (aF ?_)) ?_)
 ·simp only[↓aC,aB,rE,↓reduceIte,rA];refine aJ (bB (CkD X S.nx mv g.nodes.length m) ?_ g.nodes.length _ _ ⟨rfl,Same.refl _,0,by omega,fun j l _ hj=>by omega,by refine⟨?_,?_,?_,?_⟩<;>simp only[↓aC,aB,rE,↓reduceIte,rA,p1,p2,p5]⟩);clear p1 p2 p5;rintro k ⟨F,inr⟩ Y ⟨q0,hY,i,hik,hr,p1,p2,p5,p7⟩;simp only at q0 p1 p2 p5 p7;subst q0;refine eG ?_;simp only[↓aC,aB,rE,↓reduceIte,rA,p5,p7];by_cases hlt:i<g.nodes.length
  ·refine aM (by simp only[↓aC,aB,rE,↓reduceIte,rA,Ab (show(i:Int)<((g.nodes.length:Nat):Int) by omega)]) (aI ?_);try simp only[↓aC,aB,rE,↓reduceIte,rA]
   have w1:IntKind.i64.wrap ((i:Int)+1)=((i+1:Nat):Int):=by rw[wrap_i64 (by omega) (by omega)];omega
   refine aA (aJ (aA (aF ?_)));simp only[↓aC,aB,rE,↓reduceIte,rA];refine aS (Q:=fun o A' W=>(o= .normal∧CkE Y S.nx mv g.nodes.length i m 0 A' W)∨(o= .ret∧Same Y W∧aDq m∧aD 4 A'.F= .int .i64 8)) (aJ (bB (CkE Y S.nx mv g.nodes.length i m) ?_ i _ _ ⟨rfl,Same.refl _,0,by omega,fun j hj=>by omega,by refine⟨?_,?_,?_,?_,?_⟩<;>simp only[↓aC,aB,rE,↓reduceIte,rA,p1,p2,p5,p7]⟩)) ?_
   ·clear p1 p2 p5 p7;rintro k ⟨F,inr⟩ W ⟨q0,hW,l,hlk,hd,p1,p2,p5,p7,p8⟩;simp only at q0 p1 p2 p5 p7 p8;subst q0;refine eG ?_;simp only[↓aC,aB,rE,↓reduceIte,rA,p7,p8];by_cases hl:l<i
    ·refine aM (by simp only[↓aC,aB,rE,↓reduceIte,rA,Ab (show(l:Int)<(i:Int) by omega)]) (aI ?_);try simp only[↓aC,aB,rE,↓reduceIte,rA]
     have hmW:=hm.same (s1.trans (hX.trans (hY.trans hW)));have ia:=hmW.iaddr (show i<m.length by omega);have la:=hmW.ld (show i<m.length by omega);have ib:=hmW.iaddr (show l<m.length by omega);have lb:=hmW.ld (show l<m.length by omega);have w2:IntKind.i64.wrap ((l:Int)+1)=((l+1:Nat):Int):=by rw[wrap_i64 (by omega) (by omega)];omega
     refine aA (aJ (aA (gJ ?_)));simp only[↓aC,aB,rE,↓reduceIte,rA,p1,p7,p8,aE,ia,la,ib,lb];by_cases he:m.getD i 0=m.getD l 0
     ·refine aM (by simp only[↓aC,aB,rE,↓reduceIte,rA,Ab he]) ?_;refine bE ?_;simp only[↓aC,aB,rE,↓reduceIte,rA];refine aO ?_;simp only[↓aC,aB,rE,↓reduceIte,rA];exact .inr ⟨hW.trans (Same.nx _ _),i,l,hl,by omega,he⟩
     ·refine aK (by simp only[↓aC,aB,rE,↓reduceIte,rA,Aa he]) (aI ?_);try simp only[↓aC,aB,rE,↓reduceIte,rA]
      refine aF ?_;simp only[↓aC,aB,rE,↓reduceIte,rA,p8,w2];refine⟨k - 1,by omega,rfl,hW.trans (Same.nx _ _),l+1,by omega,fun j hj=>?_,by refine⟨?_,?_,?_,?_,?_⟩<;>simp only[↓aC,aB,rE,↓reduceIte,rA,p1,p2,p5,p7]⟩;by_cases hjl:j=l
      ·rw[hjl];exact he
      ·exact hd j (by omega)
    ·refine aK (by simp only[↓aC,aB,rE,↓reduceIte,rA,Aa (show ¬ (l:Int)<(i:Int) by omega)]) (aU ?_);simp only[↓aC,aB,rE,↓reduceIte,rA];have hk0:k=0:=by omega
     subst hk0;exact .inl ⟨rfl,hW,l,hlk,hd,by refine⟨?_,?_,?_,?_,?_⟩<;>simp only[↓aC,aB,rE,↓reduceIte,rA,p1,p2,p5,p7,p8]⟩
   clear p1 p2 p5 p7;rintro o ⟨F,inr⟩ W (⟨rfl,q0,hW,l,hlk,hd,p1,p2,p5,p7,p8⟩ | ⟨rfl,hW,hdup,p4⟩)
   ·simp only at q0 p1 p2 p5 p7;subst q0;try simp only[↓aC,aB,rE,↓reduceIte,rA]
    refine aF ?_;simp only[↓aC,aB,rE,↓reduceIte,rA,p7,w1];refine⟨k - 1,by omega,rfl,hY.trans hW,i+1,by omega,fun j l' hl' hj=>?_,by refine⟨?_,?_,?_,?_⟩<;>simp only[↓aC,aB,rE,↓reduceIte,rA,p1,p2,p5]⟩;by_cases hji:j=i
    ·rw[hji];exact hd l' (by omega)
    ·exact hr j l' hl' (by omega)
   ·simp only at p4;simp only[↓aC,aB,rE,↓reduceIte,rA];exact .inr ⟨hY.trans hW,hdup,p4⟩
  ·refine aK (by simp only[↓aC,aB,rE,↓reduceIte,rA,Aa (show ¬ (i:Int)<((g.nodes.length:Nat):Int) by omega)]) (aU ?_);simp only[↓aC,aB,rE,↓reduceIte,rA];have hk0:k=0:=by omega
   subst hk0;exact .inl ⟨rfl,hY,i,hik,hr,by refine⟨?_,?_,?_,?_⟩<;>simp only[↓aC,aB,rE,↓reduceIte,rA,p1,p2,p5,p7]⟩
 clear p1 p2 p5;rintro o ⟨F,inr⟩ Y (⟨rfl,q0,hY,i,hik,hr,p1,p2,p5,p7⟩ | ⟨rfl,hY,hdup,p4⟩);rotate_left
 ·simp only at p4;simp only[↓aC,aB,rE,↓reduceIte,rA,p4];rw[if_pos hdup];exact⟨rfl,s1.trans (hX.trans hY)⟩
 simp only at q0 p1 p2;subst q0;have hnd:¬aDq m:=fun⟨i',k',h1,h2,h3⟩=>hr i' k' h1 (by omega) h3;rw[if_neg hnd];have sY:=s1.trans (hX.trans hY);have cY:Y.h.get S.nx=some (.cells [.int .i64 g.players,nv,iv] false 0):=by rw[(hX.trans hY).2 _ lg1];exact c1
 try simp only[↓aC,aB,rE,↓reduceIte,rA]
 refine eG ?_;simp only[↓aC,aB,rE,↓reduceIte,rA,p1,p2,gG cY];refine aY ?_;simp only[↓aC,aB,rE,↓reduceIte,rA];refine aP (himg hlen hin hnd Y sY) ?_;rintro _ Z ⟨hZ,a,b,t,rfl,ht⟩;have ex2:gL (.tup [a,b,.bool t]) 2=some (.bool t):=rfl;simp only[↓aC,aB,rE,↓reduceIte,rA,ex0,ex1,ex2];refine bE ?_;simp only[↓aC,aB,rE,↓reduceIte,rA,dH];cases t with
 | false=>
  rw[if_neg (fun h=>by have:=ht.2 h;cases this)];refine aM (by simp only[↓aC,aB,rE,↓reduceIte,rA];rfl) ?_;refine bE ?_;simp only[↓aC,aB,rE,↓reduceIte,rA];refine aO ?_;simp only[↓aC,aB,rE,↓reduceIte,rA];exact sY.trans hZ
 | true=>
  rw[if_pos (ht.1 rfl)];refine aK (by simp only[↓aC,aB,rE,↓reduceIte,rA];rfl) (aI ?_);try simp only[↓aC,aB,rE,↓reduceIte,rA]
  refine bE ?_;simp only[↓aC,aB,rE,↓reduceIte,rA];refine aO ?_;simp only[↓aC,aB,rE,↓reduceIte,rA];exact sY.trans hZ
def aOp(S1:St)(mv:AV)(w e:Nat)(n:Nat)(m:List Int)(k:Nat)(A:bH)(X:St):Prop:=A.inr=false∧Same S1 X∧∃i,i+k=m.length∧(∀j,j<i→0≤m.getD j 0∧m.getD j 0<n)∧aD 0 A.F= .ptr w 0∧aD 1 A.F=mv∧aD 4 A.F= .ptr e 0∧aD 6 A.F= .int .i64 (n:Int)∧aD 25 A.F=mv∧aD 26 A.F= .int .i64 ((m.length:Nat):Int)∧aD 27 A.F= .int .i64 (i:Int)
def aNW(X1:St)(mv:AV)(w e sb n:Nat)(m:List Int)(k:Nat)(A:bH)(X:St):Prop:=A.inr=false∧bQ sb X1 X∧sb<X.nx∧∃i cs,i+k=m.length∧X.h.get sb=some (.cells cs false 0)∧cs.length=n∧(∀v,v<n→cs[v]? =some (.bool (decide (∃j,j<i∧m.getD j 0=(v:Int)))))∧(∀j l,l<j→j<i→m.getD j 0≠m.getD l 0)∧aD 0 A.F= .ptr w 0∧aD 1 A.F=mv∧aD 4 A.F= .ptr e 0∧aD 9 A.F= .sl sb 0 n n false∧aD 42 A.F=mv∧aD 43 A.F= .int .i64 ((m.length:Nat):Int)∧aD 44 A.F= .int .i64 (i:Int)
theorem aGa{S:St}{wb:Nat}{nv iv pv plv szv mv:AV}{g:aW}{m:List Int}{ok:Prop}{P:St→St→AV→AV→Prop}(H:Has fns)(hP:∀ {S0 S1 S2:St} {x y:AV},P S0 S1 x y→S1.nx≤S2.nx→(∀c,S0.nx≤c→c<S1.nx→S2.h.get c=S1.h.get c)→P S0 S2 x y)(hW:qJ S wb g.players nv iv pv plv szv)(hn:aN 6 bT S nv g.nodes)(hm:bN .i64 S mv m)(hln:g.nodes.length≤100000)
  (himg:m.length=g.nodes.length→lF m g.nodes.length→¬aDq m→∀S',Same S S'→fA fns (.fn 25 [] []) [.ptr wb 0,mv] S' fun r S''=>Same S' S''∧∃x y t,r= .tup [.agg [x,y],.bool t]∧(t=true↔ok)∧(t=true→P S' S'' x y)):
  fA fns (.fn 43 [] []) [.ptr wb 0,mv] S fun r S'=>Same S S'∧∃x y,r= .tup [.agg [x,y],.int .i64 (iL g.nodes.length m ok)]∧(iL g.nodes.length m ok=0→∃S0,S.nx≤S0.nx∧P S0 S' x y)∧(iL g.nodes.length m ok≠0→x= .nilsl∧y= .nilsl):=by
 have hb0:∀ (F:Fr) (h:Ev.T AB),gS (.build [.nilsl,.nilsl] []) F h=some (.agg [.nilsl,.nilsl]):=fun _ _=>rfl;refine bP H.f43 (by simp) ?_;simp only[↓aC,aB,rE,↓reduceIte,rA];refine bE ?_;refine dO ?_;intro S1 s1 n1 c1;simp only[↓aC,aB,rE,↓reduceIte,rA];have lw:=hW.2;have hW1:=hW.same s1;have le:S.nx<S1.nx:=by omega
 refine bE ?_;simp only[↓aC,aB,rE,↓reduceIte,rA,bF,bG,aH,aG,cT hW1.1,hn.len];refine eG ?_;simp only[↓aC,aB,rE,↓reduceIte,rA,hm.len,Ag];by_cases hlen:m.length=g.nodes.length;rotate_left
 ·have hE:iL g.nodes.length m ok=10:=by unfold iL;rw[if_pos hlen]
  rw[hE];refine aM (by simp only[↓aC,aB,rE,↓reduceIte,rA,Ab (show((m.length:Nat):Int)≠((g.nodes.length:Nat):Int) by omega)]) ?_;refine bE ?_;simp only[↓aC,aB,rE,↓reduceIte,rA,hb0];refine fI (b:=S.nx) (by simp only[↓aC,aB,rE,↓reduceIte,rA]) (by simp only[↓aC,aB,rE,↓reduceIte,rA];exact bJ _) c1 rfl rfl ?_;intro S2 s2 n2 c2;simp only[↓aC,aB,rE,↓reduceIte,rA];have ld2:=pK (n:=2) c2 rfl;refine aO ?_;simp only[↓aC,aB,rE,↓reduceIte,rA,iD,ld2];exact⟨s2.same s1 (Ah _),_,_,rfl,fun h=>absurd h (by decide),fun _=>⟨rfl,rfl⟩⟩
 refine aK (by simp only[↓aC,aB,rE,↓reduceIte,rA,Aa (show ¬ ((m.length:Nat):Int)≠((g.nodes.length:Nat):Int) by omega)]) (aI ?_);try simp only[↓aC,aB,rE,↓reduceIte,rA]
 refine aA (aS (Q:=fun o A' X=>(o= .normal∧aOp S1 mv wb S.nx g.nodes.length m 0 A' X)∨(o= .ret∧bQ S.nx S1 X∧X.h.get S.nx=some (.cells [.nilsl,.nilsl] false 0)∧¬lF m g.nodes.length∧aD 4 A'.F= .ptr S.nx 0∧aD 5 A'.F= .int .i64 2)) (aA (aF ?_)) ?_)
 ·simp only[↓aC,aB,rE,↓reduceIte,rA,hm.len,Ag];refine aJ (bB (aOp S1 mv wb S.nx g.nodes.length m) ?_ m.length _ _ ⟨rfl,Same.refl _,0,by omega,fun j hj=>by omega,by refine⟨?_,?_,?_,?_,?_,?_,?_⟩<;>simp only[↓aC,aB,rE,↓reduceIte,rA]⟩);rintro k ⟨F,inr⟩ X ⟨q0,hX,i,hik,hr,p0,p1,p4,p6,p25,p26,p27⟩;simp only at q0 p0 p1 p4 p6 p25 p26 p27;subst q0;refine bE ?_;simp only[↓aC,aB,rE,↓reduceIte,rA,p26,p27];by_cases hlt:i<m.length
  ·refine aA (aM (by simp only[↓aC,aB,rE,↓reduceIte,rA,Ab (show(i:Int)<((m.length:Nat):Int) by omega)]) (aI ?_));try simp only[↓aC,aB,rE,↓reduceIte,rA]
   have hmX:=hm.same (s1.trans hX);have ia:=hmX.iaddr hlt;have la:=hmX.ld hlt;have hmem:m.getD i 0∈m:=by rw[Ad,Ac hlt];exact Bh _
   have cX:X.h.get S.nx=some (.cells [.nilsl,.nilsl] false 0):=by rw[hX.2 _ le];exact c1
   have w1:IntKind.i64.wrap ((i:Int)+1)=((i+1:Nat):Int):=by rw[wrap_i64 (by omega) (by omega)];omega
   refine aA (aJ (aA (aF ?_)));simp only[↓aC,aB,rE,↓reduceIte,rA,p25,p27,aE,ia,la];refine aA (aS (Q:=fun o A' Y=>o= .normal∧A'.inr=false∧Y=X∧aD 0 A'.F= .ptr wb 0∧aD 1 A'.F=mv∧aD 4 A'.F= .ptr S.nx 0∧aD 6 A'.F= .int .i64 ((g.nodes.length:Nat):Int)∧aD 25 A'.F=mv∧aD 26 A'.F= .int .i64 ((m.length:Nat):Int)∧aD 27 A'.F= .int .i64 (i:Int)∧aD 37 A'.F= .bool (decide (m.getD i 0<0∨((g.nodes.length:Nat):Int)≤m.getD i 0))) (aF ?_) ?_)
   ·by_cases h1:m.getD i 0<0
    ·rw[Ab (show m.getD i 0<0∨((g.nodes.length:Nat):Int)≤m.getD i 0 from .inl h1)];simp only[↓aC,aB,rE,↓reduceIte,rA,p0,p1,p4,p6,p25,p26,p27,Ab h1]
    ·by_cases h2:((g.nodes.length:Nat):Int)≤m.getD i 0
     ·rw[Ab (show m.getD i 0<0∨((g.nodes.length:Nat):Int)≤m.getD i 0 from .inr h2)];simp only[↓aC,aB,rE,↓reduceIte,rA,p0,p1,p4,p6,p25,p26,p27,Aa h1,Ab h2]
     ·rw[Aa (show ¬ (m.getD i 0<0∨((g.nodes.length:Nat):Int)≤m.getD i 0) by omega)];simp only[↓aC,aB,rE,↓reduceIte,rA,p0,p1,p4,p6,p25,p26,p27,Aa h1,Aa h2]
   clear p0 p1 p4 p6 p25 p26 p27;rintro o ⟨F,inr⟩ Y ⟨rfl,q0,hYX,p0,p1,p4,p6,p25,p26,p27,pb⟩;simp only at q0 p0 p1 p4 p6 p25 p26 p27 pb;subst q0;rw[hYX];try simp only[↓aC,aB,rE,↓reduceIte,rA]
   by_cases hbad:m.getD i 0<0∨((g.nodes.length:Nat):Int)≤m.getD i 0
   ·refine aM (by simp only[↓aC,aB,rE,↓reduceIte,rA,pb,Ab hbad]) ?_;refine bE ?_;simp only[↓aC,aB,rE,↓reduceIte,rA,hb0];refine fI (b:=S.nx) (by simp only[↓aC,aB,rE,↓reduceIte,rA,p4]) (by simp only[↓aC,aB,rE,↓reduceIte,rA];exact bJ _) cX rfl rfl ?_;intro X2 x2 m2 d2;simp only[↓aC,aB,rE,↓reduceIte,rA];refine aO ?_;simp only[↓aC,aB,rE,↓reduceIte,rA,p4];exact .inr ⟨⟨Ay hX.1 x2.1,fun c hc hne=>by rw[x2.2 _ (Ae hc hX.1) hne,hX.2 _ hc]⟩,d2,fun h=>by have:=h _ hmem;omega⟩
   ·refine aK (by simp only[↓aC,aB,rE,↓reduceIte,rA,pb,Aa hbad]) (aI ?_);try simp only[↓aC,aB,rE,↓reduceIte,rA]
    refine aF ?_;simp only[↓aC,aB,rE,↓reduceIte,rA,p27,w1];refine⟨k - 1,by omega,rfl,hX,i+1,by omega,fun j hj=>?_,by refine⟨?_,?_,?_,?_,?_,?_,?_⟩<;>simp only[↓aC,aB,rE,↓reduceIte,rA,p0,p1,p4,p6,p25,p26]⟩;by_cases hji:j=i
    ·rw[hji];omega
    ·exact hr j (by omega)
  ·refine aA (aK (by simp only[↓aC,aB,rE,↓reduceIte,rA,Aa (show ¬ (i:Int)<((m.length:Nat):Int) by omega)]) (aU ?_));simp only[↓aC,aB,rE,↓reduceIte,rA];have hk0:k=0:=by omega
   subst hk0;exact .inl ⟨rfl,hX,i,hik,hr,by refine⟨?_,?_,?_,?_,?_,?_,?_⟩<;>simp only[↓aC,aB,rE,↓reduceIte,rA,p0,p1,p4,p6,p25,p26,p27]⟩
 rintro o ⟨F,inr⟩ X (⟨rfl,q0,hX,i,hik,hr,p0,p1,p4,p6,p25,p26,p27⟩ | ⟨rfl,hX,cX,hno,p4,p5⟩);rotate_left
 ·have hE:iL g.nodes.length m ok=2:=by unfold iL;rw[if_neg (fun h=>h hlen),if_pos hno]
  rw[hE];simp only at p4 p5;have ld2:=pK (n:=2) cX rfl;simp only[↓aC,aB,rE,↓reduceIte,rA,iD,p4,p5,ld2];exact⟨⟨Ay s1.1 hX.1,fun c hc=>by rw[hX.2 _ (Ae hc s1.1) (by omega),s1.2 _ hc]⟩,_,_,rfl,fun h=>absurd h (by decide),fun _=>⟨rfl,rfl⟩⟩
 simp only at q0 p0 p1 p4 p6;subst q0;have hin:lF m g.nodes.length:=fun x hx=>by
  obtain⟨j,hj,rfl⟩:=Ee.1 hx;have:=hr j (by omega);rw[Ad,Ac hj] at this;exact this
 clear p25 p26 p27 hik hr i;have sX:=s1.trans hX;have leX:S.nx<X.nx:=Ae le hX.1;have cX:X.h.get S.nx=some (.cells [.nilsl,.nilsl] false 0):=by rw[hX.2 _ le];exact c1
 try simp only[↓aC,aB,rE,↓reduceIte,rA]
 refine bE ?_;simp only[↓aC,aB,rE,↓reduceIte,rA,p6];refine fX (mI (n:=g.nodes.length) (by simp only[↓aC,aB,rE,↓reduceIte,rA,aE]) (by simp only[↓aC,aB,rE,↓reduceIte,rA,aE]) (by unfold room;omega) (by unfold room;omega)) ?_;intro X1 x1 m1 d1;rw[repeatL_one] at d1;simp only[↓aC,aB,rE,↓reduceIte,rA];have sX1:=sX.trans x1;refine aA (aS (Q:=fun o A' Y=>(o= .normal∧aNW X1 mv wb S.nx X.nx g.nodes.length m 0 A' Y)∨(o= .ret∧Same S Y∧Y.h.get S.nx=some (.cells [.nilsl,.nilsl] false 0)∧aDq m∧aD 4 A'.F= .ptr S.nx 0∧aD 5 A'.F= .int .i64 8)) (aA (aF ?_)) ?_)
 ·simp only[↓aC,aB,rE,↓reduceIte,rA,p1,hm.len,Ag];refine aJ (bB (aNW X1 mv wb S.nx X.nx g.nodes.length m) ?_ m.length _ _ ⟨rfl,bQ.refl _ _,by omega,0,_,by omega,d1,Ao ..,fun v hv=>?_,fun j l _ hj=>by omega,by refine⟨?_,?_,?_,?_,?_,?_,?_⟩<;>simp only[↓aC,aB,rE,↓reduceIte,rA,p0,p1,p4]⟩);rotate_left
  ·rw[Cx,if_pos hv,Aa (fun⟨j,hj,_⟩=>by omega)]
  clear p0 p1 p4 p6;rintro k ⟨F,inr⟩ Y ⟨q0,hY,hsb,i,cs,hik,hg,hcs,hse,hnd,p0,p1,p4,p9,p42,p43,p44⟩;simp only at q0 p0 p1 p4 p9 p42 p43 p44;subst q0;refine bE ?_;simp only[↓aC,aB,rE,↓reduceIte,rA,p43,p44];by_cases hlt:i<m.length
  ·refine aA (aM (by simp only[↓aC,aB,rE,↓reduceIte,rA,Ab (show(i:Int)<((m.length:Nat):Int) by omega)]) (aI ?_));try simp only[↓aC,aB,rE,↓reduceIte,rA]
   have lX1:X.nx<X1.nx:=by omega
   have sY:Same S Y:=⟨Ay sX1.1 hY.1,fun c hc=>by rw[hY.2 _ (Ae hc sX1.1) (by omega)];exact sX1.2 _ hc⟩;have cY:Y.h.get S.nx=some (.cells [.nilsl,.nilsl] false 0):=by rw[hY.2 _ (by omega) (by omega),x1.2 _ leX];exact cX
   have hmY:=hm.same sY;have ia:=hmY.iaddr hlt;have la:=hmY.ld hlt;have hmem:m.getD i 0∈m:=by rw[Ad,Ac hlt];exact Bh _
   have w1:IntKind.i64.wrap ((i:Int)+1)=((i+1:Nat):Int):=by rw[wrap_i64 (by omega) (by omega)];omega
   obtain⟨v0,v1⟩:=hin _ hmem;generalize hvv:m.getD i 0=v at *;obtain⟨u,rfl⟩:∃u:Nat,v=(u:Int):=⟨v.toNat,by omega⟩;have hu:u<g.nodes.length:=by omega
   have hia:=dI (b:=X.nx) (o:=false) hu;have hlu:=fN hg (hse u hu);refine aA (aJ (aA (aF ?_)));simp only[↓aC,aB,rE,↓reduceIte,rA,p42,p44,aE,ia,la];refine eG ?_;simp only[↓aC,aB,rE,↓reduceIte,rA,p9,aE,hia,hlu];by_cases hd:∃j,j<i∧m.getD j 0=(u:Int)
   ·refine aM (by simp only[↓aC,aB,rE,↓reduceIte,rA,Ab hd]) ?_;refine bE ?_;simp only[↓aC,aB,rE,↓reduceIte,rA,hb0];refine fI (b:=S.nx) (by simp only[↓aC,aB,rE,↓reduceIte,rA,p4]) (by simp only[↓aC,aB,rE,↓reduceIte,rA];exact bJ _) cY rfl rfl ?_;intro X2 x2 m2 d2;simp only[↓aC,aB,rE,↓reduceIte,rA];refine aO ?_;simp only[↓aC,aB,rE,↓reduceIte,rA,p4];obtain⟨j,hj,hjv⟩:=hd;exact .inr ⟨⟨Ay sY.1 x2.1,fun c hc=>by rw[x2.2 _ (Ae hc sY.1) (by omega),sY.2 _ hc]⟩,d2,i,j,hj,hlt,by rw[hvv,hjv]⟩
   ·refine aK (by simp only[↓aC,aB,rE,↓reduceIte,rA,Aa hd]) (aI ?_);try simp only[↓aC,aB,rE,↓reduceIte,rA]
    refine aF ?_;simp only[↓aC,aB,rE,↓reduceIte,rA,p9,aE,hia];refine fD (fun call=>by simp only[↓aC,aB,rE,↓reduceIte,rA,eJ];exact stc (S:=Y) (w:=.bool true) hg (by rw[hcs];exact hu)) ?_;simp only[↓aC,aB,rE,↓reduceIte,rA];refine aF ?_;simp only[↓aC,aB,rE,↓reduceIte,rA,p44,w1];refine⟨k - 1,by omega,rfl,hY.put _,hsb,i+1,cs.set u (.bool true),by omega,by simp only;rw[T.get_set,if_pos rfl],by rw[Al];exact hcs,fun v hv=>?_,fun j l hl hj=>?_,by refine⟨?_,?_,?_,?_,?_,?_,?_⟩<;>simp only[↓aC,aB,rE,↓reduceIte,rA,p0,p1,p4,p9,p42,p43]⟩
    ·rw[Dt];split
     ·rename_i e;rw[if_pos (by rw[hcs];exact hu),Ab (show ∃j,j<i+1∧m.getD j 0=(v:Int) from⟨i,by omega,by rw[hvv,e]⟩)]
     ·rename_i e;rw[hse v hv];congr 2;rw[Cf,Ck,Ck];constructor
      ·rintro⟨j,h1,h2⟩;exact⟨j,by omega,h2⟩
      ·rintro⟨j,h1,h2⟩;refine⟨j,?_,h2⟩;by_cases hji:j=i
       ·rw[hji,hvv] at h2;omega
       ·omega
    ·by_cases hji:j=i
     ·rw[hji,hvv];exact fun h=>hd ⟨l,by omega,h.symm⟩
     ·exact hnd j l hl (by omega)
  ·refine aA (aK (by simp only[↓aC,aB,rE,↓reduceIte,rA,Aa (show ¬ (i:Int)<((m.length:Nat):Int) by omega)]) (aU ?_));simp only[↓aC,aB,rE,↓reduceIte,rA];have hk0:k=0:=by omega
   subst hk0;exact .inl ⟨rfl,hY,hsb,i,cs,hik,hg,hcs,hse,hnd,by refine⟨?_,?_,?_,?_,?_,?_,?_⟩<;>simp only[↓aC,aB,rE,↓reduceIte,rA,p0,p1,p4,p9,p42,p43,p44]⟩
 clear p0 p1 p4 p6;rintro o ⟨F,inr⟩ Y (⟨rfl,q0,hY,hsb,i,cs,hik,hg,hcs,hse,hnd,p0,p1,p4,p9,p42,p43,p44⟩ | ⟨rfl,sY,cY,hdup,p4,p5⟩);rotate_left
 ·have hE:iL g.nodes.length m ok=8:=by unfold iL;rw[if_neg (fun h=>h hlen),if_neg (fun h=>h hin),if_pos hdup]
  rw[hE];simp only at p4 p5;have ld2:=pK (n:=2) cY rfl;simp only[↓aC,aB,rE,↓reduceIte,rA,iD,p4,p5,ld2];exact⟨sY,_,_,rfl,fun h=>absurd h (by decide),fun _=>⟨rfl,rfl⟩⟩
 simp only at q0 p0 p1 p4;subst q0;have hnd':¬aDq m:=fun⟨i',k',h1,h2,h3⟩=>hnd i' k' h1 (by omega) h3;have lX1:X.nx<X1.nx:=by omega
 have sY:Same S Y:=⟨Ay sX1.1 hY.1,fun c hc=>by rw[hY.2 _ (Ae hc sX1.1) (by omega)];exact sX1.2 _ hc⟩;have cY:Y.h.get S.nx=some (.cells [.nilsl,.nilsl] false 0):=by rw[hY.2 _ (by omega) (by omega),x1.2 _ leX];exact cX
 have leY:S.nx<Y.nx:=by have:=hY.1;omega
 have hE0:ok→iL g.nodes.length m ok=0:=fun hk=>by unfold iL;rw[if_neg (fun h=>h hlen),if_neg (fun h=>h hin),if_neg hnd',if_pos hk]
 have hE3:¬ok→iL g.nodes.length m ok=3:=fun hk=>by unfold iL;rw[if_neg (fun h=>h hlen),if_neg (fun h=>h hin),if_neg hnd',if_neg hk]
 try simp only[↓aC,aB,rE,↓reduceIte,rA]
 refine eG ?_;simp only[↓aC,aB,rE,↓reduceIte,rA,p0,p1];refine aY ?_;simp only[↓aC,aB,rE,↓reduceIte,rA];refine aP (himg hlen hin hnd' Y sY) ?_;rintro _ Z ⟨hZ,x,y,t,rfl,ht,htP⟩;simp only[↓aC,aB,rE,↓reduceIte,rA,ex0,ex1];refine dO ?_;intro Z1 z1 k1 e1;refine fI (b:=Z.nx) (by simp only[↓aC,aB,rE,↓reduceIte,rA]) (by simp only[↓aC,aB,rE,↓reduceIte,rA];exact bJ _) e1 rfl rfl ?_;intro Z2 z2 k2 e2;simp only[↓aC,aB,rE,↓reduceIte,rA];have sZ2:Same Z Z2:=z2.same z1 (Ah _);have sSZ2:=(sY.trans hZ).trans sZ2;have cZ2:Z2.h.get S.nx=some (.cells [.nilsl,.nilsl] false 0):=by rw[(hZ.trans sZ2).2 _ leY];exact cY
 have lZ2:S.nx<Z2.nx:=Ae leY (hZ.trans sZ2).1;have ldim:=pK (n:=2) e2 rfl;refine bE ?_;simp only[↓aC,aB,rE,↓reduceIte,rA];cases t with
 | true=>
  rw[hE0 (ht.1 rfl)];refine aM (by simp only[↓aC,aB,rE,↓reduceIte,rA]) ?_;refine bE ?_;simp only[↓aC,aB,rE,↓reduceIte,rA,ldim];refine fI (b:=S.nx) (by simp only[↓aC,aB,rE,↓reduceIte,rA,p4]) (by simp only[↓aC,aB,rE,↓reduceIte,rA];exact bJ _) cZ2 rfl rfl ?_;intro Z3 z3 k3 e3;simp only[↓aC,aB,rE,↓reduceIte,rA];have ld3:=pK (n:=2) e3 rfl;refine aO ?_;simp only[↓aC,aB,rE,↓reduceIte,rA,iD,p4,ld3];refine⟨⟨Ay sSZ2.1 z3.1,fun c hc=>by rw[z3.2 _ (Ae hc sSZ2.1) (by omega),sSZ2.2 _ hc]⟩,x,y,rfl,⟨Y,sY.1,hP (htP rfl) (Ay sZ2.1 z3.1) fun c h1 h2=>?_⟩,fun h=>absurd rfl h⟩;rw[z3.2 _ (Ae h2 sZ2.1) (by omega),sZ2.2 _ h2]
 | false=>
  rw[hE3 (fun h=>by have:=ht.2 h;cases this)];refine aK (by simp only[↓aC,aB,rE,↓reduceIte,rA]) (aI ?_);try simp only[↓aC,aB,rE,↓reduceIte,rA]
  refine bE ?_;simp only[↓aC,aB,rE,↓reduceIte,rA,hb0];refine fI (b:=S.nx) (by simp only[↓aC,aB,rE,↓reduceIte,rA,p4]) (by simp only[↓aC,aB,rE,↓reduceIte,rA];exact bJ _) cZ2 rfl rfl ?_;intro Z3 z3 k3 e3;simp only[↓aC,aB,rE,↓reduceIte,rA];have ld3:=pK (n:=2) e3 rfl;refine aO ?_;simp only[↓aC,aB,rE,↓reduceIte,rA,iD,p4,ld3];exact⟨⟨Ay sSZ2.1 z3.1,fun c hc=>by rw[z3.2 _ (Ae hc sSZ2.1) (by omega),sSZ2.2 _ hc]⟩,_,_,rfl,fun h=>absurd h (by decide),fun _=>⟨rfl,rfl⟩⟩
theorem aEq:∀ (l:List Int) (s:Nat) (r:List Int),(aAT l s r).length=r.length
 | [],_,_=>rfl
 | c::l,s,r=>by simp only[aAT];rw[aEq l,Al]
theorem aCo{v:Nat}:∀ (l:List Int) (s:Nat) (r:List Int),(∀c∈l,c.toNat≠v)→(aAT l s r).getD v 0=r.getD v 0
 | [],_,_,_=>rfl
 | c::l,s,r,h=>by
  simp only[aAT];rw[aCo l _ _ fun c' hc'=>h c' (Bn _ hc')];have hne:=h c (Bt ..);rw[Ad,Dt,if_neg hne,Ad]
theorem aHF{k:Nat}{c:Int}:∀ (l:List Int) (s:Nat) (r:List Int),l.Pairwise (· < ·)→(∀c∈l,0≤c)→l[k]? =some c→c.toNat<r.length→(aAT l s r).getD c.toNat 0=((s+k:Nat):Int)
 | [],_,_,_,_,h,_=>by simp at h
 | x::l,s,r,hi,h0,hk,hr=>by
  obtain⟨h1,h2⟩:=Cu.1 hi;simp only[aAT];cases k with
  | zero=>
   rw[List.getElem?_cons_zero] at hk;cases hk;rw[aCo l _ _ fun c' hc'=>by
    have:=h1 c' hc';have:=h0 c (Bt ..);omega,dP hr,if_pos rfl,Bj]
  | succ k=>
   rw[Dm] at hk;rw[aHF l (s+1) _ h2 (fun c' hc'=>h0 c' (Bn _ hc')) hk (by rw[Al];exact hr)];congr 1;omega
theorem aFn{g:aW}{v:Nat}:∀ (i:Nat) (r:List Int),(∀j,j<i→∀c∈dB g j,c.toNat≠v)→(aBU g i r).getD v 0=r.getD v 0
 | 0,_,_=>rfl
 | i+1,r,h=>by
  simp only[aBU];rw[aFn i _ fun j hj=>h j (by omega),aCo _ _ _ (h i (by omega))]
theorem aEV{g:aW}{i:Nat}:∀ (n:Nat) (r:List Int),i≤n→∃r1,r1.length=r.length∧aBU g n r=aBU g i r1
 | 0,r,h=>⟨r,rfl,by rw[show i=0 by omega]⟩
 | n+1,r,h=>by
  by_cases e:i=n+1
  ·exact⟨r,rfl,by rw[e]⟩
  ·obtain⟨r1,h1,h2⟩:=aEV (i:=i) n (aAT (dB g n) 0 r) (by omega);exact⟨r1,by rw[h1,aEq],by simp only[aBU];exact h2⟩
theorem aGW{g:aW}{T:List cC}(hw:WF (dB g) 0 (-1) T)(hT:T.length=g.nodes.length){i k:Nat}{c:Int}(hi:i<g.nodes.length)(hk:(dB g i)[k]? =some c):(jM g).getD c.toNat 0=(k:Int):=by
 have cf:∀j,j<g.nodes.length→∀c∈dB g j,(j:Int)<c∧c<((g.nodes.length:Nat):Int)∧gP T c.toNat=some (j:Int):=fun j hj c hc=>by
  obtain⟨a,b,e⟩:=hw.cf j (by omega) c (by rw[An];exact hc);rw[An] at a b e;exact⟨a,by omega,e⟩
 have hc:=Bm hk;obtain⟨c1,c2,c3⟩:=cf i hi c hc;unfold jM;obtain⟨r1,h1,h2⟩:=aEV (g:=g) (i:=i+1) g.nodes.length (List.replicate g.nodes.length 0) (by omega);rw[Ao] at h1;rw[h2];simp only[aBU];rw[aFn i _ fun j hj c' hc' e=>?_,aHF _ _ _ ?_ (fun c' hc'=>by have:=(cf i hi c' hc').1;omega) hk (by rw[h1];omega),An]
 ·have:=hw.inc i (by omega);rw[An] at this;exact this
 ·have h3:=(cf j (by omega) c' hc').2.2;rw[e,c3] at h3;have:=Bk h3;omega
end Go.Ev.Gl
