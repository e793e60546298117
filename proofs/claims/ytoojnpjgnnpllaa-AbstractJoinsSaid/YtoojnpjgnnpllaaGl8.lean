import Derived.Test.YtoojnpjgnnpllaaGl7
open Nat renaming reduceEqDiff → rE, reduceAdd → rA
set_option maxHeartbeats 16000000
set_option linter.unusedSimpArgs false
set_option linter.unusedVariables false
namespace Go.Ev.Gl
variable {fns:T eG}
def aPa(S:St)(a b:AV)(l m:List Int)(k:Nat)(A:bH)(X:St):Prop:=A.inr=false∧Same S X∧∃i,i+k=l.length∧l.take i=m.take i∧aB 0 A.F=a∧aB 1 A.F=b∧aB 5 A.F= .int .i64 (i:Int)
theorem qQ{S:St}{a b:AV}{l m:List Int}(H:Has fns)(ha:bK .i64 S a l)(hb:bK .i64 S b m)(hl:l.length≤140737488355328):gH fns (.fn 19 [] []) [a,b] S fun r S'=>r= .bool (decide (l=m))∧Same S S':=by
 refine cI H.f19 (by simp) ?_;simp only[↓aF,aE,rE,↓reduceIte,rA];refine bQ ?_;simp only[↓aF,aE,rE,↓reduceIte,rA];refine gC ?_;simp only[↓aF,aE,rE,↓reduceIte,rA,ha.len,hb.len,Ag];by_cases hlm:l.length=m.length;rotate_left
 ·rw[Aa (show ¬l=m from fun e=>hlm (by rw[e]))];refine aO (by simp only[↓aF,aE,rE,↓reduceIte,rA,Ac (show((l.length:Nat):Int)≠((m.length:Nat):Int) by omega)]) ?_;refine bQ ?_;simp only[↓aF,aE,rE,↓reduceIte,rA];refine aS ?_;simp only[↓aF,aE,rE,↓reduceIte,rA];exact Same.refl _
 refine aN (by simp only[↓aF,aE,rE,↓reduceIte,rA,Aa (show ¬ ((l.length:Nat):Int)≠((m.length:Nat):Int) by omega)]) (aI ?_);try simp only[↓aF,aE,rE,↓reduceIte,rA]
 refine aA (aY (Q:=fun o A' X=>(o= .normal∧aPa S a b l m 0 A' X)∨(o= .ret∧Same S X∧l≠m∧aB 4 A'.F= .bool false)) (aA (aJ ?_)) ?_)
 ·simp only[↓aF,aE,rE,↓reduceIte,rA];refine aL (bL (aPa S a b l m) ?_ l.length _ _ ⟨rfl,Same.refl _,0,by omega,rfl,by refine⟨?_,?_,?_⟩<;>simp only[↓aF,aE,rE,↓reduceIte,rA]⟩);rintro k ⟨F,inr⟩ X ⟨q0,hX,i,hik,he,p0,p1,p5⟩;simp only at q0 p0 p1 p5;subst q0;refine gC ?_;simp only[↓aF,aE,rE,↓reduceIte,rA,p0,p5,ha.len,Ag];by_cases hlt:i<l.length
  ·refine aO (by simp only[↓aF,aE,rE,↓reduceIte,rA,Ac (show(i:Int)<((l.length:Nat):Int) by omega)]) (aI ?_);try simp only[↓aF,aE,rE,↓reduceIte,rA]
   have hltm:i<m.length:=by omega
   have ia:=(ha.same hX).iaddr hlt;have la:=(ha.same hX).ld hlt;have ib:=(hb.same hX).iaddr hltm;have lb:=(hb.same hX).ld hltm;have w1:IntKind.i64.wrap ((i:Int)+1)=((i+1:Nat):Int):=by rw[wrap_i64 (by omega) (by omega)];omega
   refine aA (aL (aA (gP ?_)));simp only[↓aF,aE,rE,↓reduceIte,rA,p0,p1,p5,aG,ia,ib,la,lb];have el:l.getD i 0=l[i]:=by rw[Ad,Ab hlt];rfl
   have em:m.getD i 0=m[i]:=by rw[Ad,Ab hltm];rfl
   by_cases hx:l.getD i 0=m.getD i 0
   ·refine aN (by simp only[↓aF,aE,rE,↓reduceIte,rA,Aa (show ¬l.getD i 0≠m.getD i 0 from fun h=>h hx)]) (aI ?_);try simp only[↓aF,aE,rE,↓reduceIte,rA]
    refine aJ ?_;simp only[↓aF,aE,rE,↓reduceIte,rA,p5,w1];refine⟨k - 1,by omega,rfl,hX.trans (Same.nx _ _),i+1,by omega,?_,by refine⟨?_,?_,?_⟩<;>simp only[↓aF,aE,rE,↓reduceIte,rA,p0,p1]⟩;rw[Bp,Bp,he,Ab hlt,Ab hltm,←el,←em,hx]
   ·refine aO (by simp only[↓aF,aE,rE,↓reduceIte,rA,Ac (show l.getD i 0≠m.getD i 0 from hx)]) ?_;refine bQ ?_;simp only[↓aF,aE,rE,↓reduceIte,rA];refine aS ?_;simp only[↓aF,aE,rE,↓reduceIte,rA];exact .inr ⟨hX.trans (Same.nx _ _),fun e=>hx (by rw[e])⟩
  ·refine aN (by simp only[↓aF,aE,rE,↓reduceIte,rA,Aa (show ¬ (i:Int)<((l.length:Nat):Int) by omega)]) (bM ?_);simp only[↓aF,aE,rE,↓reduceIte,rA];have hk0:k=0:=by omega
   subst hk0;exact .inl ⟨rfl,hX,i,hik,he,by refine⟨?_,?_,?_⟩<;>simp only[↓aF,aE,rE,↓reduceIte,rA,p0,p1,p5]⟩
 rintro o ⟨F,inr⟩ X (⟨rfl,q0,hX,i,hik,he,p0,p1,p5⟩ | ⟨rfl,hX,hne,p4⟩);rotate_left
 ·simp only at p4;simp only[↓aF,aE,rE,↓reduceIte,rA,p4];rw[Aa hne];exact⟨rfl,hX⟩
 simp only at q0;subst q0;rw[Bb (by omega),Bb (by omega)] at he;rw[Ac he];try simp only[↓aF,aE,rE,↓reduceIte,rA]
 refine bQ ?_;simp only[↓aF,aE,rE,↓reduceIte,rA];refine aS ?_;simp only[↓aF,aE,rE,↓reduceIte,rA];exact hX
theorem qT{S:St}{a b:AV}{l m:List Int}(H:Has fns)(ha:bK .i64 S a l)(hb:bK .i64 S b m)(hl:l.length≤10000000):gH fns (.fn 19 [] []) [a,b] S fun r S'=>r= .bool (decide (l=m))∧Same S S':=
 qQ H ha hb (by omega)
def aME(S:St)(a b:AV)(l m:List (List Int))(k:Nat)(A:bH)(X:St):Prop:=A.inr=false∧Same S X∧∃i,i+k=l.length∧l.take i=m.take i∧aB 0 A.F=a∧aB 1 A.F=b∧aB 5 A.F= .int .i64 (i:Int)
theorem aFK{S:St}{a b:AV}{l m:List (List Int)}(H:Has fns)(ha:aH 1 iX S a l)(hb:aH 1 iX S b m)(hl:l.length≤10000000)(hll:∀x∈l,x.length≤10000000):gH fns (.fn 30 [] []) [a,b] S fun r S'=>r= .bool (decide (l=m))∧Same S S':=by
 refine cI H.f30 (by simp) ?_;simp only[↓aF,aE,rE,↓reduceIte,rA];refine bQ ?_;simp only[↓aF,aE,rE,↓reduceIte,rA];refine gC ?_;simp only[↓aF,aE,rE,↓reduceIte,rA,ha.len,hb.len,Ag];by_cases hlm:l.length=m.length;rotate_left
 ·rw[Aa (show ¬l=m from fun e=>hlm (by rw[e]))];refine aO (by simp only[↓aF,aE,rE,↓reduceIte,rA,Ac (show((l.length:Nat):Int)≠((m.length:Nat):Int) by omega)]) ?_;refine bQ ?_;simp only[↓aF,aE,rE,↓reduceIte,rA];refine aS ?_;simp only[↓aF,aE,rE,↓reduceIte,rA];exact Same.refl _
 refine aN (by simp only[↓aF,aE,rE,↓reduceIte,rA,Aa (show ¬ ((l.length:Nat):Int)≠((m.length:Nat):Int) by omega)]) (aI ?_);try simp only[↓aF,aE,rE,↓reduceIte,rA]
 refine aA (aY (Q:=fun o A' X=>(o= .normal∧aME S a b l m 0 A' X)∨(o= .ret∧Same S X∧l≠m∧aB 4 A'.F= .bool false)) (aA (aJ ?_)) ?_)
 ·simp only[↓aF,aE,rE,↓reduceIte,rA];refine aL (bL (aME S a b l m) ?_ l.length _ _ ⟨rfl,Same.refl _,0,by omega,rfl,by refine⟨?_,?_,?_⟩<;>simp only[↓aF,aE,rE,↓reduceIte,rA]⟩);rintro k ⟨F,inr⟩ X ⟨q0,hX,i,hik,he,p0,p1,p5⟩;simp only at q0 p0 p1 p5;subst q0;refine gC ?_;simp only[↓aF,aE,rE,↓reduceIte,rA,p0,p5,ha.len,Ag];by_cases hlt:i<l.length
  ·refine aO (by simp only[↓aF,aE,rE,↓reduceIte,rA,Ac (show(i:Int)<((l.length:Nat):Int) by omega)]) (aI ?_);try simp only[↓aF,aE,rE,↓reduceIte,rA]
   have hltm:i<m.length:=by omega
   obtain⟨e1,b1,q1,ia,lb1,_,⟨a1,rfl,h1⟩,_,hf1⟩:=aH.at (aH.same (E:=iX) firm_sl ha hX) (by decide) (Ab hlt);obtain⟨e2,b2,q2,ib,lb2,_,⟨a2,rfl,h2⟩,_,hf2⟩:=aH.at (aH.same (E:=iX) firm_sl hb hX) (by decide) (Ab hltm);have la:=hf1 0 a1 rfl;have lb:=hf2 0 a2 rfl;rw[Br] at la lb;have sa1:=bK.self h1;have sa2:=bK.self h2;have w1:IntKind.i64.wrap ((i:Int)+1)=((i+1:Nat):Int):=by rw[wrap_i64 (by omega) (by omega)];omega
   refine aA (aL (aA (iE (fun _=>False) ?_)));intro X1 x1;simp only[↓sU,sD,rE,↓reduceIte,rA,p0,p1,p5,aG,ia,ib,la,lb,sa1,sa2,lb1,lb2,Al];refine dS rfl ?_;simp only[↓sU,sD,rE,↓reduceIte,rA];refine aX (qT H (h1.same x1) (h2.same x1) (hll _ (Bo hlt))) ?_;rintro _ Y ⟨rfl,hY⟩;refine⟨hY,?_⟩;have hSY:=hX.trans (x1.trans hY);try simp only[↓sU,sD,rE,↓reduceIte,rA,gE]
   by_cases hx:l[i]=m[i]
   ·refine aN (by simp only[↓aF,aE,rE,↓reduceIte,rA,Ac hx,Cz]) (aI ?_);try simp only[↓aF,aE,rE,↓reduceIte,rA]
    refine aJ ?_;simp only[↓aF,aE,rE,↓reduceIte,rA,p5,w1];refine⟨k - 1,by omega,rfl,hSY,i+1,by omega,?_,by refine⟨?_,?_,?_⟩<;>simp only[↓aF,aE,rE,↓reduceIte,rA,p0,p1]⟩;rw[Bp,Bp,he,Ab hlt,Ab hltm,hx]
   ·refine aO (by simp only[↓aF,aE,rE,↓reduceIte,rA,Aa hx,Ee]) ?_;refine bQ ?_;simp only[↓aF,aE,rE,↓reduceIte,rA];refine aS ?_;simp only[↓aF,aE,rE,↓reduceIte,rA];exact .inr ⟨hSY,fun e=>hx (by subst e;rfl)⟩
  ·refine aN (by simp only[↓aF,aE,rE,↓reduceIte,rA,Aa (show ¬ (i:Int)<((l.length:Nat):Int) by omega)]) (bM ?_);simp only[↓aF,aE,rE,↓reduceIte,rA];have hk0:k=0:=by omega
   subst hk0;exact .inl ⟨rfl,hX,i,hik,he,by refine⟨?_,?_,?_⟩<;>simp only[↓aF,aE,rE,↓reduceIte,rA,p0,p1,p5]⟩
 rintro o ⟨F,inr⟩ X (⟨rfl,q0,hX,i,hik,he,p0,p1,p5⟩ | ⟨rfl,hX,hne,p4⟩);rotate_left
 ·simp only at p4;simp only[↓aF,aE,rE,↓reduceIte,rA,p4];rw[Aa hne];exact⟨rfl,hX⟩
 simp only at q0;subst q0;rw[Bb (by omega),Bb (by omega)] at he;rw[Ac he];try simp only[↓aF,aE,rE,↓reduceIte,rA]
 refine bQ ?_;simp only[↓aF,aE,rE,↓reduceIte,rA];refine aS ?_;simp only[↓aF,aE,rE,↓reduceIte,rA];exact hX
def mX(S S':St)(v:AV)(l:List Int):Prop:=∃b,v= .sl b 0 l.length l.length false∧S.nx≤b∧b<S'.nx∧S'.h.get b=some (.cells (aP l) false 0)
theorem mX.is{S S':St}{v:AV}{l:List Int}(h:mX S S' v l):bK .i64 S' v l:=by
 obtain⟨b,rfl,h1,h2,h3⟩:=h;exact aDf h3 h2 rfl
theorem mX.same{S S' S'':St}{v:AV}{l:List Int}(h:mX S S' v l)(hs:Same S' S''):mX S S'' v l:=by
 obtain⟨b,h0,h1,h2,h3⟩:=h;exact⟨b,h0,h1,Ae h2 hs.1,(hs.2 _ h2).trans h3⟩
theorem pG(n:Nat):repeatL [AV.int .i64 0] n=aP (List.replicate n 0):=by rw[repeatL_one];simp [aP]
theorem aH4{l m:List Int}(hl:l.length=m.length)(h:∀j,j<m.length→l.getD j 0=m.getD j 0):l=m:=by
 refine Dp hl fun j j1 j2=>?_;have:=h j j2;rw[Ad,Ad,Ab j1,Ab j2] at this;exact this
def aH3(S:St)(rb n:Nat)(f:Nat→Int)(P:Fr→Nat→Prop)(k:Nat)(A:bH)(X:St):Prop:=A.inr=false∧Same S X∧rb<X.nx∧∃ (i:Nat) (l:List Int),i+k=n∧l.length=n∧(∀j,j<i→l.getD j 0=f j)∧X.h.get rb=some (.cells (aP l) false 0)∧P A.F i
theorem tQ{S:St}{n:Nat}(H:Has fns)(hn:n≤1000000):gH fns (.fn 155 [] []) [.int .i64 (n:Int)] S fun r S'=>mX S S' r (List.replicate n (-1))∧Same S S':=by
 refine cI H.f155 (by simp) ?_;simp only[↓aF,aE,rE,↓reduceIte,rA];refine bQ ?_;simp only[↓aF,aE,rE,↓reduceIte,rA];refine bQ ?_;simp only[↓aF,aE,rE,↓reduceIte,rA];refine gM (nK (n:=n) (by simp only[↓aF,aE,rE,↓reduceIte,rA,aG]) (by simp only[↓aF,aE,rE,↓reduceIte,rA,aG]) (by unfold room;omega) (by unfold room;omega)) ?_;intro S1 s1 n1 c1;rw[pG] at c1;simp only[↓aF,aE,rE,↓reduceIte,rA];refine aA (aY (Q:=fun o A' X=>o= .normal∧aH3 S S.nx n (fun _=> -1) (fun F i=>aB 3 F= .sl S.nx 0 n n false∧aB 8 F= .int .i64 (n:Int)∧aB 9 F= .int .i64 (i:Int)) 0 A' X) (aA (aJ ?_)) ?_)
 ·have e0:kO (.sl S.nx 0 n n false)=some (.int .i64 (n:Int)):=rfl;simp only[↓aF,aE,rE,↓reduceIte,rA,e0];refine aL (bL (aH3 S S.nx n (fun _=> -1) (fun F i=>aB 3 F= .sl S.nx 0 n n false∧aB 8 F= .int .i64 (n:Int)∧aB 9 F= .int .i64 (i:Int))) ?_ n _ _ ⟨rfl,s1,by omega,0,_,by omega,Ar ..,fun j hj=>by omega,c1,by refine⟨?_,?_,?_⟩<;>simp only[↓aF,aE,rE,↓reduceIte,rA]⟩);rintro k ⟨F,inr⟩ X ⟨q0,hX,hb,i,l,hik,hl,hf,hc,p3,p8,p9⟩;simp only at q0 p3 p8 p9;subst q0;refine bQ ?_;simp only[↓aF,aE,rE,↓reduceIte,rA,p8,p9];by_cases hlt:i<n
  ·refine aA (aO (by simp only[↓aF,aE,rE,↓reduceIte,rA,Ac (show(i:Int)<(n:Int) by omega)]) (aI ?_));try simp only[↓aF,aE,rE,↓reduceIte,rA]
   have w1:IntKind.i64.wrap ((i:Int)+1)=((i+1:Nat):Int):=by rw[wrap_i64 (by omega) (by omega)];omega
   have hia:=dT (b:=S.nx) (o:=false) hlt;refine aA (aL (aA (aJ ?_)));simp only[↓aF,aE,rE,↓reduceIte,rA,p9];refine aJ ?_;simp only[↓aF,aE,rE,↓reduceIte,rA,p3,aG,hia];rw[show Int.negSucc 0=(-1:Int) from rfl];refine fJ (fun call=>by simp only[↓aF,aE,rE,↓reduceIte,rA,dN,cO];exact qL (S:=X) hc (by rw[hl];exact hlt)) ?_;simp only[↓aF,aE,rE,↓reduceIte,rA];refine aJ ?_;simp only[↓aF,aE,rE,↓reduceIte,rA,p9,w1];refine⟨k - 1,by omega,rfl,hX.put (Ah _) _,hb,i+1,l.set i (-1),by omega,by rw[Ap];exact hl,fun j hj=>?_,by simp only;rw[T.get_set,if_pos rfl],by refine⟨?_,?_,?_⟩<;>simp only[↓aF,aE,rE,↓reduceIte,rA,p3,p8]⟩;rw[fX (by rw[hl];exact hlt)];split
   ·rfl
   ·exact hf j (by omega)
  ·refine aA (aN (by simp only[↓aF,aE,rE,↓reduceIte,rA,Aa (show ¬ (i:Int)<(n:Int) by omega)]) (bM ?_));simp only[↓aF,aE,rE,↓reduceIte,rA];have hk0:k=0:=by omega
   subst hk0;exact⟨rfl,hX,hb,i,l,hik,hl,hf,hc,by refine⟨?_,?_,?_⟩<;>simp only[↓aF,aE,rE,↓reduceIte,rA,p3,p8,p9]⟩
 rintro o ⟨F,inr⟩ X ⟨rfl,q0,hX,hb,i,l,hik,hl,hf,hc,p3,p8,p9⟩;simp only at q0 p3;subst q0;have el:l=List.replicate n (-1):=aH4 (by rw[hl,Ar]) fun j hj=>by
  rw[Ar] at hj;rw[hf j (by omega),Ad,Cn,if_pos hj];rfl
 subst el;try simp only[↓aF,aE,rE,↓reduceIte,rA]
 refine bQ ?_;simp only[↓aF,aE,rE,↓reduceIte,rA,p3];refine aS ?_;simp only[↓aF,aE,rE,↓reduceIte,rA];exact⟨⟨S.nx,by rw[Ar],Ah _,hb,hc⟩,hX⟩
def vC(a:List Int)(n:Nat):Prop:=∀x∈a,0≤x∧x<n
def lQ:List Int→Nat→Int→Int
 | [],_,_=> -1
 | x::l,s,c=>if x=c then(s:Int) else lQ l (s+1) c
theorem qB{c:Int}:∀ {l:List Int} {s:Nat},(lQ l s c= -1∧c∉l)∨∃k,lQ l s c=((s+k:Nat):Int)∧l[k]? =some c∧∀j,j<k→l[j]? ≠some c
 | [],s=>.inl ⟨rfl,by simp⟩
 | x::l,s=>by
  simp only[lQ];by_cases h:x=c
  ·rw[if_pos h];exact .inr ⟨0,rfl,by rw[h];rfl,fun j hj=>by omega⟩
  ·rw[if_neg h];rcases qB (c:=c) (l:=l) (s:=s+1) with⟨h1,h2⟩ | ⟨k,h1,h2,h3⟩
   ·exact .inl ⟨h1,by rw[Bm];rintro(e | e);exact h e.symm;exact h2 e⟩
   ·refine .inr ⟨k+1,by rw[h1];congr 1;omega,h2,fun j hj=>?_⟩;cases j with
    | zero=>simp only[List.getElem?_cons_zero,ne_eq,An];exact h
    | succ j=>rw[Dn];exact h3 j (by omega)
def aPn(S:St)(nb:Nat)(c:Int)(l:List Int)(k:Nat)(A:bH)(X:St):Prop:=A.inr=false∧Same S X∧∃i,i+k=l.length∧lQ l 0 c=lQ (l.drop i) i c∧aB 1 A.F= .int .i64 c∧aB 2 A.F= .ptr nb 0∧aB 5 A.F= .int .i64 (i:Int)
theorem aHK{S:St}{cs:List AV}{x:dG}{c:Int}(H:Has fns)(hx:bP S cs x)(hl:x.next.length≤100000):gH fns (.fn 120 [] []) [.agg cs,.int .i64 c] S fun r S'=>r= .int .i64 (lQ x.next 0 c)∧Same S S':=by
 obtain⟨a,bb,cc,rfl,ha,_,_⟩:=hx;refine cI H.f120 (by simp) ?_;simp only[↓sU,sD,rE,↓reduceIte,rA];refine bQ ?_;refine cM (by simp only[↓sU,sD,rE,↓reduceIte,rA];exact bB _) ?_;intro S1 s1 n1 c1;simp only[↓sU,sD,rE,↓reduceIte,rA];have lb:S.nx<S1.nx:=by omega
 refine aA (aY (Q:=fun o A' X=>(o= .normal∧aPn S1 S.nx c x.next 0 A' X)∨(o= .ret∧Same S1 X∧aB 4 A'.F= .int .i64 (lQ x.next 0 c))) (aA (aJ ?_)) ?_)
 ·simp only[↓aF,aE,rE,↓reduceIte,rA];refine aL (bL (aPn S1 S.nx c x.next) ?_ x.next.length _ _ ⟨rfl,Same.refl _,0,by omega,rfl,by refine⟨?_,?_,?_⟩<;>simp only[↓aF,aE,rE,↓reduceIte,rA]⟩);rintro k ⟨F,inr⟩ X ⟨q0,hX,i,hik,he,p1,p2,p5⟩;simp only at q0 p1 p2 p5;subst q0;have cX:X.h.get S.nx=some (.cells [.int .i64 x.kind,.int .i64 x.player,.int .i64 x.info,a,bb,cc] false 0):=by rw[hX.2 _ lb];exact c1
  have haX:=ha.same (s1.trans hX);refine gC ?_;simp only[↓aF,aE,rE,↓reduceIte,rA,p2,p5,aC,aD,cT cX,ha.len,Ag];by_cases hlt:i<x.next.length
  ·refine aO (by simp only[↓aF,aE,rE,↓reduceIte,rA,Ac (show(i:Int)<((x.next.length:Nat):Int) by omega)]) (aI ?_);try simp only[↓aF,aE,rE,↓reduceIte,rA]
   have ia:=haX.iaddr hlt;have la:=haX.ld hlt;have el:x.next.getD i 0=x.next[i]:=by rw[Ad,Ab hlt];rfl
   have hdrop:x.next.drop i=x.next[i]::x.next.drop (i+1):=Bt hlt;have w1:IntKind.i64.wrap ((i:Int)+1)=((i+1:Nat):Int):=by rw[wrap_i64 (by omega) (by omega)];omega
   rw[hdrop] at he;simp only[lQ] at he;rw[el] at la;refine aA (aL (aA (aJ ?_)));simp only[↓aF,aE,rE,↓reduceIte,rA,p1,p2,p5,aC,aD,cT cX,aG,ia,la];by_cases hc:x.next[i]=c
   ·rw[if_pos hc] at he;refine aO (by simp only[↓aF,aE,rE,↓reduceIte,rA,Ac hc]) ?_;refine bQ ?_;simp only[↓aF,aE,rE,↓reduceIte,rA,p5];refine aS ?_;simp only[↓aF,aE,rE,↓reduceIte,rA];exact .inr ⟨hX,by rw[he]⟩
   ·rw[if_neg hc] at he;refine aN (by simp only[↓aF,aE,rE,↓reduceIte,rA,Aa hc]) (aI ?_);try simp only[↓aF,aE,rE,↓reduceIte,rA]
    refine aJ ?_;simp only[↓aF,aE,rE,↓reduceIte,rA,p5,w1];exact⟨k - 1,by omega,rfl,hX,i+1,by omega,he,by refine⟨?_,?_,?_⟩<;>simp only[↓aF,aE,rE,↓reduceIte,rA,p1,p2]⟩
  ·refine aN (by simp only[↓aF,aE,rE,↓reduceIte,rA,Aa (show ¬ (i:Int)<((x.next.length:Nat):Int) by omega)]) (bM ?_);simp only[↓aF,aE,rE,↓reduceIte,rA];have hk0:k=0:=by omega
   subst hk0;exact .inl ⟨rfl,hX,i,hik,he,by refine⟨?_,?_,?_⟩<;>simp only[↓aF,aE,rE,↓reduceIte,rA,p1,p2,p5]⟩
 rintro o ⟨F,inr⟩ X (⟨rfl,q0,hX,i,hik,he,p1,p2,p5⟩ | ⟨rfl,hX,p4⟩);rotate_left
 ·simp only at p4;simp only[↓aF,aE,rE,↓reduceIte,rA,p4];exact s1.trans hX
 simp only at q0;subst q0;rw[Ch (by omega)] at he;try simp only[↓aF,aE,rE,↓reduceIte,rA]
 refine bQ ?_;simp only[↓aF,aE,rE,↓reduceIte,rA];refine aS ?_;simp only[↓aF,aE,rE,↓reduceIte,rA];exact⟨by rw[he];rfl,s1.trans hX⟩
def aNE(h:T AB)(K:Nat)(l:lS):Prop:=oW l.v (fV l.q l.F h)=true∧l.i<K∧Nat.testBit l.mask K=false
theorem zE{h:T AB}{base K:Nat}{rest:List AO}{Q:DS→Prop}:∀ {pre:List AO} {i:Nat} {F:Fr} {S:St} {ls:List lS},S.h=h→i+pre.length=K→(∀o∈pre,Nat.testBit o.mask K=false)→(∀l∈ls,aNE h K l)→
  nO pre F h (fun F'=>∀ls',(∀l∈ls',aNE h K l)→yG fns rest K base ⟨F',S,[],[],ls'⟩ Q)→yG fns (pre++rest) i base ⟨F,S,[],[],ls⟩ Q
 | [],i,F,S,ls,h1,h2,_,h4,hr=>by
  simp only[Bv,Br] at h2;subst h2;exact hr ls h4
 | ⟨d,.q q,g,m⟩::l,i,F,S,ls,h1,h2,h3,h4,hr=>by
  simp only[nO] at hr;have h2':i+1+l.length=K:=by rw[Ay] at h2;omega
  have h3':∀o∈l,Nat.testBit o.mask K=false:=fun o ho=>h3 o (Bj _ ho);have hm:Nat.testBit m K=false:=h3 _ (Bu ..);have go:∀ (_:kR (fV q F h) fun v=>(dI q=true→cC v v=true)∧nO l (cK d F v) h (fun F'=>∀ls',(∀l∈ls',aNE h K l)→yG fns rest K base ⟨F',S,[],[],ls'⟩ Q)),yG fns (⟨d,.q q,none,m⟩::(l++rest)) i base ⟨F,S,[],[],ls⟩ Q:=by
   rintro⟨v,hv,hs,hr⟩;rw[lA];subst h1;refine⟨v,hv,zE rfl h2' h3' ?_ hr⟩;cases hq:dI q with
   | false=>exact h4
   | true=>
    rw[aQ];intro l' hl';rcases Bm.1 hl' with rfl | hl'
    ·refine⟨?_,by show i<K;omega,hm⟩;show oW v (fV q F S.h)=true;rw[hv,jA];exact hs hq
    ·exact h4 _ hl'
  cases g with
  | none=>exact go (by rw[if_pos (show eM none F=true from rfl)] at hr;exact hr)
  | some g=>
   obtain⟨s,b⟩:=g;by_cases hw:eM (some (s,b)) F=true
   ·rw[if_pos hw] at hr;obtain⟨n,D',e1,e2⟩:=go hr;refine⟨n,D',?_,e2⟩;have:rT ⟨d,.q q,some (s,b),m⟩ i base (ev fns n).call ⟨F,S,[],[],ls⟩=rT ⟨d,.q q,none,m⟩ i base (ev fns n).call ⟨F,S,[],[],ls⟩:=by
     show bN (eM (some (s,b)) F) _ _=bN true _ _;rw[hw];rfl
    show aZ (rT ⟨d,.q q,some (s,b),m⟩ i base (ev fns n).call ⟨F,S,[],[],ls⟩) _=_;rw[this];exact e1
   ·rw[if_neg hw] at hr;obtain⟨n,D',e1,e2⟩:=zE (i:=i+1) (F:=cK d F .undef) (ls:=ls) h1 h2' h3' h4 hr;refine⟨n,D',?_,e2⟩;have:rT ⟨d,.q q,some (s,b),m⟩ i base (ev fns n).call ⟨F,S,[],[],ls⟩=some ⟨cK d F .undef,S,[],[],ls⟩:=by
     show bN (eM (some (s,b)) F) _ _=_;rw[show eM (some (s,b)) F=false by simpa using hw];rfl
    show aZ (rT ⟨d,.q q,some (s,b),m⟩ i base (ev fns n).call ⟨F,S,[],[],ls⟩) _=_;rw[this];exact e1
 | ⟨d,.a a,g,m⟩::l,i,F,S,ls,h1,h2,h3,h4,hr=>by cases hr
 | ⟨d,.x a,g,m⟩::l,i,F,S,ls,h1,h2,h3,h4,hr=>by cases hr
theorem aMa{ops pre:List AO}{K m n:Nat}{x v:cL}{A:bH}{S:St}{Q:Out→bH→St→Prop}(he:ops=pre++ [⟨none,.x (.st n x v),none,m⟩])(hK:pre.length=K)(h3:∀o∈pre,Nat.testBit o.mask K=false)(hm:∀i,i<K→Nat.testBit m i=true)
  (h:nO pre A.F S.h fun F'=>∃S1,aZ (v.val F').cells (fun cs=>rU (x.val F') n cs ⟨S.h,S.nx+(K+1)⟩)=some (.undef,S1)∧Q .normal ⟨F',A.inr⟩ S1):iH fns (.drw ops) A S Q:=by
 subst he;have hlen:(pre++ [(⟨none,.x (.st n x v),none,m⟩:AO)]).length=K+1:=by simp [hK]
 refine qO ?_;rw[hlen];refine zE (h:=S.h) (K:=K) (pre:=pre) (i:=0) rfl (by omega) h3 (fun l hl=>by cases hl) ?_;have mono:∀ {P P':Fr→Prop},(∀F,P F→P' F)→∀ (l:List AO) (F:Fr),nO l F S.h P→nO l F S.h P':=fun {P P'} hP l=>by
  induction l with
  | nil=>intro F h;exact hP F h
  | cons o l ih=>
   intro F h;obtain⟨d,op,g,mm⟩:=o;cases op with
   | q q=>
    simp only[nO] at h ⊢;split at h
    ·rename_i hw;rw[if_pos hw];obtain⟨w,hw1,hw2,hw3⟩:=h;exact⟨w,hw1,hw2,ih _ hw3⟩
    ·rename_i hw;rw[if_neg hw];exact ih _ h
   | a a=>cases h
   | x a=>cases h
 refine mono ?_ pre A.F h;rintro F' ⟨S1,e1,hQ⟩ ls hls;refine jP (v:=.undef) (S1:=S1) rfl (fun call=>by rw[dN];exact e1) ?_;rw[fZ];refine⟨?_,?_⟩
 ·simp only[Bz,List.reverse_nil,Cc];refine nH fun l hl=>?_;obtain⟨h1,h2,h4⟩:=hls l hl;unfold eI;rw[h4,aW,h1,aQ,hm _ h2,aQ]
 ·exact hQ
def lF(T:List dH)(j:Nat):Option Int:=(T[j]?).map (·.1)
def CF(nx:Nat→List Int)(a:Nat)(T:List dH):Prop:=∀j,j<T.length→∀c∈nx (a+j),((a+j:Nat):Int)<c∧c<((a+T.length:Nat):Int)∧lF T (c.toNat - a)=some ((a+j:Nat):Int)
def PF(nx:Nat→List Int)(a:Nat)(T:List dH)(j:Nat):Prop:=∃q,q<j∧lF T j=some ((a+q:Nat):Int)∧((a+j:Nat):Int)∈nx (a+q)
def aJy(nx:Nat→List Int)(a:Nat)(T:List dH):Prop:=∀j,j<T.length→(nx (a+j)).Pairwise (· < ·)
structure WF(nx:Nat→List Int)(a:Nat)(p:Int)(T:List dH):Prop where
 pos:0<T.length
 root:lF T 0=some p
 cf:CF nx a T
 pf:∀j,0<j→j<T.length→PF nx a T j
 inc:aJy nx a T
structure KF(nx:Nat→List Int)(r:Nat)(p:Int)(l:List Int)(L:List dH):Prop where
 cf:CF nx r L
 kid:∀c∈l,((r:Nat):Int)≤c∧c<((r+L.length:Nat):Int)∧lF L (c.toNat - r)=some p
 pf:∀j,j<L.length→(lF L j=some p∧((r+j:Nat):Int)∈l)∨PF nx r L j
 inc:aJy nx r L
 up:l.Pairwise (· < ·)
theorem tS{L1 L2:List dH}{j:Nat}(h:j<L1.length):lF (L1++L2) j=lF L1 j:=by unfold lF;rw[Bg h]
theorem qY{L1 L2:List dH}{j:Nat}(h:L1.length≤j):lF (L1++L2) j=lF L2 (j - L1.length):=by unfold lF;rw[Bd h]
theorem CF.append{nx:Nat→List Int}{r:Nat}{L1 L2:List dH}(h1:CF nx r L1)(h2:CF nx (r+L1.length) L2):CF nx r (L1++L2):=fun j hj c hc=>by
 rw[Am] at hj ⊢;by_cases h:j<L1.length
 ·obtain⟨a,b,d⟩:=h1 j h c hc;exact⟨a,by omega,by rw[tS (by omega)];exact d⟩
 ·have e:r+j=r+L1.length+(j - L1.length):=by omega
  rw[e] at hc;obtain⟨a,b,d⟩:=h2 (j - L1.length) (by omega) c hc;refine⟨by omega,by omega,?_⟩;rw[qY (by omega),show c.toNat - r - L1.length=c.toNat - (r+L1.length) by omega,d,e]
theorem PF.left{nx:Nat→List Int}{r j:Nat}{L1 L2:List dH}(h:PF nx r L1 j)(hj:j<L1.length):PF nx r (L1++L2) j:=by
 obtain⟨q,h1,h2,h3⟩:=h;exact⟨q,h1,by rw[tS hj];exact h2,h3⟩
theorem PF.right{nx:Nat→List Int}{r j:Nat}{L1 L2:List dH}(h:PF nx (r+L1.length) L2 (j - L1.length))(hj:L1.length≤j):PF nx r (L1++L2) j:=by
 obtain⟨q,h1,h2,h3⟩:=h;refine⟨L1.length+q,by omega,?_,?_⟩
 ·rw[qY hj,h2,show r+L1.length+q=r+(L1.length+q) by omega]
 ·rw[show r+(L1.length+q)=r+L1.length+q by omega,show r+j=r+L1.length+(j - L1.length) by omega];exact h3
theorem aJy.append{nx:Nat→List Int}{r:Nat}{L1 L2:List dH}(h1:aJy nx r L1)(h2:aJy nx (r+L1.length) L2):aJy nx r (L1++L2):=fun j hj=>by
 rw[Am] at hj;by_cases h:j<L1.length
 ·exact h1 j h
 ·rw[show r+j=r+L1.length+(j - L1.length) by omega];exact h2 (j - L1.length) (by omega)
theorem aCa{rec:Nat→Option (List dH)}{nx:Nat→List Int}{p:Int}(hr:∀r L,rec r=some L→WF nx r p L):∀ {l:List Int} {r:Nat} {L:List dH},iP rec l r=some L→KF nx r p l L
 | [],r,L,h=>by
  simp only[iP,An] at h;subst h;exact⟨fun j hj=>by simp at hj,fun c hc=>by simp at hc,fun j hj=>by simp at hj,fun j hj=>by simp at hj,.nil⟩
 | c::l,r,L,h=>by
  simp only[iP] at h;split at h
  ·rename_i hc;obtain⟨L1,h1,h2⟩:=Db.1 h;obtain⟨L2,h3,rfl⟩:=Aw.1 h2;have w:=hr r L1 h1;have k:=aCa hr h3;have hp:=w.pos;refine⟨w.cf.append k.cf,fun c' hc'=>?_,fun j hj=>?_,w.inc.append k.inc,?_⟩
   ·rw[Am];rcases Bm.1 hc' with rfl | hc'
    ·rw[hc];refine⟨by omega,by omega,?_⟩;rw[show((r:Int)).toNat - r=0 by omega,tS hp];exact w.root
    ·obtain⟨a,b,d⟩:=k.kid c' hc';refine⟨by omega,by omega,?_⟩;rw[qY (by omega),show c'.toNat - r - L1.length=c'.toNat - (r+L1.length) by omega];exact d
   ·rw[Am] at hj;by_cases h:j<L1.length
    ·by_cases j0:j=0
     ·subst j0;exact .inl ⟨by rw[tS h];exact w.root,by rw[Br,hc];exact Bu ..⟩
     ·exact .inr ((w.pf j (by omega) h).left h)
    ·rcases k.pf (j - L1.length) (by omega) with⟨h4,h5⟩ | h4
     ·exact .inl ⟨by rw[qY (by omega)];exact h4,Bj _ (by rw[show r+j=r+L1.length+(j - L1.length) by omega];exact h5)⟩
     ·exact .inr (PF.right h4 (by omega))
   ·refine List.pairwise_cons.2 ⟨fun c' hc'=>?_,k.up⟩;have:=(k.kid c' hc').1;omega
  ·cases h
theorem qG{N:Nat}{nx:Nat→List Int}:∀ {f at_:Nat} {p d:Int} {T:List dH},fO N nx f at_ p d=some T→WF nx at_ p T
 | 0,at_,p,d,T,h=>by cases h
 | f+1,at_,p,d,T,h=>by
  simp only[fO] at h;split at h
  ·obtain⟨L,h1,rfl⟩:=Aw.1 h;have k:=aCa (p:=(at_:Int)) (fun r L hr=>qG hr) h1;have ps:∀j,lF ((p,d,((at_+L.length:Nat):Int))::L) (j+1)=lF L j:=fun j=>by unfold lF;rw[Dn]
   refine⟨by simp,rfl,fun j hj c hc=>?_,fun j j0 hj=>?_,fun j hj=>?_⟩
   ·rw[Ay] at hj ⊢;cases j with
    | zero=>
     rw[Br] at hc ⊢;obtain⟨a,b,e⟩:=k.kid c hc;refine⟨by omega,by omega,?_⟩;rw[show c.toNat - at_=(c.toNat - (at_+1))+1 by omega,ps];exact e
    | succ j=>
     rw[show at_+(j+1)=at_+1+j by omega] at hc ⊢;obtain⟨a,b,e⟩:=k.cf j (by omega) c hc;refine⟨by omega,by omega,?_⟩;rw[show c.toNat - at_=(c.toNat - (at_+1))+1 by omega,ps];exact e
   ·rw[Ay] at hj;cases j with
    | zero=>omega
    | succ j=>
     rcases k.pf j (by omega) with⟨a,b⟩ | ⟨q,a,b,e⟩
     ·exact⟨0,by omega,by rw[ps,a];rfl,by rw[Br,show at_+(j+1)=at_+1+j by omega];exact b⟩
     ·refine⟨q+1,by omega,?_,?_⟩
      ·rw[ps,b,show at_+1+q=at_+(q+1) by omega]
      ·rw[show at_+(q+1)=at_+1+q by omega,show at_+(j+1)=at_+1+j by omega];exact e
   ·rw[Ay] at hj;cases j with
    | zero=>exact k.up
    | succ j=>
     rw[show at_+(j+1)=at_+1+j by omega];exact k.inc j (by omega)
  ·cases h
theorem aFM{ops pre:List AO}{K m n:Nat}{x v:cL}{A:bH}{S:St}{Q:Out→bH→St→Prop}(he:ops=pre++ [⟨none,.x (.st n x v),none,m⟩])(hK:pre.length=K)(h3:(pre.all fun o=> !Nat.testBit o.mask K)=true)(hm:((List.range K).all fun i=>Nat.testBit m i)=true)
  (h:nO pre A.F S.h fun F'=>∃S1,aZ (v.val F').cells (fun cs=>rU (x.val F') n cs ⟨S.h,S.nx+(K+1)⟩)=some (.undef,S1)∧Q .normal ⟨F',A.inr⟩ S1):iH fns (.drw ops) A S Q:=by
 refine aMa he hK (fun o ho=>?_) (fun i hi=>?_) h
 ·have:=Cv.1 h3 o ho;simpa using this
 ·exact Cv.1 hm i (Dj.2 hi)
theorem aJh{W:Nat→Prop}{h0:T AB}{base i:Nat}{l:List AO}{F:Fr}{S:St}{ps:List iJ}{last:Option Nat}{Q:Fr→St→List iJ→Prop}{d:Option Nat}{t:Nat}{x:cL}{cs:List AV}(hx:(x.val F).cells=some cs)
  (hr:fK fns W h0 base l (i+1) (cK d F (.ptr (base+i) 0)) S (⟨i,base+i,.cells cs false 0⟩::ps) last Q):aF8 fns W h0 base (uL (.box t x) F (base+i)) d l i F S ps last Q:=by
 rw[aIv,hx,aK,nL];exact hr
theorem bK.cells{k:IntKind}{S:St}{v:AV}{l:List Int}(h:bK k S v l):v.cells=some [v]:=by
 rcases h with⟨_,rfl | rfl⟩ | ⟨b,off,cap,o,cs,rfl,_⟩<;>rfl
def aBL:List Int→Nat→List Int→List Int
 | [],_,r=>r
 | c::l,s,r=>aBL l (s+1) (r.set c.toNat (s:Int))
def aCe(g:aR):Nat→List Int→List Int
 | 0,r=>r
 | i+1,r=>aCe g i (aBL (dU g i) 0 r)
def kN(g:aR):List Int:=aCe g g.nodes.length (List.replicate g.nodes.length 0)
structure iM(S:St)(wb plb szb:Nat)(pv nv iv:AV)(g:aR)(R Z:List Int):Prop where
 w:uP S wb g.players nv iv pv (.sl plb 0 g.nodes.length g.nodes.length false) (.sl szb 0 g.nodes.length g.nodes.length false)
 gp:S.h.get plb=some (.cells (aP R) false 0)
 gz:S.h.get szb=some (.cells (aP Z) false 0)
 lp:R.length=g.nodes.length
 lz:Z.length=g.nodes.length
 bp:plb<S.nx
 bz:szb<S.nx
theorem iM.setZ{X:St}{wb plb szb n:Nat}{pv nv iv:AV}{g:aR}{R Z Z':List Int}(h:iM X wb plb szb pv nv iv g R Z)(n1:wb≠szb)(n2:plb≠szb)(hn:X.nx≤n)(hZ:Z'.length=g.nodes.length):iM ⟨X.h.set szb (some (.cells (aP Z') false 0)),n⟩ wb plb szb pv nv iv g R Z':=
 ⟨⟨by simp only;rw[T.get_set,if_neg n1];exact h.w.1,Ae h.w.2 hn⟩,by simp only;rw[T.get_set,if_neg n2];exact h.gp,by simp only;rw[T.get_set,if_pos rfl],h.lp,hZ,Ae h.bp hn,Ae h.bz hn⟩
theorem iM.setP{X:St}{wb plb szb n:Nat}{pv nv iv:AV}{g:aR}{R R' Z:List Int}(h:iM X wb plb szb pv nv iv g R Z)(n1:wb≠plb)(n2:plb≠szb)(hn:X.nx≤n)(hR:R'.length=g.nodes.length):iM ⟨X.h.set plb (some (.cells (aP R') false 0)),n⟩ wb plb szb pv nv iv g R' Z:=
 ⟨⟨by simp only;rw[T.get_set,if_neg n1];exact h.w.1,Ae h.w.2 hn⟩,by simp only;rw[T.get_set,if_pos rfl],by simp only;rw[T.get_set,if_neg (Bq n2)];exact h.gz,hR,h.lz,Ae h.bp hn,Ae h.bz hn⟩
theorem qJ.put{plb szb:Nat}{S X:St}{n b:Nat}{v:Option AB}(h:qJ plb szb szb S X)(hb:b=plb∨b=szb)(hn:X.nx≤n):qJ plb szb szb S ⟨X.h.set b v,n⟩:=⟨Ak h.1 hn,fun c hc h1 h2 h3=>by
 simp only;rw[T.get_set,if_neg (by rcases hb with rfl | rfl<;>assumption)];exact h.2 c hc h1 h2 h3⟩
theorem aJz{P:Ev.T AB→Prop}{h:Ev.T AB}{b1 b2 b3:Nat}{c1 z:Option AB}(n1:b1≠b2)(n2:b1≠b3)(n3:b2≠b3)(H:∀h':Ev.T AB,h'.get b1=c1→h'.get b2=z→h'.get b3=z→(∀c,c≠b1→c≠b2→c≠b3→h'.get c=h.get c)→P h'):P (((h.set b1 c1).set b2 z).set b3 z):=by
 refine H _ ?_ ?_ ?_ fun c h1 h2 h3=>?_
 ·rw[T.get_set,if_neg n2,T.get_set,if_neg n1,T.get_set,if_pos rfl]
 ·rw[T.get_set,if_neg n3,T.get_set,if_pos rfl]
 ·rw[T.get_set,if_pos rfl]
 ·rw[T.get_set,if_neg h3,T.get_set,if_neg h2,T.get_set,if_neg h1]
theorem aIb{hi:Int}:∀ {l:List Int} {lo:Int},l.Pairwise (· < ·)→(∀c∈l,lo≤c∧c<hi)→l.length≤(hi - lo).toNat
 | [],lo,_,_=>by simp
 | c::l,lo,h,hb=>by
  obtain⟨h1,h2⟩:=List.pairwise_cons.1 h;have hc:=hb c (Bu ..);have:=aIb (lo:=c+1) h2 fun c' hc'=>⟨by have:=h1 c' hc';omega,(hb c' (Bj _ hc')).2⟩;rw[Ay];omega
noncomputable def aMS:List AO:=[mt 47 7,
om 48 1 (.nilchk (.t 47)),
om 49 3 (.faddr 5 (.t 48)),
om 50 7 (ld 49),
mt 51 4,
mt 52 8,
om 53 48 (.iaddr (.slice 1) (.t 51) (.t 52)),
om 54 112 (ld 53),
om 55 255 (.iaddr (.slice 1) (.t 50) (.t 54)),
om 56 511 (ld 55),
mt 57 7,
om 58 1024 (.nilchk (.t 57)),
om 59 3072 (.faddr 5 (.t 58)),
om 60 7168 (ld 59),
mt 61 8,
om 62 31744 (.iaddr (.slice 1) (.t 60) (.t 61)),
om 63 64512 (ld 62),
om 64 131071 (bi .add (.t 56) (.t 63)),
om 65 262143 (.iaddr (.slice 1) (.t 50) (.t 54))]
def szS(T:List dH)(i:Nat)(Z:List Int):List Int:=if 0<i then(Z.set i (IntKind.i64.wrap (Z.getD i 0+1))).set ((T.map fun t:dH=>t.1).getD i 0).toNat (IntKind.i64.wrap ((Z.set i (IntKind.i64.wrap (Z.getD i 0+1))).getD ((T.map fun t:dH=>t.1).getD i 0).toNat 0+(Z.set i (IntKind.i64.wrap (Z.getD i 0+1))).getD i 0)) else Z.set i (IntKind.i64.wrap (Z.getD i 0+1))
def szG(T:List dH):Nat→List Int→List Int
 | 0,Z=>Z
 | i+1,Z=>szG T i (szS T i Z)
def szL(T:List dH)(n:Nat):List Int:=szG T n (List.replicate n 0)
def aOr(Z0:St)(gb wb plb szb:Nat)(pv nv iv:AV)(g:aR)(T:List dH)(k:Nat)(A:bH)(X:St):Prop:=A.inr=false∧qJ plb szb szb Z0 X∧∃R Z,iM X wb plb szb pv nv iv g R Z∧k≤g.nodes.length∧aCe g k R=kN g∧szG T k Z=szL T g.nodes.length∧aB 1 A.F= .ptr gb 0∧aB 4 A.F=pv∧aB 7 A.F= .ptr wb 0∧aB 8 A.F= .int .i64 ((k:Int) - 1)
def aPv(Z0:St)(gb wb plb szb:Nat)(pv nv iv a:AV)(g:aR)(i:Nat)(next Z:List Int)(k:Nat)(A:bH)(X:St):Prop:=A.inr=false∧qJ plb szb szb Z0 X∧∃j R,iM X wb plb szb pv nv iv g R Z∧j+k=next.length∧aCe g i (aBL (next.drop j) j R)=kN g∧aB 1 A.F= .ptr gb 0∧aB 4 A.F=pv∧aB 7 A.F= .ptr wb 0∧aB 8 A.F= .int .i64 (i:Int)∧aB 71 A.F=a∧aB 72 A.F= .int .i64 ((next.length:Nat):Int)∧aB 73 A.F= .int .i64 (j:Int)
def aOb(S S':St)(p nv iv:AV)(g:aR):Prop:=∃ (wb plb szb:Nat) (pv:AV) (T:List dH) (Z:List Int),p= .ptr wb 0∧S.nx≤wb∧gS g=some T∧T.length=g.nodes.length∧bK .i64 S' pv (T.map (·.1))∧iM S' wb plb szb pv nv iv g (kN g) Z
def aMb(S S':St)(p nv iv:AV)(g:aR):Prop:=∃ (wb plb szb:Nat) (pv:AV) (T:List dH),p= .ptr wb 0∧S.nx≤wb∧gS g=some T∧T.length=g.nodes.length∧bK .i64 S' pv (T.map (·.1))∧iM S' wb plb szb pv nv iv g (kN g) (szL T g.nodes.length)
theorem aHm{S:St}{nv iv:AV}{g:aR}(H:Has fns)(hn:aH 6 bP S nv g.nodes)(hi:aH 2 cA S iv g.infos)(hln:g.nodes.length≤100000):
  gH fns (.fn 68 [] []) [.agg [.int .i64 g.players,nv,iv]] S fun r S'=>Same S S'∧∃p,r= .tup [p,.int .i64 (cP g)]∧(cP g=0→aMb S S' p nv iv g):=by
 refine cI H.f68 (by simp) ?_;simp only[↓sU,sD,rE,↓reduceIte,rA];refine bQ ?_;refine cM (by simp only[↓sU,sD,rE,↓reduceIte,rA];exact bB _) ?_;intro S1 s1 n1 c1;simp only[↓sU,sD,rE,↓reduceIte,rA];refine bQ ?_;simp only[↓sU,sD,rE,↓reduceIte,rA,fR c1];refine bG ?_;simp only[↓sU,sD,rE,↓reduceIte,rA];refine aX (aFm H (aH.same (E:=bP) bF hn s1) (aH.same (E:=cA) bO hi s1) hln) ?_;rintro _ X ⟨pv,rfl,hX,hP⟩;simp only[↓sU,sD,rE,↓reduceIte,rA,uW,vE];refine gC ?_;simp only[↓sU,sD,rE,↓reduceIte,rA];by_cases h0:cP g=0;rotate_left
 ·refine aO (by simp only[↓sU,sD,rE,↓reduceIte,rA,Ac (show cP g≠0 from h0)]) ?_;refine bQ ?_;simp only[↓sU,sD,rE,↓reduceIte,rA];refine aS ?_;simp only[↓sU,sD,rE,↓reduceIte,rA];exact⟨s1.trans hX,_,rfl,fun h=>absurd h h0⟩
 refine aN (by simp only[↓sU,sD,rE,↓reduceIte,rA,Aa (show ¬cP g≠0 from fun h=>h h0)]) (aI ?_);try simp only[↓sU,sD,rE,↓reduceIte,rA]
 obtain⟨T,hT,hTl,hpv⟩:=hP.2 h0;have hwf:=qG (show fO g.nodes.length (dU g) (g.nodes.length+1) 0 (-1) 0=some T from hT);have sX:=s1.trans hX;have lgX:S.nx<X.nx:=by have:=hX.1;omega
 have cX:X.h.get S.nx=some (.cells [.int .i64 g.players,nv,iv] false 0):=by rw[hX.2 _ (by omega)];exact c1
 have sn:=aH.self hn;have si:=aH.self hi;have sg:=sF (cS .i64 g.players) sn si;refine bQ ?_;simp only[↓sU,sD,rE,↓reduceIte,rA,aC,aD,eY cX,hn.len];refine aA (sL (fun _=>False) ?_);intro X1 x1 hx1 hm1;have hbd:∀ (F:Fr) (h:Ev.T AB) (x y:AV),aB 22 F= .agg [.int .i64 g.players,nv,iv]→aB 23 F=pv→aB 25 F=x→aB 27 F=y→x.cells=some [x]→y.cells=some [y]→fV (.build [.int .i64 0,.nilsl,.nilsl,.nilsl,.nilsl,.nilsl] [(0,3,.t 22),(3,1,.t 23),(4,1,.t 25),(5,1,.t 27)]) F h=some (.agg [.int .i64 g.players,nv,iv,pv,x,y]):=fun F h x y h1 h2 h3 h4 h5 h6=>by
  show(aZ (eS _ (eB F [(0,3,.t 22),(3,1,.t 23),(4,1,.t 25),(5,1,.t 27)])) fun cs=>some (AV.agg cs))=_;simp only[eB,show(cL.t 22).val F= .agg [.int .i64 g.players,nv,iv] from h1,show(cL.t 23).val F=pv from h2,show(cL.t 25).val F=x from h3,show(cL.t 27).val F=y from h4,eS,bK.cells hpv,h5,h6,bB,aK];rfl
 simp only[↓sU,sD,rE,↓reduceIte,rA,aC,aU,aD,fR cX,lgX,Al,sg];refine oI (n:=g.nodes.length) (by simp only[↓sU,sD,rE,↓reduceIte,rA,aG]) (by simp only[↓sU,sD,rE,↓reduceIte,rA,aG]) (by unfold room;omega) (by unfold room;omega) ?_;simp only[↓sU,sD,rE,↓reduceIte,rA];refine oI (n:=g.nodes.length) (by simp only[↓sU,sD,rE,↓reduceIte,rA,aG]) (by simp only[↓sU,sD,rE,↓reduceIte,rA,aG]) (by unfold room;omega) (by unfold room;omega) ?_;have hbd':=fun(F:Fr) (h:Ev.T AB) h1 h2 h3 h4=>hbd F h (.sl (X.nx+3) 0 g.nodes.length g.nodes.length false) (.sl (X.nx+5) 0 g.nodes.length g.nodes.length false) h1 h2 h3 h4 rfl rfl;simp only[↓sU,sD,rE,↓reduceIte,rA,kK,hbd'];refine aJh (cs:=[.int .i64 g.players,nv,iv,pv,.sl (X.nx+3) 0 g.nodes.length g.nodes.length false,.sl (X.nx+5) 0 g.nodes.length g.nodes.length false]) (by simp only[↓sU,sD,rE,↓reduceIte,rA];exact bB _) ?_;simp only[↓sU,sD,rE,↓reduceIte,rA];rw[pG,eT (show Nat.testBit (2 ^ 9 - 1) 7=true by decide),eT (show Nat.testBit (2 ^ 9 - 1) 5=true by decide),eT (show Nat.testBit (2 ^ 9 - 1) 3=true by decide),bE];refine aJz (P:=fun h'=>iH fns _ _ ⟨h',X1.nx⟩ _) (by omega) (by omega) (by omega) ?_;intro Zh gw g5 g3 gr;have hm1:X1.nx=X.nx+9:=hm1;have sZ:Same S ⟨Zh,X1.nx⟩:=⟨by show S.nx≤X1.nx;have:=sX.1;omega,fun c hc=>by
  have:=sX.1;show Zh.get c=S.h.get c;rw[gr c (by omega) (by omega) (by omega),hx1];exact sX.2 c hc⟩
 have cZ:Zh.get S.nx=some (.cells [.int .i64 g.players,nv,iv] false 0):=by
  rw[gr _ (by omega) (by omega) (by omega),hx1];exact cX
 have hB:iM ⟨Zh,X1.nx⟩ (X.nx+7) (X.nx+3) (X.nx+5) pv nv iv g (List.replicate g.nodes.length 0) (List.replicate g.nodes.length 0):=⟨⟨gw,by show X.nx+7<X1.nx;omega⟩,g3,g5,Ar ..,Ar ..,by show _<X1.nx;omega,by show _<X1.nx;omega⟩;have sXZ:Same X ⟨Zh,X1.nx⟩:=⟨by show X.nx≤X1.nx;omega,fun c hc=>by
  show Zh.get c=X.h.get c;rw[gr c (by omega) (by omega) (by omega),hx1]⟩
 have lwS:=sX.1;generalize hZ:(⟨Zh,X1.nx⟩:St)=Z0 at *;have cZ:Z0.h.get S.nx=some (.cells [.int .i64 g.players,nv,iv] false 0):=by rw[←hZ];exact cZ
 have lgZ:S.nx<Z0.nx:=Ae lgX sXZ.1;have n73:X.nx+7≠X.nx+3:=by omega
 have n75:X.nx+7≠X.nx+5:=by omega
 have n35:X.nx+3≠X.nx+5:=by omega
 have ng3:S.nx≠X.nx+3:=by omega
 have ng5:S.nx≠X.nx+5:=by omega
 have l3:S.nx≤X.nx+3:=by omega
 have l5:S.nx≤X.nx+5:=by omega
 have l7:S.nx≤X.nx+7:=by omega
 have lx3:X.nx≤X.nx+3:=by omega
 have lx5:X.nx≤X.nx+5:=by omega
 generalize hb7:X.nx+7=wb at *;generalize hb3:X.nx+3=plb at *;generalize hb5:X.nx+5=szb at *;have hcr:∀i,i<g.nodes.length→∀c∈dU g i,(i:Int)<c∧c<((g.nodes.length:Nat):Int):=fun i hi c hc=>by
  have:=hwf.cf i (by omega) c (by rw[Ao];exact hc);omega
 have hpr:∀i,0<i→i<g.nodes.length→∃q:Nat,q<i∧(T.map (·.1)).getD i 0=(q:Int):=fun i h1 h2=>by
  obtain⟨q,a,b,_⟩:=hwf.pf i h1 (by omega);refine⟨q,a,?_⟩;rw[Ad,Aq];unfold lF at b;rw[b,Ao];rfl
 have hN:g.nodes.length≤100000:=hln;have w0:IntKind.i64.wrap (((g.nodes.length:Nat):Int) - 1)=((g.nodes.length:Nat):Int) - 1:=wrap_i64 (by omega) (by omega);refine aA (aY (Q:=fun o A' Y=>o= .normal∧aOr Z0 S.nx wb plb szb pv nv iv g T 0 A' Y) (aA (aJ ?_)) ?_)
 ·simp only[↓aF,aE,rE,↓reduceIte,rA,w0];refine aL (bL (aOr Z0 S.nx wb plb szb pv nv iv g T) ?_ g.nodes.length _ _ ⟨rfl,qJ.refl _ _ _ _,_,_,hB,Ah _,rfl,rfl,by refine⟨?_,?_,?_,?_⟩<;>simp only[↓aF,aE,rE,↓reduceIte,rA]⟩);rintro k ⟨F,inr⟩ Y ⟨q0,hY,R,Z,hB,hkN,hpl,hsz,p1,p4,p7,p8⟩;simp only at q0 p1 p4 p7 p8;subst q0;refine gC ?_;simp only[↓aF,aE,rE,↓reduceIte,rA,p8];by_cases hk:0<k
  ·refine aO (by simp only[↓aF,aE,rE,↓reduceIte,rA,Ac (show(0:Int)≤(k:Int) - 1 by omega)]) (aI ?_);try simp only[↓aF,aE,rE,↓reduceIte,rA]
   obtain⟨i,rfl⟩:∃i,k=i+1:=⟨k - 1,by omega⟩;have e1:(((i+1:Nat):Int)) - 1=(i:Int):=by omega
   rw[e1] at p8;have hlt:i<g.nodes.length:=by omega
   have hia:=dT (b:=szb) (o:=false) hlt;have hltZ:i<Z.length:=by rw[hB.lz];exact hlt
   have hz0:=eE (p:=i) (x:=.int .i64 (Z.getD i 0)) hB.gz (by unfold aP;rw[Aq,Ab hltZ,Ad,Ab hltZ];rfl);refine aA (aL (aA (aJ ?_)));simp only[↓aF,aE,rE,↓reduceIte,rA,p7,p8,bJ,bI,aC,aD,dM hB.w.1,aG,hia,hz0];refine fJ (fun call=>by simp only[↓aF,aE,rE,↓reduceIte,rA,dN,cO];exact qL (S:=Y) hB.gz hltZ) ?_;simp only[↓aF,aE,rE,↓reduceIte,rA];have hS:szS T i Z=if 0<i then(Z.set i (IntKind.i64.wrap (Z.getD i 0+1))).set ((T.map fun t:dH=>t.1).getD i 0).toNat (IntKind.i64.wrap ((Z.set i (IntKind.i64.wrap (Z.getD i 0+1))).getD ((T.map fun t:dH=>t.1).getD i 0).toNat 0+(Z.set i (IntKind.i64.wrap (Z.getD i 0+1))).getD i 0)) else Z.set i (IntKind.i64.wrap (Z.getD i 0+1)):=rfl;have hsz:szG T i (szS T i Z)=szL T g.nodes.length:=hsz;generalize szS T i Z=ZS at hS hsz;have hB1:=hB.setZ (Z':=Z.set i (IntKind.i64.wrap (Z.getD i 0+1))) n75 n35 (Ah _) (by rw[Ap];exact hB.lz);have hY1:=hY.put (b:=szb) (v:=some (.cells (aP (Z.set i (IntKind.i64.wrap (Z.getD i 0+1)))) false 0)) (.inr rfl) (Ah Y.nx);generalize (⟨Y.h.set szb (some (.cells (aP (Z.set i (IntKind.i64.wrap (Z.getD i 0+1)))) false 0)),Y.nx⟩:St)=Y1 at *;generalize Z.set i (IntKind.i64.wrap (Z.getD i 0+1))=Z1 at *;clear hz0 hltZ hB hY;have sXY:Same X Y1:=hY1.same sXZ lx3 lx5 lx5;have hltZ:i<Z1.length:=by rw[hB1.lz];exact hlt
   have ldz:∀j,j<g.nodes.length→eH (.ptr szb j) false 1 Y1.h=some (.int .i64 (Z1.getD j 0)):=fun j hj=>eE hB1.gz (by
    have hj':j<Z1.length:=by rw[hB1.lz];exact hj
    unfold aP;rw[Aq,Ab hj',Ad,Ab hj'];rfl)
   refine aA (aY (Q:=fun o A' Y'=>o= .normal∧A'.inr=false∧qJ plb szb szb Z0 Y'∧iM Y' wb plb szb pv nv iv g R ZS∧aB 1 A'.F= .ptr S.nx 0∧aB 4 A'.F=pv∧aB 7 A'.F= .ptr wb 0∧aB 8 A'.F= .int .i64 (i:Int)) (aA (aJ ?_)) ?_)
   ·simp only[↓aF,aE,rE,↓reduceIte,rA,p8];by_cases hi0:0<i
    ·refine aO (by simp only[↓aF,aE,rE,↓reduceIte,rA,Ac (show(0:Int)<(i:Int) by omega)]) ?_;obtain⟨q,hq,hqv⟩:=hpr i hi0 hlt;have hltP:i<(T.map (·.1)).length:=by rw[Aj];omega
     have iap:=(hpv.same sXY).iaddr hltP;have lap:=(hpv.same sXY).ld hltP;rw[hqv] at lap;have hiq:=dT (b:=szb) (N:=g.nodes.length) (o:=false) (show q<g.nodes.length by omega);have lq:=ldz q (by omega);have li:=ldz i hlt;rw[if_pos hi0,hqv,Ba] at hS;subst hS;refine aFM (pre:=aMS) (K:=19) (m:=524287) (n:=1) (x:=.t 65) (v:=.t 64) rfl rfl rfl rfl ?_;unfold aMS;simp only[↓aF,aE,rE,↓reduceIte,rA,p4,p7,p8,bJ,bX,bI,aC,aU,aD,dM hB1.w.1,aG,iap,lap,hiq,lq,hia,li];simp only[cO,aK];exact⟨_,qL (S:=⟨Y1.h,Y1.nx+20⟩) hB1.gz (by rw[hB1.lz];omega),hY1.put (.inr rfl) (Av _ _),hB1.setZ n75 n35 (Av _ _) (by rw[Ap];exact hB1.lz),p1⟩
    ·refine aN (by simp only[↓aF,aE,rE,↓reduceIte,rA,Aa (show ¬ (0:Int)<(i:Int) by omega)]) (aI ?_);try simp only[↓aF,aE,rE,↓reduceIte,rA]
     rw[if_neg hi0] at hS;subst hS;exact⟨hY1,hB1,by refine⟨?_,?_,?_,?_⟩<;>simp only[↓aF,aE,rE,↓reduceIte,rA,p1,p4,p7,p8]⟩
   clear p1 p4 p7 p8 ldz hltZ hY1 hB1 sXY;rintro o ⟨F,inr⟩ Y2 ⟨rfl,q0,hY2,hB2,p1,p4,p7,p8⟩;simp only at q0 p1 p4 p7 p8;subst q0;try simp only[↓aF,aE,rE,↓reduceIte,rA]
   have sSY:Same S Y2:=hY2.same sZ l3 l5 l5;have cY:Y2.h.get S.nx=some (.cells [.int .i64 g.players,nv,iv] false 0):=by rw[hY2.2 _ lgZ ng3 ng5 ng5];exact cZ
   obtain⟨x,hx⟩:∃x,g.nodes[i]? =some x:=⟨_,Ab hlt⟩;have hnx:=yL hx;obtain⟨e,b,q,hian,hb,he,⟨a,bb,cc,rfl,ha,_,_⟩,_,hlf⟩:=aH.at hn (by decide) hx;have hl3:=hlf 3 a rfl;rw[←jJ sSY hb] at hl3;have hcx:=hcr i hlt;rw[hnx] at hcx;have hpl:aCe g i (aBL x.next 0 R)=kN g:=by rw[←hnx];exact hpl
   have hxl:x.next.length≤100000:=by
    have hinc:=hwf.inc i (by omega);rw[Ao,hnx] at hinc;have:=aIb (lo:=0) hinc fun c hc=>⟨by have:=(hcx c hc).1;omega,(hcx c hc).2⟩;omega
   refine bQ ?_;simp only[↓aF,aE,rE,↓reduceIte,rA,p1,p8,aC,aD,eY cY,aG,hian,hl3,ha.len,Ag];refine aY (Q:=fun o A' Y'=>o= .normal∧aPv Z0 S.nx wb plb szb pv nv iv a g i x.next ZS 0 A' Y') ?_ ?_
   ·refine aL (bL (aPv Z0 S.nx wb plb szb pv nv iv a g i x.next ZS) ?_ x.next.length _ _ ⟨rfl,hY2,0,R,hB2,by omega,hpl,by refine⟨?_,?_,?_,?_,?_,?_,?_⟩<;>simp only[↓aF,aE,rE,↓reduceIte,rA,p1,p4,p7,p8]⟩);clear p1 p4 p7 p8 hpl cY hian hb hl3 hlf hB2 hY2 sSY;rintro k ⟨F,inr⟩ W ⟨q0,hW,j,R,hB,hjk,hpl,p1,p4,p7,p8,p71,p72,p73⟩;simp only at q0 p1 p4 p7 p8 p71 p72 p73;subst q0;refine bQ ?_;simp only[↓aF,aE,rE,↓reduceIte,rA,p72,p73];by_cases hj:j<x.next.length
    ·refine aA (aO (by simp only[↓aF,aE,rE,↓reduceIte,rA,Ac (show(j:Int)<((x.next.length:Nat):Int) by omega)]) (aI ?_));try simp only[↓aF,aE,rE,↓reduceIte,rA]
     have sSW:Same S W:=hW.same sZ l3 l5 l5;have haW:=ha.same sSW;have iaj:=haW.iaddr hj;have laj:=haW.ld hj;have hdr:x.next.drop j=x.next[j]::x.next.drop (j+1):=Bt hj;have hgd:x.next.getD j 0=x.next[j]:=by rw[Ad,Ab hj];rfl
     rw[hgd] at laj;rw[hdr] at hpl;obtain⟨c0,c1'⟩:=hcx _ (Bo hj);generalize x.next[j]=c at *;obtain⟨m,rfl⟩:∃m:Nat,c=(m:Int):=⟨c.toNat,by omega⟩;have hm:m<g.nodes.length:=by omega
     have hiam:=dT (b:=plb) (o:=false) hm;have w1:IntKind.i64.wrap ((j:Int)+1)=((j+1:Nat):Int):=by rw[wrap_i64 (by omega) (by omega)];omega
     refine aA (aL (aA (aJ ?_)));simp only[↓aF,aE,rE,↓reduceIte,rA,p71,p73,aG,iaj,laj];refine aJ ?_;simp only[↓aF,aE,rE,↓reduceIte,rA,p7,bJ,bI,aC,aD,dC hB.w.1,aG,hiam];refine fJ (fun call=>by simp only[↓aF,aE,rE,↓reduceIte,rA,dN,cO];exact qL (S:=W) hB.gp (by rw[hB.lp];exact hm)) ?_;simp only[↓aF,aE,rE,↓reduceIte,rA];refine aJ ?_;simp only[↓aF,aE,rE,↓reduceIte,rA,p73,w1];simp only[aBL,Ba] at hpl;exact⟨k - 1,by omega,rfl,hW.put (.inl rfl) (Ah _),j+1,R.set m (j:Int),hB.setP n73 n35 (Ah _) (by rw[Ap];exact hB.lp),by omega,hpl,by refine⟨?_,?_,?_,?_,?_,?_,?_⟩<;>simp only[↓aF,aE,rE,↓reduceIte,rA,p1,p4,p7,p8,p71,p72]⟩
    ·refine aA (aN (by simp only[↓aF,aE,rE,↓reduceIte,rA,Aa (show ¬ (j:Int)<((x.next.length:Nat):Int) by omega)]) (bM ?_));simp only[↓aF,aE,rE,↓reduceIte,rA];have hk0:k=0:=by omega
     subst hk0;exact⟨rfl,hW,j,R,hB,hjk,hpl,by refine⟨?_,?_,?_,?_,?_,?_,?_⟩<;>simp only[↓aF,aE,rE,↓reduceIte,rA,p1,p4,p7,p8,p71,p72,p73]⟩
   clear p1 p4 p7 p8;rintro o ⟨F,inr⟩ W ⟨rfl,q0,hW,j,R3,hB3,hjk,hpl3,p1,p4,p7,p8,p71,p72,p73⟩;simp only at q0 p1 p4 p7 p8;subst q0;rw[Ch (by omega)] at hpl3;have w2:IntKind.i64.wrap ((i:Int) - 1)=(i:Int) - 1:=wrap_i64 (by omega) (by omega);try simp only[↓aF,aE,rE,↓reduceIte,rA]
   refine aJ ?_;simp only[↓aF,aE,rE,↓reduceIte,rA,p8,w2];exact⟨i,by omega,rfl,hW,R3,ZS,hB3,by omega,hpl3,hsz,by refine⟨?_,?_,?_,?_⟩<;>simp only[↓aF,aE,rE,↓reduceIte,rA,p1,p4,p7]⟩
  ·refine aN (by simp only[↓aF,aE,rE,↓reduceIte,rA,Aa (show ¬ (0:Int)≤(k:Int) - 1 by omega)]) (bM ?_);simp only[↓aF,aE,rE,↓reduceIte,rA];have hk0:k=0:=by omega
   subst hk0;exact⟨rfl,hY,R,Z,hB,hkN,hpl,hsz,by refine⟨?_,?_,?_,?_⟩<;>simp only[↓aF,aE,rE,↓reduceIte,rA,p1,p4,p7,p8]⟩
 rintro o ⟨F,inr⟩ Y ⟨rfl,q0,hY,R,Z,hB,hkN,hpl,hsz,p1,p4,p7,p8⟩;simp only at q0 p7;subst q0;have hpl:R=kN g:=hpl;subst hpl;have hsz:Z=szL T g.nodes.length:=hsz;subst hsz;try simp only[↓aF,aE,rE,↓reduceIte,rA]
 refine bQ ?_;simp only[↓aF,aE,rE,↓reduceIte,rA,p7];refine aS ?_;simp only[↓aF,aE,rE,↓reduceIte,rA];rw[h0];have sXY:Same X Y:=hY.same sXZ lx3 lx5 lx5;exact⟨sX.trans sXY,_,rfl,fun _=>⟨wb,plb,szb,pv,T,rfl,l7,hT,hTl,hpv.same sXY,hB⟩⟩
theorem aAw{S:St}{nv iv:AV}{g:aR}(H:Has fns)(hn:aH 6 bP S nv g.nodes)(hi:aH 2 cA S iv g.infos)(hln:g.nodes.length≤100000):
  gH fns (.fn 68 [] []) [.agg [.int .i64 g.players,nv,iv]] S fun r S'=>Same S S'∧∃p,r= .tup [p,.int .i64 (cP g)]∧(cP g=0→aOb S S' p nv iv g):=by
 refine aX (aHm H hn hi hln) fun r S' h=>?_;obtain⟨h1,p,h2,h3⟩:=h;refine⟨h1,p,h2,fun h0=>?_⟩;obtain⟨wb,plb,szb,pv,T,a,b,c,d,e,f⟩:=h3 h0;exact⟨wb,plb,szb,pv,T,_,a,b,c,d,e,f⟩
def aBN(m:List Int):Prop:=∃i k,k<i∧i<m.length∧m.getD i 0=m.getD k 0
open Classical in
noncomputable def iN(n:Nat)(m:List Int)(ok:Prop):Int:=if m.length≠n then 10 else if ¬vC m n then 2 else if aBN m then 8 else if ok then 0 else 3
def CkR(S1:St)(gb:Nat)(mv:AV)(n:Nat)(m:List Int)(k:Nat)(A:bH)(X:St):Prop:=A.inr=false∧Same S1 X∧∃i,i+k=n∧(∀j,j<i→0≤m.getD j 0∧m.getD j 0<n)∧aB 1 A.F=mv∧aB 2 A.F= .ptr gb 0∧aB 5 A.F= .int .i64 (n:Int)∧aB 6 A.F= .int .i64 (i:Int)
def CkD(S1:St)(gb:Nat)(mv:AV)(n:Nat)(m:List Int)(k:Nat)(A:bH)(X:St):Prop:=A.inr=false∧Same S1 X∧∃i,i+k=n∧(∀j l,l<j→j<i→m.getD j 0≠m.getD l 0)∧aB 1 A.F=mv∧aB 2 A.F= .ptr gb 0∧aB 5 A.F= .int .i64 (n:Int)∧aB 7 A.F= .int .i64 (i:Int)
def CkE(S1:St)(gb:Nat)(mv:AV)(n i:Nat)(m:List Int)(k:Nat)(A:bH)(X:St):Prop:=A.inr=false∧Same S1 X∧∃l,l+k=i∧(∀j,j<l→m.getD i 0≠m.getD j 0)∧aB 1 A.F=mv∧aB 2 A.F= .ptr gb 0∧aB 5 A.F= .int .i64 (n:Int)∧aB 7 A.F= .int .i64 (i:Int)∧aB 8 A.F= .int .i64 (l:Int)
theorem aBj{S:St}{nv iv mv:AV}{g:aR}{m:List Int}{ok:Prop}(H:Has fns)(hn:aH 6 bP S nv g.nodes)(hm:bK .i64 S mv m)(hln:g.nodes.length≤100000)
  (himg:m.length=g.nodes.length→vC m g.nodes.length→¬aBN m→∀S',Same S S'→gH fns (.fn 72 [] []) [.agg [.int .i64 g.players,nv,iv],mv] S' fun r S''=>Same S' S''∧∃a b t,r= .tup [a,b,.bool t]∧(t=true↔ok)):
  gH fns (.fn 73 [] []) [.agg [.int .i64 g.players,nv,iv],mv] S fun r S'=>r= .int .i64 (iN g.nodes.length m ok)∧Same S S':=by
 refine cI H.f73 (by simp) ?_;simp only[↓sU,sD,rE,↓reduceIte,rA];refine bQ ?_;refine cM (by simp only[↓sU,sD,rE,↓reduceIte,rA];exact bB _) ?_;intro S1 s1 n1 c1;simp only[↓sU,sD,rE,↓reduceIte,rA];have lg1:S.nx<S1.nx:=by omega
 refine bQ ?_;simp only[↓sU,sD,rE,↓reduceIte,rA,aC,aD,eY c1,hn.len];refine gC ?_;simp only[↓sU,sD,rE,↓reduceIte,rA,hm.len,Ag];by_cases hlen:m.length=g.nodes.length;rotate_left
 ·refine aO (by simp only[↓sU,sD,rE,↓reduceIte,rA,Ac (show((m.length:Nat):Int)≠((g.nodes.length:Nat):Int) by omega)]) ?_;refine bQ ?_;simp only[↓sU,sD,rE,↓reduceIte,rA];refine aS ?_;simp only[↓sU,sD,rE,↓reduceIte,rA];unfold iN;rw[if_pos hlen];exact⟨rfl,s1⟩
 refine aN (by simp only[↓sU,sD,rE,↓reduceIte,rA,Aa (show ¬ ((m.length:Nat):Int)≠((g.nodes.length:Nat):Int) by omega)]) (aI ?_);try simp only[↓sU,sD,rE,↓reduceIte,rA]
 unfold iN;rw[if_neg (fun h=>h hlen)];refine aA (aY (Q:=fun o A' X=>(o= .normal∧CkR S1 S.nx mv g.nodes.length m 0 A' X)∨(o= .ret∧Same S1 X∧¬vC m g.nodes.length∧aB 4 A'.F= .int .i64 2)) (aA (aJ ?_)) ?_)
 ·simp only[↓aF,aE,rE,↓reduceIte,rA];refine aL (bL (CkR S1 S.nx mv g.nodes.length m) ?_ g.nodes.length _ _ ⟨rfl,Same.refl _,0,by omega,fun j hj=>by omega,by refine⟨?_,?_,?_,?_⟩<;>simp only[↓aF,aE,rE,↓reduceIte,rA]⟩);rintro k ⟨F,inr⟩ X ⟨q0,hX,i,hik,hr,p1,p2,p5,p6⟩;simp only at q0 p1 p2 p5 p6;subst q0;refine gC ?_;simp only[↓aF,aE,rE,↓reduceIte,rA,p5,p6];by_cases hlt:i<g.nodes.length
  ·refine aO (by simp only[↓aF,aE,rE,↓reduceIte,rA,Ac (show(i:Int)<((g.nodes.length:Nat):Int) by omega)]) (aI ?_);try simp only[↓aF,aE,rE,↓reduceIte,rA]
   have hmX:=hm.same (s1.trans hX);have ia:=hmX.iaddr (show i<m.length by omega);have la:=hmX.ld (show i<m.length by omega);have hmem:m.getD i 0∈m:=by rw[Ad,Ab (show i<m.length by omega)];exact Bo _
   have w1:IntKind.i64.wrap ((i:Int)+1)=((i+1:Nat):Int):=by rw[wrap_i64 (by omega) (by omega)];omega
   refine aA (aL (aA (aY (Q:=fun o A' Y=>o= .normal∧A'.inr=false∧Y=X∧aB 1 A'.F=mv∧aB 2 A'.F= .ptr S.nx 0∧aB 5 A'.F= .int .i64 ((g.nodes.length:Nat):Int)∧aB 6 A'.F= .int .i64 (i:Int)∧aB 36 A'.F= .bool (decide (m.getD i 0<0∨((g.nodes.length:Nat):Int)≤m.getD i 0))) (aJ ?_) ?_)))
   ·by_cases h1:m.getD i 0<0
    ·rw[Ac (show m.getD i 0<0∨((g.nodes.length:Nat):Int)≤m.getD i 0 from .inl h1)];simp only[↓aF,aE,rE,↓reduceIte,rA,p1,p2,p5,p6,aG,ia,la,Ac h1]
    ·by_cases h2:((g.nodes.length:Nat):Int)≤m.getD i 0
     ·rw[Ac (show m.getD i 0<0∨((g.nodes.length:Nat):Int)≤m.getD i 0 from .inr h2)];simp only[↓aF,aE,rE,↓reduceIte,rA,p1,p2,p5,p6,aG,ia,la,Aa h1,Ac h2]
     ·rw[Aa (show ¬ (m.getD i 0<0∨((g.nodes.length:Nat):Int)≤m.getD i 0) by omega)];simp only[↓aF,aE,rE,↓reduceIte,rA,p1,p2,p5,p6,aG,ia,la,Aa h1,Aa h2]
   clear p1 p2 p5 p6;rintro o ⟨F,inr⟩ Y ⟨rfl,q0,hYX,p1,p2,p5,p6,pb⟩;simp only at q0 p1 p2 p5 p6 pb;subst q0;rw[hYX];try simp only[↓aF,aE,rE,↓reduceIte,rA]
   by_cases hbad:m.getD i 0<0∨((g.nodes.length:Nat):Int)≤m.getD i 0
   ·refine aO (by simp only[↓aF,aE,rE,↓reduceIte,rA,pb,Ac hbad]) ?_;refine bQ ?_;simp only[↓aF,aE,rE,↓reduceIte,rA];refine aS ?_;simp only[↓aF,aE,rE,↓reduceIte,rA];exact .inr ⟨hX,fun h=>by have:=h _ hmem;omega⟩
   ·refine aN (by simp only[↓aF,aE,rE,↓reduceIte,rA,pb,Aa hbad]) (aI ?_);try simp only[↓aF,aE,rE,↓reduceIte,rA]
    refine aJ ?_;simp only[↓aF,aE,rE,↓reduceIte,rA,p6,w1];refine⟨k - 1,by omega,rfl,hX,i+1,by omega,fun j hj=>?_,by refine⟨?_,?_,?_,?_⟩<;>simp only[↓aF,aE,rE,↓reduceIte,rA,p1,p2,p5]⟩;by_cases hji:j=i
    ·rw[hji];omega
    ·exact hr j (by omega)
  ·refine aN (by simp only[↓aF,aE,rE,↓reduceIte,rA,Aa (show ¬ (i:Int)<((g.nodes.length:Nat):Int) by omega)]) (bM ?_);simp only[↓aF,aE,rE,↓reduceIte,rA];have hk0:k=0:=by omega
   subst hk0;exact .inl ⟨rfl,hX,i,hik,hr,by refine⟨?_,?_,?_,?_⟩<;>simp only[↓aF,aE,rE,↓reduceIte,rA,p1,p2,p5,p6]⟩
 rintro o ⟨F,inr⟩ X (⟨rfl,q0,hX,i,hik,hr,p1,p2,p5,p6⟩ | ⟨rfl,hX,hno,p4⟩);rotate_left
 ·simp only at p4;simp only[↓aF,aE,rE,↓reduceIte,rA,p4];rw[if_pos hno];exact⟨rfl,s1.trans hX⟩
 simp only at q0 p1 p2 p5;subst q0;have hin:vC m g.nodes.length:=fun x hx=>by
  obtain⟨j,hj,rfl⟩:=En.1 hx;have:=hr j (by omega);rw[Ad,Ab hj] at this;exact this
 rw[if_neg (fun h=>h hin)];clear p6 hik hr i;try simp only[↓aF,aE,rE,↓reduceIte,rA]
 refine aA (aY (Q:=fun o A' Y=>(o= .normal∧CkD X S.nx mv g.nodes.length m 0 A' Y)∨(o= .ret∧Same X Y∧aBN m∧aB 4 A'.F= .int .i64 8)) (aA (aJ ?_)) ?_)
 ·simp only[↓aF,aE,rE,↓reduceIte,rA];refine aL (bL (CkD X S.nx mv g.nodes.length m) ?_ g.nodes.length _ _ ⟨rfl,Same.refl _,0,by omega,fun j l _ hj=>by omega,by refine⟨?_,?_,?_,?_⟩<;>simp only[↓aF,aE,rE,↓reduceIte,rA,p1,p2,p5]⟩);clear p1 p2 p5;rintro k ⟨F,inr⟩ Y ⟨q0,hY,i,hik,hr,p1,p2,p5,p7⟩;simp only at q0 p1 p2 p5 p7;subst q0;refine gC ?_;simp only[↓aF,aE,rE,↓reduceIte,rA,p5,p7];by_cases hlt:i<g.nodes.length
  ·refine aO (by simp only[↓aF,aE,rE,↓reduceIte,rA,Ac (show(i:Int)<((g.nodes.length:Nat):Int) by omega)]) (aI ?_);try simp only[↓aF,aE,rE,↓reduceIte,rA]
   have w1:IntKind.i64.wrap ((i:Int)+1)=((i+1:Nat):Int):=by rw[wrap_i64 (by omega) (by omega)];omega
   refine aA (aL (aA (aJ ?_)));simp only[↓aF,aE,rE,↓reduceIte,rA];refine aY (Q:=fun o A' W=>(o= .normal∧CkE Y S.nx mv g.nodes.length i m 0 A' W)∨(o= .ret∧Same Y W∧aBN m∧aB 4 A'.F= .int .i64 8)) (aL (bL (CkE Y S.nx mv g.nodes.length i m) ?_ i _ _ ⟨rfl,Same.refl _,0,by omega,fun j hj=>by omega,by refine⟨?_,?_,?_,?_,?_⟩<;>simp only[↓aF,aE,rE,↓reduceIte,rA,p1,p2,p5,p7]⟩)) ?_
   ·clear p1 p2 p5 p7;rintro k ⟨F,inr⟩ W ⟨q0,hW,l,hlk,hd,p1,p2,p5,p7,p8⟩;simp only at q0 p1 p2 p5 p7 p8;subst q0;refine gC ?_;simp only[↓aF,aE,rE,↓reduceIte,rA,p7,p8];by_cases hl:l<i
    ·refine aO (by simp only[↓aF,aE,rE,↓reduceIte,rA,Ac (show(l:Int)<(i:Int) by omega)]) (aI ?_);try simp only[↓aF,aE,rE,↓reduceIte,rA]
     have hmW:=hm.same (s1.trans (hX.trans (hY.trans hW)));have ia:=hmW.iaddr (show i<m.length by omega);have la:=hmW.ld (show i<m.length by omega);have ib:=hmW.iaddr (show l<m.length by omega);have lb:=hmW.ld (show l<m.length by omega);have w2:IntKind.i64.wrap ((l:Int)+1)=((l+1:Nat):Int):=by rw[wrap_i64 (by omega) (by omega)];omega
     refine aA (aL (aA (gP ?_)));simp only[↓aF,aE,rE,↓reduceIte,rA,p1,p7,p8,aG,ia,la,ib,lb];by_cases he:m.getD i 0=m.getD l 0
     ·refine aO (by simp only[↓aF,aE,rE,↓reduceIte,rA,Ac he]) ?_;refine bQ ?_;simp only[↓aF,aE,rE,↓reduceIte,rA];refine aS ?_;simp only[↓aF,aE,rE,↓reduceIte,rA];exact .inr ⟨hW.trans (Same.nx _ _),i,l,hl,by omega,he⟩
     ·refine aN (by simp only[↓aF,aE,rE,↓reduceIte,rA,Aa he]) (aI ?_);try simp only[↓aF,aE,rE,↓reduceIte,rA]
      refine aJ ?_;simp only[↓aF,aE,rE,↓reduceIte,rA,p8,w2];refine⟨k - 1,by omega,rfl,hW.trans (Same.nx _ _),l+1,by omega,fun j hj=>?_,by refine⟨?_,?_,?_,?_,?_⟩<;>simp only[↓aF,aE,rE,↓reduceIte,rA,p1,p2,p5,p7]⟩;by_cases hjl:j=l
      ·rw[hjl];exact he
      ·exact hd j (by omega)
    ·refine aN (by simp only[↓aF,aE,rE,↓reduceIte,rA,Aa (show ¬ (l:Int)<(i:Int) by omega)]) (bM ?_);simp only[↓aF,aE,rE,↓reduceIte,rA];have hk0:k=0:=by omega
     subst hk0;exact .inl ⟨rfl,hW,l,hlk,hd,by refine⟨?_,?_,?_,?_,?_⟩<;>simp only[↓aF,aE,rE,↓reduceIte,rA,p1,p2,p5,p7,p8]⟩
   clear p1 p2 p5 p7;rintro o ⟨F,inr⟩ W (⟨rfl,q0,hW,l,hlk,hd,p1,p2,p5,p7,p8⟩ | ⟨rfl,hW,hdup,p4⟩)
   ·simp only at q0 p1 p2 p5 p7;subst q0;try simp only[↓aF,aE,rE,↓reduceIte,rA]
    refine aJ ?_;simp only[↓aF,aE,rE,↓reduceIte,rA,p7,w1];refine⟨k - 1,by omega,rfl,hY.trans hW,i+1,by omega,fun j l' hl' hj=>?_,by refine⟨?_,?_,?_,?_⟩<;>simp only[↓aF,aE,rE,↓reduceIte,rA,p1,p2,p5]⟩;by_cases hji:j=i
    ·rw[hji];exact hd l' (by omega)
    ·exact hr j l' hl' (by omega)
   ·simp only at p4;simp only[↓aF,aE,rE,↓reduceIte,rA];exact .inr ⟨hY.trans hW,hdup,p4⟩
  ·refine aN (by simp only[↓aF,aE,rE,↓reduceIte,rA,Aa (show ¬ (i:Int)<((g.nodes.length:Nat):Int) by omega)]) (bM ?_);simp only[↓aF,aE,rE,↓reduceIte,rA];have hk0:k=0:=by omega
   subst hk0;exact .inl ⟨rfl,hY,i,hik,hr,by refine⟨?_,?_,?_,?_⟩<;>simp only[↓aF,aE,rE,↓reduceIte,rA,p1,p2,p5,p7]⟩
 clear p1 p2 p5;rintro o ⟨F,inr⟩ Y (⟨rfl,q0,hY,i,hik,hr,p1,p2,p5,p7⟩ | ⟨rfl,hY,hdup,p4⟩);rotate_left
 ·simp only at p4;simp only[↓aF,aE,rE,↓reduceIte,rA,p4];rw[if_pos hdup];exact⟨rfl,s1.trans (hX.trans hY)⟩
 simp only at q0 p1 p2;subst q0;have hnd:¬aBN m:=fun⟨i',k',h1,h2,h3⟩=>hr i' k' h1 (by omega) h3;rw[if_neg hnd];have sY:=s1.trans (hX.trans hY);have cY:Y.h.get S.nx=some (.cells [.int .i64 g.players,nv,iv] false 0):=by rw[(hX.trans hY).2 _ lg1];exact c1
 try simp only[↓aF,aE,rE,↓reduceIte,rA]
 refine gC ?_;simp only[↓aF,aE,rE,↓reduceIte,rA,p1,p2,fR cY];refine bG ?_;simp only[↓aF,aE,rE,↓reduceIte,rA];refine aX (himg hlen hin hnd Y sY) ?_;rintro _ Z ⟨hZ,a,b,t,rfl,ht⟩;have ex2:jF (.tup [a,b,.bool t]) 2=some (.bool t):=rfl;simp only[↓aF,aE,rE,↓reduceIte,rA,uW,vE,ex2];refine bQ ?_;simp only[↓aF,aE,rE,↓reduceIte,rA,gE];cases t with
 | false=>
  rw[if_neg (fun h=>by have:=ht.2 h;cases this)];refine aO (by simp only[↓aF,aE,rE,↓reduceIte,rA];rfl) ?_;refine bQ ?_;simp only[↓aF,aE,rE,↓reduceIte,rA];refine aS ?_;simp only[↓aF,aE,rE,↓reduceIte,rA];exact sY.trans hZ
 | true=>
  rw[if_pos (ht.1 rfl)];refine aN (by simp only[↓aF,aE,rE,↓reduceIte,rA];rfl) (aI ?_);try simp only[↓aF,aE,rE,↓reduceIte,rA]
  refine bQ ?_;simp only[↓aF,aE,rE,↓reduceIte,rA];refine aS ?_;simp only[↓aF,aE,rE,↓reduceIte,rA];exact sY.trans hZ
def aPl(S1:St)(mv:AV)(w e:Nat)(n:Nat)(m:List Int)(k:Nat)(A:bH)(X:St):Prop:=A.inr=false∧Same S1 X∧∃i,i+k=m.length∧(∀j,j<i→0≤m.getD j 0∧m.getD j 0<n)∧aB 0 A.F= .ptr w 0∧aB 1 A.F=mv∧aB 4 A.F= .ptr e 0∧aB 6 A.F= .int .i64 (n:Int)∧aB 25 A.F=mv∧aB 26 A.F= .int .i64 ((m.length:Nat):Int)∧aB 27 A.F= .int .i64 (i:Int)
def aPN(X1:St)(mv:AV)(w e sb n:Nat)(m:List Int)(k:Nat)(A:bH)(X:St):Prop:=A.inr=false∧bS sb X1 X∧sb<X.nx∧∃i cs,i+k=m.length∧X.h.get sb=some (.cells cs false 0)∧cs.length=n∧(∀v,v<n→cs[v]? =some (.bool (decide (∃j,j<i∧m.getD j 0=(v:Int)))))∧(∀j l,l<j→j<i→m.getD j 0≠m.getD l 0)∧aB 0 A.F= .ptr w 0∧aB 1 A.F=mv∧aB 4 A.F= .ptr e 0∧aB 9 A.F= .sl sb 0 n n false∧aB 42 A.F=mv∧aB 43 A.F= .int .i64 ((m.length:Nat):Int)∧aB 44 A.F= .int .i64 (i:Int)
theorem yJ{S:St}{wb:Nat}{nv iv pv plv szv mv:AV}{g:aR}{m:List Int}{ok:Prop}{P:St→St→AV→AV→Prop}(H:Has fns)(hP:∀ {S0 S1 S2:St} {x y:AV},P S0 S1 x y→S1.nx≤S2.nx→(∀c,S0.nx≤c→c<S1.nx→S2.h.get c=S1.h.get c)→P S0 S2 x y)(hW:uP S wb g.players nv iv pv plv szv)(hn:aH 6 bP S nv g.nodes)(hm:bK .i64 S mv m)(hln:g.nodes.length≤100000)
  (himg:m.length=g.nodes.length→vC m g.nodes.length→¬aBN m→∀S',Same S S'→gH fns (.fn 116 [] []) [.ptr wb 0,mv] S' fun r S''=>Same S' S''∧∃x y t,r= .tup [.agg [x,y],.bool t]∧(t=true↔ok)∧(t=true→P S' S'' x y)):
  gH fns (.fn 69 [] []) [.ptr wb 0,mv] S fun r S'=>Same S S'∧∃x y,r= .tup [.agg [x,y],.int .i64 (iN g.nodes.length m ok)]∧(iN g.nodes.length m ok=0→∃S0,S.nx≤S0.nx∧P S0 S' x y)∧(iN g.nodes.length m ok≠0→x= .nilsl∧y= .nilsl):=by
 have hb0:∀ (F:Fr) (h:Ev.T AB),fV (.build [.nilsl,.nilsl] []) F h=some (.agg [.nilsl,.nilsl]):=fun _ _=>rfl;refine cI H.f69 (by simp) ?_;simp only[↓aF,aE,rE,↓reduceIte,rA];refine bQ ?_;refine cH ?_;intro S1 s1 n1 c1;simp only[↓aF,aE,rE,↓reduceIte,rA];have lw:=hW.2;have hW1:=hW.same s1;have le:S.nx<S1.nx:=by omega
 refine bQ ?_;simp only[↓aF,aE,rE,↓reduceIte,rA,bJ,bI,aC,aD,dE hW1.1,hn.len];refine gC ?_;simp only[↓aF,aE,rE,↓reduceIte,rA,hm.len,Ag];by_cases hlen:m.length=g.nodes.length;rotate_left
 ·have hE:iN g.nodes.length m ok=10:=by unfold iN;rw[if_pos hlen]
  rw[hE];refine aO (by simp only[↓aF,aE,rE,↓reduceIte,rA,Ac (show((m.length:Nat):Int)≠((g.nodes.length:Nat):Int) by omega)]) ?_;refine bQ ?_;simp only[↓aF,aE,rE,↓reduceIte,rA,hb0];refine dB (b:=S.nx) (by simp only[↓aF,aE,rE,↓reduceIte,rA]) (by simp only[↓aF,aE,rE,↓reduceIte,rA];exact bB _) c1 rfl rfl ?_;intro S2 s2 n2 c2;simp only[↓aF,aE,rE,↓reduceIte,rA];have ld2:=iA (n:=2) c2 rfl;refine aS ?_;simp only[↓aF,aE,rE,↓reduceIte,rA,dK,ld2];exact⟨s2.same s1 (Ah _),_,_,rfl,fun h=>absurd h (by decide),fun _=>⟨rfl,rfl⟩⟩
 refine aN (by simp only[↓aF,aE,rE,↓reduceIte,rA,Aa (show ¬ ((m.length:Nat):Int)≠((g.nodes.length:Nat):Int) by omega)]) (aI ?_);try simp only[↓aF,aE,rE,↓reduceIte,rA]
 refine aA (aY (Q:=fun o A' X=>(o= .normal∧aPl S1 mv wb S.nx g.nodes.length m 0 A' X)∨(o= .ret∧bS S.nx S1 X∧X.h.get S.nx=some (.cells [.nilsl,.nilsl] false 0)∧¬vC m g.nodes.length∧aB 4 A'.F= .ptr S.nx 0∧aB 5 A'.F= .int .i64 2)) (aA (aJ ?_)) ?_)
 ·simp only[↓aF,aE,rE,↓reduceIte,rA,hm.len,Ag];refine aL (bL (aPl S1 mv wb S.nx g.nodes.length m) ?_ m.length _ _ ⟨rfl,Same.refl _,0,by omega,fun j hj=>by omega,by refine⟨?_,?_,?_,?_,?_,?_,?_⟩<;>simp only[↓aF,aE,rE,↓reduceIte,rA]⟩);rintro k ⟨F,inr⟩ X ⟨q0,hX,i,hik,hr,p0,p1,p4,p6,p25,p26,p27⟩;simp only at q0 p0 p1 p4 p6 p25 p26 p27;subst q0;refine bQ ?_;simp only[↓aF,aE,rE,↓reduceIte,rA,p26,p27];by_cases hlt:i<m.length
  ·refine aA (aO (by simp only[↓aF,aE,rE,↓reduceIte,rA,Ac (show(i:Int)<((m.length:Nat):Int) by omega)]) (aI ?_));try simp only[↓aF,aE,rE,↓reduceIte,rA]
   have hmX:=hm.same (s1.trans hX);have ia:=hmX.iaddr hlt;have la:=hmX.ld hlt;have hmem:m.getD i 0∈m:=by rw[Ad,Ab hlt];exact Bo _
   have cX:X.h.get S.nx=some (.cells [.nilsl,.nilsl] false 0):=by rw[hX.2 _ le];exact c1
   have w1:IntKind.i64.wrap ((i:Int)+1)=((i+1:Nat):Int):=by rw[wrap_i64 (by omega) (by omega)];omega
   refine aA (aL (aA (aJ ?_)));simp only[↓aF,aE,rE,↓reduceIte,rA,p25,p27,aG,ia,la];refine aA (aY (Q:=fun o A' Y=>o= .normal∧A'.inr=false∧Y=X∧aB 0 A'.F= .ptr wb 0∧aB 1 A'.F=mv∧aB 4 A'.F= .ptr S.nx 0∧aB 6 A'.F= .int .i64 ((g.nodes.length:Nat):Int)∧aB 25 A'.F=mv∧aB 26 A'.F= .int .i64 ((m.length:Nat):Int)∧aB 27 A'.F= .int .i64 (i:Int)∧aB 37 A'.F= .bool (decide (m.getD i 0<0∨((g.nodes.length:Nat):Int)≤m.getD i 0))) (aJ ?_) ?_)
   ·by_cases h1:m.getD i 0<0
    ·rw[Ac (show m.getD i 0<0∨((g.nodes.length:Nat):Int)≤m.getD i 0 from .inl h1)];simp only[↓aF,aE,rE,↓reduceIte,rA,p0,p1,p4,p6,p25,p26,p27,Ac h1]
    ·by_cases h2:((g.nodes.length:Nat):Int)≤m.getD i 0
     ·rw[Ac (show m.getD i 0<0∨((g.nodes.length:Nat):Int)≤m.getD i 0 from .inr h2)];simp only[↓aF,aE,rE,↓reduceIte,rA,p0,p1,p4,p6,p25,p26,p27,Aa h1,Ac h2]
     ·rw[Aa (show ¬ (m.getD i 0<0∨((g.nodes.length:Nat):Int)≤m.getD i 0) by omega)];simp only[↓aF,aE,rE,↓reduceIte,rA,p0,p1,p4,p6,p25,p26,p27,Aa h1,Aa h2]
   clear p0 p1 p4 p6 p25 p26 p27;rintro o ⟨F,inr⟩ Y ⟨rfl,q0,hYX,p0,p1,p4,p6,p25,p26,p27,pb⟩;simp only at q0 p0 p1 p4 p6 p25 p26 p27 pb;subst q0;rw[hYX];try simp only[↓aF,aE,rE,↓reduceIte,rA]
   by_cases hbad:m.getD i 0<0∨((g.nodes.length:Nat):Int)≤m.getD i 0
   ·refine aO (by simp only[↓aF,aE,rE,↓reduceIte,rA,pb,Ac hbad]) ?_;refine bQ ?_;simp only[↓aF,aE,rE,↓reduceIte,rA,hb0];refine dB (b:=S.nx) (by simp only[↓aF,aE,rE,↓reduceIte,rA,p4]) (by simp only[↓aF,aE,rE,↓reduceIte,rA];exact bB _) cX rfl rfl ?_;intro X2 x2 m2 d2;simp only[↓aF,aE,rE,↓reduceIte,rA];refine aS ?_;simp only[↓aF,aE,rE,↓reduceIte,rA,p4];exact .inr ⟨⟨Ak hX.1 x2.1,fun c hc hne=>by rw[x2.2 _ (Ae hc hX.1) hne,hX.2 _ hc]⟩,d2,fun h=>by have:=h _ hmem;omega⟩
   ·refine aN (by simp only[↓aF,aE,rE,↓reduceIte,rA,pb,Aa hbad]) (aI ?_);try simp only[↓aF,aE,rE,↓reduceIte,rA]
    refine aJ ?_;simp only[↓aF,aE,rE,↓reduceIte,rA,p27,w1];refine⟨k - 1,by omega,rfl,hX,i+1,by omega,fun j hj=>?_,by refine⟨?_,?_,?_,?_,?_,?_,?_⟩<;>simp only[↓aF,aE,rE,↓reduceIte,rA,p0,p1,p4,p6,p25,p26]⟩;by_cases hji:j=i
    ·rw[hji];omega
    ·exact hr j (by omega)
  ·refine aA (aN (by simp only[↓aF,aE,rE,↓reduceIte,rA,Aa (show ¬ (i:Int)<((m.length:Nat):Int) by omega)]) (bM ?_));simp only[↓aF,aE,rE,↓reduceIte,rA];have hk0:k=0:=by omega
   subst hk0;exact .inl ⟨rfl,hX,i,hik,hr,by refine⟨?_,?_,?_,?_,?_,?_,?_⟩<;>simp only[↓aF,aE,rE,↓reduceIte,rA,p0,p1,p4,p6,p25,p26,p27]⟩
 rintro o ⟨F,inr⟩ X (⟨rfl,q0,hX,i,hik,hr,p0,p1,p4,p6,p25,p26,p27⟩ | ⟨rfl,hX,cX,hno,p4,p5⟩);rotate_left
 ·have hE:iN g.nodes.length m ok=2:=by unfold iN;rw[if_neg (fun h=>h hlen),if_pos hno]
  rw[hE];simp only at p4 p5;have ld2:=iA (n:=2) cX rfl;simp only[↓aF,aE,rE,↓reduceIte,rA,dK,p4,p5,ld2];exact⟨⟨Ak s1.1 hX.1,fun c hc=>by rw[hX.2 _ (Ae hc s1.1) (by omega),s1.2 _ hc]⟩,_,_,rfl,fun h=>absurd h (by decide),fun _=>⟨rfl,rfl⟩⟩
 simp only at q0 p0 p1 p4 p6;subst q0;have hin:vC m g.nodes.length:=fun x hx=>by
  obtain⟨j,hj,rfl⟩:=En.1 hx;have:=hr j (by omega);rw[Ad,Ab hj] at this;exact this
 clear p25 p26 p27 hik hr i;have sX:=s1.trans hX;have leX:S.nx<X.nx:=Ae le hX.1;have cX:X.h.get S.nx=some (.cells [.nilsl,.nilsl] false 0):=by rw[hX.2 _ le];exact c1
 try simp only[↓aF,aE,rE,↓reduceIte,rA]
 refine bQ ?_;simp only[↓aF,aE,rE,↓reduceIte,rA,p6];refine gM (nK (n:=g.nodes.length) (by simp only[↓aF,aE,rE,↓reduceIte,rA,aG]) (by simp only[↓aF,aE,rE,↓reduceIte,rA,aG]) (by unfold room;omega) (by unfold room;omega)) ?_;intro X1 x1 m1 d1;rw[repeatL_one] at d1;simp only[↓aF,aE,rE,↓reduceIte,rA];have sX1:=sX.trans x1;refine aA (aY (Q:=fun o A' Y=>(o= .normal∧aPN X1 mv wb S.nx X.nx g.nodes.length m 0 A' Y)∨(o= .ret∧Same S Y∧Y.h.get S.nx=some (.cells [.nilsl,.nilsl] false 0)∧aBN m∧aB 4 A'.F= .ptr S.nx 0∧aB 5 A'.F= .int .i64 8)) (aA (aJ ?_)) ?_)
 ·simp only[↓aF,aE,rE,↓reduceIte,rA,p1,hm.len,Ag];refine aL (bL (aPN X1 mv wb S.nx X.nx g.nodes.length m) ?_ m.length _ _ ⟨rfl,bS.refl _ _,by omega,0,_,by omega,d1,Ar ..,fun v hv=>?_,fun j l _ hj=>by omega,by refine⟨?_,?_,?_,?_,?_,?_,?_⟩<;>simp only[↓aF,aE,rE,↓reduceIte,rA,p0,p1,p4]⟩);rotate_left
  ·rw[Cn,if_pos hv,Aa (fun⟨j,hj,_⟩=>by omega)]
  clear p0 p1 p4 p6;rintro k ⟨F,inr⟩ Y ⟨q0,hY,hsb,i,cs,hik,hg,hcs,hse,hnd,p0,p1,p4,p9,p42,p43,p44⟩;simp only at q0 p0 p1 p4 p9 p42 p43 p44;subst q0;refine bQ ?_;simp only[↓aF,aE,rE,↓reduceIte,rA,p43,p44];by_cases hlt:i<m.length
  ·refine aA (aO (by simp only[↓aF,aE,rE,↓reduceIte,rA,Ac (show(i:Int)<((m.length:Nat):Int) by omega)]) (aI ?_));try simp only[↓aF,aE,rE,↓reduceIte,rA]
   have lX1:X.nx<X1.nx:=by omega
   have sY:Same S Y:=⟨Ak sX1.1 hY.1,fun c hc=>by rw[hY.2 _ (Ae hc sX1.1) (by omega)];exact sX1.2 _ hc⟩;have cY:Y.h.get S.nx=some (.cells [.nilsl,.nilsl] false 0):=by rw[hY.2 _ (by omega) (by omega),x1.2 _ leX];exact cX
   have hmY:=hm.same sY;have ia:=hmY.iaddr hlt;have la:=hmY.ld hlt;have hmem:m.getD i 0∈m:=by rw[Ad,Ab hlt];exact Bo _
   have w1:IntKind.i64.wrap ((i:Int)+1)=((i+1:Nat):Int):=by rw[wrap_i64 (by omega) (by omega)];omega
   obtain⟨v0,v1⟩:=hin _ hmem;generalize hvv:m.getD i 0=v at *;obtain⟨u,rfl⟩:∃u:Nat,v=(u:Int):=⟨v.toNat,by omega⟩;have hu:u<g.nodes.length:=by omega
   have hia:=dT (b:=X.nx) (o:=false) hu;have hlu:=eE hg (hse u hu);refine aA (aL (aA (aJ ?_)));simp only[↓aF,aE,rE,↓reduceIte,rA,p42,p44,aG,ia,la];refine gC ?_;simp only[↓aF,aE,rE,↓reduceIte,rA,p9,aG,hia,hlu];by_cases hd:∃j,j<i∧m.getD j 0=(u:Int)
   ·refine aO (by simp only[↓aF,aE,rE,↓reduceIte,rA,Ac hd]) ?_;refine bQ ?_;simp only[↓aF,aE,rE,↓reduceIte,rA,hb0];refine dB (b:=S.nx) (by simp only[↓aF,aE,rE,↓reduceIte,rA,p4]) (by simp only[↓aF,aE,rE,↓reduceIte,rA];exact bB _) cY rfl rfl ?_;intro X2 x2 m2 d2;simp only[↓aF,aE,rE,↓reduceIte,rA];refine aS ?_;simp only[↓aF,aE,rE,↓reduceIte,rA,p4];obtain⟨j,hj,hjv⟩:=hd;exact .inr ⟨⟨Ak sY.1 x2.1,fun c hc=>by rw[x2.2 _ (Ae hc sY.1) (by omega),sY.2 _ hc]⟩,d2,i,j,hj,hlt,by rw[hvv,hjv]⟩
   ·refine aN (by simp only[↓aF,aE,rE,↓reduceIte,rA,Aa hd]) (aI ?_);try simp only[↓aF,aE,rE,↓reduceIte,rA]
    refine aJ ?_;simp only[↓aF,aE,rE,↓reduceIte,rA,p9,aG,hia];refine fJ (fun call=>by simp only[↓aF,aE,rE,↓reduceIte,rA,dN];exact stc (S:=Y) (w:=.bool true) hg (by rw[hcs];exact hu)) ?_;simp only[↓aF,aE,rE,↓reduceIte,rA];refine aJ ?_;simp only[↓aF,aE,rE,↓reduceIte,rA,p44,w1];refine⟨k - 1,by omega,rfl,hY.put _,hsb,i+1,cs.set u (.bool true),by omega,by simp only;rw[T.get_set,if_pos rfl],by rw[Ap];exact hcs,fun v hv=>?_,fun j l hl hj=>?_,by refine⟨?_,?_,?_,?_,?_,?_,?_⟩<;>simp only[↓aF,aE,rE,↓reduceIte,rA,p0,p1,p4,p9,p42,p43]⟩
    ·rw[Ct];split
     ·rename_i e;rw[if_pos (by rw[hcs];exact hu),Ac (show ∃j,j<i+1∧m.getD j 0=(v:Int) from⟨i,by omega,by rw[hvv,e]⟩)]
     ·rename_i e;rw[hse v hv];congr 2;rw[Cg,Ck,Ck];constructor
      ·rintro⟨j,h1,h2⟩;exact⟨j,by omega,h2⟩
      ·rintro⟨j,h1,h2⟩;refine⟨j,?_,h2⟩;by_cases hji:j=i
       ·rw[hji,hvv] at h2;omega
       ·omega
    ·by_cases hji:j=i
     ·rw[hji,hvv];exact fun h=>hd ⟨l,by omega,h.symm⟩
     ·exact hnd j l hl (by omega)
  ·refine aA (aN (by simp only[↓aF,aE,rE,↓reduceIte,rA,Aa (show ¬ (i:Int)<((m.length:Nat):Int) by omega)]) (bM ?_));simp only[↓aF,aE,rE,↓reduceIte,rA];have hk0:k=0:=by omega
   subst hk0;exact .inl ⟨rfl,hY,hsb,i,cs,hik,hg,hcs,hse,hnd,by refine⟨?_,?_,?_,?_,?_,?_,?_⟩<;>simp only[↓aF,aE,rE,↓reduceIte,rA,p0,p1,p4,p9,p42,p43,p44]⟩
 clear p0 p1 p4 p6;rintro o ⟨F,inr⟩ Y (⟨rfl,q0,hY,hsb,i,cs,hik,hg,hcs,hse,hnd,p0,p1,p4,p9,p42,p43,p44⟩ | ⟨rfl,sY,cY,hdup,p4,p5⟩);rotate_left
 ·have hE:iN g.nodes.length m ok=8:=by unfold iN;rw[if_neg (fun h=>h hlen),if_neg (fun h=>h hin),if_pos hdup]
  rw[hE];simp only at p4 p5;have ld2:=iA (n:=2) cY rfl;simp only[↓aF,aE,rE,↓reduceIte,rA,dK,p4,p5,ld2];exact⟨sY,_,_,rfl,fun h=>absurd h (by decide),fun _=>⟨rfl,rfl⟩⟩
 simp only at q0 p0 p1 p4;subst q0;have hnd':¬aBN m:=fun⟨i',k',h1,h2,h3⟩=>hnd i' k' h1 (by omega) h3;have lX1:X.nx<X1.nx:=by omega
 have sY:Same S Y:=⟨Ak sX1.1 hY.1,fun c hc=>by rw[hY.2 _ (Ae hc sX1.1) (by omega)];exact sX1.2 _ hc⟩;have cY:Y.h.get S.nx=some (.cells [.nilsl,.nilsl] false 0):=by rw[hY.2 _ (by omega) (by omega),x1.2 _ leX];exact cX
 have leY:S.nx<Y.nx:=by have:=hY.1;omega
 have hE0:ok→iN g.nodes.length m ok=0:=fun hk=>by unfold iN;rw[if_neg (fun h=>h hlen),if_neg (fun h=>h hin),if_neg hnd',if_pos hk]
 have hE3:¬ok→iN g.nodes.length m ok=3:=fun hk=>by unfold iN;rw[if_neg (fun h=>h hlen),if_neg (fun h=>h hin),if_neg hnd',if_neg hk]
 try simp only[↓aF,aE,rE,↓reduceIte,rA]
 refine gC ?_;simp only[↓aF,aE,rE,↓reduceIte,rA,p0,p1];refine bG ?_;simp only[↓aF,aE,rE,↓reduceIte,rA];refine aX (himg hlen hin hnd' Y sY) ?_;rintro _ Z ⟨hZ,x,y,t,rfl,ht,htP⟩;simp only[↓aF,aE,rE,↓reduceIte,rA,uW,vE];refine cH ?_;intro Z1 z1 k1 e1;refine dB (b:=Z.nx) (by simp only[↓aF,aE,rE,↓reduceIte,rA]) (by simp only[↓aF,aE,rE,↓reduceIte,rA];exact bB _) e1 rfl rfl ?_;intro Z2 z2 k2 e2;simp only[↓aF,aE,rE,↓reduceIte,rA];have sZ2:Same Z Z2:=z2.same z1 (Ah _);have sSZ2:=(sY.trans hZ).trans sZ2;have cZ2:Z2.h.get S.nx=some (.cells [.nilsl,.nilsl] false 0):=by rw[(hZ.trans sZ2).2 _ leY];exact cY
 have lZ2:S.nx<Z2.nx:=Ae leY (hZ.trans sZ2).1;have ldim:=iA (n:=2) e2 rfl;refine bQ ?_;simp only[↓aF,aE,rE,↓reduceIte,rA];cases t with
 | true=>
  rw[hE0 (ht.1 rfl)];refine aO (by simp only[↓aF,aE,rE,↓reduceIte,rA]) ?_;refine bQ ?_;simp only[↓aF,aE,rE,↓reduceIte,rA,ldim];refine dB (b:=S.nx) (by simp only[↓aF,aE,rE,↓reduceIte,rA,p4]) (by simp only[↓aF,aE,rE,↓reduceIte,rA];exact bB _) cZ2 rfl rfl ?_;intro Z3 z3 k3 e3;simp only[↓aF,aE,rE,↓reduceIte,rA];have ld3:=iA (n:=2) e3 rfl;refine aS ?_;simp only[↓aF,aE,rE,↓reduceIte,rA,dK,p4,ld3];refine⟨⟨Ak sSZ2.1 z3.1,fun c hc=>by rw[z3.2 _ (Ae hc sSZ2.1) (by omega),sSZ2.2 _ hc]⟩,x,y,rfl,⟨Y,sY.1,hP (htP rfl) (Ak sZ2.1 z3.1) fun c h1 h2=>?_⟩,fun h=>absurd rfl h⟩;rw[z3.2 _ (Ae h2 sZ2.1) (by omega),sZ2.2 _ h2]
 | false=>
  rw[hE3 (fun h=>by have:=ht.2 h;cases this)];refine aN (by simp only[↓aF,aE,rE,↓reduceIte,rA]) (aI ?_);try simp only[↓aF,aE,rE,↓reduceIte,rA]
  refine bQ ?_;simp only[↓aF,aE,rE,↓reduceIte,rA,hb0];refine dB (b:=S.nx) (by simp only[↓aF,aE,rE,↓reduceIte,rA,p4]) (by simp only[↓aF,aE,rE,↓reduceIte,rA];exact bB _) cZ2 rfl rfl ?_;intro Z3 z3 k3 e3;simp only[↓aF,aE,rE,↓reduceIte,rA];have ld3:=iA (n:=2) e3 rfl;refine aS ?_;simp only[↓aF,aE,rE,↓reduceIte,rA,dK,p4,ld3];exact⟨⟨Ak sSZ2.1 z3.1,fun c hc=>by rw[z3.2 _ (Ae hc sSZ2.1) (by omega),sSZ2.2 _ hc]⟩,_,_,rfl,fun h=>absurd h (by decide),fun _=>⟨rfl,rfl⟩⟩
theorem aF7:∀ (l:List Int) (s:Nat) (r:List Int),(aBL l s r).length=r.length
 | [],_,_=>rfl
 | c::l,s,r=>by simp only[aBL];rw[aF7 l,Ap]
theorem aDM{v:Nat}:∀ (l:List Int) (s:Nat) (r:List Int),(∀c∈l,c.toNat≠v)→(aBL l s r).getD v 0=r.getD v 0
 | [],_,_,_=>rfl
 | c::l,s,r,h=>by
  simp only[aBL];rw[aDM l _ _ fun c' hc'=>h c' (Bj _ hc')];have hne:=h c (Bu ..);rw[Ad,Ct,if_neg hne,Ad]
theorem aIw{k:Nat}{c:Int}:∀ (l:List Int) (s:Nat) (r:List Int),l.Pairwise (· < ·)→(∀c∈l,0≤c)→l[k]? =some c→c.toNat<r.length→(aBL l s r).getD c.toNat 0=((s+k:Nat):Int)
 | [],_,_,_,_,h,_=>by simp at h
 | x::l,s,r,hi,h0,hk,hr=>by
  obtain⟨h1,h2⟩:=List.pairwise_cons.1 hi;simp only[aBL];cases k with
  | zero=>
   rw[List.getElem?_cons_zero] at hk;cases hk;rw[aDM l _ _ fun c' hc'=>by
    have:=h1 c' hc';have:=h0 c (Bu ..);omega,fX hr,if_pos rfl,Br]
  | succ k=>
   rw[Dn] at hk;rw[aIw l (s+1) _ h2 (fun c' hc'=>h0 c' (Bj _ hc')) hk (by rw[Ap];exact hr)];congr 1;omega
theorem aGo{g:aR}{v:Nat}:∀ (i:Nat) (r:List Int),(∀j,j<i→∀c∈dU g j,c.toNat≠v)→(aCe g i r).getD v 0=r.getD v 0
 | 0,_,_=>rfl
 | i+1,r,h=>by
  simp only[aCe];rw[aGo i _ fun j hj=>h j (by omega),aDM _ _ _ (h i (by omega))]
theorem aFI{g:aR}{i:Nat}:∀ (n:Nat) (r:List Int),i≤n→∃r1,r1.length=r.length∧aCe g n r=aCe g i r1
 | 0,r,h=>⟨r,rfl,by rw[show i=0 by omega]⟩
 | n+1,r,h=>by
  by_cases e:i=n+1
  ·exact⟨r,rfl,by rw[e]⟩
  ·obtain⟨r1,h1,h2⟩:=aFI (i:=i) n (aBL (dU g n) 0 r) (by omega);exact⟨r1,by rw[h1,aF7],by simp only[aCe];exact h2⟩
theorem aHy{g:aR}{T:List dH}(hw:WF (dU g) 0 (-1) T)(hT:T.length=g.nodes.length){i k:Nat}{c:Int}(hi:i<g.nodes.length)(hk:(dU g i)[k]? =some c):(kN g).getD c.toNat 0=(k:Int):=by
 have cf:∀j,j<g.nodes.length→∀c∈dU g j,(j:Int)<c∧c<((g.nodes.length:Nat):Int)∧lF T c.toNat=some (j:Int):=fun j hj c hc=>by
  obtain⟨a,b,e⟩:=hw.cf j (by omega) c (by rw[Ao];exact hc);rw[Ao] at a b e;exact⟨a,by omega,e⟩
 have hc:=Bc hk;obtain⟨c1,c2,c3⟩:=cf i hi c hc;unfold kN;obtain⟨r1,h1,h2⟩:=aFI (g:=g) (i:=i+1) g.nodes.length (List.replicate g.nodes.length 0) (by omega);rw[Ar] at h1;rw[h2];simp only[aCe];rw[aGo i _ fun j hj c' hc' e=>?_,aIw _ _ _ ?_ (fun c' hc'=>by have:=(cf i hi c' hc').1;omega) hk (by rw[h1];omega),Ao]
 ·have:=hw.inc i (by omega);rw[Ao] at this;exact this
 ·have h3:=(cf j (by omega) c' hc').2.2;rw[e,c3] at h3;have:=Bn h3;omega
end Go.Ev.Gl
