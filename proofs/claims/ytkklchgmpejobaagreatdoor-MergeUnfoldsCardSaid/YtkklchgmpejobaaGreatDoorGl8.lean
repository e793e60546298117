import Derived.Test.YtkklchgmpejobaaGreatDoorGl7
open Nat renaming reduceEqDiff → rE, reduceAdd → rA
set_option maxHeartbeats 16000000
set_option linter.unusedSimpArgs false
set_option linter.unusedVariables false
namespace Go.Ev.Gl
variable {fns:T cW}
def aPb(S:St)(a b:AV)(l m:List Int)(k:Nat)(A:bH)(X:St):Prop:=A.inr=false∧Same S X∧∃i,i+k=l.length∧l.take i=m.take i∧aH 0 A.F=a∧aH 1 A.F=b∧aH 5 A.F= .int .i64 (i:Int)
theorem jX{S:St}{a b:AV}{l m:List Int}(H:Has fns)(ha:bI .i64 S a l)(hb:bI .i64 S b m)(hl:l.length≤140737488355328):fB fns (.fn 14 [] []) [a,b] S fun r S'=>r= .bool (decide (l=m))∧Same S S':=by
 refine bN H.f14 (by simp) ?_;simp only[↓aB,aA,rE,↓reduceIte,rA];refine bL ?_;simp only[↓aB,aA,rE,↓reduceIte,rA];refine fY ?_;simp only[↓aB,aA,rE,↓reduceIte,rA,ha.len,hb.len,Ai];by_cases hlm:l.length=m.length;rotate_left
 ·rw[Aa (show ¬l=m from fun e=>hlm (by rw[e]))];refine aN (by simp only[↓aB,aA,rE,↓reduceIte,rA,Ab (show((l.length:Nat):Int)≠((m.length:Nat):Int) by omega)]) ?_;refine bL ?_;simp only[↓aB,aA,rE,↓reduceIte,rA];refine aR ?_;simp only[↓aB,aA,rE,↓reduceIte,rA];exact Same.refl _
 refine aL (by simp only[↓aB,aA,rE,↓reduceIte,rA,Aa (show ¬ ((l.length:Nat):Int)≠((m.length:Nat):Int) by omega)]) (aI ?_);try simp only[↓aB,aA,rE,↓reduceIte,rA]
 refine aC (aT (Q:=fun o A' X=>(o= .normal∧aPb S a b l m 0 A' X)∨(o= .ret∧Same S X∧l≠m∧aH 4 A'.F= .bool false)) (aC (aF ?_)) ?_)
 ·simp only[↓aB,aA,rE,↓reduceIte,rA];refine aK (bG (aPb S a b l m) ?_ l.length _ _ ⟨rfl,Same.refl _,0,by omega,rfl,by refine⟨?_,?_,?_⟩<;>simp only[↓aB,aA,rE,↓reduceIte,rA]⟩);rintro k ⟨F,inr⟩ X ⟨q0,hX,i,hik,he,p0,p1,p5⟩;simp only at q0 p0 p1 p5;subst q0;refine fY ?_;simp only[↓aB,aA,rE,↓reduceIte,rA,p0,p5,ha.len,Ai];by_cases hlt:i<l.length
  ·refine aN (by simp only[↓aB,aA,rE,↓reduceIte,rA,Ab (show(i:Int)<((l.length:Nat):Int) by omega)]) (aI ?_);try simp only[↓aB,aA,rE,↓reduceIte,rA]
   have hltm:i<m.length:=by omega
   have ia:=(ha.same hX).iaddr hlt;have la:=(ha.same hX).ld hlt;have ib:=(hb.same hX).iaddr hltm;have lb:=(hb.same hX).ld hltm;have w1:IntKind.i64.wrap ((i:Int)+1)=((i+1:Nat):Int):=by rw[wrap_i64 (by omega) (by omega)];omega
   refine aC (aK (aC (qV ?_)));simp only[↓aB,aA,rE,↓reduceIte,rA,p0,p1,p5,aG,ia,ib,la,lb];have el:l.getD i 0=l[i]:=by rw[Ag,Ad hlt];rfl
   have em:m.getD i 0=m[i]:=by rw[Ag,Ad hltm];rfl
   by_cases hx:l.getD i 0=m.getD i 0
   ·refine aL (by simp only[↓aB,aA,rE,↓reduceIte,rA,Aa (show ¬l.getD i 0≠m.getD i 0 from fun h=>h hx)]) (aI ?_);try simp only[↓aB,aA,rE,↓reduceIte,rA]
    refine aF ?_;simp only[↓aB,aA,rE,↓reduceIte,rA,p5,w1];refine⟨k - 1,by omega,rfl,hX.trans (Same.nx _ _),i+1,by omega,?_,by refine⟨?_,?_,?_⟩<;>simp only[↓aB,aA,rE,↓reduceIte,rA,p0,p1]⟩;rw[Bn,Bn,he,Ad hlt,Ad hltm,←el,←em,hx]
   ·refine aN (by simp only[↓aB,aA,rE,↓reduceIte,rA,Ab (show l.getD i 0≠m.getD i 0 from hx)]) ?_;refine bL ?_;simp only[↓aB,aA,rE,↓reduceIte,rA];refine aR ?_;simp only[↓aB,aA,rE,↓reduceIte,rA];exact .inr ⟨hX.trans (Same.nx _ _),fun e=>hx (by rw[e])⟩
  ·refine aL (by simp only[↓aB,aA,rE,↓reduceIte,rA,Aa (show ¬ (i:Int)<((l.length:Nat):Int) by omega)]) (bD ?_);simp only[↓aB,aA,rE,↓reduceIte,rA];have hk0:k=0:=by omega
   subst hk0;exact .inl ⟨rfl,hX,i,hik,he,by refine⟨?_,?_,?_⟩<;>simp only[↓aB,aA,rE,↓reduceIte,rA,p0,p1,p5]⟩
 rintro o ⟨F,inr⟩ X (⟨rfl,q0,hX,i,hik,he,p0,p1,p5⟩ | ⟨rfl,hX,hne,p4⟩);rotate_left
 ·simp only at p4;simp only[↓aB,aA,rE,↓reduceIte,rA,p4];rw[Aa hne];exact⟨rfl,hX⟩
 simp only at q0;subst q0;rw[Ay (by omega),Ay (by omega)] at he;rw[Ab he];try simp only[↓aB,aA,rE,↓reduceIte,rA]
 refine bL ?_;simp only[↓aB,aA,rE,↓reduceIte,rA];refine aR ?_;simp only[↓aB,aA,rE,↓reduceIte,rA];exact hX
theorem wB{S:St}{a b:AV}{l m:List Int}(H:Has fns)(ha:bI .i64 S a l)(hb:bI .i64 S b m)(hl:l.length≤10000000):fB fns (.fn 14 [] []) [a,b] S fun r S'=>r= .bool (decide (l=m))∧Same S S':=
 jX H ha hb (by omega)
def aCs(S S':St)(v:AV)(l:List Int):Prop:=∃b,v= .sl b 0 l.length l.length false∧S.nx≤b∧b<S'.nx∧S'.h.get b=some (.cells (bF l) false 0)
theorem aCs.is{S S':St}{v:AV}{l:List Int}(h:aCs S S' v l):bI .i64 S' v l:=by
 obtain⟨b,rfl,h1,h2,h3⟩:=h;exact iU h3 h2 rfl
theorem aCs.same{S S' S'':St}{v:AV}{l:List Int}(h:aCs S S' v l)(hs:Same S' S''):aCs S S'' v l:=by
 obtain⟨b,h0,h1,h2,h3⟩:=h;exact⟨b,h0,h1,Ae h2 hs.1,(hs.2 _ h2).trans h3⟩
theorem nI(n:Nat):repeatL [AV.int .i64 0] n=bF (List.replicate n 0):=by rw[repeatL_one];simp [bF]
theorem aNZ{l m:List Int}(hl:l.length=m.length)(h:∀j,j<m.length→l.getD j 0=m.getD j 0):l=m:=by
 refine Fb hl fun j j1 j2=>?_;have:=h j j2;rw[Ag,Ag,Ad j1,Ad j2] at this;exact this
def aOK(h:T AB)(K:Nat)(l:lG):Prop:=pD l.v (gT l.q l.F h)=true∧l.i<K∧Nat.testBit l.mask K=false
theorem aDc{h:T AB}{base K:Nat}{rest:List AO}{Q:DS→Prop}:∀ {pre:List AO} {i:Nat} {F:Fr} {S:St} {ls:List lG},S.h=h→i+pre.length=K→(∀o∈pre,Nat.testBit o.mask K=false)→(∀l∈ls,aOK h K l)→
  mF pre F h (fun F'=>∀ls',(∀l∈ls',aOK h K l)→yV fns rest K base ⟨F',S,[],[],ls'⟩ Q)→yV fns (pre++rest) i base ⟨F,S,[],[],ls⟩ Q
 | [],i,F,S,ls,h1,h2,_,h4,hr=>by
  simp only[Bg,Br] at h2;subst h2;exact hr ls h4
 | ⟨d,.q q,g,m⟩::l,i,F,S,ls,h1,h2,h3,h4,hr=>by
  simp only[mF] at hr;have h2':i+1+l.length=K:=by rw[Am] at h2;omega
  have h3':∀o∈l,Nat.testBit o.mask K=false:=fun o ho=>h3 o (Cl _ ho);have hm:Nat.testBit m K=false:=h3 _ (Ed ..);have go:∀ (_:jT (gT q F h) fun v=>(dO q=true→bW v v=true)∧mF l (cB d F v) h (fun F'=>∀ls',(∀l∈ls',aOK h K l)→yV fns rest K base ⟨F',S,[],[],ls'⟩ Q)),yV fns (⟨d,.q q,none,m⟩::(l++rest)) i base ⟨F,S,[],[],ls⟩ Q:=by
   rintro⟨v,hv,hs,hr⟩;rw[oY];subst h1;refine⟨v,hv,aDc rfl h2' h3' ?_ hr⟩;cases hq:dO q with
   | false=>exact h4
   | true=>
    rw[aP];intro l' hl';rcases Bq.1 hl' with rfl | hl'
    ·refine⟨?_,by show i<K;omega,hm⟩;show pD v (gT q F S.h)=true;rw[hv,gS];exact hs hq
    ·exact h4 _ hl'
  cases g with
  | none=>exact go (by rw[if_pos (show eG none F=true from rfl)] at hr;exact hr)
  | some g=>
   obtain⟨s,b⟩:=g;by_cases hw:eG (some (s,b)) F=true
   ·rw[if_pos hw] at hr;obtain⟨n,D',e1,e2⟩:=go hr;refine⟨n,D',?_,e2⟩;have:tW ⟨d,.q q,some (s,b),m⟩ i base (ev fns n).call ⟨F,S,[],[],ls⟩=tW ⟨d,.q q,none,m⟩ i base (ev fns n).call ⟨F,S,[],[],ls⟩:=by
     show bK (eG (some (s,b)) F) _ _=bK true _ _;rw[hw];rfl
    show aZ (tW ⟨d,.q q,some (s,b),m⟩ i base (ev fns n).call ⟨F,S,[],[],ls⟩) _=_;rw[this];exact e1
   ·rw[if_neg hw] at hr;obtain⟨n,D',e1,e2⟩:=aDc (i:=i+1) (F:=cB d F .undef) (ls:=ls) h1 h2' h3' h4 hr;refine⟨n,D',?_,e2⟩;have:tW ⟨d,.q q,some (s,b),m⟩ i base (ev fns n).call ⟨F,S,[],[],ls⟩=some ⟨cB d F .undef,S,[],[],ls⟩:=by
     show bK (eG (some (s,b)) F) _ _=_;rw[show eG (some (s,b)) F=false by simpa using hw];rfl
    show aZ (tW ⟨d,.q q,some (s,b),m⟩ i base (ev fns n).call ⟨F,S,[],[],ls⟩) _=_;rw[this];exact e1
 | ⟨d,.a a,g,m⟩::l,i,F,S,ls,h1,h2,h3,h4,hr=>by cases hr
 | ⟨d,.x a,g,m⟩::l,i,F,S,ls,h1,h2,h3,h4,hr=>by cases hr
theorem aNh{ops pre:List AO}{K m n:Nat}{x v:cF}{A:bH}{S:St}{Q:Out→bH→St→Prop}(he:ops=pre++ [⟨none,.x (.st n x v),none,m⟩])(hK:pre.length=K)(h3:∀o∈pre,Nat.testBit o.mask K=false)(hm:∀i,i<K→Nat.testBit m i=true)
  (h:mF pre A.F S.h fun F'=>∃S1,aZ (v.val F').cells (fun cs=>kN (x.val F') n cs ⟨S.h,S.nx+(K+1)⟩)=some (.undef,S1)∧Q .normal ⟨F',A.inr⟩ S1):nO fns (.drw ops) A S Q:=by
 subst he;have hlen:(pre++ [(⟨none,.x (.st n x v),none,m⟩:AO)]).length=K+1:=by simp [hK]
 refine uO ?_;rw[hlen];refine aDc (h:=S.h) (K:=K) (pre:=pre) (i:=0) rfl (by omega) h3 (fun l hl=>by cases hl) ?_;have mono:∀ {P P':Fr→Prop},(∀F,P F→P' F)→∀ (l:List AO) (F:Fr),mF l F S.h P→mF l F S.h P':=fun {P P'} hP l=>by
  induction l with
  | nil=>intro F h;exact hP F h
  | cons o l ih=>
   intro F h;obtain⟨d,op,g,mm⟩:=o;cases op with
   | q q=>
    simp only[mF] at h ⊢;split at h
    ·rename_i hw;rw[if_pos hw];obtain⟨w,hw1,hw2,hw3⟩:=h;exact⟨w,hw1,hw2,ih _ hw3⟩
    ·rename_i hw;rw[if_neg hw];exact ih _ h
   | a a=>cases h
   | x a=>cases h
 refine mono ?_ pre A.F h;rintro F' ⟨S1,e1,hQ⟩ ls hls;refine qB (v:=.undef) (S1:=S1) rfl (fun call=>by rw[dN];exact e1) ?_;rw[jP];refine⟨?_,?_⟩
 ·simp only[Cy,List.reverse_nil,Bp];refine qH fun l hl=>?_;obtain⟨h1,h2,h4⟩:=hls l hl;unfold fA;rw[h4,aU,h1,aP,hm _ h2,aP]
 ·exact hQ
def rG(T:List fK)(j:Nat):Option Int:=(T[j]?).map (·.1)
def CF(nx:Nat→List Int)(a:Nat)(T:List fK):Prop:=∀j,j<T.length→∀c∈nx (a+j),((a+j:Nat):Int)<c∧c<((a+T.length:Nat):Int)∧rG T (c.toNat - a)=some ((a+j:Nat):Int)
def PF(nx:Nat→List Int)(a:Nat)(T:List fK)(j:Nat):Prop:=∃q,q<j∧rG T j=some ((a+q:Nat):Int)∧((a+j:Nat):Int)∈nx (a+q)
def aJF(nx:Nat→List Int)(a:Nat)(T:List fK):Prop:=∀j,j<T.length→(nx (a+j)).Pairwise (· < ·)
structure WF(nx:Nat→List Int)(a:Nat)(p:Int)(T:List fK):Prop where
 pos:0<T.length
 root:rG T 0=some p
 cf:CF nx a T
 pf:∀j,0<j→j<T.length→PF nx a T j
 inc:aJF nx a T
structure KF(nx:Nat→List Int)(r:Nat)(p:Int)(l:List Int)(L:List fK):Prop where
 cf:CF nx r L
 kid:∀c∈l,((r:Nat):Int)≤c∧c<((r+L.length:Nat):Int)∧rG L (c.toNat - r)=some p
 pf:∀j,j<L.length→(rG L j=some p∧((r+j:Nat):Int)∈l)∨PF nx r L j
 inc:aJF nx r L
 up:l.Pairwise (· < ·)
theorem uF{L1 L2:List fK}{j:Nat}(h:j<L1.length):rG (L1++L2) j=rG L1 j:=by unfold rG;rw[Bu h]
theorem rK{L1 L2:List fK}{j:Nat}(h:L1.length≤j):rG (L1++L2) j=rG L2 (j - L1.length):=by unfold rG;rw[Bh h]
theorem CF.append{nx:Nat→List Int}{r:Nat}{L1 L2:List fK}(h1:CF nx r L1)(h2:CF nx (r+L1.length) L2):CF nx r (L1++L2):=fun j hj c hc=>by
 rw[Al] at hj ⊢;by_cases h:j<L1.length
 ·obtain⟨a,b,d⟩:=h1 j h c hc;exact⟨a,by omega,by rw[uF (by omega)];exact d⟩
 ·have e:r+j=r+L1.length+(j - L1.length):=by omega
  rw[e] at hc;obtain⟨a,b,d⟩:=h2 (j - L1.length) (by omega) c hc;refine⟨by omega,by omega,?_⟩;rw[rK (by omega),show c.toNat - r - L1.length=c.toNat - (r+L1.length) by omega,d,e]
theorem PF.left{nx:Nat→List Int}{r j:Nat}{L1 L2:List fK}(h:PF nx r L1 j)(hj:j<L1.length):PF nx r (L1++L2) j:=by
 obtain⟨q,h1,h2,h3⟩:=h;exact⟨q,h1,by rw[uF hj];exact h2,h3⟩
theorem PF.right{nx:Nat→List Int}{r j:Nat}{L1 L2:List fK}(h:PF nx (r+L1.length) L2 (j - L1.length))(hj:L1.length≤j):PF nx r (L1++L2) j:=by
 obtain⟨q,h1,h2,h3⟩:=h;refine⟨L1.length+q,by omega,?_,?_⟩
 ·rw[rK hj,h2,show r+L1.length+q=r+(L1.length+q) by omega]
 ·rw[show r+(L1.length+q)=r+L1.length+q by omega,show r+j=r+L1.length+(j - L1.length) by omega];exact h3
theorem aJF.append{nx:Nat→List Int}{r:Nat}{L1 L2:List fK}(h1:aJF nx r L1)(h2:aJF nx (r+L1.length) L2):aJF nx r (L1++L2):=fun j hj=>by
 rw[Al] at hj;by_cases h:j<L1.length
 ·exact h1 j h
 ·rw[show r+j=r+L1.length+(j - L1.length) by omega];exact h2 (j - L1.length) (by omega)
theorem aC7{rec:Nat→Option (List fK)}{nx:Nat→List Int}{p:Int}(hr:∀r L,rec r=some L→WF nx r p L):∀ {l:List Int} {r:Nat} {L:List fK},lF rec l r=some L→KF nx r p l L
 | [],r,L,h=>by
  simp only[lF,Ak] at h;subst h;exact⟨fun j hj=>by simp at hj,fun c hc=>by simp at hc,fun j hj=>by simp at hj,fun j hj=>by simp at hj,.nil⟩
 | c::l,r,L,h=>by
  simp only[lF] at h;split at h
  ·rename_i hc;obtain⟨L1,h1,h2⟩:=Ei.1 h;obtain⟨L2,h3,rfl⟩:=Ap.1 h2;have w:=hr r L1 h1;have k:=aC7 hr h3;have hp:=w.pos;refine⟨w.cf.append k.cf,fun c' hc'=>?_,fun j hj=>?_,w.inc.append k.inc,?_⟩
   ·rw[Al];rcases Bq.1 hc' with rfl | hc'
    ·rw[hc];refine⟨by omega,by omega,?_⟩;rw[show((r:Int)).toNat - r=0 by omega,uF hp];exact w.root
    ·obtain⟨a,b,d⟩:=k.kid c' hc';refine⟨by omega,by omega,?_⟩;rw[rK (by omega),show c'.toNat - r - L1.length=c'.toNat - (r+L1.length) by omega];exact d
   ·rw[Al] at hj;by_cases h:j<L1.length
    ·by_cases j0:j=0
     ·subst j0;exact .inl ⟨by rw[uF h];exact w.root,by rw[Br,hc];exact Ed ..⟩
     ·exact .inr ((w.pf j (by omega) h).left h)
    ·rcases k.pf (j - L1.length) (by omega) with⟨h4,h5⟩ | h4
     ·exact .inl ⟨by rw[rK (by omega)];exact h4,Cl _ (by rw[show r+j=r+L1.length+(j - L1.length) by omega];exact h5)⟩
     ·exact .inr (PF.right h4 (by omega))
   ·refine List.pairwise_cons.2 ⟨fun c' hc'=>?_,k.up⟩;have:=(k.kid c' hc').1;omega
  ·cases h
theorem aCU{N:Nat}{nx:Nat→List Int}:∀ {f at_:Nat} {p d:Int} {T:List fK},iO N nx f at_ p d=some T→WF nx at_ p T
 | 0,at_,p,d,T,h=>by cases h
 | f+1,at_,p,d,T,h=>by
  simp only[iO] at h;split at h
  ·obtain⟨L,h1,rfl⟩:=Ap.1 h;have k:=aC7 (p:=(at_:Int)) (fun r L hr=>aCU hr) h1;have ps:∀j,rG ((p,d,((at_+L.length:Nat):Int))::L) (j+1)=rG L j:=fun j=>by unfold rG;rw[Dw]
   refine⟨by simp,rfl,fun j hj c hc=>?_,fun j j0 hj=>?_,fun j hj=>?_⟩
   ·rw[Am] at hj ⊢;cases j with
    | zero=>
     rw[Br] at hc ⊢;obtain⟨a,b,e⟩:=k.kid c hc;refine⟨by omega,by omega,?_⟩;rw[show c.toNat - at_=(c.toNat - (at_+1))+1 by omega,ps];exact e
    | succ j=>
     rw[show at_+(j+1)=at_+1+j by omega] at hc ⊢;obtain⟨a,b,e⟩:=k.cf j (by omega) c hc;refine⟨by omega,by omega,?_⟩;rw[show c.toNat - at_=(c.toNat - (at_+1))+1 by omega,ps];exact e
   ·rw[Am] at hj;cases j with
    | zero=>omega
    | succ j=>
     rcases k.pf j (by omega) with⟨a,b⟩ | ⟨q,a,b,e⟩
     ·exact⟨0,by omega,by rw[ps,a];rfl,by rw[Br,show at_+(j+1)=at_+1+j by omega];exact b⟩
     ·refine⟨q+1,by omega,?_,?_⟩
      ·rw[ps,b,show at_+1+q=at_+(q+1) by omega]
      ·rw[show at_+(q+1)=at_+1+q by omega,show at_+(j+1)=at_+1+j by omega];exact e
   ·rw[Am] at hj;cases j with
    | zero=>exact k.up
    | succ j=>
     rw[show at_+(j+1)=at_+1+j by omega];exact k.inc j (by omega)
  ·cases h
theorem tS{ops pre:List AO}{K m n:Nat}{x v:cF}{A:bH}{S:St}{Q:Out→bH→St→Prop}(he:ops=pre++ [⟨none,.x (.st n x v),none,m⟩])(hK:pre.length=K)(h3:(pre.all fun o=> !Nat.testBit o.mask K)=true)(hm:((List.range K).all fun i=>Nat.testBit m i)=true)
  (h:mF pre A.F S.h fun F'=>∃S1,aZ (v.val F').cells (fun cs=>kN (x.val F') n cs ⟨S.h,S.nx+(K+1)⟩)=some (.undef,S1)∧Q .normal ⟨F',A.inr⟩ S1):nO fns (.drw ops) A S Q:=by
 refine aNh he hK (fun o ho=>?_) (fun i hi=>?_) h
 ·have:=Ec.1 h3 o ho;simpa using this
 ·exact Ec.1 hm i (Et.2 hi)
theorem bI.cells{k:IntKind}{S:St}{v:AV}{l:List Int}(h:bI k S v l):v.cells=some [v]:=by
 rcases h with⟨_,rfl | rfl⟩ | ⟨b,off,cap,o,cs,rfl,_⟩<;>rfl
end Go.Ev.Gl
