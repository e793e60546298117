import Derived.Test.YtkklchgmpejobaaGreatDoorGl7
open Nat renaming reduceEqDiff → rE, reduceAdd → rA
set_option maxHeartbeats 16000000
set_option linter.unusedSimpArgs false
set_option linter.unusedVariables false
namespace Go.Ev.Gl
variable {fns:T cV}
def aQS(S:St)(a b:AV)(l m:List Int)(k:Nat)(A:bQ)(X:St):Prop:=A.inr=false∧Same S X∧∃i,i+k=l.length∧l.take i=m.take i∧aD 0 A.F=a∧aD 1 A.F=b∧aD 5 A.F= .int .i64 (i:Int)
theorem aG2{S:St}{a b:AV}{l m:List Int}(H:Has fns)(ha:cD .i64 S a l)(hb:cD .i64 S b m)(hl:l.length≤140737488355328):fR fns (.fn 14 [] []) [a,b] S fun r S'=>r= .bool (decide (l=m))∧Same S S':=by
 refine cE H.f14 (by simp) ?_;refine ah ?_;refine cC ?_;refine ah ?_;refine iP ?_;simp only[↓aA,aB,rE,↓reduceIte,rA,ha.len,hb.len,Ak];by_cases hlm:l.length=m.length;rotate_left
 ·rw[Aa (show ¬l=m from fun e=>hlm (by rw[e]))];refine aR (by simp only[↓aA,aB,rE,↓reduceIte,rA,Ad (show((l.length:Nat):Int)≠((m.length:Nat):Int) by omega)]) ?_;refine cC ?_;refine ah ?_;refine aU ?_;simp only[↓aA,aB,rE,↓reduceIte,rA];exact Same.refl _
 refine aO (by simp only[↓aA,aB,rE,↓reduceIte,rA,Aa (show ¬ ((l.length:Nat):Int)≠((m.length:Nat):Int) by omega)]) (aM ?_);try simp only[↓aA,aB,rE,↓reduceIte,rA]
 refine aC (bD (Q:=fun o A' X=>(o= .normal∧aQS S a b l m 0 A' X)∨(o= .ret∧Same S X∧l≠m∧aD 4 A'.F= .bool false)) (aC (aG ?_)) ?_)
 ·refine ah ?_;refine aN (bT (aQS S a b l m) ?_ l.length _ _ ⟨rfl,Same.refl _,0,by omega,rfl,by refine⟨?_,?_,?_⟩<;>simp only[↓aA,aB,rE,↓reduceIte,rA]⟩);rintro k ⟨F,inr⟩ X ⟨q0,hX,i,hik,he,p0,p1,p5⟩;simp only at q0 p0 p1 p5;subst q0;refine iP ?_;simp only[↓aA,aB,rE,↓reduceIte,rA,p0,p5,ha.len,Ak];by_cases hlt:i<l.length
  ·refine aR (by simp only[↓aA,aB,rE,↓reduceIte,rA,Ad (show(i:Int)<((l.length:Nat):Int) by omega)]) (aM ?_);try simp only[↓aA,aB,rE,↓reduceIte,rA]
   have hltm:i<m.length:=by omega
   have ia:=(ha.same hX).iaddr hlt;have la:=(ha.same hX).ld hlt;have ib:=(hb.same hX).iaddr hltm;have lb:=(hb.same hX).ld hltm;have w1:IntKind.i64.wrap ((i:Int)+1)=((i+1:Nat):Int):=by rw[wrap_i64 (by omega) (by omega)];omega
   refine aC (aN (aC (kO ?_)));simp only[↓aA,aB,rE,↓reduceIte,rA,p0,p1,p5,aH,ia,ib,la,lb];have el:l.getD i 0=l[i]:=by rw[Ae,Ab hlt];rfl
   have em:m.getD i 0=m[i]:=by rw[Ae,Ab hltm];rfl
   by_cases hx:l.getD i 0=m.getD i 0
   ·refine aO (by simp only[↓aA,aB,rE,↓reduceIte,rA,Aa (show ¬l.getD i 0≠m.getD i 0 from fun h=>h hx)]) (aM ?_);try simp only[↓aA,aB,rE,↓reduceIte,rA]
    refine aG ?_;simp only[↓aA,aB,rE,↓reduceIte,rA,p5,w1];refine⟨k - 1,by omega,rfl,hX.trans (Same.nx _ _),i+1,by omega,?_,by refine⟨?_,?_,?_⟩<;>simp only[↓aA,aB,rE,↓reduceIte,rA,p0,p1]⟩;rw[Bw,Bw,he,Ab hlt,Ab hltm,←el,←em,hx]
   ·refine aR (by simp only[↓aA,aB,rE,↓reduceIte,rA,Ad (show l.getD i 0≠m.getD i 0 from hx)]) ?_;refine cC ?_;refine ah ?_;refine aU ?_;simp only[↓aA,aB,rE,↓reduceIte,rA];exact .inr ⟨hX.trans (Same.nx _ _),fun e=>hx (by rw[e])⟩
  ·refine aO (by simp only[↓aA,aB,rE,↓reduceIte,rA,Aa (show ¬ (i:Int)<((l.length:Nat):Int) by omega)]) (bK ?_);simp only[↓aA,aB,rE,↓reduceIte,rA];have hk0:k=0:=by omega
   subst hk0;exact .inl ⟨rfl,hX,i,hik,he,by refine⟨?_,?_,?_⟩<;>simp only[↓aA,aB,rE,↓reduceIte,rA,p0,p1,p5]⟩
 rintro o ⟨F,inr⟩ X (⟨rfl,q0,hX,i,hik,he,p0,p1,p5⟩ | ⟨rfl,hX,hne,p4⟩);rotate_left
 ·simp only at p4;simp only[↓aA,aB,rE,↓reduceIte,rA,p4];rw[Aa hne];exact⟨rfl,hX⟩
 simp only at q0;subst q0;rw[Bj (by omega),Bj (by omega)] at he;rw[Ad he];try simp only[↓aA,aB,rE,↓reduceIte,rA]
 refine cC ?_;refine ah ?_;refine aU ?_;simp only[↓aA,aB,rE,↓reduceIte,rA];exact hX
theorem aBE{S:St}{a b:AV}{l m:List Int}(H:Has fns)(ha:cD .i64 S a l)(hb:cD .i64 S b m)(hl:l.length≤10000000):fR fns (.fn 14 [] []) [a,b] S fun r S'=>r= .bool (decide (l=m))∧Same S S':=
 aG2 H ha hb (by omega)
def aQR(S S':St)(v:AV)(l:List Int):Prop:=∃b,v= .sl b 0 l.length l.length false∧S.nx≤b∧b<S'.nx∧S'.h.get b=some (.cells (bG l) false 0)
theorem xP(n:Nat):repeatL [AV.int .i64 0] n=bG (List.replicate n 0):=by rw[repeatL_one];simp [bG]
theorem aQ4{l m:List Int}(hl:l.length=m.length)(h:∀j,j<m.length→l.getD j 0=m.getD j 0):l=m:=by
 refine Eb hl fun j j1 j2=>?_;have:=h j j2;rw[Ae,Ae,Ab j1,Ab j2] at this;exact this
def aPe(h:T AB)(K:Nat)(l:jW):Prop:=nN l.v (iI l.q l.F h)=true∧l.i<K∧Nat.testBit l.mask K=false
theorem aCO{h:T AB}{base K:Nat}{rest:List AO}{Q:DS→Prop}:∀ {pre:List AO} {i:Nat} {F:Fr} {S:St} {ls:List jW},S.h=h→i+pre.length=K→(∀o∈pre,Nat.testBit o.mask K=false)→(∀l∈ls,aPe h K l)→
  mD pre F h (fun F'=>∀ls',(∀l∈ls',aPe h K l)→xF fns rest K base ⟨F',S,[],[],ls'⟩ Q)→xF fns (pre++rest) i base ⟨F,S,[],[],ls⟩ Q
 | [],i,F,S,ls,h1,h2,_,h4,hr=>by
  simp only[Bo,Bs] at h2;subst h2;exact hr ls h4
 | ⟨d,.q q,g,m⟩::l,i,F,S,ls,h1,h2,h3,h4,hr=>by
  simp only[mD] at hr;have h2':i+1+l.length=K:=by rw[Am] at h2;omega
  have h3':∀o∈l,Nat.testBit o.mask K=false:=fun o ho=>h3 o (Bq _ ho);have hm:Nat.testBit m K=false:=h3 _ (Cd ..);have go:∀ (_:jY (iI q F h) fun v=>(dC q=true→cM v v=true)∧mD l (cI d F v) h (fun F'=>∀ls',(∀l∈ls',aPe h K l)→xF fns rest K base ⟨F',S,[],[],ls'⟩ Q)),xF fns (⟨d,.q q,none,m⟩::(l++rest)) i base ⟨F,S,[],[],ls⟩ Q:=by
   rintro⟨v,hv,hs,hr⟩;rw[nB];subst h1;refine⟨v,hv,aCO rfl h2' h3' ?_ hr⟩;cases hq:dC q with
   | false=>exact h4
   | true=>
    rw[aL];intro l' hl';rcases Bi.1 hl' with rfl | hl'
    ·refine⟨?_,by show i<K;omega,hm⟩;show nN v (iI q F S.h)=true;rw[hv,uW];exact hs hq
    ·exact h4 _ hl'
  cases g with
  | none=>exact go (by rw[if_pos (show eI none F=true from rfl)] at hr;exact hr)
  | some g=>
   obtain⟨s,b⟩:=g;by_cases hw:eI (some (s,b)) F=true
   ·rw[if_pos hw] at hr;obtain⟨n,D',e1,e2⟩:=go hr;refine⟨n,D',?_,e2⟩;have:rC ⟨d,.q q,some (s,b),m⟩ i base (ev fns n).call ⟨F,S,[],[],ls⟩=rC ⟨d,.q q,none,m⟩ i base (ev fns n).call ⟨F,S,[],[],ls⟩:=by
     show bN (eI (some (s,b)) F) _ _=bN true _ _;rw[hw];rfl
    show aX (rC ⟨d,.q q,some (s,b),m⟩ i base (ev fns n).call ⟨F,S,[],[],ls⟩) _=_;rw[this];exact e1
   ·rw[if_neg hw] at hr;obtain⟨n,D',e1,e2⟩:=aCO (i:=i+1) (F:=cI d F .undef) (ls:=ls) h1 h2' h3' h4 hr;refine⟨n,D',?_,e2⟩;have:rC ⟨d,.q q,some (s,b),m⟩ i base (ev fns n).call ⟨F,S,[],[],ls⟩=some ⟨cI d F .undef,S,[],[],ls⟩:=by
     show bN (eI (some (s,b)) F) _ _=_;rw[show eI (some (s,b)) F=false by simpa using hw];rfl
    show aX (rC ⟨d,.q q,some (s,b),m⟩ i base (ev fns n).call ⟨F,S,[],[],ls⟩) _=_;rw[this];exact e1
 | ⟨d,.a a,g,m⟩::l,i,F,S,ls,h1,h2,h3,h4,hr=>by cases hr
 | ⟨d,.x a,g,m⟩::l,i,F,S,ls,h1,h2,h3,h4,hr=>by cases hr
theorem aNw{ops pre:List AO}{K m n:Nat}{x v:cK}{A:bQ}{S:St}{Q:Out→bQ→St→Prop}(he:ops=pre++ [⟨none,.x (.st n x v),none,m⟩])(hK:pre.length=K)(h3:∀o∈pre,Nat.testBit o.mask K=false)(hm:∀i,i<K→Nat.testBit m i=true)
  (h:mD pre A.F S.h fun F'=>∃S1,aX (v.val F').cells (fun cs=>lI (x.val F') n cs ⟨S.h,S.nx+(K+1)⟩)=some (.undef,S1)∧Q .normal ⟨F',A.inr⟩ S1):lJ fns (.drw ops) A S Q:=by
 subst he;have hlen:(pre++ [(⟨none,.x (.st n x v),none,m⟩:AO)]).length=K+1:=by simp [hK]
 refine wZ ?_;rw[hlen];refine aCO (h:=S.h) (K:=K) (pre:=pre) (i:=0) rfl (by omega) h3 (fun l hl=>by cases hl) ?_;have mono:∀ {P P':Fr→Prop},(∀F,P F→P' F)→∀ (l:List AO) (F:Fr),mD l F S.h P→mD l F S.h P':=fun {P P'} hP l=>by
  induction l with
  | nil=>intro F h;exact hP F h
  | cons o l ih=>
   intro F h;obtain⟨d,op,g,mm⟩:=o;cases op with
   | q q=>
    simp only[mD] at h ⊢;split at h
    ·rename_i hw;rw[if_pos hw];obtain⟨w,hw1,hw2,hw3⟩:=h;exact⟨w,hw1,hw2,ih _ hw3⟩
    ·rename_i hw;rw[if_neg hw];exact ih _ h
   | a a=>cases h
   | x a=>cases h
 refine mono ?_ pre A.F h;rintro F' ⟨S1,e1,hQ⟩ ls hls;refine jR (v:=.undef) (S1:=S1) rfl (fun call=>by rw[dD];exact e1) ?_;rw[iL];refine⟨?_,?_⟩
 ·simp only[Cn,List.reverse_nil,Bh];refine oB fun l hl=>?_;obtain⟨h1,h2,h4⟩:=hls l hl;unfold fY;rw[h4,aQ,h1,aL,hm _ h2,aL]
 ·exact hQ
def pS(T:List dH)(j:Nat):Option Int:=(T[j]?).map (·.1)
def CF(nx:Nat→List Int)(a:Nat)(T:List dH):Prop:=∀j,j<T.length→∀c∈nx (a+j),((a+j:Nat):Int)<c∧c<((a+T.length:Nat):Int)∧pS T (c.toNat - a)=some ((a+j:Nat):Int)
def PF(nx:Nat→List Int)(a:Nat)(T:List dH)(j:Nat):Prop:=∃q,q<j∧pS T j=some ((a+q:Nat):Int)∧((a+j:Nat):Int)∈nx (a+q)
def aKJ(nx:Nat→List Int)(a:Nat)(T:List dH):Prop:=∀j,j<T.length→(nx (a+j)).Pairwise (· < ·)
structure WF(nx:Nat→List Int)(a:Nat)(p:Int)(T:List dH):Prop where
 pos:0<T.length
 root:pS T 0=some p
 cf:CF nx a T
 pf:∀j,0<j→j<T.length→PF nx a T j
 inc:aKJ nx a T
structure KF(nx:Nat→List Int)(r:Nat)(p:Int)(l:List Int)(L:List dH):Prop where
 cf:CF nx r L
 kid:∀c∈l,((r:Nat):Int)≤c∧c<((r+L.length:Nat):Int)∧pS L (c.toNat - r)=some p
 pf:∀j,j<L.length→(pS L j=some p∧((r+j:Nat):Int)∈l)∨PF nx r L j
 inc:aKJ nx r L
 up:l.Pairwise (· < ·)
theorem uI{L1 L2:List dH}{j:Nat}(h:j<L1.length):pS (L1++L2) j=pS L1 j:=by unfold pS;rw[Av h]
theorem rI{L1 L2:List dH}{j:Nat}(h:L1.length≤j):pS (L1++L2) j=pS L2 (j - L1.length):=by unfold pS;rw[Aw h]
theorem CF.append{nx:Nat→List Int}{r:Nat}{L1 L2:List dH}(h1:CF nx r L1)(h2:CF nx (r+L1.length) L2):CF nx r (L1++L2):=fun j hj c hc=>by
 rw[Ai] at hj ⊢;by_cases h:j<L1.length
 ·obtain⟨a,b,d⟩:=h1 j h c hc;exact⟨a,by omega,by rw[uI (by omega)];exact d⟩
 ·have e:r+j=r+L1.length+(j - L1.length):=by omega
  rw[e] at hc;obtain⟨a,b,d⟩:=h2 (j - L1.length) (by omega) c hc;refine⟨by omega,by omega,?_⟩;rw[rI (by omega),show c.toNat - r - L1.length=c.toNat - (r+L1.length) by omega,d,e]
theorem PF.left{nx:Nat→List Int}{r j:Nat}{L1 L2:List dH}(h:PF nx r L1 j)(hj:j<L1.length):PF nx r (L1++L2) j:=by
 obtain⟨q,h1,h2,h3⟩:=h;exact⟨q,h1,by rw[uI hj];exact h2,h3⟩
theorem PF.right{nx:Nat→List Int}{r j:Nat}{L1 L2:List dH}(h:PF nx (r+L1.length) L2 (j - L1.length))(hj:L1.length≤j):PF nx r (L1++L2) j:=by
 obtain⟨q,h1,h2,h3⟩:=h;refine⟨L1.length+q,by omega,?_,?_⟩
 ·rw[rI hj,h2,show r+L1.length+q=r+(L1.length+q) by omega]
 ·rw[show r+(L1.length+q)=r+L1.length+q by omega,show r+j=r+L1.length+(j - L1.length) by omega];exact h3
theorem aKJ.append{nx:Nat→List Int}{r:Nat}{L1 L2:List dH}(h1:aKJ nx r L1)(h2:aKJ nx (r+L1.length) L2):aKJ nx r (L1++L2):=fun j hj=>by
 rw[Ai] at hj;by_cases h:j<L1.length
 ·exact h1 j h
 ·rw[show r+j=r+L1.length+(j - L1.length) by omega];exact h2 (j - L1.length) (by omega)
theorem aDL{rec:Nat→Option (List dH)}{nx:Nat→List Int}{p:Int}(hr:∀r L,rec r=some L→WF nx r p L):∀ {l:List Int} {r:Nat} {L:List dH},iE rec l r=some L→KF nx r p l L
 | [],r,L,h=>by
  simp only[iE,Al] at h;subst h;exact⟨fun j hj=>by simp at hj,fun c hc=>by simp at hc,fun j hj=>by simp at hj,fun j hj=>by simp at hj,.nil⟩
 | c::l,r,L,h=>by
  simp only[iE] at h;split at h
  ·rename_i hc;obtain⟨L1,h1,h2⟩:=Dl.1 h;obtain⟨L2,h3,rfl⟩:=Au.1 h2;have w:=hr r L1 h1;have k:=aDL hr h3;have hp:=w.pos;refine⟨w.cf.append k.cf,fun c' hc'=>?_,fun j hj=>?_,w.inc.append k.inc,?_⟩
   ·rw[Ai];rcases Bi.1 hc' with rfl | hc'
    ·rw[hc];refine⟨by omega,by omega,?_⟩;rw[show((r:Int)).toNat - r=0 by omega,uI hp];exact w.root
    ·obtain⟨a,b,d⟩:=k.kid c' hc';refine⟨by omega,by omega,?_⟩;rw[rI (by omega),show c'.toNat - r - L1.length=c'.toNat - (r+L1.length) by omega];exact d
   ·rw[Ai] at hj;by_cases h:j<L1.length
    ·by_cases j0:j=0
     ·subst j0;exact .inl ⟨by rw[uI h];exact w.root,by rw[Bs,hc];exact Cd ..⟩
     ·exact .inr ((w.pf j (by omega) h).left h)
    ·rcases k.pf (j - L1.length) (by omega) with⟨h4,h5⟩ | h4
     ·exact .inl ⟨by rw[rI (by omega)];exact h4,Bq _ (by rw[show r+j=r+L1.length+(j - L1.length) by omega];exact h5)⟩
     ·exact .inr (PF.right h4 (by omega))
   ·refine List.pairwise_cons.2 ⟨fun c' hc'=>?_,k.up⟩;have:=(k.kid c' hc').1;omega
  ·cases h
theorem yZ{N:Nat}{nx:Nat→List Int}:∀ {f at_:Nat} {p d:Int} {T:List dH},iQ N nx f at_ p d=some T→WF nx at_ p T
 | 0,at_,p,d,T,h=>by cases h
 | f+1,at_,p,d,T,h=>by
  simp only[iQ] at h;split at h
  ·obtain⟨L,h1,rfl⟩:=Au.1 h;have k:=aDL (p:=(at_:Int)) (fun r L hr=>yZ hr) h1;have ps:∀j,pS ((p,d,((at_+L.length:Nat):Int))::L) (j+1)=pS L j:=fun j=>by unfold pS;rw[List.getElem?_cons_succ]
   refine⟨by simp,rfl,fun j hj c hc=>?_,fun j j0 hj=>?_,fun j hj=>?_⟩
   ·rw[Am] at hj ⊢;cases j with
    | zero=>
     rw[Bs] at hc ⊢;obtain⟨a,b,e⟩:=k.kid c hc;refine⟨by omega,by omega,?_⟩;rw[show c.toNat - at_=(c.toNat - (at_+1))+1 by omega,ps];exact e
    | succ j=>
     rw[show at_+(j+1)=at_+1+j by omega] at hc ⊢;obtain⟨a,b,e⟩:=k.cf j (by omega) c hc;refine⟨by omega,by omega,?_⟩;rw[show c.toNat - at_=(c.toNat - (at_+1))+1 by omega,ps];exact e
   ·rw[Am] at hj;cases j with
    | zero=>omega
    | succ j=>
     rcases k.pf j (by omega) with⟨a,b⟩ | ⟨q,a,b,e⟩
     ·exact⟨0,by omega,by rw[ps,a];rfl,by rw[Bs,show at_+(j+1)=at_+1+j by omega];exact b⟩
     ·refine⟨q+1,by omega,?_,?_⟩
      ·rw[ps,b,show at_+1+q=at_+(q+1) by omega]
      ·rw[show at_+(q+1)=at_+1+q by omega,show at_+(j+1)=at_+1+j by omega];exact e
   ·rw[Am] at hj;cases j with
    | zero=>exact k.up
    | succ j=>
     rw[show at_+(j+1)=at_+1+j by omega];exact k.inc j (by omega)
  ·cases h
theorem qQ{ops pre:List AO}{K m n:Nat}{x v:cK}{A:bQ}{S:St}{Q:Out→bQ→St→Prop}(he:ops=pre++ [⟨none,.x (.st n x v),none,m⟩])(hK:pre.length=K)(h3:(pre.all fun o=> !Nat.testBit o.mask K)=true)(hm:((List.range K).all fun i=>Nat.testBit m i)=true)
  (h:mD pre A.F S.h fun F'=>∃S1,aX (v.val F').cells (fun cs=>lI (x.val F') n cs ⟨S.h,S.nx+(K+1)⟩)=some (.undef,S1)∧Q .normal ⟨F',A.inr⟩ S1):lJ fns (.drw ops) A S Q:=by
 refine aNw he hK (fun o ho=>?_) (fun i hi=>?_) h
 ·have:=Dt.1 h3 o ho;simpa using this
 ·exact Dt.1 hm i (Fz.2 hi)
theorem cD.cells{k:IntKind}{S:St}{v:AV}{l:List Int}(h:cD k S v l):v.cells=some [v]:=by
 rcases h with⟨_,rfl | rfl⟩ | ⟨b,off,cap,o,cs,rfl,_⟩<;>rfl
end Go.Ev.Gl
