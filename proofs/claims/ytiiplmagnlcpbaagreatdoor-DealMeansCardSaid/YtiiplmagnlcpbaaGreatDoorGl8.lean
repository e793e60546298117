import Derived.Test.YtiiplmagnlcpbaaGreatDoorGl7
set_option linter.unusedSimpArgs false
set_option linter.unusedVariables false
open Nat renaming reduceEqDiff -> rE, reduceAdd -> rA
set_option maxHeartbeats 0
namespace Go.Ev.Gl
variable {fns:T dD}
def aSg(S:St)(a b:AV)(l m:bm)(k:Nat)(A:bN)(X:St):Prop:=A.inr=false/\Same S X/\∃i,i+k=l.length/\l.take i=m.take i/\aB 0 A.F=a/\aB 1 A.F=b/\aB 5 A.F= .int .i64 (i:Int)
theorem aH4{S:St}{a b:AV}{l m:bm}(H:Has fns)(ha:cH .i64 S a l)(hb:cH .i64 S b m)(hl:l.length<=140737488355328):eT fns (.fn 20 [] []) [a,b] S fun r S'=>r= .bool (decide (l=m))/\Same S S':=by
 refine bL H.f20 (by simp) ?_;refine ap ?_;refine bK (ap ?_);refine fA (d9 ha.len hb.len @Ak ?_);by_cases hlm:l.length=m.length;rotate_left
 ·rw[Aa (show ¬l=m from fun e=>hlm (by rw[e]))];refine aP (by simp only[↓stU,aG,rE,↓reduceIte,rA,Ac (show(l.length:Int)≠(m.length:Int) by omega)]) ?_;refine bK (ap ?_);refine aK (ap ?_);exact Same.refl _
 refine aO (by simp only[↓stU,aG,rE,↓reduceIte,rA,Aa (show ¬ (l.length:Int)≠(m.length:Int) by omega)]) (aJ ?_);try refine ap ?_
 refine aE (bG (Q:=fun o A' X=>(o= .normal/\aSg S a b l m 0 A' X)\/(o= .ret/\Same S X/\l≠m/\aB 4 A'.F= .bool false)) (aE (aM ?_)) ?_)
 ·refine ap ?_;refine aQ (bX (aSg S a b l m) ?_ l.length _ _ ⟨rfl,Same.refl _,0,au,rfl,by refine⟨?_,?_,?_⟩<;>simp only[↓stU,aG,rE,↓reduceIte,rA]⟩);rintro k ⟨F,inr⟩ X ⟨q0,hX,i,hik,he,p0,p1,p5⟩;simp only at q0 p0 p1 p5;subst q0;refine fA (ed p0 p5 ha.len @Ak ?_);by_cases hlt:i<l.length
  ·refine aP (by simp only[↓stU,aG,rE,↓reduceIte,rA,Ac (show(i:Int)<(l.length:Int) by omega)]) (aJ ?_);try refine ap ?_
   have hltm:i<m.length:=by omega
   have ia:=(ha.same hX).cq hlt;have la:=(ha.same hX).ld hlt;have ib:=(hb.same hX).cq hltm;have lb:=(hb.same hX).ld hltm;have w1:=dk i
   refine aE (aQ (aE (jK ?_)));refine eh p0 p1 p5 @aW ia ib la lb ?_;have el:l.getD i 0=l[i]:=by rw[Ae,Ad hlt];rfl
   have em:m.getD i 0=m[i]:=by rw[Ae,Ad hltm];rfl
   by_cases hx:l.getD i 0=m.getD i 0
   ·refine aO (by simp only[↓stU,aG,rE,↓reduceIte,rA,Aa (show ¬l.getD i 0≠m.getD i 0 from fun h=>h hx)]) (aJ ?_);try refine ap ?_
    refine aM (d7 p5 w1 ?_);refine⟨k - 1,au,rfl,hX.trans (Same.nx _ _),i+1,au,?_,by refine⟨?_,?_,?_⟩<;>simp only[↓stU,aG,rE,↓reduceIte,rA,p0,p1]⟩;rw[Dh,Dh,he,Ad hlt,Ad hltm,<-el,<-em,hx]
   ·refine aP (by simp only[↓stU,aG,rE,↓reduceIte,rA,Ac (show l.getD i 0≠m.getD i 0 from hx)]) ?_;refine bK (ap ?_);refine aK (ap ?_);exact .inr ⟨hX.trans (Same.nx _ _),fun e=>hx (by rw[e])⟩
  ·refine aO (by simp only[↓stU,aG,rE,↓reduceIte,rA,Aa (show ¬ (i:Int)<(l.length:Int) by omega)]) (bS ?_);refine ap ?_;have hk0:k=0:=by omega
   subst hk0;exact .inl ⟨rfl,hX,i,hik,he,by refine⟨?_,?_,?_⟩<;>simp only[↓stU,aG,rE,↓reduceIte,rA,p0,p1,p5]⟩
 rintro o ⟨F,inr⟩ X (⟨rfl,q0,hX,i,hik,he,p0,p1,p5⟩ | ⟨rfl,hX,hne,p4⟩);rotate_left
 ·simp only at p4;refine dz p4 ?_;rw[Aa hne];exact⟨rfl,hX⟩
 simp only at q0;subst q0;rw[Ay au,Ay au] at he;rw[Ac he];try refine ap ?_
 refine bK (ap ?_);refine aK (ap ?_);exact hX
theorem aIp{S:St}{a b:AV}{l m:bm}(H:Has fns)(ha:cH .i64 S a l)(hb:cH .i64 S b m)(hl:l.length<=10000000):eT fns (.fn 20 [] []) [a,b] S fun r S'=>r= .bool (decide (l=m))/\Same S S':=
 aH4 H ha hb au
def aHm(S S':St)(v:AV)(l:bm):Prop:=∃b,v= .sl b 0 l.length l.length false/\S.nx<=b/\b<S'.nx/\S'.h.get b=some (.cells (bE l) false 0)
theorem aHm.is{S S':St}{v:AV}{l:bm}(h:aHm S S' v l):cH .i64 S' v l:=by
 obtain⟨b,rfl,h1,h2,h3⟩:=h;exact aI2 h3 h2 rfl
theorem aGw(n:Nat):repeatL [AV.int .i64 0] n=bE (List.replicate n 0):=by rw[repeatL_one];simp [bE]
def aRx(h:T AB)(K:Nat)(l:nL):Prop:=qE l.v (iT l.q l.F h)=true/\l.i<K/\Nat.testBit l.mask K=false
theorem aDB{h:T AB}{base K:Nat}{rest:List AO}{Q:DS->Prop}:∀ {pre:List AO} {i:Nat} {F:Fr} {S:St} {ls:List nL},S.h=h->i+pre.length=K->(∀o∈pre,Nat.testBit o.mask K=false)->(∀l∈ls,aRx h K l)->
  qY pre F h (fun F'=>∀ls',(∀l∈ls',aRx h K l)->wpd fns rest K base ⟨F',S,[],[],ls'⟩ Q)->wpd fns (pre++rest) i base ⟨F,S,[],[],ls⟩ Q
 | [],i,F,S,ls,h1,h2,_,h4,hr=>by
  simp only[Co,Bm] at h2;subst h2;exact hr ls h4
 | ⟨d,.q q,g,m⟩::l,i,F,S,ls,h1,h2,h3,h4,hr=>by
  simp only[qY] at hr;have h2':i+1+l.length=K:=by rw[Av] at h2;omega
  have h3':∀o∈l,Nat.testBit o.mask K=false:=fun o ho=>h3 o (Bf _ ho);have hm:Nat.testBit m K=false:=h3 _ (Bn ..);have go:∀ (_:mT (iT q F h) fun v=>(dK q=true->cQ v v=true)/\qY l (cJ d F v) h (fun F'=>∀ls',(∀l∈ls',aRx h K l)->wpd fns rest K base ⟨F',S,[],[],ls'⟩ Q)),wpd fns (⟨d,.q q,none,m⟩::(l++rest)) i base ⟨F,S,[],[],ls⟩ Q:=by
   rintro⟨v,hv,hs,hr⟩;rw[sR];subst h1;refine⟨v,hv,aDB rfl h2' h3' ?_ hr⟩;cases hq:dK q with
   | false=>exact h4
   | true=>
    rw[aN];intro l' hl';rcases Br.1 hl' with rfl | hl'
    ·refine⟨?_,by show i<K;omega,hm⟩;show qE v (iT q F S.h)=true;rw[hv,zW];exact hs hq
    ·exact h4 _ hl'
  cases g with
  | none=>exact go (by rw[if_pos (show fI none F=true from rfl)] at hr;exact hr)
  | some g=>
   have⟨s,b⟩:=g;by_cases hw:fI (some (s,b)) F=true
   ·rw[if_pos hw] at hr;have⟨n,D',e1,e2⟩:=go hr;refine⟨n,D',?_,e2⟩;have:tB ⟨d,.q q,some (s,b),m⟩ i base (ev fns n).call ⟨F,S,[],[],ls⟩=tB ⟨d,.q q,none,m⟩ i base (ev fns n).call ⟨F,S,[],[],ls⟩:=by
     show bO (fI (some (s,b)) F) _ _=bO true _ _;rw[hw];rfl
    show aU (tB ⟨d,.q q,some (s,b),m⟩ i base (ev fns n).call ⟨F,S,[],[],ls⟩) _=_;rw[this];exact e1
   ·rw[if_neg hw] at hr;have⟨n,D',e1,e2⟩:=aDB (i:=i+1) (F:=cJ d F .undef) (ls:=ls) h1 h2' h3' h4 hr;refine⟨n,D',?_,e2⟩;have:tB ⟨d,.q q,some (s,b),m⟩ i base (ev fns n).call ⟨F,S,[],[],ls⟩=some ⟨cJ d F .undef,S,[],[],ls⟩:=by
     show bO (fI (some (s,b)) F) _ _=_;rw[show fI (some (s,b)) F=false by simpa using hw];rfl
    show aU (tB ⟨d,.q q,some (s,b),m⟩ i base (ev fns n).call ⟨F,S,[],[],ls⟩) _=_;rw[this];exact e1
 | ⟨d,.a a,g,m⟩::l,i,F,S,ls,h1,h2,h3,h4,hr=>by cases hr
 | ⟨d,.x a,g,m⟩::l,i,F,S,ls,h1,h2,h3,h4,hr=>by cases hr
theorem aP9{ops pre:List AO}{K m n:Nat}{x v:cP}{A:bN}{S:St}{Q:Out->bN->St->Prop}(he:ops=pre++ [⟨none,.x (.st n x v),none,m⟩])(hK:pre.length=K)(h3:∀o∈pre,Nat.testBit o.mask K=false)(hm:∀i,i<K->Nat.testBit m i=true)
  (h:qY pre A.F S.h fun F'=>∃S1,aU (v.val F').cells (fun cs=>oT (x.val F') n cs ⟨S.h,S.nx+(K+1)⟩)=some (.undef,S1)/\Q .normal ⟨F',A.inr⟩ S1):nD fns (.drw ops) A S Q:=by
 subst he;have hlen:(pre++ [(⟨none,.x (.st n x v),none,m⟩:AO)]).length=K+1:=by simp [hK]
 refine vC ?_;rw[hlen];refine aDB (h:=S.h) (K:=K) (pre:=pre) (i:=0) rfl au h3 (fun l hl=>by cases hl) ?_;have mono:∀ {P P':Fr->Prop},(∀F,P F->P' F)->∀ (l:List AO) (F:Fr),qY l F S.h P->qY l F S.h P':=fun {P P'} hP l=>by
  induction l with
  | nil=>intro F h;exact hP F h
  | cons o l ih=>
   intro F h;have⟨d,op,g,mm⟩:=o;cases op with
   | q q=>
    simp only[qY] at h ⊢;split at h
    ·rename_i hw;rw[if_pos hw];have⟨w,hw1,hw2,hw3⟩:=h;exact⟨w,hw1,hw2,ih _ hw3⟩
    ·rename_i hw;rw[if_neg hw];exact ih _ h
   | a a=>cases h
   | x a=>cases h
 refine mono ?_ pre A.F h;rintro F' ⟨S1,e1,hQ⟩ ls hls;refine oN (v:=.undef) (S1:=S1) rfl (fun call=>by rw[dW];exact e1) ?_;rw[nF];refine⟨?_,?_⟩
 ·simp only[Dz,List.reverse_nil,Ck];refine qZ fun l hl=>?_;have⟨h1,h2,h4⟩:=hls l hl;unfold gN;rw[h4,aR,h1,aN,hm _ h2,aN]
 ·exact hQ
def oO(T:List dP)(j:Nat):Option Int:=(T[j]?).map (·.1)
def CF(nx:Nat->bm)(a:Nat)(T:List dP):Prop:=∀j,j<T.length->∀c∈nx (a+j),((a+j:Nat):Int)<c/\c<((a+T.length:Nat):Int)/\oO T (c.toNat - a)=some ((a+j:Nat):Int)
def PF(nx:Nat->bm)(a:Nat)(T:List dP)(j:Nat):Prop:=∃q,q<j/\oO T j=some ((a+q:Nat):Int)/\((a+j:Nat):Int)∈nx (a+q)
def aMd(nx:Nat->bm)(a:Nat)(T:List dP):Prop:=∀j,j<T.length->(nx (a+j)).Pairwise (· < ·)
structure WF(nx:Nat->bm)(a:Nat)(p:Int)(T:List dP):Prop where
 pos:0<T.length
 root:oO T 0=some p
 cf:CF nx a T
 pf:∀j,0<j->j<T.length->PF nx a T j
 inc:aMd nx a T
structure KF(nx:Nat->bm)(r:Nat)(p:Int)(l:bm)(L:List dP):Prop where
 cf:CF nx r L
 kid:∀c∈l,((r:Nat):Int)<=c/\c<((r+L.length:Nat):Int)/\oO L (c.toNat - r)=some p
 pf:∀j,j<L.length->(oO L j=some p/\((r+j:Nat):Int)∈l)\/PF nx r L j
 inc:aMd nx r L
 up:l.Pairwise (· < ·)
theorem vP{L1 L2:List dP}{j:Nat}(h:j<L1.length):oO (L1++L2) j=oO L1 j:=by unfold oO;rw[Ap h]
theorem sJ{L1 L2:List dP}{j:Nat}(h:L1.length<=j):oO (L1++L2) j=oO L2 (j - L1.length):=by unfold oO;rw[Aq h]
theorem CF.append{nx:Nat->bm}{r:Nat}{L1 L2:List dP}(h1:CF nx r L1)(h2:CF nx (r+L1.length) L2):CF nx r (L1++L2):=fun j hj c hc=>by
 rw[Aj] at hj ⊢;by_cases h:j<L1.length
 ·have⟨a,b,d⟩:=h1 j h c hc;exact⟨a,au,by rw[vP au];exact d⟩
 ·have e:r+j=r+L1.length+(j - L1.length):=by omega
  rw[e] at hc;have⟨a,b,d⟩:=h2 (j - L1.length) au c hc;refine⟨au,au,?_⟩;rw[sJ au,show c.toNat - r - L1.length=c.toNat - (r+L1.length) by omega,d,e]
theorem PF.left{nx:Nat->bm}{r j:Nat}{L1 L2:List dP}(h:PF nx r L1 j)(hj:j<L1.length):PF nx r (L1++L2) j:=by
 have⟨q,h1,h2,h3⟩:=h;exact⟨q,h1,by rw[vP hj];exact h2,h3⟩
theorem PF.right{nx:Nat->bm}{r j:Nat}{L1 L2:List dP}(h:PF nx (r+L1.length) L2 (j - L1.length))(hj:L1.length<=j):PF nx r (L1++L2) j:=by
 have⟨q,h1,h2,h3⟩:=h;refine⟨L1.length+q,au,?_,?_⟩
 ·rw[sJ hj,h2,show r+L1.length+q=r+(L1.length+q) by omega]
 ·rw[show r+(L1.length+q)=r+L1.length+q by omega,show r+j=r+L1.length+(j - L1.length) by omega];exact h3
theorem aMd.append{nx:Nat->bm}{r:Nat}{L1 L2:List dP}(h1:aMd nx r L1)(h2:aMd nx (r+L1.length) L2):aMd nx r (L1++L2):=fun j hj=>by
 rw[Aj] at hj;by_cases h:j<L1.length
 ·exact h1 j h
 ·rw[show r+j=r+L1.length+(j - L1.length) by omega];exact h2 (j - L1.length) au
theorem aDY{rec:Nat->Option (List dP)}{nx:Nat->bm}{p:Int}(hr:∀r L,rec r=some L->WF nx r p L):∀ {l:bm} {r:Nat} {L:List dP},gS rec l r=some L->KF nx r p l L
 | [],r,L,h=>by
  simp only[gS,Al] at h;subst h;exact⟨fun j hj=>by simp at hj,fun c hc=>by simp at hc,fun j hj=>by simp at hj,fun j hj=>by simp at hj,.nil⟩
 | c::l,r,L,h=>by
  simp only[gS] at h;split at h
  ·rename_i hc;have⟨L1,h1,h2⟩:=Du.1 h;obtain⟨L2,h3,rfl⟩:=Ax.1 h2;have w:=hr r L1 h1;have k:=aDY hr h3;have hp:=w.pos;refine⟨w.cf.append k.cf,fun c' hc'=>?_,fun j hj=>?_,w.inc.append k.inc,?_⟩
   ·rw[Aj];rcases Br.1 hc' with rfl | hc'
    ·rw[hc];refine⟨au,au,?_⟩;rw[show((r:Int)).toNat - r=0 by omega,vP hp];exact w.root
    ·have⟨a,b,d⟩:=k.kid c' hc';refine⟨au,au,?_⟩;rw[sJ au,show c'.toNat - r - L1.length=c'.toNat - (r+L1.length) by omega];exact d
   ·rw[Aj] at hj;by_cases h:j<L1.length
    ·by_cases j0:j=0
     ·subst j0;exact .inl ⟨by rw[vP h];exact w.root,by rw[Bm,hc];exact Bn ..⟩
     ·exact .inr ((w.pf j au h).left h)
    ·rcases k.pf (j - L1.length) au with⟨h4,h5⟩ | h4
     ·exact .inl ⟨by rw[sJ au];exact h4,Bf _ (by rw[show r+j=r+L1.length+(j - L1.length) by omega];exact h5)⟩
     ·exact .inr (PF.right h4 au)
   ·refine List.pairwise_cons.2 ⟨fun c' hc'=>?_,k.up⟩;have:=(k.kid c' hc').1;omega
  ·cases h
theorem rM{N:Nat}{nx:Nat->bm}:∀ {f at_:Nat} {p d:Int} {T:List dP},iL N nx f at_ p d=some T->WF nx at_ p T
 | 0,at_,p,d,T,h=>by cases h
 | f+1,at_,p,d,T,h=>by
  simp only[iL] at h;split at h
  ·obtain⟨L,h1,rfl⟩:=Ax.1 h;have k:=aDY (p:=(at_:Int)) (fun r L hr=>rM hr) h1;have ps:∀j,oO ((p,d,((at_+L.length:Nat):Int))::L) (j+1)=oO L j:=fun j=>by unfold oO;rw[Fy]
   refine⟨by simp,rfl,fun j hj c hc=>?_,fun j j0 hj=>?_,fun j hj=>?_⟩
   ·rw[Av] at hj ⊢;cases j with
    | zero=>
     rw[Bm] at hc ⊢;have⟨a,b,e⟩:=k.kid c hc;refine⟨au,au,?_⟩;rw[show c.toNat - at_=(c.toNat - (at_+1))+1 by omega,ps];exact e
    | succ j=>
     rw[show at_+(j+1)=at_+1+j by omega] at hc ⊢;have⟨a,b,e⟩:=k.cf j au c hc;refine⟨au,au,?_⟩;rw[show c.toNat - at_=(c.toNat - (at_+1))+1 by omega,ps];exact e
   ·rw[Av] at hj;cases j with
    | zero=>omega
    | succ j=>
     rcases k.pf j au with⟨a,b⟩ | ⟨q,a,b,e⟩
     ·exact⟨0,au,by rw[ps,a];rfl,by rw[Bm,show at_+(j+1)=at_+1+j by omega];exact b⟩
     ·refine⟨q+1,au,?_,?_⟩
      ·rw[ps,b,show at_+1+q=at_+(q+1) by omega]
      ·rw[show at_+(q+1)=at_+1+q by omega,show at_+(j+1)=at_+1+j by omega];exact e
   ·rw[Av] at hj;cases j with
    | zero=>exact k.up
    | succ j=>
     rw[show at_+(j+1)=at_+1+j by omega];exact k.inc j au
  ·cases h
theorem uC{ops pre:List AO}{K m n:Nat}{x v:cP}{A:bN}{S:St}{Q:Out->bN->St->Prop}(he:ops=pre++ [⟨none,.x (.st n x v),none,m⟩])(hK:pre.length=K)(h3:(pre.all fun o=> !Nat.testBit o.mask K)=true)(hm:((List.range K).all fun i=>Nat.testBit m i)=true)
  (h:qY pre A.F S.h fun F'=>∃S1,aU (v.val F').cells (fun cs=>oT (x.val F') n cs ⟨S.h,S.nx+(K+1)⟩)=some (.undef,S1)/\Q .normal ⟨F',A.inr⟩ S1):nD fns (.drw ops) A S Q:=by
 refine aP9 he hK (fun o ho=>?_) (fun i hi=>?_) h
 ·have:=Et.1 h3 o ho;simpa using this
 ·exact Et.1 hm i (List.mem_range.2 hi)
theorem cH.cells{k:IntKind}{S:St}{v:AV}{l:bm}(h:cH k S v l):v.cells=some [v]:=by
 rcases h with⟨_,rfl | rfl⟩ | ⟨b,off,cap,o,cs,rfl,_⟩<;>rfl
def szS(T:List dP)(i:Nat)(Z:bm):bm:=if 0<i then(Z.set i (IntKind.i64.wrap (Z.getD i 0+1))).set ((T.map fun t:dP=>t.1).getD i 0).toNat (IntKind.i64.wrap ((Z.set i (IntKind.i64.wrap (Z.getD i 0+1))).getD ((T.map fun t:dP=>t.1).getD i 0).toNat 0+(Z.set i (IntKind.i64.wrap (Z.getD i 0+1))).getD i 0)) else Z.set i (IntKind.i64.wrap (Z.getD i 0+1))
def szG(T:List dP):Nat->bm->bm
 | 0,Z=>Z
 | i+1,Z=>szG T i (szS T i Z)
def szL(T:List dP)(n:Nat):bm:=szG T n (List.replicate n 0)
end Go.Ev.Gl
