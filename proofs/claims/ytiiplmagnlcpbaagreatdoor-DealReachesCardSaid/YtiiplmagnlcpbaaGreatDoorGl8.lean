import Derived.Test.YtiiplmagnlcpbaaGreatDoorGl7
set_option linter.unusedSimpArgs false
set_option linter.unusedVariables false
open Nat renaming reduceEqDiff -> rE, reduceAdd -> rA
set_option maxHeartbeats 0
namespace Go.Ev.Gl
variable {fns:T cM}
def oV(g:aZ):Prop:=((60:Int)<(g.bw.length:Int)/\(g.bw.length:Int)<=2000)\/(2010:Int)<(g.bw.length:Int)
instance largeGDec(g:aZ):Decidable (oV g):=by unfold oV;exact inferInstance
theorem aH8{S:St}{nv iv:AV}{g:aZ}(H:Has fns)(hn:aW 6 cI S nv g.bw):eR fns (.fn 6 [] []) [.agg [.int .i64 g.b8,nv,iv]] S fun r S'=>r= .bool (decide (oV g))/\Same S S':=by
 refine bE H.f6 (by simp) ?_;refine ae ?_;refine aY ?_;refine bW (by refine ae ?_;exact aR _) ?_;intro S1 s1 n1 c1;have hnl:=hn.len;by_cases h1:(60:Int)<(g.bw.length:Int)
 ·by_cases h2:(g.bw.length:Int)<=2000
  ·rw[Ab (show oV g from .inl ⟨h1,h2⟩)];refine ae ?_;refine aY (dy @aF @aE (fG c1) hnl (Ab h1) (Ab h2) ?_);refine aI (ae ?_);exact s1
  ·by_cases h3:(2010:Int)<(g.bw.length:Int)
   ·rw[Ab (show oV g from .inr h3)];refine ae ?_;refine aY (dz @aF @aE (fG c1) hnl (Ab h1) (Aa h2) (Ab h3) ?_);refine aI (ae ?_);exact s1
   ·rw[Aa (show ¬oV g by unfold oV;omega)];refine ae ?_;refine aY (dz @aF @aE (fG c1) hnl (Ab h1) (Aa h2) (Aa h3) ?_);refine aI (ae ?_);exact s1
 ·rw[Aa (show ¬oV g by unfold oV;omega)];refine ae ?_;refine aY ?_;refine dy @aF @aE (fG c1) hnl (Aa h1) (Aa (show ¬ (2010:Int)<(g.bw.length:Int) by omega)) ?_;refine aI (ae ?_);exact s1
def yC(S S':St)(v:AV)(l:bm):Prop:=∃b,v= .sl b 0 l.length l.length false/\S.nx<=b/\b<S'.nx/\S'.h.get b=some (.cells (bC l) false 0)
theorem yC.is{S S':St}{v:AV}{l:bm}(h:yC S S' v l):dE .i64 S' v l:=by
 obtain⟨b,rfl,h1,h2,h3⟩:=h;exact aH6 h3 h2 rfl
theorem aCp(n:Nat):repeatL [AV.int .i64 0] n=bC (List.replicate n 0):=by rw[repeatL_one];simp [bC]
def aPC(h:T AB)(K:Nat)(l:mW):Prop:=rF l.v (jK l.q l.F h)=true/\l.i<K/\Nat.testBit l.mask K=false
theorem aC7{h:T AB}{base K:Nat}{rest:List AO}{Q:DS->Prop}:∀ {pre:List AO} {i:Nat} {F:Fr} {S:St} {ls:List mW},S.h=h->i+pre.length=K->(∀o∈pre,Nat.testBit o.mask K=false)->(∀l∈ls,aPC h K l)->
  pT pre F h (fun F'=>∀ls',(∀l∈ls',aPC h K l)->wpd fns rest K base ⟨F',S,[],[],ls'⟩ Q)->wpd fns (pre++rest) i base ⟨F,S,[],[],ls⟩ Q
 | [],i,F,S,ls,h1,h2,_,h4,hr=>by
  simp only[Cd,Bi] at h2;subst h2;exact hr ls h4
 | ⟨d,.q q,g,m⟩::l,i,F,S,ls,h1,h2,h3,h4,hr=>by
  simp only[pT] at hr;have h2':i+1+l.length=K:=by rw[Ax] at h2;omega
  have h3':∀o∈l,Nat.testBit o.mask K=false:=fun o ho=>h3 o (Cf _ ho);have hm:Nat.testBit m K=false:=h3 _ (Dy ..);have go:∀ (_:lM (jK q F h) fun v=>(dU q=true->cC v v=true)/\pT l (cB d F v) h (fun F'=>∀ls',(∀l∈ls',aPC h K l)->wpd fns rest K base ⟨F',S,[],[],ls'⟩ Q)),wpd fns (⟨d,.q q,none,m⟩::(l++rest)) i base ⟨F,S,[],[],ls⟩ Q:=by
   rintro⟨v,hv,hs,hr⟩;rw[pP];subst h1;refine⟨v,hv,aC7 rfl h2' h3' ?_ hr⟩;cases hq:dU q with
   | false=>exact h4
   | true=>
    rw[aP];intro l' hl';rcases Br.1 hl' with rfl | hl'
    ·refine⟨?_,by show i<K;omega,hm⟩;show rF v (jK q F S.h)=true;rw[hv,jN];exact hs hq
    ·exact h4 _ hl'
  cases g with
  | none=>exact go (by rw[if_pos (show fI none F=true from rfl)] at hr;exact hr)
  | some g=>
   have⟨s,b⟩:=g;by_cases hw:fI (some (s,b)) F=true
   ·rw[if_pos hw] at hr;have⟨n,D',e1,e2⟩:=go hr;refine⟨n,D',?_,e2⟩;have:rT ⟨d,.q q,some (s,b),m⟩ i base (ev fns n).call ⟨F,S,[],[],ls⟩=rT ⟨d,.q q,none,m⟩ i base (ev fns n).call ⟨F,S,[],[],ls⟩:=by
     show bM (fI (some (s,b)) F) _ _=bM true _ _;rw[hw];rfl
    show aU (rT ⟨d,.q q,some (s,b),m⟩ i base (ev fns n).call ⟨F,S,[],[],ls⟩) _=_;rw[this];exact e1
   ·rw[if_neg hw] at hr;have⟨n,D',e1,e2⟩:=aC7 (i:=i+1) (F:=cB d F .undef) (ls:=ls) h1 h2' h3' h4 hr;refine⟨n,D',?_,e2⟩;have:rT ⟨d,.q q,some (s,b),m⟩ i base (ev fns n).call ⟨F,S,[],[],ls⟩=some ⟨cB d F .undef,S,[],[],ls⟩:=by
     show bM (fI (some (s,b)) F) _ _=_;rw[show fI (some (s,b)) F=false by simpa using hw];rfl
    show aU (rT ⟨d,.q q,some (s,b),m⟩ i base (ev fns n).call ⟨F,S,[],[],ls⟩) _=_;rw[this];exact e1
 | ⟨d,.a a,g,m⟩::l,i,F,S,ls,h1,h2,h3,h4,hr=>by cases hr
 | ⟨d,.x a,g,m⟩::l,i,F,S,ls,h1,h2,h3,h4,hr=>by cases hr
theorem aNX{ops pre:List AO}{K m n:Nat}{x v:cL}{A:bK}{S:St}{Q:Out->bK->St->Prop}(he:ops=pre++ [⟨none,.x (.st n x v),none,m⟩])(hK:pre.length=K)(h3:∀o∈pre,Nat.testBit o.mask K=false)(hm:∀i,i<K->Nat.testBit m i=true)
  (h:pT pre A.F S.h fun F'=>∃S1,aU (v.val F').cells (fun cs=>oT (x.val F') n cs ⟨S.h,S.nx+(K+1)⟩)=some (.undef,S1)/\Q .normal ⟨F',A.inr⟩ S1):oD fns (.drw ops) A S Q:=by
 subst he;have hlen:(pre++ [(⟨none,.x (.st n x v),none,m⟩:AO)]).length=K+1:=by simp [hK]
 refine rB ?_;rw[hlen];refine aC7 (h:=S.h) (K:=K) (pre:=pre) (i:=0) rfl au h3 (fun l hl=>by cases hl) ?_;have mono:∀ {P P':Fr->Prop},(∀F,P F->P' F)->∀ (l:List AO) (F:Fr),pT l F S.h P->pT l F S.h P':=fun {P P'} hP l=>by
  induction l with
  | nil=>intro F h;exact hP F h
  | cons o l ih=>
   intro F h;have⟨d,op,g,mm⟩:=o;cases op with
   | q q=>
    simp only[pT] at h ⊢;split at h
    ·rename_i hw;rw[if_pos hw];have⟨w,hw1,hw2,hw3⟩:=h;exact⟨w,hw1,hw2,ih _ hw3⟩
    ·rename_i hw;rw[if_neg hw];exact ih _ h
   | a a=>cases h
   | x a=>cases h
 refine mono ?_ pre A.F h;rintro F' ⟨S1,e1,hQ⟩ ls hls;refine sT (v:=.undef) (S1:=S1) rfl (fun call=>by rw[eC];exact e1) ?_;rw[mT];refine⟨?_,?_⟩
 ·simp only[Eh,List.reverse_nil,Cn];refine tX fun l hl=>?_;have⟨h1,h2,h4⟩:=hls l hl;unfold fN;rw[h4,aS,h1,aP,hm _ h2,aP]
 ·exact hQ
def nE(T:List dG)(j:Nat):Option Int:=(T[j]?).map (·.1)
def CF(nx:Nat->bm)(a:Nat)(T:List dG):Prop:=∀j,j<T.length->∀c∈nx (a+j),((a+j:Nat):Int)<c/\c<((a+T.length:Nat):Int)/\nE T (c.toNat - a)=some ((a+j:Nat):Int)
def PF(nx:Nat->bm)(a:Nat)(T:List dG)(j:Nat):Prop:=∃q,q<j/\nE T j=some ((a+q:Nat):Int)/\((a+j:Nat):Int)∈nx (a+q)
def aKF(nx:Nat->bm)(a:Nat)(T:List dG):Prop:=∀j,j<T.length->(nx (a+j)).Pairwise (· < ·)
structure WF(nx:Nat->bm)(a:Nat)(p:Int)(T:List dG):Prop where
 pos:0<T.length
 root:nE T 0=some p
 cf:CF nx a T
 pf:∀j,0<j->j<T.length->PF nx a T j
 inc:aKF nx a T
structure KF(nx:Nat->bm)(r:Nat)(p:Int)(l:bm)(L:List dG):Prop where
 cf:CF nx r L
 kid:∀c∈l,((r:Nat):Int)<=c/\c<((r+L.length:Nat):Int)/\nE L (c.toNat - r)=some p
 pf:∀j,j<L.length->(nE L j=some p/\((r+j:Nat):Int)∈l)\/PF nx r L j
 inc:aKF nx r L
 up:l.Pairwise (· < ·)
theorem uN{L1 L2:List dG}{j:Nat}(h:j<L1.length):nE (L1++L2) j=nE L1 j:=by unfold nE;rw[Ay h]
theorem rH{L1 L2:List dG}{j:Nat}(h:L1.length<=j):nE (L1++L2) j=nE L2 (j - L1.length):=by unfold nE;rw[Az h]
theorem CF.append{nx:Nat->bm}{r:Nat}{L1 L2:List dG}(h1:CF nx r L1)(h2:CF nx (r+L1.length) L2):CF nx r (L1++L2):=fun j hj c hc=>by
 rw[Ba] at hj ⊢;by_cases h:j<L1.length
 ·have⟨a,b,d⟩:=h1 j h c hc;exact⟨a,au,by rw[uN au];exact d⟩
 ·have e:r+j=r+L1.length+(j - L1.length):=by omega
  rw[e] at hc;have⟨a,b,d⟩:=h2 (j - L1.length) au c hc;refine⟨au,au,?_⟩;rw[rH au,show c.toNat - r - L1.length=c.toNat - (r+L1.length) by omega,d,e]
theorem PF.left{nx:Nat->bm}{r j:Nat}{L1 L2:List dG}(h:PF nx r L1 j)(hj:j<L1.length):PF nx r (L1++L2) j:=by
 have⟨q,h1,h2,h3⟩:=h;exact⟨q,h1,by rw[uN hj];exact h2,h3⟩
theorem PF.right{nx:Nat->bm}{r j:Nat}{L1 L2:List dG}(h:PF nx (r+L1.length) L2 (j - L1.length))(hj:L1.length<=j):PF nx r (L1++L2) j:=by
 have⟨q,h1,h2,h3⟩:=h;refine⟨L1.length+q,au,?_,?_⟩
 ·rw[rH hj,h2,show r+L1.length+q=r+(L1.length+q) by omega]
 ·rw[show r+(L1.length+q)=r+L1.length+q by omega,show r+j=r+L1.length+(j - L1.length) by omega];exact h3
theorem aKF.append{nx:Nat->bm}{r:Nat}{L1 L2:List dG}(h1:aKF nx r L1)(h2:aKF nx (r+L1.length) L2):aKF nx r (L1++L2):=fun j hj=>by
 rw[Ba] at hj;by_cases h:j<L1.length
 ·exact h1 j h
 ·rw[show r+j=r+L1.length+(j - L1.length) by omega];exact h2 (j - L1.length) au
theorem aDu{rec:Nat->Option (List dG)}{nx:Nat->bm}{p:Int}(hr:∀r L,rec r=some L->WF nx r p L):∀ {l:bm} {r:Nat} {L:List dG},iN rec l r=some L->KF nx r p l L
 | [],r,L,h=>by
  simp only[iN,Al] at h;subst h;exact⟨fun j hj=>by simp at hj,fun c hc=>by simp at hc,fun j hj=>by simp at hj,fun j hj=>by simp at hj,.nil⟩
 | c::l,r,L,h=>by
  simp only[iN] at h;split at h
  ·rename_i hc;have⟨L1,h1,h2⟩:=Eb.1 h;obtain⟨L2,h3,rfl⟩:=An.1 h2;have w:=hr r L1 h1;have k:=aDu hr h3;have hp:=w.pos;refine⟨w.cf.append k.cf,fun c' hc'=>?_,fun j hj=>?_,w.inc.append k.inc,?_⟩
   ·rw[Ba];rcases Br.1 hc' with rfl | hc'
    ·rw[hc];refine⟨au,au,?_⟩;rw[show((r:Int)).toNat - r=0 by omega,uN hp];exact w.root
    ·have⟨a,b,d⟩:=k.kid c' hc';refine⟨au,au,?_⟩;rw[rH au,show c'.toNat - r - L1.length=c'.toNat - (r+L1.length) by omega];exact d
   ·rw[Ba] at hj;by_cases h:j<L1.length
    ·by_cases j0:j=0
     ·subst j0;exact .inl ⟨by rw[uN h];exact w.root,by rw[Bi,hc];exact Dy ..⟩
     ·exact .inr ((w.pf j au h).left h)
    ·rcases k.pf (j - L1.length) au with⟨h4,h5⟩ | h4
     ·exact .inl ⟨by rw[rH au];exact h4,Cf _ (by rw[show r+j=r+L1.length+(j - L1.length) by omega];exact h5)⟩
     ·exact .inr (PF.right h4 au)
   ·refine List.pairwise_cons.2 ⟨fun c' hc'=>?_,k.up⟩;have:=(k.kid c' hc').1;omega
  ·cases h
theorem qC{N:Nat}{nx:Nat->bm}:∀ {f at_:Nat} {p d:Int} {T:List dG},gD N nx f at_ p d=some T->WF nx at_ p T
 | 0,at_,p,d,T,h=>by cases h
 | f+1,at_,p,d,T,h=>by
  simp only[gD] at h;split at h
  ·obtain⟨L,h1,rfl⟩:=An.1 h;have k:=aDu (p:=(at_:Int)) (fun r L hr=>qC hr) h1;have ps:∀j,nE ((p,d,((at_+L.length:Nat):Int))::L) (j+1)=nE L j:=fun j=>by unfold nE;rw[Ft]
   refine⟨by simp,rfl,fun j hj c hc=>?_,fun j j0 hj=>?_,fun j hj=>?_⟩
   ·rw[Ax] at hj ⊢;cases j with
    | zero=>
     rw[Bi] at hc ⊢;have⟨a,b,e⟩:=k.kid c hc;refine⟨au,au,?_⟩;rw[show c.toNat - at_=(c.toNat - (at_+1))+1 by omega,ps];exact e
    | succ j=>
     rw[show at_+(j+1)=at_+1+j by omega] at hc ⊢;have⟨a,b,e⟩:=k.cf j au c hc;refine⟨au,au,?_⟩;rw[show c.toNat - at_=(c.toNat - (at_+1))+1 by omega,ps];exact e
   ·rw[Ax] at hj;cases j with
    | zero=>omega
    | succ j=>
     rcases k.pf j au with⟨a,b⟩ | ⟨q,a,b,e⟩
     ·exact⟨0,au,by rw[ps,a];rfl,by rw[Bi,show at_+(j+1)=at_+1+j by omega];exact b⟩
     ·refine⟨q+1,au,?_,?_⟩
      ·rw[ps,b,show at_+1+q=at_+(q+1) by omega]
      ·rw[show at_+(q+1)=at_+1+q by omega,show at_+(j+1)=at_+1+j by omega];exact e
   ·rw[Ax] at hj;cases j with
    | zero=>exact k.up
    | succ j=>
     rw[show at_+(j+1)=at_+1+j by omega];exact k.inc j au
  ·cases h
theorem aMD{ops pre:List AO}{K m n:Nat}{x v:cL}{A:bK}{S:St}{Q:Out->bK->St->Prop}(he:ops=pre++ [⟨none,.x (.st n x v),none,m⟩])(hK:pre.length=K)(h3:(pre.all fun o=> !Nat.testBit o.mask K)=true)(hm:((List.range K).all fun i=>Nat.testBit m i)=true)
  (h:pT pre A.F S.h fun F'=>∃S1,aU (v.val F').cells (fun cs=>oT (x.val F') n cs ⟨S.h,S.nx+(K+1)⟩)=some (.undef,S1)/\Q .normal ⟨F',A.inr⟩ S1):oD fns (.drw ops) A S Q:=by
 refine aNX he hK (fun o ho=>?_) (fun i hi=>?_) h
 ·have:=Fc.1 h3 o ho;simpa using this
 ·exact Fc.1 hm i (List.mem_range.2 hi)
theorem dE.cells{k:IntKind}{S:St}{v:AV}{l:bm}(h:dE k S v l):v.cells=some [v]:=by
 rcases h with⟨_,rfl | rfl⟩ | ⟨b,off,cap,o,cs,rfl,_⟩<;>rfl
def szS(T:List dG)(i:Nat)(Z:bm):bm:=if 0<i then(Z.set i (IntKind.i64.wrap (Z.getD i 0+1))).set ((T.map fun t:dG=>t.1).getD i 0).toNat (IntKind.i64.wrap ((Z.set i (IntKind.i64.wrap (Z.getD i 0+1))).getD ((T.map fun t:dG=>t.1).getD i 0).toNat 0+(Z.set i (IntKind.i64.wrap (Z.getD i 0+1))).getD i 0)) else Z.set i (IntKind.i64.wrap (Z.getD i 0+1))
def szG(T:List dG):Nat->bm->bm
 | 0,Z=>Z
 | i+1,Z=>szG T i (szS T i Z)
def szL(T:List dG)(n:Nat):bm:=szG T n (List.replicate n 0)
end Go.Ev.Gl
