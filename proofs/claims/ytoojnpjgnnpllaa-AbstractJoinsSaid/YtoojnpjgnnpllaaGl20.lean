import Derived.Test.YtoojnpjgnnpllaaGl19
set_option maxHeartbeats 16000000
set_option linter.unusedSimpArgs false
set_option linter.unusedVariables false
namespace Go.Ev.Gl
variable {fns:T eG}
structure fH(g:aR)(m:List Int):Prop where
 M:aBM g m
 nd:¬aBN m
 A:iC g m
section
variable {g:aR}{a b c m:List Int}
theorem fH.e(h:fH g m):iN g.nodes.length m (iC g m)=0:=by
 unfold iN;rw[if_neg (fun e=>e h.M.len),if_neg (fun e=>e h.M.inn),if_neg h.nd,if_pos h.A]
theorem fH.chk(h:fH g m)(hf:cP g=0):mA g m (iC g m)=0:=by
 unfold mA;rw[if_neg (fun e=>e hf)];exact h.e
theorem fH.inj(h:fH g m){i k:Nat}(hi:i<g.nodes.length)(hk:k<g.nodes.length)(e:fA m i=fA m k):i=k:=by
 have h1:=(h.M.at hi).1;have h2:=(h.M.at hk).1;have hl:=h.M.len;rcases Dg i k with hlt | he | hlt
 ·exact absurd ⟨k,i,hlt,by omega,by omega⟩ h.nd
 ·exact he
 ·exact absurd ⟨i,k,hlt,by omega,by omega⟩ h.nd
theorem aI1{l:List Int}{x:Int}(h:0≤lQ l 0 x):(lQ l 0 x).toNat<l.length∧l.getD (lQ l 0 x).toNat 0=x:=by
 rcases qB (c:=x) (l:=l) (s:=0) with⟨h1,_⟩ | ⟨k,h1,h2,_⟩
 ·omega
 ·have e:(lQ l 0 x).toNat=k:=by omega
  rw[e];exact⟨(Ai.1 h2).1,by rw[Ad,h2];rfl⟩
end
def tI(j:Int):List dH→Nat→Nat
 | [],_=>0
 | t::L,a=>(if t.1=j then(t.2.2+1 - (a:Int)).toNat else 0)+tI j L (a+1)
theorem aDr{j:Int}:∀ {L M:List dH} {a:Nat},tI j (L++M) a=tI j L a+tI j M (a+L.length)
 | [],M,a=>by show tI j M a=0+tI j M (a+0);rw[Ao];rfl
 | t::L,M,a=>by
  show _+tI j (L++M) (a+1)=_+tI j L (a+1)+tI j M (a+(L.length+1));rw[aDr (L:=L),show a+1+L.length=a+(L.length+1) by omega,Co]
theorem wT{j:Int}:∀ {L:List dH} {a:Nat},(∀t∈L,t.1≠j)→tI j L a=0
 | [],_,_=>rfl
 | t::L,a,h=>by
  show(if t.1=j then _ else 0)+tI j L (a+1)=0;rw[if_neg (h t (Bu ..)),wT fun t ht=>h t (Bj _ ht)]
structure KZ(r:Nat)(p:Int)(L:List dH):Prop where
 par:∀t∈L,t.1=p∨((r:Int)≤t.1∧t.1<((r+L.length:Nat):Int))
 sz:∀ (j:Nat) (t:dH),L[j]? =some t→t.2.2=((r+j+tI ((r+j:Nat):Int) L r:Nat):Int)∧t.2.2<((r+L.length:Nat):Int)
 all:tI p L r=L.length
 nest:∀ (j q:Nat) (t u:dH),L[j]? =some t→L[q]? =some u→j<q→((r+q:Nat):Int)≤t.2.2→((r+j:Nat):Int)≤u.1
theorem KZ.nil{r:Nat}{p:Int}:KZ r p []:=⟨fun t ht=>(by cases ht),fun j t h=>(by simp at h),rfl,fun j q t u h=>(by simp at h)⟩
theorem KZ.app{r:Nat}{p:Int}{L M:List dH}(hp:p<(r:Int))(h1:KZ r p L)(h2:KZ (r+L.length) p M):KZ r p (L++M):=by
 refine⟨fun t ht=>?_,fun j t hj=>?_,by rw[aDr,h1.all,h2.all,Am],fun j q t u hj hq hlt hle=>?_⟩
 ·rw[Am];rcases Bx.1 ht with h | h
  ·rcases h1.par t h with e | e
   ·exact .inl e
   ·exact .inr (by omega)
  ·rcases h2.par t h with e | e
   ·exact .inl e
   ·exact .inr (by omega)
 ·rw[Am,aDr];by_cases hlt:j<L.length
  ·rw[Bg hlt] at hj;obtain⟨a,b⟩:=h1.sz j t hj;rw[wT (L:=M) fun t ht=>by
    rcases h2.par t ht with e | e
    ·omega
    ·omega,Br]
   exact⟨a,by omega⟩
  ·rw[Bd (by omega)] at hj;obtain⟨a,b⟩:=h2.sz (j - L.length) t hj;rw[show r+L.length+(j - L.length)=r+j by omega] at a;rw[wT (L:=L) fun t ht=>by
    rcases h1.par t ht with e | e
    ·omega
    ·omega,Ao]
   exact⟨a,by omega⟩
 ·by_cases hj1:j<L.length
  ·rw[Bg hj1] at hj;have:=(h1.sz j t hj).2;rw[Bg (by omega)] at hq;exact h1.nest j q t u hj hq hlt hle
  ·rw[Bd (by omega)] at hj hq;have:=h2.nest _ _ t u hj hq (by omega) (by rw[show r+L.length+(q - L.length)=r+q by omega];exact hle)
   rwa [show r+L.length+(j - L.length)=r+j by omega] at this
theorem aH0{rec:Nat→Option (List dH)}{p:Int}(hr:∀ (r:Nat) (L:List dH),p<(r:Int)→rec r=some L→KZ r p L):∀ {l:List Int} {r:Nat} {L:List dH},p<(r:Int)→iP rec l r=some L→KZ r p L
 | [],r,L,_,h=>by
  have h:some []=some L:=h;cases h;exact KZ.nil
 | c::l,r,L,hp,h=>by
  simp only[iP] at h;split at h
  ·obtain⟨L1,h1,h2⟩:=Db.1 h;obtain⟨L2,h3,rfl⟩:=Aw.1 h2;exact(hr r L1 hp h1).app hp (aH0 hr (by omega) h3)
  ·cases h
theorem aAf{N:Nat}{nx:Nat→List Int}:∀ {f at_:Nat} {p d:Int} {T:List dH},p<(at_:Int)→fO N nx f at_ p d=some T→KZ at_ p T
 | 0,_,_,_,_,_,h=>by cases h
 | f+1,at_,p,d,T,hp,h=>by
  simp only[fO] at h;split at h
  ·obtain⟨L,h1,rfl⟩:=Aw.1 h;have k:=aH0 (p:=(at_:Int)) (fun r L hr hL=>aAf hr hL) (by omega) h1;refine⟨fun t ht=>?_,fun j t hj=>?_,?_,fun j q t u hj hq hlt hle=>?_⟩
   ·rw[Ay];rcases Bm.1 ht with rfl | ht
    ·exact .inl rfl
    ·rcases k.par t ht with e | e
     ·exact .inr (by omega)
     ·exact .inr (by omega)
   ·rw[Ay];cases j with
    | zero=>
     cases hj;rw[Br];show((at_+L.length:Nat):Int)=((at_+((if p=((at_:Nat):Int) then _ else 0)+tI _ L (at_+1)):Nat):Int)∧_;rw[if_neg (by omega),Ao,k.all];exact⟨rfl,by show((at_+L.length:Nat):Int)<_;omega⟩
    | succ j=>
     obtain⟨a,b⟩:=k.sz j t hj;show t.2.2=((at_+(j+1)+((if p=((at_+(j+1):Nat):Int) then _ else 0)+tI _ L (at_+1)):Nat):Int)∧_;rw[if_neg (by omega),Ao,a,show at_+1+j=at_+(j+1) by omega];exact⟨rfl,by rw[←show at_+1+j=at_+(j+1) by omega,←a];omega⟩
   ·show(if p=p then(((at_+L.length:Nat):Int)+1 - (at_:Int)).toNat else 0)+tI p L (at_+1)=L.length+1;rw[if_pos rfl,wT fun t ht=>by
     rcases k.par t ht with e | e
     ·omega
     ·omega]
    omega
   ·obtain⟨q,rfl⟩:∃q',q=q'+1:=⟨q - 1,by omega⟩;cases j with
    | zero=>
     have hq':L[q]? =some u:=hq;rcases k.par u (Bc hq') with e | e
     ·omega
     ·omega
    | succ j=>
     have hj':L[j]? =some t:=hj;have hq':L[q]? =some u:=hq;have:=k.nest j q t u hj' hq' (by omega) (by rw[show at_+1+q=at_+(q+1) by omega];exact hle)
     rwa [show at_+1+j=at_+(j+1) by omega] at this
  ·cases h
def mS(T:List dH)(i:Nat):Nat:=match T[i]? with | some t=>(t.2.2+1 - (i:Int)).toNat | none=>0
section
variable {T:List dH}
theorem aB0(k:KZ 0 (-1) T){i:Nat}(hi:i<T.length):mS T i=1+tI (i:Int) T 0∧mS T i≤T.length∧i+mS T i≤T.length:=by
 obtain⟨a,b⟩:=k.sz i T[i] (Ab hi);have e:mS T i=(T[i].2.2+1 - (i:Int)).toNat:=by unfold mS;rw[Ab hi]
 rw[Ao] at a b;omega
end
section
variable {one:aR}{seen:Bool}
end
section
variable {one:aR}{seen:Bool}
end
section
variable {one:aR}{seen:Bool}{c:Nat}
end
section
variable {one:aR}{seen:Bool}{c:Nat}{T:List dH}
end
end Go.Ev.Gl
