import Derived.Test.YtkklchgmpejobaaDoorGl8
set_option maxHeartbeats 16000000
set_option linter.unusedSimpArgs false
set_option linter.unusedVariables false
namespace Go.Ev.Gl
variable {fns:T cR}
def nodeAt(g:aZ)(i:Nat):dD:=g.nodes.getD i ⟨0,0,0,[],[],[]⟩
def zA(g:aZ)(s:Nat):Nat:=kJ g.nodes 0 s - 1
theorem aGv{g:aZ}{i:Nat}{x:dD}(h:g.nodes[i]? =some x):nodeAt g i=x:=by unfold nodeAt;rw[Ai,h];rfl
theorem dP{g:aZ}{i:Nat}(h:i<g.nodes.length):g.nodes[i]? =some (nodeAt g i):=by unfold nodeAt;rw[Ai,Ad h];rfl
theorem aDm(g:aZ)(i:Nat):fS g i=(nodeAt g i).next:=by
 unfold fS nodeAt;rw[Ai];cases g.nodes[i]? <;>rfl
theorem aDg{i:Nat}:∀ {l:List dD} {s:Nat},kJ l s i≠0→∃j x,l[j]? =some x∧kJ l s i=s+j+1∧x.kind=2∧x.info=(i:Int)
 | [],s,h=>absurd rfl h
 | x::l,s,h=>by
  simp only[kJ] at h ⊢;by_cases hx:x.kind=2∧x.info=(i:Int)
  ·rw[if_pos hx];exact⟨0,x,rfl,rfl,hx.1,hx.2⟩
  ·rw[if_neg hx] at h ⊢;obtain⟨j,y,h1,h2,h3,h4⟩:=aDg h;exact⟨j+1,y,by rw[List.getElem?_cons_succ];exact h1,by rw[h2];omega,h3,h4⟩
theorem aJP{ps:Int}{ni:Nat}{x:dD}(h:fX ps ni x=0)(hp:ps≤4):x.pay.length≤4:=by
 unfold fX at h;split at h
 ·split at h
  ·cases h
  ·rename_i hb;unfold kS at hb;omega
 ·split at h
  ·split at h
   ·cases h
   ·rename_i hb;unfold tY at hb;omega
  ·split at h
   ·split at h
    ·cases h
    ·rename_i hb;unfold lW at hb;omega
   ·cases h
structure sQ(g:aZ):Prop where
 n1:0<g.nodes.length
 n2:g.nodes.length≤2000
 ni:g.infos.length≤200
 nxt:∀i,i<g.nodes.length→(nodeAt g i).next.length≤1000
 pay:∀i,i<g.nodes.length→(nodeAt g i).pay.length≤4
 wts:∀i,i<g.nodes.length→(nodeAt g i).kind=1→(nodeAt g i).weights.length=(nodeAt g i).next.length
 inf:∀i,i<g.nodes.length→(nodeAt g i).kind=2→0≤(nodeAt g i).info∧(nodeAt g i).info<g.infos.length∧(infoAt g (nodeAt g i).info).actions=(((nodeAt g i).next.length:Nat):Int)
 fst:∀s,s<g.infos.length→zA g s<g.nodes.length∧(nodeAt g (zA g s)).kind=2∧(nodeAt g (zA g s)).info=(s:Int)
 walk:∃T,mH g=some T∧T.length=g.nodes.length∧WF (fS g) 0 (-1) T
theorem jZ{g:aZ}(h:dR g=0):sQ g:=by
 unfold dR at h;split at h
 ·cases h
 rename_i hb;split at h
 ·rename_i h1;exact absurd h h1
 rename_i hN;have hN:=Decidable.not_not.1 hN;cases hW:mH g with
 | none=>rw[hW] at h;cases h
 | some T=>
  rw[hW] at h;simp only at h;split at h
  ·cases h
  rename_i hT;split at h
  ·cases h
  unfold xZ at h;split at h
  ·cases h
  rename_i hmis;split at h
  ·cases h
  rename_i hfst;unfold kD at hb;have hmem:∀i,i<g.nodes.length→nodeAt g i∈g.nodes:=fun i hi=>Bc (dP hi);refine⟨by omega,by omega,by omega,fun i hi=>aAt (gR hN _ (hmem i hi)),fun i hi=>aJP (gR hN _ (hmem i hi)) (by omega),fun i hi hk=>?_,fun i hi hk=>?_,fun s hs=>?_,T,hW,by omega,?_⟩
  ·have:=gR hN _ (hmem i hi);unfold fX at this;rw[if_pos hk] at this;split at this
   ·cases this
   ·rename_i hc;unfold kS at hc;omega
  ·obtain⟨a,b⟩:=zP (gR hN _ (hmem i hi)) hk;refine⟨a,b,Decidable.byContradiction fun hne=>hmis ⟨_,hmem i hi,hk,fun hh=>hne hh.2⟩⟩
  ·have hne:kJ g.nodes 0 s≠0:=fun e=>hfst (by
    unfold fA;exact Ea.2 ⟨s,Eh.2 hs,by rw[e];rfl⟩)
   obtain⟨j,x,h1,h2,h3,h4⟩:=aDg hne;have e:zA g s=j:=by unfold zA;omega
   rw[e,aGv h1];exact⟨(Af.1 h1).1,h3,h4⟩
  ·unfold mH at hW;exact aBG hW
section
variable {g:aZ}{m:List Int}{V V':Nat→Prop}{W W':Nat→Nat→Prop}{I F:List Int}{A:List (List Int)}
end
section
variable {S0 X X':St}{bs:Nat→Nat}{cs:List AV}{A:List (List Int)}
end
theorem gI.move{k n:Nat}{S0 S S':St}{v:AV}{cs:List AV}(h:gI k S0 S v n cs)(hn:S.nx≤S'.nx)(hh:∀c,aY v=some c→S'.h.get c=S.h.get c):gI k S0 S' v n cs:=by
 rcases h with h | ⟨b,rfl,h2,h3,h4,h5⟩
 ·exact .inl h
 ·exact .inr ⟨b,rfl,h2,Ae h3 hn,(hh b rfl).trans h4,h5⟩
theorem aHs{h:Ev.T AB}{b p sz:Nat}{l:List Int}{o:Bool}(hb:h.get b=some (.cells (bF l) o sz))(hp:p<l.length):cJ (.ptr b p) false 1 h=some (.int .i64 (l.getD p 0)):=gS hb (by
 unfold bF;rw[Bb,Ad hp,Ai,Ad hp];rfl)
section
variable {g:aZ}{m:List Int}{I F:List Int}{A:List (List Int)}{n e:Nat}
end
end Go.Ev.Gl
