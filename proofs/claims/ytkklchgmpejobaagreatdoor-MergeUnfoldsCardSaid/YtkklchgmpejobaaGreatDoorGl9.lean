import Derived.Test.YtkklchgmpejobaaGreatDoorGl8
set_option maxHeartbeats 16000000
set_option linter.unusedSimpArgs false
set_option linter.unusedVariables false
namespace Go.Ev.Gl
variable {fns:T cW}
def nodeAt(g:bC)(i:Nat):bO:=g.nodes.getD i ⟨0,0,0,[],[],[]⟩
def aAA(g:bC)(s:Nat):Nat:=lS g.nodes 0 s - 1
theorem aAw{g:bC}{i:Nat}{x:bO}(h:g.nodes[i]? =some x):nodeAt g i=x:=by unfold nodeAt;rw[Ag,h];rfl
theorem cM{g:bC}{i:Nat}(h:i<g.nodes.length):g.nodes[i]? =some (nodeAt g i):=by unfold nodeAt;rw[Ag,Ad h];rfl
theorem aEM(g:bC)(i:Nat):gN g i=(nodeAt g i).next:=by
 unfold gN nodeAt;rw[Ag];cases g.nodes[i]? <;>rfl
theorem aEV{i:Nat}:∀ {l:List bO} {s:Nat},lS l s i≠0→∃j x,l[j]? =some x∧lS l s i=s+j+1∧x.kind=2∧x.info=(i:Int)
 | [],s,h=>absurd rfl h
 | x::l,s,h=>by
  simp only[lS] at h ⊢;by_cases hx:x.kind=2∧x.info=(i:Int)
  ·rw[if_pos hx];exact⟨0,x,rfl,rfl,hx.1,hx.2⟩
  ·rw[if_neg hx] at h ⊢;obtain⟨j,y,h1,h2,h3,h4⟩:=aEV h;exact⟨j+1,y,by rw[Dw];exact h1,by rw[h2];omega,h3,h4⟩
theorem aK5{ps:Int}{ni:Nat}{x:bO}(h:iA ps ni x=0)(hp:ps≤4):x.pay.length≤4:=by
 unfold iA at h;split at h
 ·split at h
  ·cases h
  ·rename_i hb;unfold mS at hb;omega
 ·split at h
  ·split at h
   ·cases h
   ·rename_i hb;unfold xP at hb;omega
  ·split at h
   ·split at h
    ·cases h
    ·rename_i hb;unfold oG at hb;omega
   ·cases h
structure vN(g:bC):Prop where
 n1:0<g.nodes.length
 n2:g.nodes.length≤2000
 ni:g.infos.length≤200
 nxt:∀i,i<g.nodes.length→(nodeAt g i).next.length≤1000
 pay:∀i,i<g.nodes.length→(nodeAt g i).pay.length≤4
 wts:∀i,i<g.nodes.length→(nodeAt g i).kind=1→(nodeAt g i).weights.length=(nodeAt g i).next.length
 inf:∀i,i<g.nodes.length→(nodeAt g i).kind=2→0≤(nodeAt g i).info∧(nodeAt g i).info<g.infos.length∧(infoAt g (nodeAt g i).info).actions=(((nodeAt g i).next.length:Nat):Int)
 fst:∀s,s<g.infos.length→aAA g s<g.nodes.length∧(nodeAt g (aAA g s)).kind=2∧(nodeAt g (aAA g s)).info=(s:Int)
 walk:∃T,oR g=some T∧T.length=g.nodes.length∧WF (gN g) 0 (-1) T
theorem xU{g:bC}(h:fH g=0):vN g:=by
 unfold fH at h;split at h
 ·cases h
 rename_i hb;split at h
 ·rename_i h1;exact absurd h h1
 rename_i hN;have hN:=Decidable.not_not.1 hN;cases hW:oR g with
 | none=>rw[hW] at h;cases h
 | some T=>
  rw[hW] at h;simp only at h;split at h
  ·cases h
  rename_i hT;split at h
  ·cases h
  unfold aAH at h;split at h
  ·cases h
  rename_i hmis;split at h
  ·cases h
  rename_i hfst;unfold mG at hb;have hmem:∀i,i<g.nodes.length→nodeAt g i∈g.nodes:=fun i hi=>Ao (cM hi);refine⟨by omega,by omega,by omega,fun i hi=>aBH (iW hN _ (hmem i hi)),fun i hi=>aK5 (iW hN _ (hmem i hi)) (by omega),fun i hi hk=>?_,fun i hi hk=>?_,fun s hs=>?_,T,hW,by omega,?_⟩
  ·have:=iW hN _ (hmem i hi);unfold iA at this;rw[if_pos hk] at this;split at this
   ·cases this
   ·rename_i hc;unfold mS at hc;omega
  ·obtain⟨a,b⟩:=aBC (iW hN _ (hmem i hi)) hk;refine⟨a,b,Decidable.byContradiction fun hne=>hmis ⟨_,hmem i hi,hk,fun hh=>hne hh.2⟩⟩
  ·have hne:lS g.nodes 0 s≠0:=fun e=>hfst (by
    unfold fT;exact Ee.2 ⟨s,Et.2 hs,by rw[e];rfl⟩)
   obtain⟨j,x,h1,h2,h3,h4⟩:=aEV hne;have e:aAA g s=j:=by unfold aAA;omega
   rw[e,aAw h1];exact⟨(Af.1 h1).1,h3,h4⟩
  ·unfold oR at hW;exact aCU hW
section
variable {g:bC}{m:List Int}{V V':Nat→Prop}{W W':Nat→Nat→Prop}{I F:List Int}{A:List (List Int)}
end
section
variable {S0 X X':St}{bs:Nat→Nat}{cs:List AV}{A:List (List Int)}
end
theorem iD.move{k n:Nat}{S0 S S':St}{v:AV}{cs:List AV}(h:iD k S0 S v n cs)(hn:S.nx≤S'.nx)(hh:∀c,aX v=some c→S'.h.get c=S.h.get c):iD k S0 S' v n cs:=by
 rcases h with h | ⟨b,rfl,h2,h3,h4,h5⟩
 ·exact .inl h
 ·exact .inr ⟨b,rfl,h2,Ae h3 hn,(hh b rfl).trans h4,h5⟩
theorem bI.place{k:IntKind}{S:St}{v:AV}{l:List Int}(h:bI k S v l){i:Nat}(hi:i<l.length):∃b p,aAY v i= .ptr b p∧b<S.nx:=by
 rcases h with⟨h0,_⟩ | ⟨b,off,cap,o,cs,rfl,_,hb,_⟩
 ·rw[h0] at hi;exact absurd hi (Nat.not_lt_zero _)
 ·exact⟨b,_,rfl,hb⟩
theorem aAo{h:Ev.T AB}{b p sz:Nat}{l:List Int}{o:Bool}(hb:h.get b=some (.cells (bF l) o sz))(hp:p<l.length):cE (.ptr b p) false 1 h=some (.int .i64 (l.getD p 0)):=fU hb (by
 unfold bF;rw[Bc,Ad hp,Ag,Ad hp];rfl)
section
variable {g:bC}{m:List Int}{I F:List Int}{A:List (List Int)}{n e:Nat}
end
end Go.Ev.Gl
