import Derived.Test.YtoojnpjgnnpllaaGl10
set_option maxHeartbeats 16000000
set_option linter.unusedSimpArgs false
set_option linter.unusedVariables false
namespace Go.Ev.Gl
variable {fns:T eG}
structure aIx(g:aR):Prop where
 good:dL g
 knd:∀i,i<g.nodes.length→(nodeAt g i).kind=1∨(nodeAt g i).kind=2∨(nodeAt g i).kind=3
 chn:∀i,i<g.nodes.length→(nodeAt g i).kind=1→(∀w∈(nodeAt g i).weights,1≤w∧w≤1000)∧1≤(nodeAt g i).next.length∧(nodeAt g i).next.length≤60
 mov:∀i,i<g.nodes.length→(nodeAt g i).kind=2→1≤(nodeAt g i).next.length∧(nodeAt g i).next.length≤10
 fin:∀i,i<g.nodes.length→(nodeAt g i).kind=3→(nodeAt g i).next= []
 prs:1≤g.players∧g.players≤4
 pay:∀i,i<g.nodes.length→(nodeAt g i).kind=3→(((nodeAt g i).pay.length:Nat):Int)=g.players
theorem vS{g:aR}(h:cP g=0):aIx g:=by
 have G:=iK h;unfold cP at h;split at h
 ·cases h
 rename_i hb;split at h
 ·rename_i h1;exact absurd h h1
 rename_i hN;have hN:=Cu.1 hN;unfold lP at hb;have hE:∀i,i<g.nodes.length→gK g.players g.infos.length (nodeAt g i)=0:=fun i hi=>gN hN _ (Bc (eR hi));refine⟨G,fun i hi=>?_,fun i hi hk=>?_,fun i hi hk=>?_,fun i hi hk=>?_,by omega,fun i hi hk=>?_⟩
 ·have:=hE i hi;unfold gK at this;split at this
  ·rename_i h1;exact .inl h1
  ·split at this
   ·rename_i h1;exact .inr (.inl h1)
   ·split at this
    ·rename_i h1;exact .inr (.inr h1)
    ·cases this
 ·have:=hE i hi;unfold gK at this;rw[if_pos hk] at this;split at this
  ·cases this
  ·rename_i hc;unfold mK at hc;split at this
   ·cases this
   ·rename_i ha;refine⟨fun w hw=>?_,by omega,by omega⟩;have hna:¬ (w<1∨1000<w):=fun h=>ha ⟨w,hw,h⟩;omega
 ·have:=hE i hi;unfold gK at this;rw[if_neg (by omega),if_pos hk] at this;split at this
  ·cases this
  ·rename_i hc;unfold vF at hc;omega
 ·have:=hE i hi;unfold gK at this;rw[if_neg (by omega),if_neg (by omega),if_pos hk] at this;split at this
  ·cases this
  ·rename_i hc;unfold mT at hc;exact Bw.1 (by omega)
 ·have:=hE i hi;unfold gK at this;rw[if_neg (by omega),if_neg (by omega),if_pos hk] at this;split at this
  ·cases this
  ·rename_i hc;unfold mT at hc;omega
theorem aJm{g:aR}(G:dL g){j:Nat}(h0:0<j)(hj:j<g.nodes.length):∃q k,q<j∧k<(nodeAt g q).next.length∧(nodeAt g q).next.getD k 0=(j:Int):=by
 obtain⟨T,_,hTl,hW⟩:=G.walk;obtain⟨q,h1,_,h3⟩:=hW.pf j h0 (by omega);rw[Ao,Ao,iV] at h3;obtain⟨k,hk,he⟩:=En.1 h3;exact⟨q,k,h1,hk,by rw[Ad,Ab hk];exact he⟩
section
variable {g:aR}{pr:Nat→Nat}
end
end Go.Ev.Gl
