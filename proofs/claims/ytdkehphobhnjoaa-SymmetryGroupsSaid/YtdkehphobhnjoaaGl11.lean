import Derived.Test.YtdkehphobhnjoaaGl10
set_option maxHeartbeats 16000000
set_option linter.unusedSimpArgs false
set_option linter.unusedVariables false
namespace Go.Ev.Gl
variable {fns:T dE}
structure aNZ(g:aW):Prop where
 good:fC g
 knd:∀i,i<g.nodes.length→(nodeAt g i).kind=1∨(nodeAt g i).kind=2∨(nodeAt g i).kind=3
 chn:∀i,i<g.nodes.length→(nodeAt g i).kind=1→(∀w∈(nodeAt g i).weights,1≤w∧w≤1000)∧1≤(nodeAt g i).next.length∧(nodeAt g i).next.length≤60
 mov:∀i,i<g.nodes.length→(nodeAt g i).kind=2→1≤(nodeAt g i).next.length∧(nodeAt g i).next.length≤10
 fin:∀i,i<g.nodes.length→(nodeAt g i).kind=3→(nodeAt g i).next= []
 prs:1≤g.players∧g.players≤4
 pay:∀i,i<g.nodes.length→(nodeAt g i).kind=3→(((nodeAt g i).pay.length:Nat):Int)=g.players
theorem aEZ{g:aW}(h:cM g=0):aNZ g:=by
 have G:=kA h;unfold cM at h;split at h
 ·cases h
 rename_i hb;split at h
 ·rename_i h1;exact absurd h h1
 rename_i hN;have hN:=Du.1 hN;unfold kO at hb;have hE:∀i,i<g.nodes.length→fM g.players g.infos.length (nodeAt g i)=0:=fun i hi=>fZ hN _ (Bm (eC hi));refine⟨G,fun i hi=>?_,fun i hi hk=>?_,fun i hi hk=>?_,fun i hi hk=>?_,by omega,fun i hi hk=>?_⟩
 ·have:=hE i hi;unfold fM at this;split at this
  ·rename_i h1;exact .inl h1
  ·split at this
   ·rename_i h1;exact .inr (.inl h1)
   ·split at this
    ·rename_i h1;exact .inr (.inr h1)
    ·cases this
 ·have:=hE i hi;unfold fM at this;rw[if_pos hk] at this;split at this
  ·cases this
  ·rename_i hc;unfold kT at hc;split at this
   ·cases this
   ·rename_i ha;refine⟨fun w hw=>?_,by omega,by omega⟩;have hna:¬ (w<1∨1000<w):=fun h=>ha ⟨w,hw,h⟩;omega
 ·have:=hE i hi;unfold fM at this;rw[if_neg (by omega),if_pos hk] at this;split at this
  ·cases this
  ·rename_i hc;unfold sK at hc;omega
 ·have:=hE i hi;unfold fM at this;rw[if_neg (by omega),if_neg (by omega),if_pos hk] at this;split at this
  ·cases this
  ·rename_i hc;unfold lD at hc;exact Cg.1 (by omega)
 ·have:=hE i hi;unfold fM at this;rw[if_neg (by omega),if_neg (by omega),if_pos hk] at this;split at this
  ·cases this
  ·rename_i hc;unfold lD at hc;omega
section
variable {g:aW}{pr:Nat→Nat}
end
end Go.Ev.Gl
