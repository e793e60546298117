import Derived.Test.YtdkehphobhnjoaaGl10
set_option maxHeartbeats 0
set_option linter.unusedSimpArgs false
set_option linter.unusedVariables false
namespace Go.Ev.Gl
variable {fns:T dU}
structure aRy(g:bD):Prop where
 good:eY g
 knd:∀i,i<g.bk.length->(cd g i).kind=1\/(cd g i).kind=2\/(cd g i).kind=3
 chn:∀i,i<g.bk.length->(cd g i).kind=1->(∀w∈(cd g i).weights,1<=w/\w<=1000)/\1<=(cd g i).next.length/\(cd g i).next.length<=60
 mov:∀i,i<g.bk.length->(cd g i).kind=2->1<=(cd g i).next.length/\(cd g i).next.length<=10
 fin:∀i,i<g.bk.length->(cd g i).kind=3->(cd g i).next= []
 prs:1<=g.bo/\g.bo<=4
 pay:∀i,i<g.bk.length->(cd g i).kind=3->(((cd g i).pay.length:Nat):Int)=g.bo
theorem aMl{g:bD}(h:dB g=0):aRy g:=by
 have G:=iR h;unfold dB at h;split at h
 ·cases h
 rename_i hb;split at h
 ·rename_i h1;exact absurd h h1
 rename_i hN;have hN:=Ee.1 hN;unfold mQ at hb;have hE:∀i,i<g.bk.length->iC g.bo g.bn.length (cd g i)=0:=fun i hi=>jP hN _ (Bu (eK hi));refine⟨G,fun i hi=>?_,fun i hi hk=>?_,fun i hi hk=>?_,fun i hi hk=>?_,ay,fun i hi hk=>?_⟩
 ·have:=hE i hi;unfold iC at this;split at this
  ·rename_i h1;exact .inl h1
  ·split at this
   ·rename_i h1;exact .inr (.inl h1)
   ·split at this
    ·rename_i h1;exact .inr (.inr h1)
    ·cases this
 ·have:=hE i hi;unfold iC at this;rw[if_pos hk] at this;split at this
  ·cases this
  ·rename_i hc;unfold nJ at hc;split at this
   ·cases this
   ·rename_i ha;refine⟨fun w hw=>?_,ay,ay⟩;have hna:¬ (w<1\/1000<w):=fun h=>ha ⟨w,hw,h⟩;omega
 ·have:=hE i hi;unfold iC at this;rw[if_neg ay,if_pos hk] at this;split at this
  ·cases this
  ·rename_i hc;unfold vG at hc;omega
 ·have:=hE i hi;unfold iC at this;rw[if_neg ay,if_neg ay,if_pos hk] at this;split at this
  ·cases this
  ·rename_i hc;unfold oB at hc;exact Bv.1 ay
 ·have:=hE i hi;unfold iC at this;rw[if_neg ay,if_neg ay,if_pos hk] at this;split at this
  ·cases this
  ·rename_i hc;unfold oB at hc;omega
section
variable {g:bD}{pr:Nat->Nat}
end
theorem aI1(b:Bool):(AV.bool b).cells=some [.bool b]:=rfl
end Go.Ev.Gl
