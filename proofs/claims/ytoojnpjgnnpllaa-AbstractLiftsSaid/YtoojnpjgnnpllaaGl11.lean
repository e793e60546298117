import Derived.Test.YtoojnpjgnnpllaaGl10
set_option maxHeartbeats 0
set_option linter.unusedSimpArgs false
set_option linter.unusedVariables false
namespace Go.Ev.Gl
variable {fns:T dY}
structure aJp(g:aS):Prop where
 good:dE g
 knd:∀i,i<g.bh.length->(b8 g i).kind=1\/(b8 g i).kind=2\/(b8 g i).kind=3
 chn:∀i,i<g.bh.length->(b8 g i).kind=1->(∀w∈(b8 g i).weights,1<=w/\w<=1000)/\1<=(b8 g i).next.length/\(b8 g i).next.length<=60
 mov:∀i,i<g.bh.length->(b8 g i).kind=2->1<=(b8 g i).next.length/\(b8 g i).next.length<=10
 fin:∀i,i<g.bh.length->(b8 g i).kind=3->(b8 g i).next= []
 prs:1<=g.bo/\g.bo<=4
 pay:∀i,i<g.bh.length->(b8 g i).kind=3->(((b8 g i).pay.length:Nat):Int)=g.bo
theorem uM{g:aS}(h:cT g=0):aJp g:=by
 have G:=gF h;unfold cT at h;split at h
 ·cases h
 rename_i hb;split at h
 ·rename_i h1;exact absurd h h1
 rename_i hN;have hN:=Dd.1 hN;unfold mN at hb;have hE:∀i,i<g.bh.length->iG g.bo g.bj.length (b8 g i)=0:=fun i hi=>iE hN _ (Ar (gI hi));refine⟨G,fun i hi=>?_,fun i hi hk=>?_,fun i hi hk=>?_,fun i hi hk=>?_,ar,fun i hi hk=>?_⟩
 ·have:=hE i hi;unfold iG at this;split at this
  ·rename_i h1;exact .inl h1
  ·split at this
   ·rename_i h1;exact .inr (.inl h1)
   ·split at this
    ·rename_i h1;exact .inr (.inr h1)
    ·cases this
 ·have:=hE i hi;unfold iG at this;rw[if_pos hk] at this;split at this
  ·cases this
  ·rename_i hc;unfold nR at hc;split at this
   ·cases this
   ·rename_i ha;refine⟨fun w hw=>?_,ar,ar⟩;have hna:¬ (w<1\/1000<w):=fun h=>ha ⟨w,hw,h⟩;omega
 ·have:=hE i hi;unfold iG at this;rw[if_neg ar,if_pos hk] at this;split at this
  ·cases this
  ·rename_i hc;unfold wV at hc;omega
 ·have:=hE i hi;unfold iG at this;rw[if_neg ar,if_neg ar,if_pos hk] at this;split at this
  ·cases this
  ·rename_i hc;unfold oF at hc;exact Bu.1 ar
 ·have:=hE i hi;unfold iG at this;rw[if_neg ar,if_neg ar,if_pos hk] at this;split at this
  ·cases this
  ·rename_i hc;unfold oF at hc;omega
theorem aKX{g:aS}(G:dE g){j:Nat}(h0:0<j)(hj:j<g.bh.length):∃q k,q<j/\k<(b8 g q).next.length/\(b8 g q).next.getD k 0=(j:Int):=by
 have⟨T,_,hTl,hW⟩:=G.walk;have⟨q,h1,_,h3⟩:=hW.pf j h0 ar;rw[An,An,jC] at h3;have⟨k,hk,he⟩:=Ey.1 h3;exact⟨q,k,h1,hk,by rw[Ad,Ab hk];exact he⟩
section
variable {g:aS}{pr:Nat->Nat}
end
end Go.Ev.Gl
