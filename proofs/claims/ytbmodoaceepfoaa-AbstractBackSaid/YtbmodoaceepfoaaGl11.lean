import Derived.Test.YtbmodoaceepfoaaGl10
set_option linter.all false
set_option maxHeartbeats 0
namespace Go.Ev.Gl
variable {fns:T eY}
variable {g:aX}
structure aOk(g:aX):Prop where
 good:eO g
 knd:∀i,i<g.cg.length->(cu g i).kind=1\/(cu g i).kind=2\/(cu g i).kind=3
 chn:∀i,i<g.cg.length->(cu g i).kind=1->(∀w∈(cu g i).weights,1<=w/\w<=1000)/\1<=(cu g i).next.length/\(cu g i).next.length<=60
 mov:∀i,i<g.cg.length->(cu g i).kind=2->1<=(cu g i).next.length/\(cu g i).next.length<=10
 fin:∀i,i<g.cg.length->(cu g i).kind=3->(cu g i).next= []
 prs:1<=g.cm/\g.cm<=4
 pay:∀i,i<g.cg.length->(cu g i).kind=3->(((cu g i).pay.length:Nat):Int)=g.cm
def uU(h:dC g=0):aOk g:=by
 have G:=iN h;unfold dC at h;split at h
 .cases h
 rename_i f;split at h
 .rename_i a;exact absurd h a
 rename_i e;have e:=Dx.1 e;unfold nL at f;have d:∀i,i<g.cg.length->gQ g.cm g.ch.length (cu g i)=0:=fun i hi=>jF e _ (Ar (dI hi));refine⟨G,fun i hi=>?_,fun i hi b=>?_,fun i hi b=>?_,fun i hi b=>?_,au,fun i hi b=>?_⟩
 .have:=d i hi;unfold gQ at this;split at this
  .rename_i a;exact .inl a
  .split at this
   .rename_i a;exact .inr (.inl a)
   .split at this
    .rename_i a;exact .inr (.inr a)
    .cases this
 .have:=d i hi;unfold gQ at this;rw[if_pos b] at this;split at this
  .cases this
  .rename_i c;unfold oL at c;split at this
   .cases this
   .rename_i j;refine⟨fun w k=>?_,au,au⟩;have l:¬ (w<1\/1000<w):=fun h=>j ⟨w,k,h⟩;omega
 .have:=d i hi;unfold gQ at this;rw[if_neg au,if_pos b] at this;split at this
  .cases this
  .rename_i c;unfold vD at c;omega
 .have:=d i hi;unfold gQ at this;rw[if_neg au,if_neg au,if_pos b] at this;split at this
  .cases this
  .rename_i c;unfold oM at c;exact Bo.1 au
 .have:=d i hi;unfold gQ at this;rw[if_neg au,if_neg au,if_pos b] at this;split at this
  .cases this
  .rename_i c;unfold oM at c;omega
def aLR(G:eO g){j:Nat}(c:0<j)(i:j<g.cg.length):∃q k,q<j/\k<(cu g q).next.length/\(cu g q).next.getD k 0=(j:Int):=by
 have⟨T,_,d,e⟩:=G.walk;have⟨q,f,_,a⟩:=e.pf j c au;rw[Am,Am,gR] at a;have⟨k,b,h⟩:=Dv.1 a;exact⟨q,k,f,b,by rw[Ad,Ab b];exact h⟩
def aJN(b:Bool):(AV.bool b).cells=some [.bool b]:=rfl
end Go.Ev.Gl
