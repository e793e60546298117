import Derived.Test.YtbmodoaceepfoaaGl10
set_option linter.all false
set_option maxHeartbeats 0
namespace Go.Ev.Gl
variable {g:aP}
structure aGe(g:aP):Prop where
 good:cV g
 knd:∀i,i<g.ce.length->(ct g i).jk=1\/(ct g i).jk=2\/(ct g i).jk=3
 chn:∀i,i<g.ce.length->(ct g i).jk=1->(∀w∈(ct g i).jm,1<=w/\w<=1000)/\1<=(ct g i).ji.length/\(ct g i).ji.length<=60
 mov:∀i,i<g.ce.length->(ct g i).jk=2->1<=(ct g i).ji.length/\(ct g i).ji.length<=10
 fin:∀i,i<g.ce.length->(ct g i).jk=3->(ct g i).ji= []
 prs:1<=g.ch/\g.ch<=4
 jn:∀i,i<g.ce.length->(ct g i).jk=3->(((ct g i).jn.length:Nat):Int)=g.ch
def sH(h:cR g=0):aGe g:=by
 have G:=gR h;unfold cR at h;split at h
 .cases h
 rename_i f;split at h
 .rename_i a;exact absurd h a
 rename_i e;have e:=Ed.1 e;unfold nO at f;have d:∀i,i<g.ce.length->gS g.ch g.cg.length (ct g i)=0:=fun i hi=>jF e _ (Bb (cU hi));refine⟨G,fun i hi=>?_,fun i hi b=>?_,fun i hi b=>?_,fun i hi b=>?_,au,fun i hi b=>?_⟩
 .have:=d i hi;unfold gS at this;split at this
  .rename_i a;exact .inl a
  .split at this
   .rename_i a;exact .inr (.inl a)
   .split at this
    .rename_i a;exact .inr (.inr a)
    .cases this
 .have:=d i hi;unfold gS at this;rw[if_pos b] at this;split at this
  .cases this
  .rename_i c;unfold oS at c;split at this
   .cases this
   .rename_i j;refine⟨fun w k=>?_,au,au⟩;have l:¬ (w<1\/1000<w):=fun h=>j ⟨w,k,h⟩;omega
 .have:=d i hi;unfold gS at this;rw[if_neg au,if_pos b] at this;split at this
  .cases this
  .rename_i c;unfold uV at c;omega
 .have:=d i hi;unfold gS at this;rw[if_neg au,if_neg au,if_pos b] at this;split at this
  .cases this
  .rename_i c;unfold oT at c;exact Bj.1 au
 .have:=d i hi;unfold gS at this;rw[if_neg au,if_neg au,if_pos b] at this;split at this
  .cases this
  .rename_i c;unfold oT at c;omega
def zT(G:cV g){j:Nat}(c:0<j)(i:j<g.ce.length):∃q k,q<j/\k<(ct g q).ji.length/\(ct g q).ji.getD k 0=(j:Int):=by
 have⟨T,_,d,e⟩:=G.walk;have⟨q,f,_,a⟩:=e.pf j c au;rw[An,An,iJ] at a;have⟨k,b,h⟩:=Dj.1 a;exact⟨q,k,f,b,by rw[Ad,Ab b];exact h⟩
def aJ8(b:Bool):(AV.bool b).cells=some [.bool b]:=rfl
end Go.Ev.Gl
