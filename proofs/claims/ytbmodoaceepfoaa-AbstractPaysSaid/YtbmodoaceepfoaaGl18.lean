import Derived.Test.YtbmodoaceepfoaaGl17
set_option linter.all false
set_option maxHeartbeats 0
namespace Go.Ev.Gl
variable {i:Nat}{g:aP}
def aLy{l:List cD}:∀ {s:Nat},kQ l s i≠0->∃x∈l,x.jk=2/\x.jj=(i:Int):=by
 induction l with
 | nil=>intro s h;exact absurd rfl h
 | cons x l a=>
  intro s h;unfold kQ at h;by_cases e:x.jk=2/\x.jj=(i:Int)
  .exact⟨x,Be ..,e⟩
  .rw[if_neg e] at h;have⟨y,c,d⟩:=a h;exact⟨y,Az _ c,d⟩
def aMP(h:cR g=0)(hi:i<g.cg.length):∃x∈g.ce,x.jk=2/\x.jj=(i:Int):=by
 unfold cR at h;split at h
 .cases h
 split at h
 .rename_i a;exact absurd h a
 split at h
 .cases h
 split at h
 .cases h
 split at h
 .cases h
 unfold wU at h;split at h
 .cases h
 split at h
 .cases h
 rename_i c;refine aLy (s:=0) fun e=>c ?_;unfold gH;exact Cp.2 ⟨i,Dp.2 hi,by rw[e];rfl⟩
def aKw(h:cR g=0)(d:∀x∈g.ce,gN g.ch g.cg x)(hi:i<g.cg.length):1<=(cu g (i:Int)).cm/\(cu g (i:Int)).cm<=3:=by
 have⟨x,e,k,f⟩:=aMP h hi;rcases d x e with a|a|a
 .have:=a.jk;omega
 .have:=a.jk;omega
 .have c:=a.at_;rw[f,Am] at c;have j:cu g (i:Int)=⟨x.jl,(x.ji.length:Int)⟩:=by
   unfold cu;rw[Am,Ad,c];rfl
  rw[j];have:=a.n1;have:=a.n2;exact⟨by show 1<=(x.ji.length:Int);omega,by show(x.ji.length:Int)<=3;omega⟩
def aUv{t:Nat}{F:Fr}{h:Ev.T AB}{a:AV}(c:aA t F=a)(d:a.cells=some [a]):iC (.build [.cr,jr 0] [(0,1,.t t)]) F h=some (.agg [a,jr 0]):=by
 show(bD (eO _ (dN F [(0,1,.t t)])) fun cs=>some (AV.agg cs))=_;simp only[dN,show(cQ.t t).val F=a from c,eO,d,aH];rfl
def aMr{n j:Nat}(h:j<n):(List.replicate n (0:Int)).getD j 0=0:=by
 rw[Ad,Cj,if_pos h];rfl
def oP{l m:bt}(h:l.length=m.length)(c:∀j,j<l.length->l.getD j 0=m.getD j 0):l=m:=by
 refine En h fun j a d=>?_;have:=c j a;rw[Ad,Ad,Ab a,Ab d] at this;exact this
end Go.Ev.Gl
