import Derived.Test.YtbmodoaceepfoaaGl17
set_option linter.all false
set_option maxHeartbeats 0
namespace Go.Ev.Gl
variable {fns:T eY}
variable {i:Nat}{g:aX}
theorem aLe{l:List cJ}:∀ {s:Nat},jA l s i≠0->∃x∈l,x.kind=2/\x.info=(i:Int):=by
 induction l with
 | nil=>intro s h;exact absurd rfl h
 | cons x l a=>
  intro s h;unfold jA at h;by_cases e:x.kind=2/\x.info=(i:Int)
  .exact⟨x,Bk ..,e⟩
  .rw[if_neg e] at h;have⟨y,c,d⟩:=a h;exact⟨y,Bf _ c,d⟩
def aMt(h:dC g=0)(hi:i<g.ch.length):∃x∈g.cg,x.kind=2/\x.info=(i:Int):=by
 unfold dC at h;split at h
 .cases h
 split at h
 .rename_i a;exact absurd h a
 split at h
 .cases h
 split at h
 .cases h
 split at h
 .cases h
 unfold vR at h;split at h
 .cases h
 split at h
 .cases h
 rename_i c;refine aLe (s:=0) fun e=>c ?_;unfold fL;exact Cq.2 ⟨i,Dk.2 hi,by rw[e];rfl⟩
def aKe(h:dC g=0)(d:∀x∈g.cg,kI g.cm g.ch x)(hi:i<g.ch.length):1<=(cv g (i:Int)).cr/\(cv g (i:Int)).cr<=3:=by
 have⟨x,e,k,f⟩:=aMt h hi;rcases d x e with a|a|a
 .have:=a.kind;omega
 .have:=a.kind;omega
 .have c:=a.at_;rw[f,Ay] at c;have j:cv g (i:Int)=⟨x.player,(x.next.length:Int)⟩:=by
   unfold cv;rw[Ay,Ad,c];rfl
  rw[j];have:=a.n1;have:=a.n2;exact⟨by show 1<=(x.next.length:Int);omega,by show(x.next.length:Int)<=3;omega⟩
def aTH{t:Nat}{F:Fr}{h:Ev.T AB}{a:AV}(c:aC t F=a)(d:a.cells=some [a]):gO (.build [.ct,je 0] [(0,1,.t t)]) F h=some (.agg [a,je 0]):=by
 show(bG (eI _ (dJ F [(0,1,.t t)])) fun cs=>some (AV.agg cs))=_;simp only[dJ,show(cT.t t).val F=a from c,eI,d,aH];rfl
def aL6{n j:Nat}(h:j<n):(List.replicate n (0:Int)).getD j 0=0:=by
 rw[Ad,Ch,if_pos h];rfl
def pT{l m:bu}(h:l.length=m.length)(c:∀j,j<l.length->l.getD j 0=m.getD j 0):l=m:=by
 refine Dc h fun j a d=>?_;have:=c j a;rw[Ad,Ad,Ab a,Ab d] at this;exact this
end Go.Ev.Gl
