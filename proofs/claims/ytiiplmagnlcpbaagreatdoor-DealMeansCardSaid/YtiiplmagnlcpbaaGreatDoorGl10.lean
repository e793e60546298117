import Derived.Test.YtiiplmagnlcpbaaGreatDoorGl9
set_option linter.unusedSimpArgs false
set_option linter.unusedVariables false
set_option maxHeartbeats 0
namespace Go.Ev.Gl
variable {fns:T dD}
section
variable {W:Nat->Prop}{S X Y:St}{b:Nat}
end
structure Lay where
 sb:Nat
 ob:Nat
 fb:Nat
 mb:Nat
 kb:Nat
 wb:Nat
 ib:Nat
 rb:Nat
 ab:Nat
 bs:Nat->Nat
 cs:bo
section
variable {L:Lay}{S0 S1 X Y:St}{n:Nat}{mv:AV}{I F:bm}{A:List (bm)}
end
end Go.Ev.Gl
namespace Go.Ev.Gl
theorem aLm{k:IntKind}{S:St}{v:AV}{l:bm}(h:bH 1 (aQp k) S v l):cH k S v l:=by
 rcases h with h | ⟨b,off,cap,o,cs,rfl,h2,h3,h4,h5⟩
 ·exact .inl h
 ·refine .inr ⟨b,off,cap,o,cs,rfl,h2,h3,h4,fun i x hi=>?_⟩;obtain⟨e,e1,e2,rfl,_⟩:=h5 i x hi;have:=e2 0 _ rfl;rw[Bt,Bm] at this;exact this
abbrev aIJ(k:IntKind):St->bo->bm->Prop:=aOX 1 (aQp k)
theorem aPZ{k:IntKind}{S:St}{avs:bo}{l:bm}(h:aIJ k S avs l):∃v,avs= [v]/\cH k S v l:=by
 have⟨v,h1,h2⟩:=aOX.is h;exact⟨v,h1,aLm h2⟩
section
variable {P:Program}{σ:Env}{S:St}{w:World}
theorem aM2{k:IntKind}{S:St}{avs:bo}{l:bm}(h:aIJ k S avs l):l.length<=140737488355328:=by
 have⟨_,_,h,_⟩:=h;omega
theorem aLg{t:TypeId}{k:IntKind}{H:Type}{enc:TypeId×Value->H}{base:Nat}{spare:Nat->Bool}{held:Bool}{fuel:Nat}{v:Value}{x:DataW H×List MemPlace}(hR:kT P σ S w)(hn:aBB S)(hf:lS S)(hG:P.globals.size<=S.nx)(hL:Lays P t (aIJ k))(h:DataW.trod enc P w base spare held fuel t v.cells.toList=some x)(hv:v.cells.toList= [v])(hW:∀n∈DataW.weights P t x.1,n<=140737488355328):
  ∃σ' S' a l,sH P σ S w σ' S'/\Rv P σ' a v/\cH k S' a l/\l.length<=140737488355328/\S.nx<=S'.nx:=by
 have⟨σ',S',avs,l,hA,hr,h1,hE,hnx⟩:=hL H enc σ S w base spare held fuel _ x hR hn hf hG h hW;have hb:=aM2 hE;obtain⟨a,rfl,i1⟩:=aPZ hE;rw[hv] at hr;have⟨_,_,h2,h3,h4⟩:=cS.1 hr;cases h2;exact⟨σ',S',a,l,hA,h3,i1,hb,hnx⟩
theorem aL2{t e:TypeId}{k:IntKind}(ht:P.underlying t=some (.slice e))(he:P.underlying e=some (.int k))(hc:P.cellsOf e=1)(hby:8<=P.bytesOf e):Lays P t (aIJ k):=aJH ht hc ay au (aPj he) aNR
end
end Go.Ev.Gl
