import Derived.Test.YtbmodoaceepfoaaGl3
set_option linter.all false
set_option maxHeartbeats 0
namespace Go.Ev.Gl
variable {fns:T fD}
def rZ(b:Bool)(l:List cQ)(F:Fr)(h:T AB):iC (.dt b l) F h=oB b (dV l F):=rfl
def qH{W:Nat->Prop}{c:T AB}{base i:Nat}{l:List AO}{F:Fr}{S:St}{ps:List jD}{last:Option Nat}{Q:Fr->St->List jD->Prop}{d:Option Nat}{m t size bytes:Nat}{s x:cQ}{r:AV}{S1:St}(h:lL last m=true)(e:gQ bytes size (s.val F) (x.val F) ⟨(cN m ps S.h).2,S.nx⟩=some (r,S1))(f:aGK W base ⟨(cN m ps S.h).2,S.nx⟩ S1)(g:gO fns W c base l (i+1) (cT d F r) S1 (cN m ps S.h).1 (some i) Q):gO fns W c base (⟨d,.x (.app t size bytes s x),none,m⟩::l) i F S ps last Q:=by
 unfold gO;rw[if_pos (show fX none F=true from rfl)];exact⟨h,_,S1,fun call=>e,f,g⟩
def sO{t z:Nat}{c:bu}{F:Fr}{id:Nat}:uI (.c7 t z 0 c []) F id=some (.sl id 0 0 0 false,.cells [] false 0):=rfl
end Go.Ev.Gl
