import Derived.Test.YtbmodoaceepfoaaGl3
set_option linter.all false
set_option maxHeartbeats 0
namespace Go.Ev.Gl
variable {fns:T eY}
variable {F:Fr}{t:Nat}
def aAx(b:Bool)(l:List cT)(F:Fr)(h:T AB):gO (.dz b l) F h=nP b (eF l F):=rfl
def oS{W:Nat->Prop}{c:T AB}{base i:Nat}{l:List AO}{S:St}{ps:List iR}{last:Option Nat}{Q:Fr->St->List iR->Prop}{d:Option Nat}{m size bytes:Nat}{s x:cT}{r:AV}{S1:St}(h:kE last m=true)(e:gG bytes size (s.val F) (x.val F) ⟨(cP m ps S.h).2,S.nx⟩=some (r,S1))(f:aGA W base ⟨(cP m ps S.h).2,S.nx⟩ S1)(g:gF fns W c base l (i+1) (cU d F r) S1 (cP m ps S.h).1 (some i) Q):gF fns W c base (⟨d,.x (.app t size bytes s x),none,m⟩::l) i F S ps last Q:=by
 unfold gF;rw[if_pos (show fT none F=true from rfl)];exact⟨h,_,S1,fun call=>e,f,g⟩
def sK{z:Nat}{c:cd}{id:Nat}:uH (.dd t z 0 c []) F id=some (.sl id 0 0 0 false,.cells [] false 0):=rfl
end Go.Ev.Gl
