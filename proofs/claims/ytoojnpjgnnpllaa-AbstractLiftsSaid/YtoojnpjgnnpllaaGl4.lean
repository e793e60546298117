import Derived.Test.YtoojnpjgnnpllaaGl3
set_option maxHeartbeats 0
set_option linter.unusedSimpArgs false
set_option linter.unusedVariables false
namespace Go.Ev.Gl
variable {fns:T dY}
theorem aAd(b:Bool)(l:List cO)(F:Fr)(h:T AB):gM (.dg b l) F h=mH b (dG l F):=rfl
theorem lQ{W:Nat->Prop}{h0:T AB}{base i:Nat}{l:List AO}{F:Fr}{S:St}{ps:List iQ}{last:Option Nat}{Q:Fr->St->List iQ->Prop}{d:Option Nat}{m t size bytes:Nat}{s x:cO}{r:AV}{S1:St}(h:jQ last m=true)(he:gP bytes size (s.val F) (x.val F) ⟨(cJ m ps S.h).2,S.nx⟩=some (r,S1))(ho:aGF W base ⟨(cJ m ps S.h).2,S.nx⟩ S1)(hr:fF fns W h0 base l (i+1) (cM d F r) S1 (cJ m ps S.h).1 (some i) Q):fF fns W h0 base (⟨d,.x (.app t size bytes s x),none,m⟩::l) i F S ps last Q:=by
 unfold fF;rw[if_pos (show eS none F=true from rfl)];exact⟨h,_,S1,fun call=>he,ho,hr⟩
theorem rG{t z:Nat}{zs:bf}{F:Fr}{id:Nat}:uW (.cj t z 0 zs []) F id=some (.sl id 0 0 0 false,.cells [] false 0):=rfl
section
variable {S:St}{a b:AV}{E:Int}{p q:Rat}
end
section
variable {S:St}{a b:AV}{E:Int}{p q:Rat}
end
end Go.Ev.Gl
