import Derived.Test.YtkklchgmpejobaaDoorGl3
set_option maxHeartbeats 16000000
set_option linter.unusedSimpArgs false
set_option linter.unusedVariables false
namespace Go.Ev.Gl
variable {fns:T dB}
theorem aGJ{W:Nat→Prop}{h0:T AB}{base i:Nat}{l:List AO}{F:Fr}{S:St}{ps:List iD}{last:Option Nat}{Q:Fr→St→List iD→Prop}{d:Option Nat}{m t size bytes:Nat}{s x:cK}{r:AV}{S1:St}(h:lP last m=true)(he:gN bytes size (s.val F) (x.val F) ⟨(cG m ps S.h).2,S.nx⟩=some (r,S1))(ho:aE2 W base ⟨(cG m ps S.h).2,S.nx⟩ S1)(hr:fW fns W h0 base l (i+1) (cI d F r) S1 (cG m ps S.h).1 (some i) Q):fW fns W h0 base (⟨d,.x (.app t size bytes s x),none,m⟩::l) i F S ps last Q:=by
 unfold fW;rw[if_pos (show eJ none F=true from rfl)];exact⟨h,_,S1,fun call=>he,ho,hr⟩
theorem aDD{t z:Nat}{zs:List AV}{F:Fr}{id:Nat}:tE (.bslice t z 0 zs []) F id=some (.sl id 0 0 0 false,.cells [] false 0):=rfl
section
variable {S:St}{a b:AV}{E:Int}{p q:Rat}
end
section
variable {S:St}{a b:AV}{E:Int}{p q:Rat}
end
end Go.Ev.Gl
