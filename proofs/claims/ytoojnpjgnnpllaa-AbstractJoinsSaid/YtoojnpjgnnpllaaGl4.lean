import Derived.Test.YtoojnpjgnnpllaaGl3
set_option maxHeartbeats 16000000
set_option linter.unusedSimpArgs false
set_option linter.unusedVariables false
namespace Go.Ev.Gl
variable {fns:T eG}
theorem xZ(b:Bool)(l:List cL)(F:Fr)(h:T AB):fV (.minmax b l) F h=lK b (dD l F):=rfl
theorem qF{W:Nat→Prop}{h0:T AB}{base i:Nat}{l:List AO}{F:Fr}{S:St}{ps:List iJ}{last:Option Nat}{Q:Fr→St→List iJ→Prop}{d:Option Nat}{m t size bytes:Nat}{s x:cL}{r:AV}{S1:St}(h:kQ last m=true)(he:jK bytes size (s.val F) (x.val F) ⟨(cF m ps S.h).2,S.nx⟩=some (r,S1))(ho:aGS W base ⟨(cF m ps S.h).2,S.nx⟩ S1)(hr:fK fns W h0 base l (i+1) (cK d F r) S1 (cF m ps S.h).1 (some i) Q):fK fns W h0 base (⟨d,.x (.app t size bytes s x),none,m⟩::l) i F S ps last Q:=by
 unfold fK;rw[if_pos (show eM none F=true from rfl)];exact⟨h,_,S1,fun call=>he,ho,hr⟩
theorem aAc{t z:Nat}{zs:List AV}{F:Fr}{id:Nat}:uL (.bslice t z 0 zs []) F id=some (.sl id 0 0 0 false,.cells [] false 0):=rfl
section
variable {S:St}{a b:AV}{E:Int}{p q:Rat}
end
section
variable {S:St}{a b:AV}{E:Int}{p q:Rat}
end
end Go.Ev.Gl
