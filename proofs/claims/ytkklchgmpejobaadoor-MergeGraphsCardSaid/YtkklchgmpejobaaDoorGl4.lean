import Derived.Test.YtkklchgmpejobaaDoorGl3
set_option maxHeartbeats 16000000
set_option linter.unusedSimpArgs false
set_option linter.unusedVariables false
namespace Go.Ev.Gl
variable {fns:T cR}
theorem lG{W:Nat→Prop}{h0:T AB}{base i:Nat}{l:List AO}{F:Fr}{S:St}{ps:List iE}{last:Option Nat}{Q:Fr→St→List iE→Prop}{d:Option Nat}{m t size bytes:Nat}{s x:cC}{r:AV}{S1:St}(h:kF last m=true)(he:jH bytes size (s.val F) (x.val F) ⟨(bV m ps S.h).2,S.nx⟩=some (r,S1))(ho:aFp W base ⟨(bV m ps S.h).2,S.nx⟩ S1)(hr:eS fns W h0 base l (i+1) (bY d F r) S1 (bV m ps S.h).1 (some i) Q):eS fns W h0 base (⟨d,.x (.app t size bytes s x),none,m⟩::l) i F S ps last Q:=by
 unfold eS;rw[if_pos (show dL none F=true from rfl)];exact⟨h,_,S1,fun call=>he,ho,hr⟩
theorem lK{t z:Nat}{zs:List AV}{F:Fr}{id:Nat}:uP (.bslice t z 0 zs []) F id=some (.sl id 0 0 0 false,.cells [] false 0):=rfl
section
variable {S:St}{a b:AV}{E:Int}{p q:Rat}
end
section
variable {S:St}{a b:AV}{E:Int}{p q:Rat}
end
end Go.Ev.Gl
