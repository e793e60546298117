import Derived.Test.YtkklchgmpejobaaGreatDoorGl3
set_option maxHeartbeats 16000000
set_option linter.unusedSimpArgs false
set_option linter.unusedVariables false
namespace Go.Ev.Gl
variable {fns:T cW}
theorem aHm{W:Nat→Prop}{h0:T AB}{base i:Nat}{l:List AO}{F:Fr}{S:St}{ps:List iJ}{last:Option Nat}{Q:Fr→St→List iJ→Prop}{d:Option Nat}{m t size bytes:Nat}{s x:cL}{r:AV}{S1:St}(h:lV last m=true)(he:gS bytes size (s.val F) (x.val F) ⟨(cF m ps S.h).2,S.nx⟩=some (r,S1))(ho:aE3 W base ⟨(cF m ps S.h).2,S.nx⟩ S1)(hr:gI fns W h0 base l (i+1) (cI d F r) S1 (cF m ps S.h).1 (some i) Q):gI fns W h0 base (⟨d,.x (.app t size bytes s x),none,m⟩::l) i F S ps last Q:=by
 unfold gI;rw[if_pos (show eK none F=true from rfl)];exact⟨h,_,S1,fun call=>he,ho,hr⟩
theorem aDQ{t z:Nat}{zs:List AV}{F:Fr}{id:Nat}:tH (.bslice t z 0 zs []) F id=some (.sl id 0 0 0 false,.cells [] false 0):=rfl
section
variable {S:St}{a b:AV}{E:Int}{p q:Rat}
end
section
variable {S:St}{a b:AV}{E:Int}{p q:Rat}
end
end Go.Ev.Gl
