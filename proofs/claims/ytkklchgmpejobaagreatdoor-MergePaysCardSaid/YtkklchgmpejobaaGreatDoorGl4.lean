import Derived.Test.YtkklchgmpejobaaGreatDoorGl3
set_option maxHeartbeats 16000000
set_option linter.unusedSimpArgs false
set_option linter.unusedVariables false
namespace Go.Ev.Gl
variable {fns:T cV}
theorem aH7(b:Bool)(l:List cK)(F:Fr)(h:T AB):iI (.minmax b l) F h=kR b (cW l F):=rfl
theorem aHf{W:Nat→Prop}{h0:T AB}{base i:Nat}{l:List AO}{F:Fr}{S:St}{ps:List iM}{last:Option Nat}{Q:Fr→St→List iM→Prop}{d:Option Nat}{m t size bytes:Nat}{s x:cK}{r:AV}{S1:St}(h:mC last m=true)(he:iA bytes size (s.val F) (x.val F) ⟨(cG m ps S.h).2,S.nx⟩=some (r,S1))(ho:aFb W base ⟨(cG m ps S.h).2,S.nx⟩ S1)(hr:gG fns W h0 base l (i+1) (cI d F r) S1 (cG m ps S.h).1 (some i) Q):gG fns W h0 base (⟨d,.x (.app t size bytes s x),none,m⟩::l) i F S ps last Q:=by
 unfold gG;rw[if_pos (show eI none F=true from rfl)];exact⟨h,_,S1,fun call=>he,ho,hr⟩
theorem aAE{t z:Nat}{zs:List AV}{F:Fr}{id:Nat}:tQ (.bslice t z 0 zs []) F id=some (.sl id 0 0 0 false,.cells [] false 0):=rfl
section
variable {S:St}{a b:AV}{E:Int}{p q:Rat}
end
section
variable {S:St}{a b:AV}{E:Int}{p q:Rat}
end
end Go.Ev.Gl
