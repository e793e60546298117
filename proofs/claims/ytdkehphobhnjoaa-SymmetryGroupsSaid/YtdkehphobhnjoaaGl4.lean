import Derived.Test.YtdkehphobhnjoaaGl3
set_option maxHeartbeats 16000000
set_option linter.unusedSimpArgs false
set_option linter.unusedVariables false
namespace Go.Ev.Gl
variable {fns:T dE}
theorem aBv(b:Bool)(l:List cJ)(F:Fr)(h:T AB):gS (.minmax b l) F h=kB b (cO l F):=rfl
theorem aFa{W:Nat→Prop}{h0:T AB}{base i:Nat}{l:List AO}{F:Fr}{S:St}{ps:List iV}{last:Option Nat}{Q:Fr→St→List iV→Prop}{d:Option Nat}{m t size bytes:Nat}{s x:cJ}{r:AV}{S1:St}(h:kV last m=true)(he:iN bytes size (s.val F) (x.val F) ⟨(cH m ps S.h).2,S.nx⟩=some (r,S1))(ho:aH0 W base ⟨(cH m ps S.h).2,S.nx⟩ S1)(hr:fQ fns W h0 base l (i+1) (cD d F r) S1 (cH m ps S.h).1 (some i) Q):fQ fns W h0 base (⟨d,.x (.app t size bytes s x),none,m⟩::l) i F S ps last Q:=by
 unfold fQ;rw[if_pos (show dS none F=true from rfl)];exact⟨h,_,S1,fun call=>he,ho,hr⟩
section
variable {S:St}{a b:AV}{E:Int}{p q:Rat}
end
section
variable {S:St}{a b:AV}{E:Int}{p q:Rat}
end
end Go.Ev.Gl
