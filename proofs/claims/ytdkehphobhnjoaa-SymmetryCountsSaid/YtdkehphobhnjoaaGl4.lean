import Derived.Test.YtdkehphobhnjoaaGl3
set_option maxHeartbeats 0
set_option linter.unusedSimpArgs false
set_option linter.unusedVariables false
namespace Go.Ev.Gl
variable {fns:T dU}
theorem aDb(b:Bool)(l:List cU)(F:Fr)(h:T AB):gT (.c9 b l) F h=mT b (dG l F):=rfl
theorem sR{W:Nat->Prop}{h0:T AB}{base i:Nat}{l:List AO}{F:Fr}{S:St}{ps:List iH}{last:Option Nat}{Q:Fr->St->List iH->Prop}{d:Option Nat}{m t size bytes:Nat}{s x:cU}{r:AV}{S1:St}(h:mB last m=true)(he:fN bytes size (s.val F) (x.val F) ⟨(cO m ps S.h).2,S.nx⟩=some (r,S1))(ho:aGG W base ⟨(cO m ps S.h).2,S.nx⟩ S1)(hr:gN fns W h0 base l (i+1) (cR d F r) S1 (cO m ps S.h).1 (some i) Q):gN fns W h0 base (⟨d,.x (.app t size bytes s x),none,m⟩::l) i F S ps last Q:=by
 unfold gN;rw[if_pos (show eT none F=true from rfl)];exact⟨h,_,S1,fun call=>he,ho,hr⟩
theorem wO{t z:Nat}{zs:b6}{F:Fr}{id:Nat}:sH (.ch t z 0 zs []) F id=some (.sl id 0 0 0 false,.cells [] false 0):=rfl
section
variable {S:St}{a b:AV}{E:Int}{p q:Rat}
end
section
variable {S:St}{a b:AV}{E:Int}{p q:Rat}
end
end Go.Ev.Gl
