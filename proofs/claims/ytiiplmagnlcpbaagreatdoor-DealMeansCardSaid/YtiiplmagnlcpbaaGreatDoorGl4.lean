import Derived.Test.YtiiplmagnlcpbaaGreatDoorGl3
set_option linter.unusedSimpArgs false
set_option linter.unusedVariables false
set_option maxHeartbeats 0
namespace Go.Ev.Gl
variable {fns:T dD}
theorem aIw{t z:Nat}{zs:bo}{F:Fr}{id:Nat}:tA (.cm t z 0 zs []) F id=some (.sl id 0 0 0 false,.cells [] false 0):=rfl
theorem aQ8(F:Fr)(h:T AB):iT (.build [.bool false,.ce,.ce] []) F h=some (.agg [.bool false,.ce,.ce]):=rfl
def aSL(S:St)(r:AV)(o:Option Rat)(e:Int):Prop:=∃x y z,r= .tup [.agg [x,y,z],.int .i64 e]/\match o with
 | some q=>cE S (.agg [x,y,z]) q
 | none=>x= .bool false/\y= .ce/\z= .ce
def opt(E:Int)(q:Rat):Option Rat:=if E=0 then some q else none
theorem aNu(q:Rat):opt 0 q=some q:=rfl
theorem aQ7{E:Int}(h:E≠0)(q:Rat):opt E q=none:=if_neg h
section
variable {S:St}{a b:AV}{E:Int}{p q:Rat}
end
section
variable {S:St}{a b:AV}{E:Int}{p q:Rat}
end
end Go.Ev.Gl
