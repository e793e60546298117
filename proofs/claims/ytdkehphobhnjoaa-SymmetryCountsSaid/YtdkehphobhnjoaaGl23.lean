import Derived.Test.YtdkehphobhnjoaaGl22
set_option maxHeartbeats 0
set_option linter.unusedSimpArgs false
set_option linter.unusedVariables false
namespace Go.Ev.Gl
variable {fns:T dU}
section
variable {α:Type}{k:Nat}{E E':b6->α->Prop}{S0 X:St}{v:AV}{l:List α}
end
structure LyS where
 na:AV
 ia:AV
 l:List (cP×AV)
 cu:b9
section
variable {W P:Nat->Prop}{g:bD}{S0 X X':St}{m m' m'':LyS}
end
structure LC where
 (nc ic qb mb pc mc fc gb lb:Nat) (pv nv iv fv av:AV)
section
variable {C:LC}{P P':Nat->Prop}{g:bD}{S0 X X':St}{m m':LyS}{pl:bu}
end
end Go.Ev.Gl
