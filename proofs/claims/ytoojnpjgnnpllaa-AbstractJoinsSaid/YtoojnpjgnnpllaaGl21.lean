import Derived.Test.YtoojnpjgnnpllaaGl20
set_option maxHeartbeats 16000000
set_option linter.unusedSimpArgs false
set_option linter.unusedVariables false
namespace Go.Ev.Gl
variable {fns:T eG}
section
variable {S5 X Z:St}{gb nb n sz:Nat}{o:Bool}{ps w:Int}{xa xw iv:AV}{cs ics:List AV}{A W:List Int}{L:List dG}{I:List aAp}
end
section
variable {S5 X Z:St}{gb nb n sz:Nat}{o:Bool}{ps:Int}{xa xw iv:AV}{cs ics:List AV}{A W:List Int}{L:List dG}{I:List aAp}
end
section
variable {S:St}{nv iv av bv:AV}{g:aR}{a b:List Int}
end
end Go.Ev.Gl
