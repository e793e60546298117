import Derived.Test.YtoojnpjgnnpllaaGl18
set_option maxHeartbeats 16000000
set_option linter.unusedSimpArgs false
set_option linter.unusedVariables false
namespace Go.Ev.Gl
variable {fns:T eG}
section
variable {g:aR}{c:List Int}{pr W:Nat→Nat}{z:Nat}
end
end Go.Ev.Gl
