import Derived.Test.YtoojnpjgnnpllaaGl17
set_option maxHeartbeats 16000000
set_option linter.unusedSimpArgs false
set_option linter.unusedVariables false
namespace Go.Ev.Gl
variable {fns:T eG}
section
variable {g:aR}{b:Int}{L:List (List Int)}{v:AV}
end
section
variable {g:aR}{b:Int}{L:List (List Int)}{pr W:Nat→Nat}{M:Nat}
end
section
variable {g:aR}{b:Int}{L:List (List Int)}{pr W:Nat→Nat}{z:Nat}
end
theorem nF{l m:List Int}(h:l.length=m.length)(hg:∀j,j<l.length→l.getD j 0=m.getD j 0):l=m:=by
 refine Dp h fun j h1 h2=>?_;have:=hg j h1;rw[Ad,Ad,Ab h1,Ab h2] at this;exact this
end Go.Ev.Gl
