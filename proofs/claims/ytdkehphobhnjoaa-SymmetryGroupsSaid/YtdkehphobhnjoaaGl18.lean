import Derived.Test.YtdkehphobhnjoaaGl17
set_option maxHeartbeats 16000000
set_option linter.unusedSimpArgs false
set_option linter.unusedVariables false
namespace Go.Ev.Gl
variable {fns:T dE}
section
variable {g:aW}{b:Int}{L:List (List Int)}{v:AV}
end
section
variable {g:aW}{b:Int}{L:List (List Int)}{pr W:Nat→Nat}{M:Nat}
end
section
variable {g:aW}{b:Int}{L:List (List Int)}{pr W:Nat→Nat}{z:Nat}
end
theorem aIE{n j:Nat}(h:j<n):(List.replicate n (0:Int)).getD j 0=0:=by
 rw[Ad,Cx,if_pos h];rfl
theorem pV{l m:List Int}(h:l.length=m.length)(hg:∀j,j<l.length→l.getD j 0=m.getD j 0):l=m:=by
 refine Ez h fun j h1 h2=>?_;have:=hg j h1;rw[Ad,Ad,Ac h1,Ac h2] at this;exact this
end Go.Ev.Gl
