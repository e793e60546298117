import Derived.Test.YtdkehphobhnjoaaGl17
set_option maxHeartbeats 0
set_option linter.unusedSimpArgs false
set_option linter.unusedVariables false
namespace Go.Ev.Gl
variable {fns:T dU}
section
variable {g:bD}{b:Int}{L:bt}{v:AV}
end
section
variable {g:bD}{b:Int}{L:bt}{pr W:Nat->Nat}{M:Nat}
end
section
variable {g:bD}{b:Int}{L:bt}{pr W:Nat->Nat}{z:Nat}
end
theorem aK2{n j:Nat}(h:j<n):(List.replicate n (0:Int)).getD j 0=0:=by
 rw[Ad,Cl,if_pos h];rfl
theorem oL{l m:bu}(h:l.length=m.length)(hg:∀j,j<l.length->l.getD j 0=m.getD j 0):l=m:=by
 refine Ff h fun j h1 h2=>?_;have:=hg j h1;rw[Ad,Ad,Ac h1,Ac h2] at this;exact this
end Go.Ev.Gl
