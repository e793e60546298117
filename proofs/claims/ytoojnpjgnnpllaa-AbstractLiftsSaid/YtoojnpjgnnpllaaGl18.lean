import Derived.Test.YtoojnpjgnnpllaaGl16
set_option maxHeartbeats 0
namespace Go.Ev.Gl
variable {fns:T dY}
section
variable {g:aS}{b:Int}{L:a9}{v:AV}
end
section
variable {g:aS}{b:Int}{L:a9}{pr W:Nat->Nat}{M:Nat}
end
section
variable {g:aS}{b:Int}{L:a9}{pr W:Nat->Nat}{z:Nat}
end
theorem oP{l m:ba}(h:l.length=m.length)(hg:∀j,j<l.length->l.getD j 0=m.getD j 0):l=m:=by
 refine Dp h fun j h1 h2=>?_;have:=hg j h1;rw[Ad,Ad,Ab h1,Ab h2] at this;exact this
end Go.Ev.Gl
