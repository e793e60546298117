import Derived.Test.YtiiplmagnlcpbaaGreatDoorGl14
set_option linter.unusedSimpArgs false
set_option linter.unusedVariables false
set_option maxHeartbeats 0
namespace Go.Ev.Gl
variable {fns:T cM}
section
variable {g:aZ}{b:Int}{L:List (bm)}{v:AV}
end
section
variable {g:aZ}{b:Int}{L:List (bm)}{pr W:Nat->Nat}{M:Nat}
end
section
variable {g:aZ}{b:Int}{L:List (bm)}{pr W:Nat->Nat}{z:Nat}
end
theorem aKP{n j:Nat}(h:j<n):(List.replicate n (0:Int)).getD j 0=0:=by
 rw[Ae,Fu,if_pos h];rfl
theorem aKN{l m:bm}(h:l.length=m.length)(hg:∀j,j<l.length->l.getD j 0=m.getD j 0):l=m:=by
 refine List.ext_getElem h fun j h1 h2=>?_;have:=hg j h1;rw[Ae,Ae,Ad h1,Ad h2] at this;exact this
end Go.Ev.Gl
