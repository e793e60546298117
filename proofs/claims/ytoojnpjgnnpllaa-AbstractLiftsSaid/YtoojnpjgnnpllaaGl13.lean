import Derived.Test.YtoojnpjgnnpllaaGl12
set_option maxHeartbeats 0
set_option linter.unusedSimpArgs false
set_option linter.unusedVariables false
namespace Go.Ev.Gl
variable {fns:T dY}
section
variable {h:Ev.T AB}{b:Nat}{x0 x1:AV}{o:Bool}{s:Nat}
theorem aMa(hb:h.get b=some (.cells [x0,x1] o s)):dT (.ptr b (0+0)) false 1 h=some x0:=ldc hb rfl
theorem aFm(hb:h.get b=some (.cells [x0,x1] o s)):dT (.ptr b (0+1)) false 1 h=some x1:=ldc hb rfl
theorem aDO(hb:h.get b=some (.cells [x0,x1] o s)):dT (.ptr b 0) true 2 h=some (.agg [x0,x1]):=jM hb rfl
end
theorem aA6{L:a9}{i:Nat}(h:i<L.length):L[i]? =some (L.getD i []):=by
 rw[Ad,Ab h];rfl
section
variable {M:Nat}{g:aS}{pr:Nat->Nat}
end
end Go.Ev.Gl
