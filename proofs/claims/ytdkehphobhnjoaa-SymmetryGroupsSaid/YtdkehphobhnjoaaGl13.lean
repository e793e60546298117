import Derived.Test.YtdkehphobhnjoaaGl12
set_option maxHeartbeats 16000000
set_option linter.unusedSimpArgs false
set_option linter.unusedVariables false
namespace Go.Ev.Gl
variable {fns:T dE}
section
variable {h:Ev.T AB}{b:Nat}{x0 x1:AV}{o:Bool}{s:Nat}
theorem aNw(hb:h.get b=some (.cells [x0,x1] o s)):dT (.ptr b (0+0)) false 1 h=some x0:=ldc hb rfl
theorem aNV(hb:h.get b=some (.cells [x0,x1] o s)):dT (.ptr b 0) true 2 h=some (.agg [x0,x1]):=pK hb rfl
end
theorem aCi{L:List (List Int)}{i:Nat}(h:i<L.length):L[i]? =some (L.getD i []):=by
 rw[Ad,Ac h];rfl
section
variable {M:Nat}{g:aW}{pr:Nat→Nat}
end
end Go.Ev.Gl
