import Derived.Test.YtdkehphobhnjoaaGl12
set_option maxHeartbeats 0
set_option linter.unusedSimpArgs false
set_option linter.unusedVariables false
namespace Go.Ev.Gl
variable {fns:T dU}
section
variable {h:Ev.T AB}{b:Nat}{x0 x1:AV}{o:Bool}{s:Nat}
theorem aJw(hb:h.get b=some (.cells [x0,x1] o s)):eQ (.ptr b (0+0)) false 1 h=some x0:=ldc hb rfl
theorem aJL(hb:h.get b=some (.cells [x0,x1] o s)):eQ (.ptr b (0+1)) false 1 h=some x1:=ldc hb rfl
theorem aRt(hb:h.get b=some (.cells [x0,x1] o s)):eQ (.ptr b 0) true 2 h=some (.agg [x0,x1]):=rB hb rfl
end
theorem wQ{L:bt}{i:Nat}(h:i<L.length):L[i]? =some (L.getD i []):=by
 rw[Ad,Ac h];rfl
section
variable {M:Nat}{g:bD}{pr:Nat->Nat}
end
theorem aMX{l:bu}{j:Nat}(h:j<l.length):l.getD j 0∈l:=by
 rw[Ad,Ac h];exact Bo h
end Go.Ev.Gl
