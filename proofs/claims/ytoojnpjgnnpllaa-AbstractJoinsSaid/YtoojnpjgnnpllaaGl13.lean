import Derived.Test.YtoojnpjgnnpllaaGl12
set_option maxHeartbeats 16000000
set_option linter.unusedSimpArgs false
set_option linter.unusedVariables false
namespace Go.Ev.Gl
variable {fns:T eG}
section
variable {h:Ev.T AB}{b:Nat}{x0 x1:AV}{o:Bool}{s:Nat}
theorem aOM(hb:h.get b=some (.cells [x0,x1] o s)):eH (.ptr b (0+0)) false 1 h=some x0:=ldc hb rfl
theorem aH8(hb:h.get b=some (.cells [x0,x1] o s)):eH (.ptr b (0+1)) false 1 h=some x1:=ldc hb rfl
theorem aK0(hb:h.get b=some (.cells [x0,x1] o s)):eH (.ptr b 0) true 2 h=some (.agg [x0,x1]):=iA hb rfl
end
theorem zY{L:List (List Int)}{i:Nat}(h:i<L.length):L[i]? =some (L.getD i []):=by
 rw[Ad,Ab h];rfl
section
variable {M:Nat}{g:aR}{pr:Nat→Nat}
end
end Go.Ev.Gl
