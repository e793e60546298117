import Derived.Test.YtbmodoaceepfoaaGl12
set_option linter.all false
set_option maxHeartbeats 0
namespace Go.Ev.Gl
variable {fns:T eY}
section
variable {h:Ev.T AB}{b:Nat}{x0 x1:AV}{o:Bool}{s:Nat}
def aFR(a:h.get b=some (.cells [x0,x1] o s)):eK (.ptr b (0+0)) false 1 h=some x0:=ldc a rfl
def aAl(a:h.get b=some (.cells [x0,x1] o s)):eK (.ptr b (0+1)) false 1 h=some x1:=ldc a rfl
def aCZ(a:h.get b=some (.cells [x0,x1] o s)):eK (.ptr b 0) true 2 h=some (.agg [x0,x1]):=mB a rfl
end
def vL{L:bt}{i:Nat}(h:i<L.length):L[i]? =some (L.getD i []):=by
 rw[Ad,Ab h];rfl
def aOc{l:bu}{j:Nat}(h:j<l.length):l.getD j 0∈l:=by
 rw[Ad,Ab h];exact Bt h
end Go.Ev.Gl
