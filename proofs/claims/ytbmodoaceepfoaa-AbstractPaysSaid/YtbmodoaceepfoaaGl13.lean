import Derived.Test.YtbmodoaceepfoaaGl12
set_option linter.all false
set_option maxHeartbeats 0
namespace Go.Ev.Gl
section
variable {h:Ev.T AB}{b:Nat}{x0 x1:AV}{o:Bool}{s:Nat}
def aKK(a:h.get b=some (.cells [x0,x1] o s)):eE (.ptr b (0+0)) false 1 h=some x0:=zP a rfl
def aCY(a:h.get b=some (.cells [x0,x1] o s)):eE (.ptr b (0+1)) false 1 h=some x1:=zP a rfl
def aOp(a:h.get b=some (.cells [x0,x1] o s)):eE (.ptr b 0) true 2 h=some (.agg [x0,x1]):=mA a rfl
end
def uZ{L:bo}{i:Nat}(h:i<L.length):L[i]? =some (L.getD i []):=by
 rw[Ad,Ab h];rfl
def aOu{l:bt}{j:Nat}(h:j<l.length):l.getD j 0∈l:=by
 rw[Ad,Ab h];exact Bl h
end Go.Ev.Gl
