import Derived.Test.YtdkehphobhnjoaaGl19
set_option maxHeartbeats 16000000
set_option linter.unusedSimpArgs false
set_option linter.unusedVariables false
namespace Go.Ev.Gl
variable {fns:T dE}
section
variable {S5 X Z:St}{gb nb n sz:Nat}{o:Bool}{ps w:Int}{xa xw iv:AV}{cs ics:List AV}{A W:List Int}{L:List dW}{I:List aBH}
end
section
variable {S5 X Z:St}{gb nb n sz:Nat}{o:Bool}{ps:Int}{xa xw iv:AV}{cs ics:List AV}{A W:List Int}{L:List dW}{I:List aBH}
end
section
variable {S:St}{nv iv av bv:AV}{g:aW}{a b:List Int}
end
section
variable {g:aW}{a b c c' m:List Int}
end
section
variable {g:aW}{T:List cC}{c P P' p:List Int}{f i n j d e:Nat}{s w:Int}
end
section
variable {S:St}{nv iv av:AV}{g:aW}{a:List Int}
end
end Go.Ev.Gl
