import Derived.Test.YtdkehphobhnjoaaGl14
set_option maxHeartbeats 16000000
set_option linter.unusedSimpArgs false
set_option linter.unusedVariables false
namespace Go.Ev.Gl
variable {fns:T dE}
section
variable {α:Type}{k:Nat}{E E':List AV→α→Prop}{S0 X X':St}{v:AV}{l:List α}
end
structure Mk where
 lvl:AV
 va:AV
 na:AV
 ia:AV
 lv:AV
 most:Int
 pend:Int
 ps:Int
 zero:Bool
 small:Bool
 dl:List Int
 nodes:List dW
 infos:List aBH
 views:List (Int×Int×Int)
section
variable {P:Nat→Prop}{S0 X X':St}{mb db:Nat}{m m':Mk}{LV:List (Int×Int×Int)}
end
theorem aMW{t:Nat}{x:cJ}{F:Fr}{id:Nat}{a b z0 z1:AV}(hx:x.val F= .agg [a,b]):vG (.bslice t 2 1 [z0,z1] [(0,x)]) F id=some (.sl id 0 1 1 false,.cells [a,b] false 0):=by
 show(aZ (gH (repeatL [z0,z1] 1) [(0 * 2,2,x.val F)]) fun cs=>some (AV.sl id 0 1 1 false,AB.cells cs false 0))=_;rw[hx];show(aZ (aZ (AV.cells (.agg [a,b])) _) _)=_;rw[bJ,aT];rfl
end Go.Ev.Gl
