import Derived.Test.YtoojnpjgnnpllaaEv8
namespace Go.Ev.Gl
end Go.Ev.Gl
namespace Go.Proofs.Ytoojnpjgnnpllaa.lives47
open Go.Ev Go.Ev.Gl
set_option maxRecDepth 100000
def a6(n:Nat):AV:=.int .i64 (.ofNat n)
def a7(n:Nat):Option AV:=some (.int .i64 (.ofNat n))
def a8{A:Type}(v:Option A):T A:=.n .e v .e
noncomputable def aQB:bG:=⟨(.n (.n (.n (.n .e (some (.agg [(a6 3),(a6 4),(a6 3),(a6 4)])) .e) none
(.n .e (some (.tup [(.agg [(a6 1),(.sl 4839 0 7 7 true),(.sl 4684 0 1 1 true),(.sl 4887 0 2 2 true),(.sl 4902 0 2 2 true),(.sl 4650 0 7 7 false)]),(a6 0)])) .e)) (some (.ptr 4903 0))
(.n (a8 (some (.sl 61 0 7 7 false))) none
(a8 (a7 0)))) (some (.bool false))
(.n (.n (.n .e (some (.agg [(a6 1),(.sl 60 0 7 7 true),(.sl 2 0 2 2 false)])) .e) none
(.n .e (some (.agg [(a6 1),(.sl 4839 0 7 7 true),(.sl 4684 0 1 1 true),(.sl 4887 0 2 2 true),(.sl 4902 0 2 2 true),(.sl 4650 0 7 7 false)])) .e)) (a7 0)
(.n (a8 (some (.sl 62 0 1 1 false))) (some (.tup [(.agg [(a6 1),(.sl 4839 0 7 7 true),(.sl 4684 0 1 1 true),(.sl 4887 0 2 2 true),(.sl 4902 0 2 2 true),(.sl 4650 0 7 7 false)]),(a6 0)]))
.e))),false⟩
noncomputable def aRY:St:=⟨(.n (.n (.n (.n .e none
(.n (.n .e none
(.n (.n (.n .e none
(.n .e none
(.n (.n (.n .e (some (.cells [(a6 1),(.sl 4839 0 7 7 true),(.sl 4684 0 1 1 true),(.sl 4887 0 2 2 true),(.sl 4902 0 2 2 true),(.sl 4650 0 7 7 false)] false 0)) .e) none
.e) none
.e))) none
.e) none
(.n .e none
(.n (.n .e none
(.n (.n (.n .e (some (.cells [(a6 1),(a6 0),(a6 0),(.sl 4867 0 2 2 true),(.sl 4669 0 2 2 true),.bw,(a6 2),(a6 0),(a6 0),(.sl 4760 0 2 2 true),.bw,.bw,(a6 3),(a6 0),(a6 0),.bw,.bw,(.sl 4713 0 1 1 true),(a6 3),(a6 0),(a6 0),.bw,.bw,(.sl 4744 0 1 1 true),(a6 2),(a6 0),(a6 0),(.sl 4853 0 2 2 true),.bw,.bw,(a6 3),(a6 0),(a6 0),.bw,.bw,(.sl 4806 0 1 1 true),(a6 3),(a6 0),(a6 0),.bw,.bw,(.sl 4837 0 1 1 true)] true 6)) .e) none
.e) none
.e)) none
.e)))) none
(.n (.n (.n (.n .e none
(.n .e none
(.n (.n (.n .e (some (.cells [(a6 0),(a6 0)] true 1)) .e) none
.e) none
.e))) none
.e) none
.e) none
.e))) none
(.n (.n (.n (.n (.n (.n .e none
(.n .e none
(.n (.n (.n .e (some (.cells [(a6 1),(a6 4)] true 1)) .e) none
.e) none
.e))) none
.e) none
.e) none
.e) none
.e) none
.e)) none
(.n (.n .e none
(.n (.n .e none
(.n .e none
(.n (.n (.n .e none
(.n (.n (.n .e (some (.cells [(a6 3)] true 1)) .e) none
.e) none
.e)) none
.e) none
.e))) none
.e)) none
(.n (.n (.n .e none
(.n (.n (.n .e none
(.n .e none
(.n (.n (.n .e (some (.cells [(a6 0),(a6 1)] true 1)) .e) none
.e) none
.e))) none
.e) none
(.n .e none
(.n (.n .e none
(.n (.n (.n .e (some (.cells [(a6 4)] true 1)) .e) none
.e) none
.e)) none
.e)))) none
(.n .e none
(.n .e none
(.n .e none
(.n (.n .e none
(.n (.n (.n .e (some (.cells [(a6 5),(a6 6)] true 1)) .e) none
.e) none
.e)) none
.e))))) none
(.n .e none
(.n .e none
(.n (.n (.n (.n .e none
(.n (.n (.n .e (some (.cells [(a6 1),(a6 1)] true 1)) .e) none
.e) none
.e)) none
.e) none
.e) none
.e)))))) none
(.n (.n (.n .e none
(.n (.n (.n (.n .e none
(.n (.n .e none
(.n (.n (.n .e (some (.cells [(a6 4)] true 1)) .e) none
.e) none
.e)) none
.e)) none
.e) none
.e) none
(.n (.n (.n .e none
(.n (.n .e none
(.n (.n (.n .e (some (.cells [(a6 2),(a6 3)] true 1)) .e) none
.e) none
.e)) none
.e)) none
.e) none
.e))) none
(.n (.n .e none
(.n (.n (.n (.n .e none
(.n .e none
(.n (.n (.n .e (some (.cells [(a6 0),(a6 1)] true 1)) .e) none
.e) none
.e))) none
.e) none
.e) none
.e)) none
(.n (.n (.n .e none
(.n (.n (.n .e none
(.n (.n (.n .e (some (.cells [(a6 0),(a6 2)] true 2)) .e) none
.e) none
.e)) none
.e) none
.e)) none
.e) none
.e))) none
(.n (.n .e none
(.n (.n .e none
(.n (.n (.n (.n .e none
(.n (.n (.n .e (some (.cells [(a6 0),(a6 1),(a6 2),(a6 3),(a6 4),(a6 5),(a6 6)] false 0)) .e) none
.e) none
.e)) none
.e) none
.e) none
.e)) none
.e)) none
(.n (.n (.n (.n .e none
(.n .e none
(.n (.n .e none
(.n (.n (.n .e (some (.cells [(a6 3)] true 1)) .e) none
.e) none
.e)) none
.e))) none
(.n (.n (.n .e none
(.n .e none
(.n (.n (.n .e (some (.cells [(.sl 4884 0 2 2 true),(.sl 4901 0 2 2 true)] true 1)) .e) none
.e) none
.e))) none
.e) none
.e)) none
.e) none
.e)))),4904⟩
end Go.Proofs.Ytoojnpjgnnpllaa.lives47
