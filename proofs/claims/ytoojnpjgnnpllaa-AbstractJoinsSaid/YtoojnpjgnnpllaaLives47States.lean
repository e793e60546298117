import Derived.Test.YtoojnpjgnnpllaaEv8
namespace Go.Ev.Gl
end Go.Ev.Gl
namespace Go.Proofs.Ytoojnpjgnnpllaa.lives47
open Go.Ev Go.Ev.Gl
set_option maxRecDepth 100000
noncomputable def aOC:bH:=⟨(.n (.n (.n (.n (.n .e (some (.agg [(.int .i64 (.ofNat 3)),(.int .i64 (.ofNat 4)),(.int .i64 (.ofNat 4)),(.int .i64 (.ofNat 3))])) .e) (some (.agg [(.int .i64 (.ofNat 3)),(.int .i64 (.ofNat 4)),(.int .i64 (.ofNat 3)),(.int .i64 (.ofNat 4))]))
.e) (some (.ptr 9807 0))
(.n (.n .e (some (.tup [(.agg [(.int .i64 (.ofNat 1)),(.sl 9743 0 7 7 true),(.sl 9588 0 1 1 true),(.sl 9791 0 2 2 true),(.sl 9806 0 2 2 true),(.sl 9554 0 7 7 false)]),(.int .i64 (.ofNat 0))])) .e) (some (.tup [(.agg [(.int .i64 (.ofNat 1)),(.sl 4839 0 7 7 true),(.sl 4684 0 1 1 true),(.sl 4887 0 2 2 true),(.sl 4902 0 2 2 true),(.sl 4650 0 7 7 false)]),(.int .i64 (.ofNat 0))]))
.e)) (some (.ptr 4903 0))
(.n (.n (.n .e (some (.sl 4965 0 7 7 false)) .e) (some (.sl 61 0 7 7 false))
.e) none
(.n (.n .e (some (.int .i64 (.ofNat 0))) .e) (some (.int .i64 (.ofNat 0)))
.e))) (some (.bool false))
(.n (.n (.n (.n .e (some (.agg [(.int .i64 (.ofNat 1)),(.sl 4964 0 7 7 true),(.sl 4906 0 2 2 false)])) .e) (some (.agg [(.int .i64 (.ofNat 1)),(.sl 60 0 7 7 true),(.sl 2 0 2 2 false)]))
.e) (some (.int .i64 (.ofNat 0)))
(.n (.n .e (some (.agg [(.int .i64 (.ofNat 1)),(.sl 9743 0 7 7 true),(.sl 9588 0 1 1 true),(.sl 9791 0 2 2 true),(.sl 9806 0 2 2 true),(.sl 9554 0 7 7 false)])) .e) (some (.agg [(.int .i64 (.ofNat 1)),(.sl 4839 0 7 7 true),(.sl 4684 0 1 1 true),(.sl 4887 0 2 2 true),(.sl 4902 0 2 2 true),(.sl 4650 0 7 7 false)]))
.e)) (some (.int .i64 (.ofNat 0)))
(.n (.n (.n .e (some (.sl 4966 0 1 1 false)) .e) (some (.sl 62 0 1 1 false))
.e) (some (.tup [(.agg [(.int .i64 (.ofNat 1)),(.sl 4839 0 7 7 true),(.sl 4684 0 1 1 true),(.sl 4887 0 2 2 true),(.sl 4902 0 2 2 true),(.sl 4650 0 7 7 false)]),(.int .i64 (.ofNat 0))]))
(.n .e (some (.tup [(.agg [(.int .i64 (.ofNat 1)),(.sl 9743 0 7 7 true),(.sl 9588 0 1 1 true),(.sl 9791 0 2 2 true),(.sl 9806 0 2 2 true),(.sl 9554 0 7 7 false)]),(.int .i64 (.ofNat 0))])) .e)))),false⟩
noncomputable def aPt:St:=⟨(.n (.n (.n (.n (.n (.n (.n .e none
(.n (.n (.n .e none
(.n .e none
(.n (.n (.n .e (some (.cells [(.int .i64 (.ofNat 0)),(.int .i64 (.ofNat 0))] true 1)) .e) none
.e) none
.e))) none
.e) none
.e)) none
.e) none
(.n (.n (.n (.n (.n .e none
(.n .e none
(.n (.n (.n .e (some (.cells [(.int .i64 (.ofNat 1)),(.int .i64 (.ofNat 0)),(.int .i64 (.ofNat 0)),(.sl 9771 0 2 2 true),(.sl 9573 0 2 2 true),.nilsl,(.int .i64 (.ofNat 2)),(.int .i64 (.ofNat 0)),(.int .i64 (.ofNat 0)),(.sl 9664 0 2 2 true),.nilsl,.nilsl,(.int .i64 (.ofNat 3)),(.int .i64 (.ofNat 0)),(.int .i64 (.ofNat 0)),.nilsl,.nilsl,(.sl 9617 0 1 1 true),(.int .i64 (.ofNat 3)),(.int .i64 (.ofNat 0)),(.int .i64 (.ofNat 0)),.nilsl,.nilsl,(.sl 9648 0 1 1 true),(.int .i64 (.ofNat 2)),(.int .i64 (.ofNat 0)),(.int .i64 (.ofNat 0)),(.sl 9757 0 2 2 true),.nilsl,.nilsl,(.int .i64 (.ofNat 3)),(.int .i64 (.ofNat 0)),(.int .i64 (.ofNat 0)),.nilsl,.nilsl,(.sl 9710 0 1 1 true),(.int .i64 (.ofNat 3)),(.int .i64 (.ofNat 0)),(.int .i64 (.ofNat 0)),.nilsl,.nilsl,(.sl 9741 0 1 1 true)] true 6)) .e) none
.e) none
.e))) none
.e) none
.e) none
(.n (.n (.n .e none
(.n .e none
(.n (.n (.n .e (some (.cells [(.int .i64 (.ofNat 1)),(.sl 9743 0 7 7 true),(.sl 9588 0 1 1 true),(.sl 9791 0 2 2 true),(.sl 9806 0 2 2 true),(.sl 9554 0 7 7 false)] false 0)) .e) none
.e) none
.e))) none
.e) none
.e)) none
.e)) none
(.n (.n .e none
(.n (.n (.n .e none
(.n .e none
(.n (.n (.n .e (some (.cells [(.int .i64 (.ofNat 1)),(.sl 4839 0 7 7 true),(.sl 4684 0 1 1 true),(.sl 4887 0 2 2 true),(.sl 4902 0 2 2 true),(.sl 4650 0 7 7 false)] false 0)) .e) none
.e) none
.e))) none
.e) none
(.n .e none
(.n (.n .e none
(.n (.n (.n .e (some (.cells [(.int .i64 (.ofNat 1)),(.int .i64 (.ofNat 0)),(.int .i64 (.ofNat 0)),(.sl 4867 0 2 2 true),(.sl 4669 0 2 2 true),.nilsl,(.int .i64 (.ofNat 2)),(.int .i64 (.ofNat 0)),(.int .i64 (.ofNat 0)),(.sl 4760 0 2 2 true),.nilsl,.nilsl,(.int .i64 (.ofNat 3)),(.int .i64 (.ofNat 0)),(.int .i64 (.ofNat 0)),.nilsl,.nilsl,(.sl 4713 0 1 1 true),(.int .i64 (.ofNat 3)),(.int .i64 (.ofNat 0)),(.int .i64 (.ofNat 0)),.nilsl,.nilsl,(.sl 4744 0 1 1 true),(.int .i64 (.ofNat 2)),(.int .i64 (.ofNat 0)),(.int .i64 (.ofNat 0)),(.sl 4853 0 2 2 true),.nilsl,.nilsl,(.int .i64 (.ofNat 3)),(.int .i64 (.ofNat 0)),(.int .i64 (.ofNat 0)),.nilsl,.nilsl,(.sl 4806 0 1 1 true),(.int .i64 (.ofNat 3)),(.int .i64 (.ofNat 0)),(.int .i64 (.ofNat 0)),.nilsl,.nilsl,(.sl 4837 0 1 1 true)] true 6)) .e) none
.e) none
.e)) none
.e)))) none
(.n (.n (.n (.n .e none
(.n .e none
(.n (.n (.n .e (some (.cells [(.int .i64 (.ofNat 0)),(.int .i64 (.ofNat 0))] true 1)) .e) none
.e) none
.e))) none
.e) none
.e) none
.e))) none
(.n (.n (.n (.n (.n (.n .e none
(.n .e none
(.n (.n (.n .e (some (.cells [(.int .i64 (.ofNat 1)),(.int .i64 (.ofNat 4))] true 1)) .e) none
.e) none
.e))) none
.e) none
.e) none
.e) none
.e) none
(.n (.n .e none
(.n (.n (.n (.n .e none
(.n .e none
(.n (.n (.n .e (some (.cells [(.int .i64 (.ofNat 1)),(.int .i64 (.ofNat 4))] true 1)) .e) none
.e) none
.e))) none
.e) none
.e) none
.e)) none
.e))) none
(.n (.n (.n .e none
(.n (.n (.n .e none
(.n .e none
(.n (.n .e none
(.n (.n (.n .e (some (.cells [(.int .i64 (.ofNat 3))] true 1)) .e) none
.e) none
.e)) none
.e))) none
.e) none
.e)) none
(.n (.n .e none
(.n .e none
(.n (.n (.n .e none
(.n (.n (.n .e (some (.cells [(.int .i64 (.ofNat 3))] true 1)) .e) none
.e) none
.e)) none
.e) none
.e))) none
.e)) none
(.n (.n (.n .e none
(.n (.n (.n .e none
(.n .e none
(.n (.n (.n .e (some (.cells [(.int .i64 (.ofNat 0)),(.int .i64 (.ofNat 1))] true 1)) .e) none
.e) none
.e))) none
.e) none
(.n (.n .e none
(.n (.n .e none
(.n (.n (.n .e (some (.cells [(.int .i64 (.ofNat 1)),(.int .i64 (.ofNat 1))] true 1)) .e) none
.e) none
.e)) none
.e)) none
(.n (.n .e none
(.n (.n (.n .e (some (.cells [(.int .i64 (.ofNat 4))] true 1)) .e) none
.e) none
.e)) none
.e)))) none
(.n .e none
(.n .e none
(.n .e none
(.n (.n .e none
(.n (.n (.n .e (some (.cells [(.int .i64 (.ofNat 5)),(.int .i64 (.ofNat 6))] true 1)) .e) none
.e) none
.e)) none
.e))))) none
(.n (.n (.n (.n (.n (.n .e none
(.n .e none
(.n (.n (.n .e (some (.cells [(.int .i64 (.ofNat 4))] true 1)) .e) none
.e) none
.e))) none
.e) none
.e) none
(.n (.n (.n .e none
(.n .e none
(.n (.n (.n .e (some (.cells [(.int .i64 (.ofNat 1)),(.int .i64 (.ofNat 0))] true 1)) .e) none
.e) none
.e))) none
.e) none
.e)) none
.e) none
(.n (.n (.n (.n (.n .e none
(.n .e none
(.n (.n (.n .e (some (.cells [(.int .i64 (.ofNat 5)),(.int .i64 (.ofNat 6))] true 1)) .e) none
.e) none
.e))) none
.e) none
.e) none
.e) none
(.n (.n (.n (.n .e none
(.n (.n (.n .e (some (.cells [(.int .i64 (.ofNat 1)),(.int .i64 (.ofNat 1))] true 1)) .e) none
.e) none
.e)) none
.e) none
.e) none
.e)))))) none
(.n (.n (.n (.n (.n (.n .e none
(.n .e none
(.n .e none
(.n (.n .e none
(.n (.n (.n .e (some (.cells [(.int .i64 (.ofNat 2)),(.int .i64 (.ofNat 3))] true 1)) .e) none
.e) none
.e)) none
.e)))) none
.e) none
(.n .e none
(.n (.n .e none
(.n .e none
(.n (.n .e none
(.n (.n (.n .e (some (.cells [(.int .i64 (.ofNat 4))] true 1)) .e) none
.e) none
.e)) none
.e))) none
.e))) none
(.n (.n (.n (.n .e none
(.n (.n .e none
(.n (.n (.n .e (some (.cells [(.int .i64 (.ofNat 4))] true 1)) .e) none
.e) none
.e)) none
.e)) none
.e) none
.e) none
(.n (.n (.n .e none
(.n (.n .e none
(.n (.n (.n .e (some (.cells [(.int .i64 (.ofNat 2)),(.int .i64 (.ofNat 3))] true 1)) .e) none
.e) none
.e)) none
.e)) none
.e) none
.e))) none
(.n (.n .e none
(.n (.n (.n (.n .e none
(.n .e none
(.n (.n (.n .e (some (.cells [(.int .i64 (.ofNat 0)),(.int .i64 (.ofNat 1))] true 1)) .e) none
.e) none
.e))) none
.e) none
.e) none
(.n .e none
(.n (.n .e none
(.n (.n .e none
(.n (.n (.n .e (some (.cells [(.int .i64 (.ofNat 0)),(.int .i64 (.ofNat 2))] true 2)) .e) none
.e) none
.e)) none
.e)) none
.e)))) none
(.n (.n (.n .e none
(.n (.n (.n .e none
(.n (.n (.n .e (some (.cells [(.int .i64 (.ofNat 0)),(.int .i64 (.ofNat 2))] true 2)) .e) none
.e) none
.e)) none
.e) none
.e)) none
.e) none
(.n .e none
(.n (.n (.n (.n .e none
(.n .e none
(.n (.n (.n .e (some (.cells [(.int .i64 (.ofNat 0)),(.int .i64 (.ofNat 1))] true 1)) .e) none
.e) none
.e))) none
.e) none
.e) none
.e))))) none
(.n (.n (.n .e none
(.n (.n .e none
(.n (.n .e none
(.n (.n .e none
(.n (.n (.n .e (some (.cells [(.int .i64 (.ofNat 0)),(.int .i64 (.ofNat 1)),(.int .i64 (.ofNat 2)),(.int .i64 (.ofNat 3)),(.int .i64 (.ofNat 4)),(.int .i64 (.ofNat 6)),(.int .i64 (.ofNat 5))] false 0)) .e) none
.e) none
.e)) none
.e)) none
.e)) none
.e)) none
(.n (.n .e none
(.n (.n (.n (.n .e none
(.n (.n (.n .e (some (.cells [(.int .i64 (.ofNat 0)),(.int .i64 (.ofNat 1)),(.int .i64 (.ofNat 2)),(.int .i64 (.ofNat 3)),(.int .i64 (.ofNat 4)),(.int .i64 (.ofNat 5)),(.int .i64 (.ofNat 6))] false 0)) .e) none
.e) none
.e)) none
.e) none
.e) none
.e)) none
.e)) none
(.n (.n (.n (.n .e none
(.n .e none
(.n (.n .e none
(.n (.n (.n .e (some (.cells [(.int .i64 (.ofNat 3))] true 1)) .e) none
.e) none
.e)) none
.e))) none
(.n (.n (.n .e none
(.n .e none
(.n (.n (.n .e (some (.cells [(.sl 4884 0 2 2 true),(.sl 4901 0 2 2 true)] true 1)) .e) none
.e) none
.e))) none
.e) none
.e)) none
.e) none
(.n (.n (.n .e none
(.n (.n (.n .e none
(.n .e none
(.n (.n (.n .e (some (.cells [(.sl 9788 0 2 2 true),(.sl 9805 0 2 2 true)] true 1)) .e) none
.e) none
.e))) none
.e) none
.e)) none
(.n .e none
(.n .e none
(.n .e none
(.n (.n .e none
(.n (.n (.n .e (some (.cells [(.int .i64 (.ofNat 3))] true 1)) .e) none
.e) none
.e)) none
.e))))) none
.e))))),9808⟩
end Go.Proofs.Ytoojnpjgnnpllaa.lives47
