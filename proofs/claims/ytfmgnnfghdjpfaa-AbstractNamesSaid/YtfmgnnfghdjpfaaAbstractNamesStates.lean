/- AbstractNames: what is kept between the stages, written by program. -/
import Derived.Test.YtfmgnnfghdjpfaaEvSt
namespace Go.Proofs.Ytfmgnnfghdjpfaa.abstractNames
open Go.Ev
set_option maxRecDepth 100000
noncomputable def act0 : Act' := ⟨(.n (.n .e none
(.n (.n .e none
(.n .e (some (.bool false)) .e)) none
.e)) (some (.bool false))
(.n (.n (.n .e none
(.n .e (some (.bool true)) .e)) none
.e) none
.e)), false⟩
noncomputable def sta0 : St := ⟨.e, 10073⟩
noncomputable def act1 : Act' := ⟨(.n (.n (.n (.n (.n (.n .e (some (.agg [(.int .i64 (.ofNat 1)),(.sl 10133 0 7 7 true),(.sl 10075 0 2 2 false)])) .e) none
.e) none
.e) (some (.ptr 14977 0))
(.n (.n (.n .e (some (.int .i64 (.ofNat 0))) .e) none
.e) none
(.n .e (some (.agg [(.int .i64 (.ofNat 1)),(.sl 10133 0 7 7 true),(.sl 10075 0 2 2 false)])) .e))) (some (.ptr 10136 0))
(.n (.n (.n (.n .e (some (.tup [(.agg [(.int .i64 (.ofNat 1)),(.sl 14913 0 7 7 true),(.sl 14758 0 1 1 true),(.sl 14961 0 2 2 true),(.sl 14976 0 2 2 true),(.sl 14724 0 7 7 false)]),(.int .i64 (.ofNat 0))])) .e) none
.e) none
(.n .e (some (.bool false)) .e)) none
(.n .e none
(.n .e (some (.sl 10135 0 1 1 false)) .e)))) (some (.bool false))
(.n (.n (.n (.n (.n .e (some (.sl 10135 0 1 1 false)) .e) none
.e) none
(.n .e (some (.bool true)) .e)) (some (.int .i64 (.ofNat 0)))
(.n .e none
(.n .e (some (.sl 10134 0 7 7 false)) .e))) (some (.sl 10135 0 1 1 false))
(.n (.n (.n (.n .e (some (.agg [(.int .i64 (.ofNat 1)),(.sl 14913 0 7 7 true),(.sl 14758 0 1 1 true),(.sl 14961 0 2 2 true),(.sl 14976 0 2 2 true),(.sl 14724 0 7 7 false)])) .e) none
.e) none
(.n .e (some (.agg [(.int .i64 (.ofNat 3)),(.int .i64 (.ofNat 4)),(.int .i64 (.ofNat 3)),(.int .i64 (.ofNat 4))])) .e)) none
(.n .e none
(.n .e (some (.tup [(.agg [(.int .i64 (.ofNat 1)),(.sl 14913 0 7 7 true),(.sl 14758 0 1 1 true),(.sl 14961 0 2 2 true),(.sl 14976 0 2 2 true),(.sl 14724 0 7 7 false)]),(.int .i64 (.ofNat 0))])) .e))))), false⟩
noncomputable def sta1 : St := ⟨(.n (.n (.n (.n (.n (.n (.n (.n .e none
(.n (.n .e none
(.n (.n .e none
(.n .e none
(.n .e (some (.cells [(.int .i64 (.ofNat 0)),(.int .i64 (.ofNat 1))] true 1)) .e))) none
.e)) none
.e)) none
(.n (.n (.n .e none
(.n (.n .e none
(.n .e none
(.n .e (some (.cells [(.int .i64 (.ofNat 4))] true 1)) .e))) none
.e)) none
.e) none
.e)) none
.e) none
(.n (.n (.n .e none
(.n .e none
(.n .e none
(.n .e none
(.n (.n (.n .e (some (.cells [(.int .i64 (.ofNat 4))] false 0)) .e) none
.e) none
.e))))) none
(.n (.n (.n .e none
(.n (.n .e none
(.n .e none
(.n .e (some (.cells [(.int .i64 (.ofNat 5)),(.int .i64 (.ofNat 6))] true 1)) .e))) none
.e)) none
.e) none
.e)) none
.e)) none
(.n (.n .e none
(.n .e none
(.n (.n .e none
(.n .e none
(.n .e none
(.n (.n (.n .e (some (.cells [(.int .i64 (.ofNat 2)),(.int .i64 (.ofNat 3))] false 0)) .e) none
.e) none
.e)))) none
.e))) none
(.n (.n (.n .e none
(.n .e none
(.n (.n (.n .e none
(.n .e none
(.n .e (some (.cells [(.int .i64 (.ofNat 1)),(.int .i64 (.ofNat 1))] true 1)) .e))) none
.e) none
(.n .e none
(.n (.n (.n .e (some (.cells [(.sl 10134 0 7 7 false)] false 0)) .e) none
.e) none
.e))))) none
.e) none
.e))) none
(.n (.n (.n (.n .e none
(.n .e none
(.n .e none
(.n (.n (.n .e none
(.n .e none
(.n .e (some (.cells [(.int .i64 (.ofNat 3))] true 1)) .e))) none
.e) none
.e)))) none
.e) none
.e) none
(.n .e none
(.n (.n .e none
(.n (.n .e none
(.n .e none
(.n .e none
(.n (.n (.n .e (some (.cells [(.int .i64 (.ofNat 0)),(.int .i64 (.ofNat 2)),(.int .i64 (.ofNat 0)),(.int .i64 (.ofNat 2))] false 0)) .e) none
.e) none
.e)))) none
.e)) none
.e)))) none
(.n (.n (.n (.n (.n (.n .e none
(.n (.n .e none
(.n (.n .e none
(.n .e none
(.n .e (some (.cells [(.int .i64 (.ofNat 1)),(.sl 14913 0 7 7 true),(.sl 14758 0 1 1 true),(.sl 14961 0 2 2 true),(.sl 14976 0 2 2 true),(.sl 14724 0 7 7 false)] false 0)) .e))) none
.e)) none
.e)) none
(.n (.n (.n .e none
(.n (.n .e none
(.n .e none
(.n .e (some (.cells [(.int .i64 (.ofNat 1)),(.int .i64 (.ofNat 0)),(.int .i64 (.ofNat 0)),(.sl 14941 0 2 2 true),(.sl 14743 0 2 2 true),.nilsl,(.int .i64 (.ofNat 2)),(.int .i64 (.ofNat 0)),(.int .i64 (.ofNat 0)),(.sl 14834 0 2 2 true),.nilsl,.nilsl,(.int .i64 (.ofNat 3)),(.int .i64 (.ofNat 0)),(.int .i64 (.ofNat 0)),.nilsl,.nilsl,(.sl 14787 0 1 1 true),(.int .i64 (.ofNat 3)),(.int .i64 (.ofNat 0)),(.int .i64 (.ofNat 0)),.nilsl,.nilsl,(.sl 14818 0 1 1 true),(.int .i64 (.ofNat 2)),(.int .i64 (.ofNat 0)),(.int .i64 (.ofNat 0)),(.sl 14927 0 2 2 true),.nilsl,.nilsl,(.int .i64 (.ofNat 3)),(.int .i64 (.ofNat 0)),(.int .i64 (.ofNat 0)),.nilsl,.nilsl,(.sl 14880 0 1 1 true),(.int .i64 (.ofNat 3)),(.int .i64 (.ofNat 0)),(.int .i64 (.ofNat 0)),.nilsl,.nilsl,(.sl 14911 0 1 1 true)] true 6)) .e))) none
.e)) none
.e) none
.e)) none
.e) none
(.n .e none
(.n .e none
(.n (.n (.n .e none
(.n (.n .e none
(.n .e none
(.n .e (some (.cells [(.int .i64 (.ofNat 0)),(.int .i64 (.ofNat 0))] true 1)) .e))) none
.e)) none
.e) none
.e)))) none
.e) none
(.n (.n .e none
(.n (.n (.n .e none
(.n .e none
(.n .e none
(.n .e none
(.n (.n (.n .e (some (.cells [(.int .i64 (.ofNat 1)),(.int .i64 (.ofNat 0)),(.int .i64 (.ofNat 0)),(.sl 10076 0 2 2 false),(.sl 10077 0 2 2 false),.nilsl,(.int .i64 (.ofNat 2)),(.int .i64 (.ofNat 0)),(.int .i64 (.ofNat 0)),(.sl 10087 0 2 2 false),.nilsl,.nilsl,(.int .i64 (.ofNat 3)),(.int .i64 (.ofNat 0)),(.int .i64 (.ofNat 0)),.nilsl,.nilsl,(.sl 10093 0 1 1 false),(.int .i64 (.ofNat 3)),(.int .i64 (.ofNat 0)),(.int .i64 (.ofNat 0)),.nilsl,.nilsl,(.sl 10100 0 1 1 false),(.int .i64 (.ofNat 2)),(.int .i64 (.ofNat 0)),(.int .i64 (.ofNat 1)),(.sl 10114 0 2 2 false),.nilsl,.nilsl,(.int .i64 (.ofNat 3)),(.int .i64 (.ofNat 0)),(.int .i64 (.ofNat 0)),.nilsl,.nilsl,(.sl 10120 0 1 1 false),(.int .i64 (.ofNat 3)),(.int .i64 (.ofNat 0)),(.int .i64 (.ofNat 0)),.nilsl,.nilsl,(.sl 10127 0 1 1 false)] true 6)) .e) none
.e) none
.e))))) none
.e) none
.e)) none
(.n (.n .e none
(.n .e none
(.n (.n .e none
(.n .e none
(.n .e none
(.n (.n (.n .e (some (.cells [(.int .i64 (.ofNat 3))] false 0)) .e) none
.e) none
.e)))) none
.e))) none
(.n (.n .e none
(.n (.n (.n .e none
(.n (.n .e none
(.n .e none
(.n .e (some (.cells [(.int .i64 (.ofNat 1)),(.int .i64 (.ofNat 4))] true 1)) .e))) none
.e)) none
(.n .e none
(.n .e none
(.n (.n (.n .e (some (.cells [(.int .i64 (.ofNat 1)),(.int .i64 (.ofNat 1))] false 0)) .e) none
.e) none
.e)))) none
.e)) none
.e))))) none
(.n (.n (.n (.n (.n (.n (.n .e none
(.n (.n .e none
(.n (.n .e none
(.n .e none
(.n .e (some (.cells [(.sl 14958 0 2 2 true),(.sl 14975 0 2 2 true)] true 1)) .e))) none
.e)) none
.e)) none
.e) none
(.n (.n (.n (.n .e none
(.n (.n .e none
(.n .e none
(.n .e (some (.cells [(.int .i64 (.ofNat 3))] true 1)) .e))) none
.e)) none
.e) none
.e) none
.e)) none
.e) none
(.n (.n (.n (.n .e none
(.n .e none
(.n .e none
(.n .e none
(.n (.n (.n .e (some (.cells [(.int .i64 (.ofNat 3))] false 0)) .e) none
.e) none
.e))))) none
.e) none
.e) none
(.n (.n (.n .e none
(.n .e none
(.n .e none
(.n .e none
(.n (.n (.n .e (some (.cells [(.int .i64 (.ofNat 1)),(.sl 10133 0 7 7 true),(.sl 10075 0 2 2 false)] false 0)) .e) none
.e) none
.e))))) none
.e) none
.e))) none
(.n (.n (.n (.n (.n .e none
(.n .e none
(.n (.n (.n .e none
(.n .e none
(.n .e (some (.cells [(.int .i64 (.ofNat 0)),(.int .i64 (.ofNat 1)),(.int .i64 (.ofNat 2)),(.int .i64 (.ofNat 3)),(.int .i64 (.ofNat 4)),(.int .i64 (.ofNat 5)),(.int .i64 (.ofNat 6))] false 0)) .e))) none
.e) none
.e))) none
.e) none
.e) none
(.n .e none
(.n .e none
(.n (.n .e none
(.n .e none
(.n .e none
(.n (.n (.n .e (some (.cells [(.int .i64 (.ofNat 4))] false 0)) .e) none
.e) none
.e)))) none
.e)))) none
(.n .e none
(.n (.n .e none
(.n (.n .e none
(.n .e none
(.n .e none
(.n (.n (.n .e (some (.cells [(.int .i64 (.ofNat 1)),(.int .i64 (.ofNat 4))] false 0)) .e) none
.e) none
.e)))) none
.e)) none
.e)))) none
(.n (.n (.n (.n (.n (.n .e none
(.n .e none
(.n .e none
(.n .e none
(.n (.n (.n .e (some (.cells [(.int .i64 (.ofNat 5)),(.int .i64 (.ofNat 6))] false 0)) .e) none
.e) none
.e))))) none
.e) none
(.n .e none
(.n .e none
(.n .e none
(.n (.n (.n .e none
(.n .e none
(.n .e (some (.cells [(.int .i64 (.ofNat 4))] true 1)) .e))) none
.e) none
.e))))) none
(.n .e none
(.n .e none
(.n .e none
(.n .e none
(.n (.n (.n .e none
(.n .e none
(.n .e (some (.cells [(.int .i64 (.ofNat 2)),(.int .i64 (.ofNat 3))] true 1)) .e))) none
.e) none
.e)))))) none
.e) none
(.n (.n (.n .e none
(.n (.n .e none
(.n .e none
(.n (.n (.n .e none
(.n .e none
(.n .e (some (.cells [(.int .i64 (.ofNat 0)),(.int .i64 (.ofNat 2))] true 2)) .e))) none
.e) none
.e))) none
.e)) none
(.n (.n (.n .e none
(.n .e none
(.n .e none
(.n .e none
(.n (.n (.n .e (some (.cells [(.int .i64 (.ofNat 0)),(.int .i64 (.ofNat 4)),(.int .i64 (.ofNat 5)),(.int .i64 (.ofNat 6)),(.int .i64 (.ofNat 1)),(.int .i64 (.ofNat 2)),(.int .i64 (.ofNat 3))] false 0)) .e) none
.e) none
.e))))) none
.e) none
.e)) none
(.n (.n .e none
(.n .e none
(.n (.n (.n .e none
(.n (.n .e none
(.n .e none
(.n .e (some (.cells [(.int .i64 (.ofNat 0)),(.int .i64 (.ofNat 1))] true 1)) .e))) none
.e)) none
.e) none
.e))) none
.e))))), 14978⟩
noncomputable def act2 : Act' := ⟨(.n (.n (.n (.n (.n (.n .e (some (.agg [(.int .i64 (.ofNat 1)),(.sl 10133 0 7 7 true),(.sl 10075 0 2 2 false)])) .e) none
(.n .e (some (.sl 16253 0 1 1 false)) .e)) (some (.ptr 16255 0))
(.n (.n .e (some (.agg [(.int .i64 (.ofNat 1)),(.sl 16185 0 7 7 true),(.sl 16123 0 2 2 true),(.sl 16233 0 2 2 true),(.sl 16248 0 2 2 true),(.sl 15986 0 7 7 false)])) .e) none
(.n .e (some (.tup [(.agg [(.int .i64 (.ofNat 0)),.nilsl,.nilsl,.nilsl,.nilsl,.nilsl]),(.int .i64 (.ofNat 13))])) .e))) (some (.ptr 14977 0))
(.n (.n (.n .e (some (.int .i64 (.ofNat 0))) .e) none
(.n .e (some (.tup [(.agg [(.int .i64 (.ofNat 0)),.nilsl,.nilsl,.nilsl,.nilsl,.nilsl]),(.int .i64 (.ofNat 13))])) .e)) none
(.n (.n .e (some (.sl 16251 0 2 2 false)) .e) (some (.agg [(.int .i64 (.ofNat 1)),(.sl 10133 0 7 7 true),(.sl 10075 0 2 2 false)]))
.e))) (some (.ptr 10136 0))
(.n (.n (.n (.n .e (some (.tup [(.agg [(.int .i64 (.ofNat 1)),(.sl 14913 0 7 7 true),(.sl 14758 0 1 1 true),(.sl 14961 0 2 2 true),(.sl 14976 0 2 2 true),(.sl 14724 0 7 7 false)]),(.int .i64 (.ofNat 0))])) .e) none
(.n .e (some (.sl 16254 0 3 3 false)) .e)) (some (.int .i64 (.ofNat 13)))
(.n (.n .e (some (.agg [(.int .i64 (.ofNat 0)),(.int .i64 (.ofNat 2))])) .e) (some (.bool false))
(.n .e (some (.int .i64 (.ofNat 13))) .e))) (some (.ptr 16249 0))
(.n (.n (.n .e (some (.agg [(.int .i64 (.ofNat 1)),(.sl 10133 0 7 7 true),(.sl 10075 0 2 2 false)])) .e) none
(.n .e (some (.sl 16256 0 3 3 false)) .e)) none
(.n (.n .e (some (.sl 16252 0 1 1 false)) .e) (some (.sl 10135 0 1 1 false))
.e)))) (some (.bool false))
(.n (.n (.n (.n (.n .e (some (.sl 10135 0 1 1 false)) .e) none
(.n .e (some (.agg [(.int .i64 (.ofNat 3)),(.int .i64 (.ofNat 0)),(.int .i64 (.ofNat 0)),.nilsl,.nilsl,(.sl 16253 0 1 1 false)])) .e)) (some (.ptr 18286 0))
(.n (.n .e (some (.int .i64 (.ofNat 0))) .e) (some (.bool true))
(.n .e (some (.agg [(.int .i64 (.ofNat 0)),.nilsl,.nilsl,.nilsl,.nilsl,.nilsl])) .e))) (some (.int .i64 (.ofNat 0)))
(.n (.n (.n .e (some (.tup [(.agg [(.int .i64 (.ofNat 1)),(.sl 16185 0 7 7 true),(.sl 16123 0 2 2 true),(.sl 16233 0 2 2 true),(.sl 16248 0 2 2 true),(.sl 15986 0 7 7 false)]),(.int .i64 (.ofNat 0))])) .e) none
(.n .e (some (.agg [(.int .i64 (.ofNat 1)),(.sl 16254 0 3 3 false),(.sl 16250 0 1 1 false)])) .e)) none
(.n (.n .e (some (.agg [(.int .i64 (.ofNat 2)),(.int .i64 (.ofNat 0)),(.int .i64 (.ofNat 0)),(.sl 16251 0 2 2 false),.nilsl,.nilsl])) .e) (some (.sl 10134 0 7 7 false))
.e))) (some (.sl 10135 0 1 1 false))
(.n (.n (.n (.n .e (some (.agg [(.int .i64 (.ofNat 1)),(.sl 14913 0 7 7 true),(.sl 14758 0 1 1 true),(.sl 14961 0 2 2 true),(.sl 14976 0 2 2 true),(.sl 14724 0 7 7 false)])) .e) none
(.n .e (some (.agg [(.int .i64 (.ofNat 1)),(.sl 16254 0 3 3 false),(.sl 16250 0 1 1 false)])) .e)) none
(.n (.n .e (some (.sl 16250 0 1 1 false)) .e) (some (.agg [(.int .i64 (.ofNat 3)),(.int .i64 (.ofNat 4)),(.int .i64 (.ofNat 3)),(.int .i64 (.ofNat 4))]))
.e)) (some (.int .i64 (.ofNat 0)))
(.n (.n (.n .e (some (.tup [(.agg [(.int .i64 (.ofNat 1)),(.sl 16185 0 7 7 true),(.sl 16123 0 2 2 true),(.sl 16233 0 2 2 true),(.sl 16248 0 2 2 true),(.sl 15986 0 7 7 false)]),(.int .i64 (.ofNat 0))])) .e) none
(.n .e (some (.sl 16257 0 1 1 false)) .e)) none
(.n (.n .e (some (.agg [(.int .i64 (.ofNat 3)),(.int .i64 (.ofNat 0)),(.int .i64 (.ofNat 0)),.nilsl,.nilsl,(.sl 16252 0 1 1 false)])) .e) (some (.tup [(.agg [(.int .i64 (.ofNat 1)),(.sl 14913 0 7 7 true),(.sl 14758 0 1 1 true),(.sl 14961 0 2 2 true),(.sl 14976 0 2 2 true),(.sl 14724 0 7 7 false)]),(.int .i64 (.ofNat 0))]))
.e))))), false⟩
noncomputable def sta2 : St := ⟨(.n (.n (.n (.n (.n (.n (.n (.n .e none
(.n (.n .e none
(.n (.n .e none
(.n .e none
(.n .e (some (.cells [(.int .i64 (.ofNat 0)),(.int .i64 (.ofNat 1))] true 1)) .e))) none
.e)) none
.e)) none
(.n (.n (.n .e none
(.n (.n .e none
(.n .e none
(.n .e (some (.cells [(.int .i64 (.ofNat 4))] true 1)) .e))) none
.e)) none
.e) none
.e)) none
.e) none
(.n (.n (.n .e none
(.n .e none
(.n .e none
(.n .e none
(.n (.n (.n .e (some (.cells [(.int .i64 (.ofNat 4))] false 0)) .e) none
.e) none
.e))))) none
(.n (.n (.n .e none
(.n (.n .e none
(.n .e none
(.n .e (some (.cells [(.int .i64 (.ofNat 5)),(.int .i64 (.ofNat 6))] true 1)) .e))) none
.e)) none
.e) none
.e)) none
.e)) none
(.n (.n (.n .e none
(.n (.n .e none
(.n .e none
(.n .e none
(.n .e none
(.n .e none
(.n .e (some (.cells [(.int .i64 (.ofNat 5)),(.int .i64 (.ofNat 6))] true 1)) .e)))))) none
.e)) none
(.n .e none
(.n (.n .e none
(.n .e none
(.n .e none
(.n (.n (.n .e (some (.cells [(.int .i64 (.ofNat 2)),(.int .i64 (.ofNat 3))] false 0)) .e) none
.e) none
.e)))) none
.e))) none
(.n (.n (.n .e none
(.n .e none
(.n (.n (.n .e none
(.n .e none
(.n .e (some (.cells [(.int .i64 (.ofNat 1)),(.int .i64 (.ofNat 1))] true 1)) .e))) none
.e) none
(.n .e none
(.n (.n (.n .e (some (.cells [(.sl 10134 0 7 7 false)] false 0)) .e) none
.e) none
.e))))) none
.e) none
(.n (.n (.n .e none
(.n .e none
(.n .e none
(.n .e none
(.n .e none
(.n .e (some (.cells [(.int .i64 (.ofNat 4))] true 1)) .e)))))) none
.e) none
(.n (.n .e none
(.n .e none
(.n .e none
(.n .e none
(.n .e none
(.n .e (some (.cells [(.int .i64 (.ofNat 0)),(.int .i64 (.ofNat 1))] true 1)) .e)))))) none
.e))))) none
(.n (.n (.n (.n .e none
(.n .e none
(.n .e none
(.n (.n (.n .e none
(.n .e none
(.n .e (some (.cells [(.int .i64 (.ofNat 3))] true 1)) .e))) none
.e) none
.e)))) none
.e) none
.e) none
(.n .e none
(.n (.n .e none
(.n (.n .e none
(.n .e none
(.n .e none
(.n (.n (.n .e (some (.cells [(.int .i64 (.ofNat 0)),(.int .i64 (.ofNat 2)),(.int .i64 (.ofNat 0)),(.int .i64 (.ofNat 2))] false 0)) .e) none
.e) none
.e)))) none
.e)) none
(.n .e none
(.n .e none
(.n (.n .e none
(.n .e none
(.n .e none
(.n .e none
(.n .e (some (.cells [(.int .i64 (.ofNat 0)),(.int .i64 (.ofNat 2)),(.int .i64 (.ofNat 0)),(.int .i64 (.ofNat 2))] true 2)) .e))))) none
.e))))))) none
(.n (.n (.n (.n (.n (.n .e none
(.n (.n .e none
(.n (.n .e none
(.n .e none
(.n .e (some (.cells [(.int .i64 (.ofNat 1)),(.sl 14913 0 7 7 true),(.sl 14758 0 1 1 true),(.sl 14961 0 2 2 true),(.sl 14976 0 2 2 true),(.sl 14724 0 7 7 false)] false 0)) .e))) none
.e)) none
.e)) none
(.n (.n (.n .e none
(.n (.n .e none
(.n .e none
(.n .e (some (.cells [(.int .i64 (.ofNat 1)),(.int .i64 (.ofNat 0)),(.int .i64 (.ofNat 0)),(.sl 14941 0 2 2 true),(.sl 14743 0 2 2 true),.nilsl,(.int .i64 (.ofNat 2)),(.int .i64 (.ofNat 0)),(.int .i64 (.ofNat 0)),(.sl 14834 0 2 2 true),.nilsl,.nilsl,(.int .i64 (.ofNat 3)),(.int .i64 (.ofNat 0)),(.int .i64 (.ofNat 0)),.nilsl,.nilsl,(.sl 14787 0 1 1 true),(.int .i64 (.ofNat 3)),(.int .i64 (.ofNat 0)),(.int .i64 (.ofNat 0)),.nilsl,.nilsl,(.sl 14818 0 1 1 true),(.int .i64 (.ofNat 2)),(.int .i64 (.ofNat 0)),(.int .i64 (.ofNat 0)),(.sl 14927 0 2 2 true),.nilsl,.nilsl,(.int .i64 (.ofNat 3)),(.int .i64 (.ofNat 0)),(.int .i64 (.ofNat 0)),.nilsl,.nilsl,(.sl 14880 0 1 1 true),(.int .i64 (.ofNat 3)),(.int .i64 (.ofNat 0)),(.int .i64 (.ofNat 0)),.nilsl,.nilsl,(.sl 14911 0 1 1 true)] true 6)) .e))) none
.e)) none
.e) none
.e)) none
.e) none
(.n .e none
(.n (.n .e none
(.n (.n .e none
(.n .e none
(.n .e none
(.n .e none
(.n .e (some (.cells [(.int .i64 (.ofNat 3))] true 1)) .e))))) none
.e)) none
(.n (.n (.n .e none
(.n (.n .e none
(.n .e none
(.n .e (some (.cells [(.int .i64 (.ofNat 0)),(.int .i64 (.ofNat 0))] true 1)) .e))) none
.e)) none
.e) none
.e)))) none
(.n (.n .e none
(.n .e none
(.n (.n .e none
(.n .e none
(.n .e none
(.n .e none
(.n .e none
(.n .e (some (.cells [(.int .i64 (.ofNat 0)),(.int .i64 (.ofNat 1))] true 1)) .e)))))) none
.e))) none
(.n .e none
(.n (.n (.n .e none
(.n .e none
(.n .e none
(.n .e none
(.n .e none
(.n .e (some (.cells [(.int .i64 (.ofNat 1)),(.int .i64 (.ofNat 0)),(.int .i64 (.ofNat 0)),(.sl 16213 0 2 2 true),(.sl 16005 0 2 2 true),.nilsl,(.int .i64 (.ofNat 2)),(.int .i64 (.ofNat 0)),(.int .i64 (.ofNat 0)),(.sl 16096 0 2 2 true),.nilsl,.nilsl,(.int .i64 (.ofNat 3)),(.int .i64 (.ofNat 0)),(.int .i64 (.ofNat 0)),.nilsl,.nilsl,(.sl 16049 0 1 1 true),(.int .i64 (.ofNat 3)),(.int .i64 (.ofNat 0)),(.int .i64 (.ofNat 0)),.nilsl,.nilsl,(.sl 16080 0 1 1 true),(.int .i64 (.ofNat 2)),(.int .i64 (.ofNat 0)),(.int .i64 (.ofNat 1)),(.sl 16199 0 2 2 true),.nilsl,.nilsl,(.int .i64 (.ofNat 3)),(.int .i64 (.ofNat 0)),(.int .i64 (.ofNat 0)),.nilsl,.nilsl,(.sl 16152 0 1 1 true),(.int .i64 (.ofNat 3)),(.int .i64 (.ofNat 0)),(.int .i64 (.ofNat 0)),.nilsl,.nilsl,(.sl 16183 0 1 1 true)] true 6)) .e)))))) none
.e) none
(.n (.n .e none
(.n .e none
(.n .e none
(.n .e none
(.n .e none
(.n .e (some (.cells [(.int .i64 (.ofNat 1)),(.sl 16185 0 7 7 true),(.sl 16123 0 2 2 true),(.sl 16233 0 2 2 true),(.sl 16248 0 2 2 true),(.sl 15986 0 7 7 false)] false 0)) .e)))))) none
.e))))) none
(.n (.n (.n (.n (.n .e none
(.n (.n .e none
(.n .e none
(.n .e none
(.n .e none
(.n .e (some (.cells [(.int .i64 (.ofNat 1)),(.int .i64 (.ofNat 1))] true 1)) .e))))) none
.e)) none
.e) none
.e) none
(.n (.n (.n .e none
(.n .e none
(.n .e none
(.n .e none
(.n (.n (.n .e (some (.cells [(.int .i64 (.ofNat 1)),(.int .i64 (.ofNat 0)),(.int .i64 (.ofNat 0)),(.sl 10076 0 2 2 false),(.sl 10077 0 2 2 false),.nilsl,(.int .i64 (.ofNat 2)),(.int .i64 (.ofNat 0)),(.int .i64 (.ofNat 0)),(.sl 10087 0 2 2 false),.nilsl,.nilsl,(.int .i64 (.ofNat 3)),(.int .i64 (.ofNat 0)),(.int .i64 (.ofNat 0)),.nilsl,.nilsl,(.sl 10093 0 1 1 false),(.int .i64 (.ofNat 3)),(.int .i64 (.ofNat 0)),(.int .i64 (.ofNat 0)),.nilsl,.nilsl,(.sl 10100 0 1 1 false),(.int .i64 (.ofNat 2)),(.int .i64 (.ofNat 0)),(.int .i64 (.ofNat 1)),(.sl 10114 0 2 2 false),.nilsl,.nilsl,(.int .i64 (.ofNat 3)),(.int .i64 (.ofNat 0)),(.int .i64 (.ofNat 0)),.nilsl,.nilsl,(.sl 10120 0 1 1 false),(.int .i64 (.ofNat 3)),(.int .i64 (.ofNat 0)),(.int .i64 (.ofNat 0)),.nilsl,.nilsl,(.sl 10127 0 1 1 false)] true 6)) .e) none
.e) none
.e))))) none
(.n (.n .e none
(.n .e none
(.n .e none
(.n .e none
(.n .e none
(.n .e (some (.cells [(.int .i64 (.ofNat 1)),(.int .i64 (.ofNat 4))] true 1)) .e)))))) none
.e)) none
.e)) none
(.n (.n .e none
(.n .e none
(.n (.n .e none
(.n .e none
(.n .e none
(.n (.n (.n .e (some (.cells [(.int .i64 (.ofNat 3))] false 0)) .e) none
.e) none
.e)))) none
.e))) none
(.n (.n .e none
(.n (.n (.n .e none
(.n (.n .e none
(.n .e none
(.n .e (some (.cells [(.int .i64 (.ofNat 1)),(.int .i64 (.ofNat 4))] true 1)) .e))) none
.e)) none
(.n .e none
(.n .e none
(.n (.n (.n .e (some (.cells [(.int .i64 (.ofNat 1)),(.int .i64 (.ofNat 1))] false 0)) .e) none
.e) none
.e)))) none
.e)) none
.e))))) none
(.n (.n (.n (.n (.n (.n (.n .e none
(.n (.n .e none
(.n (.n .e none
(.n .e none
(.n .e (some (.cells [(.sl 14958 0 2 2 true),(.sl 14975 0 2 2 true)] true 1)) .e))) none
.e)) none
.e)) none
.e) none
(.n (.n (.n (.n .e none
(.n (.n .e none
(.n .e none
(.n .e (some (.cells [(.int .i64 (.ofNat 3))] true 1)) .e))) none
.e)) none
.e) none
.e) none
(.n .e none
(.n (.n .e none
(.n .e none
(.n .e none
(.n .e none
(.n .e (some (.cells [(.int .i64 (.ofNat 2)),(.int .i64 (.ofNat 3))] true 1)) .e))))) none
.e)))) none
(.n (.n .e none
(.n .e none
(.n (.n .e none
(.n .e none
(.n .e none
(.n .e none
(.n .e (some (.cells [(.int .i64 (.ofNat 4))] true 1)) .e))))) none
.e))) none
.e)) none
(.n (.n (.n (.n .e none
(.n .e none
(.n .e none
(.n .e none
(.n (.n (.n .e (some (.cells [(.int .i64 (.ofNat 3))] false 0)) .e) none
.e) none
.e))))) none
.e) none
.e) none
(.n (.n (.n (.n .e none
(.n .e none
(.n .e none
(.n .e none
(.n .e none
(.n .e (some (.cells [(.int .i64 (.ofNat 3))] true 1)) .e)))))) none
(.n .e none
(.n .e none
(.n .e none
(.n (.n (.n .e (some (.cells [(.int .i64 (.ofNat 1)),(.sl 10133 0 7 7 true),(.sl 10075 0 2 2 false)] false 0)) .e) none
.e) none
.e))))) none
.e) none
(.n .e none
(.n (.n .e none
(.n .e none
(.n .e none
(.n .e none
(.n .e none
(.n .e (some (.cells [(.sl 16230 0 2 2 true),(.sl 16247 0 2 2 true)] true 1)) .e)))))) none
.e))))) none
(.n (.n (.n (.n (.n .e none
(.n .e none
(.n (.n (.n .e none
(.n .e none
(.n .e (some (.cells [(.int .i64 (.ofNat 0)),(.int .i64 (.ofNat 1)),(.int .i64 (.ofNat 2)),(.int .i64 (.ofNat 3)),(.int .i64 (.ofNat 4)),(.int .i64 (.ofNat 5)),(.int .i64 (.ofNat 6))] false 0)) .e))) none
.e) none
.e))) none
.e) none
.e) none
(.n .e none
(.n .e none
(.n (.n .e none
(.n .e none
(.n .e none
(.n (.n (.n .e (some (.cells [(.int .i64 (.ofNat 4))] false 0)) .e) none
.e) none
.e)))) none
.e)))) none
(.n .e none
(.n (.n .e none
(.n (.n .e none
(.n .e none
(.n .e none
(.n (.n (.n .e (some (.cells [(.int .i64 (.ofNat 1)),(.int .i64 (.ofNat 4))] false 0)) .e) none
.e) none
.e)))) none
.e)) none
.e)))) none
(.n (.n (.n (.n (.n (.n .e none
(.n .e none
(.n .e none
(.n .e none
(.n (.n (.n .e (some (.cells [(.int .i64 (.ofNat 5)),(.int .i64 (.ofNat 6))] false 0)) .e) none
.e) none
.e))))) none
.e) none
(.n .e none
(.n .e none
(.n .e none
(.n (.n (.n .e none
(.n .e none
(.n .e (some (.cells [(.int .i64 (.ofNat 4))] true 1)) .e))) none
.e) none
.e))))) none
(.n .e none
(.n .e none
(.n (.n (.n .e none
(.n .e none
(.n .e none
(.n .e none
(.n .e (some (.cells [(.int .i64 (.ofNat 0)),(.int .i64 (.ofNat 1)),(.int .i64 (.ofNat 2)),(.int .i64 (.ofNat 3)),(.int .i64 (.ofNat 4)),(.int .i64 (.ofNat 5)),(.int .i64 (.ofNat 6))] false 0)) .e))))) none
.e) none
(.n .e none
(.n (.n (.n .e none
(.n .e none
(.n .e (some (.cells [(.int .i64 (.ofNat 2)),(.int .i64 (.ofNat 3))] true 1)) .e))) none
.e) none
.e)))))) none
.e) none
(.n (.n (.n .e none
(.n (.n .e none
(.n .e none
(.n (.n (.n .e none
(.n .e none
(.n .e (some (.cells [(.int .i64 (.ofNat 0)),(.int .i64 (.ofNat 2))] true 2)) .e))) none
.e) none
.e))) none
(.n (.n .e none
(.n .e none
(.n .e none
(.n .e none
(.n .e none
(.n .e (some (.cells [(.int .i64 (.ofNat 0)),(.int .i64 (.ofNat 1))] true 1)) .e)))))) none
.e))) none
(.n (.n (.n .e none
(.n .e none
(.n .e none
(.n .e none
(.n (.n (.n .e (some (.cells [(.int .i64 (.ofNat 0)),(.int .i64 (.ofNat 4)),(.int .i64 (.ofNat 5)),(.int .i64 (.ofNat 6)),(.int .i64 (.ofNat 1)),(.int .i64 (.ofNat 2)),(.int .i64 (.ofNat 3))] false 0)) .e) none
.e) none
.e))))) none
.e) none
.e)) none
(.n (.n .e none
(.n .e none
(.n (.n (.n .e none
(.n (.n .e none
(.n .e none
(.n .e (some (.cells [(.int .i64 (.ofNat 0)),(.int .i64 (.ofNat 1))] true 1)) .e))) none
.e)) none
.e) none
.e))) none
.e))))), 18287⟩
noncomputable def act3 : Act' := ⟨(.n (.n (.n (.n (.n (.n (.n .e (some (.sl 14913 0 7 7 true)) .e) (some (.agg [(.int .i64 (.ofNat 1)),(.sl 10133 0 7 7 true),(.sl 10075 0 2 2 false)]))
(.n .e (some (.bool true)) .e)) none
(.n (.n .e (some (.sl 14913 0 7 7 true)) .e) (some (.sl 16253 0 1 1 false))
.e)) (some (.ptr 16255 0))
(.n (.n (.n .e (some (.ptr 14913 6)) .e) (some (.agg [(.int .i64 (.ofNat 1)),(.sl 16185 0 7 7 true),(.sl 16123 0 2 2 true),(.sl 16233 0 2 2 true),(.sl 16248 0 2 2 true),(.sl 15986 0 7 7 false)]))
(.n .e (some (.agg [(.int .i64 (.ofNat 1)),(.sl 10133 0 7 7 true),(.sl 10075 0 2 2 false)])) .e)) none
(.n (.n .e (some (.bool true)) .e) (some (.tup [(.agg [(.int .i64 (.ofNat 0)),.nilsl,.nilsl,.nilsl,.nilsl,.nilsl]),(.int .i64 (.ofNat 13))]))
.e))) (some (.ptr 14977 0))
(.n (.n (.n (.n .e (some (.bool true)) .e) (some (.int .i64 (.ofNat 0)))
(.n .e (some (.agg [(.bool false),(.sl 18307 0 1 1 false),(.sl 18308 0 1 1 false)])) .e)) none
(.n (.n .e (some (.bool true)) .e) (some (.tup [(.agg [(.int .i64 (.ofNat 0)),.nilsl,.nilsl,.nilsl,.nilsl,.nilsl]),(.int .i64 (.ofNat 13))]))
.e)) (some (.sl 18312 0 2 2 false))
(.n (.n (.n .e (some (.bool true)) .e) (some (.sl 16251 0 2 2 false))
(.n .e (some (.tup [(.sl 23157 0 2 2 false),(.int .i64 (.ofNat 0))])) .e)) (some (.agg [(.int .i64 (.ofNat 1)),(.sl 10133 0 7 7 true),(.sl 10075 0 2 2 false)]))
(.n (.n .e (some (.sl 16233 0 2 2 true)) .e) (some (.bool true))
.e)))) (some (.ptr 10136 0))
(.n (.n (.n (.n (.n .e (some (.bool true)) .e) (some (.tup [(.agg [(.int .i64 (.ofNat 1)),(.sl 14913 0 7 7 true),(.sl 14758 0 1 1 true),(.sl 14961 0 2 2 true),(.sl 14976 0 2 2 true),(.sl 14724 0 7 7 false)]),(.int .i64 (.ofNat 0))]))
(.n .e (some (.bool true)) .e)) none
(.n (.n .e (some (.ptr 14913 26)) .e) (some (.sl 16254 0 3 3 false))
.e)) (some (.int .i64 (.ofNat 13)))
(.n (.n (.n .e (some (.int .i64 (.ofNat 0))) .e) (some (.agg [(.int .i64 (.ofNat 0)),(.int .i64 (.ofNat 2))]))
(.n .e (some (.sl 18312 0 2 2 false)) .e)) (some (.bool false))
(.n (.n .e (some (.bool true)) .e) (some (.int .i64 (.ofNat 13)))
.e))) (some (.ptr 16249 0))
(.n (.n (.n (.n .e (some (.ptr 14977 1)) .e) (some (.agg [(.int .i64 (.ofNat 1)),(.sl 10133 0 7 7 true),(.sl 10075 0 2 2 false)]))
(.n .e (some (.sl 18312 0 2 2 false)) .e)) none
(.n (.n .e (some (.bool true)) .e) (some (.sl 16256 0 3 3 false))
.e)) (some (.int .i64 (.ofNat 0)))
(.n (.n (.n .e (some (.ptr 14977 0)) .e) (some (.sl 16252 0 1 1 false))
(.n .e (some (.int .i64 (.ofNat 0))) .e)) (some (.sl 10135 0 1 1 false))
(.n (.n .e (some (.bool true)) .e) (some (.ptr 14977 0))
.e))))) (some (.bool false))
(.n (.n (.n (.n (.n (.n .e (some (.int .i64 (.ofNat 7))) .e) (some (.sl 10135 0 1 1 false))
(.n .e (some (.int .i64 (.ofNat 13))) .e)) none
(.n (.n .e (some (.ptr 14913 24)) .e) (some (.agg [(.int .i64 (.ofNat 3)),(.int .i64 (.ofNat 0)),(.int .i64 (.ofNat 0)),.nilsl,.nilsl,(.sl 16253 0 1 1 false)]))
.e)) (some (.ptr 18286 0))
(.n (.n (.n .e (some (.ptr 14913 8)) .e) (some (.int .i64 (.ofNat 0)))
(.n .e (some (.sl 10135 0 1 1 false)) .e)) (some (.bool true))
(.n (.n .e (some (.bool true)) .e) (some (.agg [(.int .i64 (.ofNat 0)),.nilsl,.nilsl,.nilsl,.nilsl,.nilsl]))
.e))) (some (.int .i64 (.ofNat 0)))
(.n (.n (.n (.n .e (some (.ptr 14977 0)) .e) (some (.tup [(.agg [(.int .i64 (.ofNat 1)),(.sl 16185 0 7 7 true),(.sl 16123 0 2 2 true),(.sl 16233 0 2 2 true),(.sl 16248 0 2 2 true),(.sl 15986 0 7 7 false)]),(.int .i64 (.ofNat 0))]))
(.n .e (some (.agg [(.bool false),(.sl 18310 0 1 1 false),(.sl 18311 0 1 1 false)])) .e)) none
(.n (.n .e (some (.bool true)) .e) (some (.agg [(.int .i64 (.ofNat 1)),(.sl 16254 0 3 3 false),(.sl 16250 0 1 1 false)]))
.e)) (some (.sl 23157 0 2 2 false))
(.n (.n (.n .e (some (.bool true)) .e) (some (.agg [(.int .i64 (.ofNat 2)),(.int .i64 (.ofNat 0)),(.int .i64 (.ofNat 0)),(.sl 16251 0 2 2 false),.nilsl,.nilsl]))
(.n .e (some (.sl 23157 0 2 2 false)) .e)) (some (.sl 10134 0 7 7 false))
(.n (.n .e (some (.sl 18287 0 2 2 false)) .e) (some (.bool true))
.e)))) (some (.sl 10135 0 1 1 false))
(.n (.n (.n (.n (.n .e (some (.bool true)) .e) (some (.agg [(.int .i64 (.ofNat 1)),(.sl 14913 0 7 7 true),(.sl 14758 0 1 1 true),(.sl 14961 0 2 2 true),(.sl 14976 0 2 2 true),(.sl 14724 0 7 7 false)]))
(.n .e (some (.bool true)) .e)) none
(.n (.n .e (some (.int .i64 (.ofNat 0))) .e) (some (.agg [(.int .i64 (.ofNat 1)),(.sl 16254 0 3 3 false),(.sl 16250 0 1 1 false)]))
.e)) (some (.bool true))
(.n (.n (.n .e (some (.bool true)) .e) (some (.sl 16250 0 1 1 false))
(.n .e (some (.sl 18313 0 1 1 false)) .e)) (some (.agg [(.int .i64 (.ofNat 3)),(.int .i64 (.ofNat 4)),(.int .i64 (.ofNat 3)),(.int .i64 (.ofNat 4))]))
(.n (.n .e (some (.ptr 16249 3)) .e) (some (.int .i64 (.ofNat 0)))
.e))) (some (.int .i64 (.ofNat 0)))
(.n (.n (.n (.n .e (some (.sl 14913 0 7 7 true)) .e) (some (.tup [(.agg [(.int .i64 (.ofNat 1)),(.sl 16185 0 7 7 true),(.sl 16123 0 2 2 true),(.sl 16233 0 2 2 true),(.sl 16248 0 2 2 true),(.sl 15986 0 7 7 false)]),(.int .i64 (.ofNat 0))]))
(.n .e (some (.tup [(.sl 23157 0 2 2 false),(.int .i64 (.ofNat 0))])) .e)) none
(.n (.n .e (some (.int .i64 (.ofNat 0))) .e) (some (.sl 16257 0 1 1 false))
.e)) none
(.n (.n (.n .e (some (.ptr 14977 1)) .e) (some (.agg [(.int .i64 (.ofNat 3)),(.int .i64 (.ofNat 0)),(.int .i64 (.ofNat 0)),.nilsl,.nilsl,(.sl 16252 0 1 1 false)]))
.e) (some (.tup [(.agg [(.int .i64 (.ofNat 1)),(.sl 14913 0 7 7 true),(.sl 14758 0 1 1 true),(.sl 14961 0 2 2 true),(.sl 14976 0 2 2 true),(.sl 14724 0 7 7 false)]),(.int .i64 (.ofNat 0))]))
(.n (.n .e (some (.bool true)) .e) (some (.ptr 14977 1))
.e)))))), false⟩
noncomputable def sta3 : St := ⟨(.n (.n (.n (.n (.n .e none
(.n (.n (.n .e none
(.n .e none
(.n .e none
(.n .e none
(.n (.n (.n .e (some (.cells [(.int .i64 (.ofNat 4))] false 0)) .e) none
.e) none
.e))))) none
.e) none
(.n (.n (.n .e none
(.n .e none
(.n (.n .e none
(.n .e none
(.n (.n .e (some (.cells [(.int .u32 (.ofNat 2))] true 1)) .e) none
.e))) none
.e))) none
.e) none
.e))) none
(.n (.n (.n (.n .e none
(.n .e none
(.n .e none
(.n .e none
(.n (.n (.n (.n .e (some (.cells [(.int .u32 (.ofNat 3))] false 0)) .e) none
.e) none
.e) none
.e))))) none
.e) none
(.n .e none
(.n (.n .e none
(.n .e none
(.n .e none
(.n (.n (.n .e (some (.cells [(.int .i64 (.ofNat 2)),(.int .i64 (.ofNat 3))] false 0)) .e) none
.e) none
.e)))) none
.e))) none
(.n (.n (.n .e none
(.n .e none
(.n .e none
(.n .e none
(.n (.n (.n .e (some (.cells [(.sl 10134 0 7 7 false)] false 0)) .e) none
.e) none
.e))))) none
.e) none
.e))) none
(.n (.n (.n (.n (.n (.n .e none
(.n .e none
(.n (.n .e none
(.n .e none
(.n (.n .e (some (.cells [(.int .u32 (.ofNat 3))] true 1)) .e) none
.e))) none
.e))) none
(.n .e none
(.n .e none
(.n .e none
(.n (.n (.n (.n .e (some (.cells [(.int .u32 (.ofNat 1))] false 0)) .e) none
.e) none
.e) none
.e))))) none
.e) none
.e) none
.e) none
(.n .e none
(.n (.n .e none
(.n (.n .e none
(.n .e none
(.n .e none
(.n (.n (.n .e (some (.cells [(.int .i64 (.ofNat 0)),(.int .i64 (.ofNat 2)),(.int .i64 (.ofNat 0)),(.int .i64 (.ofNat 2))] false 0)) .e) none
.e) none
.e)))) none
.e)) none
.e)))) none
(.n (.n (.n (.n (.n (.n (.n .e none
(.n .e none
(.n (.n .e none
(.n .e none
(.n (.n .e (some (.cells [(.int .u32 (.ofNat 1))] true 1)) .e) none
.e))) none
.e))) none
.e) none
.e) none
.e) none
(.n .e none
(.n (.n (.n .e none
(.n .e none
(.n (.n .e none
(.n .e none
(.n (.n .e (some (.cells [(.int .u32 (.ofNat 3))] true 1)) .e) none
.e))) none
.e))) none
.e) none
.e))) none
.e) none
(.n (.n .e none
(.n (.n (.n .e none
(.n .e none
(.n .e none
(.n .e none
(.n (.n (.n .e (some (.cells [(.int .i64 (.ofNat 1)),(.int .i64 (.ofNat 0)),(.int .i64 (.ofNat 0)),(.sl 10076 0 2 2 false),(.sl 10077 0 2 2 false),.nilsl,(.int .i64 (.ofNat 2)),(.int .i64 (.ofNat 0)),(.int .i64 (.ofNat 0)),(.sl 10087 0 2 2 false),.nilsl,.nilsl,(.int .i64 (.ofNat 3)),(.int .i64 (.ofNat 0)),(.int .i64 (.ofNat 0)),.nilsl,.nilsl,(.sl 10093 0 1 1 false),(.int .i64 (.ofNat 3)),(.int .i64 (.ofNat 0)),(.int .i64 (.ofNat 0)),.nilsl,.nilsl,(.sl 10100 0 1 1 false),(.int .i64 (.ofNat 2)),(.int .i64 (.ofNat 0)),(.int .i64 (.ofNat 1)),(.sl 10114 0 2 2 false),.nilsl,.nilsl,(.int .i64 (.ofNat 3)),(.int .i64 (.ofNat 0)),(.int .i64 (.ofNat 0)),.nilsl,.nilsl,(.sl 10120 0 1 1 false),(.int .i64 (.ofNat 3)),(.int .i64 (.ofNat 0)),(.int .i64 (.ofNat 0)),.nilsl,.nilsl,(.sl 10127 0 1 1 false)] true 6)) .e) none
.e) none
.e))))) none
(.n .e none
(.n (.n .e none
(.n (.n .e none
(.n .e none
(.n (.n .e (some (.cells [(.bool false),(.sl 23204 0 1 1 true),(.sl 23206 0 1 1 true),(.bool false),(.sl 23250 0 1 1 true),(.sl 23252 0 1 1 true)] true 3)) .e) none
.e))) none
.e)) none
.e))) none
(.n .e none
(.n (.n (.n .e none
(.n (.n .e none
(.n .e none
(.n (.n .e (some (.cells [(.sl 23253 0 2 2 true),(.sl 23346 0 2 2 true)] false 0)) .e) none
.e))) none
.e)) none
.e) none
.e)))) none
(.n (.n .e none
(.n .e none
(.n (.n .e none
(.n .e none
(.n .e none
(.n (.n (.n .e (some (.cells [(.int .i64 (.ofNat 3))] false 0)) .e) none
.e) none
.e)))) none
.e))) none
(.n (.n .e none
(.n (.n .e none
(.n .e none
(.n .e none
(.n (.n (.n .e (some (.cells [(.int .i64 (.ofNat 1)),(.int .i64 (.ofNat 1))] false 0)) .e) none
.e) none
.e)))) none
.e)) none
.e))))) none
(.n (.n (.n .e none
(.n (.n (.n (.n .e none
(.n .e none
(.n .e none
(.n .e none
(.n (.n (.n (.n .e (some (.cells [(.bool false),(.sl 18307 0 1 1 false),(.sl 18308 0 1 1 false),(.bool false),(.sl 18310 0 1 1 false),(.sl 18311 0 1 1 false)] false 0)) .e) (some (.cells [(.int .i64 (.ofNat 3))] false 0))
.e) none
.e) none
.e))))) none
.e) none
.e) none
(.n (.n (.n .e none
(.n .e none
(.n .e none
(.n .e none
(.n (.n (.n .e (some (.cells [(.int .i64 (.ofNat 1)),(.sl 10133 0 7 7 true),(.sl 10075 0 2 2 false)] false 0)) .e) none
.e) none
.e))))) none
.e) none
.e))) none
(.n (.n (.n (.n (.n .e none
(.n .e none
(.n .e none
(.n .e none
(.n (.n (.n (.n .e (some (.cells [(.int .u32 (.ofNat 3))] false 0)) .e) none
.e) none
.e) none
.e))))) none
.e) none
(.n (.n .e none
(.n (.n .e none
(.n (.n .e none
(.n .e none
(.n (.n .e (some (.cells [(.int .u32 (.ofNat 1))] true 1)) .e) none
.e))) none
.e)) none
.e)) none
.e)) none
(.n (.n .e none
(.n .e none
(.n (.n .e none
(.n (.n .e none
(.n .e none
(.n (.n .e (some (.cells [(.int .u32 (.ofNat 3))] true 1)) .e) none
.e))) none
.e)) none
.e))) none
(.n .e none
(.n (.n .e none
(.n .e none
(.n .e none
(.n (.n (.n .e (some (.cells [(.int .i64 (.ofNat 4))] false 0)) .e) none
.e) none
.e)))) none
.e)))) none
(.n .e none
(.n (.n .e none
(.n (.n .e none
(.n .e none
(.n .e none
(.n (.n (.n .e (some (.cells [(.int .i64 (.ofNat 1)),(.int .i64 (.ofNat 4))] false 0)) .e) none
.e) none
.e)))) none
.e)) none
.e)))) none
(.n (.n (.n (.n (.n (.n .e none
(.n .e none
(.n .e none
(.n .e none
(.n (.n (.n .e (some (.cells [(.int .i64 (.ofNat 5)),(.int .i64 (.ofNat 6))] false 0)) .e) none
.e) none
.e))))) none
.e) none
.e) none
(.n (.n .e none
(.n .e none
(.n (.n .e none
(.n (.n .e none
(.n .e none
(.n (.n .e (some (.cells [(.int .u32 (.ofNat 2))] true 1)) .e) none
.e))) none
.e)) none
.e))) none
(.n (.n (.n .e none
(.n .e none
(.n (.n .e none
(.n .e none
(.n (.n .e (some (.cells [(.bool false),(.sl 23297 0 1 1 true),(.sl 23299 0 1 1 true),(.bool false),(.sl 23343 0 1 1 true),(.sl 23345 0 1 1 true)] true 3)) .e) none
.e))) none
.e))) none
.e) none
.e))) none
.e) none
(.n (.n (.n (.n (.n .e none
(.n .e none
(.n .e none
(.n .e none
(.n (.n (.n (.n .e (some (.cells [(.int .u32 (.ofNat 2))] false 0)) .e) none
.e) none
.e) none
.e))))) none
.e) none
(.n (.n .e none
(.n (.n .e none
(.n (.n .e none
(.n .e none
(.n (.n .e (some (.cells [(.int .u32 (.ofNat 3))] true 1)) .e) none
.e))) none
.e)) none
.e)) none
.e)) none
(.n (.n (.n .e none
(.n .e none
(.n .e none
(.n .e none
(.n (.n (.n .e (some (.cells [(.int .i64 (.ofNat 0)),(.int .i64 (.ofNat 4)),(.int .i64 (.ofNat 5)),(.int .i64 (.ofNat 6)),(.int .i64 (.ofNat 1)),(.int .i64 (.ofNat 2)),(.int .i64 (.ofNat 3))] false 0)) .e) none
.e) none
.e))))) none
.e) none
.e)) none
.e)))), 23347⟩
noncomputable def act4 : Act' := ⟨(.n (.n (.n (.n (.n (.n (.n (.n .e (some (.tup [.nilsl,(.int .i64 (.ofNat 18))])) .e) (some (.sl 14913 0 7 7 true))
.e) (some (.agg [(.int .i64 (.ofNat 1)),(.sl 10133 0 7 7 true),(.sl 10075 0 2 2 false)]))
(.n .e (some (.bool true)) .e)) (some (.int .i64 (.ofNat 0)))
(.n (.n .e (some (.sl 14913 0 7 7 true)) .e) (some (.sl 16253 0 1 1 false))
(.n .e (some (.agg [(.int .i64 (.ofNat 1)),(.sl 10133 0 7 7 true),(.sl 10075 0 2 2 false)])) .e))) (some (.ptr 16255 0))
(.n (.n (.n .e (some (.ptr 14913 6)) .e) (some (.agg [(.int .i64 (.ofNat 1)),(.sl 16185 0 7 7 true),(.sl 16123 0 2 2 true),(.sl 16233 0 2 2 true),(.sl 16248 0 2 2 true),(.sl 15986 0 7 7 false)]))
(.n .e (some (.agg [(.int .i64 (.ofNat 1)),(.sl 10133 0 7 7 true),(.sl 10075 0 2 2 false)])) .e)) none
(.n (.n .e (some (.bool true)) .e) (some (.tup [(.agg [(.int .i64 (.ofNat 0)),.nilsl,.nilsl,.nilsl,.nilsl,.nilsl]),(.int .i64 (.ofNat 13))]))
(.n .e (some (.tup [.nilsl,(.int .i64 (.ofNat 18))])) .e)))) (some (.ptr 14977 0))
(.n (.n (.n (.n .e (some (.bool true)) .e) (some (.int .i64 (.ofNat 0)))
(.n .e (some (.agg [(.bool false),(.sl 18307 0 1 1 false),(.sl 18308 0 1 1 false)])) .e)) none
(.n (.n .e (some (.bool true)) .e) (some (.tup [(.agg [(.int .i64 (.ofNat 0)),.nilsl,.nilsl,.nilsl,.nilsl,.nilsl]),(.int .i64 (.ofNat 13))]))
(.n .e (some (.sl 23347 0 2 2 false)) .e))) (some (.sl 18312 0 2 2 false))
(.n (.n (.n .e (some (.bool true)) .e) (some (.sl 16251 0 2 2 false))
(.n .e (some (.tup [(.sl 23157 0 2 2 false),(.int .i64 (.ofNat 0))])) .e)) (some (.agg [(.int .i64 (.ofNat 1)),(.sl 10133 0 7 7 true),(.sl 10075 0 2 2 false)]))
(.n (.n .e (some (.sl 16233 0 2 2 true)) .e) (some (.bool true))
(.n .e (some (.agg [(.bool false),.nilsl,(.sl 28495 0 1 1 false)])) .e))))) (some (.ptr 10136 0))
(.n (.n (.n (.n (.n (.n .e (some (.int .i64 (.ofNat 18))) .e) (some (.bool true))
.e) (some (.tup [(.agg [(.int .i64 (.ofNat 1)),(.sl 14913 0 7 7 true),(.sl 14758 0 1 1 true),(.sl 14961 0 2 2 true),(.sl 14976 0 2 2 true),(.sl 14724 0 7 7 false)]),(.int .i64 (.ofNat 0))]))
(.n .e (some (.bool true)) .e)) (some (.int .i64 (.ofNat 18)))
(.n (.n .e (some (.ptr 14913 26)) .e) (some (.sl 16254 0 3 3 false))
(.n .e (some (.sl 18312 0 2 2 false)) .e))) (some (.int .i64 (.ofNat 13)))
(.n (.n (.n .e (some (.int .i64 (.ofNat 0))) .e) (some (.agg [(.int .i64 (.ofNat 0)),(.int .i64 (.ofNat 2))]))
(.n .e (some (.sl 18312 0 2 2 false)) .e)) (some (.bool false))
(.n (.n .e (some (.bool true)) .e) (some (.int .i64 (.ofNat 13)))
(.n .e (some (.sl 10135 0 1 1 false)) .e)))) (some (.ptr 16249 0))
(.n (.n (.n (.n .e (some (.ptr 14977 1)) .e) (some (.agg [(.int .i64 (.ofNat 1)),(.sl 10133 0 7 7 true),(.sl 10075 0 2 2 false)]))
(.n .e (some (.sl 18312 0 2 2 false)) .e)) none
(.n (.n .e (some (.bool true)) .e) (some (.sl 16256 0 3 3 false))
(.n .e (some (.sl 28389 0 1 1 false)) .e))) (some (.int .i64 (.ofNat 0)))
(.n (.n (.n .e (some (.ptr 14977 0)) .e) (some (.sl 16252 0 1 1 false))
(.n .e (some (.int .i64 (.ofNat 0))) .e)) (some (.sl 10135 0 1 1 false))
(.n (.n .e (some (.bool true)) .e) (some (.ptr 14977 0))
(.n .e (some (.sl 28486 0 2 2 false)) .e)))))) (some (.bool false))
(.n (.n (.n (.n (.n (.n (.n .e (some .nilsl) .e) (some (.int .i64 (.ofNat 7)))
.e) (some (.sl 10135 0 1 1 false))
(.n .e (some (.int .i64 (.ofNat 13))) .e)) (some .nilsl)
(.n (.n .e (some (.ptr 14913 24)) .e) (some (.agg [(.int .i64 (.ofNat 3)),(.int .i64 (.ofNat 0)),(.int .i64 (.ofNat 0)),.nilsl,.nilsl,(.sl 16253 0 1 1 false)]))
(.n .e (some (.sl 10135 0 1 1 false)) .e))) (some (.ptr 18286 0))
(.n (.n (.n .e (some (.ptr 14913 8)) .e) (some (.int .i64 (.ofNat 0)))
(.n .e (some (.sl 10135 0 1 1 false)) .e)) (some (.bool true))
(.n (.n .e (some (.bool true)) .e) (some (.agg [(.int .i64 (.ofNat 0)),.nilsl,.nilsl,.nilsl,.nilsl,.nilsl]))
(.n .e (some (.agg [(.int .i64 (.ofNat 1)),(.sl 10133 0 7 7 true),(.sl 10075 0 2 2 false)])) .e)))) (some (.int .i64 (.ofNat 0)))
(.n (.n (.n (.n .e (some (.ptr 14977 0)) .e) (some (.tup [(.agg [(.int .i64 (.ofNat 1)),(.sl 16185 0 7 7 true),(.sl 16123 0 2 2 true),(.sl 16233 0 2 2 true),(.sl 16248 0 2 2 true),(.sl 15986 0 7 7 false)]),(.int .i64 (.ofNat 0))]))
(.n .e (some (.agg [(.bool false),(.sl 18310 0 1 1 false),(.sl 18311 0 1 1 false)])) .e)) none
(.n (.n .e (some (.bool true)) .e) (some (.agg [(.int .i64 (.ofNat 1)),(.sl 16254 0 3 3 false),(.sl 16250 0 1 1 false)]))
(.n .e (some (.tup [(.sl 28389 0 1 1 false),(.int .i64 (.ofNat 0))])) .e))) (some (.sl 23157 0 2 2 false))
(.n (.n (.n .e (some (.bool true)) .e) (some (.agg [(.int .i64 (.ofNat 2)),(.int .i64 (.ofNat 0)),(.int .i64 (.ofNat 0)),(.sl 16251 0 2 2 false),.nilsl,.nilsl]))
(.n .e (some (.sl 23157 0 2 2 false)) .e)) (some (.sl 10134 0 7 7 false))
(.n (.n .e (some (.sl 18287 0 2 2 false)) .e) (some (.bool true))
(.n .e (some (.agg [(.bool false),(.sl 28497 0 1 1 false),(.sl 28498 0 1 1 false)])) .e))))) (some (.sl 10135 0 1 1 false))
(.n (.n (.n (.n (.n .e (some (.bool true)) .e) (some (.agg [(.int .i64 (.ofNat 1)),(.sl 14913 0 7 7 true),(.sl 14758 0 1 1 true),(.sl 14961 0 2 2 true),(.sl 14976 0 2 2 true),(.sl 14724 0 7 7 false)]))
(.n .e (some (.bool true)) .e)) none
(.n (.n .e (some (.int .i64 (.ofNat 0))) .e) (some (.agg [(.int .i64 (.ofNat 1)),(.sl 16254 0 3 3 false),(.sl 16250 0 1 1 false)]))
(.n .e (some (.sl 18312 0 2 2 false)) .e))) (some (.bool true))
(.n (.n (.n .e (some (.bool true)) .e) (some (.sl 16250 0 1 1 false))
(.n .e (some (.sl 18313 0 1 1 false)) .e)) (some (.agg [(.int .i64 (.ofNat 3)),(.int .i64 (.ofNat 4)),(.int .i64 (.ofNat 3)),(.int .i64 (.ofNat 4))]))
(.n (.n .e (some (.ptr 16249 3)) .e) (some (.int .i64 (.ofNat 0)))
(.n .e (some (.sl 18312 0 2 2 false)) .e)))) (some (.int .i64 (.ofNat 0)))
(.n (.n (.n (.n .e (some (.sl 14913 0 7 7 true)) .e) (some (.tup [(.agg [(.int .i64 (.ofNat 1)),(.sl 16185 0 7 7 true),(.sl 16123 0 2 2 true),(.sl 16233 0 2 2 true),(.sl 16248 0 2 2 true),(.sl 15986 0 7 7 false)]),(.int .i64 (.ofNat 0))]))
(.n .e (some (.tup [(.sl 23157 0 2 2 false),(.int .i64 (.ofNat 0))])) .e)) none
(.n (.n .e (some (.int .i64 (.ofNat 0))) .e) (some (.sl 16257 0 1 1 false))
(.n .e (some (.int .i64 (.ofNat 0))) .e))) (some (.sl 28389 0 1 1 false))
(.n (.n (.n .e (some (.ptr 14977 1)) .e) (some (.agg [(.int .i64 (.ofNat 3)),(.int .i64 (.ofNat 0)),(.int .i64 (.ofNat 0)),.nilsl,.nilsl,(.sl 16252 0 1 1 false)]))
(.n .e (some (.tup [(.sl 28389 0 1 1 false),(.int .i64 (.ofNat 0))])) .e)) (some (.tup [(.agg [(.int .i64 (.ofNat 1)),(.sl 14913 0 7 7 true),(.sl 14758 0 1 1 true),(.sl 14961 0 2 2 true),(.sl 14976 0 2 2 true),(.sl 14724 0 7 7 false)]),(.int .i64 (.ofNat 0))]))
(.n (.n .e (some (.bool true)) .e) (some (.ptr 14977 1))
(.n .e (some (.sl 28487 0 2 2 false)) .e))))))), false⟩
noncomputable def sta4 : St := ⟨(.n (.n (.n (.n (.n (.n (.n .e none
(.n (.n .e none
(.n .e none
(.n .e none
(.n .e none
(.n (.n .e none
(.n .e (some (.cells [(.bool false),(.sl 28433 0 1 1 true),(.sl 28435 0 1 1 true),(.bool false),(.sl 28476 0 1 1 true),(.sl 28478 0 1 1 true)] true 3)) .e)) none
.e))))) none
.e)) none
.e) none
(.n (.n (.n .e none
(.n .e none
(.n .e none
(.n .e none
(.n (.n (.n .e (some (.cells [(.int .i64 (.ofNat 4))] false 0)) .e) none
.e) none
.e))))) none
.e) none
(.n (.n (.n .e none
(.n .e none
(.n (.n .e none
(.n .e none
(.n (.n .e (some (.cells [(.int .u32 (.ofNat 2))] true 1)) .e) none
.e))) none
.e))) none
.e) none
.e))) none
(.n (.n (.n (.n .e none
(.n .e none
(.n .e none
(.n .e none
(.n (.n (.n (.n .e (some (.cells [(.int .u32 (.ofNat 3))] false 0)) .e) none
.e) none
.e) none
.e))))) none
.e) none
(.n .e none
(.n (.n .e none
(.n .e none
(.n .e none
(.n (.n (.n .e (some (.cells [(.int .i64 (.ofNat 2)),(.int .i64 (.ofNat 3))] false 0)) .e) none
.e) none
.e)))) none
.e))) none
(.n (.n (.n .e none
(.n .e none
(.n .e none
(.n .e none
(.n (.n (.n .e (some (.cells [(.sl 10134 0 7 7 false)] false 0)) .e) none
.e) none
.e))))) none
.e) none
.e))) none
(.n (.n (.n (.n (.n (.n .e none
(.n .e none
(.n (.n .e none
(.n .e none
(.n (.n .e (some (.cells [(.int .u32 (.ofNat 3))] true 1)) .e) none
.e))) none
.e))) none
(.n .e none
(.n .e none
(.n .e none
(.n (.n (.n (.n .e (some (.cells [(.int .u32 (.ofNat 1))] false 0)) .e) none
.e) none
.e) none
.e))))) none
.e) none
.e) none
(.n (.n (.n (.n .e none
(.n .e none
(.n .e none
(.n .e none
(.n (.n .e none
(.n .e (some (.cells [(.int .u32 (.ofNat 3))] true 1)) .e)) none
.e))))) none
.e) none
.e) none
.e)) none
(.n .e none
(.n (.n .e none
(.n (.n .e none
(.n .e none
(.n .e none
(.n (.n (.n .e (some (.cells [(.int .i64 (.ofNat 0)),(.int .i64 (.ofNat 2)),(.int .i64 (.ofNat 0)),(.int .i64 (.ofNat 2))] false 0)) .e) none
.e) none
.e)))) none
.e)) none
.e)))) none
(.n (.n (.n (.n (.n (.n (.n .e none
(.n .e none
(.n (.n .e none
(.n .e none
(.n (.n .e (some (.cells [(.int .u32 (.ofNat 1))] true 1)) .e) none
.e))) none
.e))) none
.e) none
.e) none
.e) none
(.n (.n (.n (.n .e none
(.n .e none
(.n .e none
(.n .e none
(.n (.n .e none
(.n .e (some (.cells [(.int .u32 (.ofNat 1))] true 1)) .e)) none
.e))))) none
.e) none
.e) none
(.n (.n (.n .e none
(.n .e none
(.n (.n .e none
(.n .e none
(.n (.n .e (some (.cells [(.int .u32 (.ofNat 3))] true 1)) .e) none
.e))) none
.e))) none
.e) none
.e))) none
.e) none
(.n (.n (.n .e none
(.n .e none
(.n .e none
(.n (.n .e none
(.n .e none
(.n .e none
(.n (.n .e none
(.n .e (some (.cells [(.sl 28479 0 2 2 true)] false 0)) .e)) none
.e)))) none
.e)))) none
(.n (.n (.n .e none
(.n .e none
(.n .e none
(.n .e none
(.n (.n (.n .e (some (.cells [(.int .i64 (.ofNat 1)),(.int .i64 (.ofNat 0)),(.int .i64 (.ofNat 0)),(.sl 10076 0 2 2 false),(.sl 10077 0 2 2 false),.nilsl,(.int .i64 (.ofNat 2)),(.int .i64 (.ofNat 0)),(.int .i64 (.ofNat 0)),(.sl 10087 0 2 2 false),.nilsl,.nilsl,(.int .i64 (.ofNat 3)),(.int .i64 (.ofNat 0)),(.int .i64 (.ofNat 0)),.nilsl,.nilsl,(.sl 10093 0 1 1 false),(.int .i64 (.ofNat 3)),(.int .i64 (.ofNat 0)),(.int .i64 (.ofNat 0)),.nilsl,.nilsl,(.sl 10100 0 1 1 false),(.int .i64 (.ofNat 2)),(.int .i64 (.ofNat 0)),(.int .i64 (.ofNat 1)),(.sl 10114 0 2 2 false),.nilsl,.nilsl,(.int .i64 (.ofNat 3)),(.int .i64 (.ofNat 0)),(.int .i64 (.ofNat 0)),.nilsl,.nilsl,(.sl 10120 0 1 1 false),(.int .i64 (.ofNat 3)),(.int .i64 (.ofNat 0)),(.int .i64 (.ofNat 0)),.nilsl,.nilsl,(.sl 10127 0 1 1 false)] true 6)) .e) none
.e) none
.e))))) none
(.n .e none
(.n (.n .e none
(.n (.n .e none
(.n .e none
(.n (.n .e (some (.cells [(.bool false),(.sl 23204 0 1 1 true),(.sl 23206 0 1 1 true),(.bool false),(.sl 23250 0 1 1 true),(.sl 23252 0 1 1 true)] true 3)) .e) none
.e))) none
.e)) none
.e))) none
(.n .e none
(.n (.n (.n .e none
(.n (.n .e none
(.n .e none
(.n (.n .e (some (.cells [(.sl 23253 0 2 2 true),(.sl 23346 0 2 2 true)] false 0)) .e) none
.e))) none
.e)) none
.e) none
.e)))) none
(.n (.n .e none
(.n .e none
(.n (.n .e none
(.n .e none
(.n .e none
(.n (.n (.n .e (some (.cells [(.int .i64 (.ofNat 3))] false 0)) .e) none
.e) none
.e)))) none
.e))) none
(.n (.n .e none
(.n (.n .e none
(.n .e none
(.n .e none
(.n (.n (.n .e (some (.cells [(.int .i64 (.ofNat 1)),(.int .i64 (.ofNat 1))] false 0)) .e) none
.e) none
.e)))) none
.e)) none
.e))))) none
(.n (.n (.n .e none
(.n (.n (.n (.n .e none
(.n .e none
(.n .e none
(.n .e none
(.n (.n (.n (.n .e (some (.cells [(.bool false),(.sl 18307 0 1 1 false),(.sl 18308 0 1 1 false),(.bool false),(.sl 18310 0 1 1 false),(.sl 18311 0 1 1 false)] false 0)) .e) (some (.cells [(.int .i64 (.ofNat 3))] false 0))
.e) none
.e) none
.e))))) none
.e) none
.e) none
(.n (.n (.n .e none
(.n .e none
(.n .e none
(.n .e none
(.n (.n (.n .e (some (.cells [(.int .i64 (.ofNat 1)),(.sl 10133 0 7 7 true),(.sl 10075 0 2 2 false)] false 0)) .e) none
.e) none
.e))))) none
.e) none
.e))) none
(.n (.n (.n (.n (.n .e none
(.n .e none
(.n .e none
(.n .e none
(.n (.n (.n (.n .e (some (.cells [(.int .u32 (.ofNat 3))] false 0)) .e) none
.e) none
.e) none
.e))))) none
.e) none
(.n (.n .e none
(.n (.n .e none
(.n (.n .e none
(.n .e none
(.n (.n .e (some (.cells [(.int .u32 (.ofNat 1))] true 1)) .e) none
.e))) none
.e)) none
.e)) none
.e)) none
(.n (.n .e none
(.n .e none
(.n (.n .e none
(.n (.n .e none
(.n .e none
(.n (.n .e (some (.cells [(.int .u32 (.ofNat 3))] true 1)) .e) none
.e))) none
.e)) none
.e))) none
(.n .e none
(.n (.n .e none
(.n .e none
(.n .e none
(.n (.n (.n .e (some (.cells [(.int .i64 (.ofNat 4))] false 0)) .e) none
.e) none
.e)))) none
.e)))) none
(.n .e none
(.n (.n .e none
(.n (.n .e none
(.n .e none
(.n .e none
(.n (.n (.n .e (some (.cells [(.int .i64 (.ofNat 1)),(.int .i64 (.ofNat 4))] false 0)) .e) none
.e) none
.e)))) none
.e)) none
(.n (.n (.n .e none
(.n .e none
(.n .e none
(.n .e none
(.n (.n .e none
(.n .e (some (.cells [(.int .u32 (.ofNat 2))] true 1)) .e)) none
.e))))) none
.e) none
.e))))) none
(.n (.n (.n (.n (.n (.n .e none
(.n .e none
(.n .e none
(.n .e none
(.n (.n (.n .e (some (.cells [(.int .i64 (.ofNat 5)),(.int .i64 (.ofNat 6))] false 0)) .e) none
.e) none
.e))))) none
.e) none
.e) none
(.n (.n .e none
(.n .e none
(.n (.n .e none
(.n (.n .e none
(.n .e none
(.n (.n .e (some (.cells [(.int .u32 (.ofNat 2))] true 1)) .e) none
.e))) none
.e)) none
.e))) none
(.n (.n (.n .e none
(.n .e none
(.n (.n .e none
(.n .e none
(.n (.n .e (some (.cells [(.bool false),(.sl 23297 0 1 1 true),(.sl 23299 0 1 1 true),(.bool false),(.sl 23343 0 1 1 true),(.sl 23345 0 1 1 true)] true 3)) .e) none
.e))) none
.e))) none
.e) none
.e))) none
.e) none
(.n (.n (.n (.n (.n .e none
(.n .e none
(.n .e none
(.n .e none
(.n (.n (.n (.n .e (some (.cells [(.int .u32 (.ofNat 2))] false 0)) .e) none
.e) none
.e) none
.e))))) none
.e) none
(.n (.n .e none
(.n (.n .e none
(.n (.n .e none
(.n .e none
(.n (.n .e (some (.cells [(.int .u32 (.ofNat 3))] true 1)) .e) none
.e))) none
.e)) none
.e)) none
.e)) none
(.n (.n (.n .e none
(.n .e none
(.n .e none
(.n .e none
(.n (.n (.n .e (some (.cells [(.int .i64 (.ofNat 0)),(.int .i64 (.ofNat 4)),(.int .i64 (.ofNat 5)),(.int .i64 (.ofNat 6)),(.int .i64 (.ofNat 1)),(.int .i64 (.ofNat 2)),(.int .i64 (.ofNat 3))] false 0)) .e) none
.e) none
.e))))) none
.e) none
.e)) none
(.n .e none
(.n .e none
(.n (.n (.n .e none
(.n .e none
(.n .e none
(.n .e none
(.n (.n .e none
(.n .e (some (.cells [(.int .u32 (.ofNat 3))] true 1)) .e)) none
.e))))) none
.e) none
.e))))))), 33214⟩
noncomputable def act5 : Act' := ⟨(.n (.n (.n (.n (.n (.n (.n (.n .e (some (.tup [.nilsl,(.int .i64 (.ofNat 18))])) .e) (some (.sl 14913 0 7 7 true))
.e) (some (.agg [(.int .i64 (.ofNat 1)),(.sl 10133 0 7 7 true),(.sl 10075 0 2 2 false)]))
(.n .e (some (.bool true)) .e)) (some (.int .i64 (.ofNat 0)))
(.n (.n (.n .e (some (.sl 37795 0 2 2 false)) .e) (some (.sl 14913 0 7 7 true))
.e) (some (.sl 16253 0 1 1 false))
(.n .e (some (.agg [(.int .i64 (.ofNat 1)),(.sl 10133 0 7 7 true),(.sl 10075 0 2 2 false)])) .e))) (some (.ptr 16255 0))
(.n (.n (.n (.n .e (some (.tup [.nilsl,(.int .i64 (.ofNat 10))])) .e) (some (.ptr 14913 6))
.e) (some (.agg [(.int .i64 (.ofNat 1)),(.sl 16185 0 7 7 true),(.sl 16123 0 2 2 true),(.sl 16233 0 2 2 true),(.sl 16248 0 2 2 true),(.sl 15986 0 7 7 false)]))
(.n .e (some (.agg [(.int .i64 (.ofNat 1)),(.sl 10133 0 7 7 true),(.sl 10075 0 2 2 false)])) .e)) none
(.n (.n .e (some (.bool true)) .e) (some (.tup [(.agg [(.int .i64 (.ofNat 0)),.nilsl,.nilsl,.nilsl,.nilsl,.nilsl]),(.int .i64 (.ofNat 13))]))
(.n .e (some (.tup [.nilsl,(.int .i64 (.ofNat 18))])) .e)))) (some (.ptr 14977 0))
(.n (.n (.n (.n (.n .e (some (.agg [(.int .i64 (.ofNat 1)),(.sl 10133 0 7 7 true),(.sl 10075 0 2 2 false)])) .e) (some (.bool true))
.e) (some (.int .i64 (.ofNat 0)))
(.n .e (some (.agg [(.bool false),(.sl 18307 0 1 1 false),(.sl 18308 0 1 1 false)])) .e)) (some (.int .i64 (.ofNat 10)))
(.n (.n .e (some (.bool true)) .e) (some (.tup [(.agg [(.int .i64 (.ofNat 0)),.nilsl,.nilsl,.nilsl,.nilsl,.nilsl]),(.int .i64 (.ofNat 13))]))
(.n .e (some (.sl 23347 0 2 2 false)) .e))) (some (.sl 18312 0 2 2 false))
(.n (.n (.n (.n .e (some (.agg [(.int .i64 (.ofNat 1)),(.sl 10133 0 7 7 true),(.sl 10075 0 2 2 false)])) .e) (some (.bool true))
.e) (some (.sl 16251 0 2 2 false))
(.n .e (some (.tup [(.sl 23157 0 2 2 false),(.int .i64 (.ofNat 0))])) .e)) (some (.agg [(.int .i64 (.ofNat 1)),(.sl 10133 0 7 7 true),(.sl 10075 0 2 2 false)]))
(.n (.n .e (some (.sl 16233 0 2 2 true)) .e) (some (.bool true))
(.n .e (some (.agg [(.bool false),.nilsl,(.sl 28495 0 1 1 false)])) .e))))) (some (.ptr 10136 0))
(.n (.n (.n (.n (.n (.n .e (some (.int .i64 (.ofNat 18))) .e) (some (.bool true))
.e) (some (.tup [(.agg [(.int .i64 (.ofNat 1)),(.sl 14913 0 7 7 true),(.sl 14758 0 1 1 true),(.sl 14961 0 2 2 true),(.sl 14976 0 2 2 true),(.sl 14724 0 7 7 false)]),(.int .i64 (.ofNat 0))]))
(.n .e (some (.bool true)) .e)) (some (.int .i64 (.ofNat 18)))
(.n (.n (.n .e (some (.bool true)) .e) (some (.ptr 14913 26))
.e) (some (.sl 16254 0 3 3 false))
(.n .e (some (.sl 18312 0 2 2 false)) .e))) (some (.int .i64 (.ofNat 13)))
(.n (.n (.n (.n .e (some (.int .i64 (.ofNat 10))) .e) (some (.int .i64 (.ofNat 0)))
.e) (some (.agg [(.int .i64 (.ofNat 0)),(.int .i64 (.ofNat 2))]))
(.n .e (some (.sl 18312 0 2 2 false)) .e)) (some (.bool false))
(.n (.n .e (some (.bool true)) .e) (some (.int .i64 (.ofNat 13)))
(.n .e (some (.sl 10135 0 1 1 false)) .e)))) (some (.ptr 16249 0))
(.n (.n (.n (.n (.n .e (some (.sl 18312 0 2 2 false)) .e) (some (.ptr 14977 1))
.e) (some (.agg [(.int .i64 (.ofNat 1)),(.sl 10133 0 7 7 true),(.sl 10075 0 2 2 false)]))
(.n .e (some (.sl 18312 0 2 2 false)) .e)) (some (.int .i64 (.ofNat 0)))
(.n (.n .e (some (.bool true)) .e) (some (.sl 16256 0 3 3 false))
(.n .e (some (.sl 28389 0 1 1 false)) .e))) (some (.int .i64 (.ofNat 0)))
(.n (.n (.n (.n .e (some (.sl 18312 0 2 2 false)) .e) (some (.ptr 14977 0))
.e) (some (.sl 16252 0 1 1 false))
(.n .e (some (.int .i64 (.ofNat 0))) .e)) (some (.sl 10135 0 1 1 false))
(.n (.n .e (some (.bool true)) .e) (some (.ptr 14977 0))
(.n .e (some (.sl 28486 0 2 2 false)) .e)))))) (some (.bool false))
(.n (.n (.n (.n (.n (.n (.n .e (some .nilsl) .e) (some (.int .i64 (.ofNat 7)))
.e) (some (.sl 10135 0 1 1 false))
(.n .e (some (.int .i64 (.ofNat 13))) .e)) (some .nilsl)
(.n (.n (.n .e (some (.tup [(.bool true),(.int .i64 (.ofNat 0))])) .e) (some (.ptr 14913 24))
.e) (some (.agg [(.int .i64 (.ofNat 3)),(.int .i64 (.ofNat 0)),(.int .i64 (.ofNat 0)),.nilsl,.nilsl,(.sl 16253 0 1 1 false)]))
(.n .e (some (.sl 10135 0 1 1 false)) .e))) (some (.ptr 18286 0))
(.n (.n (.n (.n .e (some .nilsl) .e) (some (.ptr 14913 8))
.e) (some (.int .i64 (.ofNat 0)))
(.n .e (some (.sl 10135 0 1 1 false)) .e)) (some (.bool true))
(.n (.n .e (some (.bool true)) .e) (some (.agg [(.int .i64 (.ofNat 0)),.nilsl,.nilsl,.nilsl,.nilsl,.nilsl]))
(.n .e (some (.agg [(.int .i64 (.ofNat 1)),(.sl 10133 0 7 7 true),(.sl 10075 0 2 2 false)])) .e)))) (some (.int .i64 (.ofNat 0)))
(.n (.n (.n (.n (.n .e (some (.sl 10135 0 1 1 false)) .e) (some (.ptr 14977 0))
.e) (some (.tup [(.agg [(.int .i64 (.ofNat 1)),(.sl 16185 0 7 7 true),(.sl 16123 0 2 2 true),(.sl 16233 0 2 2 true),(.sl 16248 0 2 2 true),(.sl 15986 0 7 7 false)]),(.int .i64 (.ofNat 0))]))
(.n .e (some (.agg [(.bool false),(.sl 18310 0 1 1 false),(.sl 18311 0 1 1 false)])) .e)) (some (.bool true))
(.n (.n .e (some (.bool true)) .e) (some (.agg [(.int .i64 (.ofNat 1)),(.sl 16254 0 3 3 false),(.sl 16250 0 1 1 false)]))
(.n .e (some (.tup [(.sl 28389 0 1 1 false),(.int .i64 (.ofNat 0))])) .e))) (some (.sl 23157 0 2 2 false))
(.n (.n (.n (.n .e (some (.sl 10135 0 1 1 false)) .e) (some (.bool true))
.e) (some (.agg [(.int .i64 (.ofNat 2)),(.int .i64 (.ofNat 0)),(.int .i64 (.ofNat 0)),(.sl 16251 0 2 2 false),.nilsl,.nilsl]))
(.n .e (some (.sl 23157 0 2 2 false)) .e)) (some (.sl 10134 0 7 7 false))
(.n (.n .e (some (.sl 18287 0 2 2 false)) .e) (some (.bool true))
(.n .e (some (.agg [(.bool false),(.sl 28497 0 1 1 false),(.sl 28498 0 1 1 false)])) .e))))) (some (.sl 10135 0 1 1 false))
(.n (.n (.n (.n (.n (.n .e (some (.tup [.nilsl,(.int .i64 (.ofNat 10))])) .e) (some (.bool true))
.e) (some (.agg [(.int .i64 (.ofNat 1)),(.sl 14913 0 7 7 true),(.sl 14758 0 1 1 true),(.sl 14961 0 2 2 true),(.sl 14976 0 2 2 true),(.sl 14724 0 7 7 false)]))
(.n .e (some (.bool true)) .e)) (some .nilsl)
(.n (.n (.n .e (some (.int .i64 (.ofNat 0))) .e) (some (.int .i64 (.ofNat 0)))
.e) (some (.agg [(.int .i64 (.ofNat 1)),(.sl 16254 0 3 3 false),(.sl 16250 0 1 1 false)]))
(.n .e (some (.sl 18312 0 2 2 false)) .e))) (some (.bool true))
(.n (.n (.n (.n .e (some (.tup [(.bool true),(.int .i64 (.ofNat 0))])) .e) (some (.bool true))
.e) (some (.sl 16250 0 1 1 false))
(.n .e (some (.sl 18313 0 1 1 false)) .e)) (some (.agg [(.int .i64 (.ofNat 3)),(.int .i64 (.ofNat 4)),(.int .i64 (.ofNat 3)),(.int .i64 (.ofNat 4))]))
(.n (.n .e (some (.ptr 16249 3)) .e) (some (.int .i64 (.ofNat 0)))
(.n .e (some (.sl 18312 0 2 2 false)) .e)))) (some (.int .i64 (.ofNat 0)))
(.n (.n (.n (.n (.n .e (some (.sl 33214 0 1 1 false)) .e) (some (.sl 14913 0 7 7 true))
.e) (some (.tup [(.agg [(.int .i64 (.ofNat 1)),(.sl 16185 0 7 7 true),(.sl 16123 0 2 2 true),(.sl 16233 0 2 2 true),(.sl 16248 0 2 2 true),(.sl 15986 0 7 7 false)]),(.int .i64 (.ofNat 0))]))
(.n .e (some (.tup [(.sl 23157 0 2 2 false),(.int .i64 (.ofNat 0))])) .e)) none
(.n (.n .e (some (.int .i64 (.ofNat 0))) .e) (some (.sl 16257 0 1 1 false))
(.n .e (some (.int .i64 (.ofNat 0))) .e))) (some (.sl 28389 0 1 1 false))
(.n (.n (.n (.n .e (some (.sl 18312 0 2 2 false)) .e) (some (.ptr 14977 1))
.e) (some (.agg [(.int .i64 (.ofNat 3)),(.int .i64 (.ofNat 0)),(.int .i64 (.ofNat 0)),.nilsl,.nilsl,(.sl 16252 0 1 1 false)]))
(.n .e (some (.tup [(.sl 28389 0 1 1 false),(.int .i64 (.ofNat 0))])) .e)) (some (.tup [(.agg [(.int .i64 (.ofNat 1)),(.sl 14913 0 7 7 true),(.sl 14758 0 1 1 true),(.sl 14961 0 2 2 true),(.sl 14976 0 2 2 true),(.sl 14724 0 7 7 false)]),(.int .i64 (.ofNat 0))]))
(.n (.n .e (some (.bool true)) .e) (some (.ptr 14977 1))
(.n .e (some (.sl 28487 0 2 2 false)) .e))))))), false⟩
noncomputable def sta5 : St := ⟨(.n (.n (.n (.n (.n (.n (.n .e none
(.n (.n .e none
(.n .e none
(.n .e none
(.n .e none
(.n (.n .e none
(.n .e (some (.cells [(.bool false),(.sl 28433 0 1 1 true),(.sl 28435 0 1 1 true),(.bool false),(.sl 28476 0 1 1 true),(.sl 28478 0 1 1 true)] true 3)) .e)) none
.e))))) none
.e)) none
.e) none
(.n (.n (.n .e none
(.n .e none
(.n .e none
(.n .e none
(.n (.n (.n .e (some (.cells [(.int .i64 (.ofNat 4))] false 0)) .e) none
.e) none
.e))))) none
.e) none
(.n (.n (.n .e none
(.n .e none
(.n (.n .e none
(.n .e none
(.n (.n .e (some (.cells [(.int .u32 (.ofNat 2))] true 1)) .e) none
.e))) none
.e))) none
.e) none
.e))) none
(.n (.n (.n (.n .e none
(.n .e none
(.n .e none
(.n .e none
(.n (.n (.n (.n .e (some (.cells [(.int .u32 (.ofNat 3))] false 0)) .e) none
.e) none
.e) none
.e))))) none
.e) none
(.n .e none
(.n (.n .e none
(.n .e none
(.n .e none
(.n (.n (.n .e (some (.cells [(.int .i64 (.ofNat 2)),(.int .i64 (.ofNat 3))] false 0)) .e) none
.e) none
.e)))) none
.e))) none
(.n (.n (.n .e none
(.n .e none
(.n .e none
(.n .e none
(.n (.n (.n .e (some (.cells [(.sl 10134 0 7 7 false)] false 0)) .e) none
.e) none
.e))))) none
.e) none
.e))) none
(.n (.n (.n (.n (.n (.n .e none
(.n .e none
(.n (.n .e none
(.n .e none
(.n (.n .e (some (.cells [(.int .u32 (.ofNat 3))] true 1)) .e) none
.e))) none
.e))) none
(.n .e none
(.n .e none
(.n .e none
(.n (.n (.n (.n .e (some (.cells [(.int .u32 (.ofNat 1))] false 0)) .e) none
.e) none
.e) none
.e))))) none
.e) none
.e) none
(.n (.n (.n (.n .e none
(.n .e none
(.n .e none
(.n .e none
(.n (.n .e none
(.n .e (some (.cells [(.int .u32 (.ofNat 3))] true 1)) .e)) none
.e))))) none
.e) none
.e) none
.e)) none
(.n .e none
(.n (.n .e none
(.n (.n .e none
(.n .e none
(.n .e none
(.n (.n (.n .e (some (.cells [(.int .i64 (.ofNat 0)),(.int .i64 (.ofNat 2)),(.int .i64 (.ofNat 0)),(.int .i64 (.ofNat 2))] false 0)) .e) none
.e) none
.e)))) none
.e)) none
.e)))) none
(.n (.n (.n (.n (.n (.n (.n .e none
(.n .e none
(.n (.n .e none
(.n .e none
(.n (.n .e (some (.cells [(.int .u32 (.ofNat 1))] true 1)) .e) none
.e))) none
.e))) none
.e) none
.e) none
.e) none
(.n (.n (.n (.n .e none
(.n .e none
(.n .e none
(.n .e none
(.n (.n .e none
(.n .e (some (.cells [(.int .u32 (.ofNat 1))] true 1)) .e)) none
.e))))) none
.e) none
.e) none
(.n (.n (.n .e none
(.n .e none
(.n (.n .e none
(.n .e none
(.n (.n .e (some (.cells [(.int .u32 (.ofNat 3))] true 1)) .e) none
.e))) none
.e))) none
.e) none
.e))) none
.e) none
(.n (.n (.n .e none
(.n .e none
(.n .e none
(.n (.n .e none
(.n .e none
(.n .e none
(.n (.n .e none
(.n .e (some (.cells [(.sl 28479 0 2 2 true)] false 0)) .e)) none
.e)))) none
.e)))) none
(.n (.n (.n .e none
(.n .e none
(.n .e none
(.n .e none
(.n (.n (.n .e (some (.cells [(.int .i64 (.ofNat 1)),(.int .i64 (.ofNat 0)),(.int .i64 (.ofNat 0)),(.sl 10076 0 2 2 false),(.sl 10077 0 2 2 false),.nilsl,(.int .i64 (.ofNat 2)),(.int .i64 (.ofNat 0)),(.int .i64 (.ofNat 0)),(.sl 10087 0 2 2 false),.nilsl,.nilsl,(.int .i64 (.ofNat 3)),(.int .i64 (.ofNat 0)),(.int .i64 (.ofNat 0)),.nilsl,.nilsl,(.sl 10093 0 1 1 false),(.int .i64 (.ofNat 3)),(.int .i64 (.ofNat 0)),(.int .i64 (.ofNat 0)),.nilsl,.nilsl,(.sl 10100 0 1 1 false),(.int .i64 (.ofNat 2)),(.int .i64 (.ofNat 0)),(.int .i64 (.ofNat 1)),(.sl 10114 0 2 2 false),.nilsl,.nilsl,(.int .i64 (.ofNat 3)),(.int .i64 (.ofNat 0)),(.int .i64 (.ofNat 0)),.nilsl,.nilsl,(.sl 10120 0 1 1 false),(.int .i64 (.ofNat 3)),(.int .i64 (.ofNat 0)),(.int .i64 (.ofNat 0)),.nilsl,.nilsl,(.sl 10127 0 1 1 false)] true 6)) .e) none
.e) none
.e))))) none
(.n .e none
(.n (.n .e none
(.n (.n .e none
(.n .e none
(.n (.n .e (some (.cells [(.bool false),(.sl 23204 0 1 1 true),(.sl 23206 0 1 1 true),(.bool false),(.sl 23250 0 1 1 true),(.sl 23252 0 1 1 true)] true 3)) .e) none
.e))) none
.e)) none
.e))) none
(.n .e none
(.n (.n (.n .e none
(.n (.n .e none
(.n .e none
(.n (.n .e (some (.cells [(.sl 23253 0 2 2 true),(.sl 23346 0 2 2 true)] false 0)) .e) none
.e))) none
.e)) none
.e) none
.e)))) none
(.n (.n .e none
(.n .e none
(.n (.n .e none
(.n .e none
(.n .e none
(.n (.n (.n .e (some (.cells [(.int .i64 (.ofNat 3))] false 0)) .e) none
.e) none
.e)))) none
.e))) none
(.n (.n .e none
(.n (.n .e none
(.n .e none
(.n .e none
(.n (.n (.n .e (some (.cells [(.int .i64 (.ofNat 1)),(.int .i64 (.ofNat 1))] false 0)) .e) none
.e) none
.e)))) none
.e)) none
.e))))) none
(.n (.n (.n .e none
(.n (.n (.n (.n .e none
(.n .e none
(.n .e none
(.n .e none
(.n (.n (.n (.n .e (some (.cells [(.bool false),(.sl 18307 0 1 1 false),(.sl 18308 0 1 1 false),(.bool false),(.sl 18310 0 1 1 false),(.sl 18311 0 1 1 false)] false 0)) .e) (some (.cells [(.int .i64 (.ofNat 3))] false 0))
.e) none
.e) none
.e))))) none
.e) none
.e) none
(.n (.n (.n .e none
(.n .e none
(.n .e none
(.n .e none
(.n (.n (.n .e (some (.cells [(.int .i64 (.ofNat 1)),(.sl 10133 0 7 7 true),(.sl 10075 0 2 2 false)] false 0)) .e) none
.e) none
.e))))) none
.e) none
.e))) none
(.n (.n (.n (.n (.n .e none
(.n .e none
(.n .e none
(.n .e none
(.n (.n (.n (.n .e (some (.cells [(.int .u32 (.ofNat 3))] false 0)) .e) none
.e) none
.e) none
.e))))) none
.e) none
(.n (.n .e none
(.n (.n .e none
(.n (.n .e none
(.n .e none
(.n (.n .e (some (.cells [(.int .u32 (.ofNat 1))] true 1)) .e) none
.e))) none
.e)) none
.e)) none
.e)) none
(.n (.n .e none
(.n .e none
(.n (.n .e none
(.n (.n .e none
(.n .e none
(.n (.n .e (some (.cells [(.int .u32 (.ofNat 3))] true 1)) .e) none
.e))) none
.e)) none
.e))) none
(.n .e none
(.n (.n .e none
(.n .e none
(.n .e none
(.n (.n (.n .e (some (.cells [(.int .i64 (.ofNat 4))] false 0)) .e) none
.e) none
.e)))) none
.e)))) none
(.n .e none
(.n (.n .e none
(.n (.n .e none
(.n .e none
(.n .e none
(.n (.n (.n .e (some (.cells [(.int .i64 (.ofNat 1)),(.int .i64 (.ofNat 4))] false 0)) .e) none
.e) none
.e)))) none
.e)) none
(.n (.n (.n .e none
(.n .e none
(.n .e none
(.n .e none
(.n (.n .e none
(.n .e (some (.cells [(.int .u32 (.ofNat 2))] true 1)) .e)) none
.e))))) none
.e) none
.e))))) none
(.n (.n (.n (.n (.n (.n .e none
(.n .e none
(.n .e none
(.n .e none
(.n (.n (.n .e (some (.cells [(.int .i64 (.ofNat 5)),(.int .i64 (.ofNat 6))] false 0)) .e) none
.e) none
.e))))) none
.e) none
.e) none
(.n (.n .e none
(.n .e none
(.n (.n .e none
(.n (.n .e none
(.n .e none
(.n (.n .e (some (.cells [(.int .u32 (.ofNat 2))] true 1)) .e) none
.e))) none
.e)) none
.e))) none
(.n (.n (.n .e none
(.n .e none
(.n (.n .e none
(.n .e none
(.n (.n .e (some (.cells [(.bool false),(.sl 23297 0 1 1 true),(.sl 23299 0 1 1 true),(.bool false),(.sl 23343 0 1 1 true),(.sl 23345 0 1 1 true)] true 3)) .e) none
.e))) none
.e))) none
.e) none
.e))) none
.e) none
(.n (.n (.n (.n (.n .e none
(.n .e none
(.n .e none
(.n .e none
(.n (.n (.n (.n .e (some (.cells [(.int .u32 (.ofNat 2))] false 0)) .e) none
.e) none
.e) none
.e))))) none
.e) none
(.n (.n .e none
(.n (.n .e none
(.n (.n .e none
(.n .e none
(.n (.n .e (some (.cells [(.int .u32 (.ofNat 3))] true 1)) .e) none
.e))) none
.e)) none
.e)) none
.e)) none
(.n (.n (.n .e none
(.n .e none
(.n .e none
(.n .e none
(.n (.n (.n .e (some (.cells [(.int .i64 (.ofNat 0)),(.int .i64 (.ofNat 4)),(.int .i64 (.ofNat 5)),(.int .i64 (.ofNat 6)),(.int .i64 (.ofNat 1)),(.int .i64 (.ofNat 2)),(.int .i64 (.ofNat 3))] false 0)) .e) none
.e) none
.e))))) none
.e) none
.e)) none
(.n .e none
(.n .e none
(.n (.n (.n .e none
(.n .e none
(.n .e none
(.n .e none
(.n (.n .e none
(.n .e (some (.cells [(.int .u32 (.ofNat 3))] true 1)) .e)) none
.e))))) none
.e) none
.e))))))), 42575⟩
end Go.Proofs.Ytfmgnnfghdjpfaa.abstractNames
