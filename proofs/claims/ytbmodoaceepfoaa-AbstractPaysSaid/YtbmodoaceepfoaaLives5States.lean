import Derived.Test.YtbmodoaceepfoaaEv8
set_option linter.all false
namespace Go.Ev.Gl
end Go.Ev.Gl
namespace Go.Proofs.Ytbmodoaceepfoaa.lives5
open Go.Ev Go.Ev.Gl
set_option maxRecDepth 100000
def bg(n:Nat):AV:=.int .i64 (.ofNat n)
def bh(n:Nat):Option AV:=some (.int .i64 (.ofNat n))
def bn{A:Type}(v:Option A):T A:=.n .e v .e
noncomputable def aTe:bO:=⟨(.n (.n (.n (.n .e (some (.agg [(bg 3),(bg 4),(bg 3),(bg 4)])) .e) none
(.n .e (some (.tup [(.agg [(bg 1),(.sl 4839 0 7 7 true),(.sl 4684 0 1 1 true),(.sl 4887 0 2 2 true),(.sl 4902 0 2 2 true),(.sl 4650 0 7 7 false)]),(bg 0)])) .e)) (some (.ptr 4903 0))
(.n (bn (some (.sl 61 0 7 7 false))) none
(bn (bh 0)))) (some (.bool false))
(.n (.n (.n .e (some (.agg [(bg 1),(.sl 60 0 7 7 true),(.sl 2 0 2 2 false)])) .e) none
(.n .e (some (.agg [(bg 1),(.sl 4839 0 7 7 true),(.sl 4684 0 1 1 true),(.sl 4887 0 2 2 true),(.sl 4902 0 2 2 true),(.sl 4650 0 7 7 false)])) .e)) (bh 0)
(.n (bn (some (.sl 62 0 1 1 false))) (some (.tup [(.agg [(bg 1),(.sl 4839 0 7 7 true),(.sl 4684 0 1 1 true),(.sl 4887 0 2 2 true),(.sl 4902 0 2 2 true),(.sl 4650 0 7 7 false)]),(bg 0)]))
.e))),false⟩
noncomputable def aS0:St:=⟨(.n (.n (.n (.n .e none
(.n (.n .e none
(.n (.n (.n .e none
(.n .e none
(.n (.n (.n .e (some (.cells [(bg 1),(.sl 4839 0 7 7 true),(.sl 4684 0 1 1 true),(.sl 4887 0 2 2 true),(.sl 4902 0 2 2 true),(.sl 4650 0 7 7 false)] false 0)) .e) none
.e) none
.e))) none
.e) none
(.n .e none
(.n (.n .e none
(.n (.n (.n .e (some (.cells [(bg 1),(bg 0),(bg 0),(.sl 4867 0 2 2 true),(.sl 4669 0 2 2 true),.cr,(bg 2),(bg 0),(bg 0),(.sl 4760 0 2 2 true),.cr,.cr,(bg 3),(bg 0),(bg 0),.cr,.cr,(.sl 4713 0 1 1 true),(bg 3),(bg 0),(bg 0),.cr,.cr,(.sl 4744 0 1 1 true),(bg 2),(bg 0),(bg 0),(.sl 4853 0 2 2 true),.cr,.cr,(bg 3),(bg 0),(bg 0),.cr,.cr,(.sl 4806 0 1 1 true),(bg 3),(bg 0),(bg 0),.cr,.cr,(.sl 4837 0 1 1 true)] true 6)) .e) none
.e) none
.e)) none
.e)))) none
(.n (.n (.n (.n .e none
(.n .e none
(.n (.n (.n .e (some (.cells [(bg 0),(bg 0)] true 1)) .e) none
.e) none
.e))) none
.e) none
.e) none
.e))) none
(.n (.n (.n (.n (.n (.n .e none
(.n .e none
(.n (.n (.n .e (some (.cells [(bg 1),(bg 4)] true 1)) .e) none
.e) none
.e))) none
.e) none
.e) none
.e) none
.e) none
.e)) none
(.n (.n .e none
(.n (.n .e none
(.n .e none
(.n (.n (.n .e none
(.n (.n (.n .e (some (.cells [(bg 3)] true 1)) .e) none
.e) none
.e)) none
.e) none
.e))) none
.e)) none
(.n (.n (.n .e none
(.n (.n (.n .e none
(.n .e none
(.n (.n (.n .e (some (.cells [(bg 0),(bg 1)] true 1)) .e) none
.e) none
.e))) none
.e) none
(.n .e none
(.n (.n .e none
(.n (.n (.n .e (some (.cells [(bg 4)] true 1)) .e) none
.e) none
.e)) none
.e)))) none
(.n .e none
(.n .e none
(.n .e none
(.n (.n .e none
(.n (.n (.n .e (some (.cells [(bg 5),(bg 6)] true 1)) .e) none
.e) none
.e)) none
.e))))) none
(.n .e none
(.n .e none
(.n (.n (.n (.n .e none
(.n (.n (.n .e (some (.cells [(bg 1),(bg 1)] true 1)) .e) none
.e) none
.e)) none
.e) none
.e) none
.e)))))) none
(.n (.n (.n .e none
(.n (.n (.n (.n .e none
(.n (.n .e none
(.n (.n (.n .e (some (.cells [(bg 4)] true 1)) .e) none
.e) none
.e)) none
.e)) none
.e) none
.e) none
(.n (.n (.n .e none
(.n (.n .e none
(.n (.n (.n .e (some (.cells [(bg 2),(bg 3)] true 1)) .e) none
.e) none
.e)) none
.e)) none
.e) none
.e))) none
(.n (.n .e none
(.n (.n (.n (.n .e none
(.n .e none
(.n (.n (.n .e (some (.cells [(bg 0),(bg 1)] true 1)) .e) none
.e) none
.e))) none
.e) none
.e) none
.e)) none
(.n (.n (.n .e none
(.n (.n (.n .e none
(.n (.n (.n .e (some (.cells [(bg 0),(bg 2)] true 2)) .e) none
.e) none
.e)) none
.e) none
.e)) none
.e) none
.e))) none
(.n (.n .e none
(.n (.n .e none
(.n (.n (.n (.n .e none
(.n (.n (.n .e (some (.cells [(bg 0),(bg 1),(bg 2),(bg 3),(bg 4),(bg 5),(bg 6)] false 0)) .e) none
.e) none
.e)) none
.e) none
.e) none
.e)) none
.e)) none
(.n (.n (.n (.n .e none
(.n .e none
(.n (.n .e none
(.n (.n (.n .e (some (.cells [(bg 3)] true 1)) .e) none
.e) none
.e)) none
.e))) none
(.n (.n (.n .e none
(.n .e none
(.n (.n (.n .e (some (.cells [(.sl 4884 0 2 2 true),(.sl 4901 0 2 2 true)] true 1)) .e) none
.e) none
.e))) none
.e) none
.e)) none
.e) none
.e)))),4904⟩
noncomputable def aSV:bO:=⟨(.n (.n (.n (.n (.n (bn (some (.ptr 4903 4))) (some (.agg [(bg 3),(bg 4),(bg 4),(bg 3)]))
(bn (some (.sl 4684 0 1 1 true)))) (some (.agg [(bg 3),(bg 4),(bg 3),(bg 4)]))
(.n (bn (some (.ptr 4903 5))) (some (.bool true))
.e)) (some (.ptr 9807 0))
(.n (.n (bn (some (.sl 9829 0 2 2 false))) (some (.tup [(.agg [(bg 1),(.sl 9743 0 7 7 true),(.sl 9588 0 1 1 true),(.sl 9791 0 2 2 true),(.sl 9806 0 2 2 true),(.sl 9554 0 7 7 false)]),(bg 0)]))
.e) (some (.tup [(.agg [(bg 1),(.sl 4839 0 7 7 true),(.sl 4684 0 1 1 true),(.sl 4887 0 2 2 true),(.sl 4902 0 2 2 true),(.sl 4650 0 7 7 false)]),(bg 0)]))
(.n (bn (some (.bool true))) (some (.sl 9808 0 2 2 false))
.e))) (some (.ptr 4903 0))
(.n (.n (.n (bn (some (.sl 9827 0 2 2 false))) (some (.sl 4965 0 7 7 false))
(bn (some (.bool true)))) (some (.sl 61 0 7 7 false))
(.n (bn (some (.sl 9886 0 7 7 false))) (some (.ptr 4903 3))
.e)) (some (.bool true))
(.n (.n (bn (some (.bool true))) (bh 0)
.e) (bh 0)
(.n (bn (some (.ptr 4903 0))) (some (.bool true))
.e)))) (some (.bool false))
(.n (.n (.n (.n (bn (some (.sl 4902 0 2 2 true))) (some (.agg [(bg 1),(.sl 4964 0 7 7 true),(.sl 4906 0 2 2 false)]))
(bn (bh 1))) (some (.agg [(bg 1),(.sl 60 0 7 7 true),(.sl 2 0 2 2 false)]))
(.n (bn (some (.sl 4650 0 7 7 false))) (some (.bool true))
.e)) (bh 0)
(.n (.n (bn (some (.bool true))) (some (.agg [(bg 1),(.sl 9743 0 7 7 true),(.sl 9588 0 1 1 true),(.sl 9791 0 2 2 true),(.sl 9806 0 2 2 true),(.sl 9554 0 7 7 false)]))
.e) (some (.agg [(bg 1),(.sl 4839 0 7 7 true),(.sl 4684 0 1 1 true),(.sl 4887 0 2 2 true),(.sl 4902 0 2 2 true),(.sl 4650 0 7 7 false)]))
(.n (bn (some (.bool true))) (some (.bool true))
.e))) (bh 0)
(.n (.n (.n (bn (some (.sl 9828 0 2 2 false))) (some (.sl 4966 0 1 1 false))
(bn (some (.bool true)))) (some (.sl 62 0 1 1 false))
(.n (bn (some (.bool true))) (some (.sl 4887 0 2 2 true))
.e)) (some (.tup [(.agg [(bg 1),(.sl 4839 0 7 7 true),(.sl 4684 0 1 1 true),(.sl 4887 0 2 2 true),(.sl 4902 0 2 2 true),(.sl 4650 0 7 7 false)]),(bg 0)]))
(.n (.n (bn (some (.bool true))) (bh 0)
.e) (some (.tup [(.agg [(bg 1),(.sl 9743 0 7 7 true),(.sl 9588 0 1 1 true),(.sl 9791 0 2 2 true),(.sl 9806 0 2 2 true),(.sl 9554 0 7 7 false)]),(bg 0)]))
(.n (bn (some (.ptr 4903 2))) (some (.bool true))
.e))))),false⟩
noncomputable def aTZ:St:=⟨(.n (.n (.n (.n (.n (.n (.n .e none
(.n (.n (.n .e none
(.n .e none
(.n (.n (.n .e (some (.cells [(bg 0),(bg 0)] true 1)) .e) none
.e) none
.e))) none
.e) none
.e)) none
.e) none
(.n (.n (.n (.n (.n .e none
(.n .e none
(.n (.n (.n .e (some (.cells [(bg 1),(bg 0),(bg 0),(.sl 9771 0 2 2 true),(.sl 9573 0 2 2 true),.cr,(bg 2),(bg 0),(bg 0),(.sl 9664 0 2 2 true),.cr,.cr,(bg 3),(bg 0),(bg 0),.cr,.cr,(.sl 9617 0 1 1 true),(bg 3),(bg 0),(bg 0),.cr,.cr,(.sl 9648 0 1 1 true),(bg 2),(bg 0),(bg 0),(.sl 9757 0 2 2 true),.cr,.cr,(bg 3),(bg 0),(bg 0),.cr,.cr,(.sl 9710 0 1 1 true),(bg 3),(bg 0),(bg 0),.cr,.cr,(.sl 9741 0 1 1 true)] true 6)) .e) none
.e) none
.e))) none
.e) none
.e) none
(.n (.n (.n .e none
(.n .e none
(.n (.n (.n .e (some (.cells [(bg 1),(.sl 9743 0 7 7 true),(.sl 9588 0 1 1 true),(.sl 9791 0 2 2 true),(.sl 9806 0 2 2 true),(.sl 9554 0 7 7 false)] false 0)) .e) none
.e) none
.e))) none
.e) none
.e)) none
.e)) none
.e) none
(.n .e none
(.n (.n .e none
(.n (.n (.n (.n .e none
(.n .e none
(.n (.n (.n .e (some (.cells [(bg 1),(bg 4)] true 1)) .e) none
.e) none
.e))) none
.e) none
.e) none
.e)) none
.e))) none
(.n (.n (.n .e none
(.n (.n (.n .e none
(.n .e none
(.n (.n .e none
(.n (.n (.n .e (some (.cells [(bg 3)] true 1)) .e) none
.e) none
.e)) none
.e))) none
.e) none
.e)) none
.e) none
(.n (.n (.n .e none
(.n .e none
(.n (.n .e none
(.n (.n .e none
(.n (.n (.n .e (some (.cells [(bg 1),(bg 1)] true 1)) .e) none
.e) none
.e)) none
.e)) none
.e))) none
.e) none
(.n (.n (.n (.n (.n (.n .e none
(.n .e none
(.n (.n (.n .e (some (.cells [(bg 4)] true 1)) .e) none
.e) none
.e))) none
.e) none
.e) none
(.n (.n (.n .e none
(.n .e none
(.n (.n (.n .e (some (.cells [(bg 1),(bg 0)] true 1)) .e) none
.e) none
.e))) none
.e) none
.e)) none
.e) none
(.n (.n (.n (.n (.n .e none
(.n .e none
(.n (.n (.n .e (some (.cells [(bg 5),(bg 6)] true 1)) .e) none
.e) none
.e))) none
.e) none
.e) none
.e) none
.e))))) none
(.n (.n (.n (.n (.n (.n .e none
(.n .e none
(.n .e none
(.n (.n .e none
(.n (.n (.n .e (some (.cells [(bg 2),(bg 3)] true 1)) .e) none
.e) none
.e)) none
.e)))) none
.e) none
(.n .e none
(.n (.n .e none
(.n .e none
(.n (.n .e none
(.n (.n (.n .e (some (.cells [(bg 4)] true 1)) .e) none
.e) none
.e)) none
.e))) none
.e))) none
.e) none
(.n (.n .e none
(.n .e none
(.n .e none
(.n (.n .e none
(.n (.n .e none
(.n (.n (.n .e (some (.cells [(bg 0),(bg 2)] true 2)) .e) none
.e) none
.e)) none
.e)) none
.e)))) none
(.n .e none
(.n .e none
(.n (.n (.n (.n .e none
(.n .e none
(.n (.n (.n .e (some (.cells [(bg 0),(bg 1)] true 1)) .e) none
.e) none
.e))) none
.e) none
.e) none
.e))))) none
(.n (.n (.n .e none
(.n (.n .e none
(.n (.n .e none
(.n (.n .e none
(.n (.n (.n .e (some (.cells [(bg 0),(bg 1),(bg 2),(bg 3),(bg 4),(bg 6),(bg 5)] false 0)) .e) none
.e) none
.e)) none
.e)) none
.e)) none
.e)) none
.e) none
(.n .e none
(.n (.n (.n .e none
(.n (.n (.n .e none
(.n .e none
(.n (.n (.n .e (some (.cells [(.sl 9788 0 2 2 true),(.sl 9805 0 2 2 true)] true 1)) .e) none
.e) none
.e))) none
.e) none
.e)) none
(.n .e none
(.n .e none
(.n .e none
(.n (.n .e none
(.n (.n (.n .e (some (.cells [(bg 3)] true 1)) .e) none
.e) none
.e)) none
.e))))) none
.e))))),9950⟩
end Go.Proofs.Ytbmodoaceepfoaa.lives5
