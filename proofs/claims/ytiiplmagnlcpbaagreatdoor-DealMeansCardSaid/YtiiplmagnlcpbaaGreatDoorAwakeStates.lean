import Derived.Test.YtiiplmagnlcpbaaGreatDoorEv8
set_option linter.unusedSimpArgs false
set_option linter.unusedVariables false
namespace Go.Ev.Gl
end Go.Ev.Gl
namespace Go.Proofs.YtiiplmagnlcpbaaGreatDoor.awake
open Go.Ev Go.Ev.Gl
set_option maxRecDepth 100000
def bg(n:Nat):AV:=.int .i64 (.ofNat n)
def bh(n:Nat):Option AV:=some (.int .i64 (.ofNat n))
def bk{A:Type}(v:Option A):T A:=.n .e v .e
noncomputable def aSj:bN:=⟨(.n (.n (.n (.n (bk (bh 12)) (some (.sl 17 0 1 1 false))
.e) (bh 12)
(.n .e (some (.tup [(bg 12),(bg 0)])) .e)) (bh 4)
(.n (bk (bh 4)) (some (.tup [(bg 4),(bg 0)]))
(.n .e (some (.agg [(bg 1),(.sl 1492 0 1 1 false)])) .e))) (some (.bool false))
(.n (.n (.n (bk (bh 0)) (some (.tup [(bg 4),(bg 0)]))
.e) (bh 0)
(.n .e (some (.agg [(bg 1),(.sl 1488 0 7 7 false),(.sl 1489 0 1 1 false)])) .e)) (bh 0)
(.n (bk (bh 0)) (some (.agg [(bg 1),(.sl 15 0 7 7 false),(.sl 16 0 1 1 false)]))
(.n .e (some (.tup [(bg 12),(bg 0)])) .e)))),false⟩
noncomputable def aSa:St:=⟨(.n .e (some (.ro [(.int .u8 (.ofNat 0)),(.int .u8 (.ofNat 1)),(.int .u8 (.ofNat 56)),(.int .u8 (.ofNat 2)),(.int .u8 (.ofNat 57)),(.int .u8 (.ofNat 49)),(.int .u8 (.ofNat 28)),(.int .u8 (.ofNat 3)),(.int .u8 (.ofNat 61)),(.int .u8 (.ofNat 58)),(.int .u8 (.ofNat 42)),(.int .u8 (.ofNat 50)),(.int .u8 (.ofNat 38)),(.int .u8 (.ofNat 29)),(.int .u8 (.ofNat 17)),(.int .u8 (.ofNat 4)),(.int .u8 (.ofNat 62)),(.int .u8 (.ofNat 47)),(.int .u8 (.ofNat 59)),(.int .u8 (.ofNat 36)),(.int .u8 (.ofNat 45)),(.int .u8 (.ofNat 43)),(.int .u8 (.ofNat 51)),(.int .u8 (.ofNat 22)),(.int .u8 (.ofNat 53)),(.int .u8 (.ofNat 39)),(.int .u8 (.ofNat 33)),(.int .u8 (.ofNat 30)),(.int .u8 (.ofNat 24)),(.int .u8 (.ofNat 18)),(.int .u8 (.ofNat 12)),(.int .u8 (.ofNat 5)),(.int .u8 (.ofNat 63)),(.int .u8 (.ofNat 55)),(.int .u8 (.ofNat 48)),(.int .u8 (.ofNat 27)),(.int .u8 (.ofNat 60)),(.int .u8 (.ofNat 41)),(.int .u8 (.ofNat 37)),(.int .u8 (.ofNat 16)),(.int .u8 (.ofNat 46)),(.int .u8 (.ofNat 35)),(.int .u8 (.ofNat 44)),(.int .u8 (.ofNat 21)),(.int .u8 (.ofNat 52)),(.int .u8 (.ofNat 32)),(.int .u8 (.ofNat 23)),(.int .u8 (.ofNat 11)),(.int .u8 (.ofNat 54)),(.int .u8 (.ofNat 26)),(.int .u8 (.ofNat 40)),(.int .u8 (.ofNat 15)),(.int .u8 (.ofNat 34)),(.int .u8 (.ofNat 20)),(.int .u8 (.ofNat 31)),(.int .u8 (.ofNat 10)),(.int .u8 (.ofNat 25)),(.int .u8 (.ofNat 14)),(.int .u8 (.ofNat 19)),(.int .u8 (.ofNat 9)),(.int .u8 (.ofNat 13)),(.int .u8 (.ofNat 8)),(.int .u8 (.ofNat 7)),(.int .u8 (.ofNat 6))])) .e),2246⟩
end Go.Proofs.YtiiplmagnlcpbaaGreatDoor.awake
