import Derived.Test.YtdkehphobhnjoaaLives5Ir0
import Derived.Test.YtdkehphobhnjoaaIr0
import Derived.Test.YtdkehphobhnjoaaIr1
import Derived.Test.YtdkehphobhnjoaaIr2
import Derived.Test.YtdkehphobhnjoaaIr3
namespace Go.Ev.Gl
end Go.Ev.Gl
namespace Go.Proofs.Ytdkehphobhnjoaa.lives5
open Go.Ev Go.Ev.Gl
set_option maxRecDepth 100000
noncomputable def aCr:List (Nat×dU):=[(6,a6),(10,a10),(11,a11),(16,a16),(19,a19),(20,a20),(21,a21),(22,a22),(23,a23),(24,a24),(25,a25),(37,a37),(43,a43),(44,a44),(45,a45),(46,a46),(47,a47),(48,a48),(49,a49),(50,a50),(51,a51),(52,a52),(64,a64),(65,a65),(76,a76),(79,a79),(88,a88),(89,a89),(90,a90),(91,a91),(93,a93),(94,a94),(95,a95),(96,a96),(97,a97),(98,a98),(99,a99),(100,a100),(101,a101),(102,a102),(103,a103)]
theorem rows:∀p∈aCr,Row Try.prog p:=by
 unfold aCr;refine bh row6 (bh row10 (bh row11 (bh row16 (bh row19 (bh row20 (bh row21 (bh row22 (bh row23 (bh row24 (bh row25 (bh row37 (bh row43 (bh row44 (bh row45 (bh row46 (bh row47 (bh row48 (bh row49 (bh row50 ?_)))))))))))))))))));refine bh row51 (bh row52 (bh row64 (bh row65 (bh row76 (bh row79 (bh row88 (bh row89 (bh row90 (bh row91 (bh row93 (bh row94 (bh row95 (bh row96 (bh row97 (bh row98 (bh row99 (bh row100 (bh row101 (bh row102 ?_)))))))))))))))))));refine bh row103 ?_;intro p hp;cases hp
theorem knows:vY Try.prog (table aCr):=aHK (by kernel_rfl) rows
noncomputable def tabs:List (Nat×b6):=[]
noncomputable def s0:AC:=
(.reg [⟨(some 0),(.q (.mv (.c (.bool false)))),none,0⟩])
noncomputable def s1:AC:=
(.reg [⟨(some 4),(.x (.call (.c (.fn 19 [] [])) [])),none,0⟩,
⟨(some 5),(.x (.call (.c (.fn 6 [] [])) [(.t 4)])),none,0⟩,
⟨(some 3),(.q (.mv (.t 5))),none,0⟩,
⟨(some 6),(.q (.extract (.t 3) 0)),none,0⟩,
⟨(some 7),(.q (.extract (.t 3) 1)),none,0⟩,
⟨(some 1),(.q (.mv (.t 6))),none,0⟩,
⟨(some 2),(.q (.mv (.t 7))),none,0⟩])
noncomputable def s2:AC:=
(.reg [⟨(some 8),(.q (.mv (.t 2))),none,0⟩,
⟨(some 9),(.q (.bin .eql (.p .int) (.t 8) (.c (.int .i64 (.ofNat 0))))),none,0⟩,
⟨(some 10),(.q (.mv (.t 9))),none,0⟩,
⟨(some 11),(.q (.mv (.t 1))),(some (10,true)),0⟩,
⟨(some 12),(.x (.call (.c (.fn 20 [] [])) [])),(some (10,true)),0⟩,
⟨(some 13),(.a (.ch 31 1 1 [.cb] [(0,(.t 12))])),(some (10,true)),0⟩,
⟨(some 14),(.x (.call (.c (.fn 10 [] [])) [(.t 11),(.t 13)])),(some (10,true)),0⟩,
⟨(some 15),(.q (.pick (.t 10) (.t 14) (.c (.bool false)))),none,0⟩,
⟨(some 16),(.q (.mv (.t 15))),none,0⟩,
⟨(some 17),(.x (.call (.c (.fn 21 [] [])) [])),(some (16,true)),0⟩,
⟨(some 18),(.a (.ch 3 1 4 [(.int .i64 (.ofNat 0))] [(0,(.c (.int .i64 (.ofNat 0)))),(1,(.c (.int .i64 (.ofNat 2)))),(2,(.c (.int .i64 (.ofNat 1)))),(3,(.c (.int .i64 (.ofNat 3))))])),(some (16,true)),0⟩,
⟨(some 19),(.x (.call (.c (.fn 16 [] [])) [(.t 17),(.t 18)])),(some (16,true)),0⟩,
⟨(some 20),(.q (.bin .eql (.p .int) (.t 19) (.c (.int .i64 (.ofNat 3))))),(some (16,true)),0⟩,
⟨(some 21),(.q (.pick (.t 16) (.t 20) (.c (.bool false)))),none,0⟩,
⟨(some 0),(.q (.mv (.t 21))),none,0⟩])
noncomputable def s3:AC:=
.ret
theorem body:cFn Try.prog Try.f5=some ⟨22,[(.t 0)],(.seq s0 (.seq s1 (.seq s2 s3)))⟩:=by kernel_rfl
end Go.Proofs.Ytdkehphobhnjoaa.lives5
