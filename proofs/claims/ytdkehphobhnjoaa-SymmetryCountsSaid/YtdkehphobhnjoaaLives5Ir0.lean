import Derived.Test.YtdkehphobhnjoaaProg
import Derived.Test.YtdkehphobhnjoaaEv8
import Derived.KernelRfl
namespace Go.Ev.Gl
end Go.Ev.Gl
namespace Go.Proofs.Ytdkehphobhnjoaa.lives5
open Go.Ev Go.Ev.Gl
set_option maxRecDepth 100000
noncomputable section
def a10:dU:=
⟨27,[(.t 4)],(.seq (.reg [oq 4 (.mv (.c (.bool false)))])
(.seq (.seq (.reg [mt 6 0,
oq 7 (.cq (.t 6)),
mt 8 1,
oq 9 (.cq (.t 8)),
oq 10 (bi .neq (.t 7) (.t 9))])
(.cond (.t 10) (.seq (.reg [oq 4 (.mv (.c (.bool false)))])
.ret) .skip))
(.seq (.seq (.reg [oq 5 (.mv (ci 0))])
(.block 0 (.loop (.seq (.seq (.reg [mt 11 5,
mt 12 0,
oq 13 (.cq (.t 12)),
oq 14 (bi .lss (.t 11) (.t 13))])
(.cond (.t 14) .skip (.exit 0)))
(.seq (.block 1 (.seq (.drw [mt 17 0,
mt 18 5,
om 19 3 (.cn (.slice 1) (.t 17) (.t 18)),
om 20 7 (ld 19),
mt 21 1,
mt 22 5,
om 23 48 (.cn (.slice 1) (.t 21) (.t 22)),
om 24 112 (ld 23),
oc 25 11 [(.t 20),(.t 24)] 255,
om 26 511 (.un .not (.t 25))])
(.cond (.t 26) (.seq (.reg [oq 4 (.mv (.c (.bool false)))])
.ret) .skip)))
(.reg [mt 15 5,
oq 16 (bi .add (.t 15) (ci 1)),
mt 5 16]))))))
(.seq (.reg [oq 4 (.mv (.c (.bool true)))])
.ret))))⟩
theorem row10:Row Try.prog (10,a10):=⟨Try.f10,Try.func10,by kernel_rfl⟩
def a19:dU:=
⟨19,[(.cell 0 true 3)],(.seq (.reg [⟨(some 0),(.a (.alloc 25 [(.int .i64 (.ofNat 0)),.cb,.cb])),none,0⟩])
(.seq (.reg [⟨(some 2),(.a (.ch 3 1 2 [(.int .i64 (.ofNat 0))] [(0,(ci 1)),(1,(ci 2))])),none,0⟩,
mt 1 2])
(.seq (.reg [⟨(some 3),(.a (.ch 3 1 3 [(.int .i64 (.ofNat 0))] [(0,(ci 1)),(1,(ci 1)),(2,(ci 2))])),none,0⟩,
⟨(some 4),(.a (.ch 3 1 3 [(.int .i64 (.ofNat 0))] [(0,(ci 1)),(1,(ci 4)),(2,(ci 7))])),none,0⟩,
oc 5 44 [(.t 3),(.t 4)] 0,
mt 6 1,
⟨(some 7),(.a (.ch 3 1 2 [(.int .i64 (.ofNat 0))] [(0,(ci 2)),(1,(ci 3))])),none,0⟩,
oc 8 44 [(.t 6),(.t 7)] 0,
oc 9 45 [(ci 1)] 0,
oc 10 45 [(ci 2)] 0,
mt 11 1,
⟨(some 12),(.a (.ch 3 1 2 [(.int .i64 (.ofNat 0))] [(0,(ci 5)),(1,(ci 6))])),none,0⟩,
oc 13 44 [(.t 11),(.t 12)] 0,
oc 14 45 [(ci 1)] 0,
oc 15 45 [(ci 2)] 0,
oc 16 45 [(ci 9)] 0,
⟨(some 17),(.a (.ch 53 6 8 [(.int .i64 (.ofNat 0)),(.int .i64 (.ofNat 0)),(.int .i64 (.ofNat 0)),.cb,.cb,.cb] [(0,(.t 5)),(1,(.t 8)),(2,(.t 9)),(3,(.t 10)),(4,(.t 13)),(5,(.t 14)),(6,(.t 15)),(7,(.t 16))])),none,0⟩,
oq 18 (.build [(.int .i64 (.ofNat 0)),.cb,.cb] [(0,1,(ci 1)),(1,1,(.t 17))]),
⟨none,(.x (.st 3 (.t 0) (.t 18))),none,0⟩])
.ret)))⟩
theorem row19:Row Try.prog (19,a19):=⟨Try.f19,Try.func19,by kernel_rfl⟩
def a20:dU:=
⟨2,[(.t 0)],(.seq (.reg [oq 0 (.mv (.c .cb))])
(.seq (.reg [⟨(some 1),(.a (.ch 3 1 8 [(.int .i64 (.ofNat 0))] [(0,(ci 0)),(1,(ci 4)),(2,(ci 5)),(3,(ci 6)),(4,(ci 1)),(5,(ci 2)),(6,(ci 3)),(7,(ci 7))])),none,0⟩,
mt 0 1])
.ret))⟩
theorem row20:Row Try.prog (20,a20):=⟨Try.f20,Try.func20,by kernel_rfl⟩
def a21:dU:=
⟨9,[(.cell 0 true 3)],(.seq (.reg [⟨(some 0),(.a (.alloc 25 [(.int .i64 (.ofNat 0)),.cb,.cb])),none,0⟩])
(.seq (.reg [⟨(some 1),(.a (.ch 3 1 3 [(.int .i64 (.ofNat 0))] [(0,(ci 1)),(1,(ci 1)),(2,(ci 1))])),none,0⟩,
⟨(some 2),(.a (.ch 3 1 3 [(.int .i64 (.ofNat 0))] [(0,(ci 1)),(1,(ci 2)),(2,(ci 3))])),none,0⟩,
oc 3 44 [(.t 1),(.t 2)] 0,
oc 4 45 [(ci 5)] 0,
oc 5 45 [(ci 7)] 0,
oc 6 45 [(ci 5)] 0,
⟨(some 7),(.a (.ch 53 6 4 [(.int .i64 (.ofNat 0)),(.int .i64 (.ofNat 0)),(.int .i64 (.ofNat 0)),.cb,.cb,.cb] [(0,(.t 3)),(1,(.t 4)),(2,(.t 5)),(3,(.t 6))])),none,0⟩,
oq 8 (.build [(.int .i64 (.ofNat 0)),.cb,.cb] [(0,1,(ci 1)),(1,1,(.t 7))]),
⟨none,(.x (.st 3 (.t 0) (.t 8))),none,0⟩])
.ret))⟩
theorem row21:Row Try.prog (21,a21):=⟨Try.f21,Try.func21,by kernel_rfl⟩
def a44:dU:=
⟨8,[(.cell 4 true 6)],(.seq (.reg [⟨(some 4),(.a (.alloc 53 [(.int .i64 (.ofNat 0)),(.int .i64 (.ofNat 0)),(.int .i64 (.ofNat 0)),.cb,.cb,.cb])),none,0⟩])
(.seq (.reg [mt 5 0,
mt 6 1,
oq 7 (.build [(.int .i64 (.ofNat 0)),(.int .i64 (.ofNat 0)),(.int .i64 (.ofNat 0)),.cb,.cb,.cb] [(0,1,(ci 1)),(4,1,(.t 5)),(3,1,(.t 6))]),
⟨none,(.x (.st 6 (.t 4) (.t 7))),none,0⟩])
.ret))⟩
theorem row44:Row Try.prog (44,a44):=⟨Try.f44,Try.func44,by kernel_rfl⟩
def a45:dU:=
⟨6,[(.cell 2 true 6)],(.seq (.reg [⟨(some 2),(.a (.alloc 53 [(.int .i64 (.ofNat 0)),(.int .i64 (.ofNat 0)),(.int .i64 (.ofNat 0)),.cb,.cb,.cb])),none,0⟩])
(.seq (.reg [mt 3 0,
⟨(some 4),(.a (.ch 3 1 1 [(.int .i64 (.ofNat 0))] [(0,(.t 3))])),none,0⟩,
oq 5 (.build [(.int .i64 (.ofNat 0)),(.int .i64 (.ofNat 0)),(.int .i64 (.ofNat 0)),.cb,.cb,.cb] [(0,1,(ci 3)),(5,1,(.t 4))]),
⟨none,(.x (.st 6 (.t 2) (.t 5))),none,0⟩])
.ret))⟩
theorem row45:Row Try.prog (45,a45):=⟨Try.f45,Try.func45,by kernel_rfl⟩
end
end Go.Proofs.Ytdkehphobhnjoaa.lives5
