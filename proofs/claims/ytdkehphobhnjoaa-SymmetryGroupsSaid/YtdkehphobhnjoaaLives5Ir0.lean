import Derived.Test.YtdkehphobhnjoaaProg
import Derived.Test.YtdkehphobhnjoaaEv8
import Derived.KernelRfl
namespace Go.Ev.Gl
end Go.Ev.Gl
namespace Go.Proofs.Ytdkehphobhnjoaa.lives5
open Go.Ev Go.Ev.Gl
set_option maxRecDepth 100000
noncomputable def a16:dE:=
⟨22,[(.t 4)],(.seq (.reg [⟨(some 2),(.a (.box 25 (.t 0))),none,0⟩,
oq 4 (.mv (ci 0))])
(.seq (.reg [oq 8 (.ld true 3 (.t 2)),
oc 9 22 [(.t 8)] 0,
mt 7 9,
oq 10 (.extract (.t 7) 0),
oq 11 (.extract (.t 7) 1),
mt 5 10,
mt 6 11])
(.seq (.seq (.reg [mt 12 6,
oq 13 (bi .neq (.t 12) (ci 0))])
(.cond (.t 13) (.seq (.reg [mt 14 6,
mt 4 14])
.ret) .skip))
(.seq (.reg [mt 16 5,
mt 17 1,
oc 18 43 [(.t 16),(.t 17)] 0,
mt 15 18,
oq 19 (.extract (.t 15) 0),
oq 20 (.extract (.t 15) 1),
mt 6 20])
(.seq (.reg [mt 21 6,
mt 4 21])
.ret)))))⟩
theorem row16:Row Try.prog (16,a16):=⟨Try.f16,Try.func16,by kernel_rfl⟩
noncomputable def a19:dE:=
⟨19,[(.cell 0 true 3)],(.seq (.reg [⟨(some 0),(.a (.alloc 25 [(.int .i64 (.ofNat 0)),.nilsl,.nilsl])),none,0⟩])
(.seq (.reg [⟨(some 2),(.a (.bslice 3 1 2 [(.int .i64 (.ofNat 0))] [(0,(ci 1)),(1,(ci 2))])),none,0⟩,
mt 1 2])
(.seq (.reg [⟨(some 3),(.a (.bslice 3 1 3 [(.int .i64 (.ofNat 0))] [(0,(ci 1)),(1,(ci 1)),(2,(ci 2))])),none,0⟩,
⟨(some 4),(.a (.bslice 3 1 3 [(.int .i64 (.ofNat 0))] [(0,(ci 1)),(1,(ci 4)),(2,(ci 7))])),none,0⟩,
oc 5 44 [(.t 3),(.t 4)] 0,
mt 6 1,
⟨(some 7),(.a (.bslice 3 1 2 [(.int .i64 (.ofNat 0))] [(0,(ci 2)),(1,(ci 3))])),none,0⟩,
oc 8 44 [(.t 6),(.t 7)] 0,
oc 9 45 [(ci 1)] 0,
oc 10 45 [(ci 2)] 0,
mt 11 1,
⟨(some 12),(.a (.bslice 3 1 2 [(.int .i64 (.ofNat 0))] [(0,(ci 5)),(1,(ci 6))])),none,0⟩,
oc 13 44 [(.t 11),(.t 12)] 0,
oc 14 45 [(ci 1)] 0,
oc 15 45 [(ci 2)] 0,
oc 16 45 [(ci 9)] 0,
⟨(some 17),(.a (.bslice 53 6 8 [(.int .i64 (.ofNat 0)),(.int .i64 (.ofNat 0)),(.int .i64 (.ofNat 0)),.nilsl,.nilsl,.nilsl] [(0,(.t 5)),(1,(.t 8)),(2,(.t 9)),(3,(.t 10)),(4,(.t 13)),(5,(.t 14)),(6,(.t 15)),(7,(.t 16))])),none,0⟩,
oq 18 (.build [(.int .i64 (.ofNat 0)),.nilsl,.nilsl] [(0,1,(ci 1)),(1,1,(.t 17))]),
⟨none,(.x (.st 3 (.t 0) (.t 18))),none,0⟩])
.ret)))⟩
theorem row19:Row Try.prog (19,a19):=⟨Try.f19,Try.func19,by kernel_rfl⟩
noncomputable def a20:dE:=
⟨2,[(.t 0)],(.seq (.reg [oq 0 (.mv (.c .nilsl))])
(.seq (.reg [⟨(some 1),(.a (.bslice 3 1 8 [(.int .i64 (.ofNat 0))] [(0,(ci 0)),(1,(ci 4)),(2,(ci 5)),(3,(ci 6)),(4,(ci 1)),(5,(ci 2)),(6,(ci 3)),(7,(ci 7))])),none,0⟩,
mt 0 1])
.ret))⟩
theorem row20:Row Try.prog (20,a20):=⟨Try.f20,Try.func20,by kernel_rfl⟩
noncomputable def a21:dE:=
⟨9,[(.cell 0 true 3)],(.seq (.reg [⟨(some 0),(.a (.alloc 25 [(.int .i64 (.ofNat 0)),.nilsl,.nilsl])),none,0⟩])
(.seq (.reg [⟨(some 1),(.a (.bslice 3 1 3 [(.int .i64 (.ofNat 0))] [(0,(ci 1)),(1,(ci 1)),(2,(ci 1))])),none,0⟩,
⟨(some 2),(.a (.bslice 3 1 3 [(.int .i64 (.ofNat 0))] [(0,(ci 1)),(1,(ci 2)),(2,(ci 3))])),none,0⟩,
oc 3 44 [(.t 1),(.t 2)] 0,
oc 4 45 [(ci 5)] 0,
oc 5 45 [(ci 7)] 0,
oc 6 45 [(ci 5)] 0,
⟨(some 7),(.a (.bslice 53 6 4 [(.int .i64 (.ofNat 0)),(.int .i64 (.ofNat 0)),(.int .i64 (.ofNat 0)),.nilsl,.nilsl,.nilsl] [(0,(.t 3)),(1,(.t 4)),(2,(.t 5)),(3,(.t 6))])),none,0⟩,
oq 8 (.build [(.int .i64 (.ofNat 0)),.nilsl,.nilsl] [(0,1,(ci 1)),(1,1,(.t 7))]),
⟨none,(.x (.st 3 (.t 0) (.t 8))),none,0⟩])
.ret))⟩
theorem row21:Row Try.prog (21,a21):=⟨Try.f21,Try.func21,by kernel_rfl⟩
noncomputable def a44:dE:=
⟨8,[(.cell 4 true 6)],(.seq (.reg [⟨(some 4),(.a (.alloc 53 [(.int .i64 (.ofNat 0)),(.int .i64 (.ofNat 0)),(.int .i64 (.ofNat 0)),.nilsl,.nilsl,.nilsl])),none,0⟩])
(.seq (.reg [mt 5 0,
mt 6 1,
oq 7 (.build [(.int .i64 (.ofNat 0)),(.int .i64 (.ofNat 0)),(.int .i64 (.ofNat 0)),.nilsl,.nilsl,.nilsl] [(0,1,(ci 1)),(4,1,(.t 5)),(3,1,(.t 6))]),
⟨none,(.x (.st 6 (.t 4) (.t 7))),none,0⟩])
.ret))⟩
theorem row44:Row Try.prog (44,a44):=⟨Try.f44,Try.func44,by kernel_rfl⟩
noncomputable def a45:dE:=
⟨6,[(.cell 2 true 6)],(.seq (.reg [⟨(some 2),(.a (.alloc 53 [(.int .i64 (.ofNat 0)),(.int .i64 (.ofNat 0)),(.int .i64 (.ofNat 0)),.nilsl,.nilsl,.nilsl])),none,0⟩])
(.seq (.reg [mt 3 0,
⟨(some 4),(.a (.bslice 3 1 1 [(.int .i64 (.ofNat 0))] [(0,(.t 3))])),none,0⟩,
oq 5 (.build [(.int .i64 (.ofNat 0)),(.int .i64 (.ofNat 0)),(.int .i64 (.ofNat 0)),.nilsl,.nilsl,.nilsl] [(0,1,(ci 3)),(5,1,(.t 4))]),
⟨none,(.x (.st 6 (.t 2) (.t 5))),none,0⟩])
.ret))⟩
theorem row45:Row Try.prog (45,a45):=⟨Try.f45,Try.func45,by kernel_rfl⟩
end Go.Proofs.Ytdkehphobhnjoaa.lives5
