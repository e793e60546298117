import Derived.Test.YtbmodoaceepfoaaProg
import Derived.Test.YtbmodoaceepfoaaEv8
import Derived.KernelRfl
set_option linter.all false
namespace Go.Ev.Gl
end Go.Ev.Gl
namespace Go.Proofs.Ytbmodoaceepfoaa.lives5
open Go.Ev Go.Ev.Gl
set_option maxRecDepth 100000
noncomputable def a21:fD:=
⟨47,[(.cell 2 true 3)],(.seq (.reg [⟨(some 1),(.a (.box 67 (.t 0))),none,0⟩,
⟨(some 2),(.a (.alloc 27 [(.int .i64 (.ofNat 0)),.cr,.cr])),none,0⟩])
(.seq (.reg [oq 6 (.build [(.int .i64 (.ofNat 0)),(.int .i64 (.ofNat 0))] [(1,1,(ci 2))]),
oq 7 (.build [(.int .i64 (.ofNat 0)),(.int .i64 (.ofNat 0))] [(1,1,(ci 2))]),
⟨(some 8),(.a (.c7 44 2 2 [(.int .i64 (.ofNat 0)),(.int .i64 (.ofNat 0))] [(0,(.t 6)),(1,(.t 7))])),none,0⟩,
⟨(some 9),(.a (.c7 3 1 2 [(.int .i64 (.ofNat 0))] [(0,(ci 1)),(1,(ci 4))])),none,0⟩,
⟨(some 10),(.a (.c7 3 1 2 [(.int .i64 (.ofNat 0))] [(0,(ci 1)),(1,(ci 1))])),none,0⟩,
oq 11 (.build [(.int .i64 (.ofNat 0)),(.int .i64 (.ofNat 0)),(.int .i64 (.ofNat 0)),.cr,.cr,.cr] [(0,1,(ci 1)),(3,1,(.t 9)),(4,1,(.t 10))]),
⟨(some 12),(.a (.c7 84 6 1 [(.int .i64 (.ofNat 0)),(.int .i64 (.ofNat 0)),(.int .i64 (.ofNat 0)),.cr,.cr,.cr] [(0,(.t 11))])),none,0⟩,
oq 13 (.build [(.int .i64 (.ofNat 0)),.cr,.cr] [(0,1,(ci 1)),(2,1,(.t 8)),(1,1,(.t 12))]),
⟨(some 3),(.a (.alloc 27 [(.int .i64 (.ofNat 0)),.cr,.cr])),none,0⟩,
⟨none,(.x (.st 3 (.t 3) (.t 13))),none,0⟩])
(.seq (.seq (.reg [oq 4 (.mv (ci 0))])
(.block 0 (.loop (.seq (.seq (.reg [mt 14 4,
oq 15 (bi .lss (.t 14) (ci 2))])
(.cond (.t 15) .skip (.exit 0)))
(.seq (.block 1 (.seq (.reg [mt 18 4,
oq 19 (bi .mul (ci 3) (.t 18)),
oq 20 (bi .add (ci 1) (.t 19)),
mt 5 20])
(.drw [oq 21 (.dd 1 (.t 3)),
om 22 1 (ld 21),
mt 23 4,
mt 24 5,
om 25 8 (bi .add (.t 24) (ci 1)),
mt 26 5,
om 27 32 (bi .add (.t 26) (ci 2)),
⟨(some 28),(.a (.c7 3 1 2 [(.int .i64 (.ofNat 0))] [(0,(.t 25)),(1,(.t 27))])),none,120⟩,
om 29 252 (.build [(.int .i64 (.ofNat 0)),(.int .i64 (.ofNat 0)),(.int .i64 (.ofNat 0)),.cr,.cr,.cr] [(0,1,(ci 2)),(2,1,(.t 23)),(3,1,(.t 28))]),
mt 30 4,
om 31 512 (bi .mul (ci 2) (.t 30)),
om 32 1536 (.c9 (.arr 4 1) (.t 1) (.t 31)),
om 33 3584 (ld 32),
⟨(some 34),(.a (.c7 3 1 1 [(.int .i64 (.ofNat 0))] [(0,(.t 33))])),none,7680⟩,
om 35 15872 (.build [(.int .i64 (.ofNat 0)),(.int .i64 (.ofNat 0)),(.int .i64 (.ofNat 0)),.cr,.cr,.cr] [(0,1,(ci 3)),(5,1,(.t 34))]),
mt 36 4,
om 37 32768 (bi .mul (ci 2) (.t 36)),
om 38 98304 (bi .add (.t 37) (ci 1)),
om 39 229376 (.c9 (.arr 4 1) (.t 1) (.t 38)),
om 40 491520 (ld 39),
⟨(some 41),(.a (.c7 3 1 1 [(.int .i64 (.ofNat 0))] [(0,(.t 40))])),none,1015808⟩,
om 42 2064384 (.build [(.int .i64 (.ofNat 0)),(.int .i64 (.ofNat 0)),(.int .i64 (.ofNat 0)),.cr,.cr,.cr] [(0,1,(ci 3)),(5,1,(.t 41))]),
⟨(some 43),(.a (.c7 84 6 3 [(.int .i64 (.ofNat 0)),(.int .i64 (.ofNat 0)),(.int .i64 (.ofNat 0)),.cr,.cr,.cr] [(0,(.t 29)),(1,(.t 35)),(2,(.t 42))])),none,4194300⟩,
⟨(some 44),(.x (.app 84 6 96 (.t 22) (.t 43))),none,8388607⟩,
om 45 16777215 (.dd 1 (.t 3)),
⟨none,(.x (.st 1 (.t 45) (.t 44))),none,33554431⟩])))
(.reg [mt 16 4,
oq 17 (bi .add (.t 16) (ci 1)),
mt 4 17]))))))
(.seq (.reg [oq 46 (.ld true 3 (.t 3)),
⟨none,(.x (.st 3 (.t 2) (.t 46))),none,0⟩])
.ret))))⟩
def row21:Row Try.prog (21,a21):=⟨Try.f21,Try.func21,by kernel_rfl⟩
noncomputable def a22:fD:=
⟨27,[(.t 4)],(.seq (.reg [oq 4 (.mv (.c (.bool false)))])
(.seq (.seq (.reg [mt 6 0,
oq 7 (.dc (.t 6)),
mt 8 1,
oq 9 (.dc (.t 8)),
oq 10 (bi .neq (.t 7) (.t 9))])
(.cond (.t 10) (.seq (.reg [oq 4 (.mv (.c (.bool false)))])
.ret) .skip))
(.seq (.seq (.reg [oq 5 (.mv (ci 0))])
(.block 0 (.loop (.seq (.seq (.reg [mt 11 5,
mt 12 0,
oq 13 (.dc (.t 12)),
oq 14 (bi .lss (.t 11) (.t 13))])
(.cond (.t 14) .skip (.exit 0)))
(.seq (.block 1 (.seq (.drw [mt 17 0,
mt 18 5,
om 19 3 (.c9 (.slice 1) (.t 17) (.t 18)),
om 20 7 (ld 19),
mt 21 1,
mt 22 5,
om 23 48 (.c9 (.slice 1) (.t 21) (.t 22)),
om 24 112 (ld 23),
oc 25 12 [(.t 20),(.t 24)] 255,
om 26 511 (.un .not (.t 25))])
(.cond (.t 26) (.seq (.reg [oq 4 (.mv (.c (.bool false)))])
.ret) .skip)))
(.reg [mt 15 5,
oq 16 (bi .add (.t 15) (ci 1)),
mt 5 16]))))))
(.seq (.reg [oq 4 (.mv (.c (.bool true)))])
.ret))))⟩
def row22:Row Try.prog (22,a22):=⟨Try.f22,Try.func22,by kernel_rfl⟩
end Go.Proofs.Ytbmodoaceepfoaa.lives5
