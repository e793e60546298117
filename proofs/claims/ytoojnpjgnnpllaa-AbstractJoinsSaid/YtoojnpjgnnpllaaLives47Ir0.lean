import Derived.Test.YtoojnpjgnnpllaaProg
import Derived.Test.YtoojnpjgnnpllaaEv8
import Derived.KernelRfl
namespace Go.Ev.Gl
end Go.Ev.Gl
namespace Go.Proofs.Ytoojnpjgnnpllaa.lives47
open Go.Ev Go.Ev.Gl
set_option maxRecDepth 100000
noncomputable def a95:eG:=
⟨47,[(.cell 2 true 3)],(.seq (.reg [⟨(some 1),(.a (.box 144 (.t 0))),none,0⟩,
⟨(some 2),(.a (.alloc 28 [(.int .i64 (.ofNat 0)),.nilsl,.nilsl])),none,0⟩])
(.seq (.reg [oq 6 (.build [(.int .i64 (.ofNat 0)),(.int .i64 (.ofNat 0))] [(1,1,(ci 2))]),
oq 7 (.build [(.int .i64 (.ofNat 0)),(.int .i64 (.ofNat 0))] [(1,1,(ci 2))]),
⟨(some 8),(.a (.bslice 48 2 2 [(.int .i64 (.ofNat 0)),(.int .i64 (.ofNat 0))] [(0,(.t 6)),(1,(.t 7))])),none,0⟩,
⟨(some 9),(.a (.bslice 3 1 2 [(.int .i64 (.ofNat 0))] [(0,(ci 1)),(1,(ci 4))])),none,0⟩,
⟨(some 10),(.a (.bslice 3 1 2 [(.int .i64 (.ofNat 0))] [(0,(ci 1)),(1,(ci 1))])),none,0⟩,
oq 11 (.build [(.int .i64 (.ofNat 0)),(.int .i64 (.ofNat 0)),(.int .i64 (.ofNat 0)),.nilsl,.nilsl,.nilsl] [(0,1,(ci 1)),(3,1,(.t 9)),(4,1,(.t 10))]),
⟨(some 12),(.a (.bslice 64 6 1 [(.int .i64 (.ofNat 0)),(.int .i64 (.ofNat 0)),(.int .i64 (.ofNat 0)),.nilsl,.nilsl,.nilsl] [(0,(.t 11))])),none,0⟩,
oq 13 (.build [(.int .i64 (.ofNat 0)),.nilsl,.nilsl] [(0,1,(ci 1)),(2,1,(.t 8)),(1,1,(.t 12))]),
⟨(some 3),(.a (.alloc 28 [(.int .i64 (.ofNat 0)),.nilsl,.nilsl])),none,0⟩,
⟨none,(.x (.st 3 (.t 3) (.t 13))),none,0⟩])
(.seq (.seq (.reg [oq 4 (.mv (ci 0))])
(.block 0 (.loop (.seq (.seq (.reg [mt 14 4,
oq 15 (bi .lss (.t 14) (ci 2))])
(.cond (.t 15) .skip (.exit 0)))
(.seq (.block 1 (.seq (.reg [mt 18 4,
oq 19 (bi .mul (ci 3) (.t 18)),
oq 20 (bi .add (ci 1) (.t 19)),
mt 5 20])
(.drw [oq 21 (.faddr 1 (.t 3)),
om 22 1 (ld 21),
mt 23 4,
mt 24 5,
om 25 8 (bi .add (.t 24) (ci 1)),
mt 26 5,
om 27 32 (bi .add (.t 26) (ci 2)),
⟨(some 28),(.a (.bslice 3 1 2 [(.int .i64 (.ofNat 0))] [(0,(.t 25)),(1,(.t 27))])),none,120⟩,
om 29 252 (.build [(.int .i64 (.ofNat 0)),(.int .i64 (.ofNat 0)),(.int .i64 (.ofNat 0)),.nilsl,.nilsl,.nilsl] [(0,1,(ci 2)),(2,1,(.t 23)),(3,1,(.t 28))]),
mt 30 4,
om 31 512 (bi .mul (ci 2) (.t 30)),
om 32 1536 (.iaddr (.arr 4 1) (.t 1) (.t 31)),
om 33 3584 (ld 32),
⟨(some 34),(.a (.bslice 3 1 1 [(.int .i64 (.ofNat 0))] [(0,(.t 33))])),none,7680⟩,
om 35 15872 (.build [(.int .i64 (.ofNat 0)),(.int .i64 (.ofNat 0)),(.int .i64 (.ofNat 0)),.nilsl,.nilsl,.nilsl] [(0,1,(ci 3)),(5,1,(.t 34))]),
mt 36 4,
om 37 32768 (bi .mul (ci 2) (.t 36)),
om 38 98304 (bi .add (.t 37) (ci 1)),
om 39 229376 (.iaddr (.arr 4 1) (.t 1) (.t 38)),
om 40 491520 (ld 39),
⟨(some 41),(.a (.bslice 3 1 1 [(.int .i64 (.ofNat 0))] [(0,(.t 40))])),none,1015808⟩,
om 42 2064384 (.build [(.int .i64 (.ofNat 0)),(.int .i64 (.ofNat 0)),(.int .i64 (.ofNat 0)),.nilsl,.nilsl,.nilsl] [(0,1,(ci 3)),(5,1,(.t 41))]),
⟨(some 43),(.a (.bslice 64 6 3 [(.int .i64 (.ofNat 0)),(.int .i64 (.ofNat 0)),(.int .i64 (.ofNat 0)),.nilsl,.nilsl,.nilsl] [(0,(.t 29)),(1,(.t 35)),(2,(.t 42))])),none,4194300⟩,
⟨(some 44),(.x (.app 64 6 96 (.t 22) (.t 43))),none,8388607⟩,
om 45 16777215 (.faddr 1 (.t 3)),
⟨none,(.x (.st 1 (.t 45) (.t 44))),none,33554431⟩])))
(.reg [mt 16 4,
oq 17 (bi .add (.t 16) (ci 1)),
mt 4 17]))))))
(.seq (.reg [oq 46 (.ld true 3 (.t 3)),
⟨none,(.x (.st 3 (.t 2) (.t 46))),none,0⟩])
.ret))))⟩
theorem row95:Row Try.prog (95,a95):=⟨Try.f95,Try.func95,by kernel_rfl⟩
end Go.Proofs.Ytoojnpjgnnpllaa.lives47
