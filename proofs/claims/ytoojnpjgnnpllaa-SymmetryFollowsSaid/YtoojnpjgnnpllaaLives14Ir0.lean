import Derived.Test.YtoojnpjgnnpllaaProg
import Derived.Test.YtoojnpjgnnpllaaEv8
import Derived.KernelRfl
namespace Go.Ev.Gl
end Go.Ev.Gl
namespace Go.Proofs.Ytoojnpjgnnpllaa.lives14
open Go.Ev Go.Ev.Gl
set_option maxRecDepth 100000
noncomputable def a20 : eJ :=
⟨22,[(.t 4)],(.seq (.reg [⟨(some 2),(.a (.box 28 (.t 0))),none,0⟩,
oq 4 (.mv (ci 0))])
(.seq (.reg [oq 8 (.ld true 3 (.t 2)),
oc 9 68 [(.t 8)] 0,
mt 7 9,
oq 10 (.extract (.t 7) 0),
oq 11 (.extract (.t 7) 1),
mt 5 10,
mt 6 11])
(.seq (.seq (.reg [mt 12 6,
oq 13 (bi .neq (.t 12) (ci 0))])
(.cond (.t 13) (.seq (.reg [mt 14 6,
mt 4 14])
.ret) .skip))
(.seq (.reg [mt 16 5,
mt 17 1,
oc 18 69 [(.t 16),(.t 17)] 0,
mt 15 18,
oq 19 (.extract (.t 15) 0),
oq 20 (.extract (.t 15) 1),
mt 6 20])
(.seq (.reg [mt 21 6,
mt 4 21])
.ret)))))⟩
theorem row20 : Row Try.prog (20, a20) := ⟨Try.f20, Try.func20, by kernel_rfl⟩
noncomputable def a30 : eJ :=
⟨27,[(.t 4)],(.seq (.reg [oq 4 (.mv (.c (.bool false)))])
(.seq (.seq (.reg [mt 6 0,
oq 7 (.lenSl (.t 6)),
mt 8 1,
oq 9 (.lenSl (.t 8)),
oq 10 (bi .neq (.t 7) (.t 9))])
(.cond (.t 10) (.seq (.reg [oq 4 (.mv (.c (.bool false)))])
.ret) .skip))
(.seq (.seq (.reg [oq 5 (.mv (ci 0))])
(.block 0 (.loop (.seq (.seq (.reg [mt 11 5,
mt 12 0,
oq 13 (.lenSl (.t 12)),
oq 14 (bi .lss (.t 11) (.t 13))])
(.cond (.t 14) .skip (.exit 0)))
(.seq (.block 1 (.seq (.drw [mt 17 0,
mt 18 5,
om 19 3 (.iaddr (.slice 1) (.t 17) (.t 18)),
om 20 7 (ld 19),
mt 21 1,
mt 22 5,
om 23 48 (.iaddr (.slice 1) (.t 21) (.t 22)),
om 24 112 (ld 23),
oc 25 19 [(.t 20),(.t 24)] 255,
om 26 511 (.un .not (.t 25))])
(.cond (.t 26) (.seq (.reg [oq 4 (.mv (.c (.bool false)))])
.ret) .skip)))
(.reg [mt 15 5,
oq 16 (bi .add (.t 15) (ci 1)),
mt 5 16]))))))
(.seq (.reg [oq 4 (.mv (.c (.bool true)))])
.ret))))⟩
theorem row30 : Row Try.prog (30, a30) := ⟨Try.f30, Try.func30, by kernel_rfl⟩
noncomputable def a64 : eJ :=
⟨19,[(.cell 0 true 3)],(.seq (.reg [⟨(some 0),(.a (.alloc 28 [(.int .i64 (.ofNat 0)),.nilsl,.nilsl])),none,0⟩])
(.seq (.reg [⟨(some 2),(.a (.bslice 3 1 2 [(.int .i64 (.ofNat 0))] [(0,(ci 1)),(1,(ci 2))])),none,0⟩,
mt 1 2])
(.seq (.reg [⟨(some 3),(.a (.bslice 3 1 3 [(.int .i64 (.ofNat 0))] [(0,(ci 1)),(1,(ci 1)),(2,(ci 2))])),none,0⟩,
⟨(some 4),(.a (.bslice 3 1 3 [(.int .i64 (.ofNat 0))] [(0,(ci 1)),(1,(ci 4)),(2,(ci 7))])),none,0⟩,
oc 5 117 [(.t 3),(.t 4)] 0,
mt 6 1,
⟨(some 7),(.a (.bslice 3 1 2 [(.int .i64 (.ofNat 0))] [(0,(ci 2)),(1,(ci 3))])),none,0⟩,
oc 8 117 [(.t 6),(.t 7)] 0,
oc 9 118 [(ci 1)] 0,
oc 10 118 [(ci 2)] 0,
mt 11 1,
⟨(some 12),(.a (.bslice 3 1 2 [(.int .i64 (.ofNat 0))] [(0,(ci 5)),(1,(ci 6))])),none,0⟩,
oc 13 117 [(.t 11),(.t 12)] 0,
oc 14 118 [(ci 1)] 0,
oc 15 118 [(ci 2)] 0,
oc 16 118 [(ci 9)] 0,
⟨(some 17),(.a (.bslice 64 6 8 [(.int .i64 (.ofNat 0)),(.int .i64 (.ofNat 0)),(.int .i64 (.ofNat 0)),.nilsl,.nilsl,.nilsl] [(0,(.t 5)),(1,(.t 8)),(2,(.t 9)),(3,(.t 10)),(4,(.t 13)),(5,(.t 14)),(6,(.t 15)),(7,(.t 16))])),none,0⟩,
oq 18 (.build [(.int .i64 (.ofNat 0)),.nilsl,.nilsl] [(0,1,(ci 1)),(1,1,(.t 17))]),
⟨none,(.x (.st 3 (.t 0) (.t 18))),none,0⟩])
.ret)))⟩
theorem row64 : Row Try.prog (64, a64) := ⟨Try.f64, Try.func64, by kernel_rfl⟩
noncomputable def a65 : eJ :=
⟨2,[(.t 0)],(.seq (.reg [oq 0 (.mv (.c .nilsl))])
(.seq (.reg [⟨(some 1),(.a (.bslice 3 1 8 [(.int .i64 (.ofNat 0))] [(0,(ci 0)),(1,(ci 4)),(2,(ci 5)),(3,(ci 6)),(4,(ci 1)),(5,(ci 2)),(6,(ci 3)),(7,(ci 7))])),none,0⟩,
mt 0 1])
.ret))⟩
theorem row65 : Row Try.prog (65, a65) := ⟨Try.f65, Try.func65, by kernel_rfl⟩
noncomputable def a66 : eJ :=
⟨9,[(.cell 0 true 3)],(.seq (.reg [⟨(some 0),(.a (.alloc 28 [(.int .i64 (.ofNat 0)),.nilsl,.nilsl])),none,0⟩])
(.seq (.reg [⟨(some 1),(.a (.bslice 3 1 3 [(.int .i64 (.ofNat 0))] [(0,(ci 1)),(1,(ci 1)),(2,(ci 1))])),none,0⟩,
⟨(some 2),(.a (.bslice 3 1 3 [(.int .i64 (.ofNat 0))] [(0,(ci 1)),(1,(ci 2)),(2,(ci 3))])),none,0⟩,
oc 3 117 [(.t 1),(.t 2)] 0,
oc 4 118 [(ci 5)] 0,
oc 5 118 [(ci 7)] 0,
oc 6 118 [(ci 5)] 0,
⟨(some 7),(.a (.bslice 64 6 4 [(.int .i64 (.ofNat 0)),(.int .i64 (.ofNat 0)),(.int .i64 (.ofNat 0)),.nilsl,.nilsl,.nilsl] [(0,(.t 3)),(1,(.t 4)),(2,(.t 5)),(3,(.t 6))])),none,0⟩,
oq 8 (.build [(.int .i64 (.ofNat 0)),.nilsl,.nilsl] [(0,1,(ci 1)),(1,1,(.t 7))]),
⟨none,(.x (.st 3 (.t 0) (.t 8))),none,0⟩])
.ret))⟩
theorem row66 : Row Try.prog (66, a66) := ⟨Try.f66, Try.func66, by kernel_rfl⟩
noncomputable def a117 : eJ :=
⟨8,[(.cell 4 true 6)],(.seq (.reg [⟨(some 4),(.a (.alloc 64 [(.int .i64 (.ofNat 0)),(.int .i64 (.ofNat 0)),(.int .i64 (.ofNat 0)),.nilsl,.nilsl,.nilsl])),none,0⟩])
(.seq (.reg [mt 5 0,
mt 6 1,
oq 7 (.build [(.int .i64 (.ofNat 0)),(.int .i64 (.ofNat 0)),(.int .i64 (.ofNat 0)),.nilsl,.nilsl,.nilsl] [(0,1,(ci 1)),(4,1,(.t 5)),(3,1,(.t 6))]),
⟨none,(.x (.st 6 (.t 4) (.t 7))),none,0⟩])
.ret))⟩
theorem row117 : Row Try.prog (117, a117) := ⟨Try.f117, Try.func117, by kernel_rfl⟩
noncomputable def a118 : eJ :=
⟨6,[(.cell 2 true 6)],(.seq (.reg [⟨(some 2),(.a (.alloc 64 [(.int .i64 (.ofNat 0)),(.int .i64 (.ofNat 0)),(.int .i64 (.ofNat 0)),.nilsl,.nilsl,.nilsl])),none,0⟩])
(.seq (.reg [mt 3 0,
⟨(some 4),(.a (.bslice 3 1 1 [(.int .i64 (.ofNat 0))] [(0,(.t 3))])),none,0⟩,
oq 5 (.build [(.int .i64 (.ofNat 0)),(.int .i64 (.ofNat 0)),(.int .i64 (.ofNat 0)),.nilsl,.nilsl,.nilsl] [(0,1,(ci 3)),(5,1,(.t 4))]),
⟨none,(.x (.st 6 (.t 2) (.t 5))),none,0⟩])
.ret))⟩
theorem row118 : Row Try.prog (118, a118) := ⟨Try.f118, Try.func118, by kernel_rfl⟩
end Go.Proofs.Ytoojnpjgnnpllaa.lives14
