import Derived.Test.YtkklchgmpejobaaGreatDoorProg
import Derived.Test.YtkklchgmpejobaaGreatDoorEv8
import Derived.KernelRfl
namespace Go.Ev.Gl
end Go.Ev.Gl
namespace Go.Proofs.YtkklchgmpejobaaGreatDoor.awake
open Go.Ev Go.Ev.Gl
set_option maxRecDepth 100000
noncomputable def a9:cW:=
⟨13,[(.cell 2 true 3),(.t 3)],(.seq (.reg [⟨(some 1),(.a (.box 28 (.t 0))),none,0⟩,
⟨(some 2),(.a (.alloc 30 [(.int .i64 (.ofNat 0)),.nilsl,.nilsl])),none,0⟩,
oq 3 (.mv (ci 0))])
(.seq (.seq (.reg [oq 5 (.ld true 3 (.t 1)),
oc 6 31 [(.t 5)] 0,
mt 4 6])
(.seq (.reg [mt 7 4,
oq 8 (bi .neq (.t 7) (ci 0))])
(.cond (.t 8) (.seq (.reg [oq 9 (.build [(.int .i64 (.ofNat 0)),.nilsl,.nilsl] []),
mt 10 4,
⟨none,(.x (.st 3 (.t 2) (.t 9))),none,0⟩,
mt 3 10])
.ret) .skip)))
(.seq (.reg [oq 11 (.ld true 3 (.t 1)),
oc 12 32 [(.t 11)] 0,
⟨none,(.x (.st 3 (.t 2) (.t 12))),none,0⟩,
oq 3 (.mv (ci 0))])
.ret)))⟩
theorem row9:Row Tryz.prog (9,a9):=⟨Tryz.f9,Tryz.func9,by kernel_rfl⟩
noncomputable def a23:cW:=
⟨18,[(.t 2),(.t 3)],(.seq (.reg [⟨(some 1),(.a (.box 28 (.t 0))),none,0⟩,
oq 2 (.mv (.c .nilsl)),
oq 3 (.mv (ci 0))])
(.seq (.seq (.reg [oq 7 (.ld true 3 (.t 1)),
oc 8 31 [(.t 7)] 0,
mt 4 8])
(.seq (.reg [mt 9 4,
oq 10 (bi .neq (.t 9) (ci 0))])
(.cond (.t 10) (.seq (.reg [mt 11 4,
oq 2 (.mv (.c .nilsl)),
mt 3 11])
.ret) .skip)))
(.seq (.reg [oq 13 (.ld true 3 (.t 1)),
oc 14 42 [(.t 13)] 0,
mt 12 14,
oq 15 (.extract (.t 12) 0),
oq 16 (.extract (.t 12) 1),
mt 5 15,
mt 6 16])
(.seq (.reg [mt 17 5,
mt 2 17,
oq 3 (.mv (ci 0))])
.ret))))⟩
theorem row23:Row Tryz.prog (23,a23):=⟨Tryz.f23,Tryz.func23,by kernel_rfl⟩
noncomputable def a26:cW:=
⟨19,[(.cell 0 true 3)],(.seq (.reg [⟨(some 0),(.a (.alloc 28 [(.int .i64 (.ofNat 0)),.nilsl,.nilsl])),none,0⟩])
(.seq (.reg [⟨(some 2),(.a (.bslice 3 1 2 [(.int .i64 (.ofNat 0))] [(0,(ci 1)),(1,(ci 1))])),none,0⟩,
mt 1 2])
(.seq (.reg [⟨(some 3),(.a (.bslice 3 1 3 [(.int .i64 (.ofNat 0))] [(0,(ci 1)),(1,(ci 2)),(2,(ci 1))])),none,0⟩,
⟨(some 4),(.a (.bslice 3 1 3 [(.int .i64 (.ofNat 0))] [(0,(ci 1)),(1,(ci 2)),(2,(ci 5))])),none,0⟩,
oc 5 43 [(.t 3),(.t 4)] 0,
oc 6 44 [(ci 5)] 0,
mt 7 1,
⟨(some 8),(.a (.bslice 3 1 2 [(.int .i64 (.ofNat 0))] [(0,(ci 3)),(1,(ci 4))])),none,0⟩,
oc 9 43 [(.t 7),(.t 8)] 0,
oc 10 44 [(ci 5)] 0,
oc 11 44 [(ci 7)] 0,
mt 12 1,
⟨(some 13),(.a (.bslice 3 1 2 [(.int .i64 (.ofNat 0))] [(0,(ci 6)),(1,(ci 7))])),none,0⟩,
oc 14 43 [(.t 12),(.t 13)] 0,
oc 15 44 [(ci 5)] 0,
oc 16 44 [(ci 7)] 0,
⟨(some 17),(.a (.bslice 54 6 8 [(.int .i64 (.ofNat 0)),(.int .i64 (.ofNat 0)),(.int .i64 (.ofNat 0)),.nilsl,.nilsl,.nilsl] [(0,(.t 5)),(1,(.t 6)),(2,(.t 9)),(3,(.t 10)),(4,(.t 11)),(5,(.t 14)),(6,(.t 15)),(7,(.t 16))])),none,0⟩,
oq 18 (.build [(.int .i64 (.ofNat 0)),.nilsl,.nilsl] [(0,1,(ci 1)),(1,1,(.t 17))]),
⟨none,(.x (.st 3 (.t 0) (.t 18))),none,0⟩])
.ret)))⟩
theorem row26:Row Tryz.prog (26,a26):=⟨Tryz.f26,Tryz.func26,by kernel_rfl⟩
noncomputable def a27:cW:=
⟨8,[(.t 4)],(.seq (.reg [⟨(some 2),(.a (.box 30 (.t 0))),none,0⟩,
⟨(some 3),(.a (.box 30 (.t 1))),none,0⟩,
oq 4 (.mv (.c (.bool false)))])
(.seq (.reg [oq 5 (.ld true 3 (.t 2)),
oq 6 (.ld true 3 (.t 3)),
oc 7 22 [(.t 5),(.t 6)] 0,
mt 4 7])
.ret))⟩
theorem row27:Row Tryz.prog (27,a27):=⟨Tryz.f27,Tryz.func27,by kernel_rfl⟩
noncomputable def a28:cW:=
⟨11,[(.cell 0 true 3)],(.seq (.reg [⟨(some 0),(.a (.alloc 30 [(.int .i64 (.ofNat 0)),.nilsl,.nilsl])),none,0⟩])
(.seq (.reg [⟨(some 1),(.a (.bslice 3 1 3 [(.int .i64 (.ofNat 0))] [(0,(ci 1)),(1,(ci 2)),(2,(ci 1))])),none,0⟩,
⟨(some 2),(.a (.bslice 3 1 3 [(.int .i64 (.ofNat 0))] [(0,(ci 2)),(1,(ci 1)),(2,(ci 1))])),none,0⟩,
oc 3 43 [(.t 1),(.t 2)] 0,
⟨(some 4),(.a (.bslice 3 1 2 [(.int .i64 (.ofNat 0))] [(0,(ci 1)),(1,(ci 1))])),none,0⟩,
⟨(some 5),(.a (.bslice 3 1 2 [(.int .i64 (.ofNat 0))] [(0,(ci 2)),(1,(ci 3))])),none,0⟩,
oc 6 43 [(.t 4),(.t 5)] 0,
oc 7 44 [(ci 5)] 0,
oc 8 44 [(ci 7)] 0,
⟨(some 9),(.a (.bslice 54 6 4 [(.int .i64 (.ofNat 0)),(.int .i64 (.ofNat 0)),(.int .i64 (.ofNat 0)),.nilsl,.nilsl,.nilsl] [(0,(.t 3)),(1,(.t 6)),(2,(.t 7)),(3,(.t 8))])),none,0⟩,
oq 10 (.build [(.int .i64 (.ofNat 0)),.nilsl,.nilsl] [(0,1,(ci 1)),(1,1,(.t 9))]),
⟨none,(.x (.st 3 (.t 0) (.t 10))),none,0⟩])
.ret))⟩
theorem row28:Row Tryz.prog (28,a28):=⟨Tryz.f28,Tryz.func28,by kernel_rfl⟩
noncomputable def a43:cW:=
⟨8,[(.cell 4 true 6)],(.seq (.reg [⟨(some 4),(.a (.alloc 54 [(.int .i64 (.ofNat 0)),(.int .i64 (.ofNat 0)),(.int .i64 (.ofNat 0)),.nilsl,.nilsl,.nilsl])),none,0⟩])
(.seq (.reg [mt 5 0,
mt 6 1,
oq 7 (.build [(.int .i64 (.ofNat 0)),(.int .i64 (.ofNat 0)),(.int .i64 (.ofNat 0)),.nilsl,.nilsl,.nilsl] [(0,1,(ci 1)),(4,1,(.t 5)),(3,1,(.t 6))]),
⟨none,(.x (.st 6 (.t 4) (.t 7))),none,0⟩])
.ret))⟩
theorem row43:Row Tryz.prog (43,a43):=⟨Tryz.f43,Tryz.func43,by kernel_rfl⟩
noncomputable def a44:cW:=
⟨6,[(.cell 2 true 6)],(.seq (.reg [⟨(some 2),(.a (.alloc 54 [(.int .i64 (.ofNat 0)),(.int .i64 (.ofNat 0)),(.int .i64 (.ofNat 0)),.nilsl,.nilsl,.nilsl])),none,0⟩])
(.seq (.reg [mt 3 0,
⟨(some 4),(.a (.bslice 3 1 1 [(.int .i64 (.ofNat 0))] [(0,(.t 3))])),none,0⟩,
oq 5 (.build [(.int .i64 (.ofNat 0)),(.int .i64 (.ofNat 0)),(.int .i64 (.ofNat 0)),.nilsl,.nilsl,.nilsl] [(0,1,(ci 3)),(5,1,(.t 4))]),
⟨none,(.x (.st 6 (.t 2) (.t 5))),none,0⟩])
.ret))⟩
theorem row44:Row Tryz.prog (44,a44):=⟨Tryz.f44,Tryz.func44,by kernel_rfl⟩
end Go.Proofs.YtkklchgmpejobaaGreatDoor.awake
