import Derived.Test.YtkklchgmpejobaaDoorProg
import Derived.Test.YtkklchgmpejobaaDoorEv8
import Derived.KernelRfl
namespace Go.Ev.Gl
end Go.Ev.Gl
namespace Go.Proofs.YtkklchgmpejobaaDoor.awake
open Go.Ev Go.Ev.Gl
set_option maxRecDepth 100000
noncomputable def a9:dB:=
⟨18,[(.t 2),(.t 3)],(.seq (.reg [⟨(some 1),(.a (.box 25 (.t 0))),none,0⟩,
oq 2 (.mv (.c .nilsl)),
oq 3 (.mv (ci 0))])
(.seq (.seq (.reg [oq 7 (.ld true 3 (.t 1)),
oc 8 22 [(.t 7)] 0,
mt 4 8])
(.seq (.reg [mt 9 4,
oq 10 (bi .neq (.t 9) (ci 0))])
(.cond (.t 10) (.seq (.reg [mt 11 4,
oq 2 (.mv (.c .nilsl)),
mt 3 11])
.ret) .skip)))
(.seq (.reg [oq 13 (.ld true 3 (.t 1)),
oc 14 26 [(.t 13)] 0,
mt 12 14,
oq 15 (.extract (.t 12) 0),
oq 16 (.extract (.t 12) 1),
mt 5 15,
mt 6 16])
(.seq (.reg [mt 17 5,
mt 2 17,
oq 3 (.mv (ci 0))])
.ret))))⟩
theorem row9:Row Tryd.prog (9,a9):=⟨Tryd.f9,Tryd.func9,by kernel_rfl⟩
noncomputable def a20:dB:=
⟨19,[(.cell 0 true 3)],(.seq (.reg [⟨(some 0),(.a (.alloc 25 [(.int .i64 (.ofNat 0)),.nilsl,.nilsl])),none,0⟩])
(.seq (.reg [⟨(some 2),(.a (.bslice 3 1 2 [(.int .i64 (.ofNat 0))] [(0,(ci 1)),(1,(ci 1))])),none,0⟩,
mt 1 2])
(.seq (.reg [⟨(some 3),(.a (.bslice 3 1 3 [(.int .i64 (.ofNat 0))] [(0,(ci 1)),(1,(ci 2)),(2,(ci 1))])),none,0⟩,
⟨(some 4),(.a (.bslice 3 1 3 [(.int .i64 (.ofNat 0))] [(0,(ci 1)),(1,(ci 2)),(2,(ci 5))])),none,0⟩,
oc 5 40 [(.t 3),(.t 4)] 0,
oc 6 41 [(ci 5)] 0,
mt 7 1,
⟨(some 8),(.a (.bslice 3 1 2 [(.int .i64 (.ofNat 0))] [(0,(ci 3)),(1,(ci 4))])),none,0⟩,
oc 9 40 [(.t 7),(.t 8)] 0,
oc 10 41 [(ci 5)] 0,
oc 11 41 [(ci 7)] 0,
mt 12 1,
⟨(some 13),(.a (.bslice 3 1 2 [(.int .i64 (.ofNat 0))] [(0,(ci 6)),(1,(ci 7))])),none,0⟩,
oc 14 40 [(.t 12),(.t 13)] 0,
oc 15 41 [(ci 5)] 0,
oc 16 41 [(ci 7)] 0,
⟨(some 17),(.a (.bslice 48 6 8 [(.int .i64 (.ofNat 0)),(.int .i64 (.ofNat 0)),(.int .i64 (.ofNat 0)),.nilsl,.nilsl,.nilsl] [(0,(.t 5)),(1,(.t 6)),(2,(.t 9)),(3,(.t 10)),(4,(.t 11)),(5,(.t 14)),(6,(.t 15)),(7,(.t 16))])),none,0⟩,
oq 18 (.build [(.int .i64 (.ofNat 0)),.nilsl,.nilsl] [(0,1,(ci 1)),(1,1,(.t 17))]),
⟨none,(.x (.st 3 (.t 0) (.t 18))),none,0⟩])
.ret)))⟩
theorem row20:Row Tryd.prog (20,a20):=⟨Tryd.f20,Tryd.func20,by kernel_rfl⟩
noncomputable def a21:dB:=
⟨11,[(.cell 0 true 3)],(.seq (.reg [⟨(some 0),(.a (.alloc 32 [(.int .i64 (.ofNat 0)),.nilsl,.nilsl])),none,0⟩])
(.seq (.reg [⟨(some 1),(.a (.bslice 3 1 3 [(.int .i64 (.ofNat 0))] [(0,(ci 1)),(1,(ci 2)),(2,(ci 1))])),none,0⟩,
⟨(some 2),(.a (.bslice 3 1 3 [(.int .i64 (.ofNat 0))] [(0,(ci 2)),(1,(ci 1)),(2,(ci 1))])),none,0⟩,
oc 3 40 [(.t 1),(.t 2)] 0,
⟨(some 4),(.a (.bslice 3 1 2 [(.int .i64 (.ofNat 0))] [(0,(ci 1)),(1,(ci 1))])),none,0⟩,
⟨(some 5),(.a (.bslice 3 1 2 [(.int .i64 (.ofNat 0))] [(0,(ci 2)),(1,(ci 3))])),none,0⟩,
oc 6 40 [(.t 4),(.t 5)] 0,
oc 7 41 [(ci 5)] 0,
oc 8 41 [(ci 7)] 0,
⟨(some 9),(.a (.bslice 48 6 4 [(.int .i64 (.ofNat 0)),(.int .i64 (.ofNat 0)),(.int .i64 (.ofNat 0)),.nilsl,.nilsl,.nilsl] [(0,(.t 3)),(1,(.t 6)),(2,(.t 7)),(3,(.t 8))])),none,0⟩,
oq 10 (.build [(.int .i64 (.ofNat 0)),.nilsl,.nilsl] [(0,1,(ci 1)),(1,1,(.t 9))]),
⟨none,(.x (.st 3 (.t 0) (.t 10))),none,0⟩])
.ret))⟩
theorem row21:Row Tryd.prog (21,a21):=⟨Tryd.f21,Tryd.func21,by kernel_rfl⟩
noncomputable def a40:dB:=
⟨8,[(.cell 4 true 6)],(.seq (.reg [⟨(some 4),(.a (.alloc 48 [(.int .i64 (.ofNat 0)),(.int .i64 (.ofNat 0)),(.int .i64 (.ofNat 0)),.nilsl,.nilsl,.nilsl])),none,0⟩])
(.seq (.reg [mt 5 0,
mt 6 1,
oq 7 (.build [(.int .i64 (.ofNat 0)),(.int .i64 (.ofNat 0)),(.int .i64 (.ofNat 0)),.nilsl,.nilsl,.nilsl] [(0,1,(ci 1)),(4,1,(.t 5)),(3,1,(.t 6))]),
⟨none,(.x (.st 6 (.t 4) (.t 7))),none,0⟩])
.ret))⟩
theorem row40:Row Tryd.prog (40,a40):=⟨Tryd.f40,Tryd.func40,by kernel_rfl⟩
noncomputable def a41:dB:=
⟨6,[(.cell 2 true 6)],(.seq (.reg [⟨(some 2),(.a (.alloc 48 [(.int .i64 (.ofNat 0)),(.int .i64 (.ofNat 0)),(.int .i64 (.ofNat 0)),.nilsl,.nilsl,.nilsl])),none,0⟩])
(.seq (.reg [mt 3 0,
⟨(some 4),(.a (.bslice 3 1 1 [(.int .i64 (.ofNat 0))] [(0,(.t 3))])),none,0⟩,
oq 5 (.build [(.int .i64 (.ofNat 0)),(.int .i64 (.ofNat 0)),(.int .i64 (.ofNat 0)),.nilsl,.nilsl,.nilsl] [(0,1,(ci 3)),(5,1,(.t 4))]),
⟨none,(.x (.st 6 (.t 2) (.t 5))),none,0⟩])
.ret))⟩
theorem row41:Row Tryd.prog (41,a41):=⟨Tryd.f41,Tryd.func41,by kernel_rfl⟩
end Go.Proofs.YtkklchgmpejobaaDoor.awake
