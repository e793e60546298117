/- The functions that Lives32 reaches, as data of the evaluator (part 0), written by program; each is shown to be the compiler's result on the loaded function. -/
import Derived.Test.YtoojnpjgnnpllaaProg
import Derived.Test.YtoojnpjgnnpllaaEv8
import Derived.KernelRfl
namespace Go.Ev.Gl
end Go.Ev.Gl
namespace Go.Proofs.Ytoojnpjgnnpllaa.lives32
open Go.Ev Go.Ev.Gl
set_option maxRecDepth 100000
noncomputable def a42 : AFn :=
⟨31,[(.t 6),(.t 7)],(.seq (.reg [⟨(some 3),(.a (.box 28 (.t 0))),none,0⟩,
oq 6 (.mv (.c .nilsl)),
oq 7 (.mv (ci 0))])
(.seq (.reg [oq 11 (.ld true 3 (.t 3)),
mt 12 1,
oc 13 89 [(.t 11),(.t 12)] 0,
mt 10 13,
oq 14 (.extract (.t 10) 0),
oq 15 (.extract (.t 10) 1),
mt 8 14,
mt 9 15])
(.seq (.seq (.reg [mt 16 9,
oq 17 (bi .neq (.t 16) (ci 0))])
(.cond (.t 17) (.seq (.reg [mt 18 9,
oq 6 (.mv (.c .nilsl)),
mt 7 18])
.ret) .skip))
(.seq (.seq (.reg [mt 19 2,
oq 20 (bi .lss (.t 19) (ci 0)),
mt 21 20,
og 22 21 false 0 (.mv (.t 2)),
og 23 21 false 0 (.mv (.t 8)),
og 24 21 false 0 (bi .geq (.t 22) (.t 23)),
oq 25 (.pick (.t 21) (.c (.bool true)) (.t 24))])
(.cond (.t 25) (.seq (.reg [oq 6 (.mv (.c .nilsl)),
oq 7 (.mv (ci 2))])
.ret) .skip))
(.seq (.reg [oq 26 (.ld true 3 (.t 3)),
mt 27 1,
oq 28 (.mkIface 139 (.t 27)),
mt 29 2,
oc 30 84 [(.t 26),(.t 28),(.t 29)] 0,
mt 6 30,
oq 7 (.mv (ci 0))])
.ret)))))⟩
theorem row42 : Row Try.prog (42, a42) := ⟨Try.f42, Try.func42, by kernel_rfl⟩
noncomputable def a75 : AFn :=
⟨17,[(.cell 0 true 3)],(.seq (.reg [⟨(some 0),(.a (.alloc 28 [(.int .i64 (.ofNat 0)),.nilsl,.nilsl])),none,0⟩])
(.seq (.reg [⟨(some 1),(.a (.bslice 3 1 2 [(.int .i64 (.ofNat 0))] [(0,(ci 1)),(1,(ci 2))])),none,0⟩,
⟨(some 2),(.a (.bslice 3 1 2 [(.int .i64 (.ofNat 0))] [(0,(ci 1)),(1,(ci 2))])),none,0⟩,
oq 3 (.build [(.int .i64 (.ofNat 0)),(.int .i64 (.ofNat 0)),(.int .i64 (.ofNat 0)),.nilsl,.nilsl,.nilsl] [(0,1,(ci 1)),(3,1,(.t 1)),(4,1,(.t 2))]),
oc 4 121 [(ci 1)] 0,
⟨(some 5),(.a (.bslice 3 1 2 [(.int .i64 (.ofNat 0))] [(0,(ci 3)),(1,(ci 4))])),none,0⟩,
oq 6 (.build [(.int .i64 (.ofNat 0)),(.int .i64 (.ofNat 0)),(.int .i64 (.ofNat 0)),.nilsl,.nilsl,.nilsl] [(0,1,(ci 2)),(3,1,(.t 5))]),
oc 7 121 [(ci 5)] 0,
⟨(some 8),(.a (.bslice 3 1 2 [(.int .i64 (.ofNat 0))] [(0,(ci 5)),(1,(ci 6))])),none,0⟩,
⟨(some 9),(.a (.bslice 3 1 2 [(.int .i64 (.ofNat 0))] [(0,(ci 1)),(1,(ci 1))])),none,0⟩,
oq 10 (.build [(.int .i64 (.ofNat 0)),(.int .i64 (.ofNat 0)),(.int .i64 (.ofNat 0)),.nilsl,.nilsl,.nilsl] [(0,1,(ci 1)),(3,1,(.t 8)),(4,1,(.t 9))]),
oc 11 121 [(ci 2)] 0,
oc 12 121 [(ci 4)] 0,
⟨(some 13),(.a (.bslice 64 6 7 [(.int .i64 (.ofNat 0)),(.int .i64 (.ofNat 0)),(.int .i64 (.ofNat 0)),.nilsl,.nilsl,.nilsl] [(0,(.t 3)),(1,(.t 4)),(2,(.t 6)),(3,(.t 7)),(4,(.t 10)),(5,(.t 11)),(6,(.t 12))])),none,0⟩,
oq 14 (.build [(.int .i64 (.ofNat 0)),(.int .i64 (.ofNat 0))] [(1,1,(ci 2))]),
⟨(some 15),(.a (.bslice 48 2 1 [(.int .i64 (.ofNat 0)),(.int .i64 (.ofNat 0))] [(0,(.t 14))])),none,0⟩,
oq 16 (.build [(.int .i64 (.ofNat 0)),.nilsl,.nilsl] [(0,1,(ci 1)),(1,1,(.t 13)),(2,1,(.t 15))]),
⟨none,(.x (.st 3 (.t 0) (.t 16))),none,0⟩])
.ret))⟩
theorem row75 : Row Try.prog (75, a75) := ⟨Try.f75, Try.func75, by kernel_rfl⟩
noncomputable def a76 : AFn :=
⟨4,[(.cell 0 true 2)],(.seq (.reg [⟨(some 0),(.a (.alloc 55 [(.int .i64 (.ofNat 0)),.nilsl])),none,0⟩])
(.seq (.reg [⟨(some 1),(.a (.bslice 3 1 2 [(.int .i64 (.ofNat 0))] [(0,(ci 1)),(1,(ci 1))])),none,0⟩,
⟨(some 2),(.a (.bslice 22 1 1 [.nilsl] [(0,(.t 1))])),none,0⟩,
oq 3 (.build [(.int .i64 (.ofNat 0)),.nilsl] [(0,1,(ci 1)),(1,1,(.t 2))]),
⟨none,(.x (.st 2 (.t 0) (.t 3))),none,0⟩])
.ret))⟩
theorem row76 : Row Try.prog (76, a76) := ⟨Try.f76, Try.func76, by kernel_rfl⟩
noncomputable def a77 : AFn :=
⟨24,[(.t 6)],(.seq (.reg [oq 6 (.mv (.c (.bool false)))])
(.seq (.reg [oc 10 75 [] 0,
mt 11 0,
⟨(some 12),(.a (.bslice 3 1 1 [(.int .i64 (.ofNat 0))] [(0,(.t 11))])),none,0⟩,
mt 13 1,
oc 14 42 [(.t 10),(.t 12),(.t 13)] 0,
mt 9 14,
oq 15 (.extract (.t 9) 0),
oq 16 (.extract (.t 9) 1),
mt 7 15,
mt 8 16])
(.seq (.reg [mt 17 8,
oq 18 (bi .eql (.t 17) (ci 0)),
mt 19 18,
og 20 19 true 0 (.mv (.t 7)),
og 21 19 true 0 (.mv (.t 2)),
⟨(some 22),(.x (.call (.c (.fn 19 [] [])) [(.t 20),(.t 21)])),(some (19,true)),0⟩,
oq 23 (.pick (.t 19) (.t 22) (.c (.bool false))),
mt 6 23])
.ret)))⟩
theorem row77 : Row Try.prog (77, a77) := ⟨Try.f77, Try.func77, by kernel_rfl⟩
noncomputable def a78 : AFn :=
⟨21,[(.t 4)],(.seq (.reg [oq 4 (.mv (.c (.bool false)))])
(.seq (.reg [oc 8 75 [] 0,
oc 9 76 [] 0,
mt 10 0,
oc 11 35 [(.t 8),(.t 9),(.t 10)] 0,
mt 7 11,
oq 12 (.extract (.t 7) 0),
oq 13 (.extract (.t 7) 1),
mt 5 12,
mt 6 13])
(.seq (.reg [mt 14 6,
oq 15 (bi .eql (.t 14) (ci 0)),
mt 16 15,
og 17 16 true 0 (.mv (.t 5)),
og 18 16 true 0 (.mv (.t 1)),
⟨(some 19),(.x (.call (.c (.fn 19 [] [])) [(.t 17),(.t 18)])),(some (16,true)),0⟩,
oq 20 (.pick (.t 16) (.t 19) (.c (.bool false))),
mt 4 20])
.ret)))⟩
theorem row78 : Row Try.prog (78, a78) := ⟨Try.f78, Try.func78, by kernel_rfl⟩
noncomputable def a121 : AFn :=
⟨6,[(.cell 2 true 6)],(.seq (.reg [⟨(some 2),(.a (.alloc 64 [(.int .i64 (.ofNat 0)),(.int .i64 (.ofNat 0)),(.int .i64 (.ofNat 0)),.nilsl,.nilsl,.nilsl])),none,0⟩])
(.seq (.reg [mt 3 0,
⟨(some 4),(.a (.bslice 3 1 1 [(.int .i64 (.ofNat 0))] [(0,(.t 3))])),none,0⟩,
oq 5 (.build [(.int .i64 (.ofNat 0)),(.int .i64 (.ofNat 0)),(.int .i64 (.ofNat 0)),.nilsl,.nilsl,.nilsl] [(0,1,(ci 3)),(5,1,(.t 4))]),
⟨none,(.x (.st 6 (.t 2) (.t 5))),none,0⟩])
.ret))⟩
theorem row121 : Row Try.prog (121, a121) := ⟨Try.f121, Try.func121, by kernel_rfl⟩
end Go.Proofs.Ytoojnpjgnnpllaa.lives32
