import Derived.Test.YtkklchgmpejobaaGreatDoorProg
import Derived.Test.YtkklchgmpejobaaGreatDoorEv8
import Derived.KernelRfl
namespace Go.Ev.Gl
end Go.Ev.Gl
namespace Go.Proofs.YtkklchgmpejobaaGreatDoor.awake
open Go.Ev Go.Ev.Gl
set_option maxRecDepth 100000
noncomputable def a22:cV:=
⟨47,[(.t 4)],(.seq (.reg [⟨(some 2),(.a (.box 28 (.t 0))),none,0⟩,
⟨(some 3),(.a (.box 28 (.t 1))),none,0⟩,
oq 4 (.mv (.c (.bool false)))])
(.seq (.seq (.reg [oq 6 (.faddr 0 (.t 2)),
oq 7 (ld 6),
oq 8 (.faddr 0 (.t 3)),
oq 9 (ld 8),
oq 10 (bi .neq (.t 7) (.t 9)),
mt 11 10,
og 12 11 false 0 (.faddr 1 (.t 2)),
og 13 11 false 0 (ld 12),
og 14 11 false 0 (.lenSl (.t 13)),
og 15 11 false 0 (.faddr 1 (.t 3)),
og 16 11 false 0 (ld 15),
og 17 11 false 0 (.lenSl (.t 16)),
og 18 11 false 0 (bi .neq (.t 14) (.t 17)),
oq 19 (.pick (.t 11) (.c (.bool true)) (.t 18)),
mt 20 19,
og 21 20 false 0 (.faddr 2 (.t 2)),
og 22 20 false 0 (ld 21),
og 23 20 false 0 (.faddr 2 (.t 3)),
og 24 20 false 0 (ld 23),
⟨(some 25),(.x (.call (.c (.fn 41 [] [])) [(.t 22),(.t 24)])),(some (20,false)),0⟩,
og 26 20 false 0 (.un .not (.t 25)),
oq 27 (.pick (.t 20) (.c (.bool true)) (.t 26))])
(.cond (.t 27) (.seq (.reg [oq 4 (.mv (.c (.bool false)))])
.ret) .skip))
(.seq (.seq (.reg [oq 5 (.mv (ci 0))])
(.block 0 (.loop (.seq (.seq (.reg [mt 28 5,
oq 29 (.faddr 1 (.t 2)),
oq 30 (ld 29),
oq 31 (.lenSl (.t 30)),
oq 32 (bi .lss (.t 28) (.t 31))])
(.cond (.t 32) .skip (.exit 0)))
(.seq (.block 1 (.seq (.drw [oq 35 (.faddr 1 (.t 2)),
om 36 1 (ld 35),
mt 37 5,
om 38 7 (.iaddr (.slice 6) (.t 36) (.t 37)),
om 39 15 (.ld true 6 (.t 38)),
oq 40 (.faddr 1 (.t 3)),
om 41 32 (ld 40),
mt 42 5,
om 43 224 (.iaddr (.slice 6) (.t 41) (.t 42)),
om 44 480 (.ld true 6 (.t 43)),
oc 45 24 [(.t 39),(.t 44)] 1023,
om 46 2047 (.un .not (.t 45))])
(.cond (.t 46) (.seq (.reg [oq 4 (.mv (.c (.bool false)))])
.ret) .skip)))
(.reg [mt 33 5,
oq 34 (bi .add (.t 33) (ci 1)),
mt 5 34]))))))
(.seq (.reg [oq 4 (.mv (.c (.bool true)))])
.ret))))⟩
theorem row22:Row Tryz.prog (22,a22):=⟨Tryz.f22,Tryz.func22,by kernel_rfl⟩
noncomputable def a23:cV:=
⟨18,[(.t 2),(.t 3)],(.seq (.reg [⟨(some 1),(.a (.box 28 (.t 0))),none,0⟩,
oq 2 (.mv (.c .nilsl)),
oq 3 (.mv (ci 0))])
(.seq (.seq (.reg [oq 7 (.ld true 3 (.t 1)),
oc 8 31 [(.t 7)] 0,
mt 4 8])
(.seq (.reg [mt 9 4,
oq 10 (bi .neq (.t 9) (ci 0))])
(.cond (.t 10) (.seq (.reg [mt 11 4,
oq 2 (.mv (.c .nilsl)),
mt 3 11])
.ret) .skip)))
(.seq (.reg [oq 13 (.ld true 3 (.t 1)),
oc 14 42 [(.t 13)] 0,
mt 12 14,
oq 15 (.extract (.t 12) 0),
oq 16 (.extract (.t 12) 1),
mt 5 15,
mt 6 16])
(.seq (.reg [mt 17 5,
mt 2 17,
oq 3 (.mv (ci 0))])
.ret))))⟩
theorem row23:Row Tryz.prog (23,a23):=⟨Tryz.f23,Tryz.func23,by kernel_rfl⟩
noncomputable def a24:cV:=
⟨45,[(.t 4)],(.seq (.reg [⟨(some 2),(.a (.box 54 (.t 0))),none,0⟩,
⟨(some 3),(.a (.box 54 (.t 1))),none,0⟩,
oq 4 (.mv (.c (.bool false)))])
(.seq (.reg [oq 5 (.faddr 0 (.t 2)),
oq 6 (ld 5),
oq 7 (.faddr 0 (.t 3)),
oq 8 (ld 7),
oq 9 (bi .eql (.t 6) (.t 8)),
mt 10 9,
og 11 10 true 0 (.faddr 1 (.t 2)),
og 12 10 true 0 (ld 11),
og 13 10 true 0 (.faddr 1 (.t 3)),
og 14 10 true 0 (ld 13),
og 15 10 true 0 (bi .eql (.t 12) (.t 14)),
oq 16 (.pick (.t 10) (.t 15) (.c (.bool false))),
mt 17 16,
og 18 17 true 0 (.faddr 2 (.t 2)),
og 19 17 true 0 (ld 18),
og 20 17 true 0 (.faddr 2 (.t 3)),
og 21 17 true 0 (ld 20),
og 22 17 true 0 (bi .eql (.t 19) (.t 21)),
oq 23 (.pick (.t 17) (.t 22) (.c (.bool false))),
mt 24 23,
og 25 24 true 0 (.faddr 3 (.t 2)),
og 26 24 true 0 (ld 25),
og 27 24 true 0 (.faddr 3 (.t 3)),
og 28 24 true 0 (ld 27),
⟨(some 29),(.x (.call (.c (.fn 14 [] [])) [(.t 26),(.t 28)])),(some (24,true)),0⟩,
oq 30 (.pick (.t 24) (.t 29) (.c (.bool false))),
mt 31 30,
og 32 31 true 0 (.faddr 4 (.t 2)),
og 33 31 true 0 (ld 32),
og 34 31 true 0 (.faddr 4 (.t 3)),
og 35 31 true 0 (ld 34),
⟨(some 36),(.x (.call (.c (.fn 14 [] [])) [(.t 33),(.t 35)])),(some (31,true)),0⟩,
oq 37 (.pick (.t 31) (.t 36) (.c (.bool false))),
mt 38 37,
og 39 38 true 0 (.faddr 5 (.t 2)),
og 40 38 true 0 (ld 39),
og 41 38 true 0 (.faddr 5 (.t 3)),
og 42 38 true 0 (ld 41),
⟨(some 43),(.x (.call (.c (.fn 14 [] [])) [(.t 40),(.t 42)])),(some (38,true)),0⟩,
oq 44 (.pick (.t 38) (.t 43) (.c (.bool false))),
mt 4 44])
.ret))⟩
theorem row24:Row Tryz.prog (24,a24):=⟨Tryz.f24,Tryz.func24,by kernel_rfl⟩
noncomputable def a26:cV:=
⟨19,[(.cell 0 true 3)],(.seq (.reg [⟨(some 0),(.a (.alloc 28 [(.int .i64 (.ofNat 0)),.nilsl,.nilsl])),none,0⟩])
(.seq (.reg [⟨(some 2),(.a (.bslice 3 1 2 [(.int .i64 (.ofNat 0))] [(0,(ci 1)),(1,(ci 1))])),none,0⟩,
mt 1 2])
(.seq (.reg [⟨(some 3),(.a (.bslice 3 1 3 [(.int .i64 (.ofNat 0))] [(0,(ci 1)),(1,(ci 2)),(2,(ci 1))])),none,0⟩,
⟨(some 4),(.a (.bslice 3 1 3 [(.int .i64 (.ofNat 0))] [(0,(ci 1)),(1,(ci 2)),(2,(ci 5))])),none,0⟩,
oc 5 43 [(.t 3),(.t 4)] 0,
oc 6 44 [(ci 5)] 0,
mt 7 1,
⟨(some 8),(.a (.bslice 3 1 2 [(.int .i64 (.ofNat 0))] [(0,(ci 3)),(1,(ci 4))])),none,0⟩,
oc 9 43 [(.t 7),(.t 8)] 0,
oc 10 44 [(ci 5)] 0,
oc 11 44 [(ci 7)] 0,
mt 12 1,
⟨(some 13),(.a (.bslice 3 1 2 [(.int .i64 (.ofNat 0))] [(0,(ci 6)),(1,(ci 7))])),none,0⟩,
oc 14 43 [(.t 12),(.t 13)] 0,
oc 15 44 [(ci 5)] 0,
oc 16 44 [(ci 7)] 0,
⟨(some 17),(.a (.bslice 54 6 8 [(.int .i64 (.ofNat 0)),(.int .i64 (.ofNat 0)),(.int .i64 (.ofNat 0)),.nilsl,.nilsl,.nilsl] [(0,(.t 5)),(1,(.t 6)),(2,(.t 9)),(3,(.t 10)),(4,(.t 11)),(5,(.t 14)),(6,(.t 15)),(7,(.t 16))])),none,0⟩,
oq 18 (.build [(.int .i64 (.ofNat 0)),.nilsl,.nilsl] [(0,1,(ci 1)),(1,1,(.t 17))]),
⟨none,(.x (.st 3 (.t 0) (.t 18))),none,0⟩])
.ret)))⟩
theorem row26:Row Tryz.prog (26,a26):=⟨Tryz.f26,Tryz.func26,by kernel_rfl⟩
noncomputable def a27:cV:=
⟨8,[(.t 4)],(.seq (.reg [⟨(some 2),(.a (.box 30 (.t 0))),none,0⟩,
⟨(some 3),(.a (.box 30 (.t 1))),none,0⟩,
oq 4 (.mv (.c (.bool false)))])
(.seq (.reg [oq 5 (.ld true 3 (.t 2)),
oq 6 (.ld true 3 (.t 3)),
oc 7 22 [(.t 5),(.t 6)] 0,
mt 4 7])
.ret))⟩
theorem row27:Row Tryz.prog (27,a27):=⟨Tryz.f27,Tryz.func27,by kernel_rfl⟩
noncomputable def a28:cV:=
⟨11,[(.cell 0 true 3)],(.seq (.reg [⟨(some 0),(.a (.alloc 30 [(.int .i64 (.ofNat 0)),.nilsl,.nilsl])),none,0⟩])
(.seq (.reg [⟨(some 1),(.a (.bslice 3 1 3 [(.int .i64 (.ofNat 0))] [(0,(ci 1)),(1,(ci 2)),(2,(ci 1))])),none,0⟩,
⟨(some 2),(.a (.bslice 3 1 3 [(.int .i64 (.ofNat 0))] [(0,(ci 2)),(1,(ci 1)),(2,(ci 1))])),none,0⟩,
oc 3 43 [(.t 1),(.t 2)] 0,
⟨(some 4),(.a (.bslice 3 1 2 [(.int .i64 (.ofNat 0))] [(0,(ci 1)),(1,(ci 1))])),none,0⟩,
⟨(some 5),(.a (.bslice 3 1 2 [(.int .i64 (.ofNat 0))] [(0,(ci 2)),(1,(ci 3))])),none,0⟩,
oc 6 43 [(.t 4),(.t 5)] 0,
oc 7 44 [(ci 5)] 0,
oc 8 44 [(ci 7)] 0,
⟨(some 9),(.a (.bslice 54 6 4 [(.int .i64 (.ofNat 0)),(.int .i64 (.ofNat 0)),(.int .i64 (.ofNat 0)),.nilsl,.nilsl,.nilsl] [(0,(.t 3)),(1,(.t 6)),(2,(.t 7)),(3,(.t 8))])),none,0⟩,
oq 10 (.build [(.int .i64 (.ofNat 0)),.nilsl,.nilsl] [(0,1,(ci 1)),(1,1,(.t 9))]),
⟨none,(.x (.st 3 (.t 0) (.t 10))),none,0⟩])
.ret))⟩
theorem row28:Row Tryz.prog (28,a28):=⟨Tryz.f28,Tryz.func28,by kernel_rfl⟩
noncomputable def a41:cV:=
⟨26,[(.t 4)],(.seq (.reg [oq 4 (.mv (.c (.bool false)))])
(.seq (.seq (.reg [mt 6 0,
oq 7 (.lenSl (.t 6)),
mt 8 1,
oq 9 (.lenSl (.t 8)),
oq 10 (bi .neq (.t 7) (.t 9))])
(.cond (.t 10) (.seq (.reg [oq 4 (.mv (.c (.bool false)))])
.ret) .skip))
(.seq (.seq (.reg [oq 5 (.mv (ci 0))])
(.block 0 (.loop (.seq (.seq (.reg [mt 11 5,
mt 12 0,
oq 13 (.lenSl (.t 12)),
oq 14 (bi .lss (.t 11) (.t 13))])
(.cond (.t 14) .skip (.exit 0)))
(.seq (.block 1 (.seq (.drw [mt 17 0,
mt 18 5,
om 19 3 (.iaddr (.slice 2) (.t 17) (.t 18)),
om 20 7 (.ld true 2 (.t 19)),
mt 21 1,
mt 22 5,
om 23 48 (.iaddr (.slice 2) (.t 21) (.t 22)),
om 24 112 (.ld true 2 (.t 23)),
om 25 255 (.bin .neq (.struct [(0,.int),(1,.int)]) (.t 20) (.t 24))])
(.cond (.t 25) (.seq (.reg [oq 4 (.mv (.c (.bool false)))])
.ret) .skip)))
(.reg [mt 15 5,
oq 16 (bi .add (.t 15) (ci 1)),
mt 5 16]))))))
(.seq (.reg [oq 4 (.mv (.c (.bool true)))])
.ret))))⟩
theorem row41:Row Tryz.prog (41,a41):=⟨Tryz.f41,Tryz.func41,by kernel_rfl⟩
noncomputable def a43:cV:=
⟨8,[(.cell 4 true 6)],(.seq (.reg [⟨(some 4),(.a (.alloc 54 [(.int .i64 (.ofNat 0)),(.int .i64 (.ofNat 0)),(.int .i64 (.ofNat 0)),.nilsl,.nilsl,.nilsl])),none,0⟩])
(.seq (.reg [mt 5 0,
mt 6 1,
oq 7 (.build [(.int .i64 (.ofNat 0)),(.int .i64 (.ofNat 0)),(.int .i64 (.ofNat 0)),.nilsl,.nilsl,.nilsl] [(0,1,(ci 1)),(4,1,(.t 5)),(3,1,(.t 6))]),
⟨none,(.x (.st 6 (.t 4) (.t 7))),none,0⟩])
.ret))⟩
theorem row43:Row Tryz.prog (43,a43):=⟨Tryz.f43,Tryz.func43,by kernel_rfl⟩
noncomputable def a44:cV:=
⟨6,[(.cell 2 true 6)],(.seq (.reg [⟨(some 2),(.a (.alloc 54 [(.int .i64 (.ofNat 0)),(.int .i64 (.ofNat 0)),(.int .i64 (.ofNat 0)),.nilsl,.nilsl,.nilsl])),none,0⟩])
(.seq (.reg [mt 3 0,
⟨(some 4),(.a (.bslice 3 1 1 [(.int .i64 (.ofNat 0))] [(0,(.t 3))])),none,0⟩,
oq 5 (.build [(.int .i64 (.ofNat 0)),(.int .i64 (.ofNat 0)),(.int .i64 (.ofNat 0)),.nilsl,.nilsl,.nilsl] [(0,1,(ci 3)),(5,1,(.t 4))]),
⟨none,(.x (.st 6 (.t 2) (.t 5))),none,0⟩])
.ret))⟩
theorem row44:Row Tryz.prog (44,a44):=⟨Tryz.f44,Tryz.func44,by kernel_rfl⟩
end Go.Proofs.YtkklchgmpejobaaGreatDoor.awake
