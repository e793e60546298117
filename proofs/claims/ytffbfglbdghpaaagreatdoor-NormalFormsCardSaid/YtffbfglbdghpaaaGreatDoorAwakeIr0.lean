/- The functions that Awake reaches, as data of the evaluator (part 0), written by program; each is shown to be the compiler's result on the loaded function. -/
import Derived.Test.YtffbfglbdghpaaaGreatDoorProg
import Derived.Test.YtffbfglbdghpaaaGreatDoorEv8
import Derived.KernelRfl
namespace Go.Ev.Gl
end Go.Ev.Gl
namespace Go.Proofs.YtffbfglbdghpaaaGreatDoor.awake
open Go.Ev Go.Ev.Gl
set_option maxRecDepth 100000
noncomputable def a12 : AFn :=
⟨73,[(.t 4),(.t 5)],(.seq (.reg [⟨(some 2),(.a (.box 41 (.t 0))),none,0⟩,
oq 4 (.mv (.c .nilsl)),
oq 5 (.mv (ci 0))])
(.seq (.reg [oq 17 (.ld true 3 (.t 2)),
oc 18 27 [(.t 17)] 0,
mt 16 18,
oq 19 (.extract (.t 16) 0),
oq 20 (.extract (.t 16) 1),
mt 6 19,
mt 7 20])
(.seq (.seq (.reg [mt 21 7,
oq 22 (bi .neq (.t 21) (ci 0))])
(.cond (.t 22) (.seq (.reg [mt 23 7,
oq 4 (.mv (.c .nilsl)),
mt 5 23])
.ret) .skip))
(.seq (.seq (.reg [mt 24 1,
oq 25 (.lenSl (.t 24)),
mt 26 6,
oq 27 (.lenSl (.t 26)),
oq 28 (bi .neq (.t 25) (.t 27))])
(.cond (.t 28) (.seq (.reg [oq 4 (.mv (.c .nilsl)),
oq 5 (.mv (ci 10))])
.ret) .skip))
(.seq (.seq (.reg [mt 29 1,
oq 30 (.lenSl (.t 29)),
oq 31 (.mv (ci 0))])
(.block 0 (.loop (.seq (.reg [oq 32 (bi .lss (.t 31) (.t 30))])
(.seq (.cond (.t 32) .skip (.exit 0))
(.seq (.block 1 (.seq (.reg [mt 33 31,
oq 34 (.iaddr (.slice 1) (.t 29) (.t 31)),
oq 35 (ld 34),
mt 8 33,
mt 9 35])
(.seq (.reg [mt 36 9,
oq 37 (bi .lss (.t 36) (ci 0)),
mt 38 37,
og 39 38 false 0 (.mv (.t 9)),
og 40 38 false 0 (.mv (.t 6)),
og 41 38 false 0 (.mv (.t 8)),
og 42 38 false 0 (.iaddr (.slice 1) (.t 40) (.t 41)),
og 43 38 false 0 (ld 42),
og 44 38 false 0 (bi .geq (.t 39) (.t 43)),
oq 45 (.pick (.t 38) (.c (.bool true)) (.t 44))])
(.cond (.t 45) (.seq (.reg [oq 4 (.mv (.c .nilsl)),
oq 5 (.mv (ci 2))])
.ret) .skip))))
(.reg [oq 46 (bi .add (.t 31) (ci 1)),
mt 31 46])))))))
(.seq (.reg [oq 47 (.ld true 3 (.t 2)),
oc 48 28 [(.t 47)] 0,
mt 10 48])
(.seq (.reg [mt 49 10,
mt 50 1,
oc 51 29 [(.t 49),(.t 50)] 0])
(.seq (.reg [oq 11 (.mv (.c .nilsl))])
(.seq (.seq (.reg [mt 52 10,
oc 53 30 [(.t 52)] 0,
oq 54 (.lenSl (.t 53)),
oq 55 (.mv (ci 0))])
(.block 2 (.loop (.seq (.reg [oq 56 (bi .lss (.t 55) (.t 54))])
(.seq (.cond (.t 56) .skip (.exit 2))
(.seq (.block 3 (.seq (.reg [oq 57 (.iaddr (.slice 3) (.t 53) (.t 55)),
oq 58 (.ld true 3 (.t 57)),
⟨(some 13),(.a (.alloc 64 [(.bool false),.nilsl,.nilsl])),none,0⟩,
⟨none,(.x (.st 3 (.t 13) (.t 58))),none,0⟩])
(.seq (.reg [oq 60 (.ld true 3 (.t 13)),
oc 61 31 [(.t 60)] 0,
mt 59 61,
oq 62 (.extract (.t 59) 0),
oq 63 (.extract (.t 59) 1),
⟨(some 14),(.a (.alloc 48 [(.bool false),.nilsl,.nilsl])),none,0⟩,
⟨none,(.x (.st 3 (.t 14) (.t 62))),none,0⟩,
mt 15 63])
(.seq (.seq (.reg [mt 64 15,
oq 65 (bi .neq (.t 64) (ci 0))])
(.cond (.t 65) (.seq (.reg [mt 66 15,
oq 4 (.mv (.c .nilsl)),
mt 5 66])
.ret) .skip))
(.reg [mt 67 11,
oq 68 (.ld true 3 (.t 14)),
⟨(some 69),(.a (.bslice 48 3 1 [(.bool false),.nilsl,.nilsl] [(0,(.t 68))])),none,0⟩,
⟨(some 70),(.x (.app 48 3 56 (.t 67) (.t 69))),none,0⟩,
mt 11 70])))))
(.reg [oq 71 (bi .add (.t 55) (ci 1)),
mt 55 71])))))))
(.seq (.reg [mt 72 11,
mt 4 72,
oq 5 (.mv (ci 0))])
.ret))))))))))⟩
theorem row12 : Row Tryz.prog (12, a12) := ⟨Tryz.f12, Tryz.func12, by kernel_rfl⟩
noncomputable def a13 : AFn :=
⟨29,[(.cell 0 true 3)],(.seq (.reg [⟨(some 0),(.a (.alloc 41 [(.int .i64 (.ofNat 0)),.nilsl,.nilsl])),none,0⟩])
(.seq (.reg [oq 1 (.build [(.int .i64 (.ofNat 0)),(.int .i64 (.ofNat 0))] [(0,1,(ci 0)),(1,1,(ci 2))]),
oq 2 (.build [(.int .i64 (.ofNat 0)),(.int .i64 (.ofNat 0))] [(0,1,(ci 1)),(1,1,(ci 2))]),
⟨(some 3),(.a (.bslice 68 2 2 [(.int .i64 (.ofNat 0)),(.int .i64 (.ofNat 0))] [(0,(.t 1)),(1,(.t 2))])),none,0⟩,
⟨(some 4),(.a (.bslice 3 1 2 [(.int .i64 (.ofNat 0))] [(0,(ci 1)),(1,(ci 6))])),none,0⟩,
⟨(some 5),(.a (.bslice 3 1 2 [(.int .i64 (.ofNat 0))] [(0,(ci 1)),(1,(ci 1))])),none,0⟩,
oq 6 (.build [(.int .i64 (.ofNat 0)),(.int .i64 (.ofNat 0)),(.int .i64 (.ofNat 0)),.nilsl,.nilsl,.nilsl] [(0,1,(ci 1)),(3,1,(.t 4)),(4,1,(.t 5))]),
⟨(some 7),(.a (.bslice 3 1 2 [(.int .i64 (.ofNat 0))] [(0,(ci 2)),(1,(ci 5))])),none,0⟩,
oc 8 32 [(ci 0),(ci 0),(.t 7)] 0,
⟨(some 9),(.a (.bslice 3 1 2 [(.int .i64 (.ofNat 0))] [(0,(ci 3)),(1,(ci 4))])),none,0⟩,
oc 10 32 [(ci 1),(ci 1),(.t 9)] 0,
⟨(some 11),(.a (.bslice 3 1 2 [(.int .i64 (.ofNat 0))] [(0,(ci 2)),(1,(.c (.int .i64 (.negSucc 1))))])),none,0⟩,
oc 12 33 [(.t 11)] 0,
⟨(some 13),(.a (.bslice 3 1 2 [(.int .i64 (.ofNat 0))] [(0,(.c (.int .i64 (.negSucc 0)))),(1,(ci 1))])),none,0⟩,
oc 14 33 [(.t 13)] 0,
⟨(some 15),(.a (.bslice 3 1 2 [(.int .i64 (.ofNat 0))] [(0,(ci 0)),(1,(ci 0))])),none,0⟩,
oc 16 33 [(.t 15)] 0,
⟨(some 17),(.a (.bslice 3 1 2 [(.int .i64 (.ofNat 0))] [(0,(ci 7)),(1,(ci 8))])),none,0⟩,
oc 18 32 [(ci 0),(ci 0),(.t 17)] 0,
⟨(some 19),(.a (.bslice 3 1 2 [(.int .i64 (.ofNat 0))] [(0,(ci 4)),(1,(.c (.int .i64 (.negSucc 3))))])),none,0⟩,
oc 20 33 [(.t 19)] 0,
⟨(some 21),(.a (.bslice 3 1 2 [(.int .i64 (.ofNat 0))] [(0,(ci 9)),(1,(ci 10))])),none,0⟩,
oc 22 32 [(ci 1),(ci 1),(.t 21)] 0,
⟨(some 23),(.a (.bslice 3 1 2 [(.int .i64 (.ofNat 0))] [(0,(ci 6)),(1,(.c (.int .i64 (.negSucc 5))))])),none,0⟩,
oc 24 33 [(.t 23)] 0,
⟨(some 25),(.a (.bslice 3 1 2 [(.int .i64 (.ofNat 0))] [(0,(ci 1)),(1,(.c (.int .i64 (.negSucc 0))))])),none,0⟩,
oc 26 33 [(.t 25)] 0,
⟨(some 27),(.a (.bslice 70 6 11 [(.int .i64 (.ofNat 0)),(.int .i64 (.ofNat 0)),(.int .i64 (.ofNat 0)),.nilsl,.nilsl,.nilsl] [(0,(.t 6)),(1,(.t 8)),(2,(.t 10)),(3,(.t 12)),(4,(.t 14)),(5,(.t 16)),(6,(.t 18)),(7,(.t 20)),(8,(.t 22)),(9,(.t 24)),(10,(.t 26))])),none,0⟩,
oq 28 (.build [(.int .i64 (.ofNat 0)),.nilsl,.nilsl] [(0,1,(ci 2)),(2,1,(.t 3)),(1,1,(.t 27))]),
⟨none,(.x (.st 3 (.t 0) (.t 28))),none,0⟩])
.ret))⟩
theorem row13 : Row Tryz.prog (13, a13) := ⟨Tryz.f13, Tryz.func13, by kernel_rfl⟩
noncomputable def a14 : AFn :=
⟨76,[(.t 4),(.t 5)],(.seq (.reg [⟨(some 2),(.a (.box 41 (.t 0))),none,0⟩,
⟨(some 3),(.a (.box 3 (.t 1))),none,0⟩,
oq 4 (.mv (.c .nilsl)),
oq 5 (.mv (ci 0))])
(.seq (.reg [oq 21 (.ld true 3 (.t 2)),
oq 22 (ld 3),
oc 23 34 [(.t 21),(.t 22)] 0,
mt 20 23,
oq 24 (.extract (.t 20) 0),
oq 25 (.extract (.t 20) 1),
oq 26 (.extract (.t 20) 2),
oq 27 (.extract (.t 20) 3),
⟨(some 6),(.a (.alloc 22 [.nilsl])),none,0⟩,
⟨none,(.x (.st 1 (.t 6) (.t 24))),none,0⟩,
mt 7 25,
mt 8 26,
mt 9 27])
(.seq (.seq (.reg [mt 28 9,
oq 29 (bi .neq (.t 28) (ci 0))])
(.cond (.t 29) (.seq (.reg [mt 30 9,
oq 4 (.mv (.c .nilsl)),
mt 5 30])
.ret) .skip))
(.seq (.reg [⟨(some 10),(.a (.alloc 22 [.nilsl])),none,0⟩])
(.seq (.reg [⟨(some 31),(.a (.mkMap)),none,0⟩,
⟨(some 11),(.a (.alloc 75 [.nilmap])),none,0⟩,
⟨none,(.x (.st 1 (.t 11) (.t 31))),none,0⟩])
(.seq (.reg [oq 32 (.faddr 2 (.t 2)),
oq 33 (ld 32),
oq 34 (.lenSl (.t 33)),
⟨(some 35),(.a (.mkSlice 3 1 8 [(.int .i64 (.ofNat 0))] (.t 34) (.t 34))),none,0⟩,
⟨(some 12),(.a (.alloc 22 [.nilsl])),none,0⟩,
⟨none,(.x (.st 1 (.t 12) (.t 35))),none,0⟩])
(.seq (.seq (.reg [mt 36 7,
oc 37 35 [(.t 36)] 0])
(.block 0 (.rng (.t 37) [38,39] (.seq (.reg [mt 13 38])
(.reg [mt 14 39])) (.block 1 (.seq (.seq (.reg [mt 40 14,
oq 41 (.lenSl (.t 40)),
oq 42 (.mv (ci 0))])
(.block 2 (.loop (.seq (.reg [oq 43 (bi .lss (.t 42) (.t 41))])
(.seq (.cond (.t 43) .skip (.exit 2))
(.seq (.block 3 (.seq (.reg [mt 44 42,
oq 45 (.iaddr (.slice 1) (.t 40) (.t 42)),
oq 46 (ld 45),
mt 15 44,
mt 16 46])
(.drw [oq 47 (ld 12),
oq 48 (ld 6),
mt 49 15,
om 50 6 (.iaddr (.slice 1) (.t 48) (.t 49)),
om 51 14 (ld 50),
mt 52 16,
om 53 63 (.iaddr (.slice 1) (.t 47) (.t 51)),
⟨none,(.x (.st 1 (.t 53) (.t 52))),none,127⟩])))
(.reg [oq 54 (bi .add (.t 42) (ci 1)),
mt 42 54])))))))
(.seq (.reg [oq 55 (.ld true 3 (.t 2)),
oq 56 (ld 3),
oq 57 (ld 12),
oc 58 36 [(.t 55),(.t 56),(.t 57)] 0,
mt 17 58])
(.seq (.reg [oq 60 (ld 11),
mt 61 17,
oq 62 (.lookup (.p .str) (.int .i64 (.ofNat 0)) true (.t 60) (.t 61)),
mt 59 62,
oq 63 (.extract (.t 59) 0),
oq 64 (.extract (.t 59) 1),
mt 18 63,
mt 19 64])
(.seq (.seq (.reg [mt 65 19,
oq 66 (.un .not (.t 65))])
(.cond (.t 66) (.seq (.reg [mt 67 13,
mt 18 67])
(.reg [oq 68 (ld 11),
mt 69 17,
mt 70 13,
⟨none,(.x (.mapUpd (.p .str) (.t 68) (.t 69) (.t 70))),none,0⟩])) .skip))
(.reg [oq 71 (ld 10),
mt 72 18,
⟨(some 73),(.a (.bslice 3 1 1 [(.int .i64 (.ofNat 0))] [(0,(.t 72))])),none,0⟩,
⟨(some 74),(.x (.app 3 1 8 (.t 71) (.t 73))),none,0⟩,
⟨none,(.x (.st 1 (.t 10) (.t 74))),none,0⟩])))))))))
(.seq (.reg [oq 75 (ld 10),
mt 4 75,
oq 5 (.mv (ci 0))])
.ret))))))))⟩
theorem row14 : Row Tryz.prog (14, a14) := ⟨Tryz.f14, Tryz.func14, by kernel_rfl⟩
noncomputable def a15 : AFn :=
⟨16,[(.cell 0 true 3)],(.seq (.reg [⟨(some 0),(.a (.alloc 41 [(.int .i64 (.ofNat 0)),.nilsl,.nilsl])),none,0⟩])
(.seq (.reg [oq 1 (.build [(.int .i64 (.ofNat 0)),(.int .i64 (.ofNat 0))] [(1,1,(ci 2))]),
oq 2 (.build [(.int .i64 (.ofNat 0)),(.int .i64 (.ofNat 0))] [(1,1,(ci 2))]),
⟨(some 3),(.a (.bslice 68 2 2 [(.int .i64 (.ofNat 0)),(.int .i64 (.ofNat 0))] [(0,(.t 1)),(1,(.t 2))])),none,0⟩,
⟨(some 4),(.a (.bslice 3 1 2 [(.int .i64 (.ofNat 0))] [(0,(ci 1)),(1,(ci 2))])),none,0⟩,
oc 5 32 [(ci 0),(ci 0),(.t 4)] 0,
⟨(some 6),(.a (.bslice 3 1 1 [(.int .i64 (.ofNat 0))] [(0,(ci 1))])),none,0⟩,
oc 7 33 [(.t 6)] 0,
⟨(some 8),(.a (.bslice 3 1 2 [(.int .i64 (.ofNat 0))] [(0,(ci 3)),(1,(ci 4))])),none,0⟩,
oc 9 32 [(ci 0),(ci 1),(.t 8)] 0,
⟨(some 10),(.a (.bslice 3 1 1 [(.int .i64 (.ofNat 0))] [(0,(ci 2))])),none,0⟩,
oc 11 33 [(.t 10)] 0,
⟨(some 12),(.a (.bslice 3 1 1 [(.int .i64 (.ofNat 0))] [(0,(ci 3))])),none,0⟩,
oc 13 33 [(.t 12)] 0,
⟨(some 14),(.a (.bslice 70 6 5 [(.int .i64 (.ofNat 0)),(.int .i64 (.ofNat 0)),(.int .i64 (.ofNat 0)),.nilsl,.nilsl,.nilsl] [(0,(.t 5)),(1,(.t 7)),(2,(.t 9)),(3,(.t 11)),(4,(.t 13))])),none,0⟩,
oq 15 (.build [(.int .i64 (.ofNat 0)),.nilsl,.nilsl] [(0,1,(ci 1)),(2,1,(.t 3)),(1,1,(.t 14))]),
⟨none,(.x (.st 3 (.t 0) (.t 15))),none,0⟩])
.ret))⟩
theorem row15 : Row Tryz.prog (15, a15) := ⟨Tryz.f15, Tryz.func15, by kernel_rfl⟩
noncomputable def a16 : AFn :=
⟨27,[(.t 4)],(.seq (.reg [oq 4 (.mv (.c (.bool false)))])
(.seq (.seq (.reg [mt 6 0,
oq 7 (.lenSl (.t 6)),
mt 8 1,
oq 9 (.lenSl (.t 8)),
oq 10 (bi .neq (.t 7) (.t 9))])
(.cond (.t 10) (.seq (.reg [oq 4 (.mv (.c (.bool false)))])
.ret) .skip))
(.seq (.seq (.reg [oq 5 (.mv (ci 0))])
(.block 0 (.loop (.seq (.seq (.reg [mt 11 5,
mt 12 0,
oq 13 (.lenSl (.t 12)),
oq 14 (bi .lss (.t 11) (.t 13))])
(.cond (.t 14) .skip (.exit 0)))
(.seq (.block 1 (.seq (.drw [mt 17 0,
mt 18 5,
om 19 3 (.iaddr (.slice 3) (.t 17) (.t 18)),
om 20 7 (.ld true 3 (.t 19)),
mt 21 1,
mt 22 5,
om 23 48 (.iaddr (.slice 3) (.t 21) (.t 22)),
om 24 112 (.ld true 3 (.t 23)),
oc 25 37 [(.t 20),(.t 24)] 255,
om 26 511 (.un .not (.t 25))])
(.cond (.t 26) (.seq (.reg [oq 4 (.mv (.c (.bool false)))])
.ret) .skip)))
(.reg [mt 15 5,
oq 16 (bi .add (.t 15) (ci 1)),
mt 5 16]))))))
(.seq (.reg [oq 4 (.mv (.c (.bool true)))])
.ret))))⟩
theorem row16 : Row Tryz.prog (16, a16) := ⟨Tryz.f16, Tryz.func16, by kernel_rfl⟩
noncomputable def a17 : AFn :=
⟨8,[(.cell 4 true 3)],(.seq (.reg [⟨(some 4),(.a (.alloc 48 [(.bool false),.nilsl,.nilsl])),none,0⟩])
(.seq (.reg [mt 5 0,
mt 6 1,
oc 7 38 [(.t 5),(.t 6)] 0,
⟨none,(.x (.st 3 (.t 4) (.t 7))),none,0⟩])
.ret))⟩
theorem row17 : Row Tryz.prog (17, a17) := ⟨Tryz.f17, Tryz.func17, by kernel_rfl⟩
noncomputable def a27 : AFn :=
⟨36,[(.t 2),(.t 3)],(.seq (.reg [⟨(some 1),(.a (.box 41 (.t 0))),none,0⟩,
oq 2 (.mv (.c .nilsl)),
oq 3 (.mv (ci 0))])
(.seq (.seq (.reg [oq 10 (.ld true 3 (.t 1)),
oc 11 44 [(.t 10)] 0,
mt 4 11])
(.seq (.reg [mt 12 4,
oq 13 (bi .neq (.t 12) (ci 0))])
(.cond (.t 13) (.seq (.reg [mt 14 4,
oq 2 (.mv (.c .nilsl)),
mt 3 14])
.ret) .skip)))
(.seq (.reg [oq 5 (.mv (.c .nilsl))])
(.seq (.seq (.reg [oq 15 (.faddr 0 (.t 1)),
oq 16 (ld 15),
oq 17 (.mv (ci 0))])
(.block 0 (.loop (.seq (.reg [oq 18 (bi .lss (.t 17) (.t 16))])
(.seq (.cond (.t 18) .skip (.exit 0))
(.seq (.block 1 (.seq (.reg [mt 19 17,
mt 6 19])
(.seq (.reg [oq 21 (.ld true 3 (.t 1)),
mt 22 6,
oc 23 45 [(.t 21),(.t 22)] 0,
mt 20 23,
oq 24 (.extract (.t 20) 0),
oq 25 (.extract (.t 20) 1),
mt 7 24,
mt 8 25])
(.seq (.reg [mt 26 8,
oc 27 22 [(.t 26)] 0,
mt 9 27])
(.seq (.seq (.reg [mt 28 9,
oq 29 (bi .gtr (.t 28) (ci 1000))])
(.cond (.t 29) (.seq (.reg [oq 2 (.mv (.c .nilsl)),
oq 3 (.mv (ci 5))])
.ret) .skip))
(.reg [mt 30 5,
mt 31 9,
⟨(some 32),(.a (.bslice 3 1 1 [(.int .i64 (.ofNat 0))] [(0,(.t 31))])),none,0⟩,
⟨(some 33),(.x (.app 3 1 8 (.t 30) (.t 32))),none,0⟩,
mt 5 33]))))))
(.reg [oq 34 (bi .add (.t 17) (ci 1)),
mt 17 34])))))))
(.seq (.reg [mt 35 5,
mt 2 35,
oq 3 (.mv (ci 0))])
.ret)))))⟩
theorem row27 : Row Tryz.prog (27, a27) := ⟨Tryz.f27, Tryz.func27, by kernel_rfl⟩
noncomputable def a28 : AFn :=
⟨123,[(.t 2)],(.seq (.reg [⟨(some 1),(.a (.box 41 (.t 0))),none,0⟩,
oq 2 (.mv (.c .nilp))])
(.seq (.drw [oq 13 (.ld true 3 (.t 1)),
oq 14 (.faddr 2 (.t 1)),
om 15 2 (ld 14),
om 16 6 (.lenSl (.t 15)),
⟨(some 17),(.a (.mkSlice 3 1 8 [(.int .i64 (.ofNat 0))] (.t 16) (.t 16))),none,14⟩,
oq 18 (.faddr 2 (.t 1)),
om 19 32 (ld 18),
om 20 96 (.lenSl (.t 19)),
⟨(some 21),(.a (.mkSlice 3 1 8 [(.int .i64 (.ofNat 0))] (.t 20) (.t 20))),none,224⟩,
⟨(some 22),(.a (.mkMap)),none,0⟩,
om 23 1023 (.build [(.int .i64 (.ofNat 0)),.nilsl,.nilsl,.nilsl,.nilsl,.nilsl,.nilmap] [(0,3,(.t 13)),(3,1,(.t 17)),(4,1,(.t 21)),(6,1,(.t 22))]),
⟨(some 24),(.a (.box 92 (.t 23))),none,2047⟩,
om 3 4095 (.mv (.t 24))])
(.seq (.seq (.reg [oq 25 (.faddr 0 (.t 1)),
oq 26 (ld 25),
oq 27 (.mv (ci 0))])
(.block 0 (.loop (.seq (.reg [oq 28 (bi .lss (.t 27) (.t 26))])
(.seq (.cond (.t 28) .skip (.exit 0))
(.seq (.block 1 (.seq (.reg [mt 29 27,
mt 4 29])
(.seq (.reg [oq 31 (.ld true 3 (.t 1)),
mt 32 4,
oc 33 45 [(.t 31),(.t 32)] 0,
mt 30 33,
oq 34 (.extract (.t 30) 0),
oq 35 (.extract (.t 30) 1),
mt 5 34,
mt 6 35])
(.seq (.reg [oq 7 (.mv (ci 1))])
(.seq (.reg [mt 36 5,
oq 37 (.lenSl (.t 36)),
oq 38 (bi .sub (.t 37) (ci 1)),
mt 8 38])
(.block 2 (.loop (.seq (.seq (.reg [mt 39 8,
oq 40 (bi .geq (.t 39) (ci 0))])
(.cond (.t 40) .skip (.exit 2)))
(.seq (.block 3 (.seq (.drw [mt 43 3,
om 44 1 (.nilchk (.t 43)),
om 45 3 (.faddr 4 (.t 44)),
om 46 7 (ld 45),
mt 47 5,
mt 48 8,
om 49 48 (.iaddr (.slice 1) (.t 47) (.t 48)),
om 50 112 (ld 49),
mt 51 7,
om 52 511 (.iaddr (.slice 1) (.t 46) (.t 50)),
⟨none,(.x (.st 1 (.t 52) (.t 51))),none,1023⟩])
(.reg [mt 53 7,
mt 54 6,
mt 55 8,
oq 56 (.iaddr (.slice 1) (.t 54) (.t 55)),
oq 57 (ld 56),
oq 58 (bi .mul (.t 53) (.t 57)),
mt 7 58])))
(.reg [mt 41 8,
oq 42 (bi .sub (.t 41) (ci 1)),
mt 8 42]))))))))))
(.reg [oq 59 (bi .add (.t 27) (ci 1)),
mt 27 59])))))))
(.seq (.reg [mt 60 3,
oq 61 (.faddr 1 (.t 1)),
oq 62 (ld 61),
oq 63 (.lenSl (.t 62)),
⟨(some 64),(.a (.mkSlice 22 1 24 [.nilsl] (.t 63) (.t 63))),none,0⟩,
oq 65 (.nilchk (.t 60)),
oq 66 (.faddr 5 (.t 65)),
⟨none,(.x (.st 1 (.t 66) (.t 64))),none,0⟩])
(.seq (.seq (.reg [oq 67 (.faddr 1 (.t 1)),
oq 68 (ld 67),
oq 69 (.lenSl (.t 68)),
oq 70 (bi .sub (.t 69) (ci 1)),
mt 9 70])
(.block 4 (.loop (.seq (.seq (.reg [mt 71 9,
oq 72 (bi .geq (.t 71) (ci 0))])
(.cond (.t 72) .skip (.exit 4)))
(.seq (.block 5 (.seq (.reg [oq 10 (.mv (.c .nilsl))])
(.seq (.seq (.reg [oq 75 (.faddr 1 (.t 1)),
oq 76 (ld 75),
mt 77 9,
oq 78 (.iaddr (.slice 6) (.t 76) (.t 77)),
oq 79 (.faddr 0 (.t 78)),
oq 80 (ld 79),
oq 81 (bi .eql (.t 80) (ci 2))])
(.cond (.t 81) (.reg [mt 82 10,
oq 83 (.faddr 1 (.t 1)),
oq 84 (ld 83),
mt 85 9,
oq 86 (.iaddr (.slice 6) (.t 84) (.t 85)),
oq 87 (.faddr 2 (.t 86)),
oq 88 (ld 87),
⟨(some 89),(.a (.bslice 3 1 1 [(.int .i64 (.ofNat 0))] [(0,(.t 88))])),none,0⟩,
⟨(some 90),(.x (.app 3 1 8 (.t 82) (.t 89))),none,0⟩,
mt 10 90]) .skip))
(.seq (.seq (.reg [oq 91 (.faddr 1 (.t 1)),
oq 92 (ld 91),
mt 93 9,
oq 94 (.iaddr (.slice 6) (.t 92) (.t 93)),
oq 95 (.faddr 3 (.t 94)),
oq 96 (ld 95),
oq 97 (.lenSl (.t 96)),
oq 98 (.mv (ci 0))])
(.block 6 (.loop (.seq (.reg [oq 99 (bi .lss (.t 98) (.t 97))])
(.seq (.cond (.t 99) .skip (.exit 6))
(.seq (.block 7 (.seq (.reg [oq 100 (.iaddr (.slice 1) (.t 96) (.t 98)),
oq 101 (ld 100),
mt 12 101])
(.reg [mt 102 10,
mt 103 3,
oq 104 (.nilchk (.t 103)),
oq 105 (.faddr 5 (.t 104)),
oq 106 (ld 105),
mt 107 12,
oq 108 (.iaddr (.slice 1) (.t 106) (.t 107)),
oq 109 (ld 108),
⟨(some 110),(.x (.app 3 1 8 (.t 102) (.t 109))),none,0⟩,
mt 10 110])))
(.reg [oq 111 (bi .add (.t 98) (ci 1)),
mt 98 111])))))))
(.seq (.reg [mt 112 10,
oc 113 46 [(.t 112)] 0])
(.drw [mt 114 3,
om 115 1 (.nilchk (.t 114)),
om 116 3 (.faddr 5 (.t 115)),
om 117 7 (ld 116),
mt 118 9,
mt 119 10,
oc 120 47 [(.t 119)] 32,
om 121 127 (.iaddr (.slice 1) (.t 117) (.t 118)),
⟨none,(.x (.st 1 (.t 121) (.t 120))),none,255⟩]))))))
(.reg [mt 73 9,
oq 74 (bi .sub (.t 73) (ci 1)),
mt 9 74]))))))
(.seq (.reg [mt 122 3,
mt 2 122])
.ret))))))⟩
theorem row28 : Row Tryz.prog (28, a28) := ⟨Tryz.f28, Tryz.func28, by kernel_rfl⟩
noncomputable def a29 : AFn :=
⟨47,[],(.seq (.reg [mt 10 1,
oq 11 (.lenSl (.t 10)),
oq 12 (.mv (ci 0))])
(.block 0 (.loop (.seq (.reg [oq 13 (bi .lss (.t 12) (.t 11))])
(.seq (.cond (.t 13) .skip (.exit 0))
(.seq (.block 1 (.seq (.reg [mt 14 12,
oq 15 (.iaddr (.slice 1) (.t 10) (.t 12)),
oq 16 (ld 15),
mt 4 14,
mt 5 16])
(.seq (.reg [mt 18 0,
oq 19 (.nilchk (.t 18)),
oq 20 (.faddr 0 (.t 19)),
oq 21 (.ld true 3 (.t 20)),
mt 22 4,
oc 23 45 [(.t 21),(.t 22)] 0,
mt 17 23,
oq 24 (.extract (.t 17) 0),
oq 25 (.extract (.t 17) 1),
mt 6 24,
mt 7 25])
(.seq (.reg [mt 26 7,
mt 27 5,
oc 28 23 [(.t 26),(.t 27)] 0,
oq 29 (.lenSl (.t 28)),
oq 30 (.mv (ci 0))])
(.block 2 (.loop (.seq (.reg [oq 31 (bi .lss (.t 30) (.t 29))])
(.seq (.cond (.t 31) .skip (.exit 2))
(.seq (.block 3 (.seq (.reg [mt 32 30,
oq 33 (.iaddr (.slice 1) (.t 28) (.t 30)),
oq 34 (ld 33),
mt 8 32,
mt 9 34])
(.drw [mt 35 0,
om 36 1 (.nilchk (.t 35)),
om 37 3 (.faddr 3 (.t 36)),
om 38 7 (ld 37),
mt 39 6,
mt 40 8,
om 41 48 (.iaddr (.slice 1) (.t 39) (.t 40)),
om 42 112 (ld 41),
mt 43 9,
om 44 511 (.iaddr (.slice 1) (.t 38) (.t 42)),
⟨none,(.x (.st 1 (.t 44) (.t 43))),none,1023⟩])))
(.reg [oq 45 (bi .add (.t 30) (ci 1)),
mt 30 45]))))))))))
(.reg [oq 46 (bi .add (.t 12) (ci 1)),
mt 12 46])))))))⟩
theorem row29 : Row Tryz.prog (29, a29) := ⟨Tryz.f29, Tryz.func29, by kernel_rfl⟩
noncomputable def a30 : AFn :=
⟨7,[(.t 2)],(.seq (.reg [⟨(some 1),(.a (.box 58 (.t 0))),none,0⟩,
oq 2 (.mv (.c .nilsl))])
(.seq (.reg [⟨(some 3),(.a (.alloc 94 [.nilfn])),none,0⟩])
(.seq (.reg [oq 4 (.mkFunc 48 [] [(.t 1),(.t 3)]),
⟨none,(.x (.st 1 (.t 3) (.t 4))),none,0⟩])
(.seq (.reg [oq 5 (ld 3),
⟨(some 6),(.x (.call (.t 5) [(ci 0)])),none,0⟩,
mt 2 6])
.ret))))⟩
theorem row30 : Row Tryz.prog (30, a30) := ⟨Tryz.f30, Tryz.func30, by kernel_rfl⟩
noncomputable def a31 : AFn :=
⟨35,[(.cell 2 true 3),(.t 3)],(.seq (.reg [⟨(some 1),(.a (.box 64 (.t 0))),none,0⟩,
⟨(some 2),(.a (.alloc 48 [(.bool false),.nilsl,.nilsl])),none,0⟩,
oq 3 (.mv (ci 0))])
(.seq (.seq (.reg [oq 4 (.faddr 1 (.t 1)),
oq 5 (ld 4),
oq 6 (.lenSl (.t 5)),
oq 7 (bi .gtr (.t 6) (ci 1024)),
mt 8 7,
og 9 8 false 0 (.faddr 2 (.t 1)),
og 10 8 false 0 (ld 9),
og 11 8 false 0 (.lenSl (.t 10)),
og 12 8 false 0 (bi .gtr (.t 11) (ci 1024)),
oq 13 (.pick (.t 8) (.c (.bool true)) (.t 12))])
(.cond (.t 13) (.seq (.reg [oq 14 (.build [(.bool false),.nilsl,.nilsl] []),
⟨none,(.x (.st 3 (.t 2) (.t 14))),none,0⟩,
oq 3 (.mv (ci 5))])
.ret) .skip))
(.seq (.seq (.reg [oq 15 (.faddr 2 (.t 1)),
oq 16 (ld 15),
oq 17 (.lenSl (.t 16)),
oq 18 (bi .eql (.t 17) (ci 0))])
(.cond (.t 18) (.seq (.drw [oq 19 (.faddr 0 (.t 1)),
om 20 1 (ld 19),
oq 21 (.faddr 1 (.t 1)),
om 22 4 (ld 21),
oc 23 54 [(.t 22)] 12,
⟨(some 24),(.a (.bslice 102 1 1 [(.int .u32 (.ofNat 0))] [(0,(.c (.int .u32 (.ofNat 1))))])),none,0⟩,
om 25 63 (.build [(.bool false),.nilsl,.nilsl] [(0,1,(.t 20)),(1,1,(.t 23)),(2,1,(.t 24))]),
⟨none,(.x (.st 3 (.t 2) (.t 25))),none,127⟩,
om 3 255 (.mv (ci 0))])
.ret) .skip))
(.seq (.drw [oq 26 (.faddr 0 (.t 1)),
om 27 1 (ld 26),
oq 28 (.faddr 1 (.t 1)),
om 29 4 (ld 28),
oc 30 54 [(.t 29)] 12,
oq 31 (.faddr 2 (.t 1)),
om 32 32 (ld 31),
oc 33 54 [(.t 32)] 124,
om 34 255 (.build [(.bool false),.nilsl,.nilsl] [(0,1,(.t 27)),(1,1,(.t 30)),(2,1,(.t 33))]),
⟨none,(.x (.st 3 (.t 2) (.t 34))),none,511⟩,
om 3 1023 (.mv (ci 0))])
.ret))))⟩
theorem row31 : Row Tryz.prog (31, a31) := ⟨Tryz.f31, Tryz.func31, by kernel_rfl⟩
noncomputable def a32 : AFn :=
⟨11,[(.cell 6 true 6)],(.seq (.reg [⟨(some 6),(.a (.alloc 70 [(.int .i64 (.ofNat 0)),(.int .i64 (.ofNat 0)),(.int .i64 (.ofNat 0)),.nilsl,.nilsl,.nilsl])),none,0⟩])
(.seq (.reg [mt 7 0,
mt 8 1,
mt 9 2,
oq 10 (.build [(.int .i64 (.ofNat 0)),(.int .i64 (.ofNat 0)),(.int .i64 (.ofNat 0)),.nilsl,.nilsl,.nilsl] [(0,1,(ci 2)),(1,1,(.t 7)),(2,1,(.t 8)),(3,1,(.t 9))]),
⟨none,(.x (.st 6 (.t 6) (.t 10))),none,0⟩])
.ret))⟩
theorem row32 : Row Tryz.prog (32, a32) := ⟨Tryz.f32, Tryz.func32, by kernel_rfl⟩
noncomputable def a33 : AFn :=
⟨5,[(.cell 2 true 6)],(.seq (.reg [⟨(some 2),(.a (.alloc 70 [(.int .i64 (.ofNat 0)),(.int .i64 (.ofNat 0)),(.int .i64 (.ofNat 0)),.nilsl,.nilsl,.nilsl])),none,0⟩])
(.seq (.reg [mt 3 0,
oq 4 (.build [(.int .i64 (.ofNat 0)),(.int .i64 (.ofNat 0)),(.int .i64 (.ofNat 0)),.nilsl,.nilsl,.nilsl] [(0,1,(ci 3)),(5,1,(.t 3))]),
⟨none,(.x (.st 6 (.t 2) (.t 4))),none,0⟩])
.ret))⟩
theorem row33 : Row Tryz.prog (33, a33) := ⟨Tryz.f33, Tryz.func33, by kernel_rfl⟩
noncomputable def a34 : AFn :=
⟨34,[(.t 4),(.t 5),(.t 6),(.t 7)],(.seq (.reg [⟨(some 2),(.a (.box 41 (.t 0))),none,0⟩,
oq 4 (.mv (.c .nilsl)),
oq 5 (.mv (.c .nilsl)),
oq 6 (.mv (ci 0)),
oq 7 (.mv (ci 0))])
(.seq (.seq (.reg [oq 8 (.ld true 3 (.t 2)),
oc 9 44 [(.t 8)] 0,
mt 7 9])
(.seq (.reg [mt 10 7,
oq 11 (bi .neq (.t 10) (ci 0))])
(.cond (.t 11) (.seq (.reg [mt 12 7,
oq 4 (.mv (.c .nilsl)),
oq 5 (.mv (.c .nilsl)),
oq 6 (.mv (ci 0)),
mt 7 12])
.ret) .skip)))
(.seq (.seq (.reg [mt 13 1,
oq 14 (bi .lss (.t 13) (ci 0)),
mt 15 14,
og 16 15 false 0 (.mv (.t 1)),
og 17 15 false 0 (.faddr 0 (.t 2)),
og 18 15 false 0 (ld 17),
og 19 15 false 0 (bi .geq (.t 16) (.t 18)),
oq 20 (.pick (.t 15) (.c (.bool true)) (.t 19))])
(.cond (.t 20) (.seq (.reg [oq 4 (.mv (.c .nilsl)),
oq 5 (.mv (.c .nilsl)),
oq 6 (.mv (ci 0)),
oq 7 (.mv (ci 2))])
.ret) .skip))
(.seq (.reg [oq 22 (.ld true 3 (.t 2)),
mt 23 1,
oc 24 45 [(.t 22),(.t 23)] 0,
mt 21 24,
oq 25 (.extract (.t 21) 0),
oq 26 (.extract (.t 21) 1),
mt 4 25,
mt 5 26])
(.seq (.seq (.reg [mt 27 5,
oc 28 22 [(.t 27)] 0,
mt 6 28])
(.seq (.reg [mt 29 6,
oq 30 (bi .gtr (.t 29) (ci 1000))])
(.cond (.t 30) (.seq (.reg [oq 4 (.mv (.c .nilsl)),
oq 5 (.mv (.c .nilsl)),
oq 6 (.mv (ci 0)),
oq 7 (.mv (ci 5))])
.ret) .skip)))
(.seq (.reg [mt 31 4,
mt 32 5,
mt 33 6,
mt 4 31,
mt 5 32,
mt 6 33,
oq 7 (.mv (ci 0))])
.ret))))))⟩
theorem row34 : Row Tryz.prog (34, a34) := ⟨Tryz.f34, Tryz.func34, by kernel_rfl⟩
noncomputable def a35 : AFn :=
⟨4,[(.t 2)],(.seq (.reg [⟨(some 1),(.a (.box 22 (.t 0))),none,0⟩,
oq 2 (.mv (.c .nilfn))])
(.seq (.reg [oq 3 (.mkFunc 55 [] [(.t 1)]),
mt 2 3])
.ret))⟩
theorem row35 : Row Tryz.prog (35, a35) := ⟨Tryz.f35, Tryz.func35, by kernel_rfl⟩
noncomputable def a36 : AFn :=
⟨91,[(.t 6)],(.seq (.reg [⟨(some 3),(.a (.box 41 (.t 0))),none,0⟩,
oq 6 (.mv (.c (.str [])))])
(.seq (.reg [oq 14 (.faddr 2 (.t 3)),
oq 15 (ld 14),
oq 16 (.lenSl (.t 15)),
⟨(some 17),(.a (.mkSlice 5 1 1 [(.int .u8 (.ofNat 0))] (.t 16) (.t 16))),none,0⟩,
mt 7 17])
(.seq (.reg [oq 18 (.faddr 1 (.t 3)),
oq 19 (ld 18),
oq 20 (.lenSl (.t 19)),
⟨(some 21),(.a (.mkSlice 4 1 1 [(.bool false)] (.t 20) (.t 20))),none,0⟩,
mt 8 21])
(.seq (.reg [mt 22 8,
oq 23 (.iaddr (.slice 1) (.t 22) (ci 0)),
⟨none,(.x (.st 1 (.t 23) (.c (.bool true)))),none,0⟩])
(.seq (.seq (.reg [oq 24 (.faddr 1 (.t 3)),
oq 25 (ld 24),
oq 26 (.lenSl (.t 25)),
oq 27 (.mv (ci 0))])
(.block 0 (.loop (.seq (.reg [oq 28 (bi .lss (.t 27) (.t 26))])
(.seq (.cond (.t 28) .skip (.exit 0))
(.seq (.block 1 (.seq (.reg [mt 29 27,
oq 30 (.iaddr (.slice 6) (.t 25) (.t 27)),
oq 31 (.ld true 6 (.t 30)),
⟨(some 10),(.a (.alloc 70 [(.int .i64 (.ofNat 0)),(.int .i64 (.ofNat 0)),(.int .i64 (.ofNat 0)),.nilsl,.nilsl,.nilsl])),none,0⟩,
mt 9 29,
⟨none,(.x (.st 6 (.t 10) (.t 31))),none,0⟩])
(.seq (.reg [oq 32 (.faddr 0 (.t 10)),
oq 33 (ld 32),
oq 34 (bi .eql (.t 33) (ci 2)),
mt 35 34,
og 36 35 true 0 (.faddr 1 (.t 10)),
og 37 35 true 0 (ld 36),
og 38 35 true 0 (.mv (.t 1)),
og 39 35 true 0 (bi .eql (.t 37) (.t 38)),
oq 40 (.pick (.t 35) (.t 39) (.c (.bool false))),
mt 11 40])
(.seq (.seq (.reg [mt 41 11,
mt 42 41,
og 43 42 true 0 (.mv (.t 8)),
og 44 42 true 0 (.mv (.t 9)),
og 45 42 true 0 (.iaddr (.slice 1) (.t 43) (.t 44)),
og 46 42 true 0 (ld 45),
oq 47 (.pick (.t 42) (.t 46) (.c (.bool false)))])
(.cond (.t 47) (.drw [mt 48 7,
oq 49 (.faddr 2 (.t 10)),
om 50 2 (ld 49),
mt 51 2,
oq 52 (.faddr 2 (.t 10)),
om 53 16 (ld 52),
om 54 56 (.iaddr (.slice 1) (.t 51) (.t 53)),
om 55 120 (ld 54),
om 56 248 (bi .add (ci 1) (.t 55)),
om 57 504 (.conv (.int .u8) (.t 56)),
om 58 1023 (.iaddr (.slice 1) (.t 48) (.t 50)),
⟨none,(.x (.st 1 (.t 58) (.t 57))),none,2047⟩]) .skip))
(.seq (.reg [oq 59 (.faddr 3 (.t 10)),
oq 60 (ld 59),
oq 61 (.lenSl (.t 60)),
oq 62 (.mv (ci 0))])
(.block 2 (.loop (.seq (.reg [oq 63 (bi .lss (.t 62) (.t 61))])
(.seq (.cond (.t 63) .skip (.exit 2))
(.seq (.block 3 (.seq (.reg [mt 64 62,
oq 65 (.iaddr (.slice 1) (.t 60) (.t 62)),
oq 66 (ld 65),
mt 12 64,
mt 13 66])
(.reg [mt 67 8,
mt 68 13,
mt 69 8,
mt 70 9,
oq 71 (.iaddr (.slice 1) (.t 69) (.t 70)),
oq 72 (ld 71),
mt 73 72,
og 74 73 true 0 (.mv (.t 11)),
og 75 73 true 0 (.un .not (.t 74)),
og 76 73 true 0 (.mv (.t 75)),
og 77 76 false 0 (.mv (.t 12)),
og 78 76 false 0 (.mv (.t 2)),
og 79 76 false 0 (.faddr 2 (.t 10)),
og 80 76 false 0 (ld 79),
og 81 76 false 0 (.iaddr (.slice 1) (.t 78) (.t 80)),
og 82 76 false 0 (ld 81),
og 83 76 false 0 (bi .eql (.t 77) (.t 82)),
og 84 73 true 0 (.pick (.t 76) (.c (.bool true)) (.t 83)),
oq 85 (.pick (.t 73) (.t 84) (.c (.bool false))),
oq 86 (.iaddr (.slice 1) (.t 67) (.t 68)),
⟨none,(.x (.st 1 (.t 86) (.t 85))),none,0⟩])))
(.reg [oq 87 (bi .add (.t 62) (ci 1)),
mt 62 87])))))))))))
(.reg [oq 88 (bi .add (.t 27) (ci 1)),
mt 27 88])))))))
(.seq (.reg [mt 89 7,
oq 90 (.conv .bytesToStr (.t 89)),
mt 6 90])
.ret))))))⟩
theorem row36 : Row Tryz.prog (36, a36) := ⟨Tryz.f36, Tryz.func36, by kernel_rfl⟩
noncomputable def a37 : AFn :=
⟨24,[(.t 4)],(.seq (.reg [⟨(some 2),(.a (.box 48 (.t 0))),none,0⟩,
⟨(some 3),(.a (.box 48 (.t 1))),none,0⟩,
oq 4 (.mv (.c (.bool false)))])
(.seq (.reg [oq 5 (.faddr 0 (.t 2)),
oq 6 (ld 5),
oq 7 (.faddr 0 (.t 3)),
oq 8 (ld 7),
oq 9 (.bin .eql (.p .bool) (.t 6) (.t 8)),
mt 10 9,
og 11 10 true 0 (.faddr 1 (.t 2)),
og 12 10 true 0 (ld 11),
og 13 10 true 0 (.faddr 1 (.t 3)),
og 14 10 true 0 (ld 13),
⟨(some 15),(.x (.call (.c (.fn 56 [] [])) [(.t 12),(.t 14)])),(some (10,true)),0⟩,
oq 16 (.pick (.t 10) (.t 15) (.c (.bool false))),
mt 17 16,
og 18 17 true 0 (.faddr 2 (.t 2)),
og 19 17 true 0 (ld 18),
og 20 17 true 0 (.faddr 2 (.t 3)),
og 21 17 true 0 (ld 20),
⟨(some 22),(.x (.call (.c (.fn 56 [] [])) [(.t 19),(.t 21)])),(some (17,true)),0⟩,
oq 23 (.pick (.t 17) (.t 22) (.c (.bool false))),
mt 4 23])
.ret))⟩
theorem row37 : Row Tryz.prog (37, a37) := ⟨Tryz.f37, Tryz.func37, by kernel_rfl⟩
noncomputable def a38 : AFn :=
⟨15,[(.cell 4 true 3)],(.seq (.reg [⟨(some 4),(.a (.alloc 48 [(.bool false),.nilsl,.nilsl])),none,0⟩])
(.seq (.reg [mt 5 0,
oq 6 (bi .lss (.t 5) (ci 0)),
mt 7 1,
oq 8 (bi .lss (.t 7) (ci 0)),
oq 9 (.bin .neq (.p .bool) (.t 6) (.t 8)),
mt 10 0,
oc 11 58 [(.t 10)] 0,
mt 12 1,
oc 13 58 [(.t 12)] 0,
oc 14 57 [(.t 9),(.t 11),(.t 13)] 0,
⟨none,(.x (.st 3 (.t 4) (.t 14))),none,0⟩])
.ret))⟩
theorem row38 : Row Tryz.prog (38, a38) := ⟨Tryz.f38, Tryz.func38, by kernel_rfl⟩
noncomputable def a44 : AFn :=
⟨11,[(.t 2)],(.seq (.reg [⟨(some 1),(.a (.box 41 (.t 0))),none,0⟩,
oq 2 (.mv (ci 0))])
(.seq (.reg [oq 6 (.ld true 3 (.t 1)),
oc 7 66 [(.t 6)] 0,
mt 5 7,
oq 8 (.extract (.t 5) 0),
oq 9 (.extract (.t 5) 1),
mt 3 8,
mt 4 9])
(.seq (.reg [mt 10 4,
mt 2 10])
.ret)))⟩
theorem row44 : Row Tryz.prog (44, a44) := ⟨Tryz.f44, Tryz.func44, by kernel_rfl⟩
noncomputable def a45 : AFn :=
⟨32,[(.t 4),(.t 5)],(.seq (.reg [⟨(some 2),(.a (.box 41 (.t 0))),none,0⟩,
oq 4 (.mv (.c .nilsl)),
oq 5 (.mv (.c .nilsl))])
(.seq (.seq (.reg [oq 8 (.faddr 2 (.t 2)),
oq 9 (ld 8),
oq 10 (.lenSl (.t 9)),
oq 11 (.mv (ci 0))])
(.block 0 (.loop (.seq (.reg [oq 12 (bi .lss (.t 11) (.t 10))])
(.seq (.cond (.t 12) .skip (.exit 0))
(.seq (.block 1 (.seq (.reg [mt 13 11,
oq 14 (.iaddr (.slice 2) (.t 9) (.t 11)),
oq 15 (.ld true 2 (.t 14)),
⟨(some 7),(.a (.alloc 68 [(.int .i64 (.ofNat 0)),(.int .i64 (.ofNat 0))])),none,0⟩,
mt 6 13,
⟨none,(.x (.st 2 (.t 7) (.t 15))),none,0⟩])
(.seq (.reg [oq 16 (.faddr 0 (.t 7)),
oq 17 (ld 16),
mt 18 1,
oq 19 (bi .eql (.t 17) (.t 18))])
(.cond (.t 19) (.seq (.reg [mt 20 4,
mt 21 6,
⟨(some 22),(.a (.bslice 3 1 1 [(.int .i64 (.ofNat 0))] [(0,(.t 21))])),none,0⟩,
⟨(some 23),(.x (.app 3 1 8 (.t 20) (.t 22))),none,0⟩,
mt 4 23])
(.reg [mt 24 5,
oq 25 (.faddr 1 (.t 7)),
oq 26 (ld 25),
⟨(some 27),(.a (.bslice 3 1 1 [(.int .i64 (.ofNat 0))] [(0,(.t 26))])),none,0⟩,
⟨(some 28),(.x (.app 3 1 8 (.t 24) (.t 27))),none,0⟩,
mt 5 28])) .skip))))
(.reg [oq 29 (bi .add (.t 11) (ci 1)),
mt 11 29])))))))
(.seq (.reg [mt 30 4,
mt 31 5,
mt 4 30,
mt 5 31])
.ret)))⟩
theorem row45 : Row Tryz.prog (45, a45) := ⟨Tryz.f45, Tryz.func45, by kernel_rfl⟩
noncomputable def a46 : AFn :=
⟨11,[],(.seq (.reg [mt 3 0,
oq 4 (.lenSl (.t 3)),
mt 2 4])
(.reg [mt 5 0,
mt 6 2,
mt 7 2,
oq 8 (.conv (.int .u64) (.t 7)),
oc 9 68 [(.t 8)] 0,
oc 10 67 [(.t 5),(ci 0),(.t 6),(.t 9)] 0]))⟩
theorem row46 : Row Tryz.prog (46, a46) := ⟨Tryz.f46, Tryz.func46, by kernel_rfl⟩
noncomputable def a47 : AFn :=
⟨61,[(.t 2)],(.seq (.reg [oq 2 (.mv (.c .nilsl))])
(.seq (.seq (.reg [mt 6 0,
oq 7 (.lenSl (.t 6)),
oq 8 (bi .lss (.t 7) (ci 2))])
(.cond (.t 8) (.seq (.reg [mt 9 0,
mt 2 9])
.ret) .skip))
(.seq (.seq (.reg [oq 3 (.mv (ci 1))])
(.block 0 (.loop (.seq (.seq (.reg [mt 10 3,
mt 11 0,
oq 12 (.lenSl (.t 11)),
oq 13 (bi .lss (.t 10) (.t 12))])
(.cond (.t 13) .skip (.exit 0)))
(.seq (.block 1 (.seq (.drw [mt 16 0,
mt 17 3,
om 18 3 (.iaddr (.slice 1) (.t 16) (.t 17)),
om 19 7 (ld 18),
mt 20 0,
mt 21 3,
om 22 32 (bi .sub (.t 21) (ci 1)),
om 23 112 (.iaddr (.slice 1) (.t 20) (.t 22)),
om 24 240 (ld 23),
om 25 511 (bi .eql (.t 19) (.t 24))])
(.cond (.t 25) (.seq (.reg [mt 26 0,
mt 27 3,
oq 28 (.slc (.slice 1) (.t 26) (some (.t 27)) none none),
mt 4 28])
(.seq (.seq (.reg [oq 5 (.mv (ci 1))])
(.block 2 (.loop (.seq (.seq (.reg [mt 29 5,
mt 30 4,
oq 31 (.lenSl (.t 30)),
oq 32 (bi .lss (.t 29) (.t 31))])
(.cond (.t 32) .skip (.exit 2)))
(.seq (.block 3 (.seq (.drw [mt 35 4,
mt 36 5,
om 37 3 (.iaddr (.slice 1) (.t 35) (.t 36)),
om 38 7 (ld 37),
mt 39 4,
mt 40 5,
om 41 32 (bi .sub (.t 40) (ci 1)),
om 42 112 (.iaddr (.slice 1) (.t 39) (.t 41)),
om 43 240 (ld 42),
om 44 511 (bi .neq (.t 38) (.t 43))])
(.cond (.t 44) (.seq (.reg [mt 45 0,
mt 46 3,
mt 47 4,
mt 48 5,
oq 49 (.iaddr (.slice 1) (.t 47) (.t 48)),
oq 50 (ld 49),
oq 51 (.iaddr (.slice 1) (.t 45) (.t 46)),
⟨none,(.x (.st 1 (.t 51) (.t 50))),none,0⟩])
(.reg [mt 52 3,
oq 53 (bi .add (.t 52) (ci 1)),
mt 3 53])) .skip)))
(.reg [mt 33 5,
oq 34 (bi .add (.t 33) (ci 1)),
mt 5 34]))))))
(.seq (.reg [mt 54 0,
mt 55 3,
oq 56 (.slc (.slice 1) (.t 54) (some (.t 55)) none none),
⟨none,(.x (.clr [(.int .i64 (.ofNat 0))] (.t 56))),none,0⟩])
(.seq (.reg [mt 57 0,
mt 58 3,
oq 59 (.slc (.slice 1) (.t 57) none (some (.t 58)) none),
mt 2 59])
.ret)))) .skip)))
(.reg [mt 14 3,
oq 15 (bi .add (.t 14) (ci 1)),
mt 3 15]))))))
(.seq (.reg [mt 60 0,
mt 2 60])
.ret))))⟩
theorem row47 : Row Tryz.prog (47, a47) := ⟨Tryz.f47, Tryz.func47, by kernel_rfl⟩
noncomputable def a48 : AFn :=
⟨167,[(.t 4)],(.seq (.reg [oq 4 (.mv (.c .nilsl))])
(.seq (.reg [oq 20 (ld 1),
oq 21 (.nilchk (.t 20)),
oq 22 (.faddr 0 (.t 21)),
oq 23 (.faddr 1 (.t 22)),
oq 24 (ld 23),
mt 25 0,
oq 26 (.iaddr (.slice 6) (.t 24) (.t 25)),
oq 27 (.ld true 6 (.t 26)),
⟨(some 5),(.a (.alloc 70 [(.int .i64 (.ofNat 0)),(.int .i64 (.ofNat 0)),(.int .i64 (.ofNat 0)),.nilsl,.nilsl,.nilsl])),none,0⟩,
⟨none,(.x (.st 6 (.t 5) (.t 27))),none,0⟩])
(.seq (.seq (.reg [oq 28 (.faddr 0 (.t 5)),
oq 29 (ld 28),
oq 30 (bi .eql (.t 29) (ci 2))])
(.cond (.t 30) (.seq (.drw [oq 31 (ld 2),
oq 32 (.faddr 3 (.t 5)),
om 33 2 (ld 32),
oq 34 (ld 1),
om 35 8 (.nilchk (.t 34)),
om 36 24 (.faddr 3 (.t 35)),
om 37 56 (ld 36),
oq 38 (.faddr 2 (.t 5)),
om 39 128 (ld 38),
om 40 504 (.iaddr (.slice 1) (.t 37) (.t 39)),
om 41 1016 (ld 40),
om 42 2046 (.iaddr (.slice 1) (.t 33) (.t 41)),
om 43 4094 (ld 42),
⟨(some 44),(.x (.call (.t 31) [(.t 43)])),none,8191⟩,
om 4 16383 (.mv (.t 44))])
.ret) .skip))
(.seq (.reg [mt 45 0,
oq 46 (.build [(.int .i64 (.ofNat 0)),(.int .i64 (.ofNat 0)),(.int .i64 (.ofNat 0)),(.int .i64 (.ofNat 0)),(.int .i64 (.ofNat 0))] [(0,1,(.t 45))]),
⟨(some 6),(.a (.alloc 96 [(.int .i64 (.ofNat 0)),(.int .i64 (.ofNat 0)),(.int .i64 (.ofNat 0)),(.int .i64 (.ofNat 0)),(.int .i64 (.ofNat 0))])),none,0⟩,
⟨none,(.x (.st 5 (.t 6) (.t 46))),none,0⟩])
(.seq (.seq (.reg [oq 47 (ld 1),
oq 48 (.nilchk (.t 47)),
oq 49 (.faddr 5 (.t 48)),
oq 50 (ld 49),
mt 51 0,
oq 52 (.iaddr (.slice 1) (.t 50) (.t 51)),
oq 53 (ld 52),
oq 54 (.lenSl (.t 53)),
oq 55 (.mv (ci 0))])
(.block 0 (.loop (.seq (.reg [oq 56 (bi .lss (.t 55) (.t 54))])
(.seq (.cond (.t 56) .skip (.exit 0))
(.seq (.block 1 (.seq (.reg [oq 57 (.iaddr (.slice 1) (.t 53) (.t 55)),
oq 58 (ld 57),
mt 8 58])
(.drw [oq 59 (ld 1),
om 60 1 (.nilchk (.t 59)),
om 61 3 (.faddr 0 (.t 60)),
om 62 7 (.faddr 2 (.t 61)),
om 63 15 (ld 62),
mt 64 8,
om 65 63 (.iaddr (.slice 2) (.t 63) (.t 64)),
om 66 127 (.faddr 0 (.t 65)),
om 67 255 (ld 66),
om 68 511 (bi .add (ci 1) (.t 67)),
om 69 1023 (.iaddr (.arr 5 1) (.t 6) (.t 68)),
om 70 2047 (ld 69),
oq 71 (ld 1),
om 72 4096 (.nilchk (.t 71)),
om 73 12288 (.faddr 3 (.t 72)),
om 74 28672 (ld 73),
mt 75 8,
om 76 126976 (.iaddr (.slice 1) (.t 74) (.t 75)),
om 77 258048 (ld 76),
oq 78 (ld 1),
om 79 524288 (.nilchk (.t 78)),
om 80 1572864 (.faddr 4 (.t 79)),
om 81 3670016 (ld 80),
mt 82 8,
om 83 16252928 (.iaddr (.slice 1) (.t 81) (.t 82)),
om 84 33030144 (ld 83),
om 85 67104768 (bi .mul (.t 77) (.t 84)),
om 86 134217727 (bi .add (.t 70) (.t 85)),
om 87 268435455 (.iaddr (.arr 5 1) (.t 6) (.t 68)),
⟨none,(.x (.st 1 (.t 87) (.t 86))),none,536870911⟩])))
(.reg [oq 88 (bi .add (.t 55) (ci 1)),
mt 55 88])))))))
(.seq (.seq (.drw [oq 90 (ld 1),
om 91 1 (.nilchk (.t 90)),
om 92 3 (.faddr 6 (.t 91)),
om 93 7 (ld 92),
oq 94 (.ld true 5 (.t 6)),
om 95 31 (.lookup (.struct [(0,.int),(1,.int),(2,.int),(3,.int),(4,.int)]) .nilsl true (.t 93) (.t 94)),
om 89 63 (.mv (.t 95)),
om 96 127 (.extract (.t 89) 0),
om 97 127 (.extract (.t 89) 1),
om 9 255 (.mv (.t 96)),
om 10 1023 (.mv (.t 97))])
(.seq (.reg [mt 98 10])
(.cond (.t 98) (.seq (.reg [mt 99 9,
mt 4 99])
.ret) .skip)))
(.seq (.reg [oq 100 (ld 1),
oq 101 (.nilchk (.t 100)),
oq 102 (.faddr 0 (.t 101)),
oq 103 (.faddr 0 (.t 102)),
oq 104 (ld 103),
⟨(some 105),(.a (.mkSlice 64 3 56 [(.bool false),.nilsl,.nilsl] (.t 104) (.t 104))),none,0⟩,
mt 11 105])
(.seq (.seq (.reg [oq 106 (.faddr 5 (.t 5)),
oq 107 (ld 106),
oq 108 (.lenSl (.t 107)),
oq 109 (.mv (ci 0))])
(.block 2 (.loop (.seq (.reg [oq 110 (bi .lss (.t 109) (.t 108))])
(.seq (.cond (.t 110) .skip (.exit 2))
(.seq (.block 3 (.seq (.reg [mt 111 109,
oq 112 (.iaddr (.slice 1) (.t 107) (.t 109)),
oq 113 (ld 112),
mt 12 111,
mt 13 113])
(.reg [mt 114 11,
mt 115 12,
mt 116 13,
oc 117 49 [(.t 116)] 0,
oq 118 (.iaddr (.slice 3) (.t 114) (.t 115)),
⟨none,(.x (.st 3 (.t 118) (.t 117))),none,0⟩])))
(.reg [oq 119 (bi .add (.t 109) (ci 1)),
mt 109 119])))))))
(.seq (.reg [oq 120 (.faddr 4 (.t 5)),
oq 121 (ld 120),
oc 122 39 [(.t 121),(ci 0),(.c (.fn 50 [] []))] 0,
mt 14 122])
(.seq (.seq (.reg [oq 123 (.faddr 3 (.t 5)),
oq 124 (ld 123),
oq 125 (.lenSl (.t 124)),
oq 126 (.mv (ci 0))])
(.block 4 (.loop (.seq (.reg [oq 127 (bi .lss (.t 126) (.t 125))])
(.seq (.cond (.t 127) .skip (.exit 4))
(.seq (.block 5 (.seq (.reg [mt 128 126,
oq 129 (.iaddr (.slice 1) (.t 124) (.t 126)),
oq 130 (ld 129),
mt 15 128,
mt 16 130])
(.seq (.reg [oq 131 (.faddr 4 (.t 5)),
oq 132 (ld 131),
mt 133 15,
oq 134 (.iaddr (.slice 1) (.t 132) (.t 133)),
oq 135 (ld 134),
mt 136 14,
oc 137 51 [(.t 135),(.t 136)] 0,
⟨(some 17),(.a (.alloc 64 [(.bool false),.nilsl,.nilsl])),none,0⟩,
⟨none,(.x (.st 3 (.t 17) (.t 137))),none,0⟩])
(.seq (.reg [oq 138 (ld 2),
mt 139 16,
⟨(some 140),(.x (.call (.t 138) [(.t 139)])),none,0⟩,
oq 141 (.lenSl (.t 140)),
oq 142 (.mv (ci 0))])
(.block 6 (.loop (.seq (.reg [oq 143 (bi .lss (.t 142) (.t 141))])
(.seq (.cond (.t 143) .skip (.exit 6))
(.seq (.block 7 (.seq (.reg [mt 144 142,
oq 145 (.iaddr (.slice 3) (.t 140) (.t 142)),
oq 146 (.ld true 3 (.t 145)),
⟨(some 19),(.a (.alloc 64 [(.bool false),.nilsl,.nilsl])),none,0⟩,
mt 18 144,
⟨none,(.x (.st 3 (.t 19) (.t 146))),none,0⟩])
(.drw [mt 147 11,
mt 148 18,
mt 149 11,
mt 150 18,
om 151 12 (.iaddr (.slice 3) (.t 149) (.t 150)),
om 152 28 (.ld true 3 (.t 151)),
oq 153 (.ld true 3 (.t 17)),
oq 154 (.ld true 3 (.t 19)),
oc 155 53 [(.t 153),(.t 154)] 192,
oc 156 52 [(.t 152),(.t 155)] 508,
om 157 1023 (.iaddr (.slice 3) (.t 147) (.t 148)),
⟨none,(.x (.st 3 (.t 157) (.t 156))),none,2047⟩])))
(.reg [oq 158 (bi .add (.t 142) (ci 1)),
mt 142 158]))))))))))
(.reg [oq 159 (bi .add (.t 126) (ci 1)),
mt 126 159])))))))
(.seq (.drw [oq 160 (ld 1),
om 161 1 (.nilchk (.t 160)),
om 162 3 (.faddr 6 (.t 161)),
om 163 7 (ld 162),
oq 164 (.ld true 5 (.t 6)),
mt 165 11,
⟨none,(.x (.mapUpd (.struct [(0,.int),(1,.int),(2,.int),(3,.int),(4,.int)]) (.t 163) (.t 164) (.t 165))),none,63⟩])
(.seq (.reg [mt 166 11,
mt 4 166])
.ret))))))))))))⟩
theorem row48 : Row Tryz.prog (48, a48) := ⟨Tryz.f48, Tryz.func48, by kernel_rfl⟩
noncomputable def a49 : AFn :=
⟨16,[(.cell 2 true 3)],(.seq (.reg [⟨(some 2),(.a (.alloc 64 [(.bool false),.nilsl,.nilsl])),none,0⟩])
(.seq (.seq (.reg [mt 3 0,
oq 4 (bi .lss (.t 3) (ci 0))])
(.cond (.t 4) (.seq (.reg [mt 5 0,
oq 6 (bi .add (.t 5) (ci 1)),
oq 7 (.un .neg (.t 6)),
oq 8 (.conv (.int .u64) (.t 7)),
oq 9 (bi .add (.t 8) (.c (.int .u64 (.ofNat 1)))),
oc 10 69 [(.t 9)] 0,
oq 11 (.build [(.bool false),.nilsl,.nilsl] [(0,1,(.c (.bool true))),(1,1,(.t 10))]),
⟨none,(.x (.st 3 (.t 2) (.t 11))),none,0⟩])
.ret) .skip))
(.seq (.reg [mt 12 0,
oq 13 (.conv (.int .u64) (.t 12)),
oc 14 69 [(.t 13)] 0,
oq 15 (.build [(.bool false),.nilsl,.nilsl] [(1,1,(.t 14))]),
⟨none,(.x (.st 3 (.t 2) (.t 15))),none,0⟩])
.ret)))⟩
theorem row49 : Row Tryz.prog (49, a49) := ⟨Tryz.f49, Tryz.func49, by kernel_rfl⟩
noncomputable def a50 : AFn :=
⟨8,[(.t 4)],(.seq (.reg [oq 4 (.mv (ci 0))])
(.seq (.reg [mt 5 0,
mt 6 1,
oq 7 (bi .add (.t 5) (.t 6)),
mt 4 7])
.ret))⟩
theorem row50 : Row Tryz.prog (50, a50) := ⟨Tryz.f50, Tryz.func50, by kernel_rfl⟩
noncomputable def a51 : AFn :=
⟨10,[(.cell 4 true 3)],(.seq (.reg [⟨(some 4),(.a (.alloc 64 [(.bool false),.nilsl,.nilsl])),none,0⟩])
(.seq (.reg [mt 5 0,
oc 6 49 [(.t 5)] 0,
mt 7 1,
oc 8 49 [(.t 7)] 0,
oc 9 70 [(.t 6),(.t 8)] 0,
⟨none,(.x (.st 3 (.t 4) (.t 9))),none,0⟩])
.ret))⟩
theorem row51 : Row Tryz.prog (51, a51) := ⟨Tryz.f51, Tryz.func51, by kernel_rfl⟩
noncomputable def a52 : AFn :=
⟨92,[(.cell 4 true 3)],(.seq (.reg [⟨(some 2),(.a (.box 64 (.t 0))),none,0⟩,
⟨(some 3),(.a (.box 64 (.t 1))),none,0⟩,
⟨(some 4),(.a (.alloc 64 [(.bool false),.nilsl,.nilsl])),none,0⟩])
(.seq (.seq (.reg [oq 15 (.ld true 3 (.t 2)),
oc 16 71 [(.t 15)] 0])
(.cond (.t 16) (.seq (.reg [oq 17 (.ld true 3 (.t 3)),
⟨none,(.x (.st 3 (.t 4) (.t 17))),none,0⟩])
.ret) .skip))
(.seq (.seq (.reg [oq 18 (.ld true 3 (.t 3)),
oc 19 71 [(.t 18)] 0])
(.cond (.t 19) (.seq (.reg [oq 20 (.ld true 3 (.t 2)),
⟨none,(.x (.st 3 (.t 4) (.t 20))),none,0⟩])
.ret) .skip))
(.seq (.seq (.reg [oq 21 (.faddr 2 (.t 2)),
oq 22 (ld 21),
oq 23 (.lenSl (.t 22)),
oq 24 (bi .eql (.t 23) (ci 0)),
mt 25 24,
og 26 25 true 0 (.faddr 2 (.t 3)),
og 27 25 true 0 (ld 26),
og 28 25 true 0 (.lenSl (.t 27)),
og 29 25 true 0 (bi .eql (.t 28) (ci 0)),
oq 30 (.pick (.t 25) (.t 29) (.c (.bool false)))])
(.cond (.t 30) (.seq (.reg [oq 32 (.faddr 0 (.t 2)),
oq 33 (ld 32),
oq 34 (.faddr 1 (.t 2)),
oq 35 (ld 34),
oq 36 (.faddr 0 (.t 3)),
oq 37 (ld 36),
oq 38 (.faddr 1 (.t 3)),
oq 39 (ld 38),
oc 40 72 [(.t 33),(.t 35),(.t 37),(.t 39)] 0,
mt 31 40,
oq 41 (.extract (.t 31) 0),
oq 42 (.extract (.t 31) 1),
mt 5 41,
mt 6 42])
(.seq (.reg [mt 43 5,
mt 44 6,
oc 45 73 [(.t 43),(.t 44),(.c .nilsl)] 0,
⟨none,(.x (.st 3 (.t 4) (.t 45))),none,0⟩])
.ret)) .skip))
(.seq (.drw [oq 46 (.ld true 3 (.t 2)),
oc 47 74 [(.t 46)] 1,
oq 48 (.ld true 3 (.t 3)),
oc 49 74 [(.t 48)] 7,
om 7 15 (.mv (.t 47)),
om 8 31 (.mv (.t 49))])
(.seq (.reg [mt 50 7,
mt 51 8,
oc 52 75 [(.t 50),(.t 51)] 0,
mt 9 52])
(.seq (.reg [mt 53 7,
mt 54 9,
oc 55 76 [(.t 53),(.t 54)] 0,
mt 56 8,
mt 57 9,
oc 58 76 [(.t 56),(.t 57)] 0,
mt 10 55,
mt 11 58])
(.seq (.drw [oq 60 (.faddr 0 (.t 2)),
om 61 1 (ld 60),
oq 62 (.faddr 1 (.t 2)),
om 63 4 (ld 62),
mt 64 11,
oc 65 77 [(.t 63),(.t 64)] 28,
oq 66 (.faddr 0 (.t 3)),
om 67 64 (ld 66),
oq 68 (.faddr 1 (.t 3)),
om 69 256 (ld 68),
mt 70 10,
oc 71 77 [(.t 69),(.t 70)] 1852,
oc 72 72 [(.t 61),(.t 65),(.t 67),(.t 71)] 4095,
om 59 8191 (.mv (.t 72)),
om 73 16383 (.extract (.t 59) 0),
om 74 16383 (.extract (.t 59) 1),
om 12 32767 (.mv (.t 73)),
om 13 131071 (.mv (.t 74))])
(.seq (.seq (.reg [mt 75 13,
oq 76 (.lenSl (.t 75)),
oq 77 (bi .eql (.t 76) (ci 0))])
(.cond (.t 77) (.seq (.reg [oq 78 (.build [(.bool false),.nilsl,.nilsl] []),
⟨none,(.x (.st 3 (.t 4) (.t 78))),none,0⟩])
.ret) .skip))
(.seq (.reg [mt 79 13,
mt 80 9,
oc 81 75 [(.t 79),(.t 80)] 0,
mt 14 81])
(.seq (.reg [mt 82 12,
mt 83 13,
mt 84 14,
oc 85 76 [(.t 83),(.t 84)] 0,
mt 86 10,
mt 87 8,
mt 88 14,
oc 89 76 [(.t 87),(.t 88)] 0,
oc 90 77 [(.t 86),(.t 89)] 0,
oc 91 73 [(.t 82),(.t 85),(.t 90)] 0,
⟨none,(.x (.st 3 (.t 4) (.t 91))),none,0⟩])
.ret)))))))))))⟩
theorem row52 : Row Tryz.prog (52, a52) := ⟨Tryz.f52, Tryz.func52, by kernel_rfl⟩
noncomputable def a53 : AFn :=
⟨50,[(.cell 4 true 3)],(.seq (.reg [⟨(some 2),(.a (.box 64 (.t 0))),none,0⟩,
⟨(some 3),(.a (.box 64 (.t 1))),none,0⟩,
⟨(some 4),(.a (.alloc 64 [(.bool false),.nilsl,.nilsl])),none,0⟩])
(.seq (.seq (.reg [oq 9 (.ld true 3 (.t 2)),
oc 10 71 [(.t 9)] 0,
mt 11 10,
og 12 11 false 0 (.ld true 3 (.t 3)),
⟨(some 13),(.x (.call (.c (.fn 71 [] [])) [(.t 12)])),(some (11,false)),0⟩,
oq 14 (.pick (.t 11) (.c (.bool true)) (.t 13))])
(.cond (.t 14) (.seq (.reg [oq 15 (.build [(.bool false),.nilsl,.nilsl] []),
⟨none,(.x (.st 3 (.t 4) (.t 15))),none,0⟩])
.ret) .skip))
(.seq (.drw [oq 16 (.ld true 3 (.t 2)),
oc 17 74 [(.t 16)] 1,
oq 18 (.ld true 3 (.t 3)),
oc 19 74 [(.t 18)] 7,
om 5 15 (.mv (.t 17)),
om 6 31 (.mv (.t 19))])
(.seq (.drw [oq 20 (.faddr 1 (.t 2)),
om 21 1 (ld 20),
mt 22 6,
oc 23 75 [(.t 21),(.t 22)] 7,
oq 24 (.faddr 1 (.t 3)),
om 25 16 (ld 24),
mt 26 5,
oc 27 75 [(.t 25),(.t 26)] 127,
om 7 255 (.mv (.t 23)),
om 8 511 (.mv (.t 27))])
(.seq (.drw [oq 28 (.faddr 0 (.t 2)),
om 29 1 (ld 28),
oq 30 (.faddr 0 (.t 3)),
om 31 4 (ld 30),
om 32 15 (.bin .neq (.p .bool) (.t 29) (.t 31)),
oq 33 (.faddr 1 (.t 2)),
om 34 32 (ld 33),
mt 35 7,
oc 36 76 [(.t 34),(.t 35)] 224,
oq 37 (.faddr 1 (.t 3)),
om 38 512 (ld 37),
mt 39 8,
oc 40 76 [(.t 38),(.t 39)] 4064,
oc 41 77 [(.t 36),(.t 40)] 8160,
mt 42 5,
mt 43 8,
oc 44 76 [(.t 42),(.t 43)] 65504,
mt 45 6,
mt 46 7,
oc 47 76 [(.t 45),(.t 46)] 524256,
oc 48 77 [(.t 44),(.t 47)] 1048544,
oc 49 73 [(.t 32),(.t 41),(.t 48)] 2097151,
⟨none,(.x (.st 3 (.t 4) (.t 49))),none,4194303⟩])
.ret)))))⟩
theorem row53 : Row Tryz.prog (53, a53) := ⟨Tryz.f53, Tryz.func53, by kernel_rfl⟩
noncomputable def a54 : AFn :=
⟨8,[(.t 2)],(.seq (.reg [oq 2 (.mv (.c .nilsl))])
(.seq (.seq (.reg [mt 3 0,
oq 4 (.bin .eql (.p .slice) (.t 3) (.c .nilsl))])
(.cond (.t 4) (.seq (.reg [oq 2 (.mv (.c .nilsl))])
.ret) .skip))
(.seq (.reg [⟨(some 5),(.a (.bslice 102 1 0 [(.int .u32 (.ofNat 0))] [])),none,0⟩,
mt 6 0,
⟨(some 7),(.x (.app 102 1 4 (.t 5) (.t 6))),none,0⟩,
mt 2 7])
.ret)))⟩
theorem row54 : Row Tryz.prog (54, a54) := ⟨Tryz.f54, Tryz.func54, by kernel_rfl⟩
noncomputable def a55 : AFn :=
⟨45,[],(.seq (.reg [oq 6 (ld 1),
oq 7 (.lenSl (.t 6)),
⟨(some 8),(.a (.mkSlice 3 1 8 [(.int .i64 (.ofNat 0))] (.t 7) (.t 7))),none,0⟩,
mt 3 8])
(.seq (.reg [oq 9 (ld 1),
oc 10 22 [(.t 9)] 0,
oq 11 (.mv (ci 0))])
(.block 0 (.loop (.seq (.reg [oq 12 (bi .lss (.t 11) (.t 10))])
(.seq (.cond (.t 12) .skip (.exit 0))
(.seq (.block 1 (.seq (.reg [mt 13 11,
mt 4 13])
(.seq (.seq (.reg [mt 14 0,
mt 15 4,
mt 16 3,
⟨(some 17),(.x (.call (.t 14) [(.t 15),(.t 16)])),none,0⟩,
oq 18 (.un .not (.t 17))])
(.cond (.t 18) .ret .skip))
(.seq (.reg [mt 19 3,
oq 20 (.lenSl (.t 19)),
oq 21 (bi .sub (.t 20) (ci 1)),
mt 5 21])
(.block 2 (.loop (.seq (.seq (.reg [mt 22 5,
oq 23 (bi .geq (.t 22) (ci 0))])
(.cond (.t 23) .skip (.exit 2)))
(.seq (.block 3 (.seq (.reg [mt 26 3,
mt 27 5,
oq 28 (.iaddr (.slice 1) (.t 26) (.t 27)),
oq 29 (ld 28),
oq 30 (bi .add (.t 29) (ci 1)),
oq 31 (.iaddr (.slice 1) (.t 26) (.t 27)),
⟨none,(.x (.st 1 (.t 31) (.t 30))),none,0⟩])
(.seq (.seq (.drw [mt 32 3,
mt 33 5,
om 34 3 (.iaddr (.slice 1) (.t 32) (.t 33)),
om 35 7 (ld 34),
oq 36 (ld 1),
mt 37 5,
om 38 48 (.iaddr (.slice 1) (.t 36) (.t 37)),
om 39 112 (ld 38),
om 40 255 (bi .lss (.t 35) (.t 39))])
(.cond (.t 40) (.exit 2) .skip))
(.reg [mt 41 3,
mt 42 5,
oq 43 (.iaddr (.slice 1) (.t 41) (.t 42)),
⟨none,(.x (.st 1 (.t 43) (ci 0))),none,0⟩]))))
(.reg [mt 24 5,
oq 25 (bi .sub (.t 24) (ci 1)),
mt 5 25])))))))))
(.reg [oq 44 (bi .add (.t 11) (ci 1)),
mt 11 44]))))))))⟩
theorem row55 : Row Tryz.prog (55, a55) := ⟨Tryz.f55, Tryz.func55, by kernel_rfl⟩
noncomputable def a56 : AFn :=
⟨26,[(.t 4)],(.seq (.reg [oq 4 (.mv (.c (.bool false)))])
(.seq (.seq (.reg [mt 6 0,
oq 7 (.lenSl (.t 6)),
mt 8 1,
oq 9 (.lenSl (.t 8)),
oq 10 (bi .neq (.t 7) (.t 9))])
(.cond (.t 10) (.seq (.reg [oq 4 (.mv (.c (.bool false)))])
.ret) .skip))
(.seq (.seq (.reg [oq 5 (.mv (ci 0))])
(.block 0 (.loop (.seq (.seq (.reg [mt 11 5,
mt 12 0,
oq 13 (.lenSl (.t 12)),
oq 14 (bi .lss (.t 11) (.t 13))])
(.cond (.t 14) .skip (.exit 0)))
(.seq (.block 1 (.seq (.drw [mt 17 0,
mt 18 5,
om 19 3 (.iaddr (.slice 1) (.t 17) (.t 18)),
om 20 7 (ld 19),
mt 21 1,
mt 22 5,
om 23 48 (.iaddr (.slice 1) (.t 21) (.t 22)),
om 24 112 (ld 23),
om 25 255 (bi .neq (.t 20) (.t 24))])
(.cond (.t 25) (.seq (.reg [oq 4 (.mv (.c (.bool false)))])
.ret) .skip)))
(.reg [mt 15 5,
oq 16 (bi .add (.t 15) (ci 1)),
mt 5 16]))))))
(.seq (.reg [oq 4 (.mv (.c (.bool true)))])
.ret))))⟩
theorem row56 : Row Tryz.prog (56, a56) := ⟨Tryz.f56, Tryz.func56, by kernel_rfl⟩
noncomputable def a57 : AFn :=
⟨32,[(.cell 6 true 3)],(.seq (.reg [⟨(some 6),(.a (.alloc 48 [(.bool false),.nilsl,.nilsl])),none,0⟩])
(.seq (.seq (.reg [mt 8 1,
oq 9 (.lenSl (.t 8)),
oq 10 (bi .eql (.t 9) (ci 0))])
(.cond (.t 10) (.seq (.reg [⟨(some 11),(.a (.bslice 102 1 1 [(.int .u32 (.ofNat 0))] [(0,(.c (.int .u32 (.ofNat 1))))])),none,0⟩,
oq 12 (.build [(.bool false),.nilsl,.nilsl] [(2,1,(.t 11))]),
⟨none,(.x (.st 3 (.t 6) (.t 12))),none,0⟩])
.ret) .skip))
(.seq (.reg [mt 13 1,
mt 14 2,
oc 15 65 [(.t 13),(.t 14)] 0,
mt 7 15])
(.seq (.reg [mt 17 1,
mt 18 7,
oc 19 78 [(.t 17),(.t 18)] 0,
mt 16 19,
oq 20 (.extract (.t 16) 0),
oq 21 (.extract (.t 16) 1),
mt 1 20])
(.seq (.reg [mt 23 2,
mt 24 7,
oc 25 78 [(.t 23),(.t 24)] 0,
mt 22 25,
oq 26 (.extract (.t 22) 0),
oq 27 (.extract (.t 22) 1),
mt 2 26])
(.seq (.reg [mt 28 0,
mt 29 1,
mt 30 2,
oq 31 (.build [(.bool false),.nilsl,.nilsl] [(0,1,(.t 28)),(1,1,(.t 29)),(2,1,(.t 30))]),
⟨none,(.x (.st 3 (.t 6) (.t 31))),none,0⟩])
.ret))))))⟩
theorem row57 : Row Tryz.prog (57, a57) := ⟨Tryz.f57, Tryz.func57, by kernel_rfl⟩
noncomputable def a58 : AFn :=
⟨20,[(.t 2)],(.seq (.reg [oq 2 (.mv (.c .nilsl))])
(.seq (.reg [oq 3 (.mv (.c .nilsl))])
(.seq (.block 0 (.loop (.seq (.seq (.reg [mt 5 0,
oq 6 (bi .neq (.t 5) (ci 0))])
(.cond (.t 6) .skip (.exit 0)))
(.block 1 (.seq (.reg [mt 7 0,
oq 8 (bi .rem (.t 7) (ci 1000000000)),
mt 4 8])
(.seq (.reg [mt 9 3,
mt 10 4,
mt 11 4,
oq 12 (.un .neg (.t 11)),
oq 13 (.minmax true [(.t 10),(.t 12)]),
oq 14 (.conv (.int .u32) (.t 13)),
⟨(some 15),(.a (.bslice 102 1 1 [(.int .u32 (.ofNat 0))] [(0,(.t 14))])),none,0⟩,
⟨(some 16),(.x (.app 102 1 4 (.t 9) (.t 15))),none,0⟩,
mt 3 16])
(.reg [mt 17 0,
oq 18 (bi .quo (.t 17) (ci 1000000000)),
mt 0 18])))))))
(.seq (.reg [mt 19 3,
mt 2 19])
.ret))))⟩
theorem row58 : Row Tryz.prog (58, a58) := ⟨Tryz.f58, Tryz.func58, by kernel_rfl⟩
noncomputable def a66 : AFn :=
⟨97,[(.t 2),(.t 3)],(.seq (.reg [⟨(some 1),(.a (.box 41 (.t 0))),none,0⟩,
oq 2 (.mv (.c .nilp)),
oq 3 (.mv (ci 0))])
(.seq (.seq (.reg [oq 10 (.faddr 0 (.t 1)),
oq 11 (ld 10),
oq 12 (bi .lss (.t 11) (ci 1)),
mt 13 12,
og 14 13 false 0 (.faddr 0 (.t 1)),
og 15 13 false 0 (ld 14),
og 16 13 false 0 (bi .gtr (.t 15) (ci 4)),
oq 17 (.pick (.t 13) (.c (.bool true)) (.t 16)),
mt 18 17,
og 19 18 false 0 (.faddr 1 (.t 1)),
og 20 18 false 0 (ld 19),
og 21 18 false 0 (.lenSl (.t 20)),
og 22 18 false 0 (bi .lss (.t 21) (ci 1)),
oq 23 (.pick (.t 18) (.c (.bool true)) (.t 22)),
mt 24 23,
og 25 24 false 0 (.faddr 1 (.t 1)),
og 26 24 false 0 (ld 25),
og 27 24 false 0 (.lenSl (.t 26)),
og 28 24 false 0 (bi .gtr (.t 27) (ci 2000)),
oq 29 (.pick (.t 24) (.c (.bool true)) (.t 28)),
mt 30 29,
og 31 30 false 0 (.faddr 2 (.t 1)),
og 32 30 false 0 (ld 31),
og 33 30 false 0 (.lenSl (.t 32)),
og 34 30 false 0 (bi .gtr (.t 33) (ci 200)),
oq 35 (.pick (.t 30) (.c (.bool true)) (.t 34))])
(.cond (.t 35) (.seq (.reg [oq 2 (.mv (.c .nilp)),
oq 3 (.mv (ci 2))])
.ret) .skip))
(.seq (.reg [oq 36 (.ld true 3 (.t 1)),
oq 37 (.build [(.int .i64 (.ofNat 0)),.nilsl,.nilsl,.nilsl,.nilsl,.nilsl] [(0,3,(.t 36))]),
⟨(some 38),(.a (.box 140 (.t 37))),none,0⟩,
mt 4 38])
(.seq (.seq (.reg [oq 39 (.faddr 1 (.t 1)),
oq 40 (ld 39),
oq 41 (.lenSl (.t 40)),
oq 42 (.mv (ci 0))])
(.block 0 (.loop (.seq (.reg [oq 43 (bi .lss (.t 42) (.t 41))])
(.seq (.cond (.t 43) .skip (.exit 0))
(.seq (.block 1 (.seq (.reg [oq 44 (.iaddr (.slice 6) (.t 40) (.t 42)),
oq 45 (.ld true 6 (.t 44)),
⟨(some 6),(.a (.alloc 70 [(.int .i64 (.ofNat 0)),(.int .i64 (.ofNat 0)),(.int .i64 (.ofNat 0)),.nilsl,.nilsl,.nilsl])),none,0⟩,
⟨none,(.x (.st 6 (.t 6) (.t 45))),none,0⟩])
(.seq (.reg [mt 46 4,
oq 47 (.ld true 6 (.t 6)),
oc 48 89 [(.t 46),(.t 47)] 0,
mt 7 48])
(.seq (.reg [mt 49 7,
oq 50 (bi .neq (.t 49) (ci 0))])
(.cond (.t 50) (.seq (.reg [mt 51 7,
oq 2 (.mv (.c .nilp)),
mt 3 51])
.ret) .skip)))))
(.reg [oq 52 (bi .add (.t 42) (ci 1)),
mt 42 52])))))))
(.seq (.drw [mt 53 4,
mt 54 4,
mt 55 4,
oq 56 (.faddr 1 (.t 1)),
om 57 8 (ld 56),
om 58 24 (.lenSl (.t 57)),
⟨(some 59),(.a (.mkSlice 3 1 8 [(.int .i64 (.ofNat 0))] (.t 58) (.t 58))),none,56⟩,
oq 60 (.faddr 1 (.t 1)),
om 61 128 (ld 60),
om 62 384 (.lenSl (.t 61)),
⟨(some 63),(.a (.mkSlice 3 1 8 [(.int .i64 (.ofNat 0))] (.t 62) (.t 62))),none,896⟩,
oq 64 (.faddr 1 (.t 1)),
om 65 2048 (ld 64),
om 66 6144 (.lenSl (.t 65)),
⟨(some 67),(.a (.mkSlice 3 1 8 [(.int .i64 (.ofNat 0))] (.t 66) (.t 66))),none,14336⟩,
om 68 121 (.nilchk (.t 53)),
om 69 32889 (.faddr 3 (.t 68)),
⟨none,(.x (.st 1 (.t 69) (.t 59))),none,98425⟩,
om 70 231419 (.nilchk (.t 54)),
om 71 493563 (.faddr 4 (.t 70)),
⟨none,(.x (.st 1 (.t 71) (.t 63))),none,1017851⟩,
om 72 2097151 (.nilchk (.t 55)),
om 73 4194303 (.faddr 5 (.t 72)),
⟨none,(.x (.st 1 (.t 73) (.t 67))),none,8388607⟩])
(.seq (.seq (.reg [mt 75 4,
oq 76 (.faddr 1 (.t 1)),
oq 77 (ld 76),
oc 78 90 [(.t 75),(.c (.int .i64 (.negSucc 0))),(ci 0),(.t 77)] 0,
mt 74 78,
oq 79 (.extract (.t 74) 0),
oq 80 (.extract (.t 74) 1),
mt 8 79,
mt 9 80])
(.seq (.reg [mt 81 9,
oq 82 (.un .not (.t 81)),
mt 83 82,
og 84 83 false 0 (.mv (.t 8)),
og 85 83 false 0 (.lenSl (.t 84)),
og 86 83 false 0 (bi .gtr (.t 85) (ci 0)),
oq 87 (.pick (.t 83) (.c (.bool true)) (.t 86))])
(.cond (.t 87) (.seq (.reg [oq 2 (.mv (.c .nilp)),
oq 3 (.mv (ci 9))])
.ret) .skip)))
(.seq (.seq (.reg [mt 88 4,
oq 89 (.nilchk (.t 88)),
oq 90 (.faddr 4 (.t 89)),
oq 91 (ld 90),
oc 92 91 [(.t 91)] 0,
oq 93 (bi .gtr (.t 92) (ci 40))])
(.cond (.t 93) (.seq (.reg [oq 2 (.mv (.c .nilp)),
oq 3 (.mv (ci 5))])
.ret) .skip))
(.seq (.reg [mt 94 4,
mt 95 4,
oc 96 92 [(.t 95)] 0,
mt 2 94,
mt 3 96])
.ret))))))))⟩
theorem row66 : Row Tryz.prog (66, a66) := ⟨Tryz.f66, Tryz.func66, by kernel_rfl⟩
noncomputable def a67 : AFn :=
⟨134,[],(.seq (.reg [oq 8 (.mv (.c (.bool true)))])
(.seq (.reg [oq 9 (.mv (.c (.bool true)))])
(.block 0 (.loop (.block 1 (.seq (.reg [mt 19 2,
mt 20 1,
oq 21 (bi .sub (.t 19) (.t 20)),
mt 10 21])
(.seq (.seq (.reg [mt 22 10,
oq 23 (bi .leq (.t 22) (ci 12))])
(.cond (.t 23) (.seq (.reg [mt 24 0,
mt 25 1,
mt 26 2,
oc 27 93 [(.t 24),(.t 25),(.t 26)] 0])
.ret) .skip))
(.seq (.seq (.reg [mt 28 3,
oq 29 (bi .eql (.t 28) (ci 0))])
(.cond (.t 29) (.seq (.reg [mt 30 0,
mt 31 1,
mt 32 2,
oc 33 94 [(.t 30),(.t 31),(.t 32)] 0])
.ret) .skip))
(.seq (.seq (.reg [mt 34 8,
oq 35 (.un .not (.t 34))])
(.cond (.t 35) (.seq (.reg [mt 36 0,
mt 37 1,
mt 38 2,
oc 39 95 [(.t 36),(.t 37),(.t 38)] 0])
(.reg [mt 40 3,
oq 41 (bi .sub (.t 40) (ci 1)),
mt 3 41])) .skip))
(.seq (.reg [mt 43 0,
mt 44 1,
mt 45 2,
oc 46 96 [(.t 43),(.t 44),(.t 45)] 0,
mt 42 46,
oq 47 (.extract (.t 42) 0),
oq 48 (.extract (.t 42) 1),
mt 11 47,
mt 12 48])
(.seq (.seq (.reg [mt 49 12,
oq 50 (bi .eql (.t 49) (ci 2))])
(.cond (.t 50) (.seq (.reg [mt 51 0,
mt 52 1,
mt 53 2,
oc 54 97 [(.t 51),(.t 52),(.t 53)] 0])
(.seq (.reg [mt 55 2,
oq 56 (bi .sub (.t 55) (ci 1)),
mt 57 11,
mt 58 1,
oq 59 (bi .sub (.t 57) (.t 58)),
oq 60 (bi .sub (.t 56) (.t 59)),
mt 11 60])
(.reg [oq 12 (.mv (ci 1))]))) .skip))
(.seq (.seq (.reg [mt 61 8,
mt 62 61,
og 63 62 true 0 (.mv (.t 9)),
oq 64 (.pick (.t 62) (.t 63) (.c (.bool false))),
mt 65 64,
og 66 65 true 0 (.mv (.t 12)),
og 67 65 true 0 (bi .eql (.t 66) (ci 1)),
oq 68 (.pick (.t 65) (.t 67) (.c (.bool false)))])
(.cond (.t 68) (.seq (.reg [mt 69 0,
mt 70 1,
mt 71 2,
oc 72 98 [(.t 69),(.t 70),(.t 71)] 0])
(.cond (.t 72) .ret .skip)) .skip))
(.seq (.seq (.drw [mt 73 1,
om 74 1 (bi .gtr (.t 73) (ci 0)),
om 75 3 (.mv (.t 74)),
og 76 75 true 7 (.mv (.t 0)),
og 77 75 true 7 (.mv (.t 1)),
og 78 75 true 23 (bi .sub (.t 77) (ci 1)),
og 79 75 true 63 (.iaddr (.slice 1) (.t 76) (.t 78)),
og 80 75 true 127 (ld 79),
og 81 75 true 7 (.mv (.t 0)),
og 82 75 true 7 (.mv (.t 11)),
og 83 75 true 775 (.iaddr (.slice 1) (.t 81) (.t 82)),
og 84 75 true 1799 (ld 83),
⟨(some 85),(.x (.call (.c (.fn 99 [] [])) [(.t 80),(.t 84)])),(some (75,true)),4095⟩,
og 86 75 true 8191 (.un .not (.t 85)),
om 87 16383 (.pick (.t 75) (.t 86) (.c (.bool false)))])
(.cond (.t 87) (.seq (.reg [mt 88 0,
mt 89 1,
mt 90 2,
mt 91 11,
oc 92 100 [(.t 88),(.t 89),(.t 90),(.t 91)] 0,
mt 13 92])
(.seq (.reg [mt 93 13,
mt 1 93])
(.exit 1))) .skip))
(.seq (.reg [mt 95 0,
mt 96 1,
mt 97 2,
mt 98 11,
oc 99 101 [(.t 95),(.t 96),(.t 97),(.t 98)] 0,
mt 94 99,
oq 100 (.extract (.t 94) 0),
oq 101 (.extract (.t 94) 1),
mt 14 100,
mt 15 101])
(.seq (.reg [mt 102 15,
mt 9 102])
(.seq (.reg [mt 103 14,
mt 104 1,
oq 105 (bi .sub (.t 103) (.t 104)),
mt 106 2,
mt 107 14,
oq 108 (bi .sub (.t 106) (.t 107)),
mt 16 105,
mt 17 108])
(.seq (.reg [mt 109 10,
oq 110 (bi .quo (.t 109) (ci 8)),
mt 18 110])
(.seq (.reg [mt 111 16,
mt 112 17,
oq 113 (bi .lss (.t 111) (.t 112))])
(.cond (.t 113) (.seq (.reg [mt 114 16,
mt 115 18,
oq 116 (bi .geq (.t 114) (.t 115)),
mt 8 116])
(.seq (.reg [mt 117 0,
mt 118 1,
mt 119 14,
mt 120 3,
oc 121 67 [(.t 117),(.t 118),(.t 119),(.t 120)] 0])
(.reg [mt 122 14,
oq 123 (bi .add (.t 122) (ci 1)),
mt 1 123]))) (.seq (.reg [mt 124 17,
mt 125 18,
oq 126 (bi .geq (.t 124) (.t 125)),
mt 8 126])
(.seq (.reg [mt 127 0,
mt 128 14,
oq 129 (bi .add (.t 128) (ci 1)),
mt 130 2,
mt 131 3,
oc 132 67 [(.t 127),(.t 129),(.t 130),(.t 131)] 0])
(.reg [mt 133 14,
mt 2 133]))))))))))))))))))))))⟩
theorem row67 : Row Tryz.prog (67, a67) := ⟨Tryz.f67, Tryz.func67, by kernel_rfl⟩
noncomputable def a68 : AFn :=
⟨8,[(.t 2)],(.seq (.reg [oq 2 (.mv (ci 0))])
(.seq (.cond (.c (.bool false)) (.seq (.reg [mt 3 0,
oq 4 (.conv (.int .u32) (.t 3)),
oc 5 102 [(.t 4)] 0,
mt 2 5])
.ret) .skip)
(.seq (.reg [mt 6 0,
oc 7 103 [(.t 6)] 0,
mt 2 7])
.ret)))⟩
theorem row68 : Row Tryz.prog (68, a68) := ⟨Tryz.f68, Tryz.func68, by kernel_rfl⟩
noncomputable def a69 : AFn :=
⟨15,[(.t 2)],(.seq (.reg [oq 2 (.mv (.c .nilsl))])
(.seq (.reg [oq 3 (.mv (.c .nilsl))])
(.seq (.block 0 (.loop (.seq (.seq (.reg [mt 4 0,
oq 5 (bi .gtr (.t 4) (.c (.int .u64 (.ofNat 0))))])
(.cond (.t 5) .skip (.exit 0)))
(.seq (.block 1 (.reg [mt 8 3,
mt 9 0,
oq 10 (bi .rem (.t 9) (.c (.int .u64 (.ofNat 1000000000)))),
oq 11 (.conv (.int .u32) (.t 10)),
⟨(some 12),(.a (.bslice 102 1 1 [(.int .u32 (.ofNat 0))] [(0,(.t 11))])),none,0⟩,
⟨(some 13),(.x (.app 102 1 4 (.t 8) (.t 12))),none,0⟩,
mt 3 13]))
(.reg [mt 6 0,
oq 7 (bi .quo (.t 6) (.c (.int .u64 (.ofNat 1000000000)))),
mt 0 7])))))
(.seq (.reg [mt 14 3,
mt 2 14])
.ret))))⟩
theorem row69 : Row Tryz.prog (69, a69) := ⟨Tryz.f69, Tryz.func69, by kernel_rfl⟩
noncomputable def a70 : AFn :=
⟨14,[(.cell 4 true 3)],(.seq (.reg [⟨(some 2),(.a (.box 64 (.t 0))),none,0⟩,
⟨(some 3),(.a (.box 64 (.t 1))),none,0⟩,
⟨(some 4),(.a (.alloc 64 [(.bool false),.nilsl,.nilsl])),none,0⟩])
(.seq (.drw [oq 5 (.ld true 3 (.t 2)),
oq 6 (.faddr 0 (.t 3)),
om 7 2 (ld 6),
oq 8 (.ld true 3 (.t 3)),
oc 9 74 [(.t 8)] 8,
oq 10 (.faddr 1 (.t 3)),
om 11 32 (ld 10),
oc 12 73 [(.t 7),(.t 9),(.t 11)] 126,
oc 13 53 [(.t 5),(.t 12)] 255,
⟨none,(.x (.st 3 (.t 4) (.t 13))),none,511⟩])
.ret))⟩
theorem row70 : Row Tryz.prog (70, a70) := ⟨Tryz.f70, Tryz.func70, by kernel_rfl⟩
noncomputable def a71 : AFn :=
⟨7,[(.t 2)],(.seq (.reg [⟨(some 1),(.a (.box 64 (.t 0))),none,0⟩,
oq 2 (.mv (.c (.bool false)))])
(.seq (.reg [oq 3 (.faddr 1 (.t 1)),
oq 4 (ld 3),
oq 5 (.lenSl (.t 4)),
oq 6 (bi .eql (.t 5) (ci 0)),
mt 2 6])
.ret))⟩
theorem row71 : Row Tryz.prog (71, a71) := ⟨Tryz.f71, Tryz.func71, by kernel_rfl⟩
noncomputable def a72 : AFn :=
⟨31,[(.t 8),(.t 9)],(.seq (.reg [oq 8 (.mv (.c (.bool false))),
oq 9 (.mv (.c .nilsl))])
(.seq (.block 0 (.seq (.reg [mt 11 0,
mt 12 2,
oq 13 (.bin .eql (.p .bool) (.t 11) (.t 12)),
mt 10 13])
(.cond (.t 10) (.seq (.reg [mt 14 0,
mt 15 1,
mt 16 3,
oc 17 104 [(.t 15),(.t 16)] 0,
mt 8 14,
mt 9 17])
.ret) (.seq (.reg [mt 19 1,
mt 20 3,
oc 21 105 [(.t 19),(.t 20)] 0,
oq 22 (bi .geq (.t 21) (ci 0)),
mt 18 22])
(.cond (.t 18) (.seq (.reg [mt 23 0,
mt 24 1,
mt 25 3,
oc 26 106 [(.t 24),(.t 25)] 0,
mt 8 23,
mt 9 26])
.ret) .skip)))))
(.seq (.reg [mt 27 2,
mt 28 3,
mt 29 1,
oc 30 106 [(.t 28),(.t 29)] 0,
mt 8 27,
mt 9 30])
.ret)))⟩
theorem row72 : Row Tryz.prog (72, a72) := ⟨Tryz.f72, Tryz.func72, by kernel_rfl⟩
noncomputable def a73 : AFn :=
⟨17,[(.cell 6 true 3)],(.seq (.reg [⟨(some 6),(.a (.alloc 64 [(.bool false),.nilsl,.nilsl])),none,0⟩])
(.seq (.seq (.reg [mt 7 1,
oq 8 (.lenSl (.t 7)),
oq 9 (bi .eql (.t 8) (ci 0))])
(.cond (.t 9) (.seq (.reg [oq 10 (.build [(.bool false),.nilsl,.nilsl] []),
⟨none,(.x (.st 3 (.t 6) (.t 10))),none,0⟩])
.ret) .skip))
(.seq (.seq (.reg [mt 11 2,
oc 12 107 [(.t 11)] 0])
(.cond (.t 12) (.reg [oq 2 (.mv (.c .nilsl))]) .skip))
(.seq (.reg [mt 13 0,
mt 14 1,
mt 15 2,
oq 16 (.build [(.bool false),.nilsl,.nilsl] [(0,1,(.t 13)),(1,1,(.t 14)),(2,1,(.t 15))]),
⟨none,(.x (.st 3 (.t 6) (.t 16))),none,0⟩])
.ret))))⟩
theorem row73 : Row Tryz.prog (73, a73) := ⟨Tryz.f73, Tryz.func73, by kernel_rfl⟩
noncomputable def a74 : AFn :=
⟨10,[(.t 2)],(.seq (.reg [⟨(some 1),(.a (.box 64 (.t 0))),none,0⟩,
oq 2 (.mv (.c .nilsl))])
(.seq (.seq (.reg [oq 3 (.faddr 2 (.t 1)),
oq 4 (ld 3),
oq 5 (.lenSl (.t 4)),
oq 6 (bi .eql (.t 5) (ci 0))])
(.cond (.t 6) (.seq (.reg [⟨(some 7),(.a (.bslice 102 1 1 [(.int .u32 (.ofNat 0))] [(0,(.c (.int .u32 (.ofNat 1))))])),none,0⟩,
mt 2 7])
.ret) .skip))
(.seq (.reg [oq 8 (.faddr 2 (.t 1)),
oq 9 (ld 8),
mt 2 9])
.ret)))⟩
theorem row74 : Row Tryz.prog (74, a74) := ⟨Tryz.f74, Tryz.func74, by kernel_rfl⟩
noncomputable def a75 : AFn :=
⟨55,[(.t 4)],(.seq (.reg [oq 4 (.mv (.c .nilsl))])
(.seq (.seq (.reg [mt 12 0,
mt 13 1,
oc 14 105 [(.t 12),(.t 13)] 0,
oq 15 (bi .lss (.t 14) (ci 0))])
(.cond (.t 15) (.reg [mt 16 1,
mt 17 0,
mt 0 16,
mt 1 17]) .skip))
(.seq (.block 0 (.loop (.seq (.seq (.reg [mt 18 0,
oq 19 (.lenSl (.t 18)),
oq 20 (bi .gtr (.t 19) (ci 2))])
(.cond (.t 20) .skip (.exit 0)))
(.block 1 (.seq (.seq (.reg [mt 21 1,
oq 22 (.lenSl (.t 21)),
oq 23 (bi .eql (.t 22) (ci 0))])
(.cond (.t 23) (.seq (.reg [mt 24 0,
mt 4 24])
.ret) .skip))
(.seq (.seq (.reg [mt 26 0,
mt 27 1,
oc 28 108 [(.t 26),(.t 27)] 0,
mt 25 28,
oq 29 (.extract (.t 25) 0),
oq 30 (.extract (.t 25) 1),
oq 31 (.extract (.t 25) 2),
mt 5 29,
mt 6 30,
mt 7 31])
(.seq (.reg [mt 32 7])
(.cond (.t 32) (.seq (.reg [mt 33 5,
mt 34 6,
mt 0 33,
mt 1 34])
(.exit 1)) .skip)))
(.seq (.reg [mt 36 0,
mt 37 1,
oc 38 109 [(.t 36),(.t 37)] 0,
mt 35 38,
oq 39 (.extract (.t 35) 0),
oq 40 (.extract (.t 35) 1),
mt 8 39,
mt 9 40])
(.reg [mt 41 1,
mt 42 9,
mt 0 41,
mt 1 42]))))))))
(.seq (.reg [mt 43 0,
oc 44 110 [(.t 43)] 0,
mt 45 1,
oc 46 110 [(.t 45)] 0,
mt 10 44,
mt 11 46])
(.seq (.block 2 (.loop (.seq (.seq (.reg [mt 47 11,
oq 48 (bi .gtr (.t 47) (.c (.int .u64 (.ofNat 0))))])
(.cond (.t 48) .skip (.exit 2)))
(.block 3 (.drw [mt 49 11,
mt 50 10,
mt 51 11,
om 52 6 (bi .rem (.t 50) (.t 51)),
om 10 3 (.mv (.t 49)),
om 11 31 (.mv (.t 52))])))))
(.seq (.reg [mt 53 10,
oc 54 69 [(.t 53)] 0,
mt 4 54])
.ret))))))⟩
theorem row75 : Row Tryz.prog (75, a75) := ⟨Tryz.f75, Tryz.func75, by kernel_rfl⟩
noncomputable def a76 : AFn :=
⟨17,[(.t 4)],(.seq (.reg [oq 4 (.mv (.c .nilsl))])
(.seq (.seq (.reg [mt 7 1,
oc 8 107 [(.t 7)] 0])
(.cond (.t 8) (.seq (.reg [mt 9 0,
mt 4 9])
.ret) .skip))
(.seq (.reg [mt 11 0,
mt 12 1,
oc 13 109 [(.t 11),(.t 12)] 0,
mt 10 13,
oq 14 (.extract (.t 10) 0),
oq 15 (.extract (.t 10) 1),
mt 5 14,
mt 6 15])
(.seq (.reg [mt 16 5,
mt 4 16])
.ret))))⟩
theorem row76 : Row Tryz.prog (76, a76) := ⟨Tryz.f76, Tryz.func76, by kernel_rfl⟩
noncomputable def a77 : AFn :=
⟨86,[(.t 4)],(.seq (.reg [oq 4 (.mv (.c .nilsl))])
(.seq (.block 0 (.seq (.reg [mt 13 0,
oq 14 (.lenSl (.t 13)),
oq 15 (bi .eql (.t 14) (ci 0)),
mt 16 15,
og 17 16 false 0 (.mv (.t 1)),
og 18 16 false 0 (.lenSl (.t 17)),
og 19 16 false 0 (bi .eql (.t 18) (ci 0)),
oq 20 (.pick (.t 16) (.c (.bool true)) (.t 19)),
mt 12 20])
(.cond (.t 12) (.seq (.reg [oq 4 (.mv (.c .nilsl))])
.ret) (.seq (.reg [mt 22 0,
oc 23 107 [(.t 22)] 0,
mt 21 23])
(.cond (.t 21) (.seq (.reg [mt 24 1,
mt 4 24])
.ret) (.seq (.reg [mt 26 1,
oc 27 107 [(.t 26)] 0,
mt 25 27])
(.cond (.t 25) (.seq (.reg [mt 28 0,
mt 4 28])
.ret) .skip)))))))
(.seq (.reg [mt 29 0,
oq 30 (.lenSl (.t 29)),
mt 31 1,
oq 32 (.lenSl (.t 31)),
oq 33 (bi .add (.t 30) (.t 32)),
⟨(some 34),(.a (.mkSlice 102 1 4 [(.int .u32 (.ofNat 0))] (.t 33) (.t 33))),none,0⟩,
mt 5 34])
(.seq (.seq (.reg [mt 35 0,
oq 36 (.lenSl (.t 35)),
oq 37 (.mv (ci 0))])
(.block 1 (.loop (.seq (.reg [oq 38 (bi .lss (.t 37) (.t 36))])
(.seq (.cond (.t 38) .skip (.exit 1))
(.seq (.block 2 (.seq (.reg [mt 39 37,
oq 40 (.iaddr (.slice 1) (.t 35) (.t 37)),
oq 41 (ld 40),
mt 6 39,
mt 7 41])
(.seq (.reg [oq 8 (.mv (.c (.int .u64 (.ofNat 0))))])
(.seq (.seq (.reg [mt 42 1,
oq 43 (.lenSl (.t 42)),
oq 44 (.mv (ci 0))])
(.block 3 (.loop (.seq (.reg [oq 45 (bi .lss (.t 44) (.t 43))])
(.seq (.cond (.t 45) .skip (.exit 3))
(.seq (.block 4 (.seq (.reg [mt 46 44,
oq 47 (.iaddr (.slice 1) (.t 42) (.t 44)),
oq 48 (ld 47),
mt 9 46,
mt 10 48])
(.seq (.reg [mt 49 5,
mt 50 6,
mt 51 9,
oq 52 (bi .add (.t 50) (.t 51)),
oq 53 (.iaddr (.slice 1) (.t 49) (.t 52)),
oq 54 (ld 53),
oq 55 (.conv (.int .u64) (.t 54)),
mt 56 7,
oq 57 (.conv (.int .u64) (.t 56)),
mt 58 10,
oq 59 (.conv (.int .u64) (.t 58)),
oq 60 (bi .mul (.t 57) (.t 59)),
oq 61 (bi .add (.t 55) (.t 60)),
mt 62 8,
oq 63 (bi .add (.t 61) (.t 62)),
mt 11 63])
(.seq (.reg [mt 64 5,
mt 65 6,
mt 66 9,
oq 67 (bi .add (.t 65) (.t 66)),
mt 68 11,
oq 69 (bi .rem (.t 68) (.c (.int .u64 (.ofNat 1000000000)))),
oq 70 (.conv (.int .u32) (.t 69)),
oq 71 (.iaddr (.slice 1) (.t 64) (.t 67)),
⟨none,(.x (.st 1 (.t 71) (.t 70))),none,0⟩])
(.reg [mt 72 11,
oq 73 (bi .quo (.t 72) (.c (.int .u64 (.ofNat 1000000000)))),
mt 8 73])))))
(.reg [oq 74 (bi .add (.t 44) (ci 1)),
mt 44 74])))))))
(.reg [mt 75 5,
mt 76 6,
mt 77 1,
oq 78 (.lenSl (.t 77)),
oq 79 (bi .add (.t 76) (.t 78)),
mt 80 8,
oq 81 (.conv (.int .u32) (.t 80)),
oq 82 (.iaddr (.slice 1) (.t 75) (.t 79)),
⟨none,(.x (.st 1 (.t 82) (.t 81))),none,0⟩])))))
(.reg [oq 83 (bi .add (.t 37) (ci 1)),
mt 37 83])))))))
(.seq (.reg [mt 84 5,
oc 85 111 [(.t 84)] 0,
mt 4 85])
.ret)))))⟩
theorem row77 : Row Tryz.prog (77, a77) := ⟨Tryz.f77, Tryz.func77, by kernel_rfl⟩
noncomputable def a89 : AFn :=
⟨22,[(.t 4)],(.seq (.reg [⟨(some 3),(.a (.box 70 (.t 1))),none,0⟩,
oq 4 (.mv (ci 0))])
(.seq (.reg [oq 6 (.build [.nilfn,.nilfn,.nilfn,.nilfn] [(1,1,(.c (.fn 123 [] []))),(2,1,(.c (.fn 124 [] []))),(3,1,(.c (.fn 125 [] [])))]),
⟨(some 5),(.a (.alloc 170 [.nilfn,.nilfn,.nilfn,.nilfn])),none,0⟩,
⟨none,(.x (.st 4 (.t 5) (.t 6))),none,0⟩])
(.seq (.seq (.reg [oq 7 (.faddr 0 (.t 3)),
oq 8 (ld 7),
oq 9 (bi .lss (.t 8) (ci 1)),
mt 10 9,
og 11 10 false 0 (.faddr 0 (.t 3)),
og 12 10 false 0 (ld 11),
og 13 10 false 0 (bi .gtr (.t 12) (ci 3)),
oq 14 (.pick (.t 10) (.c (.bool true)) (.t 13))])
(.cond (.t 14) (.seq (.reg [oq 4 (.mv (ci 3))])
.ret) .skip))
(.seq (.drw [oq 15 (.faddr 0 (.t 3)),
om 16 1 (ld 15),
om 17 3 (.iaddr (.arr 4 1) (.t 5) (.t 16)),
om 18 7 (ld 17),
mt 19 0,
oq 20 (.ld true 6 (.t 3)),
⟨(some 21),(.x (.call (.t 18) [(.t 19),(.t 20)])),none,63⟩,
om 4 127 (.mv (.t 21))])
.ret))))⟩
theorem row89 : Row Tryz.prog (89, a89) := ⟨Tryz.f89, Tryz.func89, by kernel_rfl⟩
noncomputable def a90 : AFn :=
⟨92,[(.t 8),(.t 9)],(.seq (.reg [oq 8 (.mv (.c .nilsl)),
oq 9 (.mv (.c (.bool false)))])
(.seq (.seq (.reg [mt 15 3,
oq 16 (.lenSl (.t 15)),
oq 17 (bi .eql (.t 16) (ci 0))])
(.cond (.t 17) (.seq (.reg [oq 8 (.mv (.c .nilsl)),
oq 9 (.mv (.c (.bool false)))])
.ret) .skip))
(.seq (.reg [mt 18 0,
oq 19 (.nilchk (.t 18)),
oq 20 (.faddr 0 (.t 19)),
oq 21 (.faddr 1 (.t 20)),
oq 22 (ld 21),
oq 23 (.lenSl (.t 22)),
mt 24 3,
oq 25 (.lenSl (.t 24)),
oq 26 (bi .sub (.t 23) (.t 25)),
mt 10 26])
(.seq (.drw [mt 27 0,
om 28 1 (.nilchk (.t 27)),
om 29 3 (.faddr 3 (.t 28)),
om 30 7 (ld 29),
mt 31 10,
mt 32 0,
om 33 32 (.nilchk (.t 32)),
om 34 96 (.faddr 4 (.t 33)),
om 35 224 (ld 34),
mt 36 10,
mt 37 1,
mt 38 2,
om 39 1535 (.iaddr (.slice 1) (.t 30) (.t 31)),
⟨none,(.x (.st 1 (.t 39) (.t 37))),none,5631⟩,
om 40 16383 (.iaddr (.slice 1) (.t 35) (.t 36)),
⟨none,(.x (.st 1 (.t 40) (.t 38))),none,32767⟩])
(.seq (.reg [mt 41 3,
oq 42 (.slc (.slice 6) (.t 41) (some (ci 1)) none none),
mt 11 42,
oq 12 (.mv (.c (.bool true)))])
(.seq (.seq (.reg [mt 43 3,
oq 44 (.iaddr (.slice 6) (.t 43) (ci 0)),
oq 45 (.faddr 3 (.t 44)),
oq 46 (ld 45),
oq 47 (.lenSl (.t 46)),
oq 48 (.mv (ci 0))])
(.block 0 (.loop (.seq (.reg [oq 49 (bi .lss (.t 48) (.t 47))])
(.seq (.cond (.t 49) .skip (.exit 0))
(.seq (.block 1 (.seq (.reg [oq 50 (.iaddr (.slice 1) (.t 46) (.t 48)),
oq 51 (ld 50),
mt 14 51])
(.seq (.seq (.reg [mt 52 14,
mt 53 0,
oq 54 (.nilchk (.t 53)),
oq 55 (.faddr 0 (.t 54)),
oq 56 (.faddr 1 (.t 55)),
oq 57 (ld 56),
oq 58 (.lenSl (.t 57)),
mt 59 11,
oq 60 (.lenSl (.t 59)),
oq 61 (bi .sub (.t 58) (.t 60)),
oq 62 (bi .neq (.t 52) (.t 61))])
(.cond (.t 62) (.seq (.reg [oq 8 (.mv (.c .nilsl)),
oq 9 (.mv (.c (.bool false)))])
.ret) .skip))
(.seq (.reg [mt 64 0,
mt 65 10,
mt 66 2,
oq 67 (bi .add (.t 66) (ci 1)),
mt 68 11,
oc 69 90 [(.t 64),(.t 65),(.t 67),(.t 68)] 0,
mt 63 69,
oq 70 (.extract (.t 63) 0),
oq 71 (.extract (.t 63) 1),
mt 11 70,
mt 12 71])
(.seq (.reg [mt 72 12,
oq 73 (.un .not (.t 72))])
(.cond (.t 73) (.seq (.reg [oq 8 (.mv (.c .nilsl)),
oq 9 (.mv (.c (.bool false)))])
.ret) .skip))))))
(.reg [oq 74 (bi .add (.t 48) (ci 1)),
mt 48 74])))))))
(.seq (.drw [mt 75 0,
om 76 1 (.nilchk (.t 75)),
om 77 3 (.faddr 5 (.t 76)),
om 78 7 (ld 77),
mt 79 10,
mt 80 0,
om 81 32 (.nilchk (.t 80)),
om 82 96 (.faddr 0 (.t 81)),
om 83 224 (.faddr 1 (.t 82)),
om 84 480 (ld 83),
om 85 992 (.lenSl (.t 84)),
mt 86 11,
om 87 2048 (.lenSl (.t 86)),
om 88 8160 (bi .sub (.t 85) (.t 87)),
om 89 16352 (bi .sub (.t 88) (ci 1)),
om 90 32767 (.iaddr (.slice 1) (.t 78) (.t 79)),
⟨none,(.x (.st 1 (.t 90) (.t 89))),none,65535⟩])
(.seq (.reg [mt 91 11,
mt 8 91,
oq 9 (.mv (.c (.bool true)))])
.ret))))))))⟩
theorem row90 : Row Tryz.prog (90, a90) := ⟨Tryz.f90, Tryz.func90, by kernel_rfl⟩
noncomputable def a91 : AFn :=
⟨25,[(.t 2)],(.seq (.reg [oq 2 (.mv (ci 0))])
(.seq (.seq (.reg [mt 5 0,
oq 6 (.lenSl (.t 5)),
oq 7 (bi .lss (.t 6) (ci 1))])
(.cond (.t 7) (.reg [oq 8 (.mkIface 9 (.c (.str [115,108,105,99,101,115,46,77,97,120,58,32,101,109,112,116,121,32,108,105,115,116]))),
⟨none,(.x (.bad)),none,0⟩]) .skip))
(.seq (.reg [mt 9 0,
oq 10 (.iaddr (.slice 1) (.t 9) (ci 0)),
oq 11 (ld 10),
mt 3 11])
(.seq (.seq (.reg [oq 4 (.mv (ci 1))])
(.block 0 (.loop (.seq (.seq (.reg [mt 12 4,
mt 13 0,
oq 14 (.lenSl (.t 13)),
oq 15 (bi .lss (.t 12) (.t 14))])
(.cond (.t 15) .skip (.exit 0)))
(.seq (.block 1 (.reg [mt 18 3,
mt 19 0,
mt 20 4,
oq 21 (.iaddr (.slice 1) (.t 19) (.t 20)),
oq 22 (ld 21),
oq 23 (.minmax true [(.t 18),(.t 22)]),
mt 3 23]))
(.reg [mt 16 4,
oq 17 (bi .add (.t 16) (ci 1)),
mt 4 17]))))))
(.seq (.reg [mt 24 3,
mt 2 24])
.ret)))))⟩
theorem row91 : Row Tryz.prog (91, a91) := ⟨Tryz.f91, Tryz.func91, by kernel_rfl⟩
noncomputable def a92 : AFn :=
⟨80,[(.t 2)],(.seq (.reg [oq 2 (.mv (ci 0))])
(.seq (.reg [mt 8 0,
oq 9 (.nilchk (.t 8)),
oq 10 (.faddr 0 (.t 9)),
oq 11 (.faddr 2 (.t 10)),
oq 12 (ld 11),
oq 13 (.lenSl (.t 12)),
⟨(some 14),(.a (.mkSlice 3 1 8 [(.int .i64 (.ofNat 0))] (.t 13) (.t 13))),none,0⟩,
mt 3 14])
(.seq (.seq (.reg [mt 15 0,
oq 16 (.nilchk (.t 15)),
oq 17 (.faddr 0 (.t 16)),
oq 18 (.faddr 1 (.t 17)),
oq 19 (ld 18),
oq 20 (.lenSl (.t 19)),
oq 21 (bi .sub (.t 20) (ci 1)),
mt 4 21])
(.block 0 (.loop (.seq (.seq (.reg [mt 22 4,
oq 23 (bi .geq (.t 22) (ci 0))])
(.cond (.t 23) .skip (.exit 0)))
(.seq (.block 1 (.seq (.reg [mt 26 0,
oq 27 (.nilchk (.t 26)),
oq 28 (.faddr 0 (.t 27)),
oq 29 (.faddr 1 (.t 28)),
oq 30 (ld 29),
mt 31 4,
oq 32 (.iaddr (.slice 6) (.t 30) (.t 31)),
oq 33 (.ld true 6 (.t 32)),
⟨(some 5),(.a (.alloc 70 [(.int .i64 (.ofNat 0)),(.int .i64 (.ofNat 0)),(.int .i64 (.ofNat 0)),.nilsl,.nilsl,.nilsl])),none,0⟩,
⟨none,(.x (.st 6 (.t 5) (.t 33))),none,0⟩])
(.seq (.reg [oq 34 (.faddr 0 (.t 5)),
oq 35 (ld 34),
oq 36 (bi .eql (.t 35) (ci 2))])
(.cond (.t 36) (.reg [mt 37 3,
oq 38 (.faddr 2 (.t 5)),
oq 39 (ld 38),
mt 40 4,
oq 41 (bi .add (.t 40) (ci 1)),
oq 42 (.iaddr (.slice 1) (.t 37) (.t 39)),
⟨none,(.x (.st 1 (.t 42) (.t 41))),none,0⟩]) .skip))))
(.reg [mt 24 4,
oq 25 (bi .sub (.t 24) (ci 1)),
mt 4 25]))))))
(.seq (.seq (.reg [mt 43 0,
oq 44 (.nilchk (.t 43)),
oq 45 (.faddr 0 (.t 44)),
oq 46 (.faddr 1 (.t 45)),
oq 47 (ld 46),
oq 48 (.lenSl (.t 47)),
oq 49 (.mv (ci 0))])
(.block 2 (.loop (.seq (.reg [oq 50 (bi .lss (.t 49) (.t 48))])
(.seq (.cond (.t 50) .skip (.exit 2))
(.seq (.block 3 (.seq (.reg [oq 51 (.iaddr (.slice 6) (.t 47) (.t 49)),
oq 52 (.ld true 6 (.t 51)),
⟨(some 7),(.a (.alloc 70 [(.int .i64 (.ofNat 0)),(.int .i64 (.ofNat 0)),(.int .i64 (.ofNat 0)),.nilsl,.nilsl,.nilsl])),none,0⟩,
⟨none,(.x (.st 6 (.t 7) (.t 52))),none,0⟩])
(.seq (.drw [oq 53 (.faddr 0 (.t 7)),
om 54 1 (ld 53),
om 55 3 (bi .eql (.t 54) (ci 2)),
om 56 7 (.mv (.t 55)),
og 57 56 true 15 (.mv (.t 0)),
og 58 56 true 31 (.nilchk (.t 57)),
og 59 56 true 63 (.faddr 0 (.t 58)),
og 60 56 true 127 (.faddr 2 (.t 59)),
og 61 56 true 255 (ld 60),
og 62 56 true 15 (.faddr 2 (.t 7)),
og 63 56 true 527 (ld 62),
og 64 56 true 2047 (.iaddr (.slice 2) (.t 61) (.t 63)),
og 65 56 true 4095 (.ld true 2 (.t 64)),
og 66 56 true 15 (.faddr 1 (.t 7)),
og 67 56 true 8207 (ld 66),
og 68 56 true 15 (.faddr 3 (.t 7)),
og 69 56 true 32783 (ld 68),
og 70 56 true 98319 (.lenSl (.t 69)),
og 71 56 true 253967 (.build [(.int .i64 (.ofNat 0)),(.int .i64 (.ofNat 0))] [(0,1,(.t 67)),(1,1,(.t 70))]),
og 72 56 true 524287 (.bin .neq (.struct [(0,.int),(1,.int)]) (.t 65) (.t 71)),
om 73 1048575 (.pick (.t 56) (.t 72) (.c (.bool false)))])
(.cond (.t 73) (.seq (.reg [oq 2 (.mv (ci 10))])
.ret) .skip))))
(.reg [oq 74 (bi .add (.t 49) (ci 1)),
mt 49 74])))))))
(.seq (.seq (.reg [mt 75 3,
oc 76 126 [(.t 75),(ci 0)] 0])
(.cond (.t 76) (.seq (.reg [oq 2 (.mv (ci 18))])
.ret) .skip))
(.seq (.seq (.reg [mt 77 3,
oc 78 127 [(.t 77)] 0,
oq 79 (.un .not (.t 78))])
(.cond (.t 79) (.seq (.reg [oq 2 (.mv (ci 9))])
.ret) .skip))
(.seq (.reg [oq 2 (.mv (ci 0))])
.ret)))))))⟩
theorem row92 : Row Tryz.prog (92, a92) := ⟨Tryz.f92, Tryz.func92, by kernel_rfl⟩
noncomputable def a93 : AFn :=
⟨49,[],(.seq (.reg [mt 8 1,
oq 9 (bi .add (.t 8) (ci 1)),
mt 6 9])
(.block 0 (.loop (.seq (.seq (.reg [mt 10 6,
mt 11 2,
oq 12 (bi .lss (.t 10) (.t 11))])
(.cond (.t 12) .skip (.exit 0)))
(.seq (.block 1 (.seq (.reg [mt 15 6,
mt 7 15])
(.block 2 (.loop (.seq (.seq (.drw [mt 16 7,
mt 17 1,
om 18 3 (bi .gtr (.t 16) (.t 17)),
om 19 7 (.mv (.t 18)),
og 20 19 true 15 (.mv (.t 0)),
og 21 19 true 15 (.mv (.t 7)),
og 22 19 true 63 (.iaddr (.slice 1) (.t 20) (.t 21)),
og 23 19 true 127 (ld 22),
og 24 19 true 15 (.mv (.t 0)),
og 25 19 true 15 (.mv (.t 7)),
og 26 19 true 527 (bi .sub (.t 25) (ci 1)),
og 27 19 true 1807 (.iaddr (.slice 1) (.t 24) (.t 26)),
og 28 19 true 3855 (ld 27),
⟨(some 29),(.x (.call (.c (.fn 99 [] [])) [(.t 23),(.t 28)])),(some (19,true)),8191⟩,
om 30 16383 (.pick (.t 19) (.t 29) (.c (.bool false)))])
(.cond (.t 30) .skip (.exit 2)))
(.seq (.block 3 (.drw [mt 33 0,
mt 34 7,
mt 35 0,
mt 36 7,
om 37 8 (bi .sub (.t 36) (ci 1)),
mt 38 0,
mt 39 7,
om 40 64 (bi .sub (.t 39) (ci 1)),
om 41 224 (.iaddr (.slice 1) (.t 38) (.t 40)),
om 42 480 (ld 41),
mt 43 0,
mt 44 7,
om 45 3072 (.iaddr (.slice 1) (.t 43) (.t 44)),
om 46 7168 (ld 45),
om 47 16355 (.iaddr (.slice 1) (.t 33) (.t 34)),
⟨none,(.x (.st 1 (.t 47) (.t 42))),none,32739⟩,
om 48 65535 (.iaddr (.slice 1) (.t 35) (.t 37)),
⟨none,(.x (.st 1 (.t 48) (.t 46))),none,131071⟩]))
(.reg [mt 31 7,
oq 32 (bi .sub (.t 31) (ci 1)),
mt 7 32])))))))
(.reg [mt 13 6,
oq 14 (bi .add (.t 13) (ci 1)),
mt 6 14]))))))⟩
theorem row93 : Row Tryz.prog (93, a93) := ⟨Tryz.f93, Tryz.func93, by kernel_rfl⟩
noncomputable def a94 : AFn :=
⟨56,[],(.seq (.reg [mt 11 1,
mt 6 11])
(.seq (.reg [oq 7 (.mv (ci 0))])
(.seq (.reg [mt 12 2,
mt 13 1,
oq 14 (bi .sub (.t 12) (.t 13)),
mt 8 14])
(.seq (.seq (.reg [mt 15 8,
oq 16 (bi .sub (.t 15) (ci 1)),
oq 17 (bi .quo (.t 16) (ci 2)),
mt 9 17])
(.block 0 (.loop (.seq (.seq (.reg [mt 18 9,
oq 19 (bi .geq (.t 18) (ci 0))])
(.cond (.t 19) .skip (.exit 0)))
(.seq (.block 1 (.reg [mt 22 0,
mt 23 9,
mt 24 8,
mt 25 6,
oc 26 128 [(.t 22),(.t 23),(.t 24),(.t 25)] 0]))
(.reg [mt 20 9,
oq 21 (bi .sub (.t 20) (ci 1)),
mt 9 21]))))))
(.seq (.reg [mt 27 8,
oq 28 (bi .sub (.t 27) (ci 1)),
mt 10 28])
(.block 2 (.loop (.seq (.seq (.reg [mt 29 10,
oq 30 (bi .geq (.t 29) (ci 0))])
(.cond (.t 30) .skip (.exit 2)))
(.seq (.block 3 (.seq (.drw [mt 33 0,
mt 34 6,
mt 35 0,
mt 36 6,
mt 37 10,
om 38 24 (bi .add (.t 36) (.t 37)),
mt 39 0,
mt 40 6,
mt 41 10,
om 42 384 (bi .add (.t 40) (.t 41)),
om 43 960 (.iaddr (.slice 1) (.t 39) (.t 42)),
om 44 1984 (ld 43),
mt 45 0,
mt 46 6,
om 47 12288 (.iaddr (.slice 1) (.t 45) (.t 46)),
om 48 28672 (ld 47),
om 49 65475 (.iaddr (.slice 1) (.t 33) (.t 34)),
⟨none,(.x (.st 1 (.t 49) (.t 44))),none,131011⟩,
om 50 262143 (.iaddr (.slice 1) (.t 35) (.t 38)),
⟨none,(.x (.st 1 (.t 50) (.t 48))),none,524287⟩])
(.reg [mt 51 0,
mt 52 7,
mt 53 10,
mt 54 6,
oc 55 128 [(.t 51),(.t 52),(.t 53),(.t 54)] 0])))
(.reg [mt 31 10,
oq 32 (bi .sub (.t 31) (ci 1)),
mt 10 32]))))))))))⟩
theorem row94 : Row Tryz.prog (94, a94) := ⟨Tryz.f94, Tryz.func94, by kernel_rfl⟩
noncomputable def a95 : AFn :=
⟨65,[],(.seq (.reg [mt 11 2,
mt 12 1,
oq 13 (bi .sub (.t 11) (.t 12)),
mt 6 13])
(.seq (.reg [mt 14 6,
oq 15 (bi .geq (.t 14) (ci 8))])
(.cond (.t 15) (.seq (.reg [mt 16 6,
oq 17 (.conv (.int .u64) (.t 16)),
⟨(some 7),(.a (.alloc 173 [(.int .u64 (.ofNat 0))])),none,0⟩,
⟨none,(.x (.st 1 (.t 7) (.t 17))),none,0⟩])
(.seq (.reg [mt 18 6,
oc 19 129 [(.t 18)] 0,
mt 8 19])
(.seq (.reg [mt 20 1,
mt 21 6,
oq 22 (bi .quo (.t 21) (ci 4)),
oq 23 (bi .mul (.t 22) (ci 2)),
oq 24 (bi .add (.t 20) (.t 23)),
oq 25 (bi .sub (.t 24) (ci 1)),
mt 9 25])
(.block 0 (.loop (.seq (.seq (.reg [mt 26 9,
mt 27 1,
mt 28 6,
oq 29 (bi .quo (.t 28) (ci 4)),
oq 30 (bi .mul (.t 29) (ci 2)),
oq 31 (bi .add (.t 27) (.t 30)),
oq 32 (bi .add (.t 31) (ci 1)),
oq 33 (bi .leq (.t 26) (.t 32))])
(.cond (.t 33) .skip (.exit 0)))
(.seq (.block 1 (.seq (.reg [oc 36 130 [(.t 7)] 0,
mt 37 8,
oq 38 (bi .sub (.t 37) (.c (.int .u64 (.ofNat 1)))),
oq 39 (bi .and (.t 36) (.t 38)),
oq 40 (.conv (.int .i64) (.t 39)),
mt 10 40])
(.seq (.seq (.reg [mt 41 10,
mt 42 6,
oq 43 (bi .geq (.t 41) (.t 42))])
(.cond (.t 43) (.reg [mt 44 10,
mt 45 6,
oq 46 (bi .sub (.t 44) (.t 45)),
mt 10 46]) .skip))
(.drw [mt 47 0,
mt 48 9,
mt 49 0,
mt 50 1,
mt 51 10,
om 52 24 (bi .add (.t 50) (.t 51)),
mt 53 0,
mt 54 1,
mt 55 10,
om 56 384 (bi .add (.t 54) (.t 55)),
om 57 960 (.iaddr (.slice 1) (.t 53) (.t 56)),
om 58 1984 (ld 57),
mt 59 0,
mt 60 9,
om 61 12288 (.iaddr (.slice 1) (.t 59) (.t 60)),
om 62 28672 (ld 61),
om 63 65475 (.iaddr (.slice 1) (.t 47) (.t 48)),
⟨none,(.x (.st 1 (.t 63) (.t 58))),none,131011⟩,
om 64 262143 (.iaddr (.slice 1) (.t 49) (.t 52)),
⟨none,(.x (.st 1 (.t 64) (.t 62))),none,524287⟩]))))
(.reg [mt 34 9,
oq 35 (bi .add (.t 34) (ci 1)),
mt 9 35])))))))) .skip)))⟩
theorem row95 : Row Tryz.prog (95, a95) := ⟨Tryz.f95, Tryz.func95, by kernel_rfl⟩
noncomputable def a96 : AFn :=
⟨57,[(.t 6),(.t 7)],(.seq (.reg [oq 6 (.mv (ci 0)),
oq 7 (.mv (ci 0))])
(.seq (.reg [mt 13 2,
mt 14 1,
oq 15 (bi .sub (.t 13) (.t 14)),
mt 8 15])
(.seq (.reg [⟨(some 9),(.a (.alloc 3 [(.int .i64 (.ofNat 0))])),none,0⟩])
(.seq (.reg [mt 16 1,
mt 17 8,
oq 18 (bi .quo (.t 17) (ci 4)),
oq 19 (bi .mul (.t 18) (ci 1)),
oq 20 (bi .add (.t 16) (.t 19)),
mt 10 20])
(.seq (.reg [mt 21 1,
mt 22 8,
oq 23 (bi .quo (.t 22) (ci 4)),
oq 24 (bi .mul (.t 23) (ci 2)),
oq 25 (bi .add (.t 21) (.t 24)),
mt 11 25])
(.seq (.reg [mt 26 1,
mt 27 8,
oq 28 (bi .quo (.t 27) (ci 4)),
oq 29 (bi .mul (.t 28) (ci 3)),
oq 30 (bi .add (.t 26) (.t 29)),
mt 12 30])
(.seq (.seq (.reg [mt 31 8,
oq 32 (bi .geq (.t 31) (ci 8))])
(.cond (.t 32) (.seq (.seq (.reg [mt 33 8,
oq 34 (bi .geq (.t 33) (ci 50))])
(.cond (.t 34) (.seq (.reg [mt 35 0,
mt 36 10,
oc 37 131 [(.t 35),(.t 36),(.t 9)] 0,
mt 10 37])
(.seq (.reg [mt 38 0,
mt 39 11,
oc 40 131 [(.t 38),(.t 39),(.t 9)] 0,
mt 11 40])
(.reg [mt 41 0,
mt 42 12,
oc 43 131 [(.t 41),(.t 42),(.t 9)] 0,
mt 12 43]))) .skip))
(.reg [mt 44 0,
mt 45 10,
mt 46 11,
mt 47 12,
oc 48 132 [(.t 44),(.t 45),(.t 46),(.t 47),(.t 9)] 0,
mt 11 48])) .skip))
(.seq (.reg [oq 49 (ld 9)])
(.block 0 (.seq (.reg [oq 52 (bi .eql (.t 49) (ci 0)),
mt 51 52])
(.cond (.t 51) (.seq (.reg [mt 53 11,
mt 6 53,
oq 7 (.mv (ci 1))])
.ret) (.seq (.reg [oq 55 (bi .eql (.t 49) (ci 12)),
mt 54 55])
(.cond (.t 54) (.seq (.reg [mt 56 11,
mt 6 56,
oq 7 (.mv (ci 2))])
.ret) (.seq (.reg [mt 50 11,
mt 6 50,
oq 7 (.mv (ci 0))])
.ret))))))))))))))⟩
theorem row96 : Row Tryz.prog (96, a96) := ⟨Tryz.f96, Tryz.func96, by kernel_rfl⟩
noncomputable def a97 : AFn :=
⟨32,[],(.seq (.reg [mt 8 1,
mt 6 8])
(.seq (.reg [mt 9 2,
oq 10 (bi .sub (.t 9) (ci 1)),
mt 7 10])
(.block 0 (.loop (.seq (.seq (.reg [mt 11 6,
mt 12 7,
oq 13 (bi .lss (.t 11) (.t 12))])
(.cond (.t 13) .skip (.exit 0)))
(.block 1 (.seq (.drw [mt 14 0,
mt 15 6,
mt 16 0,
mt 17 7,
mt 18 0,
mt 19 7,
om 20 48 (.iaddr (.slice 1) (.t 18) (.t 19)),
om 21 112 (ld 20),
mt 22 0,
mt 23 6,
om 24 768 (.iaddr (.slice 1) (.t 22) (.t 23)),
om 25 1792 (ld 24),
om 26 4083 (.iaddr (.slice 1) (.t 14) (.t 15)),
⟨none,(.x (.st 1 (.t 26) (.t 21))),none,8179⟩,
om 27 16383 (.iaddr (.slice 1) (.t 16) (.t 17)),
⟨none,(.x (.st 1 (.t 27) (.t 25))),none,32767⟩])
(.seq (.reg [mt 28 6,
oq 29 (bi .add (.t 28) (ci 1)),
mt 6 29])
(.reg [mt 30 7,
oq 31 (bi .sub (.t 30) (ci 1)),
mt 7 31])))))))))⟩
theorem row97 : Row Tryz.prog (97, a97) := ⟨Tryz.f97, Tryz.func97, by kernel_rfl⟩
noncomputable def a98 : AFn :=
⟨133,[(.t 6)],(.seq (.reg [oq 6 (.mv (.c (.bool false)))])
(.seq (.reg [mt 11 1,
oq 12 (bi .add (.t 11) (ci 1)),
mt 7 12])
(.seq (.seq (.reg [oq 8 (.mv (ci 0))])
(.block 0 (.loop (.seq (.seq (.reg [mt 13 8,
oq 14 (bi .lss (.t 13) (ci 5))])
(.cond (.t 14) .skip (.exit 0)))
(.seq (.block 1 (.seq (.block 2 (.loop (.seq (.seq (.drw [mt 17 7,
mt 18 2,
om 19 3 (bi .lss (.t 17) (.t 18)),
om 20 7 (.mv (.t 19)),
og 21 20 true 15 (.mv (.t 0)),
og 22 20 true 15 (.mv (.t 7)),
og 23 20 true 63 (.iaddr (.slice 1) (.t 21) (.t 22)),
og 24 20 true 127 (ld 23),
og 25 20 true 15 (.mv (.t 0)),
og 26 20 true 15 (.mv (.t 7)),
og 27 20 true 527 (bi .sub (.t 26) (ci 1)),
og 28 20 true 1807 (.iaddr (.slice 1) (.t 25) (.t 27)),
og 29 20 true 3855 (ld 28),
⟨(some 30),(.x (.call (.c (.fn 99 [] [])) [(.t 24),(.t 29)])),(some (20,true)),8191⟩,
og 31 20 true 16383 (.un .not (.t 30)),
om 32 32767 (.pick (.t 20) (.t 31) (.c (.bool false)))])
(.cond (.t 32) .skip (.exit 2)))
(.block 3 (.reg [mt 33 7,
oq 34 (bi .add (.t 33) (ci 1)),
mt 7 34])))))
(.seq (.seq (.reg [mt 35 7,
mt 36 2,
oq 37 (bi .eql (.t 35) (.t 36))])
(.cond (.t 37) (.seq (.reg [oq 6 (.mv (.c (.bool true)))])
.ret) .skip))
(.seq (.seq (.reg [mt 38 2,
mt 39 1,
oq 40 (bi .sub (.t 38) (.t 39)),
oq 41 (bi .lss (.t 40) (ci 50))])
(.cond (.t 41) (.seq (.reg [oq 6 (.mv (.c (.bool false)))])
.ret) .skip))
(.seq (.drw [mt 42 0,
mt 43 7,
mt 44 0,
mt 45 7,
om 46 8 (bi .sub (.t 45) (ci 1)),
mt 47 0,
mt 48 7,
om 49 64 (bi .sub (.t 48) (ci 1)),
om 50 224 (.iaddr (.slice 1) (.t 47) (.t 49)),
om 51 480 (ld 50),
mt 52 0,
mt 53 7,
om 54 3072 (.iaddr (.slice 1) (.t 52) (.t 53)),
om 55 7168 (ld 54),
om 56 16355 (.iaddr (.slice 1) (.t 42) (.t 43)),
⟨none,(.x (.st 1 (.t 56) (.t 51))),none,32739⟩,
om 57 65535 (.iaddr (.slice 1) (.t 44) (.t 46)),
⟨none,(.x (.st 1 (.t 57) (.t 55))),none,131071⟩])
(.seq (.seq (.reg [mt 58 7,
mt 59 1,
oq 60 (bi .sub (.t 58) (.t 59)),
oq 61 (bi .geq (.t 60) (ci 2))])
(.cond (.t 61) (.seq (.reg [mt 62 7,
oq 63 (bi .sub (.t 62) (ci 1)),
mt 9 63])
(.block 4 (.loop (.seq (.seq (.reg [mt 64 9,
oq 65 (bi .geq (.t 64) (ci 1))])
(.cond (.t 65) .skip (.exit 4)))
(.seq (.block 5 (.seq (.seq (.drw [mt 68 0,
mt 69 9,
om 70 3 (.iaddr (.slice 1) (.t 68) (.t 69)),
om 71 7 (ld 70),
mt 72 0,
mt 73 9,
om 74 32 (bi .sub (.t 73) (ci 1)),
om 75 112 (.iaddr (.slice 1) (.t 72) (.t 74)),
om 76 240 (ld 75),
oc 77 99 [(.t 71),(.t 76)] 511,
om 78 1023 (.un .not (.t 77))])
(.cond (.t 78) (.exit 4) .skip))
(.drw [mt 79 0,
mt 80 9,
mt 81 0,
mt 82 9,
om 83 8 (bi .sub (.t 82) (ci 1)),
mt 84 0,
mt 85 9,
om 86 64 (bi .sub (.t 85) (ci 1)),
om 87 224 (.iaddr (.slice 1) (.t 84) (.t 86)),
om 88 480 (ld 87),
mt 89 0,
mt 90 9,
om 91 3072 (.iaddr (.slice 1) (.t 89) (.t 90)),
om 92 7168 (ld 91),
om 93 16355 (.iaddr (.slice 1) (.t 79) (.t 80)),
⟨none,(.x (.st 1 (.t 93) (.t 88))),none,32739⟩,
om 94 65535 (.iaddr (.slice 1) (.t 81) (.t 83)),
⟨none,(.x (.st 1 (.t 94) (.t 92))),none,131071⟩])))
(.reg [mt 66 9,
oq 67 (bi .sub (.t 66) (ci 1)),
mt 9 67])))))) .skip))
(.seq (.reg [mt 95 2,
mt 96 7,
oq 97 (bi .sub (.t 95) (.t 96)),
oq 98 (bi .geq (.t 97) (ci 2))])
(.cond (.t 98) (.seq (.reg [mt 99 7,
oq 100 (bi .add (.t 99) (ci 1)),
mt 10 100])
(.block 6 (.loop (.seq (.seq (.reg [mt 101 10,
mt 102 2,
oq 103 (bi .lss (.t 101) (.t 102))])
(.cond (.t 103) .skip (.exit 6)))
(.seq (.block 7 (.seq (.seq (.drw [mt 106 0,
mt 107 10,
om 108 3 (.iaddr (.slice 1) (.t 106) (.t 107)),
om 109 7 (ld 108),
mt 110 0,
mt 111 10,
om 112 32 (bi .sub (.t 111) (ci 1)),
om 113 112 (.iaddr (.slice 1) (.t 110) (.t 112)),
om 114 240 (ld 113),
oc 115 99 [(.t 109),(.t 114)] 511,
om 116 1023 (.un .not (.t 115))])
(.cond (.t 116) (.exit 6) .skip))
(.drw [mt 117 0,
mt 118 10,
mt 119 0,
mt 120 10,
om 121 8 (bi .sub (.t 120) (ci 1)),
mt 122 0,
mt 123 10,
om 124 64 (bi .sub (.t 123) (ci 1)),
om 125 224 (.iaddr (.slice 1) (.t 122) (.t 124)),
om 126 480 (ld 125),
mt 127 0,
mt 128 10,
om 129 3072 (.iaddr (.slice 1) (.t 127) (.t 128)),
om 130 7168 (ld 129),
om 131 16355 (.iaddr (.slice 1) (.t 117) (.t 118)),
⟨none,(.x (.st 1 (.t 131) (.t 126))),none,32739⟩,
om 132 65535 (.iaddr (.slice 1) (.t 119) (.t 121)),
⟨none,(.x (.st 1 (.t 132) (.t 130))),none,131071⟩])))
(.reg [mt 104 10,
oq 105 (bi .add (.t 104) (ci 1)),
mt 10 105])))))) .skip))))))))
(.reg [mt 15 8,
oq 16 (bi .add (.t 15) (ci 1)),
mt 8 16]))))))
(.seq (.reg [oq 6 (.mv (.c (.bool false)))])
.ret))))⟩
theorem row98 : Row Tryz.prog (98, a98) := ⟨Tryz.f98, Tryz.func98, by kernel_rfl⟩
noncomputable def a99 : AFn :=
⟨17,[(.t 4)],(.seq (.reg [oq 4 (.mv (.c (.bool false)))])
(.seq (.reg [mt 5 0,
oc 6 133 [(.t 5)] 0,
mt 7 6,
og 8 7 true 0 (.mv (.t 1)),
⟨(some 9),(.x (.call (.c (.fn 133 [] [])) [(.t 8)])),(some (7,true)),0⟩,
og 10 7 true 0 (.un .not (.t 9)),
oq 11 (.pick (.t 7) (.t 10) (.c (.bool false))),
mt 12 11,
og 13 12 false 0 (.mv (.t 0)),
og 14 12 false 0 (.mv (.t 1)),
og 15 12 false 0 (bi .lss (.t 13) (.t 14)),
oq 16 (.pick (.t 12) (.c (.bool true)) (.t 15)),
mt 4 16])
.ret))⟩
theorem row99 : Row Tryz.prog (99, a99) := ⟨Tryz.f99, Tryz.func99, by kernel_rfl⟩
noncomputable def a100 : AFn :=
⟨84,[(.t 8)],(.seq (.reg [oq 8 (.mv (ci 0))])
(.seq (.drw [mt 11 0,
mt 12 1,
mt 13 0,
mt 14 3,
mt 15 0,
mt 16 3,
om 17 48 (.iaddr (.slice 1) (.t 15) (.t 16)),
om 18 112 (ld 17),
mt 19 0,
mt 20 1,
om 21 768 (.iaddr (.slice 1) (.t 19) (.t 20)),
om 22 1792 (ld 21),
om 23 4083 (.iaddr (.slice 1) (.t 11) (.t 12)),
⟨none,(.x (.st 1 (.t 23) (.t 18))),none,8179⟩,
om 24 16383 (.iaddr (.slice 1) (.t 13) (.t 14)),
⟨none,(.x (.st 1 (.t 24) (.t 22))),none,32767⟩])
(.seq (.reg [mt 25 1,
oq 26 (bi .add (.t 25) (ci 1)),
mt 27 2,
oq 28 (bi .sub (.t 27) (ci 1)),
mt 9 26,
mt 10 28])
(.seq (.block 0 (.loop (.block 1 (.seq (.block 2 (.loop (.seq (.seq (.drw [mt 29 9,
mt 30 10,
om 31 3 (bi .leq (.t 29) (.t 30)),
om 32 7 (.mv (.t 31)),
og 33 32 true 15 (.mv (.t 0)),
og 34 32 true 15 (.mv (.t 1)),
og 35 32 true 63 (.iaddr (.slice 1) (.t 33) (.t 34)),
og 36 32 true 127 (ld 35),
og 37 32 true 15 (.mv (.t 0)),
og 38 32 true 15 (.mv (.t 9)),
og 39 32 true 783 (.iaddr (.slice 1) (.t 37) (.t 38)),
og 40 32 true 1807 (ld 39),
⟨(some 41),(.x (.call (.c (.fn 99 [] [])) [(.t 36),(.t 40)])),(some (32,true)),4095⟩,
og 42 32 true 8191 (.un .not (.t 41)),
om 43 16383 (.pick (.t 32) (.t 42) (.c (.bool false)))])
(.cond (.t 43) .skip (.exit 2)))
(.block 3 (.reg [mt 44 9,
oq 45 (bi .add (.t 44) (ci 1)),
mt 9 45])))))
(.seq (.block 4 (.loop (.seq (.seq (.drw [mt 46 9,
mt 47 10,
om 48 3 (bi .leq (.t 46) (.t 47)),
om 49 7 (.mv (.t 48)),
og 50 49 true 15 (.mv (.t 0)),
og 51 49 true 15 (.mv (.t 1)),
og 52 49 true 63 (.iaddr (.slice 1) (.t 50) (.t 51)),
og 53 49 true 127 (ld 52),
og 54 49 true 15 (.mv (.t 0)),
og 55 49 true 15 (.mv (.t 10)),
og 56 49 true 783 (.iaddr (.slice 1) (.t 54) (.t 55)),
og 57 49 true 1807 (ld 56),
⟨(some 58),(.x (.call (.c (.fn 99 [] [])) [(.t 53),(.t 57)])),(some (49,true)),4095⟩,
om 59 8191 (.pick (.t 49) (.t 58) (.c (.bool false)))])
(.cond (.t 59) .skip (.exit 4)))
(.block 5 (.reg [mt 60 10,
oq 61 (bi .sub (.t 60) (ci 1)),
mt 10 61])))))
(.seq (.seq (.reg [mt 62 9,
mt 63 10,
oq 64 (bi .gtr (.t 62) (.t 63))])
(.cond (.t 64) (.exit 0) .skip))
(.seq (.drw [mt 65 0,
mt 66 9,
mt 67 0,
mt 68 10,
mt 69 0,
mt 70 10,
om 71 48 (.iaddr (.slice 1) (.t 69) (.t 70)),
om 72 112 (ld 71),
mt 73 0,
mt 74 9,
om 75 768 (.iaddr (.slice 1) (.t 73) (.t 74)),
om 76 1792 (ld 75),
om 77 4083 (.iaddr (.slice 1) (.t 65) (.t 66)),
⟨none,(.x (.st 1 (.t 77) (.t 72))),none,8179⟩,
om 78 16383 (.iaddr (.slice 1) (.t 67) (.t 68)),
⟨none,(.x (.st 1 (.t 78) (.t 76))),none,32767⟩])
(.seq (.reg [mt 79 9,
oq 80 (bi .add (.t 79) (ci 1)),
mt 9 80])
(.reg [mt 81 10,
oq 82 (bi .sub (.t 81) (ci 1)),
mt 10 82])))))))))
(.seq (.reg [mt 83 9,
mt 8 83])
.ret)))))⟩
theorem row100 : Row Tryz.prog (100, a100) := ⟨Tryz.f100, Tryz.func100, by kernel_rfl⟩
noncomputable def a101 : AFn :=
⟨168,[(.t 8),(.t 9)],(.seq (.reg [oq 8 (.mv (ci 0)),
oq 9 (.mv (.c (.bool false)))])
(.seq (.drw [mt 12 0,
mt 13 1,
mt 14 0,
mt 15 3,
mt 16 0,
mt 17 3,
om 18 48 (.iaddr (.slice 1) (.t 16) (.t 17)),
om 19 112 (ld 18),
mt 20 0,
mt 21 1,
om 22 768 (.iaddr (.slice 1) (.t 20) (.t 21)),
om 23 1792 (ld 22),
om 24 4083 (.iaddr (.slice 1) (.t 12) (.t 13)),
⟨none,(.x (.st 1 (.t 24) (.t 19))),none,8179⟩,
om 25 16383 (.iaddr (.slice 1) (.t 14) (.t 15)),
⟨none,(.x (.st 1 (.t 25) (.t 23))),none,32767⟩])
(.seq (.reg [mt 26 1,
oq 27 (bi .add (.t 26) (ci 1)),
mt 28 2,
oq 29 (bi .sub (.t 28) (ci 1)),
mt 10 27,
mt 11 29])
(.seq (.block 0 (.loop (.seq (.seq (.drw [mt 30 10,
mt 31 11,
om 32 3 (bi .leq (.t 30) (.t 31)),
om 33 7 (.mv (.t 32)),
og 34 33 true 15 (.mv (.t 0)),
og 35 33 true 15 (.mv (.t 10)),
og 36 33 true 63 (.iaddr (.slice 1) (.t 34) (.t 35)),
og 37 33 true 127 (ld 36),
og 38 33 true 15 (.mv (.t 0)),
og 39 33 true 15 (.mv (.t 1)),
og 40 33 true 783 (.iaddr (.slice 1) (.t 38) (.t 39)),
og 41 33 true 1807 (ld 40),
⟨(some 42),(.x (.call (.c (.fn 99 [] [])) [(.t 37),(.t 41)])),(some (33,true)),4095⟩,
om 43 8191 (.pick (.t 33) (.t 42) (.c (.bool false)))])
(.cond (.t 43) .skip (.exit 0)))
(.block 1 (.reg [mt 44 10,
oq 45 (bi .add (.t 44) (ci 1)),
mt 10 45])))))
(.seq (.block 2 (.loop (.seq (.seq (.drw [mt 46 10,
mt 47 11,
om 48 3 (bi .leq (.t 46) (.t 47)),
om 49 7 (.mv (.t 48)),
og 50 49 true 15 (.mv (.t 0)),
og 51 49 true 15 (.mv (.t 11)),
og 52 49 true 63 (.iaddr (.slice 1) (.t 50) (.t 51)),
og 53 49 true 127 (ld 52),
og 54 49 true 15 (.mv (.t 0)),
og 55 49 true 15 (.mv (.t 1)),
og 56 49 true 783 (.iaddr (.slice 1) (.t 54) (.t 55)),
og 57 49 true 1807 (ld 56),
⟨(some 58),(.x (.call (.c (.fn 99 [] [])) [(.t 53),(.t 57)])),(some (49,true)),4095⟩,
og 59 49 true 8191 (.un .not (.t 58)),
om 60 16383 (.pick (.t 49) (.t 59) (.c (.bool false)))])
(.cond (.t 60) .skip (.exit 2)))
(.block 3 (.reg [mt 61 11,
oq 62 (bi .sub (.t 61) (ci 1)),
mt 11 62])))))
(.seq (.seq (.reg [mt 63 10,
mt 64 11,
oq 65 (bi .gtr (.t 63) (.t 64))])
(.cond (.t 65) (.seq (.drw [mt 66 0,
mt 67 11,
mt 68 0,
mt 69 1,
mt 70 0,
mt 71 1,
om 72 48 (.iaddr (.slice 1) (.t 70) (.t 71)),
om 73 112 (ld 72),
mt 74 0,
mt 75 11,
om 76 768 (.iaddr (.slice 1) (.t 74) (.t 75)),
om 77 1792 (ld 76),
om 78 4083 (.iaddr (.slice 1) (.t 66) (.t 67)),
⟨none,(.x (.st 1 (.t 78) (.t 73))),none,8179⟩,
om 79 16383 (.iaddr (.slice 1) (.t 68) (.t 69)),
⟨none,(.x (.st 1 (.t 79) (.t 77))),none,32767⟩])
(.seq (.reg [mt 80 11,
mt 8 80,
oq 9 (.mv (.c (.bool true)))])
.ret)) .skip))
(.seq (.drw [mt 81 0,
mt 82 10,
mt 83 0,
mt 84 11,
mt 85 0,
mt 86 11,
om 87 48 (.iaddr (.slice 1) (.t 85) (.t 86)),
om 88 112 (ld 87),
mt 89 0,
mt 90 10,
om 91 768 (.iaddr (.slice 1) (.t 89) (.t 90)),
om 92 1792 (ld 91),
om 93 4083 (.iaddr (.slice 1) (.t 81) (.t 82)),
⟨none,(.x (.st 1 (.t 93) (.t 88))),none,8179⟩,
om 94 16383 (.iaddr (.slice 1) (.t 83) (.t 84)),
⟨none,(.x (.st 1 (.t 94) (.t 92))),none,32767⟩])
(.seq (.reg [mt 95 10,
oq 96 (bi .add (.t 95) (ci 1)),
mt 10 96])
(.seq (.reg [mt 97 11,
oq 98 (bi .sub (.t 97) (ci 1)),
mt 11 98])
(.seq (.block 4 (.loop (.block 5 (.seq (.block 6 (.loop (.seq (.seq (.drw [mt 99 10,
mt 100 11,
om 101 3 (bi .leq (.t 99) (.t 100)),
om 102 7 (.mv (.t 101)),
og 103 102 true 15 (.mv (.t 0)),
og 104 102 true 15 (.mv (.t 10)),
og 105 102 true 63 (.iaddr (.slice 1) (.t 103) (.t 104)),
og 106 102 true 127 (ld 105),
og 107 102 true 15 (.mv (.t 0)),
og 108 102 true 15 (.mv (.t 1)),
og 109 102 true 783 (.iaddr (.slice 1) (.t 107) (.t 108)),
og 110 102 true 1807 (ld 109),
⟨(some 111),(.x (.call (.c (.fn 99 [] [])) [(.t 106),(.t 110)])),(some (102,true)),4095⟩,
om 112 8191 (.pick (.t 102) (.t 111) (.c (.bool false)))])
(.cond (.t 112) .skip (.exit 6)))
(.block 7 (.reg [mt 113 10,
oq 114 (bi .add (.t 113) (ci 1)),
mt 10 114])))))
(.seq (.block 8 (.loop (.seq (.seq (.drw [mt 115 10,
mt 116 11,
om 117 3 (bi .leq (.t 115) (.t 116)),
om 118 7 (.mv (.t 117)),
og 119 118 true 15 (.mv (.t 0)),
og 120 118 true 15 (.mv (.t 11)),
og 121 118 true 63 (.iaddr (.slice 1) (.t 119) (.t 120)),
og 122 118 true 127 (ld 121),
og 123 118 true 15 (.mv (.t 0)),
og 124 118 true 15 (.mv (.t 1)),
og 125 118 true 783 (.iaddr (.slice 1) (.t 123) (.t 124)),
og 126 118 true 1807 (ld 125),
⟨(some 127),(.x (.call (.c (.fn 99 [] [])) [(.t 122),(.t 126)])),(some (118,true)),4095⟩,
og 128 118 true 8191 (.un .not (.t 127)),
om 129 16383 (.pick (.t 118) (.t 128) (.c (.bool false)))])
(.cond (.t 129) .skip (.exit 8)))
(.block 9 (.reg [mt 130 11,
oq 131 (bi .sub (.t 130) (ci 1)),
mt 11 131])))))
(.seq (.seq (.reg [mt 132 10,
mt 133 11,
oq 134 (bi .gtr (.t 132) (.t 133))])
(.cond (.t 134) (.exit 4) .skip))
(.seq (.drw [mt 135 0,
mt 136 10,
mt 137 0,
mt 138 11,
mt 139 0,
mt 140 11,
om 141 48 (.iaddr (.slice 1) (.t 139) (.t 140)),
om 142 112 (ld 141),
mt 143 0,
mt 144 10,
om 145 768 (.iaddr (.slice 1) (.t 143) (.t 144)),
om 146 1792 (ld 145),
om 147 4083 (.iaddr (.slice 1) (.t 135) (.t 136)),
⟨none,(.x (.st 1 (.t 147) (.t 142))),none,8179⟩,
om 148 16383 (.iaddr (.slice 1) (.t 137) (.t 138)),
⟨none,(.x (.st 1 (.t 148) (.t 146))),none,32767⟩])
(.seq (.reg [mt 149 10,
oq 150 (bi .add (.t 149) (ci 1)),
mt 10 150])
(.reg [mt 151 11,
oq 152 (bi .sub (.t 151) (ci 1)),
mt 11 152])))))))))
(.seq (.drw [mt 153 0,
mt 154 11,
mt 155 0,
mt 156 1,
mt 157 0,
mt 158 1,
om 159 48 (.iaddr (.slice 1) (.t 157) (.t 158)),
om 160 112 (ld 159),
mt 161 0,
mt 162 11,
om 163 768 (.iaddr (.slice 1) (.t 161) (.t 162)),
om 164 1792 (ld 163),
om 165 4083 (.iaddr (.slice 1) (.t 153) (.t 154)),
⟨none,(.x (.st 1 (.t 165) (.t 160))),none,8179⟩,
om 166 16383 (.iaddr (.slice 1) (.t 155) (.t 156)),
⟨none,(.x (.st 1 (.t 166) (.t 164))),none,32767⟩])
(.seq (.reg [mt 167 11,
mt 8 167,
oq 9 (.mv (.c (.bool false)))])
.ret))))))))))))⟩
theorem row101 : Row Tryz.prog (101, a101) := ⟨Tryz.f101, Tryz.func101, by kernel_rfl⟩
noncomputable def a102 : AFn :=
⟨19,[(.t 2)],(.seq (.reg [oq 2 (.mv (ci 0))])
(.seq (.seq (.reg [mt 3 0,
oq 4 (bi .geq (.t 3) (.c (.int .u32 (.ofNat 65536))))])
(.cond (.t 4) (.seq (.reg [mt 5 0,
oq 6 (bi .shr (.t 5) (.c (.int .u64 (.ofNat 16)))),
mt 0 6])
(.reg [oq 2 (.mv (ci 16))])) .skip))
(.seq (.seq (.reg [mt 7 0,
oq 8 (bi .geq (.t 7) (.c (.int .u32 (.ofNat 256))))])
(.cond (.t 8) (.seq (.reg [mt 9 0,
oq 10 (bi .shr (.t 9) (.c (.int .u64 (.ofNat 8)))),
mt 0 10])
(.reg [mt 11 2,
oq 12 (bi .add (.t 11) (ci 8)),
mt 2 12])) .skip))
(.seq (.reg [mt 13 2,
mt 14 0,
oq 15 (.conv (.int .u8) (.t 14)),
oq 16 (.idxStr (.c (.str [0,1,2,2,3,3,3,3,4,4,4,4,4,4,4,4,5,5,5,5,5,5,5,5,5,5,5,5,5,5,5,5,6,6,6,6,6,6,6,6,6,6,6,6,6,6,6,6,6,6,6,6,6,6,6,6,6,6,6,6,6,6,6,6,7,7,7,7,7,7,7,7,7,7,7,7,7,7,7,7,7,7,7,7,7,7,7,7,7,7,7,7,7,7,7,7,7,7,7,7,7,7,7,7,7,7,7,7,7,7,7,7,7,7,7,7,7,7,7,7,7,7,7,7,7,7,7,7,8,8,8,8,8,8,8,8,8,8,8,8,8,8,8,8,8,8,8,8,8,8,8,8,8,8,8,8,8,8,8,8,8,8,8,8,8,8,8,8,8,8,8,8,8,8,8,8,8,8,8,8,8,8,8,8,8,8,8,8,8,8,8,8,8,8,8,8,8,8,8,8,8,8,8,8,8,8,8,8,8,8,8,8,8,8,8,8,8,8,8,8,8,8,8,8,8,8,8,8,8,8,8,8,8,8,8,8,8,8,8,8,8,8,8,8,8,8,8,8,8,8,8,8,8,8,8,8])) (.t 15)),
oq 17 (.conv (.int .i64) (.t 16)),
oq 18 (bi .add (.t 13) (.t 17)),
mt 2 18])
.ret))))⟩
theorem row102 : Row Tryz.prog (102, a102) := ⟨Tryz.f102, Tryz.func102, by kernel_rfl⟩
noncomputable def a103 : AFn :=
⟨25,[(.t 2)],(.seq (.reg [oq 2 (.mv (ci 0))])
(.seq (.seq (.reg [mt 3 0,
oq 4 (bi .geq (.t 3) (.c (.int .u64 (.ofNat 4294967296))))])
(.cond (.t 4) (.seq (.reg [mt 5 0,
oq 6 (bi .shr (.t 5) (.c (.int .u64 (.ofNat 32)))),
mt 0 6])
(.reg [oq 2 (.mv (ci 32))])) .skip))
(.seq (.seq (.reg [mt 7 0,
oq 8 (bi .geq (.t 7) (.c (.int .u64 (.ofNat 65536))))])
(.cond (.t 8) (.seq (.reg [mt 9 0,
oq 10 (bi .shr (.t 9) (.c (.int .u64 (.ofNat 16)))),
mt 0 10])
(.reg [mt 11 2,
oq 12 (bi .add (.t 11) (ci 16)),
mt 2 12])) .skip))
(.seq (.seq (.reg [mt 13 0,
oq 14 (bi .geq (.t 13) (.c (.int .u64 (.ofNat 256))))])
(.cond (.t 14) (.seq (.reg [mt 15 0,
oq 16 (bi .shr (.t 15) (.c (.int .u64 (.ofNat 8)))),
mt 0 16])
(.reg [mt 17 2,
oq 18 (bi .add (.t 17) (ci 8)),
mt 2 18])) .skip))
(.seq (.reg [mt 19 2,
mt 20 0,
oq 21 (.conv (.int .u8) (.t 20)),
oq 22 (.idxStr (.c (.str [0,1,2,2,3,3,3,3,4,4,4,4,4,4,4,4,5,5,5,5,5,5,5,5,5,5,5,5,5,5,5,5,6,6,6,6,6,6,6,6,6,6,6,6,6,6,6,6,6,6,6,6,6,6,6,6,6,6,6,6,6,6,6,6,7,7,7,7,7,7,7,7,7,7,7,7,7,7,7,7,7,7,7,7,7,7,7,7,7,7,7,7,7,7,7,7,7,7,7,7,7,7,7,7,7,7,7,7,7,7,7,7,7,7,7,7,7,7,7,7,7,7,7,7,7,7,7,7,8,8,8,8,8,8,8,8,8,8,8,8,8,8,8,8,8,8,8,8,8,8,8,8,8,8,8,8,8,8,8,8,8,8,8,8,8,8,8,8,8,8,8,8,8,8,8,8,8,8,8,8,8,8,8,8,8,8,8,8,8,8,8,8,8,8,8,8,8,8,8,8,8,8,8,8,8,8,8,8,8,8,8,8,8,8,8,8,8,8,8,8,8,8,8,8,8,8,8,8,8,8,8,8,8,8,8,8,8,8,8,8,8,8,8,8,8,8,8,8,8,8,8,8,8,8,8,8])) (.t 21)),
oq 23 (.conv (.int .i64) (.t 22)),
oq 24 (bi .add (.t 19) (.t 23)),
mt 2 24])
.ret)))))⟩
theorem row103 : Row Tryz.prog (103, a103) := ⟨Tryz.f103, Tryz.func103, by kernel_rfl⟩
noncomputable def a104 : AFn :=
⟨57,[(.t 4)],(.seq (.reg [oq 4 (.mv (.c .nilsl))])
(.seq (.seq (.reg [mt 10 0,
oq 11 (.lenSl (.t 10)),
mt 12 1,
oq 13 (.lenSl (.t 12)),
oq 14 (bi .lss (.t 11) (.t 13))])
(.cond (.t 14) (.reg [mt 15 1,
mt 16 0,
mt 0 15,
mt 1 16]) .skip))
(.seq (.reg [mt 17 0,
oq 18 (.lenSl (.t 17)),
oq 19 (bi .add (.t 18) (ci 1)),
⟨(some 20),(.a (.mkSlice 102 1 4 [(.int .u32 (.ofNat 0))] (ci 0) (.t 19))),none,0⟩,
mt 5 20])
(.seq (.reg [oq 6 (.mv (.c (.int .u32 (.ofNat 0))))])
(.seq (.seq (.reg [mt 21 0,
oq 22 (.lenSl (.t 21)),
oq 23 (.mv (ci 0))])
(.block 0 (.loop (.seq (.reg [oq 24 (bi .lss (.t 23) (.t 22))])
(.seq (.cond (.t 24) .skip (.exit 0))
(.seq (.block 1 (.seq (.reg [mt 25 23,
oq 26 (.iaddr (.slice 1) (.t 21) (.t 23)),
oq 27 (ld 26),
mt 7 25,
mt 8 27])
(.seq (.reg [mt 28 8,
mt 29 6,
oq 30 (bi .add (.t 28) (.t 29)),
mt 9 30])
(.seq (.seq (.reg [mt 31 7,
mt 32 1,
oq 33 (.lenSl (.t 32)),
oq 34 (bi .lss (.t 31) (.t 33))])
(.cond (.t 34) (.reg [mt 35 9,
mt 36 1,
mt 37 7,
oq 38 (.iaddr (.slice 1) (.t 36) (.t 37)),
oq 39 (ld 38),
oq 40 (bi .add (.t 35) (.t 39)),
mt 9 40]) .skip))
(.seq (.reg [oq 6 (.mv (.c (.int .u32 (.ofNat 0))))])
(.seq (.seq (.reg [mt 41 9,
oq 42 (bi .geq (.t 41) (.c (.int .u32 (.ofNat 1000000000))))])
(.cond (.t 42) (.seq (.reg [mt 43 9,
oq 44 (bi .sub (.t 43) (.c (.int .u32 (.ofNat 1000000000)))),
mt 9 44])
(.reg [oq 6 (.mv (.c (.int .u32 (.ofNat 1))))])) .skip))
(.reg [mt 45 5,
mt 46 9,
⟨(some 47),(.a (.bslice 102 1 1 [(.int .u32 (.ofNat 0))] [(0,(.t 46))])),none,0⟩,
⟨(some 48),(.x (.app 102 1 4 (.t 45) (.t 47))),none,0⟩,
mt 5 48])))))))
(.reg [oq 49 (bi .add (.t 23) (ci 1)),
mt 23 49])))))))
(.seq (.seq (.reg [mt 50 6,
oq 51 (bi .gtr (.t 50) (.c (.int .u32 (.ofNat 0))))])
(.cond (.t 51) (.reg [mt 52 5,
mt 53 6,
⟨(some 54),(.a (.bslice 102 1 1 [(.int .u32 (.ofNat 0))] [(0,(.t 53))])),none,0⟩,
⟨(some 55),(.x (.app 102 1 4 (.t 52) (.t 54))),none,0⟩,
mt 5 55]) .skip))
(.seq (.reg [mt 56 5,
mt 4 56])
.ret)))))))⟩
theorem row104 : Row Tryz.prog (104, a104) := ⟨Tryz.f104, Tryz.func104, by kernel_rfl⟩
noncomputable def a105 : AFn :=
⟨41,[(.t 4)],(.seq (.reg [oq 4 (.mv (ci 0))])
(.seq (.seq (.reg [mt 6 0,
oq 7 (.lenSl (.t 6)),
mt 8 1,
oq 9 (.lenSl (.t 8)),
oq 10 (bi .neq (.t 7) (.t 9))])
(.cond (.t 10) (.seq (.reg [mt 11 0,
oq 12 (.lenSl (.t 11)),
mt 13 1,
oq 14 (.lenSl (.t 13)),
oc 15 134 [(.t 12),(.t 14)] 0,
mt 4 15])
.ret) .skip))
(.seq (.seq (.reg [mt 16 0,
oq 17 (.lenSl (.t 16)),
oq 18 (bi .sub (.t 17) (ci 1)),
mt 5 18])
(.block 0 (.loop (.seq (.seq (.reg [mt 19 5,
oq 20 (bi .geq (.t 19) (ci 0))])
(.cond (.t 20) .skip (.exit 0)))
(.seq (.block 1 (.seq (.drw [mt 23 0,
mt 24 5,
om 25 3 (.iaddr (.slice 1) (.t 23) (.t 24)),
om 26 7 (ld 25),
mt 27 1,
mt 28 5,
om 29 48 (.iaddr (.slice 1) (.t 27) (.t 28)),
om 30 112 (ld 29),
om 31 255 (bi .neq (.t 26) (.t 30))])
(.cond (.t 31) (.seq (.drw [mt 32 0,
mt 33 5,
om 34 3 (.iaddr (.slice 1) (.t 32) (.t 33)),
om 35 7 (ld 34),
mt 36 1,
mt 37 5,
om 38 48 (.iaddr (.slice 1) (.t 36) (.t 37)),
om 39 112 (ld 38),
oc 40 135 [(.t 35),(.t 39)] 255,
om 4 511 (.mv (.t 40))])
.ret) .skip)))
(.reg [mt 21 5,
oq 22 (bi .sub (.t 21) (ci 1)),
mt 5 22]))))))
(.seq (.reg [oq 4 (.mv (ci 0))])
.ret))))⟩
theorem row105 : Row Tryz.prog (105, a105) := ⟨Tryz.f105, Tryz.func105, by kernel_rfl⟩
noncomputable def a106 : AFn :=
⟨45,[(.t 4)],(.seq (.reg [oq 4 (.mv (.c .nilsl))])
(.seq (.reg [mt 10 0,
oq 11 (.lenSl (.t 10)),
⟨(some 12),(.a (.mkSlice 102 1 4 [(.int .u32 (.ofNat 0))] (.t 11) (.t 11))),none,0⟩,
mt 5 12])
(.seq (.reg [oq 6 (.mv (.c (.int .u32 (.ofNat 0))))])
(.seq (.seq (.reg [mt 13 0,
oq 14 (.lenSl (.t 13)),
oq 15 (.mv (ci 0))])
(.block 0 (.loop (.seq (.reg [oq 16 (bi .lss (.t 15) (.t 14))])
(.seq (.cond (.t 16) .skip (.exit 0))
(.seq (.block 1 (.seq (.reg [mt 17 15,
oq 18 (.iaddr (.slice 1) (.t 13) (.t 15)),
oq 19 (ld 18),
mt 7 17,
mt 8 19])
(.seq (.reg [mt 20 6,
mt 9 20])
(.seq (.seq (.reg [mt 21 7,
mt 22 1,
oq 23 (.lenSl (.t 22)),
oq 24 (bi .lss (.t 21) (.t 23))])
(.cond (.t 24) (.reg [mt 25 9,
mt 26 1,
mt 27 7,
oq 28 (.iaddr (.slice 1) (.t 26) (.t 27)),
oq 29 (ld 28),
oq 30 (bi .add (.t 25) (.t 29)),
mt 9 30]) .skip))
(.seq (.reg [oq 6 (.mv (.c (.int .u32 (.ofNat 0))))])
(.seq (.seq (.reg [mt 31 8,
mt 32 9,
oq 33 (bi .lss (.t 31) (.t 32))])
(.cond (.t 33) (.seq (.reg [mt 34 8,
oq 35 (bi .add (.t 34) (.c (.int .u32 (.ofNat 1000000000)))),
mt 8 35])
(.reg [oq 6 (.mv (.c (.int .u32 (.ofNat 1))))])) .skip))
(.reg [mt 36 5,
mt 37 7,
mt 38 8,
mt 39 9,
oq 40 (bi .sub (.t 38) (.t 39)),
oq 41 (.iaddr (.slice 1) (.t 36) (.t 37)),
⟨none,(.x (.st 1 (.t 41) (.t 40))),none,0⟩])))))))
(.reg [oq 42 (bi .add (.t 15) (ci 1)),
mt 15 42])))))))
(.seq (.reg [mt 43 5,
oc 44 111 [(.t 43)] 0,
mt 4 44])
.ret)))))⟩
theorem row106 : Row Tryz.prog (106, a106) := ⟨Tryz.f106, Tryz.func106, by kernel_rfl⟩
noncomputable def a107 : AFn :=
⟨12,[(.t 2)],(.seq (.reg [oq 2 (.mv (.c (.bool false)))])
(.seq (.reg [mt 3 0,
oq 4 (.lenSl (.t 3)),
oq 5 (bi .eql (.t 4) (ci 1)),
mt 6 5,
og 7 6 true 0 (.mv (.t 0)),
og 8 6 true 0 (.iaddr (.slice 1) (.t 7) (ci 0)),
og 9 6 true 0 (ld 8),
og 10 6 true 0 (bi .eql (.t 9) (.c (.int .u32 (.ofNat 1)))),
oq 11 (.pick (.t 6) (.t 10) (.c (.bool false))),
mt 2 11])
.ret))⟩
theorem row107 : Row Tryz.prog (107, a107) := ⟨Tryz.f107, Tryz.func107, by kernel_rfl⟩
noncomputable def a108 : AFn :=
⟨94,[(.t 4),(.t 5),(.t 6)],(.seq (.reg [oq 4 (.mv (.c .nilsl)),
oq 5 (.mv (.c .nilsl)),
oq 6 (.mv (.c (.bool false)))])
(.seq (.reg [mt 16 0,
mt 17 0,
oq 18 (.lenSl (.t 17)),
oc 19 136 [(.t 16),(.t 18)] 0,
mt 20 1,
mt 21 0,
oq 22 (.lenSl (.t 21)),
oc 23 136 [(.t 20),(.t 22)] 0,
mt 7 19,
mt 8 23])
(.seq (.reg [oq 9 (.mv (ci 1)),
oq 10 (.mv (ci 0)),
oq 11 (.mv (ci 0)),
oq 12 (.mv (ci 1))])
(.seq (.block 0 (.loop (.seq (.seq (.reg [mt 24 8,
mt 25 11,
oq 26 (bi .add (.t 24) (.t 25)),
oq 27 (bi .neq (.t 26) (ci 0)),
mt 28 27,
og 29 28 true 0 (.mv (.t 8)),
og 30 28 true 0 (.mv (.t 12)),
og 31 28 true 0 (bi .add (.t 29) (.t 30)),
og 32 28 true 0 (bi .neq (.t 31) (ci 0)),
oq 33 (.pick (.t 28) (.t 32) (.c (.bool false)))])
(.cond (.t 33) .skip (.exit 0)))
(.block 1 (.seq (.reg [mt 34 7,
mt 35 9,
oq 36 (bi .add (.t 34) (.t 35)),
mt 37 8,
mt 38 11,
oq 39 (bi .add (.t 37) (.t 38)),
oq 40 (bi .quo (.t 36) (.t 39)),
mt 13 40])
(.seq (.seq (.reg [mt 41 13,
mt 42 7,
mt 43 10,
oq 44 (bi .add (.t 42) (.t 43)),
mt 45 8,
mt 46 12,
oq 47 (bi .add (.t 45) (.t 46)),
oq 48 (bi .quo (.t 44) (.t 47)),
oq 49 (bi .neq (.t 41) (.t 48)),
mt 50 49,
og 51 50 false 0 (.mv (.t 13)),
og 52 50 false 0 (bi .geq (.t 51) (ci 1000000000)),
oq 53 (.pick (.t 50) (.c (.bool true)) (.t 52))])
(.cond (.t 53) (.exit 0) .skip))
(.seq (.reg [mt 54 9,
mt 55 13,
mt 56 11,
oq 57 (bi .mul (.t 55) (.t 56)),
oq 58 (bi .sub (.t 54) (.t 57)),
mt 59 10,
mt 60 13,
mt 61 12,
oq 62 (bi .mul (.t 60) (.t 61)),
oq 63 (bi .sub (.t 59) (.t 62)),
mt 14 58,
mt 15 63])
(.seq (.seq (.reg [mt 64 14,
mt 65 14,
oq 66 (.un .neg (.t 65)),
mt 67 15,
mt 68 15,
oq 69 (.un .neg (.t 68)),
oq 70 (.minmax true [(.t 64),(.t 66),(.t 67),(.t 69)]),
oq 71 (bi .geq (.t 70) (ci 1000000000))])
(.cond (.t 71) (.exit 0) .skip))
(.seq (.reg [mt 72 11,
mt 73 12,
mt 74 14,
mt 75 15,
mt 9 72,
mt 10 73,
mt 11 74,
mt 12 75])
(.reg [mt 76 8,
mt 77 7,
mt 78 13,
mt 79 8,
oq 80 (bi .mul (.t 78) (.t 79)),
oq 81 (bi .sub (.t 77) (.t 80)),
mt 7 76,
mt 8 81]))))))))))
(.seq (.seq (.reg [mt 82 10,
oq 83 (bi .eql (.t 82) (ci 0))])
(.cond (.t 83) (.seq (.reg [oq 4 (.mv (.c .nilsl)),
oq 5 (.mv (.c .nilsl)),
oq 6 (.mv (.c (.bool false)))])
.ret) .skip))
(.seq (.reg [mt 84 0,
mt 85 1,
mt 86 9,
mt 87 10,
oc 88 137 [(.t 84),(.t 85),(.t 86),(.t 87)] 0,
mt 89 0,
mt 90 1,
mt 91 11,
mt 92 12,
oc 93 137 [(.t 89),(.t 90),(.t 91),(.t 92)] 0,
mt 4 88,
mt 5 93,
oq 6 (.mv (.c (.bool true)))])
.ret))))))⟩
theorem row108 : Row Tryz.prog (108, a108) := ⟨Tryz.f108, Tryz.func108, by kernel_rfl⟩
noncomputable def a109 : AFn :=
⟨91,[(.t 4),(.t 5)],(.seq (.reg [oq 4 (.mv (.c .nilsl)),
oq 5 (.mv (.c .nilsl))])
(.seq (.seq (.reg [mt 13 0,
mt 14 1,
oc 15 105 [(.t 13),(.t 14)] 0,
oq 16 (bi .lss (.t 15) (ci 0))])
(.cond (.t 16) (.seq (.reg [mt 17 0,
oq 4 (.mv (.c .nilsl)),
mt 5 17])
.ret) .skip))
(.seq (.seq (.reg [mt 18 1,
oq 19 (.lenSl (.t 18)),
oq 20 (bi .eql (.t 19) (ci 1))])
(.cond (.t 20) (.seq (.reg [mt 22 0,
mt 23 1,
oq 24 (.iaddr (.slice 1) (.t 23) (ci 0)),
oq 25 (ld 24),
oq 26 (.conv (.int .u64) (.t 25)),
oc 27 138 [(.t 22),(.t 26)] 0,
mt 21 27,
oq 28 (.extract (.t 21) 0),
oq 29 (.extract (.t 21) 1),
mt 6 28,
mt 7 29])
(.seq (.reg [mt 30 6,
mt 31 7,
oc 32 69 [(.t 31)] 0,
mt 4 30,
mt 5 32])
.ret)) .skip))
(.seq (.reg [mt 33 1,
oq 34 (.lenSl (.t 33)),
mt 8 34])
(.seq (.reg [mt 35 1,
mt 36 8,
oq 37 (bi .sub (.t 36) (ci 1)),
oq 38 (.iaddr (.slice 1) (.t 35) (.t 37)),
oq 39 (ld 38),
oq 40 (.conv (.int .u64) (.t 39)),
oq 41 (bi .add (.t 40) (.c (.int .u64 (.ofNat 1)))),
oq 42 (bi .quo (.c (.int .u64 (.ofNat 1000000000))) (.t 41)),
mt 9 42])
(.seq (.reg [mt 43 1,
mt 44 9,
mt 45 8,
oc 46 139 [(.t 43),(.t 44),(.t 45)] 0,
mt 10 46])
(.seq (.reg [mt 47 0,
mt 48 9,
mt 49 0,
oq 50 (.lenSl (.t 49)),
oq 51 (bi .add (.t 50) (ci 1)),
oc 52 139 [(.t 47),(.t 48),(.t 51)] 0,
mt 11 52])
(.seq (.reg [mt 53 0,
oq 54 (.lenSl (.t 53)),
mt 55 8,
oq 56 (bi .sub (.t 54) (.t 55)),
oq 57 (bi .add (.t 56) (ci 1)),
⟨(some 58),(.a (.mkSlice 102 1 4 [(.int .u32 (.ofNat 0))] (.t 57) (.t 57))),none,0⟩,
mt 4 58])
(.seq (.seq (.reg [mt 59 0,
oq 60 (.lenSl (.t 59)),
mt 61 8,
oq 62 (bi .sub (.t 60) (.t 61)),
mt 12 62])
(.block 0 (.loop (.seq (.seq (.reg [mt 63 12,
oq 64 (bi .geq (.t 63) (ci 0))])
(.cond (.t 64) .skip (.exit 0)))
(.seq (.block 1 (.reg [mt 67 4,
mt 68 12,
mt 69 11,
mt 70 12,
mt 71 12,
mt 72 8,
oq 73 (bi .add (.t 71) (.t 72)),
oq 74 (bi .add (.t 73) (ci 1)),
oq 75 (.slc (.slice 1) (.t 69) (some (.t 70)) (some (.t 74)) none),
mt 76 10,
oc 77 140 [(.t 75),(.t 76)] 0,
oq 78 (.iaddr (.slice 1) (.t 67) (.t 68)),
⟨none,(.x (.st 1 (.t 78) (.t 77))),none,0⟩]))
(.reg [mt 65 12,
oq 66 (bi .sub (.t 65) (ci 1)),
mt 12 66]))))))
(.seq (.reg [mt 80 11,
mt 81 8,
oq 82 (.slc (.slice 1) (.t 80) none (some (.t 81)) none),
oc 83 111 [(.t 82)] 0,
mt 84 9,
oc 85 138 [(.t 83),(.t 84)] 0,
mt 79 85,
oq 86 (.extract (.t 79) 0),
oq 87 (.extract (.t 79) 1),
mt 5 86])
(.seq (.reg [mt 88 4,
oc 89 111 [(.t 88)] 0,
mt 90 5,
mt 4 89,
mt 5 90])
.ret)))))))))))⟩
theorem row109 : Row Tryz.prog (109, a109) := ⟨Tryz.f109, Tryz.func109, by kernel_rfl⟩
noncomputable def a110 : AFn :=
⟨21,[(.t 2)],(.seq (.reg [oq 2 (.mv (.c (.int .u64 (.ofNat 0))))])
(.seq (.reg [oq 3 (.mv (.c (.int .u64 (.ofNat 0))))])
(.seq (.seq (.reg [mt 5 0,
oq 6 (.lenSl (.t 5)),
oq 7 (bi .sub (.t 6) (ci 1)),
mt 4 7])
(.block 0 (.loop (.seq (.seq (.reg [mt 8 4,
oq 9 (bi .geq (.t 8) (ci 0))])
(.cond (.t 9) .skip (.exit 0)))
(.seq (.block 1 (.reg [mt 12 3,
oq 13 (bi .mul (.t 12) (.c (.int .u64 (.ofNat 1000000000)))),
mt 14 0,
mt 15 4,
oq 16 (.iaddr (.slice 1) (.t 14) (.t 15)),
oq 17 (ld 16),
oq 18 (.conv (.int .u64) (.t 17)),
oq 19 (bi .add (.t 13) (.t 18)),
mt 3 19]))
(.reg [mt 10 4,
oq 11 (bi .sub (.t 10) (ci 1)),
mt 4 11]))))))
(.seq (.reg [mt 20 3,
mt 2 20])
.ret))))⟩
theorem row110 : Row Tryz.prog (110, a110) := ⟨Tryz.f110, Tryz.func110, by kernel_rfl⟩
noncomputable def a111 : AFn :=
⟨21,[(.t 2)],(.seq (.reg [oq 2 (.mv (.c .nilsl))])
(.seq (.block 0 (.loop (.seq (.seq (.reg [mt 3 0,
oq 4 (.lenSl (.t 3)),
oq 5 (bi .gtr (.t 4) (ci 0)),
mt 6 5,
og 7 6 true 0 (.mv (.t 0)),
og 8 6 true 0 (.mv (.t 0)),
og 9 6 true 0 (.lenSl (.t 8)),
og 10 6 true 0 (bi .sub (.t 9) (ci 1)),
og 11 6 true 0 (.iaddr (.slice 1) (.t 7) (.t 10)),
og 12 6 true 0 (ld 11),
og 13 6 true 0 (bi .eql (.t 12) (.c (.int .u32 (.ofNat 0)))),
oq 14 (.pick (.t 6) (.t 13) (.c (.bool false)))])
(.cond (.t 14) .skip (.exit 0)))
(.block 1 (.reg [mt 15 0,
mt 16 0,
oq 17 (.lenSl (.t 16)),
oq 18 (bi .sub (.t 17) (ci 1)),
oq 19 (.slc (.slice 1) (.t 15) none (some (.t 18)) none),
mt 0 19])))))
(.seq (.reg [mt 20 0,
mt 2 20])
.ret)))⟩
theorem row111 : Row Tryz.prog (111, a111) := ⟨Tryz.f111, Tryz.func111, by kernel_rfl⟩
noncomputable def a123 : AFn :=
⟨43,[(.t 4)],(.seq (.reg [⟨(some 3),(.a (.box 70 (.t 1))),none,0⟩,
oq 4 (.mv (ci 0))])
(.seq (.seq (.reg [oq 5 (.faddr 1 (.t 3)),
oq 6 (ld 5),
oq 7 (bi .neq (.t 6) (ci 0)),
mt 8 7,
og 9 8 false 0 (.faddr 2 (.t 3)),
og 10 8 false 0 (ld 9),
og 11 8 false 0 (bi .neq (.t 10) (ci 0)),
oq 12 (.pick (.t 8) (.c (.bool true)) (.t 11)),
mt 13 12,
og 14 13 false 0 (.faddr 5 (.t 3)),
og 15 13 false 0 (ld 14),
og 16 13 false 0 (.lenSl (.t 15)),
og 17 13 false 0 (bi .gtr (.t 16) (ci 0)),
oq 18 (.pick (.t 13) (.c (.bool true)) (.t 17)),
mt 19 18,
og 20 19 false 0 (.faddr 3 (.t 3)),
og 21 19 false 0 (ld 20),
og 22 19 false 0 (.lenSl (.t 21)),
og 23 19 false 0 (bi .lss (.t 22) (ci 1)),
oq 24 (.pick (.t 19) (.c (.bool true)) (.t 23)),
mt 25 24,
og 26 25 false 0 (.faddr 3 (.t 3)),
og 27 25 false 0 (ld 26),
og 28 25 false 0 (.lenSl (.t 27)),
og 29 25 false 0 (bi .gtr (.t 28) (ci 60)),
oq 30 (.pick (.t 25) (.c (.bool true)) (.t 29)),
mt 31 30,
og 32 31 false 0 (.faddr 4 (.t 3)),
og 33 31 false 0 (ld 32),
og 34 31 false 0 (.lenSl (.t 33)),
og 35 31 false 0 (.faddr 3 (.t 3)),
og 36 31 false 0 (ld 35),
og 37 31 false 0 (.lenSl (.t 36)),
og 38 31 false 0 (bi .neq (.t 34) (.t 37)),
oq 39 (.pick (.t 31) (.c (.bool true)) (.t 38))])
(.cond (.t 39) (.seq (.reg [oq 4 (.mv (ci 3))])
.ret) .skip))
(.seq (.reg [oq 40 (.faddr 4 (.t 3)),
oq 41 (ld 40),
oc 42 141 [(ci 1),(ci 1000),(.t 41)] 0,
mt 4 42])
.ret)))⟩
theorem row123 : Row Tryz.prog (123, a123) := ⟨Tryz.f123, Tryz.func123, by kernel_rfl⟩
noncomputable def a124 : AFn :=
⟨52,[(.t 4)],(.seq (.reg [⟨(some 3),(.a (.box 70 (.t 1))),none,0⟩,
oq 4 (.mv (ci 0))])
(.seq (.seq (.reg [oq 6 (.faddr 4 (.t 3)),
oq 7 (ld 6),
oq 8 (.lenSl (.t 7)),
oq 9 (bi .gtr (.t 8) (ci 0)),
mt 10 9,
og 11 10 false 0 (.faddr 5 (.t 3)),
og 12 10 false 0 (ld 11),
og 13 10 false 0 (.lenSl (.t 12)),
og 14 10 false 0 (bi .gtr (.t 13) (ci 0)),
oq 15 (.pick (.t 10) (.c (.bool true)) (.t 14)),
mt 16 15,
og 17 16 false 0 (.faddr 3 (.t 3)),
og 18 16 false 0 (ld 17),
og 19 16 false 0 (.lenSl (.t 18)),
og 20 16 false 0 (bi .lss (.t 19) (ci 1)),
oq 21 (.pick (.t 16) (.c (.bool true)) (.t 20)),
mt 22 21,
og 23 22 false 0 (.faddr 3 (.t 3)),
og 24 22 false 0 (ld 23),
og 25 22 false 0 (.lenSl (.t 24)),
og 26 22 false 0 (bi .gtr (.t 25) (ci 10)),
oq 27 (.pick (.t 22) (.c (.bool true)) (.t 26))])
(.cond (.t 27) (.seq (.reg [oq 4 (.mv (ci 3))])
.ret) .skip))
(.seq (.seq (.drw [mt 28 0,
om 29 1 (.nilchk (.t 28)),
om 30 3 (.faddr 0 (.t 29)),
om 31 7 (.faddr 0 (.t 30)),
om 32 15 (ld 31),
om 33 31 (bi .sub (.t 32) (ci 1)),
oq 34 (.faddr 1 (.t 3)),
om 35 64 (ld 34),
⟨(some 36),(.a (.bslice 3 1 1 [(.int .i64 (.ofNat 0))] [(0,(.t 35))])),none,192⟩,
oc 37 141 [(ci 0),(.t 33),(.t 36)] 511,
om 5 1023 (.mv (.t 37))])
(.seq (.reg [mt 38 5,
oq 39 (bi .neq (.t 38) (ci 0))])
(.cond (.t 39) (.seq (.reg [mt 40 5,
mt 4 40])
.ret) .skip)))
(.seq (.drw [mt 41 0,
om 42 1 (.nilchk (.t 41)),
om 43 3 (.faddr 0 (.t 42)),
om 44 7 (.faddr 2 (.t 43)),
om 45 15 (ld 44),
om 46 31 (.lenSl (.t 45)),
om 47 63 (bi .sub (.t 46) (ci 1)),
oq 48 (.faddr 2 (.t 3)),
om 49 128 (ld 48),
⟨(some 50),(.a (.bslice 3 1 1 [(.int .i64 (.ofNat 0))] [(0,(.t 49))])),none,384⟩,
oc 51 141 [(ci 0),(.t 47),(.t 50)] 1023,
om 4 2047 (.mv (.t 51))])
.ret))))⟩
theorem row124 : Row Tryz.prog (124, a124) := ⟨Tryz.f124, Tryz.func124, by kernel_rfl⟩
noncomputable def a125 : AFn :=
⟨39,[(.t 4)],(.seq (.reg [⟨(some 3),(.a (.box 70 (.t 1))),none,0⟩,
oq 4 (.mv (ci 0))])
(.seq (.seq (.drw [oq 5 (.faddr 1 (.t 3)),
om 6 1 (ld 5),
om 7 3 (bi .neq (.t 6) (ci 0)),
om 8 7 (.mv (.t 7)),
og 9 8 false 15 (.faddr 2 (.t 3)),
og 10 8 false 31 (ld 9),
og 11 8 false 63 (bi .neq (.t 10) (ci 0)),
om 12 127 (.pick (.t 8) (.c (.bool true)) (.t 11)),
om 13 255 (.mv (.t 12)),
og 14 13 false 511 (.faddr 3 (.t 3)),
og 15 13 false 1023 (ld 14),
og 16 13 false 2047 (.lenSl (.t 15)),
og 17 13 false 4095 (bi .gtr (.t 16) (ci 0)),
om 18 8191 (.pick (.t 13) (.c (.bool true)) (.t 17)),
om 19 16383 (.mv (.t 18)),
og 20 19 false 32767 (.faddr 4 (.t 3)),
og 21 19 false 65535 (ld 20),
og 22 19 false 131071 (.lenSl (.t 21)),
og 23 19 false 262143 (bi .gtr (.t 22) (ci 0)),
om 24 524287 (.pick (.t 19) (.c (.bool true)) (.t 23)),
om 25 1048575 (.mv (.t 24)),
og 26 25 false 2097151 (.faddr 5 (.t 3)),
og 27 25 false 4194303 (ld 26),
og 28 25 false 8388607 (.lenSl (.t 27)),
og 29 25 false 2097151 (.mv (.t 0)),
og 30 25 false 18874367 (.nilchk (.t 29)),
og 31 25 false 52428799 (.faddr 0 (.t 30)),
og 32 25 false 119537663 (.faddr 0 (.t 31)),
og 33 25 false 253755391 (ld 32),
og 34 25 false 536870911 (bi .neq (.t 28) (.t 33)),
om 35 1073741823 (.pick (.t 25) (.c (.bool true)) (.t 34))])
(.cond (.t 35) (.seq (.reg [oq 4 (.mv (ci 3))])
.ret) .skip))
(.seq (.reg [oq 36 (.faddr 5 (.t 3)),
oq 37 (ld 36),
oc 38 141 [(.c (.int .i64 (.negSucc 999999))),(ci 1000000),(.t 37)] 0,
mt 4 38])
.ret)))⟩
theorem row125 : Row Tryz.prog (125, a125) := ⟨Tryz.f125, Tryz.func125, by kernel_rfl⟩
noncomputable def a126 : AFn :=
⟨9,[(.t 4)],(.seq (.reg [oq 4 (.mv (.c (.bool false)))])
(.seq (.reg [mt 5 0,
mt 6 1,
oc 7 142 [(.t 5),(.t 6)] 0,
oq 8 (bi .geq (.t 7) (ci 0)),
mt 4 8])
.ret))⟩
theorem row126 : Row Tryz.prog (126, a126) := ⟨Tryz.f126, Tryz.func126, by kernel_rfl⟩
noncomputable def a127 : AFn :=
⟨21,[(.t 2)],(.seq (.reg [oq 2 (.mv (.c (.bool false)))])
(.seq (.seq (.reg [mt 4 0,
oq 5 (.lenSl (.t 4)),
oq 6 (bi .sub (.t 5) (ci 1)),
mt 3 6])
(.block 0 (.loop (.seq (.seq (.reg [mt 7 3,
oq 8 (bi .gtr (.t 7) (ci 0))])
(.cond (.t 8) .skip (.exit 0)))
(.seq (.block 1 (.seq (.drw [mt 11 0,
mt 12 3,
om 13 3 (.iaddr (.slice 1) (.t 11) (.t 12)),
om 14 7 (ld 13),
mt 15 0,
mt 16 3,
om 17 32 (bi .sub (.t 16) (ci 1)),
om 18 112 (.iaddr (.slice 1) (.t 15) (.t 17)),
om 19 240 (ld 18),
oc 20 99 [(.t 14),(.t 19)] 511])
(.cond (.t 20) (.seq (.reg [oq 2 (.mv (.c (.bool false)))])
.ret) .skip)))
(.reg [mt 9 3,
oq 10 (bi .sub (.t 9) (ci 1)),
mt 3 10]))))))
(.seq (.reg [oq 2 (.mv (.c (.bool true)))])
.ret)))⟩
theorem row127 : Row Tryz.prog (127, a127) := ⟨Tryz.f127, Tryz.func127, by kernel_rfl⟩
noncomputable def a128 : AFn :=
⟨76,[],(.seq (.reg [mt 10 1,
mt 8 10])
(.block 0 (.loop (.block 1 (.seq (.reg [mt 11 8,
oq 12 (bi .mul (ci 2) (.t 11)),
oq 13 (bi .add (.t 12) (ci 1)),
mt 9 13])
(.seq (.seq (.reg [mt 14 9,
mt 15 2,
oq 16 (bi .geq (.t 14) (.t 15))])
(.cond (.t 16) (.exit 0) .skip))
(.seq (.seq (.drw [mt 17 9,
om 18 1 (bi .add (.t 17) (ci 1)),
mt 19 2,
om 20 7 (bi .lss (.t 18) (.t 19)),
om 21 15 (.mv (.t 20)),
og 22 21 true 31 (.mv (.t 0)),
og 23 21 true 31 (.mv (.t 3)),
og 24 21 true 31 (.mv (.t 9)),
og 25 21 true 223 (bi .add (.t 23) (.t 24)),
og 26 21 true 511 (.iaddr (.slice 1) (.t 22) (.t 25)),
og 27 21 true 1023 (ld 26),
og 28 21 true 31 (.mv (.t 0)),
og 29 21 true 31 (.mv (.t 3)),
og 30 21 true 31 (.mv (.t 9)),
og 31 21 true 12319 (bi .add (.t 29) (.t 30)),
og 32 21 true 28703 (bi .add (.t 31) (ci 1)),
og 33 21 true 63519 (.iaddr (.slice 1) (.t 28) (.t 32)),
og 34 21 true 129055 (ld 33),
⟨(some 35),(.x (.call (.c (.fn 99 [] [])) [(.t 27),(.t 34)])),(some (21,true)),262143⟩,
om 36 524287 (.pick (.t 21) (.t 35) (.c (.bool false)))])
(.cond (.t 36) (.reg [mt 37 9,
oq 38 (bi .add (.t 37) (ci 1)),
mt 9 38]) .skip))
(.seq (.seq (.drw [mt 39 0,
mt 40 3,
mt 41 8,
om 42 6 (bi .add (.t 40) (.t 41)),
om 43 15 (.iaddr (.slice 1) (.t 39) (.t 42)),
om 44 31 (ld 43),
mt 45 0,
mt 46 3,
mt 47 9,
om 48 384 (bi .add (.t 46) (.t 47)),
om 49 960 (.iaddr (.slice 1) (.t 45) (.t 48)),
om 50 1984 (ld 49),
oc 51 99 [(.t 44),(.t 50)] 4095,
om 52 8191 (.un .not (.t 51))])
(.cond (.t 52) .ret .skip))
(.seq (.drw [mt 53 0,
mt 54 3,
mt 55 8,
om 56 6 (bi .add (.t 54) (.t 55)),
mt 57 0,
mt 58 3,
mt 59 9,
om 60 96 (bi .add (.t 58) (.t 59)),
mt 61 0,
mt 62 3,
mt 63 9,
om 64 1536 (bi .add (.t 62) (.t 63)),
om 65 3840 (.iaddr (.slice 1) (.t 61) (.t 64)),
om 66 7936 (ld 65),
mt 67 0,
mt 68 3,
mt 69 8,
om 70 98304 (bi .add (.t 68) (.t 69)),
om 71 245760 (.iaddr (.slice 1) (.t 67) (.t 70)),
om 72 507904 (ld 71),
om 73 1048335 (.iaddr (.slice 1) (.t 53) (.t 56)),
⟨none,(.x (.st 1 (.t 73) (.t 66))),none,2096911⟩,
om 74 4194303 (.iaddr (.slice 1) (.t 57) (.t 60)),
⟨none,(.x (.st 1 (.t 74) (.t 72))),none,8388607⟩])
(.reg [mt 75 9,
mt 8 75]))))))))))⟩
theorem row128 : Row Tryz.prog (128, a128) := ⟨Tryz.f128, Tryz.func128, by kernel_rfl⟩
noncomputable def a129 : AFn :=
⟨7,[(.t 2)],(.seq (.reg [oq 2 (.mv (.c (.int .u64 (.ofNat 0))))])
(.seq (.reg [mt 3 0,
oq 4 (.conv (.int .u64) (.t 3)),
oc 5 68 [(.t 4)] 0,
oq 6 (bi .shl (.c (.int .u64 (.ofNat 1))) (.t 5)),
mt 2 6])
.ret))⟩
theorem row129 : Row Tryz.prog (129, a129) := ⟨Tryz.f129, Tryz.func129, by kernel_rfl⟩
noncomputable def a130 : AFn :=
⟨33,[(.t 2)],(.seq (.reg [oq 2 (.mv (.c (.int .u64 (.ofNat 0))))])
(.seq (.drw [mt 3 0,
om 4 1 (.nilchk (.t 3)),
om 5 3 (ld 4),
mt 6 0,
om 7 8 (.nilchk (.t 6)),
om 8 24 (ld 7),
om 9 56 (bi .shl (.t 8) (.c (.int .u64 (.ofNat 13)))),
om 10 127 (bi .xor (.t 5) (.t 9)),
om 11 255 (.nilchk (.t 3)),
⟨none,(.x (.st 1 (.t 11) (.t 10))),none,511⟩])
(.seq (.drw [mt 12 0,
om 13 1 (.nilchk (.t 12)),
om 14 3 (ld 13),
mt 15 0,
om 16 8 (.nilchk (.t 15)),
om 17 24 (ld 16),
om 18 56 (bi .shr (.t 17) (.c (.int .u64 (.ofNat 7)))),
om 19 127 (bi .xor (.t 14) (.t 18)),
om 20 255 (.nilchk (.t 12)),
⟨none,(.x (.st 1 (.t 20) (.t 19))),none,511⟩])
(.seq (.drw [mt 21 0,
om 22 1 (.nilchk (.t 21)),
om 23 3 (ld 22),
mt 24 0,
om 25 8 (.nilchk (.t 24)),
om 26 24 (ld 25),
om 27 56 (bi .shl (.t 26) (.c (.int .u64 (.ofNat 17)))),
om 28 127 (bi .xor (.t 23) (.t 27)),
om 29 255 (.nilchk (.t 21)),
⟨none,(.x (.st 1 (.t 29) (.t 28))),none,511⟩])
(.seq (.reg [mt 30 0,
oq 31 (.nilchk (.t 30)),
oq 32 (ld 31),
mt 2 32])
.ret)))))⟩
theorem row130 : Row Tryz.prog (130, a130) := ⟨Tryz.f130, Tryz.func130, by kernel_rfl⟩
noncomputable def a131 : AFn :=
⟨15,[(.t 6)],(.seq (.reg [oq 6 (.mv (ci 0))])
(.seq (.reg [mt 7 0,
mt 8 1,
oq 9 (bi .sub (.t 8) (ci 1)),
mt 10 1,
mt 11 1,
oq 12 (bi .add (.t 11) (ci 1)),
mt 13 2,
oc 14 132 [(.t 7),(.t 9),(.t 10),(.t 12),(.t 13)] 0,
mt 6 14])
.ret))⟩
theorem row131 : Row Tryz.prog (131, a131) := ⟨Tryz.f131, Tryz.func131, by kernel_rfl⟩
noncomputable def a132 : AFn :=
⟨36,[(.t 10)],(.seq (.reg [oq 10 (.mv (ci 0))])
(.seq (.reg [mt 12 0,
mt 13 1,
mt 14 2,
mt 15 4,
oc 16 143 [(.t 12),(.t 13),(.t 14),(.t 15)] 0,
mt 11 16,
oq 17 (.extract (.t 11) 0),
oq 18 (.extract (.t 11) 1),
mt 1 17,
mt 2 18])
(.seq (.reg [mt 20 0,
mt 21 2,
mt 22 3,
mt 23 4,
oc 24 143 [(.t 20),(.t 21),(.t 22),(.t 23)] 0,
mt 19 24,
oq 25 (.extract (.t 19) 0),
oq 26 (.extract (.t 19) 1),
mt 2 25,
mt 3 26])
(.seq (.reg [mt 28 0,
mt 29 1,
mt 30 2,
mt 31 4,
oc 32 143 [(.t 28),(.t 29),(.t 30),(.t 31)] 0,
mt 27 32,
oq 33 (.extract (.t 27) 0),
oq 34 (.extract (.t 27) 1),
mt 1 33,
mt 2 34])
(.seq (.reg [mt 35 2,
mt 10 35])
.ret)))))⟩
theorem row132 : Row Tryz.prog (132, a132) := ⟨Tryz.f132, Tryz.func132, by kernel_rfl⟩
noncomputable def a133 : AFn :=
⟨6,[(.t 2)],(.seq (.reg [oq 2 (.mv (.c (.bool false)))])
(.seq (.reg [mt 3 0,
mt 4 0,
oq 5 (bi .neq (.t 3) (.t 4)),
mt 2 5])
.ret))⟩
theorem row133 : Row Tryz.prog (133, a133) := ⟨Tryz.f133, Tryz.func133, by kernel_rfl⟩
noncomputable def a134 : AFn :=
⟨20,[(.t 4)],(.seq (.reg [oq 4 (.mv (ci 0))])
(.seq (.reg [mt 7 0,
oc 8 133 [(.t 7)] 0,
mt 5 8])
(.seq (.reg [mt 9 1,
oc 10 133 [(.t 9)] 0,
mt 6 10])
(.seq (.seq (.reg [mt 11 5])
(.cond (.t 11) (.seq (.seq (.reg [mt 12 6])
(.cond (.t 12) (.seq (.reg [oq 4 (.mv (ci 0))])
.ret) .skip))
(.seq (.reg [oq 4 (.mv (.c (.int .i64 (.negSucc 0))))])
.ret)) .skip))
(.seq (.seq (.reg [mt 13 6])
(.cond (.t 13) (.seq (.reg [oq 4 (.mv (ci 1))])
.ret) .skip))
(.seq (.seq (.reg [mt 14 0,
mt 15 1,
oq 16 (bi .lss (.t 14) (.t 15))])
(.cond (.t 16) (.seq (.reg [oq 4 (.mv (.c (.int .i64 (.negSucc 0))))])
.ret) .skip))
(.seq (.seq (.reg [mt 17 0,
mt 18 1,
oq 19 (bi .gtr (.t 17) (.t 18))])
(.cond (.t 19) (.seq (.reg [oq 4 (.mv (ci 1))])
.ret) .skip))
(.seq (.reg [oq 4 (.mv (ci 0))])
.ret))))))))⟩
theorem row134 : Row Tryz.prog (134, a134) := ⟨Tryz.f134, Tryz.func134, by kernel_rfl⟩
noncomputable def a135 : AFn :=
⟨20,[(.t 4)],(.seq (.reg [oq 4 (.mv (ci 0))])
(.seq (.reg [mt 7 0,
oc 8 144 [(.t 7)] 0,
mt 5 8])
(.seq (.reg [mt 9 1,
oc 10 144 [(.t 9)] 0,
mt 6 10])
(.seq (.seq (.reg [mt 11 5])
(.cond (.t 11) (.seq (.seq (.reg [mt 12 6])
(.cond (.t 12) (.seq (.reg [oq 4 (.mv (ci 0))])
.ret) .skip))
(.seq (.reg [oq 4 (.mv (.c (.int .i64 (.negSucc 0))))])
.ret)) .skip))
(.seq (.seq (.reg [mt 13 6])
(.cond (.t 13) (.seq (.reg [oq 4 (.mv (ci 1))])
.ret) .skip))
(.seq (.seq (.reg [mt 14 0,
mt 15 1,
oq 16 (bi .lss (.t 14) (.t 15))])
(.cond (.t 16) (.seq (.reg [oq 4 (.mv (.c (.int .i64 (.negSucc 0))))])
.ret) .skip))
(.seq (.seq (.reg [mt 17 0,
mt 18 1,
oq 19 (bi .gtr (.t 17) (.t 18))])
(.cond (.t 19) (.seq (.reg [oq 4 (.mv (ci 1))])
.ret) .skip))
(.seq (.reg [oq 4 (.mv (ci 0))])
.ret))))))))⟩
theorem row135 : Row Tryz.prog (135, a135) := ⟨Tryz.f135, Tryz.func135, by kernel_rfl⟩
noncomputable def a136 : AFn :=
⟨29,[(.t 4)],(.seq (.reg [oq 4 (.mv (ci 0))])
(.seq (.reg [oq 5 (.mv (ci 0))])
(.seq (.seq (.reg [mt 7 1,
oq 8 (bi .sub (.t 7) (ci 1)),
mt 6 8])
(.block 0 (.loop (.seq (.seq (.reg [mt 9 6,
mt 10 1,
oq 11 (bi .sub (.t 10) (ci 2)),
oq 12 (bi .geq (.t 9) (.t 11))])
(.cond (.t 12) .skip (.exit 0)))
(.seq (.block 1 (.seq (.reg [mt 15 5,
oq 16 (bi .mul (.t 15) (ci 1000000000)),
mt 5 16])
(.seq (.reg [mt 17 6,
mt 18 0,
oq 19 (.lenSl (.t 18)),
oq 20 (bi .lss (.t 17) (.t 19))])
(.cond (.t 20) (.reg [mt 21 5,
mt 22 0,
mt 23 6,
oq 24 (.iaddr (.slice 1) (.t 22) (.t 23)),
oq 25 (ld 24),
oq 26 (.conv (.int .i64) (.t 25)),
oq 27 (bi .add (.t 21) (.t 26)),
mt 5 27]) .skip))))
(.reg [mt 13 6,
oq 14 (bi .sub (.t 13) (ci 1)),
mt 6 14]))))))
(.seq (.reg [mt 28 5,
mt 4 28])
.ret))))⟩
theorem row136 : Row Tryz.prog (136, a136) := ⟨Tryz.f136, Tryz.func136, by kernel_rfl⟩
noncomputable def a137 : AFn :=
⟨61,[(.t 8)],(.seq (.reg [oq 8 (.mv (.c .nilsl))])
(.seq (.reg [mt 13 0,
oq 14 (.lenSl (.t 13)),
⟨(some 15),(.a (.mkSlice 102 1 4 [(.int .u32 (.ofNat 0))] (.t 14) (.t 14))),none,0⟩,
mt 9 15])
(.seq (.reg [oq 10 (.mv (ci 0))])
(.seq (.seq (.reg [mt 16 0,
oq 17 (.lenSl (.t 16)),
oq 18 (.mv (ci 0))])
(.block 0 (.loop (.seq (.reg [oq 19 (bi .lss (.t 18) (.t 17))])
(.seq (.cond (.t 19) .skip (.exit 0))
(.seq (.block 1 (.seq (.reg [mt 20 18,
mt 11 20])
(.seq (.reg [mt 21 2,
mt 22 0,
mt 23 11,
oq 24 (.iaddr (.slice 1) (.t 22) (.t 23)),
oq 25 (ld 24),
oq 26 (.conv (.int .i64) (.t 25)),
oq 27 (bi .mul (.t 21) (.t 26)),
mt 28 10,
oq 29 (bi .add (.t 27) (.t 28)),
mt 12 29])
(.seq (.seq (.reg [mt 30 11,
mt 31 1,
oq 32 (.lenSl (.t 31)),
oq 33 (bi .lss (.t 30) (.t 32))])
(.cond (.t 33) (.reg [mt 34 12,
mt 35 3,
mt 36 1,
mt 37 11,
oq 38 (.iaddr (.slice 1) (.t 36) (.t 37)),
oq 39 (ld 38),
oq 40 (.conv (.int .i64) (.t 39)),
oq 41 (bi .mul (.t 35) (.t 40)),
oq 42 (bi .add (.t 34) (.t 41)),
mt 12 42]) .skip))
(.seq (.reg [mt 43 12,
oq 44 (bi .quo (.t 43) (ci 1000000000)),
mt 10 44])
(.seq (.reg [mt 45 12,
oq 46 (bi .rem (.t 45) (ci 1000000000)),
mt 12 46])
(.seq (.seq (.reg [mt 47 12,
oq 48 (bi .lss (.t 47) (ci 0))])
(.cond (.t 48) (.seq (.reg [mt 49 12,
oq 50 (bi .add (.t 49) (ci 1000000000)),
mt 12 50])
(.reg [mt 51 10,
oq 52 (bi .sub (.t 51) (ci 1)),
mt 10 52])) .skip))
(.reg [mt 53 9,
mt 54 11,
mt 55 12,
oq 56 (.conv (.int .u32) (.t 55)),
oq 57 (.iaddr (.slice 1) (.t 53) (.t 54)),
⟨none,(.x (.st 1 (.t 57) (.t 56))),none,0⟩]))))))))
(.reg [oq 58 (bi .add (.t 18) (ci 1)),
mt 18 58])))))))
(.seq (.reg [mt 59 9,
oc 60 111 [(.t 59)] 0,
mt 8 60])
.ret)))))⟩
theorem row137 : Row Tryz.prog (137, a137) := ⟨Tryz.f137, Tryz.func137, by kernel_rfl⟩
noncomputable def a138 : AFn :=
⟨39,[(.t 4),(.t 5)],(.seq (.reg [oq 4 (.mv (.c .nilsl)),
oq 5 (.mv (.c (.int .u64 (.ofNat 0))))])
(.seq (.reg [mt 8 0,
oq 9 (.lenSl (.t 8)),
⟨(some 10),(.a (.mkSlice 102 1 4 [(.int .u32 (.ofNat 0))] (.t 9) (.t 9))),none,0⟩,
mt 4 10])
(.seq (.seq (.reg [mt 11 0,
oq 12 (.lenSl (.t 11)),
oq 13 (bi .sub (.t 12) (ci 1)),
mt 6 13])
(.block 0 (.loop (.seq (.seq (.reg [mt 14 6,
oq 15 (bi .geq (.t 14) (ci 0))])
(.cond (.t 15) .skip (.exit 0)))
(.seq (.block 1 (.seq (.reg [mt 18 5,
oq 19 (bi .mul (.t 18) (.c (.int .u64 (.ofNat 1000000000)))),
mt 20 0,
mt 21 6,
oq 22 (.iaddr (.slice 1) (.t 20) (.t 21)),
oq 23 (ld 22),
oq 24 (.conv (.int .u64) (.t 23)),
oq 25 (bi .add (.t 19) (.t 24)),
mt 7 25])
(.seq (.reg [mt 26 4,
mt 27 6,
mt 28 7,
mt 29 1,
oq 30 (bi .quo (.t 28) (.t 29)),
oq 31 (.conv (.int .u32) (.t 30)),
oq 32 (.iaddr (.slice 1) (.t 26) (.t 27)),
⟨none,(.x (.st 1 (.t 32) (.t 31))),none,0⟩])
(.reg [mt 33 7,
mt 34 1,
oq 35 (bi .rem (.t 33) (.t 34)),
mt 5 35]))))
(.reg [mt 16 6,
oq 17 (bi .sub (.t 16) (ci 1)),
mt 6 17]))))))
(.seq (.reg [mt 36 4,
oc 37 111 [(.t 36)] 0,
mt 38 5,
mt 4 37,
mt 5 38])
.ret))))⟩
theorem row138 : Row Tryz.prog (138, a138) := ⟨Tryz.f138, Tryz.func138, by kernel_rfl⟩
noncomputable def a139 : AFn :=
⟨42,[(.t 6)],(.seq (.reg [oq 6 (.mv (.c .nilsl))])
(.seq (.reg [mt 11 2,
⟨(some 12),(.a (.mkSlice 102 1 4 [(.int .u32 (.ofNat 0))] (.t 11) (.t 11))),none,0⟩,
mt 7 12])
(.seq (.reg [oq 8 (.mv (.c (.int .u64 (.ofNat 0))))])
(.seq (.seq (.reg [mt 13 7,
oq 14 (.lenSl (.t 13)),
oq 15 (.mv (ci 0))])
(.block 0 (.loop (.seq (.reg [oq 16 (bi .lss (.t 15) (.t 14))])
(.seq (.cond (.t 16) .skip (.exit 0))
(.seq (.block 1 (.seq (.reg [mt 17 15,
mt 9 17])
(.seq (.reg [mt 18 8,
mt 10 18])
(.seq (.seq (.reg [mt 19 9,
mt 20 0,
oq 21 (.lenSl (.t 20)),
oq 22 (bi .lss (.t 19) (.t 21))])
(.cond (.t 22) (.reg [mt 23 10,
mt 24 0,
mt 25 9,
oq 26 (.iaddr (.slice 1) (.t 24) (.t 25)),
oq 27 (ld 26),
oq 28 (.conv (.int .u64) (.t 27)),
mt 29 1,
oq 30 (bi .mul (.t 28) (.t 29)),
oq 31 (bi .add (.t 23) (.t 30)),
mt 10 31]) .skip))
(.seq (.reg [mt 32 7,
mt 33 9,
mt 34 10,
oq 35 (bi .rem (.t 34) (.c (.int .u64 (.ofNat 1000000000)))),
oq 36 (.conv (.int .u32) (.t 35)),
oq 37 (.iaddr (.slice 1) (.t 32) (.t 33)),
⟨none,(.x (.st 1 (.t 37) (.t 36))),none,0⟩])
(.reg [mt 38 10,
oq 39 (bi .quo (.t 38) (.c (.int .u64 (.ofNat 1000000000)))),
mt 8 39]))))))
(.reg [oq 40 (bi .add (.t 15) (ci 1)),
mt 15 40])))))))
(.seq (.reg [mt 41 7,
mt 6 41])
.ret)))))⟩
theorem row139 : Row Tryz.prog (139, a139) := ⟨Tryz.f139, Tryz.func139, by kernel_rfl⟩
noncomputable def a140 : AFn :=
⟨164,[(.t 4)],(.seq (.reg [oq 4 (.mv (.c (.int .u32 (.ofNat 0))))])
(.seq (.reg [mt 17 1,
oq 18 (.lenSl (.t 17)),
mt 5 18])
(.seq (.reg [mt 19 1,
mt 20 5,
oq 21 (bi .sub (.t 20) (ci 1)),
oq 22 (.iaddr (.slice 1) (.t 19) (.t 21)),
oq 23 (ld 22),
oq 24 (.conv (.int .u64) (.t 23)),
mt 6 24])
(.seq (.drw [mt 25 0,
mt 26 5,
om 27 3 (.iaddr (.slice 1) (.t 25) (.t 26)),
om 28 7 (ld 27),
om 29 15 (.conv (.int .u64) (.t 28)),
om 30 31 (bi .mul (.t 29) (.c (.int .u64 (.ofNat 1000000000)))),
mt 31 0,
mt 32 5,
om 33 128 (bi .sub (.t 32) (ci 1)),
om 34 448 (.iaddr (.slice 1) (.t 31) (.t 33)),
om 35 960 (ld 34),
om 36 1984 (.conv (.int .u64) (.t 35)),
om 37 4095 (bi .add (.t 30) (.t 36)),
mt 38 6,
om 39 16383 (bi .quo (.t 37) (.t 38)),
om 7 32767 (.mv (.t 39))])
(.seq (.drw [mt 40 0,
mt 41 5,
om 42 3 (.iaddr (.slice 1) (.t 40) (.t 41)),
om 43 7 (ld 42),
om 44 15 (.conv (.int .u64) (.t 43)),
om 45 31 (bi .mul (.t 44) (.c (.int .u64 (.ofNat 1000000000)))),
mt 46 0,
mt 47 5,
om 48 128 (bi .sub (.t 47) (ci 1)),
om 49 448 (.iaddr (.slice 1) (.t 46) (.t 48)),
om 50 960 (ld 49),
om 51 1984 (.conv (.int .u64) (.t 50)),
om 52 4095 (bi .add (.t 45) (.t 51)),
mt 53 6,
om 54 16383 (bi .rem (.t 52) (.t 53)),
om 8 32767 (.mv (.t 54))])
(.seq (.block 0 (.loop (.seq (.seq (.drw [mt 55 8,
om 56 1 (bi .lss (.t 55) (.c (.int .u64 (.ofNat 1000000000)))),
om 57 3 (.mv (.t 56)),
og 58 57 true 7 (.mv (.t 7)),
og 59 57 true 15 (bi .geq (.t 58) (.c (.int .u64 (.ofNat 1000000000)))),
og 60 57 true 31 (.mv (.t 59)),
og 61 60 false 63 (.mv (.t 7)),
og 62 60 false 63 (.mv (.t 1)),
og 63 60 false 63 (.mv (.t 5)),
og 64 60 false 319 (bi .sub (.t 63) (ci 2)),
og 65 60 false 959 (.iaddr (.slice 1) (.t 62) (.t 64)),
og 66 60 false 1983 (ld 65),
og 67 60 false 4031 (.conv (.int .u64) (.t 66)),
og 68 60 false 8191 (bi .mul (.t 61) (.t 67)),
og 69 60 false 63 (.mv (.t 8)),
og 70 60 false 16447 (bi .mul (.t 69) (.c (.int .u64 (.ofNat 1000000000)))),
og 71 60 false 63 (.mv (.t 0)),
og 72 60 false 63 (.mv (.t 5)),
og 73 60 false 131135 (bi .sub (.t 72) (ci 2)),
og 74 60 false 458815 (.iaddr (.slice 1) (.t 71) (.t 73)),
og 75 60 false 983103 (ld 74),
og 76 60 false 2031679 (.conv (.int .u64) (.t 75)),
og 77 60 false 4177983 (bi .add (.t 70) (.t 76)),
og 78 60 false 8388607 (bi .gtr (.t 68) (.t 77)),
og 79 57 true 16777215 (.pick (.t 60) (.c (.bool true)) (.t 78)),
om 80 33554431 (.pick (.t 57) (.t 79) (.c (.bool false)))])
(.cond (.t 80) .skip (.exit 0)))
(.block 1 (.seq (.reg [mt 81 7,
oq 82 (bi .sub (.t 81) (.c (.int .u64 (.ofNat 1)))),
mt 7 82])
(.reg [mt 83 8,
mt 84 6,
oq 85 (bi .add (.t 83) (.t 84)),
mt 8 85]))))))
(.seq (.reg [oq 9 (.mv (.c (.int .u64 (.ofNat 0)))),
oq 10 (.mv (ci 0))])
(.seq (.seq (.reg [mt 86 5,
oq 87 (.mv (ci 0))])
(.block 2 (.loop (.seq (.reg [oq 88 (bi .lss (.t 87) (.t 86))])
(.seq (.cond (.t 88) .skip (.exit 2))
(.seq (.block 3 (.seq (.reg [mt 89 87,
mt 11 89])
(.seq (.reg [mt 90 7,
mt 91 1,
mt 92 11,
oq 93 (.iaddr (.slice 1) (.t 91) (.t 92)),
oq 94 (ld 93),
oq 95 (.conv (.int .u64) (.t 94)),
oq 96 (bi .mul (.t 90) (.t 95)),
mt 97 9,
oq 98 (bi .add (.t 96) (.t 97)),
mt 12 98])
(.seq (.reg [mt 99 12,
oq 100 (bi .quo (.t 99) (.c (.int .u64 (.ofNat 1000000000)))),
mt 9 100])
(.seq (.reg [mt 101 0,
mt 102 11,
oq 103 (.iaddr (.slice 1) (.t 101) (.t 102)),
oq 104 (ld 103),
oq 105 (.conv (.int .i64) (.t 104)),
mt 106 10,
oq 107 (bi .sub (.t 105) (.t 106)),
mt 108 12,
oq 109 (bi .rem (.t 108) (.c (.int .u64 (.ofNat 1000000000)))),
oq 110 (.conv (.int .i64) (.t 109)),
oq 111 (bi .sub (.t 107) (.t 110)),
mt 13 111])
(.seq (.reg [oq 10 (.mv (ci 0))])
(.seq (.seq (.reg [mt 112 13,
oq 113 (bi .lss (.t 112) (ci 0))])
(.cond (.t 113) (.seq (.reg [mt 114 13,
oq 115 (bi .add (.t 114) (ci 1000000000)),
mt 13 115])
(.reg [oq 10 (.mv (ci 1))])) .skip))
(.reg [mt 116 0,
mt 117 11,
mt 118 13,
oq 119 (.conv (.int .u32) (.t 118)),
oq 120 (.iaddr (.slice 1) (.t 116) (.t 117)),
⟨none,(.x (.st 1 (.t 120) (.t 119))),none,0⟩]))))))))
(.reg [oq 121 (bi .add (.t 87) (ci 1)),
mt 87 121])))))))
(.seq (.seq (.reg [mt 122 0,
mt 123 5,
oq 124 (.iaddr (.slice 1) (.t 122) (.t 123)),
oq 125 (ld 124),
oq 126 (.conv (.int .i64) (.t 125)),
mt 127 10,
oq 128 (bi .sub (.t 126) (.t 127)),
mt 129 9,
oq 130 (.conv (.int .i64) (.t 129)),
oq 131 (bi .sub (.t 128) (.t 130)),
oq 132 (bi .lss (.t 131) (ci 0))])
(.cond (.t 132) (.seq (.reg [mt 133 7,
oq 134 (bi .sub (.t 133) (.c (.int .u64 (.ofNat 1)))),
mt 7 134])
(.seq (.reg [oq 14 (.mv (.c (.int .u32 (.ofNat 0))))])
(.seq (.reg [mt 135 5,
oq 136 (.mv (ci 0))])
(.block 4 (.loop (.seq (.reg [oq 137 (bi .lss (.t 136) (.t 135))])
(.seq (.cond (.t 137) .skip (.exit 4))
(.seq (.block 5 (.seq (.reg [mt 138 136,
mt 15 138])
(.seq (.drw [mt 139 0,
mt 140 15,
om 141 3 (.iaddr (.slice 1) (.t 139) (.t 140)),
om 142 7 (ld 141),
mt 143 1,
mt 144 15,
om 145 48 (.iaddr (.slice 1) (.t 143) (.t 144)),
om 146 112 (ld 145),
om 147 255 (bi .add (.t 142) (.t 146)),
mt 148 14,
om 149 1023 (bi .add (.t 147) (.t 148)),
om 16 2047 (.mv (.t 149))])
(.seq (.reg [oq 14 (.mv (.c (.int .u32 (.ofNat 0))))])
(.seq (.seq (.reg [mt 150 16,
oq 151 (bi .geq (.t 150) (.c (.int .u32 (.ofNat 1000000000))))])
(.cond (.t 151) (.seq (.reg [mt 152 16,
oq 153 (bi .sub (.t 152) (.c (.int .u32 (.ofNat 1000000000)))),
mt 16 153])
(.reg [oq 14 (.mv (.c (.int .u32 (.ofNat 1))))])) .skip))
(.reg [mt 154 0,
mt 155 15,
mt 156 16,
oq 157 (.iaddr (.slice 1) (.t 154) (.t 155)),
⟨none,(.x (.st 1 (.t 157) (.t 156))),none,0⟩]))))))
(.reg [oq 158 (bi .add (.t 136) (ci 1)),
mt 136 158]))))))))) .skip))
(.seq (.reg [mt 159 0,
mt 160 5,
oq 161 (.iaddr (.slice 1) (.t 159) (.t 160)),
⟨none,(.x (.st 1 (.t 161) (.c (.int .u32 (.ofNat 0))))),none,0⟩])
(.seq (.reg [mt 162 7,
oq 163 (.conv (.int .u32) (.t 162)),
mt 4 163])
.ret)))))))))))⟩
theorem row140 : Row Tryz.prog (140, a140) := ⟨Tryz.f140, Tryz.func140, by kernel_rfl⟩
noncomputable def a141 : AFn :=
⟨10,[(.t 6)],(.seq (.reg [⟨(some 3),(.a (.box 3 (.t 0))),none,0⟩,
⟨(some 4),(.a (.box 3 (.t 1))),none,0⟩,
oq 6 (.mv (ci 0))])
(.seq (.seq (.reg [mt 7 2,
oq 8 (.mkFunc 146 [] [(.t 3),(.t 4)]),
oc 9 145 [(.t 7),(.t 8)] 0])
(.cond (.t 9) (.seq (.reg [oq 6 (.mv (ci 2))])
.ret) .skip))
(.seq (.reg [oq 6 (.mv (ci 0))])
.ret)))⟩
theorem row141 : Row Tryz.prog (141, a141) := ⟨Tryz.f141, Tryz.func141, by kernel_rfl⟩
noncomputable def a142 : AFn :=
⟨19,[(.t 4)],(.seq (.reg [oq 4 (.mv (ci 0))])
(.seq (.seq (.reg [mt 6 0,
oq 7 (.lenSl (.t 6)),
oq 8 (.mv (ci 0))])
(.block 0 (.loop (.seq (.reg [oq 9 (bi .lss (.t 8) (.t 7))])
(.seq (.cond (.t 9) .skip (.exit 0))
(.seq (.block 1 (.seq (.reg [mt 10 8,
mt 5 10])
(.seq (.reg [mt 11 1,
mt 12 0,
mt 13 5,
oq 14 (.iaddr (.slice 1) (.t 12) (.t 13)),
oq 15 (ld 14),
oq 16 (bi .eql (.t 11) (.t 15))])
(.cond (.t 16) (.seq (.reg [mt 17 5,
mt 4 17])
.ret) .skip))))
(.reg [oq 18 (bi .add (.t 8) (ci 1)),
mt 8 18])))))))
(.seq (.reg [oq 4 (.mv (.c (.int .i64 (.negSucc 0))))])
.ret)))⟩
theorem row142 : Row Tryz.prog (142, a142) := ⟨Tryz.f142, Tryz.func142, by kernel_rfl⟩
noncomputable def a143 : AFn :=
⟨28,[(.t 8),(.t 9)],(.seq (.reg [oq 8 (.mv (ci 0)),
oq 9 (.mv (ci 0))])
(.seq (.seq (.drw [mt 10 0,
mt 11 2,
om 12 3 (.iaddr (.slice 1) (.t 10) (.t 11)),
om 13 7 (ld 12),
mt 14 0,
mt 15 1,
om 16 48 (.iaddr (.slice 1) (.t 14) (.t 15)),
om 17 112 (ld 16),
oc 18 99 [(.t 13),(.t 17)] 255])
(.cond (.t 18) (.seq (.reg [mt 19 3,
oq 20 (.nilchk (.t 19)),
oq 21 (ld 20),
oq 22 (bi .add (.t 21) (ci 1)),
oq 23 (.nilchk (.t 19)),
⟨none,(.x (.st 1 (.t 23) (.t 22))),none,0⟩])
(.seq (.reg [mt 24 2,
mt 25 1,
mt 8 24,
mt 9 25])
.ret)) .skip))
(.seq (.reg [mt 26 1,
mt 27 2,
mt 8 26,
mt 9 27])
.ret)))⟩
theorem row143 : Row Tryz.prog (143, a143) := ⟨Tryz.f143, Tryz.func143, by kernel_rfl⟩
noncomputable def a144 : AFn :=
⟨6,[(.t 2)],(.seq (.reg [oq 2 (.mv (.c (.bool false)))])
(.seq (.reg [mt 3 0,
mt 4 0,
oq 5 (bi .neq (.t 3) (.t 4)),
mt 2 5])
.ret))⟩
theorem row144 : Row Tryz.prog (144, a144) := ⟨Tryz.f144, Tryz.func144, by kernel_rfl⟩
noncomputable def a145 : AFn :=
⟨9,[(.t 4)],(.seq (.reg [oq 4 (.mv (.c (.bool false)))])
(.seq (.reg [mt 5 0,
mt 6 1,
oc 7 147 [(.t 5),(.t 6)] 0,
oq 8 (bi .geq (.t 7) (ci 0)),
mt 4 8])
.ret))⟩
theorem row145 : Row Tryz.prog (145, a145) := ⟨Tryz.f145, Tryz.func145, by kernel_rfl⟩
noncomputable def a146 : AFn :=
⟨13,[(.t 4)],(.seq (.reg [oq 4 (.mv (.c (.bool false)))])
(.seq (.reg [mt 5 0,
oq 6 (ld 1),
oq 7 (bi .lss (.t 5) (.t 6)),
mt 8 7,
og 9 8 false 0 (.mv (.t 0)),
og 10 8 false 0 (ld 2),
og 11 8 false 0 (bi .gtr (.t 9) (.t 10)),
oq 12 (.pick (.t 8) (.c (.bool true)) (.t 11)),
mt 4 12])
.ret))⟩
theorem row146 : Row Tryz.prog (146, a146) := ⟨Tryz.f146, Tryz.func146, by kernel_rfl⟩
noncomputable def a147 : AFn :=
⟨19,[(.t 4)],(.seq (.reg [oq 4 (.mv (ci 0))])
(.seq (.seq (.reg [mt 6 0,
oq 7 (.lenSl (.t 6)),
oq 8 (.mv (ci 0))])
(.block 0 (.loop (.seq (.reg [oq 9 (bi .lss (.t 8) (.t 7))])
(.seq (.cond (.t 9) .skip (.exit 0))
(.seq (.block 1 (.seq (.reg [mt 10 8,
mt 5 10])
(.seq (.reg [mt 11 1,
mt 12 0,
mt 13 5,
oq 14 (.iaddr (.slice 1) (.t 12) (.t 13)),
oq 15 (ld 14),
⟨(some 16),(.x (.call (.t 11) [(.t 15)])),none,0⟩])
(.cond (.t 16) (.seq (.reg [mt 17 5,
mt 4 17])
.ret) .skip))))
(.reg [oq 18 (bi .add (.t 8) (ci 1)),
mt 8 18])))))))
(.seq (.reg [oq 4 (.mv (.c (.int .i64 (.negSucc 0))))])
.ret)))⟩
theorem row147 : Row Tryz.prog (147, a147) := ⟨Tryz.f147, Tryz.func147, by kernel_rfl⟩
end Go.Proofs.YtffbfglbdghpaaaGreatDoor.awake
