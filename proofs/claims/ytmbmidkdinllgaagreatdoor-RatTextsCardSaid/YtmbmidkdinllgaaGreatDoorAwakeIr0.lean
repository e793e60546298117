/- The functions that Awake reaches, as data of the evaluator (part 0), written by program; each is shown to be the compiler's result on the loaded function. -/
import Derived.Test.YtmbmidkdinllgaaGreatDoorProg
import Derived.Test.YtmbmidkdinllgaaGreatDoorEv8
import Derived.KernelRfl
namespace Go.Ev.Gl
end Go.Ev.Gl
namespace Go.Proofs.YtmbmidkdinllgaaGreatDoor.awake
open Go.Ev Go.Ev.Gl
set_option maxRecDepth 100000
noncomputable def a11 : AFn :=
⟨27,[(.cell 4 true 3),(.t 5)],(.seq (.reg [⟨(some 2),(.a (.box 25 (.t 0))),none,0⟩,
⟨(some 3),(.a (.box 25 (.t 1))),none,0⟩,
⟨(some 4),(.a (.alloc 25 [(.bool false),.nilsl,.nilsl])),none,0⟩,
oq 5 (.mv (ci 0))])
(.seq (.seq (.reg [oq 8 (.ld true 3 (.t 2)),
oq 9 (.ld true 3 (.t 3)),
oc 10 32 [(.t 8),(.t 9)] 0,
mt 6 10])
(.seq (.reg [mt 11 6,
oq 12 (bi .neq (.t 11) (ci 0))])
(.cond (.t 12) (.seq (.reg [oq 13 (.build [(.bool false),.nilsl,.nilsl] []),
mt 14 6,
⟨none,(.x (.st 3 (.t 4) (.t 13))),none,0⟩,
mt 5 14])
.ret) .skip)))
(.seq (.reg [oc 15 27 [] 0,
oc 16 33 [(.c (.bool false)),(.t 15)] 0,
⟨(some 7),(.a (.alloc 25 [(.bool false),.nilsl,.nilsl])),none,0⟩,
⟨none,(.x (.st 3 (.t 7) (.t 16))),none,0⟩])
(.seq (.reg [oq 17 (.ld true 3 (.t 2)),
oq 18 (.ld true 3 (.t 7)),
oq 19 (.build [(.bool false),.nilsl,.nilsl,(.bool false),.nilsl,.nilsl] [(0,3,(.t 17)),(3,3,(.t 18))]),
oq 20 (.ld true 3 (.t 3)),
oq 21 (.ld true 3 (.t 7)),
oq 22 (.build [(.bool false),.nilsl,.nilsl,(.bool false),.nilsl,.nilsl] [(0,3,(.t 20)),(3,3,(.t 21))]),
⟨(some 23),(.a (.bslice 62 6 2 [(.bool false),.nilsl,.nilsl,(.bool false),.nilsl,.nilsl] [(0,(.t 19)),(1,(.t 22))])),none,0⟩,
oc 24 34 [(.t 23)] 0,
oq 25 (.extract (.t 24) 0),
oq 26 (.extract (.t 24) 1),
⟨none,(.x (.st 3 (.t 4) (.t 25))),none,0⟩,
mt 5 26])
.ret))))⟩
theorem row11 : Row Tryz.prog (11, a11) := ⟨Tryz.f11, Tryz.func11, by kernel_rfl⟩
noncomputable def a12 : AFn :=
⟨8,[(.cell 4 true 3)],(.seq (.reg [⟨(some 4),(.a (.alloc 25 [(.bool false),.nilsl,.nilsl])),none,0⟩])
(.seq (.reg [mt 5 0,
mt 6 1,
oc 7 35 [(.t 5),(.t 6)] 0,
⟨none,(.x (.st 3 (.t 4) (.t 7))),none,0⟩])
.ret))⟩
theorem row12 : Row Tryz.prog (12, a12) := ⟨Tryz.f12, Tryz.func12, by kernel_rfl⟩
noncomputable def a13 : AFn :=
⟨21,[(.cell 4 true 3),(.t 5)],(.seq (.reg [⟨(some 2),(.a (.box 25 (.t 0))),none,0⟩,
⟨(some 3),(.a (.box 25 (.t 1))),none,0⟩,
⟨(some 4),(.a (.alloc 25 [(.bool false),.nilsl,.nilsl])),none,0⟩,
oq 5 (.mv (ci 0))])
(.seq (.seq (.reg [oq 7 (.ld true 3 (.t 2)),
oq 8 (.ld true 3 (.t 3)),
oc 9 32 [(.t 7),(.t 8)] 0,
mt 6 9])
(.seq (.reg [mt 10 6,
oq 11 (bi .neq (.t 10) (ci 0))])
(.cond (.t 11) (.seq (.reg [oq 12 (.build [(.bool false),.nilsl,.nilsl] []),
mt 13 6,
⟨none,(.x (.st 3 (.t 4) (.t 12))),none,0⟩,
mt 5 13])
.ret) .skip)))
(.seq (.reg [oq 14 (.ld true 3 (.t 2)),
oq 15 (.ld true 3 (.t 3)),
oq 16 (.build [(.bool false),.nilsl,.nilsl,(.bool false),.nilsl,.nilsl] [(0,3,(.t 14)),(3,3,(.t 15))]),
⟨(some 17),(.a (.bslice 62 6 1 [(.bool false),.nilsl,.nilsl,(.bool false),.nilsl,.nilsl] [(0,(.t 16))])),none,0⟩,
oc 18 34 [(.t 17)] 0,
oq 19 (.extract (.t 18) 0),
oq 20 (.extract (.t 18) 1),
⟨none,(.x (.st 3 (.t 4) (.t 19))),none,0⟩,
mt 5 20])
.ret)))⟩
theorem row13 : Row Tryz.prog (13, a13) := ⟨Tryz.f13, Tryz.func13, by kernel_rfl⟩
noncomputable def a14 : AFn :=
⟨50,[(.cell 4 true 3),(.t 5)],(.seq (.reg [⟨(some 2),(.a (.box 25 (.t 0))),none,0⟩,
⟨(some 3),(.a (.box 25 (.t 1))),none,0⟩,
⟨(some 4),(.a (.alloc 25 [(.bool false),.nilsl,.nilsl])),none,0⟩,
oq 5 (.mv (ci 0))])
(.seq (.reg [oq 9 (.ld true 3 (.t 2)),
oq 10 (.ld true 3 (.t 3)),
oc 11 36 [(.t 9),(.t 10)] 0,
mt 8 11,
oq 12 (.extract (.t 8) 0),
oq 13 (.extract (.t 8) 1),
mt 6 12,
mt 7 13])
(.seq (.seq (.reg [mt 14 7,
oq 15 (bi .neq (.t 14) (ci 0))])
(.cond (.t 15) (.seq (.reg [oq 16 (.build [(.bool false),.nilsl,.nilsl] []),
mt 17 7,
⟨none,(.x (.st 3 (.t 4) (.t 16))),none,0⟩,
mt 5 17])
.ret) .skip))
(.seq (.seq (.reg [mt 18 6,
oq 19 (bi .gtr (.t 18) (ci 0))])
(.cond (.t 19) (.seq (.reg [oq 20 (.build [(.bool false),.nilsl,.nilsl] []),
⟨none,(.x (.st 3 (.t 4) (.t 20))),none,0⟩,
oq 5 (.mv (ci 9))])
.ret) .skip))
(.seq (.seq (.reg [mt 21 6,
oq 22 (bi .eql (.t 21) (ci 0))])
(.cond (.t 22) (.seq (.reg [oq 23 (.ld true 3 (.t 2)),
oc 24 37 [(.t 23)] 0,
⟨none,(.x (.st 3 (.t 4) (.t 24))),none,0⟩,
oq 5 (.mv (ci 0))])
.ret) .skip))
(.seq (.seq (.reg [oq 25 (.ld true 3 (.t 2)),
oc 26 38 [(.t 25)] 0,
oq 27 (bi .eql (.t 26) (ci 2))])
(.cond (.t 27) (.seq (.reg [oq 28 (.ld true 3 (.t 2)),
oq 29 (.ld true 3 (.t 3)),
oq 30 (.build [(.bool false),.nilsl,.nilsl,(.bool false),.nilsl,.nilsl] [(0,3,(.t 28)),(3,3,(.t 29))]),
oc 31 40 [(.t 30)] 0,
oc 32 37 [(.t 31)] 0,
oc 33 39 [(.t 32)] 0,
oq 34 (.extract (.t 33) 0),
oq 35 (.extract (.t 33) 1),
⟨none,(.x (.st 3 (.t 4) (.t 34))),none,0⟩,
mt 5 35])
.ret) .skip))
(.seq (.seq (.reg [oq 36 (.ld true 3 (.t 3)),
oc 37 38 [(.t 36)] 0,
oq 38 (bi .eql (.t 37) (ci 0))])
(.cond (.t 38) (.seq (.drw [oq 39 (.ld true 3 (.t 3)),
oc 40 41 [(.t 39)] 1,
oq 41 (.ld true 3 (.t 2)),
oc 42 41 [(.t 41)] 7,
om 43 15 (.build [(.bool false),.nilsl,.nilsl,(.bool false),.nilsl,.nilsl] [(0,3,(.t 40)),(3,3,(.t 42))]),
oc 44 40 [(.t 43)] 31,
oc 45 41 [(.t 44)] 63,
oc 46 39 [(.t 45)] 127,
om 47 255 (.extract (.t 46) 0),
om 48 255 (.extract (.t 46) 1),
⟨none,(.x (.st 3 (.t 4) (.t 47))),none,1023⟩,
om 5 2047 (.mv (.t 48))])
.ret) .skip))
(.seq (.reg [oc 49 42 [] 0,
⟨none,(.x (.st 3 (.t 4) (.t 49))),none,0⟩,
oq 5 (.mv (ci 0))])
.ret))))))))⟩
theorem row14 : Row Tryz.prog (14, a14) := ⟨Tryz.f14, Tryz.func14, by kernel_rfl⟩
noncomputable def a15 : AFn :=
⟨62,[(.t 4),(.t 5)],(.seq (.reg [⟨(some 2),(.a (.box 25 (.t 0))),none,0⟩,
oq 4 (.mv (ci 0)),
oq 5 (.mv (ci 0))])
(.seq (.seq (.reg [oq 11 (.ld true 3 (.t 2)),
oc 12 17 [(.t 11)] 0,
mt 6 12])
(.seq (.reg [mt 13 6,
oq 14 (bi .neq (.t 13) (ci 0))])
(.cond (.t 14) (.seq (.reg [mt 15 6,
oq 4 (.mv (ci 0)),
mt 5 15])
.ret) .skip)))
(.seq (.drw [oq 17 (.faddr 0 (.t 2)),
om 18 1 (ld 17),
mt 19 1,
om 20 4 (bi .lss (.t 19) (ci 0)),
om 21 15 (.bin .neq (.p .bool) (.t 18) (.t 20)),
oq 22 (.faddr 1 (.t 2)),
om 23 32 (ld 22),
mt 24 1,
oc 25 46 [(.t 24)] 128,
oc 26 45 [(.t 25)] 384,
oc 27 44 [(.t 23),(.t 26)] 992,
oq 28 (.faddr 2 (.t 2)),
om 29 2048 (ld 28),
oc 30 43 [(.t 21),(.t 27),(.t 29)] 8191,
om 16 16383 (.mv (.t 30)),
om 31 32767 (.extract (.t 16) 0),
om 32 32767 (.extract (.t 16) 1),
om 7 65535 (.mv (.t 31)),
om 8 262143 (.mv (.t 32))])
(.seq (.reg [mt 34 8,
oc 35 47 [(.t 34)] 0,
mt 33 35,
oq 36 (.extract (.t 33) 0),
oq 37 (.extract (.t 33) 1),
mt 9 36,
mt 10 37])
(.seq (.block 0 (.seq (.reg [mt 39 10,
mt 40 39,
og 41 40 true 0 (.mv (.t 7)),
og 42 40 true 0 (.un .not (.t 41)),
oq 43 (.pick (.t 40) (.t 42) (.c (.bool false))),
mt 44 43,
og 45 44 true 0 (.mv (.t 9)),
og 46 44 true 0 (bi .leq (.t 45) (.c (.int .u64 (.ofNat 9223372036854775807)))),
oq 47 (.pick (.t 44) (.t 46) (.c (.bool false))),
mt 38 47])
(.cond (.t 38) (.seq (.reg [mt 48 9,
oq 49 (.conv (.int .i64) (.t 48)),
mt 4 49,
oq 5 (.mv (ci 0))])
.ret) (.seq (.reg [mt 51 10,
mt 52 51,
og 53 52 true 0 (.mv (.t 7)),
oq 54 (.pick (.t 52) (.t 53) (.c (.bool false))),
mt 55 54,
og 56 55 true 0 (.mv (.t 9)),
og 57 55 true 0 (bi .leq (.t 56) (.c (.int .u64 (.ofNat 9223372036854775808)))),
oq 58 (.pick (.t 55) (.t 57) (.c (.bool false))),
mt 50 58])
(.cond (.t 50) (.seq (.reg [mt 59 9,
oq 60 (.un .neg (.t 59)),
oq 61 (.conv (.int .i64) (.t 60)),
mt 4 61,
oq 5 (.mv (ci 0))])
.ret) .skip)))))
(.seq (.reg [oq 4 (.mv (ci 0)),
oq 5 (.mv (ci 5))])
.ret))))))⟩
theorem row15 : Row Tryz.prog (15, a15) := ⟨Tryz.f15, Tryz.func15, by kernel_rfl⟩
noncomputable def a16 : AFn :=
⟨18,[(.t 8)],(.seq (.reg [⟨(some 4),(.a (.box 25 (.t 0))),none,0⟩,
oq 8 (.mv (.c (.bool false)))])
(.seq (.drw [mt 9 1,
om 10 1 (bi .eql (.t 9) (ci 0)),
om 11 3 (.mv (.t 10)),
og 12 11 true 7 (.ld true 3 (.t 4)),
og 13 11 true 7 (.mv (.t 2)),
og 14 11 true 7 (.mv (.t 3)),
⟨(some 15),(.x (.call (.c (.fn 12 [] [])) [(.t 13),(.t 14)])),(some (11,true)),55⟩,
⟨(some 16),(.x (.call (.c (.fn 10 [] [])) [(.t 12),(.t 15)])),(some (11,true)),127⟩,
om 17 255 (.pick (.t 11) (.t 16) (.c (.bool false))),
om 8 511 (.mv (.t 17))])
.ret))⟩
theorem row16 : Row Tryz.prog (16, a16) := ⟨Tryz.f16, Tryz.func16, by kernel_rfl⟩
noncomputable def a32 : AFn :=
⟨13,[(.t 4)],(.seq (.reg [⟨(some 2),(.a (.box 25 (.t 0))),none,0⟩,
⟨(some 3),(.a (.box 25 (.t 1))),none,0⟩,
oq 4 (.mv (ci 0))])
(.seq (.seq (.reg [oq 6 (.ld true 3 (.t 2)),
oc 7 17 [(.t 6)] 0,
mt 5 7])
(.seq (.reg [mt 8 5,
oq 9 (bi .neq (.t 8) (ci 0))])
(.cond (.t 9) (.seq (.reg [mt 10 5,
mt 4 10])
.ret) .skip)))
(.seq (.reg [oq 11 (.ld true 3 (.t 3)),
oc 12 17 [(.t 11)] 0,
mt 4 12])
.ret)))⟩
theorem row32 : Row Tryz.prog (32, a32) := ⟨Tryz.f32, Tryz.func32, by kernel_rfl⟩
noncomputable def a33 : AFn :=
⟨15,[(.cell 4 true 3)],(.seq (.reg [⟨(some 4),(.a (.alloc 25 [(.bool false),.nilsl,.nilsl])),none,0⟩])
(.seq (.reg [mt 5 0,
mt 6 5,
og 7 6 true 0 (.mv (.t 1)),
og 8 6 true 0 (.lenSl (.t 7)),
og 9 6 true 0 (bi .gtr (.t 8) (ci 0)),
oq 10 (.pick (.t 6) (.t 9) (.c (.bool false))),
mt 11 1,
oc 12 60 [(.t 11)] 0,
oc 13 27 [] 0,
oq 14 (.build [(.bool false),.nilsl,.nilsl] [(0,1,(.t 10)),(1,1,(.t 12)),(2,1,(.t 13))]),
⟨none,(.x (.st 3 (.t 4) (.t 14))),none,0⟩])
.ret))⟩
theorem row33 : Row Tryz.prog (33, a33) := ⟨Tryz.f33, Tryz.func33, by kernel_rfl⟩
noncomputable def a34 : AFn :=
⟨12,[(.cell 2 true 3),(.t 3)],(.seq (.reg [⟨(some 2),(.a (.alloc 25 [(.bool false),.nilsl,.nilsl])),none,0⟩,
oq 3 (.mv (ci 0))])
(.seq (.reg [⟨(some 4),(.a (.alloc 93 [.nilfn])),none,0⟩,
⟨none,(.x (.st 1 (.t 4) (.c (.fn 64 [] [])))),none,0⟩])
(.seq (.reg [oc 5 42 [] 0,
oq 6 (.mkFunc 67 [] [(.t 4)]),
mt 7 0,
oc 8 66 [(.t 5),(.t 6),(.t 7)] 0,
oc 9 39 [(.t 8)] 0,
oq 10 (.extract (.t 9) 0),
oq 11 (.extract (.t 9) 1),
⟨none,(.x (.st 3 (.t 2) (.t 10))),none,0⟩,
mt 3 11])
.ret)))⟩
theorem row34 : Row Tryz.prog (34, a34) := ⟨Tryz.f34, Tryz.func34, by kernel_rfl⟩
noncomputable def a35 : AFn :=
⟨31,[(.cell 4 true 3)],(.seq (.reg [⟨(some 4),(.a (.alloc 25 [(.bool false),.nilsl,.nilsl])),none,0⟩])
(.seq (.reg [mt 6 0,
mt 7 0,
oq 8 (.un .neg (.t 7)),
oq 9 (.minmax true [(.t 6),(.t 8)]),
mt 10 1,
oc 11 69 [(.t 9),(.t 10)] 0,
mt 5 11])
(.seq (.drw [mt 12 0,
mt 13 5,
om 14 3 (bi .quo (.t 12) (.t 13)),
mt 15 1,
mt 16 5,
om 17 24 (bi .quo (.t 15) (.t 16)),
om 0 7 (.mv (.t 14)),
om 1 127 (.mv (.t 17))])
(.seq (.seq (.reg [mt 18 0,
oq 19 (bi .lss (.t 18) (ci 0))])
(.cond (.t 19) (.seq (.reg [mt 20 0,
oq 21 (.un .neg (.t 20)),
oc 22 70 [(.t 21)] 0,
mt 23 1,
oc 24 70 [(.t 23)] 0,
oq 25 (.build [(.bool false),.nilsl,.nilsl] [(0,1,(.c (.bool true))),(1,1,(.t 22)),(2,1,(.t 24))]),
⟨none,(.x (.st 3 (.t 4) (.t 25))),none,0⟩])
.ret) .skip))
(.seq (.reg [mt 26 0,
oc 27 70 [(.t 26)] 0,
mt 28 1,
oc 29 70 [(.t 28)] 0,
oq 30 (.build [(.bool false),.nilsl,.nilsl] [(1,1,(.t 27)),(2,1,(.t 29))]),
⟨none,(.x (.st 3 (.t 4) (.t 30))),none,0⟩])
.ret)))))⟩
theorem row35 : Row Tryz.prog (35, a35) := ⟨Tryz.f35, Tryz.func35, by kernel_rfl⟩
noncomputable def a36 : AFn :=
⟨46,[(.t 4),(.t 5)],(.seq (.reg [⟨(some 2),(.a (.box 25 (.t 0))),none,0⟩,
⟨(some 3),(.a (.box 25 (.t 1))),none,0⟩,
oq 4 (.mv (ci 0)),
oq 5 (.mv (ci 0))])
(.seq (.seq (.reg [oq 9 (.ld true 3 (.t 2)),
oq 10 (.ld true 3 (.t 3)),
oc 11 32 [(.t 9),(.t 10)] 0,
mt 6 11])
(.seq (.reg [mt 12 6,
oq 13 (bi .neq (.t 12) (ci 0))])
(.cond (.t 13) (.seq (.reg [mt 14 6,
oq 4 (.mv (ci 0)),
mt 5 14])
.ret) .skip)))
(.seq (.drw [oq 15 (.ld true 3 (.t 2)),
oc 16 38 [(.t 15)] 1,
oq 17 (.ld true 3 (.t 3)),
oc 18 38 [(.t 17)] 7,
om 7 15 (.mv (.t 16)),
om 8 31 (.mv (.t 18))])
(.seq (.block 0 (.seq (.reg [mt 20 7,
mt 21 8,
oq 22 (bi .lss (.t 20) (.t 21)),
mt 19 22])
(.cond (.t 19) (.seq (.reg [oq 23 (.iaddr (.arr 3 1) (.c (.ptr 1 0)) (ci 0)),
oq 24 (ld 23),
mt 4 24,
oq 5 (.mv (ci 0))])
.ret) (.seq (.reg [mt 26 7,
mt 27 8,
oq 28 (bi .gtr (.t 26) (.t 27)),
mt 25 28])
(.cond (.t 25) (.seq (.reg [oq 29 (.iaddr (.arr 3 1) (.c (.ptr 1 0)) (ci 2)),
oq 30 (ld 29),
mt 4 30,
oq 5 (.mv (ci 0))])
.ret) .skip)))))
(.seq (.drw [mt 31 7,
om 32 1 (.iaddr (.arr 3 1) (.c (.ptr 1 0)) (.t 31)),
om 33 3 (ld 32),
oq 34 (.faddr 1 (.t 2)),
om 35 8 (ld 34),
oq 36 (.faddr 2 (.t 3)),
om 37 32 (ld 36),
oc 38 44 [(.t 35),(.t 37)] 120,
oq 39 (.faddr 1 (.t 3)),
om 40 256 (ld 39),
oq 41 (.faddr 2 (.t 2)),
om 42 1024 (ld 41),
oc 43 44 [(.t 40),(.t 42)] 4088,
oc 44 71 [(.t 38),(.t 43)] 8184,
om 45 16383 (bi .mul (.t 33) (.t 44)),
om 4 32767 (.mv (.t 45)),
om 5 65535 (.mv (ci 0))])
.ret)))))⟩
theorem row36 : Row Tryz.prog (36, a36) := ⟨Tryz.f36, Tryz.func36, by kernel_rfl⟩
noncomputable def a37 : AFn :=
⟨12,[(.cell 2 true 3)],(.seq (.reg [⟨(some 1),(.a (.box 25 (.t 0))),none,0⟩,
⟨(some 2),(.a (.alloc 25 [(.bool false),.nilsl,.nilsl])),none,0⟩])
(.seq (.drw [oq 3 (.faddr 0 (.t 1)),
om 4 1 (ld 3),
oq 5 (.faddr 1 (.t 1)),
om 6 4 (ld 5),
oc 7 60 [(.t 6)] 12,
oq 8 (.faddr 2 (.t 1)),
om 9 32 (ld 8),
oc 10 60 [(.t 9)] 124,
om 11 255 (.build [(.bool false),.nilsl,.nilsl] [(0,1,(.t 4)),(1,1,(.t 7)),(2,1,(.t 10))]),
⟨none,(.x (.st 3 (.t 2) (.t 11))),none,511⟩])
.ret))⟩
theorem row37 : Row Tryz.prog (37, a37) := ⟨Tryz.f37, Tryz.func37, by kernel_rfl⟩
noncomputable def a38 : AFn :=
⟨11,[(.t 2)],(.seq (.reg [⟨(some 1),(.a (.box 25 (.t 0))),none,0⟩,
oq 2 (.mv (ci 0))])
(.seq (.block 0 (.seq (.reg [oq 4 (.faddr 1 (.t 1)),
oq 5 (ld 4),
oq 6 (.lenSl (.t 5)),
oq 7 (bi .eql (.t 6) (ci 0)),
mt 3 7])
(.cond (.t 3) (.seq (.reg [oq 2 (.mv (ci 1))])
.ret) (.seq (.reg [oq 9 (.faddr 0 (.t 1)),
oq 10 (ld 9),
mt 8 10])
(.cond (.t 8) (.seq (.reg [oq 2 (.mv (ci 0))])
.ret) .skip)))))
(.seq (.reg [oq 2 (.mv (ci 2))])
.ret)))⟩
theorem row38 : Row Tryz.prog (38, a38) := ⟨Tryz.f38, Tryz.func38, by kernel_rfl⟩
noncomputable def a39 : AFn :=
⟨9,[(.cell 2 true 3),(.t 3)],(.seq (.reg [⟨(some 1),(.a (.box 25 (.t 0))),none,0⟩,
⟨(some 2),(.a (.alloc 25 [(.bool false),.nilsl,.nilsl])),none,0⟩,
oq 3 (.mv (ci 0))])
(.seq (.seq (.reg [oq 4 (.ld true 3 (.t 1)),
oc 5 72 [(.t 4)] 0,
oq 6 (.un .not (.t 5))])
(.cond (.t 6) (.seq (.reg [oq 7 (.build [(.bool false),.nilsl,.nilsl] []),
⟨none,(.x (.st 3 (.t 2) (.t 7))),none,0⟩,
oq 3 (.mv (ci 5))])
.ret) .skip))
(.seq (.reg [oq 8 (.ld true 3 (.t 1)),
⟨none,(.x (.st 3 (.t 2) (.t 8))),none,0⟩,
oq 3 (.mv (ci 0))])
.ret)))⟩
theorem row39 : Row Tryz.prog (39, a39) := ⟨Tryz.f39, Tryz.func39, by kernel_rfl⟩
noncomputable def a40 : AFn :=
⟨68,[(.cell 2 true 3)],(.seq (.reg [⟨(some 1),(.a (.box 70 (.t 0))),none,0⟩,
⟨(some 2),(.a (.alloc 25 [(.bool false),.nilsl,.nilsl])),none,0⟩])
(.seq (.reg [oq 9 (.faddr 0 (.t 1)),
oq 10 (.faddr 1 (.t 9)),
oq 11 (ld 10),
oq 12 (.faddr 0 (.t 1)),
oq 13 (.faddr 2 (.t 12)),
oq 14 (ld 13),
oc 15 73 [(.t 11),(.t 14)] 0,
mt 8 15,
oq 16 (.extract (.t 8) 0),
oq 17 (.extract (.t 8) 1),
mt 3 16,
mt 4 17])
(.seq (.reg [mt 18 3,
mt 5 18])
(.seq (.seq (.reg [mt 19 4,
oq 20 (.lenSl (.t 19)),
oq 21 (bi .gtr (.t 20) (ci 0))])
(.cond (.t 21) (.reg [mt 22 3,
oc 23 27 [] 0,
oc 24 74 [(.t 22),(.t 23)] 0,
mt 5 24]) .skip))
(.seq (.seq (.drw [mt 25 5,
oq 26 (.faddr 3 (.t 1)),
om 27 2 (.faddr 2 (.t 26)),
om 28 6 (ld 27),
oc 29 44 [(.t 25),(.t 28)] 15,
oq 30 (.faddr 3 (.t 1)),
om 31 32 (.faddr 1 (.t 30)),
om 32 96 (ld 31),
oc 33 71 [(.t 29),(.t 32)] 255,
om 34 511 (bi .leq (.t 33) (ci 0))])
(.cond (.t 34) (.seq (.reg [mt 35 5,
oc 36 33 [(.c (.bool false)),(.t 35)] 0,
⟨none,(.x (.st 3 (.t 2) (.t 36))),none,0⟩])
.ret) .skip))
(.seq (.drw [oq 37 (.faddr 3 (.t 1)),
om 38 1 (.faddr 1 (.t 37)),
om 39 3 (ld 38),
mt 40 3,
oq 41 (.faddr 3 (.t 1)),
om 42 16 (.faddr 2 (.t 41)),
om 43 48 (ld 42),
oc 44 44 [(.t 40),(.t 43)] 120,
oc 45 75 [(.t 39),(.t 44)] 255,
om 6 511 (.mv (.t 45))])
(.seq (.reg [oq 46 (.faddr 3 (.t 1)),
oq 47 (.faddr 2 (.t 46)),
oq 48 (ld 47),
mt 49 6,
oq 50 (.build [(.bool false),.nilsl,.nilsl] [(1,1,(.t 48)),(2,1,(.t 49))]),
oq 51 (.faddr 0 (.t 1)),
oq 52 (.faddr 2 (.t 51)),
oq 53 (ld 52),
mt 54 4,
oq 55 (.build [(.bool false),.nilsl,.nilsl] [(1,1,(.t 53)),(2,1,(.t 54))]),
oq 56 (.build [(.bool false),.nilsl,.nilsl,(.bool false),.nilsl,.nilsl] [(0,3,(.t 50)),(3,3,(.t 55))]),
oc 57 40 [(.t 56)] 0,
⟨(some 7),(.a (.alloc 25 [(.bool false),.nilsl,.nilsl])),none,0⟩,
⟨none,(.x (.st 3 (.t 7) (.t 57))),none,0⟩])
(.seq (.drw [mt 58 3,
oq 59 (.faddr 1 (.t 7)),
om 60 2 (ld 59),
oc 61 44 [(.t 58),(.t 60)] 7,
oq 62 (.faddr 2 (.t 7)),
om 63 16 (ld 62),
oc 64 74 [(.t 61),(.t 63)] 63,
oq 65 (.faddr 1 (.t 7)),
om 66 128 (ld 65),
om 67 511 (.build [(.bool false),.nilsl,.nilsl] [(1,1,(.t 64)),(2,1,(.t 66))]),
⟨none,(.x (.st 3 (.t 2) (.t 67))),none,1023⟩])
.ret))))))))⟩
theorem row40 : Row Tryz.prog (40, a40) := ⟨Tryz.f40, Tryz.func40, by kernel_rfl⟩
noncomputable def a41 : AFn :=
⟨6,[(.cell 2 true 3)],(.seq (.reg [⟨(some 1),(.a (.box 25 (.t 0))),none,0⟩,
⟨(some 2),(.a (.alloc 25 [(.bool false),.nilsl,.nilsl])),none,0⟩])
(.seq (.reg [oq 3 (.ld true 3 (.t 1)),
oc 4 76 [(.t 3)] 0,
oc 5 37 [(.t 4)] 0,
⟨none,(.x (.st 3 (.t 2) (.t 5))),none,0⟩])
.ret))⟩
theorem row41 : Row Tryz.prog (41, a41) := ⟨Tryz.f41, Tryz.func41, by kernel_rfl⟩
noncomputable def a43 : AFn :=
⟨27,[(.t 6),(.t 7)],(.seq (.reg [oq 6 (.mv (.c (.bool false))),
oq 7 (.mv (.c .nilsl))])
(.seq (.reg [mt 11 1,
mt 12 2,
oc 13 73 [(.t 11),(.t 12)] 0,
mt 10 13,
oq 14 (.extract (.t 10) 0),
oq 15 (.extract (.t 10) 1),
mt 8 14,
mt 9 15])
(.seq (.seq (.reg [mt 16 0,
mt 17 16,
og 18 17 true 0 (.mv (.t 9)),
og 19 17 true 0 (.lenSl (.t 18)),
og 20 17 true 0 (bi .gtr (.t 19) (ci 0)),
oq 21 (.pick (.t 17) (.t 20) (.c (.bool false)))])
(.cond (.t 21) (.reg [mt 22 8,
oc 23 27 [] 0,
oc 24 74 [(.t 22),(.t 23)] 0,
mt 8 24]) .skip))
(.seq (.reg [mt 25 0,
mt 26 8,
mt 6 25,
mt 7 26])
.ret))))⟩
theorem row43 : Row Tryz.prog (43, a43) := ⟨Tryz.f43, Tryz.func43, by kernel_rfl⟩
noncomputable def a44 : AFn :=
⟨77,[(.t 4)],(.seq (.reg [oq 4 (.mv (.c .nilsl))])
(.seq (.seq (.reg [mt 13 0,
oq 14 (.lenSl (.t 13)),
oq 15 (bi .eql (.t 14) (ci 0)),
mt 16 15,
og 17 16 false 0 (.mv (.t 1)),
og 18 16 false 0 (.lenSl (.t 17)),
og 19 16 false 0 (bi .eql (.t 18) (ci 0)),
oq 20 (.pick (.t 16) (.c (.bool true)) (.t 19))])
(.cond (.t 20) (.seq (.reg [oq 4 (.mv (.c .nilsl))])
.ret) .skip))
(.seq (.reg [mt 21 0,
oq 22 (.lenSl (.t 21)),
mt 23 1,
oq 24 (.lenSl (.t 23)),
oq 25 (bi .add (.t 22) (.t 24)),
⟨(some 26),(.a (.mkSlice 47 1 4 [(.int .u32 (.ofNat 0))] (.t 25) (.t 25))),none,0⟩,
mt 5 26])
(.seq (.seq (.reg [mt 27 0,
oq 28 (.lenSl (.t 27)),
oq 29 (.mv (ci 0))])
(.block 0 (.loop (.seq (.reg [oq 30 (bi .lss (.t 29) (.t 28))])
(.seq (.cond (.t 30) .skip (.exit 0))
(.seq (.block 1 (.seq (.reg [mt 31 29,
oq 32 (.iaddr (.slice 1) (.t 27) (.t 29)),
oq 33 (ld 32),
mt 6 31,
mt 7 33])
(.seq (.reg [mt 34 5,
mt 35 6,
oq 36 (.slc (.slice 1) (.t 34) (some (.t 35)) none none),
mt 8 36])
(.seq (.reg [oq 9 (.mv (.c (.int .u64 (.ofNat 0))))])
(.seq (.seq (.reg [mt 37 1,
oq 38 (.lenSl (.t 37)),
oq 39 (.mv (ci 0))])
(.block 2 (.loop (.seq (.reg [oq 40 (bi .lss (.t 39) (.t 38))])
(.seq (.cond (.t 40) .skip (.exit 2))
(.seq (.block 3 (.seq (.reg [mt 41 39,
oq 42 (.iaddr (.slice 1) (.t 37) (.t 39)),
oq 43 (ld 42),
mt 10 41,
mt 11 43])
(.seq (.reg [mt 44 7,
oq 45 (.conv (.int .u64) (.t 44)),
mt 46 11,
oq 47 (.conv (.int .u64) (.t 46)),
oq 48 (bi .mul (.t 45) (.t 47)),
mt 49 8,
mt 50 10,
oq 51 (.iaddr (.slice 1) (.t 49) (.t 50)),
oq 52 (ld 51),
oq 53 (.conv (.int .u64) (.t 52)),
oq 54 (bi .add (.t 48) (.t 53)),
mt 55 9,
oq 56 (bi .add (.t 54) (.t 55)),
mt 12 56])
(.seq (.reg [mt 57 12,
oq 58 (bi .quo (.t 57) (.c (.int .u64 (.ofNat 1000000000)))),
mt 9 58])
(.reg [mt 59 8,
mt 60 10,
mt 61 12,
mt 62 9,
oq 63 (bi .mul (.t 62) (.c (.int .u64 (.ofNat 1000000000)))),
oq 64 (bi .sub (.t 61) (.t 63)),
oq 65 (.conv (.int .u32) (.t 64)),
oq 66 (.iaddr (.slice 1) (.t 59) (.t 60)),
⟨none,(.x (.st 1 (.t 66) (.t 65))),none,0⟩])))))
(.reg [oq 67 (bi .add (.t 39) (ci 1)),
mt 39 67])))))))
(.reg [mt 68 8,
mt 69 1,
oq 70 (.lenSl (.t 69)),
mt 71 9,
oq 72 (.conv (.int .u32) (.t 71)),
oq 73 (.iaddr (.slice 1) (.t 68) (.t 70)),
⟨none,(.x (.st 1 (.t 73) (.t 72))),none,0⟩]))))))
(.reg [oq 74 (bi .add (.t 29) (ci 1)),
mt 29 74])))))))
(.seq (.reg [mt 75 5,
oc 76 77 [(.t 75)] 0,
mt 4 76])
.ret)))))⟩
theorem row44 : Row Tryz.prog (44, a44) := ⟨Tryz.f44, Tryz.func44, by kernel_rfl⟩
noncomputable def a46 : AFn :=
⟨10,[(.t 2)],(.seq (.reg [oq 2 (.mv (.c (.int .u64 (.ofNat 0))))])
(.seq (.seq (.reg [mt 3 0,
oq 4 (bi .lss (.t 3) (ci 0))])
(.cond (.t 4) (.seq (.reg [mt 5 0,
oq 6 (.conv (.int .u64) (.t 5)),
oq 7 (.un .neg (.t 6)),
mt 2 7])
.ret) .skip))
(.seq (.reg [mt 8 0,
oq 9 (.conv (.int .u64) (.t 8)),
mt 2 9])
.ret)))⟩
theorem row46 : Row Tryz.prog (46, a46) := ⟨Tryz.f46, Tryz.func46, by kernel_rfl⟩
noncomputable def a47 : AFn :=
⟨41,[(.t 2),(.t 3)],(.seq (.reg [oq 2 (.mv (.c (.int .u64 (.ofNat 0)))),
oq 3 (.mv (.c (.bool false)))])
(.seq (.seq (.reg [mt 10 0,
oq 11 (.lenSl (.t 10)),
oq 12 (bi .gtr (.t 11) (ci 3))])
(.cond (.t 12) (.seq (.reg [oq 2 (.mv (.c (.int .u64 (.ofNat 0)))),
oq 3 (.mv (.c (.bool false)))])
.ret) .skip))
(.seq (.reg [oq 4 (.mv (.c (.int .u64 (.ofNat 0))))])
(.seq (.seq (.reg [mt 13 0,
oq 14 (.lenSl (.t 13)),
oq 15 (bi .sub (.t 14) (ci 1)),
mt 5 15])
(.block 0 (.loop (.seq (.seq (.reg [mt 16 5,
oq 17 (bi .geq (.t 16) (ci 0))])
(.cond (.t 17) .skip (.exit 0)))
(.seq (.block 1 (.seq (.reg [mt 21 4,
oc 22 78 [(.t 21),(.c (.int .u64 (.ofNat 1000000000)))] 0,
mt 20 22,
oq 23 (.extract (.t 20) 0),
oq 24 (.extract (.t 20) 1),
mt 6 23,
mt 7 24])
(.seq (.reg [mt 26 7,
mt 27 0,
mt 28 5,
oq 29 (.iaddr (.slice 1) (.t 27) (.t 28)),
oq 30 (ld 29),
oq 31 (.conv (.int .u64) (.t 30)),
⟨(some 32),(.x (.ext .add64 [(.t 26),(.t 31),(.c (.int .u64 (.ofNat 0)))])),none,0⟩,
mt 25 32,
oq 33 (.extract (.t 25) 0),
oq 34 (.extract (.t 25) 1),
mt 8 33,
mt 9 34])
(.seq (.seq (.reg [mt 35 6,
mt 36 9,
oq 37 (bi .add (.t 35) (.t 36)),
oq 38 (bi .gtr (.t 37) (.c (.int .u64 (.ofNat 0))))])
(.cond (.t 38) (.seq (.reg [oq 2 (.mv (.c (.int .u64 (.ofNat 0)))),
oq 3 (.mv (.c (.bool false)))])
.ret) .skip))
(.reg [mt 39 8,
mt 4 39])))))
(.reg [mt 18 5,
oq 19 (bi .sub (.t 18) (ci 1)),
mt 5 19]))))))
(.seq (.reg [mt 40 4,
mt 2 40,
oq 3 (.mv (.c (.bool true)))])
.ret)))))⟩
theorem row47 : Row Tryz.prog (47, a47) := ⟨Tryz.f47, Tryz.func47, by kernel_rfl⟩
noncomputable def a64 : AFn :=
⟨26,[(.cell 2 true 3)],(.seq (.reg [⟨(some 1),(.a (.box 62 (.t 0))),none,0⟩,
⟨(some 2),(.a (.alloc 25 [(.bool false),.nilsl,.nilsl])),none,0⟩])
(.seq (.seq (.reg [oq 3 (.faddr 3 (.t 1)),
oq 4 (.faddr 1 (.t 3)),
oq 5 (ld 4),
oc 6 19 [(.t 5)] 0,
mt 7 6,
og 8 7 true 0 (.faddr 3 (.t 1)),
og 9 7 true 0 (.faddr 2 (.t 8)),
og 10 7 true 0 (ld 9),
⟨(some 11),(.x (.call (.c (.fn 19 [] [])) [(.t 10)])),(some (7,true)),0⟩,
oq 12 (.pick (.t 7) (.t 11) (.c (.bool false))),
mt 13 12,
og 14 13 true 0 (.faddr 3 (.t 1)),
og 15 13 true 0 (.faddr 0 (.t 14)),
og 16 13 true 0 (ld 15),
og 17 13 true 0 (.un .not (.t 16)),
oq 18 (.pick (.t 13) (.t 17) (.c (.bool false)))])
(.cond (.t 18) (.seq (.reg [oq 19 (.faddr 0 (.t 1)),
oq 20 (.ld true 3 (.t 19)),
⟨none,(.x (.st 3 (.t 2) (.t 20))),none,0⟩])
.ret) .skip))
(.seq (.reg [oq 21 (.faddr 0 (.t 1)),
oq 22 (.ld true 3 (.t 21)),
oq 23 (.faddr 3 (.t 1)),
oq 24 (.ld true 3 (.t 23)),
oc 25 65 [(.t 22),(.t 24)] 0,
⟨none,(.x (.st 3 (.t 2) (.t 25))),none,0⟩])
.ret)))⟩
theorem row64 : Row Tryz.prog (64, a64) := ⟨Tryz.f64, Tryz.func64, by kernel_rfl⟩
noncomputable def a65 : AFn :=
⟨83,[(.cell 4 true 3)],(.seq (.reg [⟨(some 2),(.a (.box 25 (.t 0))),none,0⟩,
⟨(some 3),(.a (.box 25 (.t 1))),none,0⟩,
⟨(some 4),(.a (.alloc 25 [(.bool false),.nilsl,.nilsl])),none,0⟩])
(.seq (.seq (.reg [oq 9 (.faddr 1 (.t 2)),
oq 10 (ld 9),
oq 11 (.lenSl (.t 10)),
oq 12 (bi .eql (.t 11) (ci 0)),
mt 13 12,
og 14 13 false 0 (.faddr 1 (.t 3)),
og 15 13 false 0 (ld 14),
og 16 13 false 0 (.lenSl (.t 15)),
og 17 13 false 0 (bi .eql (.t 16) (ci 0)),
oq 18 (.pick (.t 13) (.c (.bool true)) (.t 17))])
(.cond (.t 18) (.seq (.reg [oc 19 42 [] 0,
⟨none,(.x (.st 3 (.t 4) (.t 19))),none,0⟩])
.ret) .skip))
(.seq (.reg [oq 20 (.faddr 0 (.t 2)),
oq 21 (ld 20),
oq 22 (.faddr 0 (.t 3)),
oq 23 (ld 22),
oq 24 (.bin .neq (.p .bool) (.t 21) (.t 23)),
mt 5 24])
(.seq (.seq (.reg [oq 25 (.ld true 3 (.t 2)),
oq 26 (.ld true 3 (.t 3)),
oc 27 90 [(.t 25),(.t 26)] 0])
(.cond (.t 27) (.seq (.drw [mt 28 5,
oq 29 (.faddr 1 (.t 2)),
om 30 2 (ld 29),
om 31 6 (.iaddr (.slice 1) (.t 30) (ci 0)),
om 32 14 (ld 31),
om 33 30 (.conv (.int .u64) (.t 32)),
oq 34 (.faddr 1 (.t 3)),
om 35 64 (ld 34),
om 36 192 (.iaddr (.slice 1) (.t 35) (ci 0)),
om 37 448 (ld 36),
om 38 960 (.conv (.int .u64) (.t 37)),
om 39 2046 (bi .mul (.t 33) (.t 38)),
oq 40 (.faddr 2 (.t 2)),
om 41 4096 (ld 40),
om 42 12288 (.iaddr (.slice 1) (.t 41) (ci 0)),
om 43 28672 (ld 42),
om 44 61440 (.conv (.int .u64) (.t 43)),
oq 45 (.faddr 2 (.t 3)),
om 46 131072 (ld 45),
om 47 393216 (.iaddr (.slice 1) (.t 46) (ci 0)),
om 48 917504 (ld 47),
om 49 1966080 (.conv (.int .u64) (.t 48)),
om 50 4190208 (bi .mul (.t 44) (.t 49)),
oc 51 57 [(.t 28),(.t 39),(.t 50)] 8388607,
⟨none,(.x (.st 3 (.t 4) (.t 51))),none,16777215⟩])
.ret) .skip))
(.seq (.drw [oq 52 (.faddr 1 (.t 2)),
om 53 1 (ld 52),
oq 54 (.faddr 2 (.t 3)),
om 55 4 (ld 54),
oc 56 59 [(.t 53),(.t 55)] 15,
oq 57 (.faddr 1 (.t 3)),
om 58 32 (ld 57),
oq 59 (.faddr 2 (.t 2)),
om 60 128 (ld 59),
oc 61 59 [(.t 58),(.t 60)] 511,
om 6 1023 (.mv (.t 56)),
om 7 2047 (.mv (.t 61))])
(.seq (.drw [oq 62 (.faddr 1 (.t 2)),
om 63 1 (ld 62),
mt 64 6,
oc 65 61 [(.t 63),(.t 64)] 7,
oq 66 (.faddr 1 (.t 3)),
om 67 16 (ld 66),
mt 68 7,
oc 69 61 [(.t 67),(.t 68)] 127,
oc 70 44 [(.t 65),(.t 69)] 255,
om 8 511 (.mv (.t 70))])
(.seq (.drw [mt 71 5,
mt 72 8,
oq 73 (.faddr 2 (.t 2)),
om 74 4 (ld 73),
mt 75 7,
oc 76 61 [(.t 74),(.t 75)] 28,
oq 77 (.faddr 2 (.t 3)),
om 78 64 (ld 77),
mt 79 6,
oc 80 61 [(.t 78),(.t 79)] 508,
oc 81 44 [(.t 76),(.t 80)] 1020,
om 82 2047 (.build [(.bool false),.nilsl,.nilsl] [(0,1,(.t 71)),(1,1,(.t 72)),(2,1,(.t 81))]),
⟨none,(.x (.st 3 (.t 4) (.t 82))),none,4095⟩])
.ret)))))))⟩
theorem row65 : Row Tryz.prog (65, a65) := ⟨Tryz.f65, Tryz.func65, by kernel_rfl⟩
noncomputable def a66 : AFn :=
⟨21,[(.cell 6 true 3)],(.seq (.reg [⟨(some 3),(.a (.box 25 (.t 0))),none,0⟩,
⟨(some 6),(.a (.alloc 25 [(.bool false),.nilsl,.nilsl])),none,0⟩])
(.seq (.seq (.reg [mt 9 2,
oq 10 (.lenSl (.t 9)),
oq 11 (.mv (ci 0))])
(.block 0 (.loop (.seq (.reg [oq 12 (bi .lss (.t 11) (.t 10))])
(.seq (.cond (.t 12) .skip (.exit 0))
(.seq (.block 1 (.seq (.reg [oq 13 (.iaddr (.slice 6) (.t 9) (.t 11)),
oq 14 (.ld true 6 (.t 13)),
⟨(some 8),(.a (.alloc 62 [(.bool false),.nilsl,.nilsl,(.bool false),.nilsl,.nilsl])),none,0⟩,
⟨none,(.x (.st 6 (.t 8) (.t 14))),none,0⟩])
(.reg [mt 15 1,
oq 16 (.ld true 3 (.t 3)),
oq 17 (.ld true 6 (.t 8)),
⟨(some 18),(.x (.call (.t 15) [(.t 16),(.t 17)])),none,0⟩,
⟨none,(.x (.st 3 (.t 3) (.t 18))),none,0⟩])))
(.reg [oq 19 (bi .add (.t 11) (ci 1)),
mt 11 19])))))))
(.seq (.reg [oq 20 (.ld true 3 (.t 3)),
⟨none,(.x (.st 3 (.t 6) (.t 20))),none,0⟩])
.ret)))⟩
theorem row66 : Row Tryz.prog (66, a66) := ⟨Tryz.f66, Tryz.func66, by kernel_rfl⟩
noncomputable def a67 : AFn :=
⟨11,[(.cell 5 true 3)],(.seq (.reg [⟨(some 3),(.a (.box 25 (.t 0))),none,0⟩,
⟨(some 4),(.a (.box 62 (.t 1))),none,0⟩,
⟨(some 5),(.a (.alloc 25 [(.bool false),.nilsl,.nilsl])),none,0⟩])
(.seq (.drw [oq 6 (.ld true 3 (.t 3)),
oq 7 (ld 2),
oq 8 (.ld true 6 (.t 4)),
⟨(some 9),(.x (.call (.t 7) [(.t 8)])),none,6⟩,
oc 10 68 [(.t 6),(.t 9)] 15,
⟨none,(.x (.st 3 (.t 5) (.t 10))),none,31⟩])
.ret))⟩
theorem row67 : Row Tryz.prog (67, a67) := ⟨Tryz.f67, Tryz.func67, by kernel_rfl⟩
noncomputable def a68 : AFn :=
⟨86,[(.cell 4 true 3)],(.seq (.reg [⟨(some 2),(.a (.box 25 (.t 0))),none,0⟩,
⟨(some 3),(.a (.box 25 (.t 1))),none,0⟩,
⟨(some 4),(.a (.alloc 25 [(.bool false),.nilsl,.nilsl])),none,0⟩])
(.seq (.seq (.reg [oq 11 (.faddr 1 (.t 2)),
oq 12 (ld 11),
oq 13 (.lenSl (.t 12)),
oq 14 (bi .eql (.t 13) (ci 0))])
(.cond (.t 14) (.seq (.reg [oq 15 (.ld true 3 (.t 3)),
oc 16 37 [(.t 15)] 0,
⟨none,(.x (.st 3 (.t 4) (.t 16))),none,0⟩])
.ret) .skip))
(.seq (.seq (.reg [oq 17 (.faddr 1 (.t 3)),
oq 18 (ld 17),
oq 19 (.lenSl (.t 18)),
oq 20 (bi .eql (.t 19) (ci 0))])
(.cond (.t 20) (.seq (.reg [oq 21 (.ld true 3 (.t 2)),
oc 22 37 [(.t 21)] 0,
⟨none,(.x (.st 3 (.t 4) (.t 22))),none,0⟩])
.ret) .skip))
(.seq (.seq (.reg [oq 23 (.ld true 3 (.t 2)),
oq 24 (.ld true 3 (.t 3)),
oc 25 90 [(.t 23),(.t 24)] 0])
(.cond (.t 25) (.seq (.reg [oq 26 (.ld true 3 (.t 2)),
oq 27 (.ld true 3 (.t 3)),
oc 28 91 [(.t 26),(.t 27)] 0,
⟨none,(.x (.st 3 (.t 4) (.t 28))),none,0⟩])
.ret) .skip))
(.seq (.reg [oq 29 (.faddr 2 (.t 2)),
oq 30 (ld 29),
oq 31 (.faddr 2 (.t 3)),
oq 32 (ld 31),
oc 33 59 [(.t 30),(.t 32)] 0,
mt 5 33])
(.seq (.drw [oq 34 (.faddr 2 (.t 2)),
om 35 1 (ld 34),
mt 36 5,
oc 37 61 [(.t 35),(.t 36)] 7,
oq 38 (.faddr 2 (.t 3)),
om 39 16 (ld 38),
mt 40 5,
oc 41 61 [(.t 39),(.t 40)] 127,
om 6 255 (.mv (.t 37)),
om 7 511 (.mv (.t 41))])
(.seq (.drw [oq 43 (.faddr 0 (.t 2)),
om 44 1 (ld 43),
oq 45 (.faddr 1 (.t 2)),
om 46 4 (ld 45),
mt 47 7,
oc 48 44 [(.t 46),(.t 47)] 28,
oq 49 (.faddr 0 (.t 3)),
om 50 64 (ld 49),
oq 51 (.faddr 1 (.t 3)),
om 52 256 (ld 51),
mt 53 6,
oc 54 44 [(.t 52),(.t 53)] 1852,
oc 55 92 [(.t 44),(.t 48),(.t 50),(.t 54)] 4095,
om 42 8191 (.mv (.t 55)),
om 56 16383 (.extract (.t 42) 0),
om 57 16383 (.extract (.t 42) 1),
om 8 32767 (.mv (.t 56)),
om 9 131071 (.mv (.t 57))])
(.seq (.seq (.reg [mt 58 9,
oq 59 (.lenSl (.t 58)),
oq 60 (bi .eql (.t 59) (ci 0))])
(.cond (.t 60) (.seq (.reg [oc 61 42 [] 0,
⟨none,(.x (.st 3 (.t 4) (.t 61))),none,0⟩])
.ret) .skip))
(.seq (.seq (.reg [mt 62 5,
oc 63 19 [(.t 62)] 0])
(.cond (.t 63) (.seq (.reg [mt 64 8,
mt 65 9,
oq 66 (.faddr 2 (.t 2)),
oq 67 (ld 66),
oq 68 (.faddr 2 (.t 3)),
oq 69 (ld 68),
oc 70 44 [(.t 67),(.t 69)] 0,
oq 71 (.build [(.bool false),.nilsl,.nilsl] [(0,1,(.t 64)),(1,1,(.t 65)),(2,1,(.t 70))]),
⟨none,(.x (.st 3 (.t 4) (.t 71))),none,0⟩])
.ret) .skip))
(.seq (.reg [mt 72 9,
mt 73 5,
oc 74 59 [(.t 72),(.t 73)] 0,
mt 10 74])
(.seq (.drw [mt 75 8,
mt 76 9,
mt 77 10,
oc 78 61 [(.t 76),(.t 77)] 6,
mt 79 6,
oq 80 (.faddr 2 (.t 3)),
om 81 32 (ld 80),
mt 82 10,
oc 83 61 [(.t 81),(.t 82)] 238,
oc 84 44 [(.t 79),(.t 83)] 510,
om 85 1023 (.build [(.bool false),.nilsl,.nilsl] [(0,1,(.t 75)),(1,1,(.t 78)),(2,1,(.t 84))]),
⟨none,(.x (.st 3 (.t 4) (.t 85))),none,2047⟩])
.ret)))))))))))⟩
theorem row68 : Row Tryz.prog (68, a68) := ⟨Tryz.f68, Tryz.func68, by kernel_rfl⟩
noncomputable def a69 : AFn :=
⟨15,[(.t 4)],(.seq (.reg [oq 4 (.mv (ci 0))])
(.seq (.block 0 (.loop (.seq (.seq (.reg [mt 5 1,
oq 6 (bi .neq (.t 5) (ci 0))])
(.cond (.t 6) .skip (.exit 0)))
(.block 1 (.drw [mt 7 1,
mt 8 0,
mt 9 1,
om 10 6 (bi .rem (.t 8) (.t 9)),
om 0 3 (.mv (.t 7)),
om 1 31 (.mv (.t 10))])))))
(.seq (.reg [mt 11 0,
mt 12 0,
oq 13 (.un .neg (.t 12)),
oq 14 (.minmax true [(.t 11),(.t 13)]),
mt 4 14])
.ret)))⟩
theorem row69 : Row Tryz.prog (69, a69) := ⟨Tryz.f69, Tryz.func69, by kernel_rfl⟩
noncomputable def a70 : AFn :=
⟨15,[(.t 2)],(.seq (.reg [oq 2 (.mv (.c .nilsl))])
(.seq (.reg [oq 3 (.mv (.c .nilsl))])
(.seq (.block 0 (.loop (.seq (.seq (.reg [mt 4 0,
oq 5 (bi .gtr (.t 4) (ci 0))])
(.cond (.t 5) .skip (.exit 0)))
(.block 1 (.seq (.reg [mt 6 3,
mt 7 0,
oq 8 (bi .rem (.t 7) (ci 1000000000)),
oq 9 (.conv (.int .u32) (.t 8)),
⟨(some 10),(.a (.bslice 47 1 1 [(.int .u32 (.ofNat 0))] [(0,(.t 9))])),none,0⟩,
⟨(some 11),(.x (.app 47 1 4 (.t 6) (.t 10))),none,0⟩,
mt 3 11])
(.reg [mt 12 0,
oq 13 (bi .quo (.t 12) (ci 1000000000)),
mt 0 13]))))))
(.seq (.reg [mt 14 3,
mt 2 14])
.ret))))⟩
theorem row70 : Row Tryz.prog (70, a70) := ⟨Tryz.f70, Tryz.func70, by kernel_rfl⟩
noncomputable def a72 : AFn :=
⟨13,[(.t 2)],(.seq (.reg [⟨(some 1),(.a (.box 25 (.t 0))),none,0⟩,
oq 2 (.mv (.c (.bool false)))])
(.seq (.reg [oq 3 (.faddr 1 (.t 1)),
oq 4 (ld 3),
oq 5 (.lenSl (.t 4)),
oq 6 (bi .leq (.t 5) (ci 1024)),
mt 7 6,
og 8 7 true 0 (.faddr 2 (.t 1)),
og 9 7 true 0 (ld 8),
og 10 7 true 0 (.lenSl (.t 9)),
og 11 7 true 0 (bi .leq (.t 10) (ci 1024)),
oq 12 (.pick (.t 7) (.t 11) (.c (.bool false))),
mt 2 12])
.ret))⟩
theorem row72 : Row Tryz.prog (72, a72) := ⟨Tryz.f72, Tryz.func72, by kernel_rfl⟩
noncomputable def a74 : AFn :=
⟨57,[(.t 4)],(.seq (.reg [oq 4 (.mv (.c .nilsl))])
(.seq (.seq (.reg [mt 10 0,
oq 11 (.lenSl (.t 10)),
mt 12 1,
oq 13 (.lenSl (.t 12)),
oq 14 (bi .lss (.t 11) (.t 13))])
(.cond (.t 14) (.reg [mt 15 1,
mt 16 0,
mt 0 15,
mt 1 16]) .skip))
(.seq (.reg [mt 17 0,
oq 18 (.lenSl (.t 17)),
oq 19 (bi .add (.t 18) (ci 1)),
⟨(some 20),(.a (.mkSlice 47 1 4 [(.int .u32 (.ofNat 0))] (ci 0) (.t 19))),none,0⟩,
mt 5 20])
(.seq (.reg [oq 6 (.mv (.c (.int .u32 (.ofNat 0))))])
(.seq (.seq (.reg [mt 21 0,
oq 22 (.lenSl (.t 21)),
oq 23 (.mv (ci 0))])
(.block 0 (.loop (.seq (.reg [oq 24 (bi .lss (.t 23) (.t 22))])
(.seq (.cond (.t 24) .skip (.exit 0))
(.seq (.block 1 (.seq (.reg [mt 25 23,
oq 26 (.iaddr (.slice 1) (.t 21) (.t 23)),
oq 27 (ld 26),
mt 7 25,
mt 8 27])
(.seq (.reg [mt 28 8,
mt 29 6,
oq 30 (bi .add (.t 28) (.t 29)),
mt 9 30])
(.seq (.seq (.reg [mt 31 7,
mt 32 1,
oq 33 (.lenSl (.t 32)),
oq 34 (bi .lss (.t 31) (.t 33))])
(.cond (.t 34) (.reg [mt 35 9,
mt 36 1,
mt 37 7,
oq 38 (.iaddr (.slice 1) (.t 36) (.t 37)),
oq 39 (ld 38),
oq 40 (bi .add (.t 35) (.t 39)),
mt 9 40]) .skip))
(.seq (.reg [oq 6 (.mv (.c (.int .u32 (.ofNat 0))))])
(.seq (.seq (.reg [mt 41 9,
oq 42 (bi .geq (.t 41) (.c (.int .u32 (.ofNat 1000000000))))])
(.cond (.t 42) (.seq (.reg [mt 43 9,
oq 44 (bi .sub (.t 43) (.c (.int .u32 (.ofNat 1000000000)))),
mt 9 44])
(.reg [oq 6 (.mv (.c (.int .u32 (.ofNat 1))))])) .skip))
(.reg [mt 45 5,
mt 46 9,
⟨(some 47),(.a (.bslice 47 1 1 [(.int .u32 (.ofNat 0))] [(0,(.t 46))])),none,0⟩,
⟨(some 48),(.x (.app 47 1 4 (.t 45) (.t 47))),none,0⟩,
mt 5 48])))))))
(.reg [oq 49 (bi .add (.t 23) (ci 1)),
mt 23 49])))))))
(.seq (.seq (.reg [mt 50 6,
oq 51 (bi .gtr (.t 50) (.c (.int .u32 (.ofNat 0))))])
(.cond (.t 51) (.reg [mt 52 5,
mt 53 6,
⟨(some 54),(.a (.bslice 47 1 1 [(.int .u32 (.ofNat 0))] [(0,(.t 53))])),none,0⟩,
⟨(some 55),(.x (.app 47 1 4 (.t 52) (.t 54))),none,0⟩,
mt 5 55]) .skip))
(.seq (.reg [mt 56 5,
mt 4 56])
.ret)))))))⟩
theorem row74 : Row Tryz.prog (74, a74) := ⟨Tryz.f74, Tryz.func74, by kernel_rfl⟩
noncomputable def a75 : AFn :=
⟨47,[(.t 4)],(.seq (.reg [oq 4 (.mv (.c .nilsl))])
(.seq (.reg [mt 10 0,
oq 11 (.lenSl (.t 10)),
⟨(some 12),(.a (.mkSlice 47 1 4 [(.int .u32 (.ofNat 0))] (.t 11) (.t 11))),none,0⟩,
mt 5 12])
(.seq (.reg [oq 6 (.mv (ci 0))])
(.seq (.seq (.reg [mt 13 0,
oq 14 (.lenSl (.t 13)),
oq 15 (.mv (ci 0))])
(.block 0 (.loop (.seq (.reg [oq 16 (bi .lss (.t 15) (.t 14))])
(.seq (.cond (.t 16) .skip (.exit 0))
(.seq (.block 1 (.seq (.reg [mt 17 15,
oq 18 (.iaddr (.slice 1) (.t 13) (.t 15)),
oq 19 (ld 18),
mt 7 17,
mt 8 19])
(.seq (.reg [mt 20 8,
oq 21 (.conv (.int .i64) (.t 20)),
mt 22 6,
oq 23 (bi .sub (.t 21) (.t 22)),
mt 9 23])
(.seq (.seq (.reg [mt 24 7,
mt 25 1,
oq 26 (.lenSl (.t 25)),
oq 27 (bi .lss (.t 24) (.t 26))])
(.cond (.t 27) (.reg [mt 28 9,
mt 29 1,
mt 30 7,
oq 31 (.iaddr (.slice 1) (.t 29) (.t 30)),
oq 32 (ld 31),
oq 33 (.conv (.int .i64) (.t 32)),
oq 34 (bi .sub (.t 28) (.t 33)),
mt 9 34]) .skip))
(.seq (.reg [oq 6 (.mv (ci 0))])
(.seq (.seq (.reg [mt 35 9,
oq 36 (bi .lss (.t 35) (ci 0))])
(.cond (.t 36) (.seq (.reg [mt 37 9,
oq 38 (bi .add (.t 37) (ci 1000000000)),
mt 9 38])
(.reg [oq 6 (.mv (ci 1))])) .skip))
(.reg [mt 39 5,
mt 40 7,
mt 41 9,
oq 42 (.conv (.int .u32) (.t 41)),
oq 43 (.iaddr (.slice 1) (.t 39) (.t 40)),
⟨none,(.x (.st 1 (.t 43) (.t 42))),none,0⟩])))))))
(.reg [oq 44 (bi .add (.t 15) (ci 1)),
mt 15 44])))))))
(.seq (.reg [mt 45 5,
oc 46 77 [(.t 45)] 0,
mt 4 46])
.ret)))))⟩
theorem row75 : Row Tryz.prog (75, a75) := ⟨Tryz.f75, Tryz.func75, by kernel_rfl⟩
noncomputable def a76 : AFn :=
⟨17,[(.cell 2 true 3)],(.seq (.reg [⟨(some 1),(.a (.box 25 (.t 0))),none,0⟩,
⟨(some 2),(.a (.alloc 25 [(.bool false),.nilsl,.nilsl])),none,0⟩])
(.seq (.reg [oq 3 (.faddr 0 (.t 1)),
oq 4 (ld 3),
oq 5 (.un .not (.t 4)),
mt 6 5,
og 7 6 true 0 (.faddr 1 (.t 1)),
og 8 6 true 0 (ld 7),
og 9 6 true 0 (.lenSl (.t 8)),
og 10 6 true 0 (bi .gtr (.t 9) (ci 0)),
oq 11 (.pick (.t 6) (.t 10) (.c (.bool false))),
oq 12 (.faddr 1 (.t 1)),
oq 13 (ld 12),
oq 14 (.faddr 2 (.t 1)),
oq 15 (ld 14),
oq 16 (.build [(.bool false),.nilsl,.nilsl] [(0,1,(.t 11)),(1,1,(.t 13)),(2,1,(.t 15))]),
⟨none,(.x (.st 3 (.t 2) (.t 16))),none,0⟩])
.ret))⟩
theorem row76 : Row Tryz.prog (76, a76) := ⟨Tryz.f76, Tryz.func76, by kernel_rfl⟩
noncomputable def a78 : AFn :=
⟨51,[(.t 4),(.t 5)],(.seq (.reg [oq 4 (.mv (.c (.int .u64 (.ofNat 0)))),
oq 5 (.mv (.c (.int .u64 (.ofNat 0))))])
(.seq (.reg [mt 14 0,
oq 15 (bi .and (.t 14) (.c (.int .u64 (.ofNat 4294967295)))),
mt 6 15])
(.seq (.reg [mt 16 0,
oq 17 (bi .shr (.t 16) (.c (.int .u64 (.ofNat 32)))),
mt 7 17])
(.seq (.reg [mt 18 1,
oq 19 (bi .and (.t 18) (.c (.int .u64 (.ofNat 4294967295)))),
mt 8 19])
(.seq (.reg [mt 20 1,
oq 21 (bi .shr (.t 20) (.c (.int .u64 (.ofNat 32)))),
mt 9 21])
(.seq (.reg [mt 22 6,
mt 23 8,
oq 24 (bi .mul (.t 22) (.t 23)),
mt 10 24])
(.seq (.reg [mt 25 7,
mt 26 8,
oq 27 (bi .mul (.t 25) (.t 26)),
mt 28 10,
oq 29 (bi .shr (.t 28) (.c (.int .u64 (.ofNat 32)))),
oq 30 (bi .add (.t 27) (.t 29)),
mt 11 30])
(.seq (.reg [mt 31 11,
oq 32 (bi .and (.t 31) (.c (.int .u64 (.ofNat 4294967295)))),
mt 12 32])
(.seq (.reg [mt 33 11,
oq 34 (bi .shr (.t 33) (.c (.int .u64 (.ofNat 32)))),
mt 13 34])
(.seq (.reg [mt 35 12,
mt 36 6,
mt 37 9,
oq 38 (bi .mul (.t 36) (.t 37)),
oq 39 (bi .add (.t 35) (.t 38)),
mt 12 39])
(.seq (.reg [mt 40 7,
mt 41 9,
oq 42 (bi .mul (.t 40) (.t 41)),
mt 43 13,
oq 44 (bi .add (.t 42) (.t 43)),
mt 45 12,
oq 46 (bi .shr (.t 45) (.c (.int .u64 (.ofNat 32)))),
oq 47 (bi .add (.t 44) (.t 46)),
mt 4 47])
(.seq (.reg [mt 48 0,
mt 49 1,
oq 50 (bi .mul (.t 48) (.t 49)),
mt 5 50])
.ret))))))))))))⟩
theorem row78 : Row Tryz.prog (78, a78) := ⟨Tryz.f78, Tryz.func78, by kernel_rfl⟩
noncomputable def a90 : AFn :=
⟨27,[(.t 4)],(.seq (.reg [⟨(some 2),(.a (.box 25 (.t 0))),none,0⟩,
⟨(some 3),(.a (.box 25 (.t 1))),none,0⟩,
oq 4 (.mv (.c (.bool false)))])
(.seq (.reg [oq 5 (.faddr 1 (.t 2)),
oq 6 (ld 5),
oq 7 (.lenSl (.t 6)),
oq 8 (bi .eql (.t 7) (ci 1)),
mt 9 8,
og 10 9 true 0 (.faddr 2 (.t 2)),
og 11 9 true 0 (ld 10),
og 12 9 true 0 (.lenSl (.t 11)),
og 13 9 true 0 (bi .eql (.t 12) (ci 1)),
oq 14 (.pick (.t 9) (.t 13) (.c (.bool false))),
mt 15 14,
og 16 15 true 0 (.faddr 1 (.t 3)),
og 17 15 true 0 (ld 16),
og 18 15 true 0 (.lenSl (.t 17)),
og 19 15 true 0 (bi .eql (.t 18) (ci 1)),
oq 20 (.pick (.t 15) (.t 19) (.c (.bool false))),
mt 21 20,
og 22 21 true 0 (.faddr 2 (.t 3)),
og 23 21 true 0 (ld 22),
og 24 21 true 0 (.lenSl (.t 23)),
og 25 21 true 0 (bi .eql (.t 24) (ci 1)),
oq 26 (.pick (.t 21) (.t 25) (.c (.bool false))),
mt 4 26])
.ret))⟩
theorem row90 : Row Tryz.prog (90, a90) := ⟨Tryz.f90, Tryz.func90, by kernel_rfl⟩
noncomputable def a91 : AFn :=
⟨74,[(.cell 4 true 3)],(.seq (.reg [⟨(some 2),(.a (.box 25 (.t 0))),none,0⟩,
⟨(some 3),(.a (.box 25 (.t 1))),none,0⟩,
⟨(some 4),(.a (.alloc 25 [(.bool false),.nilsl,.nilsl])),none,0⟩])
(.seq (.drw [oq 8 (.faddr 1 (.t 2)),
om 9 1 (ld 8),
om 10 3 (.iaddr (.slice 1) (.t 9) (ci 0)),
om 11 7 (ld 10),
om 12 15 (.conv (.int .u64) (.t 11)),
oq 13 (.faddr 2 (.t 3)),
om 14 32 (ld 13),
om 15 96 (.iaddr (.slice 1) (.t 14) (ci 0)),
om 16 224 (ld 15),
om 17 480 (.conv (.int .u64) (.t 16)),
om 18 1023 (bi .mul (.t 12) (.t 17)),
oq 19 (.faddr 1 (.t 3)),
om 20 2048 (ld 19),
om 21 6144 (.iaddr (.slice 1) (.t 20) (ci 0)),
om 22 14336 (ld 21),
om 23 30720 (.conv (.int .u64) (.t 22)),
oq 24 (.faddr 2 (.t 2)),
om 25 65536 (ld 24),
om 26 196608 (.iaddr (.slice 1) (.t 25) (ci 0)),
om 27 458752 (ld 26),
om 28 983040 (.conv (.int .u64) (.t 27)),
om 29 2095104 (bi .mul (.t 23) (.t 28)),
om 5 2047 (.mv (.t 18)),
om 6 8388607 (.mv (.t 29))])
(.seq (.drw [oq 30 (.faddr 2 (.t 2)),
om 31 1 (ld 30),
om 32 3 (.iaddr (.slice 1) (.t 31) (ci 0)),
om 33 7 (ld 32),
om 34 15 (.conv (.int .u64) (.t 33)),
oq 35 (.faddr 2 (.t 3)),
om 36 32 (ld 35),
om 37 96 (.iaddr (.slice 1) (.t 36) (ci 0)),
om 38 224 (ld 37),
om 39 480 (.conv (.int .u64) (.t 38)),
om 40 1023 (bi .mul (.t 34) (.t 39)),
om 7 2047 (.mv (.t 40))])
(.seq (.seq (.reg [oq 41 (.faddr 0 (.t 2)),
oq 42 (ld 41),
oq 43 (.faddr 0 (.t 3)),
oq 44 (ld 43),
oq 45 (.bin .eql (.p .bool) (.t 42) (.t 44))])
(.cond (.t 45) (.seq (.reg [oq 46 (.faddr 0 (.t 2)),
oq 47 (ld 46),
mt 48 5,
mt 49 6,
oq 50 (bi .add (.t 48) (.t 49)),
mt 51 7,
oc 52 57 [(.t 47),(.t 50),(.t 51)] 0,
⟨none,(.x (.st 3 (.t 4) (.t 52))),none,0⟩])
.ret) .skip))
(.seq (.seq (.reg [mt 53 5,
mt 54 6,
oq 55 (bi .eql (.t 53) (.t 54))])
(.cond (.t 55) (.seq (.reg [oc 56 42 [] 0,
⟨none,(.x (.st 3 (.t 4) (.t 56))),none,0⟩])
.ret) .skip))
(.seq (.seq (.reg [mt 57 5,
mt 58 6,
oq 59 (bi .gtr (.t 57) (.t 58))])
(.cond (.t 59) (.seq (.reg [oq 60 (.faddr 0 (.t 2)),
oq 61 (ld 60),
mt 62 5,
mt 63 6,
oq 64 (bi .sub (.t 62) (.t 63)),
mt 65 7,
oc 66 57 [(.t 61),(.t 64),(.t 65)] 0,
⟨none,(.x (.st 3 (.t 4) (.t 66))),none,0⟩])
.ret) .skip))
(.seq (.reg [oq 67 (.faddr 0 (.t 3)),
oq 68 (ld 67),
mt 69 6,
mt 70 5,
oq 71 (bi .sub (.t 69) (.t 70)),
mt 72 7,
oc 73 57 [(.t 68),(.t 71),(.t 72)] 0,
⟨none,(.x (.st 3 (.t 4) (.t 73))),none,0⟩])
.ret)))))))⟩
theorem row91 : Row Tryz.prog (91, a91) := ⟨Tryz.f91, Tryz.func91, by kernel_rfl⟩
noncomputable def a92 : AFn :=
⟨29,[(.t 8),(.t 9)],(.seq (.reg [oq 8 (.mv (.c (.bool false))),
oq 9 (.mv (.c .nilsl))])
(.seq (.seq (.reg [mt 10 0,
mt 11 2,
oq 12 (.bin .eql (.p .bool) (.t 10) (.t 11))])
(.cond (.t 12) (.seq (.reg [mt 13 0,
mt 14 1,
mt 15 3,
oc 16 74 [(.t 14),(.t 15)] 0,
mt 8 13,
mt 9 16])
.ret) .skip))
(.seq (.seq (.reg [mt 17 1,
mt 18 3,
oc 19 71 [(.t 17),(.t 18)] 0,
oq 20 (bi .geq (.t 19) (ci 0))])
(.cond (.t 20) (.seq (.reg [mt 21 0,
mt 22 1,
mt 23 3,
oc 24 75 [(.t 22),(.t 23)] 0,
mt 8 21,
mt 9 24])
.ret) .skip))
(.seq (.reg [mt 25 2,
mt 26 3,
mt 27 1,
oc 28 75 [(.t 26),(.t 27)] 0,
mt 8 25,
mt 9 28])
.ret))))⟩
theorem row92 : Row Tryz.prog (92, a92) := ⟨Tryz.f92, Tryz.func92, by kernel_rfl⟩
end Go.Proofs.YtmbmidkdinllgaaGreatDoor.awake
