/- The functions that Awake reaches, as data of the evaluator (part 0), written by program; each is shown to be the compiler's result on the loaded function. -/
import Derived.Test.YtmbmidkdinllgaaDoorProg
import Derived.Test.YtmbmidkdinllgaaDoorEv8
import Derived.KernelRfl
namespace Go.Ev.Gl
end Go.Ev.Gl
namespace Go.Proofs.YtmbmidkdinllgaaDoor.awake
open Go.Ev Go.Ev.Gl
set_option maxRecDepth 100000
noncomputable def a12 : AFn :=
⟨50,[(.cell 4 true 3),(.t 5)],(.seq (.reg [⟨(some 2),(.a (.box 25 (.t 0))),none,0⟩,
⟨(some 3),(.a (.box 25 (.t 1))),none,0⟩,
⟨(some 4),(.a (.alloc 25 [(.bool false),.nilsl,.nilsl])),none,0⟩,
oq 5 (.mv (ci 0))])
(.seq (.reg [oq 9 (.ld true 3 (.t 2)),
oq 10 (.ld true 3 (.t 3)),
oc 11 18 [(.t 9),(.t 10)] 0,
mt 8 11,
oq 12 (.extract (.t 8) 0),
oq 13 (.extract (.t 8) 1),
mt 6 12,
mt 7 13])
(.seq (.seq (.reg [mt 14 7,
oq 15 (bi .neq (.t 14) (ci 0))])
(.cond (.t 15) (.seq (.reg [oq 16 (.build [(.bool false),.nilsl,.nilsl] []),
mt 17 7,
⟨none,(.x (.st 3 (.t 4) (.t 16))),none,0⟩,
mt 5 17])
.ret) .skip))
(.seq (.seq (.reg [mt 18 6,
oq 19 (bi .gtr (.t 18) (ci 0))])
(.cond (.t 19) (.seq (.reg [oq 20 (.build [(.bool false),.nilsl,.nilsl] []),
⟨none,(.x (.st 3 (.t 4) (.t 20))),none,0⟩,
oq 5 (.mv (ci 9))])
.ret) .skip))
(.seq (.seq (.reg [mt 21 6,
oq 22 (bi .eql (.t 21) (ci 0))])
(.cond (.t 22) (.seq (.reg [oq 23 (.ld true 3 (.t 2)),
oc 24 50 [(.t 23)] 0,
⟨none,(.x (.st 3 (.t 4) (.t 24))),none,0⟩,
oq 5 (.mv (ci 0))])
.ret) .skip))
(.seq (.seq (.reg [oq 25 (.ld true 3 (.t 2)),
oc 26 51 [(.t 25)] 0,
oq 27 (bi .eql (.t 26) (ci 2))])
(.cond (.t 27) (.seq (.reg [oq 28 (.ld true 3 (.t 2)),
oq 29 (.ld true 3 (.t 3)),
oq 30 (.build [(.bool false),.nilsl,.nilsl,(.bool false),.nilsl,.nilsl] [(0,3,(.t 28)),(3,3,(.t 29))]),
oc 31 53 [(.t 30)] 0,
oc 32 50 [(.t 31)] 0,
oc 33 52 [(.t 32)] 0,
oq 34 (.extract (.t 33) 0),
oq 35 (.extract (.t 33) 1),
⟨none,(.x (.st 3 (.t 4) (.t 34))),none,0⟩,
mt 5 35])
.ret) .skip))
(.seq (.seq (.reg [oq 36 (.ld true 3 (.t 3)),
oc 37 51 [(.t 36)] 0,
oq 38 (bi .eql (.t 37) (ci 0))])
(.cond (.t 38) (.seq (.drw [oq 39 (.ld true 3 (.t 3)),
oc 40 54 [(.t 39)] 1,
oq 41 (.ld true 3 (.t 2)),
oc 42 54 [(.t 41)] 7,
om 43 15 (.build [(.bool false),.nilsl,.nilsl,(.bool false),.nilsl,.nilsl] [(0,3,(.t 40)),(3,3,(.t 42))]),
oc 44 53 [(.t 43)] 31,
oc 45 54 [(.t 44)] 63,
oc 46 52 [(.t 45)] 127,
om 47 255 (.extract (.t 46) 0),
om 48 255 (.extract (.t 46) 1),
⟨none,(.x (.st 3 (.t 4) (.t 47))),none,1023⟩,
om 5 2047 (.mv (.t 48))])
.ret) .skip))
(.seq (.reg [oc 49 55 [] 0,
⟨none,(.x (.st 3 (.t 4) (.t 49))),none,0⟩,
oq 5 (.mv (ci 0))])
.ret))))))))⟩
theorem row12 : Row Tryd.prog (12, a12) := ⟨Tryd.f12, Tryd.func12, by kernel_rfl⟩
noncomputable def a16 : AFn :=
⟨31,[(.cell 4 true 3)],(.seq (.reg [⟨(some 4),(.a (.alloc 25 [(.bool false),.nilsl,.nilsl])),none,0⟩])
(.seq (.reg [mt 6 0,
mt 7 0,
oq 8 (.un .neg (.t 7)),
oq 9 (.minmax true [(.t 6),(.t 8)]),
mt 10 1,
oc 11 60 [(.t 9),(.t 10)] 0,
mt 5 11])
(.seq (.drw [mt 12 0,
mt 13 5,
om 14 3 (bi .quo (.t 12) (.t 13)),
mt 15 1,
mt 16 5,
om 17 24 (bi .quo (.t 15) (.t 16)),
om 0 7 (.mv (.t 14)),
om 1 127 (.mv (.t 17))])
(.seq (.seq (.reg [mt 18 0,
oq 19 (bi .lss (.t 18) (ci 0))])
(.cond (.t 19) (.seq (.reg [mt 20 0,
oq 21 (.un .neg (.t 20)),
oc 22 61 [(.t 21)] 0,
mt 23 1,
oc 24 61 [(.t 23)] 0,
oq 25 (.build [(.bool false),.nilsl,.nilsl] [(0,1,(.c (.bool true))),(1,1,(.t 22)),(2,1,(.t 24))]),
⟨none,(.x (.st 3 (.t 4) (.t 25))),none,0⟩])
.ret) .skip))
(.seq (.reg [mt 26 0,
oc 27 61 [(.t 26)] 0,
mt 28 1,
oc 29 61 [(.t 28)] 0,
oq 30 (.build [(.bool false),.nilsl,.nilsl] [(1,1,(.t 27)),(2,1,(.t 29))]),
⟨none,(.x (.st 3 (.t 4) (.t 30))),none,0⟩])
.ret)))))⟩
theorem row16 : Row Tryd.prog (16, a16) := ⟨Tryd.f16, Tryd.func16, by kernel_rfl⟩
noncomputable def a18 : AFn :=
⟨46,[(.t 4),(.t 5)],(.seq (.reg [⟨(some 2),(.a (.box 25 (.t 0))),none,0⟩,
⟨(some 3),(.a (.box 25 (.t 1))),none,0⟩,
oq 4 (.mv (ci 0)),
oq 5 (.mv (ci 0))])
(.seq (.seq (.reg [oq 9 (.ld true 3 (.t 2)),
oq 10 (.ld true 3 (.t 3)),
oc 11 62 [(.t 9),(.t 10)] 0,
mt 6 11])
(.seq (.reg [mt 12 6,
oq 13 (bi .neq (.t 12) (ci 0))])
(.cond (.t 13) (.seq (.reg [mt 14 6,
oq 4 (.mv (ci 0)),
mt 5 14])
.ret) .skip)))
(.seq (.drw [oq 15 (.ld true 3 (.t 2)),
oc 16 51 [(.t 15)] 1,
oq 17 (.ld true 3 (.t 3)),
oc 18 51 [(.t 17)] 7,
om 7 15 (.mv (.t 16)),
om 8 31 (.mv (.t 18))])
(.seq (.block 0 (.seq (.reg [mt 20 7,
mt 21 8,
oq 22 (bi .lss (.t 20) (.t 21)),
mt 19 22])
(.cond (.t 19) (.seq (.reg [oq 23 (.iaddr (.arr 3 1) (.c (.ptr 0 0)) (ci 0)),
oq 24 (ld 23),
mt 4 24,
oq 5 (.mv (ci 0))])
.ret) (.seq (.reg [mt 26 7,
mt 27 8,
oq 28 (bi .gtr (.t 26) (.t 27)),
mt 25 28])
(.cond (.t 25) (.seq (.reg [oq 29 (.iaddr (.arr 3 1) (.c (.ptr 0 0)) (ci 2)),
oq 30 (ld 29),
mt 4 30,
oq 5 (.mv (ci 0))])
.ret) .skip)))))
(.seq (.drw [mt 31 7,
om 32 1 (.iaddr (.arr 3 1) (.c (.ptr 0 0)) (.t 31)),
om 33 3 (ld 32),
oq 34 (.faddr 1 (.t 2)),
om 35 8 (ld 34),
oq 36 (.faddr 2 (.t 3)),
om 37 32 (ld 36),
oc 38 64 [(.t 35),(.t 37)] 120,
oq 39 (.faddr 1 (.t 3)),
om 40 256 (ld 39),
oq 41 (.faddr 2 (.t 2)),
om 42 1024 (ld 41),
oc 43 64 [(.t 40),(.t 42)] 4088,
oc 44 63 [(.t 38),(.t 43)] 8184,
om 45 16383 (bi .mul (.t 33) (.t 44)),
om 4 32767 (.mv (.t 45)),
om 5 65535 (.mv (ci 0))])
.ret)))))⟩
theorem row18 : Row Tryd.prog (18, a18) := ⟨Tryd.f18, Tryd.func18, by kernel_rfl⟩
noncomputable def a19 : AFn :=
⟨8,[(.cell 4 true 3)],(.seq (.reg [⟨(some 4),(.a (.alloc 25 [(.bool false),.nilsl,.nilsl])),none,0⟩])
(.seq (.reg [mt 5 0,
mt 6 1,
oc 7 16 [(.t 5),(.t 6)] 0,
⟨none,(.x (.st 3 (.t 4) (.t 7))),none,0⟩])
.ret))⟩
theorem row19 : Row Tryd.prog (19, a19) := ⟨Tryd.f19, Tryd.func19, by kernel_rfl⟩
noncomputable def a22 : AFn :=
⟨27,[(.cell 4 true 3),(.t 5)],(.seq (.reg [⟨(some 2),(.a (.box 25 (.t 0))),none,0⟩,
⟨(some 3),(.a (.box 25 (.t 1))),none,0⟩,
⟨(some 4),(.a (.alloc 25 [(.bool false),.nilsl,.nilsl])),none,0⟩,
oq 5 (.mv (ci 0))])
(.seq (.seq (.reg [oq 8 (.ld true 3 (.t 2)),
oq 9 (.ld true 3 (.t 3)),
oc 10 62 [(.t 8),(.t 9)] 0,
mt 6 10])
(.seq (.reg [mt 11 6,
oq 12 (bi .neq (.t 11) (ci 0))])
(.cond (.t 12) (.seq (.reg [oq 13 (.build [(.bool false),.nilsl,.nilsl] []),
mt 14 6,
⟨none,(.x (.st 3 (.t 4) (.t 13))),none,0⟩,
mt 5 14])
.ret) .skip)))
(.seq (.reg [oc 15 66 [] 0,
oc 16 65 [(.c (.bool false)),(.t 15)] 0,
⟨(some 7),(.a (.alloc 25 [(.bool false),.nilsl,.nilsl])),none,0⟩,
⟨none,(.x (.st 3 (.t 7) (.t 16))),none,0⟩])
(.seq (.reg [oq 17 (.ld true 3 (.t 2)),
oq 18 (.ld true 3 (.t 7)),
oq 19 (.build [(.bool false),.nilsl,.nilsl,(.bool false),.nilsl,.nilsl] [(0,3,(.t 17)),(3,3,(.t 18))]),
oq 20 (.ld true 3 (.t 3)),
oq 21 (.ld true 3 (.t 7)),
oq 22 (.build [(.bool false),.nilsl,.nilsl,(.bool false),.nilsl,.nilsl] [(0,3,(.t 20)),(3,3,(.t 21))]),
⟨(some 23),(.a (.bslice 80 6 2 [(.bool false),.nilsl,.nilsl,(.bool false),.nilsl,.nilsl] [(0,(.t 19)),(1,(.t 22))])),none,0⟩,
oc 24 67 [(.t 23)] 0,
oq 25 (.extract (.t 24) 0),
oq 26 (.extract (.t 24) 1),
⟨none,(.x (.st 3 (.t 4) (.t 25))),none,0⟩,
mt 5 26])
.ret))))⟩
theorem row22 : Row Tryd.prog (22, a22) := ⟨Tryd.f22, Tryd.func22, by kernel_rfl⟩
noncomputable def a26 : AFn :=
⟨21,[(.cell 4 true 3),(.t 5)],(.seq (.reg [⟨(some 2),(.a (.box 25 (.t 0))),none,0⟩,
⟨(some 3),(.a (.box 25 (.t 1))),none,0⟩,
⟨(some 4),(.a (.alloc 25 [(.bool false),.nilsl,.nilsl])),none,0⟩,
oq 5 (.mv (ci 0))])
(.seq (.seq (.reg [oq 7 (.ld true 3 (.t 2)),
oq 8 (.ld true 3 (.t 3)),
oc 9 62 [(.t 7),(.t 8)] 0,
mt 6 9])
(.seq (.reg [mt 10 6,
oq 11 (bi .neq (.t 10) (ci 0))])
(.cond (.t 11) (.seq (.reg [oq 12 (.build [(.bool false),.nilsl,.nilsl] []),
mt 13 6,
⟨none,(.x (.st 3 (.t 4) (.t 12))),none,0⟩,
mt 5 13])
.ret) .skip)))
(.seq (.reg [oq 14 (.ld true 3 (.t 2)),
oq 15 (.ld true 3 (.t 3)),
oq 16 (.build [(.bool false),.nilsl,.nilsl,(.bool false),.nilsl,.nilsl] [(0,3,(.t 14)),(3,3,(.t 15))]),
⟨(some 17),(.a (.bslice 80 6 1 [(.bool false),.nilsl,.nilsl,(.bool false),.nilsl,.nilsl] [(0,(.t 16))])),none,0⟩,
oc 18 67 [(.t 17)] 0,
oq 19 (.extract (.t 18) 0),
oq 20 (.extract (.t 18) 1),
⟨none,(.x (.st 3 (.t 4) (.t 19))),none,0⟩,
mt 5 20])
.ret)))⟩
theorem row26 : Row Tryd.prog (26, a26) := ⟨Tryd.f26, Tryd.func26, by kernel_rfl⟩
noncomputable def a49 : AFn :=
⟨18,[(.t 8)],(.seq (.reg [⟨(some 4),(.a (.box 25 (.t 0))),none,0⟩,
oq 8 (.mv (.c (.bool false)))])
(.seq (.drw [mt 9 1,
om 10 1 (bi .eql (.t 9) (ci 0)),
om 11 3 (.mv (.t 10)),
og 12 11 true 7 (.ld true 3 (.t 4)),
og 13 11 true 7 (.mv (.t 2)),
og 14 11 true 7 (.mv (.t 3)),
⟨(some 15),(.x (.call (.c (.fn 19 [] [])) [(.t 13),(.t 14)])),(some (11,true)),55⟩,
⟨(some 16),(.x (.call (.c (.fn 14 [] [])) [(.t 12),(.t 15)])),(some (11,true)),127⟩,
om 17 255 (.pick (.t 11) (.t 16) (.c (.bool false))),
om 8 511 (.mv (.t 17))])
.ret))⟩
theorem row49 : Row Tryd.prog (49, a49) := ⟨Tryd.f49, Tryd.func49, by kernel_rfl⟩
noncomputable def a50 : AFn :=
⟨12,[(.cell 2 true 3)],(.seq (.reg [⟨(some 1),(.a (.box 25 (.t 0))),none,0⟩,
⟨(some 2),(.a (.alloc 25 [(.bool false),.nilsl,.nilsl])),none,0⟩])
(.seq (.drw [oq 3 (.faddr 0 (.t 1)),
om 4 1 (ld 3),
oq 5 (.faddr 1 (.t 1)),
om 6 4 (ld 5),
oc 7 96 [(.t 6)] 12,
oq 8 (.faddr 2 (.t 1)),
om 9 32 (ld 8),
oc 10 96 [(.t 9)] 124,
om 11 255 (.build [(.bool false),.nilsl,.nilsl] [(0,1,(.t 4)),(1,1,(.t 7)),(2,1,(.t 10))]),
⟨none,(.x (.st 3 (.t 2) (.t 11))),none,511⟩])
.ret))⟩
theorem row50 : Row Tryd.prog (50, a50) := ⟨Tryd.f50, Tryd.func50, by kernel_rfl⟩
noncomputable def a51 : AFn :=
⟨11,[(.t 2)],(.seq (.reg [⟨(some 1),(.a (.box 25 (.t 0))),none,0⟩,
oq 2 (.mv (ci 0))])
(.seq (.block 0 (.seq (.reg [oq 4 (.faddr 1 (.t 1)),
oq 5 (ld 4),
oq 6 (.lenSl (.t 5)),
oq 7 (bi .eql (.t 6) (ci 0)),
mt 3 7])
(.cond (.t 3) (.seq (.reg [oq 2 (.mv (ci 1))])
.ret) (.seq (.reg [oq 9 (.faddr 0 (.t 1)),
oq 10 (ld 9),
mt 8 10])
(.cond (.t 8) (.seq (.reg [oq 2 (.mv (ci 0))])
.ret) .skip)))))
(.seq (.reg [oq 2 (.mv (ci 2))])
.ret)))⟩
theorem row51 : Row Tryd.prog (51, a51) := ⟨Tryd.f51, Tryd.func51, by kernel_rfl⟩
noncomputable def a53 : AFn :=
⟨68,[(.cell 2 true 3)],(.seq (.reg [⟨(some 1),(.a (.box 68 (.t 0))),none,0⟩,
⟨(some 2),(.a (.alloc 25 [(.bool false),.nilsl,.nilsl])),none,0⟩])
(.seq (.reg [oq 9 (.faddr 0 (.t 1)),
oq 10 (.faddr 1 (.t 9)),
oq 11 (ld 10),
oq 12 (.faddr 0 (.t 1)),
oq 13 (.faddr 2 (.t 12)),
oq 14 (ld 13),
oc 15 98 [(.t 11),(.t 14)] 0,
mt 8 15,
oq 16 (.extract (.t 8) 0),
oq 17 (.extract (.t 8) 1),
mt 3 16,
mt 4 17])
(.seq (.reg [mt 18 3,
mt 5 18])
(.seq (.seq (.reg [mt 19 4,
oq 20 (.lenSl (.t 19)),
oq 21 (bi .gtr (.t 20) (ci 0))])
(.cond (.t 21) (.reg [mt 22 3,
oc 23 66 [] 0,
oc 24 99 [(.t 22),(.t 23)] 0,
mt 5 24]) .skip))
(.seq (.seq (.drw [mt 25 5,
oq 26 (.faddr 3 (.t 1)),
om 27 2 (.faddr 2 (.t 26)),
om 28 6 (ld 27),
oc 29 64 [(.t 25),(.t 28)] 15,
oq 30 (.faddr 3 (.t 1)),
om 31 32 (.faddr 1 (.t 30)),
om 32 96 (ld 31),
oc 33 63 [(.t 29),(.t 32)] 255,
om 34 511 (bi .leq (.t 33) (ci 0))])
(.cond (.t 34) (.seq (.reg [mt 35 5,
oc 36 65 [(.c (.bool false)),(.t 35)] 0,
⟨none,(.x (.st 3 (.t 2) (.t 36))),none,0⟩])
.ret) .skip))
(.seq (.drw [oq 37 (.faddr 3 (.t 1)),
om 38 1 (.faddr 1 (.t 37)),
om 39 3 (ld 38),
mt 40 3,
oq 41 (.faddr 3 (.t 1)),
om 42 16 (.faddr 2 (.t 41)),
om 43 48 (ld 42),
oc 44 64 [(.t 40),(.t 43)] 120,
oc 45 100 [(.t 39),(.t 44)] 255,
om 6 511 (.mv (.t 45))])
(.seq (.reg [oq 46 (.faddr 3 (.t 1)),
oq 47 (.faddr 2 (.t 46)),
oq 48 (ld 47),
mt 49 6,
oq 50 (.build [(.bool false),.nilsl,.nilsl] [(1,1,(.t 48)),(2,1,(.t 49))]),
oq 51 (.faddr 0 (.t 1)),
oq 52 (.faddr 2 (.t 51)),
oq 53 (ld 52),
mt 54 4,
oq 55 (.build [(.bool false),.nilsl,.nilsl] [(1,1,(.t 53)),(2,1,(.t 54))]),
oq 56 (.build [(.bool false),.nilsl,.nilsl,(.bool false),.nilsl,.nilsl] [(0,3,(.t 50)),(3,3,(.t 55))]),
oc 57 53 [(.t 56)] 0,
⟨(some 7),(.a (.alloc 25 [(.bool false),.nilsl,.nilsl])),none,0⟩,
⟨none,(.x (.st 3 (.t 7) (.t 57))),none,0⟩])
(.seq (.drw [mt 58 3,
oq 59 (.faddr 1 (.t 7)),
om 60 2 (ld 59),
oc 61 64 [(.t 58),(.t 60)] 7,
oq 62 (.faddr 2 (.t 7)),
om 63 16 (ld 62),
oc 64 99 [(.t 61),(.t 63)] 63,
oq 65 (.faddr 1 (.t 7)),
om 66 128 (ld 65),
om 67 511 (.build [(.bool false),.nilsl,.nilsl] [(1,1,(.t 64)),(2,1,(.t 66))]),
⟨none,(.x (.st 3 (.t 2) (.t 67))),none,1023⟩])
.ret))))))))⟩
theorem row53 : Row Tryd.prog (53, a53) := ⟨Tryd.f53, Tryd.func53, by kernel_rfl⟩
noncomputable def a54 : AFn :=
⟨6,[(.cell 2 true 3)],(.seq (.reg [⟨(some 1),(.a (.box 25 (.t 0))),none,0⟩,
⟨(some 2),(.a (.alloc 25 [(.bool false),.nilsl,.nilsl])),none,0⟩])
(.seq (.reg [oq 3 (.ld true 3 (.t 1)),
oc 4 101 [(.t 3)] 0,
oc 5 50 [(.t 4)] 0,
⟨none,(.x (.st 3 (.t 2) (.t 5))),none,0⟩])
.ret))⟩
theorem row54 : Row Tryd.prog (54, a54) := ⟨Tryd.f54, Tryd.func54, by kernel_rfl⟩
noncomputable def a60 : AFn :=
⟨15,[(.t 4)],(.seq (.reg [oq 4 (.mv (ci 0))])
(.seq (.block 0 (.loop (.seq (.seq (.reg [mt 5 1,
oq 6 (bi .neq (.t 5) (ci 0))])
(.cond (.t 6) .skip (.exit 0)))
(.block 1 (.drw [mt 7 1,
mt 8 0,
mt 9 1,
om 10 6 (bi .rem (.t 8) (.t 9)),
om 0 3 (.mv (.t 7)),
om 1 31 (.mv (.t 10))])))))
(.seq (.reg [mt 11 0,
mt 12 0,
oq 13 (.un .neg (.t 12)),
oq 14 (.minmax true [(.t 11),(.t 13)]),
mt 4 14])
.ret)))⟩
theorem row60 : Row Tryd.prog (60, a60) := ⟨Tryd.f60, Tryd.func60, by kernel_rfl⟩
noncomputable def a61 : AFn :=
⟨15,[(.t 2)],(.seq (.reg [oq 2 (.mv (.c .nilsl))])
(.seq (.reg [oq 3 (.mv (.c .nilsl))])
(.seq (.block 0 (.loop (.seq (.seq (.reg [mt 4 0,
oq 5 (bi .gtr (.t 4) (ci 0))])
(.cond (.t 5) .skip (.exit 0)))
(.block 1 (.seq (.reg [mt 6 3,
mt 7 0,
oq 8 (bi .rem (.t 7) (ci 1000000000)),
oq 9 (.conv (.int .u32) (.t 8)),
⟨(some 10),(.a (.bslice 41 1 1 [(.int .u32 (.ofNat 0))] [(0,(.t 9))])),none,0⟩,
⟨(some 11),(.x (.app 41 1 4 (.t 6) (.t 10))),none,0⟩,
mt 3 11])
(.reg [mt 12 0,
oq 13 (bi .quo (.t 12) (ci 1000000000)),
mt 0 13]))))))
(.seq (.reg [mt 14 3,
mt 2 14])
.ret))))⟩
theorem row61 : Row Tryd.prog (61, a61) := ⟨Tryd.f61, Tryd.func61, by kernel_rfl⟩
noncomputable def a62 : AFn :=
⟨13,[(.t 4)],(.seq (.reg [⟨(some 2),(.a (.box 25 (.t 0))),none,0⟩,
⟨(some 3),(.a (.box 25 (.t 1))),none,0⟩,
oq 4 (.mv (ci 0))])
(.seq (.seq (.reg [oq 6 (.ld true 3 (.t 2)),
oc 7 31 [(.t 6)] 0,
mt 5 7])
(.seq (.reg [mt 8 5,
oq 9 (bi .neq (.t 8) (ci 0))])
(.cond (.t 9) (.seq (.reg [mt 10 5,
mt 4 10])
.ret) .skip)))
(.seq (.reg [oq 11 (.ld true 3 (.t 3)),
oc 12 31 [(.t 11)] 0,
mt 4 12])
.ret)))⟩
theorem row62 : Row Tryd.prog (62, a62) := ⟨Tryd.f62, Tryd.func62, by kernel_rfl⟩
noncomputable def a67 : AFn :=
⟨12,[(.cell 2 true 3),(.t 3)],(.seq (.reg [⟨(some 2),(.a (.alloc 25 [(.bool false),.nilsl,.nilsl])),none,0⟩,
oq 3 (.mv (ci 0))])
(.seq (.reg [⟨(some 4),(.a (.alloc 109 [.nilfn])),none,0⟩,
⟨none,(.x (.st 1 (.t 4) (.c (.fn 104 [] [])))),none,0⟩])
(.seq (.reg [oc 5 55 [] 0,
oq 6 (.mkFunc 107 [] [(.t 4)]),
mt 7 0,
oc 8 106 [(.t 5),(.t 6),(.t 7)] 0,
oc 9 52 [(.t 8)] 0,
oq 10 (.extract (.t 9) 0),
oq 11 (.extract (.t 9) 1),
⟨none,(.x (.st 3 (.t 2) (.t 10))),none,0⟩,
mt 3 11])
.ret)))⟩
theorem row67 : Row Tryd.prog (67, a67) := ⟨Tryd.f67, Tryd.func67, by kernel_rfl⟩
noncomputable def a100 : AFn :=
⟨47,[(.t 4)],(.seq (.reg [oq 4 (.mv (.c .nilsl))])
(.seq (.reg [mt 10 0,
oq 11 (.lenSl (.t 10)),
⟨(some 12),(.a (.mkSlice 41 1 4 [(.int .u32 (.ofNat 0))] (.t 11) (.t 11))),none,0⟩,
mt 5 12])
(.seq (.reg [oq 6 (.mv (ci 0))])
(.seq (.seq (.reg [mt 13 0,
oq 14 (.lenSl (.t 13)),
oq 15 (.mv (ci 0))])
(.block 0 (.loop (.seq (.reg [oq 16 (bi .lss (.t 15) (.t 14))])
(.seq (.cond (.t 16) .skip (.exit 0))
(.seq (.block 1 (.seq (.reg [mt 17 15,
oq 18 (.iaddr (.slice 1) (.t 13) (.t 15)),
oq 19 (ld 18),
mt 7 17,
mt 8 19])
(.seq (.reg [mt 20 8,
oq 21 (.conv (.int .i64) (.t 20)),
mt 22 6,
oq 23 (bi .sub (.t 21) (.t 22)),
mt 9 23])
(.seq (.seq (.reg [mt 24 7,
mt 25 1,
oq 26 (.lenSl (.t 25)),
oq 27 (bi .lss (.t 24) (.t 26))])
(.cond (.t 27) (.reg [mt 28 9,
mt 29 1,
mt 30 7,
oq 31 (.iaddr (.slice 1) (.t 29) (.t 30)),
oq 32 (ld 31),
oq 33 (.conv (.int .i64) (.t 32)),
oq 34 (bi .sub (.t 28) (.t 33)),
mt 9 34]) .skip))
(.seq (.reg [oq 6 (.mv (ci 0))])
(.seq (.seq (.reg [mt 35 9,
oq 36 (bi .lss (.t 35) (ci 0))])
(.cond (.t 36) (.seq (.reg [mt 37 9,
oq 38 (bi .add (.t 37) (ci 1000000000)),
mt 9 38])
(.reg [oq 6 (.mv (ci 1))])) .skip))
(.reg [mt 39 5,
mt 40 7,
mt 41 9,
oq 42 (.conv (.int .u32) (.t 41)),
oq 43 (.iaddr (.slice 1) (.t 39) (.t 40)),
⟨none,(.x (.st 1 (.t 43) (.t 42))),none,0⟩])))))))
(.reg [oq 44 (bi .add (.t 15) (ci 1)),
mt 15 44])))))))
(.seq (.reg [mt 45 5,
oc 46 103 [(.t 45)] 0,
mt 4 46])
.ret)))))⟩
theorem row100 : Row Tryd.prog (100, a100) := ⟨Tryd.f100, Tryd.func100, by kernel_rfl⟩
noncomputable def a101 : AFn :=
⟨17,[(.cell 2 true 3)],(.seq (.reg [⟨(some 1),(.a (.box 25 (.t 0))),none,0⟩,
⟨(some 2),(.a (.alloc 25 [(.bool false),.nilsl,.nilsl])),none,0⟩])
(.seq (.reg [oq 3 (.faddr 0 (.t 1)),
oq 4 (ld 3),
oq 5 (.un .not (.t 4)),
mt 6 5,
og 7 6 true 0 (.faddr 1 (.t 1)),
og 8 6 true 0 (ld 7),
og 9 6 true 0 (.lenSl (.t 8)),
og 10 6 true 0 (bi .gtr (.t 9) (ci 0)),
oq 11 (.pick (.t 6) (.t 10) (.c (.bool false))),
oq 12 (.faddr 1 (.t 1)),
oq 13 (ld 12),
oq 14 (.faddr 2 (.t 1)),
oq 15 (ld 14),
oq 16 (.build [(.bool false),.nilsl,.nilsl] [(0,1,(.t 11)),(1,1,(.t 13)),(2,1,(.t 15))]),
⟨none,(.x (.st 3 (.t 2) (.t 16))),none,0⟩])
.ret))⟩
theorem row101 : Row Tryd.prog (101, a101) := ⟨Tryd.f101, Tryd.func101, by kernel_rfl⟩
noncomputable def a104 : AFn :=
⟨26,[(.cell 2 true 3)],(.seq (.reg [⟨(some 1),(.a (.box 80 (.t 0))),none,0⟩,
⟨(some 2),(.a (.alloc 25 [(.bool false),.nilsl,.nilsl])),none,0⟩])
(.seq (.seq (.reg [oq 3 (.faddr 3 (.t 1)),
oq 4 (.faddr 1 (.t 3)),
oq 5 (ld 4),
oc 6 91 [(.t 5)] 0,
mt 7 6,
og 8 7 true 0 (.faddr 3 (.t 1)),
og 9 7 true 0 (.faddr 2 (.t 8)),
og 10 7 true 0 (ld 9),
⟨(some 11),(.x (.call (.c (.fn 91 [] [])) [(.t 10)])),(some (7,true)),0⟩,
oq 12 (.pick (.t 7) (.t 11) (.c (.bool false))),
mt 13 12,
og 14 13 true 0 (.faddr 3 (.t 1)),
og 15 13 true 0 (.faddr 0 (.t 14)),
og 16 13 true 0 (ld 15),
og 17 13 true 0 (.un .not (.t 16)),
oq 18 (.pick (.t 13) (.t 17) (.c (.bool false)))])
(.cond (.t 18) (.seq (.reg [oq 19 (.faddr 0 (.t 1)),
oq 20 (.ld true 3 (.t 19)),
⟨none,(.x (.st 3 (.t 2) (.t 20))),none,0⟩])
.ret) .skip))
(.seq (.reg [oq 21 (.faddr 0 (.t 1)),
oq 22 (.ld true 3 (.t 21)),
oq 23 (.faddr 3 (.t 1)),
oq 24 (.ld true 3 (.t 23)),
oc 25 105 [(.t 22),(.t 24)] 0,
⟨none,(.x (.st 3 (.t 2) (.t 25))),none,0⟩])
.ret)))⟩
theorem row104 : Row Tryd.prog (104, a104) := ⟨Tryd.f104, Tryd.func104, by kernel_rfl⟩
noncomputable def a105 : AFn :=
⟨83,[(.cell 4 true 3)],(.seq (.reg [⟨(some 2),(.a (.box 25 (.t 0))),none,0⟩,
⟨(some 3),(.a (.box 25 (.t 1))),none,0⟩,
⟨(some 4),(.a (.alloc 25 [(.bool false),.nilsl,.nilsl])),none,0⟩])
(.seq (.seq (.reg [oq 9 (.faddr 1 (.t 2)),
oq 10 (ld 9),
oq 11 (.lenSl (.t 10)),
oq 12 (bi .eql (.t 11) (ci 0)),
mt 13 12,
og 14 13 false 0 (.faddr 1 (.t 3)),
og 15 13 false 0 (ld 14),
og 16 13 false 0 (.lenSl (.t 15)),
og 17 13 false 0 (bi .eql (.t 16) (ci 0)),
oq 18 (.pick (.t 13) (.c (.bool true)) (.t 17))])
(.cond (.t 18) (.seq (.reg [oc 19 55 [] 0,
⟨none,(.x (.st 3 (.t 4) (.t 19))),none,0⟩])
.ret) .skip))
(.seq (.reg [oq 20 (.faddr 0 (.t 2)),
oq 21 (ld 20),
oq 22 (.faddr 0 (.t 3)),
oq 23 (ld 22),
oq 24 (.bin .neq (.p .bool) (.t 21) (.t 23)),
mt 5 24])
(.seq (.seq (.reg [oq 25 (.ld true 3 (.t 2)),
oq 26 (.ld true 3 (.t 3)),
oc 27 130 [(.t 25),(.t 26)] 0])
(.cond (.t 27) (.seq (.drw [mt 28 5,
oq 29 (.faddr 1 (.t 2)),
om 30 2 (ld 29),
om 31 6 (.iaddr (.slice 1) (.t 30) (ci 0)),
om 32 14 (ld 31),
om 33 30 (.conv (.int .u64) (.t 32)),
oq 34 (.faddr 1 (.t 3)),
om 35 64 (ld 34),
om 36 192 (.iaddr (.slice 1) (.t 35) (ci 0)),
om 37 448 (ld 36),
om 38 960 (.conv (.int .u64) (.t 37)),
om 39 2046 (bi .mul (.t 33) (.t 38)),
oq 40 (.faddr 2 (.t 2)),
om 41 4096 (ld 40),
om 42 12288 (.iaddr (.slice 1) (.t 41) (ci 0)),
om 43 28672 (ld 42),
om 44 61440 (.conv (.int .u64) (.t 43)),
oq 45 (.faddr 2 (.t 3)),
om 46 131072 (ld 45),
om 47 393216 (.iaddr (.slice 1) (.t 46) (ci 0)),
om 48 917504 (ld 47),
om 49 1966080 (.conv (.int .u64) (.t 48)),
om 50 4190208 (bi .mul (.t 44) (.t 49)),
oc 51 119 [(.t 28),(.t 39),(.t 50)] 8388607,
⟨none,(.x (.st 3 (.t 4) (.t 51))),none,16777215⟩])
.ret) .skip))
(.seq (.drw [oq 52 (.faddr 1 (.t 2)),
om 53 1 (ld 52),
oq 54 (.faddr 2 (.t 3)),
om 55 4 (ld 54),
oc 56 116 [(.t 53),(.t 55)] 15,
oq 57 (.faddr 1 (.t 3)),
om 58 32 (ld 57),
oq 59 (.faddr 2 (.t 2)),
om 60 128 (ld 59),
oc 61 116 [(.t 58),(.t 60)] 511,
om 6 1023 (.mv (.t 56)),
om 7 2047 (.mv (.t 61))])
(.seq (.drw [oq 62 (.faddr 1 (.t 2)),
om 63 1 (ld 62),
mt 64 6,
oc 65 120 [(.t 63),(.t 64)] 7,
oq 66 (.faddr 1 (.t 3)),
om 67 16 (ld 66),
mt 68 7,
oc 69 120 [(.t 67),(.t 68)] 127,
oc 70 64 [(.t 65),(.t 69)] 255,
om 8 511 (.mv (.t 70))])
(.seq (.drw [mt 71 5,
mt 72 8,
oq 73 (.faddr 2 (.t 2)),
om 74 4 (ld 73),
mt 75 7,
oc 76 120 [(.t 74),(.t 75)] 28,
oq 77 (.faddr 2 (.t 3)),
om 78 64 (ld 77),
mt 79 6,
oc 80 120 [(.t 78),(.t 79)] 508,
oc 81 64 [(.t 76),(.t 80)] 1020,
om 82 2047 (.build [(.bool false),.nilsl,.nilsl] [(0,1,(.t 71)),(1,1,(.t 72)),(2,1,(.t 81))]),
⟨none,(.x (.st 3 (.t 4) (.t 82))),none,4095⟩])
.ret)))))))⟩
theorem row105 : Row Tryd.prog (105, a105) := ⟨Tryd.f105, Tryd.func105, by kernel_rfl⟩
noncomputable def a106 : AFn :=
⟨21,[(.cell 6 true 3)],(.seq (.reg [⟨(some 3),(.a (.box 25 (.t 0))),none,0⟩,
⟨(some 6),(.a (.alloc 25 [(.bool false),.nilsl,.nilsl])),none,0⟩])
(.seq (.seq (.reg [mt 9 2,
oq 10 (.lenSl (.t 9)),
oq 11 (.mv (ci 0))])
(.block 0 (.loop (.seq (.reg [oq 12 (bi .lss (.t 11) (.t 10))])
(.seq (.cond (.t 12) .skip (.exit 0))
(.seq (.block 1 (.seq (.reg [oq 13 (.iaddr (.slice 6) (.t 9) (.t 11)),
oq 14 (.ld true 6 (.t 13)),
⟨(some 8),(.a (.alloc 80 [(.bool false),.nilsl,.nilsl,(.bool false),.nilsl,.nilsl])),none,0⟩,
⟨none,(.x (.st 6 (.t 8) (.t 14))),none,0⟩])
(.reg [mt 15 1,
oq 16 (.ld true 3 (.t 3)),
oq 17 (.ld true 6 (.t 8)),
⟨(some 18),(.x (.call (.t 15) [(.t 16),(.t 17)])),none,0⟩,
⟨none,(.x (.st 3 (.t 3) (.t 18))),none,0⟩])))
(.reg [oq 19 (bi .add (.t 11) (ci 1)),
mt 11 19])))))))
(.seq (.reg [oq 20 (.ld true 3 (.t 3)),
⟨none,(.x (.st 3 (.t 6) (.t 20))),none,0⟩])
.ret)))⟩
theorem row106 : Row Tryd.prog (106, a106) := ⟨Tryd.f106, Tryd.func106, by kernel_rfl⟩
noncomputable def a107 : AFn :=
⟨11,[(.cell 5 true 3)],(.seq (.reg [⟨(some 3),(.a (.box 25 (.t 0))),none,0⟩,
⟨(some 4),(.a (.box 80 (.t 1))),none,0⟩,
⟨(some 5),(.a (.alloc 25 [(.bool false),.nilsl,.nilsl])),none,0⟩])
(.seq (.drw [oq 6 (.ld true 3 (.t 3)),
oq 7 (ld 2),
oq 8 (.ld true 6 (.t 4)),
⟨(some 9),(.x (.call (.t 7) [(.t 8)])),none,6⟩,
oc 10 108 [(.t 6),(.t 9)] 15,
⟨none,(.x (.st 3 (.t 5) (.t 10))),none,31⟩])
.ret))⟩
theorem row107 : Row Tryd.prog (107, a107) := ⟨Tryd.f107, Tryd.func107, by kernel_rfl⟩
noncomputable def a108 : AFn :=
⟨86,[(.cell 4 true 3)],(.seq (.reg [⟨(some 2),(.a (.box 25 (.t 0))),none,0⟩,
⟨(some 3),(.a (.box 25 (.t 1))),none,0⟩,
⟨(some 4),(.a (.alloc 25 [(.bool false),.nilsl,.nilsl])),none,0⟩])
(.seq (.seq (.reg [oq 11 (.faddr 1 (.t 2)),
oq 12 (ld 11),
oq 13 (.lenSl (.t 12)),
oq 14 (bi .eql (.t 13) (ci 0))])
(.cond (.t 14) (.seq (.reg [oq 15 (.ld true 3 (.t 3)),
oc 16 50 [(.t 15)] 0,
⟨none,(.x (.st 3 (.t 4) (.t 16))),none,0⟩])
.ret) .skip))
(.seq (.seq (.reg [oq 17 (.faddr 1 (.t 3)),
oq 18 (ld 17),
oq 19 (.lenSl (.t 18)),
oq 20 (bi .eql (.t 19) (ci 0))])
(.cond (.t 20) (.seq (.reg [oq 21 (.ld true 3 (.t 2)),
oc 22 50 [(.t 21)] 0,
⟨none,(.x (.st 3 (.t 4) (.t 22))),none,0⟩])
.ret) .skip))
(.seq (.seq (.reg [oq 23 (.ld true 3 (.t 2)),
oq 24 (.ld true 3 (.t 3)),
oc 25 130 [(.t 23),(.t 24)] 0])
(.cond (.t 25) (.seq (.reg [oq 26 (.ld true 3 (.t 2)),
oq 27 (.ld true 3 (.t 3)),
oc 28 131 [(.t 26),(.t 27)] 0,
⟨none,(.x (.st 3 (.t 4) (.t 28))),none,0⟩])
.ret) .skip))
(.seq (.reg [oq 29 (.faddr 2 (.t 2)),
oq 30 (ld 29),
oq 31 (.faddr 2 (.t 3)),
oq 32 (ld 31),
oc 33 116 [(.t 30),(.t 32)] 0,
mt 5 33])
(.seq (.drw [oq 34 (.faddr 2 (.t 2)),
om 35 1 (ld 34),
mt 36 5,
oc 37 120 [(.t 35),(.t 36)] 7,
oq 38 (.faddr 2 (.t 3)),
om 39 16 (ld 38),
mt 40 5,
oc 41 120 [(.t 39),(.t 40)] 127,
om 6 255 (.mv (.t 37)),
om 7 511 (.mv (.t 41))])
(.seq (.drw [oq 43 (.faddr 0 (.t 2)),
om 44 1 (ld 43),
oq 45 (.faddr 1 (.t 2)),
om 46 4 (ld 45),
mt 47 7,
oc 48 64 [(.t 46),(.t 47)] 28,
oq 49 (.faddr 0 (.t 3)),
om 50 64 (ld 49),
oq 51 (.faddr 1 (.t 3)),
om 52 256 (ld 51),
mt 53 6,
oc 54 64 [(.t 52),(.t 53)] 1852,
oc 55 132 [(.t 44),(.t 48),(.t 50),(.t 54)] 4095,
om 42 8191 (.mv (.t 55)),
om 56 16383 (.extract (.t 42) 0),
om 57 16383 (.extract (.t 42) 1),
om 8 32767 (.mv (.t 56)),
om 9 131071 (.mv (.t 57))])
(.seq (.seq (.reg [mt 58 9,
oq 59 (.lenSl (.t 58)),
oq 60 (bi .eql (.t 59) (ci 0))])
(.cond (.t 60) (.seq (.reg [oc 61 55 [] 0,
⟨none,(.x (.st 3 (.t 4) (.t 61))),none,0⟩])
.ret) .skip))
(.seq (.seq (.reg [mt 62 5,
oc 63 91 [(.t 62)] 0])
(.cond (.t 63) (.seq (.reg [mt 64 8,
mt 65 9,
oq 66 (.faddr 2 (.t 2)),
oq 67 (ld 66),
oq 68 (.faddr 2 (.t 3)),
oq 69 (ld 68),
oc 70 64 [(.t 67),(.t 69)] 0,
oq 71 (.build [(.bool false),.nilsl,.nilsl] [(0,1,(.t 64)),(1,1,(.t 65)),(2,1,(.t 70))]),
⟨none,(.x (.st 3 (.t 4) (.t 71))),none,0⟩])
.ret) .skip))
(.seq (.reg [mt 72 9,
mt 73 5,
oc 74 116 [(.t 72),(.t 73)] 0,
mt 10 74])
(.seq (.drw [mt 75 8,
mt 76 9,
mt 77 10,
oc 78 120 [(.t 76),(.t 77)] 6,
mt 79 6,
oq 80 (.faddr 2 (.t 3)),
om 81 32 (ld 80),
mt 82 10,
oc 83 120 [(.t 81),(.t 82)] 238,
oc 84 64 [(.t 79),(.t 83)] 510,
om 85 1023 (.build [(.bool false),.nilsl,.nilsl] [(0,1,(.t 75)),(1,1,(.t 78)),(2,1,(.t 84))]),
⟨none,(.x (.st 3 (.t 4) (.t 85))),none,2047⟩])
.ret)))))))))))⟩
theorem row108 : Row Tryd.prog (108, a108) := ⟨Tryd.f108, Tryd.func108, by kernel_rfl⟩
noncomputable def a130 : AFn :=
⟨27,[(.t 4)],(.seq (.reg [⟨(some 2),(.a (.box 25 (.t 0))),none,0⟩,
⟨(some 3),(.a (.box 25 (.t 1))),none,0⟩,
oq 4 (.mv (.c (.bool false)))])
(.seq (.reg [oq 5 (.faddr 1 (.t 2)),
oq 6 (ld 5),
oq 7 (.lenSl (.t 6)),
oq 8 (bi .eql (.t 7) (ci 1)),
mt 9 8,
og 10 9 true 0 (.faddr 2 (.t 2)),
og 11 9 true 0 (ld 10),
og 12 9 true 0 (.lenSl (.t 11)),
og 13 9 true 0 (bi .eql (.t 12) (ci 1)),
oq 14 (.pick (.t 9) (.t 13) (.c (.bool false))),
mt 15 14,
og 16 15 true 0 (.faddr 1 (.t 3)),
og 17 15 true 0 (ld 16),
og 18 15 true 0 (.lenSl (.t 17)),
og 19 15 true 0 (bi .eql (.t 18) (ci 1)),
oq 20 (.pick (.t 15) (.t 19) (.c (.bool false))),
mt 21 20,
og 22 21 true 0 (.faddr 2 (.t 3)),
og 23 21 true 0 (ld 22),
og 24 21 true 0 (.lenSl (.t 23)),
og 25 21 true 0 (bi .eql (.t 24) (ci 1)),
oq 26 (.pick (.t 21) (.t 25) (.c (.bool false))),
mt 4 26])
.ret))⟩
theorem row130 : Row Tryd.prog (130, a130) := ⟨Tryd.f130, Tryd.func130, by kernel_rfl⟩
noncomputable def a131 : AFn :=
⟨74,[(.cell 4 true 3)],(.seq (.reg [⟨(some 2),(.a (.box 25 (.t 0))),none,0⟩,
⟨(some 3),(.a (.box 25 (.t 1))),none,0⟩,
⟨(some 4),(.a (.alloc 25 [(.bool false),.nilsl,.nilsl])),none,0⟩])
(.seq (.drw [oq 8 (.faddr 1 (.t 2)),
om 9 1 (ld 8),
om 10 3 (.iaddr (.slice 1) (.t 9) (ci 0)),
om 11 7 (ld 10),
om 12 15 (.conv (.int .u64) (.t 11)),
oq 13 (.faddr 2 (.t 3)),
om 14 32 (ld 13),
om 15 96 (.iaddr (.slice 1) (.t 14) (ci 0)),
om 16 224 (ld 15),
om 17 480 (.conv (.int .u64) (.t 16)),
om 18 1023 (bi .mul (.t 12) (.t 17)),
oq 19 (.faddr 1 (.t 3)),
om 20 2048 (ld 19),
om 21 6144 (.iaddr (.slice 1) (.t 20) (ci 0)),
om 22 14336 (ld 21),
om 23 30720 (.conv (.int .u64) (.t 22)),
oq 24 (.faddr 2 (.t 2)),
om 25 65536 (ld 24),
om 26 196608 (.iaddr (.slice 1) (.t 25) (ci 0)),
om 27 458752 (ld 26),
om 28 983040 (.conv (.int .u64) (.t 27)),
om 29 2095104 (bi .mul (.t 23) (.t 28)),
om 5 2047 (.mv (.t 18)),
om 6 8388607 (.mv (.t 29))])
(.seq (.drw [oq 30 (.faddr 2 (.t 2)),
om 31 1 (ld 30),
om 32 3 (.iaddr (.slice 1) (.t 31) (ci 0)),
om 33 7 (ld 32),
om 34 15 (.conv (.int .u64) (.t 33)),
oq 35 (.faddr 2 (.t 3)),
om 36 32 (ld 35),
om 37 96 (.iaddr (.slice 1) (.t 36) (ci 0)),
om 38 224 (ld 37),
om 39 480 (.conv (.int .u64) (.t 38)),
om 40 1023 (bi .mul (.t 34) (.t 39)),
om 7 2047 (.mv (.t 40))])
(.seq (.seq (.reg [oq 41 (.faddr 0 (.t 2)),
oq 42 (ld 41),
oq 43 (.faddr 0 (.t 3)),
oq 44 (ld 43),
oq 45 (.bin .eql (.p .bool) (.t 42) (.t 44))])
(.cond (.t 45) (.seq (.reg [oq 46 (.faddr 0 (.t 2)),
oq 47 (ld 46),
mt 48 5,
mt 49 6,
oq 50 (bi .add (.t 48) (.t 49)),
mt 51 7,
oc 52 119 [(.t 47),(.t 50),(.t 51)] 0,
⟨none,(.x (.st 3 (.t 4) (.t 52))),none,0⟩])
.ret) .skip))
(.seq (.seq (.reg [mt 53 5,
mt 54 6,
oq 55 (bi .eql (.t 53) (.t 54))])
(.cond (.t 55) (.seq (.reg [oc 56 55 [] 0,
⟨none,(.x (.st 3 (.t 4) (.t 56))),none,0⟩])
.ret) .skip))
(.seq (.seq (.reg [mt 57 5,
mt 58 6,
oq 59 (bi .gtr (.t 57) (.t 58))])
(.cond (.t 59) (.seq (.reg [oq 60 (.faddr 0 (.t 2)),
oq 61 (ld 60),
mt 62 5,
mt 63 6,
oq 64 (bi .sub (.t 62) (.t 63)),
mt 65 7,
oc 66 119 [(.t 61),(.t 64),(.t 65)] 0,
⟨none,(.x (.st 3 (.t 4) (.t 66))),none,0⟩])
.ret) .skip))
(.seq (.reg [oq 67 (.faddr 0 (.t 3)),
oq 68 (ld 67),
mt 69 6,
mt 70 5,
oq 71 (bi .sub (.t 69) (.t 70)),
mt 72 7,
oc 73 119 [(.t 68),(.t 71),(.t 72)] 0,
⟨none,(.x (.st 3 (.t 4) (.t 73))),none,0⟩])
.ret)))))))⟩
theorem row131 : Row Tryd.prog (131, a131) := ⟨Tryd.f131, Tryd.func131, by kernel_rfl⟩
noncomputable def a132 : AFn :=
⟨29,[(.t 8),(.t 9)],(.seq (.reg [oq 8 (.mv (.c (.bool false))),
oq 9 (.mv (.c .nilsl))])
(.seq (.seq (.reg [mt 10 0,
mt 11 2,
oq 12 (.bin .eql (.p .bool) (.t 10) (.t 11))])
(.cond (.t 12) (.seq (.reg [mt 13 0,
mt 14 1,
mt 15 3,
oc 16 99 [(.t 14),(.t 15)] 0,
mt 8 13,
mt 9 16])
.ret) .skip))
(.seq (.seq (.reg [mt 17 1,
mt 18 3,
oc 19 63 [(.t 17),(.t 18)] 0,
oq 20 (bi .geq (.t 19) (ci 0))])
(.cond (.t 20) (.seq (.reg [mt 21 0,
mt 22 1,
mt 23 3,
oc 24 100 [(.t 22),(.t 23)] 0,
mt 8 21,
mt 9 24])
.ret) .skip))
(.seq (.reg [mt 25 2,
mt 26 3,
mt 27 1,
oc 28 100 [(.t 26),(.t 27)] 0,
mt 8 25,
mt 9 28])
.ret))))⟩
theorem row132 : Row Tryd.prog (132, a132) := ⟨Tryd.f132, Tryd.func132, by kernel_rfl⟩
end Go.Proofs.YtmbmidkdinllgaaDoor.awake
