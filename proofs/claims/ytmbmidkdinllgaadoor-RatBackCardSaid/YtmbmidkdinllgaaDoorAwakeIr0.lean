/- The functions that Awake reaches, as data of the evaluator (part 0), written by program; each is shown to be the compiler's result on the loaded function. -/
import Derived.Test.YtmbmidkdinllgaaDoorProg
import Derived.Test.YtmbmidkdinllgaaDoorEv8
import Derived.KernelRfl
namespace Go.Ev.Gl
end Go.Ev.Gl
namespace Go.Proofs.YtmbmidkdinllgaaDoor.awake
open Go.Ev Go.Ev.Gl
set_option maxRecDepth 100000
noncomputable def a12 : AFn :=
⟨50,[(.cell 4 true 3),(.t 5)],(.seq (.reg [⟨(some 2),(.a (.box 25 (.t 0))),none,0⟩,
⟨(some 3),(.a (.box 25 (.t 1))),none,0⟩,
⟨(some 4),(.a (.alloc 25 [(.bool false),.nilsl,.nilsl])),none,0⟩,
oq 5 (.mv (ci 0))])
(.seq (.reg [oq 9 (.ld true 3 (.t 2)),
oq 10 (.ld true 3 (.t 3)),
oc 11 18 [(.t 9),(.t 10)] 0,
mt 8 11,
oq 12 (.extract (.t 8) 0),
oq 13 (.extract (.t 8) 1),
mt 6 12,
mt 7 13])
(.seq (.seq (.reg [mt 14 7,
oq 15 (bi .neq (.t 14) (ci 0))])
(.cond (.t 15) (.seq (.reg [oq 16 (.build [(.bool false),.nilsl,.nilsl] []),
mt 17 7,
⟨none,(.x (.st 3 (.t 4) (.t 16))),none,0⟩,
mt 5 17])
.ret) .skip))
(.seq (.seq (.reg [mt 18 6,
oq 19 (bi .gtr (.t 18) (ci 0))])
(.cond (.t 19) (.seq (.reg [oq 20 (.build [(.bool false),.nilsl,.nilsl] []),
⟨none,(.x (.st 3 (.t 4) (.t 20))),none,0⟩,
oq 5 (.mv (ci 9))])
.ret) .skip))
(.seq (.seq (.reg [mt 21 6,
oq 22 (bi .eql (.t 21) (ci 0))])
(.cond (.t 22) (.seq (.reg [oq 23 (.ld true 3 (.t 2)),
oc 24 50 [(.t 23)] 0,
⟨none,(.x (.st 3 (.t 4) (.t 24))),none,0⟩,
oq 5 (.mv (ci 0))])
.ret) .skip))
(.seq (.seq (.reg [oq 25 (.ld true 3 (.t 2)),
oc 26 51 [(.t 25)] 0,
oq 27 (bi .eql (.t 26) (ci 2))])
(.cond (.t 27) (.seq (.reg [oq 28 (.ld true 3 (.t 2)),
oq 29 (.ld true 3 (.t 3)),
oq 30 (.build [(.bool false),.nilsl,.nilsl,(.bool false),.nilsl,.nilsl] [(0,3,(.t 28)),(3,3,(.t 29))]),
oc 31 53 [(.t 30)] 0,
oc 32 50 [(.t 31)] 0,
oc 33 52 [(.t 32)] 0,
oq 34 (.extract (.t 33) 0),
oq 35 (.extract (.t 33) 1),
⟨none,(.x (.st 3 (.t 4) (.t 34))),none,0⟩,
mt 5 35])
.ret) .skip))
(.seq (.seq (.reg [oq 36 (.ld true 3 (.t 3)),
oc 37 51 [(.t 36)] 0,
oq 38 (bi .eql (.t 37) (ci 0))])
(.cond (.t 38) (.seq (.drw [oq 39 (.ld true 3 (.t 3)),
oc 40 54 [(.t 39)] 1,
oq 41 (.ld true 3 (.t 2)),
oc 42 54 [(.t 41)] 7,
om 43 15 (.build [(.bool false),.nilsl,.nilsl,(.bool false),.nilsl,.nilsl] [(0,3,(.t 40)),(3,3,(.t 42))]),
oc 44 53 [(.t 43)] 31,
oc 45 54 [(.t 44)] 63,
oc 46 52 [(.t 45)] 127,
om 47 255 (.extract (.t 46) 0),
om 48 255 (.extract (.t 46) 1),
⟨none,(.x (.st 3 (.t 4) (.t 47))),none,1023⟩,
om 5 2047 (.mv (.t 48))])
.ret) .skip))
(.seq (.reg [oc 49 55 [] 0,
⟨none,(.x (.st 3 (.t 4) (.t 49))),none,0⟩,
oq 5 (.mv (ci 0))])
.ret))))))))⟩
theorem row12 : Row Tryd.prog (12, a12) := ⟨Tryd.f12, Tryd.func12, by kernel_rfl⟩
noncomputable def a18 : AFn :=
⟨46,[(.t 4),(.t 5)],(.seq (.reg [⟨(some 2),(.a (.box 25 (.t 0))),none,0⟩,
⟨(some 3),(.a (.box 25 (.t 1))),none,0⟩,
oq 4 (.mv (ci 0)),
oq 5 (.mv (ci 0))])
(.seq (.seq (.reg [oq 9 (.ld true 3 (.t 2)),
oq 10 (.ld true 3 (.t 3)),
oc 11 62 [(.t 9),(.t 10)] 0,
mt 6 11])
(.seq (.reg [mt 12 6,
oq 13 (bi .neq (.t 12) (ci 0))])
(.cond (.t 13) (.seq (.reg [mt 14 6,
oq 4 (.mv (ci 0)),
mt 5 14])
.ret) .skip)))
(.seq (.drw [oq 15 (.ld true 3 (.t 2)),
oc 16 51 [(.t 15)] 1,
oq 17 (.ld true 3 (.t 3)),
oc 18 51 [(.t 17)] 7,
om 7 15 (.mv (.t 16)),
om 8 31 (.mv (.t 18))])
(.seq (.block 0 (.seq (.reg [mt 20 7,
mt 21 8,
oq 22 (bi .lss (.t 20) (.t 21)),
mt 19 22])
(.cond (.t 19) (.seq (.reg [oq 23 (.iaddr (.arr 3 1) (.c (.ptr 0 0)) (ci 0)),
oq 24 (ld 23),
mt 4 24,
oq 5 (.mv (ci 0))])
.ret) (.seq (.reg [mt 26 7,
mt 27 8,
oq 28 (bi .gtr (.t 26) (.t 27)),
mt 25 28])
(.cond (.t 25) (.seq (.reg [oq 29 (.iaddr (.arr 3 1) (.c (.ptr 0 0)) (ci 2)),
oq 30 (ld 29),
mt 4 30,
oq 5 (.mv (ci 0))])
.ret) .skip)))))
(.seq (.drw [mt 31 7,
om 32 1 (.iaddr (.arr 3 1) (.c (.ptr 0 0)) (.t 31)),
om 33 3 (ld 32),
oq 34 (.faddr 1 (.t 2)),
om 35 8 (ld 34),
oq 36 (.faddr 2 (.t 3)),
om 37 32 (ld 36),
oc 38 64 [(.t 35),(.t 37)] 120,
oq 39 (.faddr 1 (.t 3)),
om 40 256 (ld 39),
oq 41 (.faddr 2 (.t 2)),
om 42 1024 (ld 41),
oc 43 64 [(.t 40),(.t 42)] 4088,
oc 44 63 [(.t 38),(.t 43)] 8184,
om 45 16383 (bi .mul (.t 33) (.t 44)),
om 4 32767 (.mv (.t 45)),
om 5 65535 (.mv (ci 0))])
.ret)))))⟩
theorem row18 : Row Tryd.prog (18, a18) := ⟨Tryd.f18, Tryd.func18, by kernel_rfl⟩
noncomputable def a22 : AFn :=
⟨27,[(.cell 4 true 3),(.t 5)],(.seq (.reg [⟨(some 2),(.a (.box 25 (.t 0))),none,0⟩,
⟨(some 3),(.a (.box 25 (.t 1))),none,0⟩,
⟨(some 4),(.a (.alloc 25 [(.bool false),.nilsl,.nilsl])),none,0⟩,
oq 5 (.mv (ci 0))])
(.seq (.seq (.reg [oq 8 (.ld true 3 (.t 2)),
oq 9 (.ld true 3 (.t 3)),
oc 10 62 [(.t 8),(.t 9)] 0,
mt 6 10])
(.seq (.reg [mt 11 6,
oq 12 (bi .neq (.t 11) (ci 0))])
(.cond (.t 12) (.seq (.reg [oq 13 (.build [(.bool false),.nilsl,.nilsl] []),
mt 14 6,
⟨none,(.x (.st 3 (.t 4) (.t 13))),none,0⟩,
mt 5 14])
.ret) .skip)))
(.seq (.reg [oc 15 66 [] 0,
oc 16 65 [(.c (.bool false)),(.t 15)] 0,
⟨(some 7),(.a (.alloc 25 [(.bool false),.nilsl,.nilsl])),none,0⟩,
⟨none,(.x (.st 3 (.t 7) (.t 16))),none,0⟩])
(.seq (.reg [oq 17 (.ld true 3 (.t 2)),
oq 18 (.ld true 3 (.t 7)),
oq 19 (.build [(.bool false),.nilsl,.nilsl,(.bool false),.nilsl,.nilsl] [(0,3,(.t 17)),(3,3,(.t 18))]),
oq 20 (.ld true 3 (.t 3)),
oq 21 (.ld true 3 (.t 7)),
oq 22 (.build [(.bool false),.nilsl,.nilsl,(.bool false),.nilsl,.nilsl] [(0,3,(.t 20)),(3,3,(.t 21))]),
⟨(some 23),(.a (.bslice 80 6 2 [(.bool false),.nilsl,.nilsl,(.bool false),.nilsl,.nilsl] [(0,(.t 19)),(1,(.t 22))])),none,0⟩,
oc 24 67 [(.t 23)] 0,
oq 25 (.extract (.t 24) 0),
oq 26 (.extract (.t 24) 1),
⟨none,(.x (.st 3 (.t 4) (.t 25))),none,0⟩,
mt 5 26])
.ret))))⟩
theorem row22 : Row Tryd.prog (22, a22) := ⟨Tryd.f22, Tryd.func22, by kernel_rfl⟩
noncomputable def a45 : AFn :=
⟨62,[(.t 4),(.t 5)],(.seq (.reg [⟨(some 2),(.a (.box 25 (.t 0))),none,0⟩,
oq 4 (.mv (ci 0)),
oq 5 (.mv (ci 0))])
(.seq (.seq (.reg [oq 11 (.ld true 3 (.t 2)),
oc 12 31 [(.t 11)] 0,
mt 6 12])
(.seq (.reg [mt 13 6,
oq 14 (bi .neq (.t 13) (ci 0))])
(.cond (.t 14) (.seq (.reg [mt 15 6,
oq 4 (.mv (ci 0)),
mt 5 15])
.ret) .skip)))
(.seq (.drw [oq 17 (.faddr 0 (.t 2)),
om 18 1 (ld 17),
mt 19 1,
om 20 4 (bi .lss (.t 19) (ci 0)),
om 21 15 (.bin .neq (.p .bool) (.t 18) (.t 20)),
oq 22 (.faddr 1 (.t 2)),
om 23 32 (ld 22),
mt 24 1,
oc 25 82 [(.t 24)] 128,
oc 26 81 [(.t 25)] 384,
oc 27 64 [(.t 23),(.t 26)] 992,
oq 28 (.faddr 2 (.t 2)),
om 29 2048 (ld 28),
oc 30 79 [(.t 21),(.t 27),(.t 29)] 8191,
om 16 16383 (.mv (.t 30)),
om 31 32767 (.extract (.t 16) 0),
om 32 32767 (.extract (.t 16) 1),
om 7 65535 (.mv (.t 31)),
om 8 262143 (.mv (.t 32))])
(.seq (.reg [mt 34 8,
oc 35 87 [(.t 34)] 0,
mt 33 35,
oq 36 (.extract (.t 33) 0),
oq 37 (.extract (.t 33) 1),
mt 9 36,
mt 10 37])
(.seq (.block 0 (.seq (.reg [mt 39 10,
mt 40 39,
og 41 40 true 0 (.mv (.t 7)),
og 42 40 true 0 (.un .not (.t 41)),
oq 43 (.pick (.t 40) (.t 42) (.c (.bool false))),
mt 44 43,
og 45 44 true 0 (.mv (.t 9)),
og 46 44 true 0 (bi .leq (.t 45) (.c (.int .u64 (.ofNat 9223372036854775807)))),
oq 47 (.pick (.t 44) (.t 46) (.c (.bool false))),
mt 38 47])
(.cond (.t 38) (.seq (.reg [mt 48 9,
oq 49 (.conv (.int .i64) (.t 48)),
mt 4 49,
oq 5 (.mv (ci 0))])
.ret) (.seq (.reg [mt 51 10,
mt 52 51,
og 53 52 true 0 (.mv (.t 7)),
oq 54 (.pick (.t 52) (.t 53) (.c (.bool false))),
mt 55 54,
og 56 55 true 0 (.mv (.t 9)),
og 57 55 true 0 (bi .leq (.t 56) (.c (.int .u64 (.ofNat 9223372036854775808)))),
oq 58 (.pick (.t 55) (.t 57) (.c (.bool false))),
mt 50 58])
(.cond (.t 50) (.seq (.reg [mt 59 9,
oq 60 (.un .neg (.t 59)),
oq 61 (.conv (.int .i64) (.t 60)),
mt 4 61,
oq 5 (.mv (ci 0))])
.ret) .skip)))))
(.seq (.reg [oq 4 (.mv (ci 0)),
oq 5 (.mv (ci 5))])
.ret))))))⟩
theorem row45 : Row Tryd.prog (45, a45) := ⟨Tryd.f45, Tryd.func45, by kernel_rfl⟩
noncomputable def a49 : AFn :=
⟨18,[(.t 8)],(.seq (.reg [⟨(some 4),(.a (.box 25 (.t 0))),none,0⟩,
oq 8 (.mv (.c (.bool false)))])
(.seq (.drw [mt 9 1,
om 10 1 (bi .eql (.t 9) (ci 0)),
om 11 3 (.mv (.t 10)),
og 12 11 true 7 (.ld true 3 (.t 4)),
og 13 11 true 7 (.mv (.t 2)),
og 14 11 true 7 (.mv (.t 3)),
⟨(some 15),(.x (.call (.c (.fn 19 [] [])) [(.t 13),(.t 14)])),(some (11,true)),55⟩,
⟨(some 16),(.x (.call (.c (.fn 14 [] [])) [(.t 12),(.t 15)])),(some (11,true)),127⟩,
om 17 255 (.pick (.t 11) (.t 16) (.c (.bool false))),
om 8 511 (.mv (.t 17))])
.ret))⟩
theorem row49 : Row Tryd.prog (49, a49) := ⟨Tryd.f49, Tryd.func49, by kernel_rfl⟩
noncomputable def a51 : AFn :=
⟨11,[(.t 2)],(.seq (.reg [⟨(some 1),(.a (.box 25 (.t 0))),none,0⟩,
oq 2 (.mv (ci 0))])
(.seq (.block 0 (.seq (.reg [oq 4 (.faddr 1 (.t 1)),
oq 5 (ld 4),
oq 6 (.lenSl (.t 5)),
oq 7 (bi .eql (.t 6) (ci 0)),
mt 3 7])
(.cond (.t 3) (.seq (.reg [oq 2 (.mv (ci 1))])
.ret) (.seq (.reg [oq 9 (.faddr 0 (.t 1)),
oq 10 (ld 9),
mt 8 10])
(.cond (.t 8) (.seq (.reg [oq 2 (.mv (ci 0))])
.ret) .skip)))))
(.seq (.reg [oq 2 (.mv (ci 2))])
.ret)))⟩
theorem row51 : Row Tryd.prog (51, a51) := ⟨Tryd.f51, Tryd.func51, by kernel_rfl⟩
noncomputable def a53 : AFn :=
⟨68,[(.cell 2 true 3)],(.seq (.reg [⟨(some 1),(.a (.box 68 (.t 0))),none,0⟩,
⟨(some 2),(.a (.alloc 25 [(.bool false),.nilsl,.nilsl])),none,0⟩])
(.seq (.reg [oq 9 (.faddr 0 (.t 1)),
oq 10 (.faddr 1 (.t 9)),
oq 11 (ld 10),
oq 12 (.faddr 0 (.t 1)),
oq 13 (.faddr 2 (.t 12)),
oq 14 (ld 13),
oc 15 98 [(.t 11),(.t 14)] 0,
mt 8 15,
oq 16 (.extract (.t 8) 0),
oq 17 (.extract (.t 8) 1),
mt 3 16,
mt 4 17])
(.seq (.reg [mt 18 3,
mt 5 18])
(.seq (.seq (.reg [mt 19 4,
oq 20 (.lenSl (.t 19)),
oq 21 (bi .gtr (.t 20) (ci 0))])
(.cond (.t 21) (.reg [mt 22 3,
oc 23 66 [] 0,
oc 24 99 [(.t 22),(.t 23)] 0,
mt 5 24]) .skip))
(.seq (.seq (.drw [mt 25 5,
oq 26 (.faddr 3 (.t 1)),
om 27 2 (.faddr 2 (.t 26)),
om 28 6 (ld 27),
oc 29 64 [(.t 25),(.t 28)] 15,
oq 30 (.faddr 3 (.t 1)),
om 31 32 (.faddr 1 (.t 30)),
om 32 96 (ld 31),
oc 33 63 [(.t 29),(.t 32)] 255,
om 34 511 (bi .leq (.t 33) (ci 0))])
(.cond (.t 34) (.seq (.reg [mt 35 5,
oc 36 65 [(.c (.bool false)),(.t 35)] 0,
⟨none,(.x (.st 3 (.t 2) (.t 36))),none,0⟩])
.ret) .skip))
(.seq (.drw [oq 37 (.faddr 3 (.t 1)),
om 38 1 (.faddr 1 (.t 37)),
om 39 3 (ld 38),
mt 40 3,
oq 41 (.faddr 3 (.t 1)),
om 42 16 (.faddr 2 (.t 41)),
om 43 48 (ld 42),
oc 44 64 [(.t 40),(.t 43)] 120,
oc 45 100 [(.t 39),(.t 44)] 255,
om 6 511 (.mv (.t 45))])
(.seq (.reg [oq 46 (.faddr 3 (.t 1)),
oq 47 (.faddr 2 (.t 46)),
oq 48 (ld 47),
mt 49 6,
oq 50 (.build [(.bool false),.nilsl,.nilsl] [(1,1,(.t 48)),(2,1,(.t 49))]),
oq 51 (.faddr 0 (.t 1)),
oq 52 (.faddr 2 (.t 51)),
oq 53 (ld 52),
mt 54 4,
oq 55 (.build [(.bool false),.nilsl,.nilsl] [(1,1,(.t 53)),(2,1,(.t 54))]),
oq 56 (.build [(.bool false),.nilsl,.nilsl,(.bool false),.nilsl,.nilsl] [(0,3,(.t 50)),(3,3,(.t 55))]),
oc 57 53 [(.t 56)] 0,
⟨(some 7),(.a (.alloc 25 [(.bool false),.nilsl,.nilsl])),none,0⟩,
⟨none,(.x (.st 3 (.t 7) (.t 57))),none,0⟩])
(.seq (.drw [mt 58 3,
oq 59 (.faddr 1 (.t 7)),
om 60 2 (ld 59),
oc 61 64 [(.t 58),(.t 60)] 7,
oq 62 (.faddr 2 (.t 7)),
om 63 16 (ld 62),
oc 64 99 [(.t 61),(.t 63)] 63,
oq 65 (.faddr 1 (.t 7)),
om 66 128 (ld 65),
om 67 511 (.build [(.bool false),.nilsl,.nilsl] [(1,1,(.t 64)),(2,1,(.t 66))]),
⟨none,(.x (.st 3 (.t 2) (.t 67))),none,1023⟩])
.ret))))))))⟩
theorem row53 : Row Tryd.prog (53, a53) := ⟨Tryd.f53, Tryd.func53, by kernel_rfl⟩
noncomputable def a54 : AFn :=
⟨6,[(.cell 2 true 3)],(.seq (.reg [⟨(some 1),(.a (.box 25 (.t 0))),none,0⟩,
⟨(some 2),(.a (.alloc 25 [(.bool false),.nilsl,.nilsl])),none,0⟩])
(.seq (.reg [oq 3 (.ld true 3 (.t 1)),
oc 4 101 [(.t 3)] 0,
oc 5 50 [(.t 4)] 0,
⟨none,(.x (.st 3 (.t 2) (.t 5))),none,0⟩])
.ret))⟩
theorem row54 : Row Tryd.prog (54, a54) := ⟨Tryd.f54, Tryd.func54, by kernel_rfl⟩
noncomputable def a65 : AFn :=
⟨15,[(.cell 4 true 3)],(.seq (.reg [⟨(some 4),(.a (.alloc 25 [(.bool false),.nilsl,.nilsl])),none,0⟩])
(.seq (.reg [mt 5 0,
mt 6 5,
og 7 6 true 0 (.mv (.t 1)),
og 8 6 true 0 (.lenSl (.t 7)),
og 9 6 true 0 (bi .gtr (.t 8) (ci 0)),
oq 10 (.pick (.t 6) (.t 9) (.c (.bool false))),
mt 11 1,
oc 12 96 [(.t 11)] 0,
oc 13 66 [] 0,
oq 14 (.build [(.bool false),.nilsl,.nilsl] [(0,1,(.t 10)),(1,1,(.t 12)),(2,1,(.t 13))]),
⟨none,(.x (.st 3 (.t 4) (.t 14))),none,0⟩])
.ret))⟩
theorem row65 : Row Tryd.prog (65, a65) := ⟨Tryd.f65, Tryd.func65, by kernel_rfl⟩
noncomputable def a79 : AFn :=
⟨27,[(.t 6),(.t 7)],(.seq (.reg [oq 6 (.mv (.c (.bool false))),
oq 7 (.mv (.c .nilsl))])
(.seq (.reg [mt 11 1,
mt 12 2,
oc 13 98 [(.t 11),(.t 12)] 0,
mt 10 13,
oq 14 (.extract (.t 10) 0),
oq 15 (.extract (.t 10) 1),
mt 8 14,
mt 9 15])
(.seq (.seq (.reg [mt 16 0,
mt 17 16,
og 18 17 true 0 (.mv (.t 9)),
og 19 17 true 0 (.lenSl (.t 18)),
og 20 17 true 0 (bi .gtr (.t 19) (ci 0)),
oq 21 (.pick (.t 17) (.t 20) (.c (.bool false)))])
(.cond (.t 21) (.reg [mt 22 8,
oc 23 66 [] 0,
oc 24 99 [(.t 22),(.t 23)] 0,
mt 8 24]) .skip))
(.seq (.reg [mt 25 0,
mt 26 8,
mt 6 25,
mt 7 26])
.ret))))⟩
theorem row79 : Row Tryd.prog (79, a79) := ⟨Tryd.f79, Tryd.func79, by kernel_rfl⟩
noncomputable def a82 : AFn :=
⟨10,[(.t 2)],(.seq (.reg [oq 2 (.mv (.c (.int .u64 (.ofNat 0))))])
(.seq (.seq (.reg [mt 3 0,
oq 4 (bi .lss (.t 3) (ci 0))])
(.cond (.t 4) (.seq (.reg [mt 5 0,
oq 6 (.conv (.int .u64) (.t 5)),
oq 7 (.un .neg (.t 6)),
mt 2 7])
.ret) .skip))
(.seq (.reg [mt 8 0,
oq 9 (.conv (.int .u64) (.t 8)),
mt 2 9])
.ret)))⟩
theorem row82 : Row Tryd.prog (82, a82) := ⟨Tryd.f82, Tryd.func82, by kernel_rfl⟩
noncomputable def a87 : AFn :=
⟨41,[(.t 2),(.t 3)],(.seq (.reg [oq 2 (.mv (.c (.int .u64 (.ofNat 0)))),
oq 3 (.mv (.c (.bool false)))])
(.seq (.seq (.reg [mt 10 0,
oq 11 (.lenSl (.t 10)),
oq 12 (bi .gtr (.t 11) (ci 3))])
(.cond (.t 12) (.seq (.reg [oq 2 (.mv (.c (.int .u64 (.ofNat 0)))),
oq 3 (.mv (.c (.bool false)))])
.ret) .skip))
(.seq (.reg [oq 4 (.mv (.c (.int .u64 (.ofNat 0))))])
(.seq (.seq (.reg [mt 13 0,
oq 14 (.lenSl (.t 13)),
oq 15 (bi .sub (.t 14) (ci 1)),
mt 5 15])
(.block 0 (.loop (.seq (.seq (.reg [mt 16 5,
oq 17 (bi .geq (.t 16) (ci 0))])
(.cond (.t 17) .skip (.exit 0)))
(.seq (.block 1 (.seq (.reg [mt 21 4,
oc 22 122 [(.t 21),(.c (.int .u64 (.ofNat 1000000000)))] 0,
mt 20 22,
oq 23 (.extract (.t 20) 0),
oq 24 (.extract (.t 20) 1),
mt 6 23,
mt 7 24])
(.seq (.reg [mt 26 7,
mt 27 0,
mt 28 5,
oq 29 (.iaddr (.slice 1) (.t 27) (.t 28)),
oq 30 (ld 29),
oq 31 (.conv (.int .u64) (.t 30)),
⟨(some 32),(.x (.ext .add64 [(.t 26),(.t 31),(.c (.int .u64 (.ofNat 0)))])),none,0⟩,
mt 25 32,
oq 33 (.extract (.t 25) 0),
oq 34 (.extract (.t 25) 1),
mt 8 33,
mt 9 34])
(.seq (.seq (.reg [mt 35 6,
mt 36 9,
oq 37 (bi .add (.t 35) (.t 36)),
oq 38 (bi .gtr (.t 37) (.c (.int .u64 (.ofNat 0))))])
(.cond (.t 38) (.seq (.reg [oq 2 (.mv (.c (.int .u64 (.ofNat 0)))),
oq 3 (.mv (.c (.bool false)))])
.ret) .skip))
(.reg [mt 39 8,
mt 4 39])))))
(.reg [mt 18 5,
oq 19 (bi .sub (.t 18) (ci 1)),
mt 5 19]))))))
(.seq (.reg [mt 40 4,
mt 2 40,
oq 3 (.mv (.c (.bool true)))])
.ret)))))⟩
theorem row87 : Row Tryd.prog (87, a87) := ⟨Tryd.f87, Tryd.func87, by kernel_rfl⟩
noncomputable def a101 : AFn :=
⟨17,[(.cell 2 true 3)],(.seq (.reg [⟨(some 1),(.a (.box 25 (.t 0))),none,0⟩,
⟨(some 2),(.a (.alloc 25 [(.bool false),.nilsl,.nilsl])),none,0⟩])
(.seq (.reg [oq 3 (.faddr 0 (.t 1)),
oq 4 (ld 3),
oq 5 (.un .not (.t 4)),
mt 6 5,
og 7 6 true 0 (.faddr 1 (.t 1)),
og 8 6 true 0 (ld 7),
og 9 6 true 0 (.lenSl (.t 8)),
og 10 6 true 0 (bi .gtr (.t 9) (ci 0)),
oq 11 (.pick (.t 6) (.t 10) (.c (.bool false))),
oq 12 (.faddr 1 (.t 1)),
oq 13 (ld 12),
oq 14 (.faddr 2 (.t 1)),
oq 15 (ld 14),
oq 16 (.build [(.bool false),.nilsl,.nilsl] [(0,1,(.t 11)),(1,1,(.t 13)),(2,1,(.t 15))]),
⟨none,(.x (.st 3 (.t 2) (.t 16))),none,0⟩])
.ret))⟩
theorem row101 : Row Tryd.prog (101, a101) := ⟨Tryd.f101, Tryd.func101, by kernel_rfl⟩
noncomputable def a122 : AFn :=
⟨51,[(.t 4),(.t 5)],(.seq (.reg [oq 4 (.mv (.c (.int .u64 (.ofNat 0)))),
oq 5 (.mv (.c (.int .u64 (.ofNat 0))))])
(.seq (.reg [mt 14 0,
oq 15 (bi .and (.t 14) (.c (.int .u64 (.ofNat 4294967295)))),
mt 6 15])
(.seq (.reg [mt 16 0,
oq 17 (bi .shr (.t 16) (.c (.int .u64 (.ofNat 32)))),
mt 7 17])
(.seq (.reg [mt 18 1,
oq 19 (bi .and (.t 18) (.c (.int .u64 (.ofNat 4294967295)))),
mt 8 19])
(.seq (.reg [mt 20 1,
oq 21 (bi .shr (.t 20) (.c (.int .u64 (.ofNat 32)))),
mt 9 21])
(.seq (.reg [mt 22 6,
mt 23 8,
oq 24 (bi .mul (.t 22) (.t 23)),
mt 10 24])
(.seq (.reg [mt 25 7,
mt 26 8,
oq 27 (bi .mul (.t 25) (.t 26)),
mt 28 10,
oq 29 (bi .shr (.t 28) (.c (.int .u64 (.ofNat 32)))),
oq 30 (bi .add (.t 27) (.t 29)),
mt 11 30])
(.seq (.reg [mt 31 11,
oq 32 (bi .and (.t 31) (.c (.int .u64 (.ofNat 4294967295)))),
mt 12 32])
(.seq (.reg [mt 33 11,
oq 34 (bi .shr (.t 33) (.c (.int .u64 (.ofNat 32)))),
mt 13 34])
(.seq (.reg [mt 35 12,
mt 36 6,
mt 37 9,
oq 38 (bi .mul (.t 36) (.t 37)),
oq 39 (bi .add (.t 35) (.t 38)),
mt 12 39])
(.seq (.reg [mt 40 7,
mt 41 9,
oq 42 (bi .mul (.t 40) (.t 41)),
mt 43 13,
oq 44 (bi .add (.t 42) (.t 43)),
mt 45 12,
oq 46 (bi .shr (.t 45) (.c (.int .u64 (.ofNat 32)))),
oq 47 (bi .add (.t 44) (.t 46)),
mt 4 47])
(.seq (.reg [mt 48 0,
mt 49 1,
oq 50 (bi .mul (.t 48) (.t 49)),
mt 5 50])
.ret))))))))))))⟩
theorem row122 : Row Tryd.prog (122, a122) := ⟨Tryd.f122, Tryd.func122, by kernel_rfl⟩
end Go.Proofs.YtmbmidkdinllgaaDoor.awake
