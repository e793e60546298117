/- Functions of the program as data of the evaluator, written by program; each is shown to be the compiler's result on the loaded function. -/
import Derived.Test.YtoojnpjgnnpllaaProg
import Derived.Test.YtoojnpjgnnpllaaEv8
import Derived.KernelRfl
namespace Go.Ev.Gl
set_option maxRecDepth 100000
noncomputable def a103 : AFn :=
⟨56,[(.t 8)],(.seq (.reg [⟨(some 4),(.a (.box 28 (.t 0))),none,0⟩,
oq 8 (.mv (ci 0))])
(.seq (.seq (.reg [mt 11 1,
oq 12 (.faddr 1 (.t 4)),
oq 13 (ld 12),
oq 14 (.lenSl (.t 13)),
oq 15 (bi .geq (.t 11) (.t 14))])
(.cond (.t 15) (.seq (.reg [oq 8 (.mv (.c (.int .i64 (.negSucc 0))))])
.ret) .skip))
(.seq (.reg [mt 16 3,
mt 17 3,
oq 18 (.nilchk (.t 17)),
oq 19 (ld 18),
mt 20 2,
oq 21 (.minmax true [(.t 19),(.t 20)]),
oq 22 (.nilchk (.t 16)),
⟨none,(.x (.st 1 (.t 22) (.t 21))),none,0⟩])
(.seq (.reg [mt 23 1,
oq 24 (bi .add (.t 23) (ci 1)),
mt 9 24])
(.seq (.seq (.reg [oq 10 (.mv (ci 0))])
(.block 0 (.loop (.seq (.seq (.reg [mt 25 10,
oq 26 (.faddr 1 (.t 4)),
oq 27 (ld 26),
mt 28 1,
oq 29 (.iaddr (.slice 6) (.t 27) (.t 28)),
oq 30 (.faddr 3 (.t 29)),
oq 31 (ld 30),
oq 32 (.lenSl (.t 31)),
oq 33 (bi .lss (.t 25) (.t 32))])
(.cond (.t 33) .skip (.exit 0)))
(.seq (.block 1 (.seq (.seq (.reg [oq 36 (.faddr 1 (.t 4)),
oq 37 (ld 36),
mt 38 1,
oq 39 (.iaddr (.slice 6) (.t 37) (.t 38)),
oq 40 (.faddr 3 (.t 39)),
oq 41 (ld 40),
mt 42 10,
oq 43 (.iaddr (.slice 1) (.t 41) (.t 42)),
oq 44 (ld 43),
mt 45 9,
oq 46 (bi .neq (.t 44) (.t 45))])
(.cond (.t 46) (.seq (.reg [oq 8 (.mv (.c (.int .i64 (.negSucc 0))))])
.ret) .skip))
(.seq (.reg [oq 47 (.ld true 3 (.t 4)),
mt 48 9,
mt 49 2,
oq 50 (bi .add (.t 49) (ci 1)),
mt 51 3,
oc 52 103 [(.t 47),(.t 48),(.t 50),(.t 51)] 0,
mt 9 52])
(.seq (.reg [mt 53 9,
oq 54 (bi .lss (.t 53) (ci 0))])
(.cond (.t 54) (.seq (.reg [oq 8 (.mv (.c (.int .i64 (.negSucc 0))))])
.ret) .skip)))))
(.reg [mt 34 10,
oq 35 (bi .add (.t 34) (ci 1)),
mt 10 35]))))))
(.seq (.reg [mt 55 9,
mt 8 55])
.ret))))))⟩
theorem row103 : Row Go.Proofs.Try.prog (103, a103) := ⟨Go.Proofs.Try.f103, Go.Proofs.Try.func103, by kernel_rfl⟩
noncomputable def a104 : AFn :=
⟨38,[(.t 2)],(.seq (.reg [⟨(some 1),(.a (.box 28 (.t 0))),none,0⟩,
oq 2 (.mv (.c .nilsl))])
(.seq (.reg [oq 6 (.faddr 2 (.t 1)),
oq 7 (ld 6),
oq 8 (.lenSl (.t 7)),
⟨(some 9),(.a (.mkSlice 22 1 24 [.nilsl] (.t 8) (.t 8))),none,0⟩,
mt 3 9])
(.seq (.seq (.reg [oq 4 (.mv (ci 0))])
(.block 0 (.loop (.seq (.seq (.reg [mt 10 4,
oq 11 (.faddr 1 (.t 1)),
oq 12 (ld 11),
oq 13 (.lenSl (.t 12)),
oq 14 (bi .lss (.t 10) (.t 13))])
(.cond (.t 14) .skip (.exit 0)))
(.seq (.block 1 (.seq (.reg [oq 17 (.faddr 1 (.t 1)),
oq 18 (ld 17),
mt 19 4,
oq 20 (.iaddr (.slice 6) (.t 18) (.t 19)),
oq 21 (.ld true 6 (.t 20)),
⟨(some 5),(.a (.alloc 64 [(.int .i64 (.ofNat 0)),(.int .i64 (.ofNat 0)),(.int .i64 (.ofNat 0)),.nilsl,.nilsl,.nilsl])),none,0⟩,
⟨none,(.x (.st 6 (.t 5) (.t 21))),none,0⟩])
(.seq (.reg [oq 22 (.faddr 0 (.t 5)),
oq 23 (ld 22),
oq 24 (bi .eql (.t 23) (ci 2))])
(.cond (.t 24) (.drw [mt 25 3,
oq 26 (.faddr 2 (.t 5)),
om 27 2 (ld 26),
mt 28 3,
oq 29 (.faddr 2 (.t 5)),
om 30 16 (ld 29),
om 31 56 (.iaddr (.slice 1) (.t 28) (.t 30)),
om 32 120 (ld 31),
mt 33 4,
⟨(some 34),(.a (.bslice 3 1 1 [(.int .i64 (.ofNat 0))] [(0,(.t 33))])),none,256⟩,
⟨(some 35),(.x (.app 3 1 8 (.t 32) (.t 34))),none,1016⟩,
om 36 2047 (.iaddr (.slice 1) (.t 25) (.t 27)),
⟨none,(.x (.st 1 (.t 36) (.t 35))),none,4095⟩]) .skip))))
(.reg [mt 15 4,
oq 16 (bi .add (.t 15) (ci 1)),
mt 4 16]))))))
(.seq (.reg [mt 37 3,
mt 2 37])
.ret))))⟩
theorem row104 : Row Go.Proofs.Try.prog (104, a104) := ⟨Go.Proofs.Try.f104, Go.Proofs.Try.func104, by kernel_rfl⟩
noncomputable def a116 : AFn :=
⟨64,[(.cell 4 true 2),(.t 5)],(.seq (.reg [⟨(some 2),(.a (.box 104 (.t 0))),none,0⟩,
⟨(some 3),(.a (.box 22 (.t 1))),none,0⟩,
⟨(some 4),(.a (.alloc 108 [.nilsl,.nilsl])),none,0⟩,
oq 5 (.mv (.c (.bool false)))])
(.seq (.drw [oq 11 (ld 2),
om 12 1 (.nilchk (.t 11)),
om 13 3 (.faddr 0 (.t 12)),
om 14 7 (.faddr 2 (.t 13)),
om 15 15 (ld 14),
om 16 31 (.lenSl (.t 15)),
oc 17 155 [(.t 16)] 63,
oq 18 (ld 2),
om 19 128 (.nilchk (.t 18)),
om 20 384 (.faddr 0 (.t 19)),
om 21 896 (.faddr 2 (.t 20)),
om 22 1920 (ld 21),
om 23 3968 (.lenSl (.t 22)),
⟨(some 24),(.a (.mkSlice 22 1 24 [.nilsl] (.t 23) (.t 23))),none,8064⟩,
om 25 16383 (.build [.nilsl,.nilsl] [(0,1,(.t 17)),(1,1,(.t 24))]),
⟨(some 6),(.a (.alloc 108 [.nilsl,.nilsl])),none,0⟩,
⟨none,(.x (.st 2 (.t 6) (.t 25))),none,65535⟩])
(.seq (.reg [oq 26 (ld 2),
oq 27 (.nilchk (.t 26)),
oq 28 (.faddr 0 (.t 27)),
oq 29 (.faddr 2 (.t 28)),
oq 30 (ld 29),
oq 31 (.lenSl (.t 30)),
oc 32 155 [(.t 31)] 0,
⟨(some 7),(.a (.alloc 22 [.nilsl])),none,0⟩,
⟨none,(.x (.st 1 (.t 7) (.t 32))),none,0⟩])
(.seq (.seq (.reg [oq 33 (ld 2),
oq 34 (.nilchk (.t 33)),
oq 35 (.faddr 0 (.t 34)),
oq 36 (.faddr 2 (.t 35)),
oq 37 (ld 36),
oq 38 (.lenSl (.t 37)),
oq 39 (.mv (ci 0))])
(.block 0 (.loop (.seq (.reg [oq 40 (bi .lss (.t 39) (.t 38))])
(.seq (.cond (.t 40) .skip (.exit 0))
(.seq (.block 1 (.seq (.reg [mt 41 39,
oq 42 (.iaddr (.slice 2) (.t 37) (.t 39)),
oq 43 (.ld true 2 (.t 42)),
⟨(some 9),(.a (.alloc 48 [(.int .i64 (.ofNat 0)),(.int .i64 (.ofNat 0))])),none,0⟩,
mt 8 41,
⟨none,(.x (.st 2 (.t 9) (.t 43))),none,0⟩])
(.drw [oq 44 (.faddr 1 (.t 6)),
om 45 1 (ld 44),
mt 46 8,
oq 47 (.faddr 1 (.t 9)),
om 48 8 (ld 47),
oc 49 155 [(.t 48)] 24,
om 50 63 (.iaddr (.slice 1) (.t 45) (.t 46)),
⟨none,(.x (.st 1 (.t 50) (.t 49))),none,127⟩])))
(.reg [oq 51 (bi .add (.t 39) (ci 1)),
mt 39 51])))))))
(.seq (.reg [⟨(some 10),(.a (.alloc 166 [.nilfn])),none,0⟩])
(.seq (.reg [oq 52 (.mkFunc 156 [] [(.t 2),(.t 6),(.t 7),(.t 3),(.t 10)]),
⟨none,(.x (.st 1 (.t 10) (.t 52))),none,0⟩])
(.seq (.seq (.reg [oq 53 (ld 3),
oq 54 (.iaddr (.slice 1) (.t 53) (ci 0)),
oq 55 (ld 54),
oq 56 (bi .neq (.t 55) (ci 0)),
mt 57 56,
og 58 57 false 0 (ld 10),
⟨(some 59),(.x (.call (.t 58) [(ci 0),(ci 0)])),(some (57,false)),0⟩,
og 60 57 false 0 (.un .not (.t 59)),
oq 61 (.pick (.t 57) (.c (.bool true)) (.t 60))])
(.cond (.t 61) (.seq (.reg [oq 62 (.build [.nilsl,.nilsl] []),
⟨none,(.x (.st 2 (.t 4) (.t 62))),none,0⟩,
oq 5 (.mv (.c (.bool false)))])
.ret) .skip))
(.seq (.reg [oq 63 (.ld true 2 (.t 6)),
⟨none,(.x (.st 2 (.t 4) (.t 63))),none,0⟩,
oq 5 (.mv (.c (.bool true)))])
.ret))))))))⟩
theorem row116 : Row Go.Proofs.Try.prog (116, a116) := ⟨Go.Proofs.Try.f116, Go.Proofs.Try.func116, by kernel_rfl⟩
noncomputable def a119 : AFn :=
⟨8,[(.t 2),(.t 3)],(.seq (.reg [⟨(some 1),(.a (.box 28 (.t 0))),none,0⟩,
oq 2 (.mv (.c .nilsl)),
oq 3 (.mv (ci 0))])
(.seq (.reg [oq 4 (.ld true 3 (.t 1)),
oc 5 158 [(.t 4),(.c (.fn 159 [] []))] 0,
oq 6 (.extract (.t 5) 0),
oq 7 (.extract (.t 5) 1),
mt 2 6,
mt 3 7])
.ret))⟩
theorem row119 : Row Go.Proofs.Try.prog (119, a119) := ⟨Go.Proofs.Try.f119, Go.Proofs.Try.func119, by kernel_rfl⟩
noncomputable def a120 : AFn :=
⟨21,[(.t 4)],(.seq (.reg [⟨(some 2),(.a (.box 64 (.t 0))),none,0⟩,
oq 4 (.mv (ci 0))])
(.seq (.seq (.reg [oq 5 (.mv (ci 0))])
(.block 0 (.loop (.seq (.seq (.reg [mt 6 5,
oq 7 (.faddr 3 (.t 2)),
oq 8 (ld 7),
oq 9 (.lenSl (.t 8)),
oq 10 (bi .lss (.t 6) (.t 9))])
(.cond (.t 10) .skip (.exit 0)))
(.seq (.block 1 (.seq (.reg [oq 13 (.faddr 3 (.t 2)),
oq 14 (ld 13),
mt 15 5,
oq 16 (.iaddr (.slice 1) (.t 14) (.t 15)),
oq 17 (ld 16),
mt 18 1,
oq 19 (bi .eql (.t 17) (.t 18))])
(.cond (.t 19) (.seq (.reg [mt 20 5,
mt 4 20])
.ret) .skip)))
(.reg [mt 11 5,
oq 12 (bi .add (.t 11) (ci 1)),
mt 5 12]))))))
(.seq (.reg [oq 4 (.mv (.c (.int .i64 (.negSucc 0))))])
.ret)))⟩
theorem row120 : Row Go.Proofs.Try.prog (120, a120) := ⟨Go.Proofs.Try.f120, Go.Proofs.Try.func120, by kernel_rfl⟩
noncomputable def a131 : AFn :=
⟨97,[(.t 2),(.t 3)],(.seq (.reg [⟨(some 1),(.a (.box 28 (.t 0))),none,0⟩,
oq 2 (.mv (.c .nilp)),
oq 3 (.mv (ci 0))])
(.seq (.seq (.reg [oq 10 (.faddr 0 (.t 1)),
oq 11 (ld 10),
oq 12 (bi .lss (.t 11) (ci 1)),
mt 13 12,
og 14 13 false 0 (.faddr 0 (.t 1)),
og 15 13 false 0 (ld 14),
og 16 13 false 0 (bi .gtr (.t 15) (ci 4)),
oq 17 (.pick (.t 13) (.c (.bool true)) (.t 16)),
mt 18 17,
og 19 18 false 0 (.faddr 1 (.t 1)),
og 20 18 false 0 (ld 19),
og 21 18 false 0 (.lenSl (.t 20)),
og 22 18 false 0 (bi .lss (.t 21) (ci 1)),
oq 23 (.pick (.t 18) (.c (.bool true)) (.t 22)),
mt 24 23,
og 25 24 false 0 (.faddr 1 (.t 1)),
og 26 24 false 0 (ld 25),
og 27 24 false 0 (.lenSl (.t 26)),
og 28 24 false 0 (bi .gtr (.t 27) (ci 2000)),
oq 29 (.pick (.t 24) (.c (.bool true)) (.t 28)),
mt 30 29,
og 31 30 false 0 (.faddr 2 (.t 1)),
og 32 30 false 0 (ld 31),
og 33 30 false 0 (.lenSl (.t 32)),
og 34 30 false 0 (bi .gtr (.t 33) (ci 200)),
oq 35 (.pick (.t 30) (.c (.bool true)) (.t 34))])
(.cond (.t 35) (.seq (.reg [oq 2 (.mv (.c .nilp)),
oq 3 (.mv (ci 2))])
.ret) .skip))
(.seq (.reg [oq 36 (.ld true 3 (.t 1)),
oq 37 (.build [(.int .i64 (.ofNat 0)),.nilsl,.nilsl,.nilsl,.nilsl,.nilsl] [(0,3,(.t 36))]),
⟨(some 38),(.a (.box 220 (.t 37))),none,0⟩,
mt 4 38])
(.seq (.seq (.reg [oq 39 (.faddr 1 (.t 1)),
oq 40 (ld 39),
oq 41 (.lenSl (.t 40)),
oq 42 (.mv (ci 0))])
(.block 0 (.loop (.seq (.reg [oq 43 (bi .lss (.t 42) (.t 41))])
(.seq (.cond (.t 43) .skip (.exit 0))
(.seq (.block 1 (.seq (.reg [oq 44 (.iaddr (.slice 6) (.t 40) (.t 42)),
oq 45 (.ld true 6 (.t 44)),
⟨(some 6),(.a (.alloc 64 [(.int .i64 (.ofNat 0)),(.int .i64 (.ofNat 0)),(.int .i64 (.ofNat 0)),.nilsl,.nilsl,.nilsl])),none,0⟩,
⟨none,(.x (.st 6 (.t 6) (.t 45))),none,0⟩])
(.seq (.reg [mt 46 4,
oq 47 (.ld true 6 (.t 6)),
oc 48 162 [(.t 46),(.t 47)] 0,
mt 7 48])
(.seq (.reg [mt 49 7,
oq 50 (bi .neq (.t 49) (ci 0))])
(.cond (.t 50) (.seq (.reg [mt 51 7,
oq 2 (.mv (.c .nilp)),
mt 3 51])
.ret) .skip)))))
(.reg [oq 52 (bi .add (.t 42) (ci 1)),
mt 42 52])))))))
(.seq (.drw [mt 53 4,
mt 54 4,
mt 55 4,
oq 56 (.faddr 1 (.t 1)),
om 57 8 (ld 56),
om 58 24 (.lenSl (.t 57)),
⟨(some 59),(.a (.mkSlice 3 1 8 [(.int .i64 (.ofNat 0))] (.t 58) (.t 58))),none,56⟩,
oq 60 (.faddr 1 (.t 1)),
om 61 128 (ld 60),
om 62 384 (.lenSl (.t 61)),
⟨(some 63),(.a (.mkSlice 3 1 8 [(.int .i64 (.ofNat 0))] (.t 62) (.t 62))),none,896⟩,
oq 64 (.faddr 1 (.t 1)),
om 65 2048 (ld 64),
om 66 6144 (.lenSl (.t 65)),
⟨(some 67),(.a (.mkSlice 3 1 8 [(.int .i64 (.ofNat 0))] (.t 66) (.t 66))),none,14336⟩,
om 68 121 (.nilchk (.t 53)),
om 69 32889 (.faddr 3 (.t 68)),
⟨none,(.x (.st 1 (.t 69) (.t 59))),none,98425⟩,
om 70 231419 (.nilchk (.t 54)),
om 71 493563 (.faddr 4 (.t 70)),
⟨none,(.x (.st 1 (.t 71) (.t 63))),none,1017851⟩,
om 72 2097151 (.nilchk (.t 55)),
om 73 4194303 (.faddr 5 (.t 72)),
⟨none,(.x (.st 1 (.t 73) (.t 67))),none,8388607⟩])
(.seq (.seq (.reg [mt 75 4,
oq 76 (.faddr 1 (.t 1)),
oq 77 (ld 76),
oc 78 163 [(.t 75),(.c (.int .i64 (.negSucc 0))),(ci 0),(.t 77)] 0,
mt 74 78,
oq 79 (.extract (.t 74) 0),
oq 80 (.extract (.t 74) 1),
mt 8 79,
mt 9 80])
(.seq (.reg [mt 81 9,
oq 82 (.un .not (.t 81)),
mt 83 82,
og 84 83 false 0 (.mv (.t 8)),
og 85 83 false 0 (.lenSl (.t 84)),
og 86 83 false 0 (bi .gtr (.t 85) (ci 0)),
oq 87 (.pick (.t 83) (.c (.bool true)) (.t 86))])
(.cond (.t 87) (.seq (.reg [oq 2 (.mv (.c .nilp)),
oq 3 (.mv (ci 9))])
.ret) .skip)))
(.seq (.seq (.reg [mt 88 4,
oq 89 (.nilchk (.t 88)),
oq 90 (.faddr 4 (.t 89)),
oq 91 (ld 90),
oc 92 164 [(.t 91)] 0,
oq 93 (bi .gtr (.t 92) (ci 40))])
(.cond (.t 93) (.seq (.reg [oq 2 (.mv (.c .nilp)),
oq 3 (.mv (ci 5))])
.ret) .skip))
(.seq (.reg [mt 94 4,
mt 95 4,
oc 96 165 [(.t 95)] 0,
mt 2 94,
mt 3 96])
.ret))))))))⟩
theorem row131 : Row Go.Proofs.Try.prog (131, a131) := ⟨Go.Proofs.Try.f131, Go.Proofs.Try.func131, by kernel_rfl⟩
noncomputable def a152 : AFn :=
⟨26,[(.t 4)],(.seq (.reg [oq 4 (.mv (.c (.bool false)))])
(.seq (.seq (.reg [mt 6 0,
oq 7 (.lenSl (.t 6)),
mt 8 1,
oq 9 (.lenSl (.t 8)),
oq 10 (bi .neq (.t 7) (.t 9))])
(.cond (.t 10) (.seq (.reg [oq 4 (.mv (.c (.bool false)))])
.ret) .skip))
(.seq (.seq (.reg [mt 11 0,
oq 12 (.lenSl (.t 11)),
oq 13 (.mv (ci 0))])
(.block 0 (.loop (.seq (.reg [oq 14 (bi .lss (.t 13) (.t 12))])
(.seq (.cond (.t 14) .skip (.exit 0))
(.seq (.block 1 (.seq (.reg [mt 15 13,
mt 5 15])
(.seq (.drw [mt 16 0,
mt 17 5,
om 18 3 (.iaddr (.slice 1) (.t 16) (.t 17)),
om 19 7 (ld 18),
mt 20 1,
mt 21 5,
om 22 48 (.iaddr (.slice 1) (.t 20) (.t 21)),
om 23 112 (ld 22),
om 24 255 (bi .neq (.t 19) (.t 23))])
(.cond (.t 24) (.seq (.reg [oq 4 (.mv (.c (.bool false)))])
.ret) .skip))))
(.reg [oq 25 (bi .add (.t 13) (ci 1)),
mt 13 25])))))))
(.seq (.reg [oq 4 (.mv (.c (.bool true)))])
.ret))))⟩
theorem row152 : Row Go.Proofs.Try.prog (152, a152) := ⟨Go.Proofs.Try.f152, Go.Proofs.Try.func152, by kernel_rfl⟩
noncomputable def a155 : AFn :=
⟨17,[(.t 2)],(.seq (.reg [oq 2 (.mv (.c .nilsl))])
(.seq (.reg [mt 5 0,
⟨(some 6),(.a (.mkSlice 3 1 8 [(.int .i64 (.ofNat 0))] (.t 5) (.t 5))),none,0⟩,
mt 3 6])
(.seq (.seq (.reg [mt 7 3,
oq 8 (.lenSl (.t 7)),
oq 9 (.mv (ci 0))])
(.block 0 (.loop (.seq (.reg [oq 10 (bi .lss (.t 9) (.t 8))])
(.seq (.cond (.t 10) .skip (.exit 0))
(.seq (.block 1 (.seq (.reg [mt 11 9,
mt 4 11])
(.reg [mt 12 3,
mt 13 4,
oq 14 (.iaddr (.slice 1) (.t 12) (.t 13)),
⟨none,(.x (.st 1 (.t 14) (.c (.int .i64 (.negSucc 0))))),none,0⟩])))
(.reg [oq 15 (bi .add (.t 9) (ci 1)),
mt 9 15])))))))
(.seq (.reg [mt 16 3,
mt 2 16])
.ret))))⟩
theorem row155 : Row Go.Proofs.Try.prog (155, a155) := ⟨Go.Proofs.Try.f155, Go.Proofs.Try.func155, by kernel_rfl⟩
noncomputable def a156 : AFn :=
⟨155,[(.t 9)],(.seq (.reg [oq 9 (.mv (.c (.bool false)))])
(.seq (.drw [oq 16 (ld 2),
om 17 1 (.nilchk (.t 16)),
om 18 3 (.faddr 0 (.t 17)),
om 19 7 (.faddr 1 (.t 18)),
om 20 15 (ld 19),
mt 21 0,
om 22 63 (.iaddr (.slice 6) (.t 20) (.t 21)),
om 23 127 (.ld true 6 (.t 22)),
oq 24 (ld 2),
om 25 256 (.nilchk (.t 24)),
om 26 768 (.faddr 0 (.t 25)),
om 27 1792 (.faddr 1 (.t 26)),
om 28 3840 (ld 27),
mt 29 1,
om 30 16128 (.iaddr (.slice 6) (.t 28) (.t 29)),
om 31 32512 (.ld true 6 (.t 30)),
⟨(some 10),(.a (.alloc 64 [(.int .i64 (.ofNat 0)),(.int .i64 (.ofNat 0)),(.int .i64 (.ofNat 0)),.nilsl,.nilsl,.nilsl])),none,0⟩,
⟨(some 11),(.a (.alloc 64 [(.int .i64 (.ofNat 0)),(.int .i64 (.ofNat 0)),(.int .i64 (.ofNat 0)),.nilsl,.nilsl,.nilsl])),none,0⟩,
⟨none,(.x (.st 6 (.t 10) (.t 23))),none,196863⟩,
⟨none,(.x (.st 6 (.t 11) (.t 31))),none,524287⟩])
(.seq (.seq (.reg [oq 32 (.faddr 0 (.t 10)),
oq 33 (ld 32),
oq 34 (.faddr 0 (.t 11)),
oq 35 (ld 34),
oq 36 (bi .neq (.t 33) (.t 35)),
mt 37 36,
og 38 37 false 0 (.faddr 1 (.t 10)),
og 39 37 false 0 (ld 38),
og 40 37 false 0 (.faddr 1 (.t 11)),
og 41 37 false 0 (ld 40),
og 42 37 false 0 (bi .neq (.t 39) (.t 41)),
oq 43 (.pick (.t 37) (.c (.bool true)) (.t 42)),
mt 44 43,
og 45 44 false 0 (.faddr 3 (.t 10)),
og 46 44 false 0 (ld 45),
og 47 44 false 0 (.lenSl (.t 46)),
og 48 44 false 0 (.faddr 3 (.t 11)),
og 49 44 false 0 (ld 48),
og 50 44 false 0 (.lenSl (.t 49)),
og 51 44 false 0 (bi .neq (.t 47) (.t 50)),
oq 52 (.pick (.t 44) (.c (.bool true)) (.t 51)),
mt 53 52,
og 54 53 false 0 (.faddr 5 (.t 10)),
og 55 53 false 0 (ld 54),
og 56 53 false 0 (.faddr 5 (.t 11)),
og 57 53 false 0 (ld 56),
⟨(some 58),(.x (.call (.c (.fn 152 [] [])) [(.t 55),(.t 57)])),(some (53,false)),0⟩,
og 59 53 false 0 (.un .not (.t 58)),
oq 60 (.pick (.t 53) (.c (.bool true)) (.t 59))])
(.cond (.t 60) (.seq (.reg [oq 9 (.mv (.c (.bool false)))])
.ret) .skip))
(.seq (.reg [oq 61 (.faddr 0 (.t 10)),
oq 62 (ld 61),
oq 63 (bi .eql (.t 62) (ci 2)),
mt 12 63])
(.seq (.seq (.reg [mt 64 12,
mt 65 64,
og 66 65 true 0 (.faddr 0 (.t 3)),
og 67 65 true 0 (ld 66),
og 68 65 true 0 (.faddr 2 (.t 10)),
og 69 65 true 0 (ld 68),
og 70 65 true 0 (.faddr 2 (.t 11)),
og 71 65 true 0 (ld 70),
⟨(some 72),(.x (.call (.c (.fn 157 [] [])) [(.t 67),(.t 69),(.t 71)])),(some (65,true)),0⟩,
og 73 65 true 0 (.un .not (.t 72)),
oq 74 (.pick (.t 65) (.t 73) (.c (.bool false))),
mt 75 74,
og 76 75 false 0 (.mv (.t 12)),
og 77 75 false 0 (.mv (.t 76)),
og 78 77 true 0 (ld 4),
og 79 77 true 0 (.faddr 2 (.t 11)),
og 80 77 true 0 (ld 79),
og 81 77 true 0 (.faddr 2 (.t 10)),
og 82 77 true 0 (ld 81),
⟨(some 83),(.x (.call (.c (.fn 157 [] [])) [(.t 78),(.t 80),(.t 82)])),(some (77,true)),0⟩,
og 84 77 true 0 (.un .not (.t 83)),
og 85 75 false 0 (.pick (.t 77) (.t 84) (.c (.bool false))),
oq 86 (.pick (.t 75) (.c (.bool true)) (.t 85))])
(.cond (.t 86) (.seq (.reg [oq 9 (.mv (.c (.bool false)))])
.ret) .skip))
(.seq (.seq (.reg [oq 87 (.faddr 3 (.t 10)),
oq 88 (ld 87),
oq 89 (.lenSl (.t 88)),
oq 90 (.mv (ci 0))])
(.block 0 (.loop (.seq (.reg [oq 91 (bi .lss (.t 90) (.t 89))])
(.seq (.cond (.t 91) .skip (.exit 0))
(.seq (.block 1 (.seq (.reg [mt 92 90,
oq 93 (.iaddr (.slice 1) (.t 88) (.t 90)),
oq 94 (ld 93),
mt 13 92,
mt 14 94])
(.seq (.reg [oq 95 (ld 5),
mt 96 14,
oq 97 (.iaddr (.slice 1) (.t 95) (.t 96)),
oq 98 (ld 97),
mt 15 98])
(.seq (.seq (.reg [oq 99 (ld 2),
oq 100 (.nilchk (.t 99)),
oq 101 (.faddr 3 (.t 100)),
oq 102 (ld 101),
mt 103 15,
oq 104 (.iaddr (.slice 1) (.t 102) (.t 103)),
oq 105 (ld 104),
mt 106 1,
oq 107 (bi .neq (.t 105) (.t 106))])
(.cond (.t 107) (.seq (.reg [oq 9 (.mv (.c (.bool false)))])
.ret) .skip))
(.seq (.seq (.drw [oq 108 (.faddr 0 (.t 10)),
om 109 1 (ld 108),
om 110 3 (bi .eql (.t 109) (ci 1)),
om 111 7 (.mv (.t 110)),
og 112 111 true 15 (.faddr 4 (.t 10)),
og 113 111 true 31 (ld 112),
og 114 111 true 15 (.mv (.t 13)),
og 115 111 true 127 (.iaddr (.slice 1) (.t 113) (.t 114)),
og 116 111 true 255 (ld 115),
og 117 111 true 15 (.faddr 4 (.t 11)),
og 118 111 true 527 (ld 117),
og 119 111 true 15 (ld 2),
og 120 111 true 2063 (.nilchk (.t 119)),
og 121 111 true 6159 (.faddr 4 (.t 120)),
og 122 111 true 14351 (ld 121),
og 123 111 true 15 (.mv (.t 15)),
og 124 111 true 63503 (.iaddr (.slice 1) (.t 122) (.t 123)),
og 125 111 true 129039 (ld 124),
og 126 111 true 261647 (.iaddr (.slice 1) (.t 118) (.t 125)),
og 127 111 true 523791 (ld 126),
og 128 111 true 1048575 (bi .neq (.t 116) (.t 127)),
om 129 2097151 (.pick (.t 111) (.t 128) (.c (.bool false)))])
(.cond (.t 129) (.seq (.reg [oq 9 (.mv (.c (.bool false)))])
.ret) .skip))
(.seq (.seq (.drw [mt 130 12,
om 131 1 (.mv (.t 130)),
og 132 131 true 3 (.faddr 1 (.t 3)),
og 133 131 true 7 (ld 132),
og 134 131 true 3 (.faddr 2 (.t 10)),
og 135 131 true 19 (ld 134),
og 136 131 true 63 (.iaddr (.slice 1) (.t 133) (.t 135)),
og 137 131 true 127 (ld 136),
og 138 131 true 3 (.mv (.t 13)),
og 139 131 true 3 (ld 2),
og 140 131 true 515 (.nilchk (.t 139)),
og 141 131 true 1539 (.faddr 4 (.t 140)),
og 142 131 true 3587 (ld 141),
og 143 131 true 3 (.mv (.t 15)),
og 144 131 true 15875 (.iaddr (.slice 1) (.t 142) (.t 143)),
og 145 131 true 32259 (ld 144),
⟨(some 146),(.x (.call (.c (.fn 157 [] [])) [(.t 137),(.t 138),(.t 145)])),(some (131,true)),65535⟩,
og 147 131 true 131071 (.un .not (.t 146)),
om 148 262143 (.pick (.t 131) (.t 147) (.c (.bool false)))])
(.cond (.t 148) (.seq (.reg [oq 9 (.mv (.c (.bool false)))])
.ret) .skip))
(.seq (.reg [oq 149 (ld 6),
mt 150 14,
mt 151 15,
⟨(some 152),(.x (.call (.t 149) [(.t 150),(.t 151)])),none,0⟩,
oq 153 (.un .not (.t 152))])
(.cond (.t 153) (.seq (.reg [oq 9 (.mv (.c (.bool false)))])
.ret) .skip))))))))
(.reg [oq 154 (bi .add (.t 90) (ci 1)),
mt 90 154])))))))
(.seq (.reg [oq 9 (.mv (.c (.bool true)))])
.ret)))))))⟩
theorem row156 : Row Go.Proofs.Try.prog (156, a156) := ⟨Go.Proofs.Try.f156, Go.Proofs.Try.func156, by kernel_rfl⟩
noncomputable def a157 : AFn :=
⟨22,[(.t 6)],(.seq (.reg [oq 6 (.mv (.c (.bool false)))])
(.seq (.seq (.reg [mt 7 0,
mt 8 1,
oq 9 (.iaddr (.slice 1) (.t 7) (.t 8)),
oq 10 (ld 9),
oq 11 (bi .lss (.t 10) (ci 0))])
(.cond (.t 11) (.reg [mt 12 0,
mt 13 1,
mt 14 2,
oq 15 (.iaddr (.slice 1) (.t 12) (.t 13)),
⟨none,(.x (.st 1 (.t 15) (.t 14))),none,0⟩]) .skip))
(.seq (.reg [mt 16 0,
mt 17 1,
oq 18 (.iaddr (.slice 1) (.t 16) (.t 17)),
oq 19 (ld 18),
mt 20 2,
oq 21 (bi .eql (.t 19) (.t 20)),
mt 6 21])
.ret)))⟩
theorem row157 : Row Go.Proofs.Try.prog (157, a157) := ⟨Go.Proofs.Try.f157, Go.Proofs.Try.func157, by kernel_rfl⟩
noncomputable def a158 : AFn :=
⟨21,[(.t 4),(.t 5)],(.seq (.reg [⟨(some 2),(.a (.box 28 (.t 0))),none,0⟩,
oq 4 (.mv (.c .nilsl)),
oq 5 (.mv (ci 0))])
(.seq (.reg [oq 10 (.ld true 3 (.t 2)),
oc 11 131 [(.t 10)] 0,
mt 9 11,
oq 12 (.extract (.t 9) 0),
oq 13 (.extract (.t 9) 1),
mt 6 12,
mt 7 13])
(.seq (.seq (.reg [mt 14 7,
oq 15 (bi .neq (.t 14) (ci 0))])
(.cond (.t 15) (.seq (.reg [oq 8 (.mv (.c .nilsl))])
(.seq (.reg [mt 16 8,
mt 17 7,
mt 4 16,
mt 5 17])
.ret)) .skip))
(.seq (.reg [mt 18 1,
mt 19 6,
⟨(some 20),(.x (.call (.t 18) [(.t 19)])),none,0⟩,
mt 4 20,
oq 5 (.mv (ci 0))])
.ret))))⟩
theorem row158 : Row Go.Proofs.Try.prog (158, a158) := ⟨Go.Proofs.Try.f158, Go.Proofs.Try.func158, by kernel_rfl⟩
noncomputable def a159 : AFn :=
⟨7,[(.t 2)],(.seq (.reg [oq 2 (.mv (.c .nilsl))])
(.seq (.reg [mt 3 0,
oq 4 (.nilchk (.t 3)),
oq 5 (.faddr 3 (.t 4)),
oq 6 (ld 5),
mt 2 6])
.ret))⟩
theorem row159 : Row Go.Proofs.Try.prog (159, a159) := ⟨Go.Proofs.Try.f159, Go.Proofs.Try.func159, by kernel_rfl⟩
noncomputable def a162 : AFn :=
⟨22,[(.t 4)],(.seq (.reg [⟨(some 3),(.a (.box 64 (.t 1))),none,0⟩,
oq 4 (.mv (ci 0))])
(.seq (.reg [oq 6 (.build [.nilfn,.nilfn,.nilfn,.nilfn] [(1,1,(.c (.fn 173 [] []))),(2,1,(.c (.fn 174 [] []))),(3,1,(.c (.fn 175 [] [])))]),
⟨(some 5),(.a (.alloc 243 [.nilfn,.nilfn,.nilfn,.nilfn])),none,0⟩,
⟨none,(.x (.st 4 (.t 5) (.t 6))),none,0⟩])
(.seq (.seq (.reg [oq 7 (.faddr 0 (.t 3)),
oq 8 (ld 7),
oq 9 (bi .lss (.t 8) (ci 1)),
mt 10 9,
og 11 10 false 0 (.faddr 0 (.t 3)),
og 12 10 false 0 (ld 11),
og 13 10 false 0 (bi .gtr (.t 12) (ci 3)),
oq 14 (.pick (.t 10) (.c (.bool true)) (.t 13))])
(.cond (.t 14) (.seq (.reg [oq 4 (.mv (ci 3))])
.ret) .skip))
(.seq (.drw [oq 15 (.faddr 0 (.t 3)),
om 16 1 (ld 15),
om 17 3 (.iaddr (.arr 4 1) (.t 5) (.t 16)),
om 18 7 (ld 17),
mt 19 0,
oq 20 (.ld true 6 (.t 3)),
⟨(some 21),(.x (.call (.t 18) [(.t 19),(.t 20)])),none,63⟩,
om 4 127 (.mv (.t 21))])
.ret))))⟩
theorem row162 : Row Go.Proofs.Try.prog (162, a162) := ⟨Go.Proofs.Try.f162, Go.Proofs.Try.func162, by kernel_rfl⟩
noncomputable def a163 : AFn :=
⟨92,[(.t 8),(.t 9)],(.seq (.reg [oq 8 (.mv (.c .nilsl)),
oq 9 (.mv (.c (.bool false)))])
(.seq (.seq (.reg [mt 15 3,
oq 16 (.lenSl (.t 15)),
oq 17 (bi .eql (.t 16) (ci 0))])
(.cond (.t 17) (.seq (.reg [oq 8 (.mv (.c .nilsl)),
oq 9 (.mv (.c (.bool false)))])
.ret) .skip))
(.seq (.reg [mt 18 0,
oq 19 (.nilchk (.t 18)),
oq 20 (.faddr 0 (.t 19)),
oq 21 (.faddr 1 (.t 20)),
oq 22 (ld 21),
oq 23 (.lenSl (.t 22)),
mt 24 3,
oq 25 (.lenSl (.t 24)),
oq 26 (bi .sub (.t 23) (.t 25)),
mt 10 26])
(.seq (.drw [mt 27 0,
om 28 1 (.nilchk (.t 27)),
om 29 3 (.faddr 3 (.t 28)),
om 30 7 (ld 29),
mt 31 10,
mt 32 0,
om 33 32 (.nilchk (.t 32)),
om 34 96 (.faddr 4 (.t 33)),
om 35 224 (ld 34),
mt 36 10,
mt 37 1,
mt 38 2,
om 39 1535 (.iaddr (.slice 1) (.t 30) (.t 31)),
⟨none,(.x (.st 1 (.t 39) (.t 37))),none,5631⟩,
om 40 16383 (.iaddr (.slice 1) (.t 35) (.t 36)),
⟨none,(.x (.st 1 (.t 40) (.t 38))),none,32767⟩])
(.seq (.reg [mt 41 3,
oq 42 (.slc (.slice 6) (.t 41) (some (ci 1)) none none),
mt 11 42,
oq 12 (.mv (.c (.bool true)))])
(.seq (.seq (.reg [mt 43 3,
oq 44 (.iaddr (.slice 6) (.t 43) (ci 0)),
oq 45 (.faddr 3 (.t 44)),
oq 46 (ld 45),
oq 47 (.lenSl (.t 46)),
oq 48 (.mv (ci 0))])
(.block 0 (.loop (.seq (.reg [oq 49 (bi .lss (.t 48) (.t 47))])
(.seq (.cond (.t 49) .skip (.exit 0))
(.seq (.block 1 (.seq (.reg [oq 50 (.iaddr (.slice 1) (.t 46) (.t 48)),
oq 51 (ld 50),
mt 14 51])
(.seq (.seq (.reg [mt 52 14,
mt 53 0,
oq 54 (.nilchk (.t 53)),
oq 55 (.faddr 0 (.t 54)),
oq 56 (.faddr 1 (.t 55)),
oq 57 (ld 56),
oq 58 (.lenSl (.t 57)),
mt 59 11,
oq 60 (.lenSl (.t 59)),
oq 61 (bi .sub (.t 58) (.t 60)),
oq 62 (bi .neq (.t 52) (.t 61))])
(.cond (.t 62) (.seq (.reg [oq 8 (.mv (.c .nilsl)),
oq 9 (.mv (.c (.bool false)))])
.ret) .skip))
(.seq (.reg [mt 64 0,
mt 65 10,
mt 66 2,
oq 67 (bi .add (.t 66) (ci 1)),
mt 68 11,
oc 69 163 [(.t 64),(.t 65),(.t 67),(.t 68)] 0,
mt 63 69,
oq 70 (.extract (.t 63) 0),
oq 71 (.extract (.t 63) 1),
mt 11 70,
mt 12 71])
(.seq (.reg [mt 72 12,
oq 73 (.un .not (.t 72))])
(.cond (.t 73) (.seq (.reg [oq 8 (.mv (.c .nilsl)),
oq 9 (.mv (.c (.bool false)))])
.ret) .skip))))))
(.reg [oq 74 (bi .add (.t 48) (ci 1)),
mt 48 74])))))))
(.seq (.drw [mt 75 0,
om 76 1 (.nilchk (.t 75)),
om 77 3 (.faddr 5 (.t 76)),
om 78 7 (ld 77),
mt 79 10,
mt 80 0,
om 81 32 (.nilchk (.t 80)),
om 82 96 (.faddr 0 (.t 81)),
om 83 224 (.faddr 1 (.t 82)),
om 84 480 (ld 83),
om 85 992 (.lenSl (.t 84)),
mt 86 11,
om 87 2048 (.lenSl (.t 86)),
om 88 8160 (bi .sub (.t 85) (.t 87)),
om 89 16352 (bi .sub (.t 88) (ci 1)),
om 90 32767 (.iaddr (.slice 1) (.t 78) (.t 79)),
⟨none,(.x (.st 1 (.t 90) (.t 89))),none,65535⟩])
(.seq (.reg [mt 91 11,
mt 8 91,
oq 9 (.mv (.c (.bool true)))])
.ret))))))))⟩
theorem row163 : Row Go.Proofs.Try.prog (163, a163) := ⟨Go.Proofs.Try.f163, Go.Proofs.Try.func163, by kernel_rfl⟩
end Go.Ev.Gl
