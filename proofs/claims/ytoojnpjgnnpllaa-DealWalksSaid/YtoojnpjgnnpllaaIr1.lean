/- Functions of the program as data of the evaluator, written by program; each is shown to be the compiler's result on the loaded function. -/
import Derived.Test.YtoojnpjgnnpllaaProg
import Derived.Test.YtoojnpjgnnpllaaEv8
import Derived.KernelRfl
namespace Go.Ev.Gl
set_option maxRecDepth 100000
noncomputable def a79 : AFn :=
⟨44,[(.t 4)],(.seq (.reg [⟨(some 2),(.a (.box 28 (.t 0))),none,0⟩,
⟨(some 3),(.a (.box 55 (.t 1))),none,0⟩,
oq 4 (.mv (ci 0))])
(.seq (.seq (.reg [oq 9 (.ld true 3 (.t 2)),
oc 10 87 [(.t 9)] 0,
mt 5 10])
(.seq (.reg [mt 11 5,
oq 12 (bi .neq (.t 11) (ci 0))])
(.cond (.t 12) (.seq (.reg [mt 13 5,
mt 4 13])
.ret) .skip)))
(.seq (.seq (.reg [oq 14 (.ld true 2 (.t 3)),
oc 15 122 [(.t 14)] 0,
mt 6 15])
(.seq (.reg [mt 16 6,
oq 17 (bi .neq (.t 16) (ci 0))])
(.cond (.t 17) (.seq (.reg [mt 18 6,
mt 4 18])
.ret) .skip)))
(.seq (.seq (.reg [oq 19 (.faddr 1 (.t 3)),
oq 20 (ld 19),
oq 21 (.lenSl (.t 20)),
oq 22 (.faddr 2 (.t 2)),
oq 23 (ld 22),
oq 24 (.lenSl (.t 23)),
oq 25 (bi .neq (.t 21) (.t 24))])
(.cond (.t 25) (.seq (.reg [oq 4 (.mv (ci 10))])
.ret) .skip))
(.seq (.seq (.reg [oq 26 (.faddr 1 (.t 3)),
oq 27 (ld 26),
oq 28 (.lenSl (.t 27)),
oq 29 (.mv (ci 0))])
(.block 0 (.loop (.seq (.reg [oq 30 (bi .lss (.t 29) (.t 28))])
(.seq (.cond (.t 30) .skip (.exit 0))
(.seq (.block 1 (.seq (.reg [mt 31 29,
oq 32 (.iaddr (.slice 1) (.t 27) (.t 29)),
oq 33 (ld 32),
mt 7 31,
mt 8 33])
(.seq (.reg [mt 34 8,
oq 35 (.lenSl (.t 34)),
oq 36 (.faddr 2 (.t 2)),
oq 37 (ld 36),
mt 38 7,
oq 39 (.iaddr (.slice 2) (.t 37) (.t 38)),
oq 40 (.faddr 1 (.t 39)),
oq 41 (ld 40),
oq 42 (bi .neq (.t 35) (.t 41))])
(.cond (.t 42) (.seq (.reg [oq 4 (.mv (ci 10))])
.ret) .skip))))
(.reg [oq 43 (bi .add (.t 29) (ci 1)),
mt 29 43])))))))
(.seq (.reg [oq 4 (.mv (ci 0))])
.ret))))))⟩
theorem row79 : Row Go.Proofs.Try.prog (79, a79) := ⟨Go.Proofs.Try.f79, Go.Proofs.Try.func79, by kernel_rfl⟩
noncomputable def a80 : AFn :=
⟨83,[(.t 4),(.t 5)],(.seq (.reg [⟨(some 2),(.a (.box 28 (.t 0))),none,0⟩,
oq 4 (.mv (ci 0)),
oq 5 (.mv (ci 0))])
(.seq (.reg [oq 14 (.faddr 1 (.t 2)),
oq 15 (ld 14),
oq 16 (.lenSl (.t 15)),
⟨(some 17),(.a (.mkSlice 3 1 8 [(.int .i64 (.ofNat 0))] (.t 16) (.t 16))),none,0⟩,
mt 6 17])
(.seq (.reg [mt 18 6,
oq 19 (.iaddr (.slice 1) (.t 18) (ci 0)),
⟨none,(.x (.st 1 (.t 19) (ci 1))),none,0⟩])
(.seq (.reg [oq 7 (.mv (ci 1))])
(.seq (.seq (.reg [oq 20 (.faddr 1 (.t 2)),
oq 21 (ld 20),
oq 22 (.lenSl (.t 21)),
oq 23 (.mv (ci 0))])
(.block 0 (.loop (.seq (.reg [oq 24 (bi .lss (.t 23) (.t 22))])
(.seq (.cond (.t 24) .skip (.exit 0))
(.seq (.block 1 (.seq (.reg [mt 25 23,
oq 26 (.iaddr (.slice 6) (.t 21) (.t 23)),
oq 27 (.ld true 6 (.t 26)),
⟨(some 9),(.a (.alloc 64 [(.int .i64 (.ofNat 0)),(.int .i64 (.ofNat 0)),(.int .i64 (.ofNat 0)),.nilsl,.nilsl,.nilsl])),none,0⟩,
mt 8 25,
⟨none,(.x (.st 6 (.t 9) (.t 27))),none,0⟩])
(.seq (.seq (.reg [oq 28 (.faddr 0 (.t 9)),
oq 29 (ld 28),
oq 30 (bi .eql (.t 29) (ci 3))])
(.cond (.t 30) (.seq (.reg [mt 31 7,
mt 32 7,
mt 33 6,
mt 34 8,
oq 35 (.iaddr (.slice 1) (.t 33) (.t 34)),
oq 36 (ld 35),
oc 37 123 [(.t 32),(.t 36)] 0,
oq 38 (bi .quo (.t 31) (.t 37)),
mt 10 38])
(.seq (.seq (.reg [mt 39 10,
mt 40 6,
mt 41 8,
oq 42 (.iaddr (.slice 1) (.t 40) (.t 41)),
oq 43 (ld 42),
oq 44 (bi .quo (ci 1000000000000000) (.t 43)),
oq 45 (bi .gtr (.t 39) (.t 44))])
(.cond (.t 45) (.seq (.reg [oq 4 (.mv (ci 0)),
oq 5 (.mv (ci 5))])
.ret) .skip))
(.seq (.reg [mt 46 10,
mt 47 6,
mt 48 8,
oq 49 (.iaddr (.slice 1) (.t 47) (.t 48)),
oq 50 (ld 49),
oq 51 (bi .mul (.t 46) (.t 50)),
mt 7 51])
(.exit 1)))) .skip))
(.seq (.drw [oq 52 (.ld true 6 (.t 9)),
mt 53 1,
oc 54 124 [(.t 52),(.t 53)] 3,
oq 55 (.ld true 6 (.t 9)),
⟨(some 56),(.x (.inv [(119,204,none),(139,207,none),(191,134,none)] (.t 54) [(.t 55)])),none,15⟩,
om 11 31 (.mv (.t 56))])
(.seq (.seq (.reg [mt 57 11,
mt 58 6,
mt 59 8,
oq 60 (.iaddr (.slice 1) (.t 58) (.t 59)),
oq 61 (ld 60),
oq 62 (bi .quo (ci 1000000000000000) (.t 61)),
oq 63 (bi .gtr (.t 57) (.t 62))])
(.cond (.t 63) (.seq (.reg [oq 4 (.mv (ci 0)),
oq 5 (.mv (ci 5))])
.ret) .skip))
(.seq (.reg [oq 64 (.faddr 3 (.t 9)),
oq 65 (ld 64),
oq 66 (.lenSl (.t 65)),
oq 67 (.mv (ci 0))])
(.block 2 (.loop (.seq (.reg [oq 68 (bi .lss (.t 67) (.t 66))])
(.seq (.cond (.t 68) .skip (.exit 2))
(.seq (.block 3 (.seq (.reg [oq 69 (.iaddr (.slice 1) (.t 65) (.t 67)),
oq 70 (ld 69),
mt 13 70])
(.reg [mt 71 6,
mt 72 13,
mt 73 6,
mt 74 8,
oq 75 (.iaddr (.slice 1) (.t 73) (.t 74)),
oq 76 (ld 75),
mt 77 11,
oq 78 (bi .mul (.t 76) (.t 77)),
oq 79 (.iaddr (.slice 1) (.t 71) (.t 72)),
⟨none,(.x (.st 1 (.t 79) (.t 78))),none,0⟩])))
(.reg [oq 80 (bi .add (.t 67) (ci 1)),
mt 67 80]))))))))))))
(.reg [oq 81 (bi .add (.t 23) (ci 1)),
mt 23 81])))))))
(.seq (.reg [mt 82 7,
mt 4 82,
oq 5 (.mv (ci 0))])
.ret))))))⟩
theorem row80 : Row Go.Proofs.Try.prog (80, a80) := ⟨Go.Proofs.Try.f80, Go.Proofs.Try.func80, by kernel_rfl⟩
noncomputable def a81 : AFn :=
⟨45,[(.t 4)],(.seq (.reg [⟨(some 2),(.a (.box 28 (.t 0))),none,0⟩,
⟨(some 3),(.a (.box 55 (.t 1))),none,0⟩,
oq 4 (.mv (ci 0))])
(.seq (.seq (.reg [oq 8 (.ld true 3 (.t 2)),
oc 9 53 [(.t 8)] 0,
mt 5 9])
(.seq (.reg [mt 10 5,
oq 11 (bi .neq (.t 10) (ci 0))])
(.cond (.t 11) (.seq (.reg [mt 12 5,
mt 4 12])
.ret) .skip)))
(.seq (.seq (.reg [oq 13 (.ld true 2 (.t 3)),
oc 14 125 [(.t 13)] 0,
mt 6 14])
(.seq (.reg [mt 15 6,
oq 16 (bi .neq (.t 15) (ci 0))])
(.cond (.t 16) (.seq (.reg [mt 17 6,
mt 4 17])
.ret) .skip)))
(.seq (.seq (.reg [oq 18 (.faddr 1 (.t 3)),
oq 19 (ld 18),
oq 20 (.lenSl (.t 19)),
oq 21 (.faddr 2 (.t 2)),
oq 22 (ld 21),
oq 23 (.lenSl (.t 22)),
oq 24 (bi .neq (.t 20) (.t 23))])
(.cond (.t 24) (.seq (.reg [oq 4 (.mv (ci 10))])
.ret) .skip))
(.seq (.seq (.reg [oq 7 (.mv (ci 0))])
(.block 0 (.loop (.seq (.seq (.reg [mt 25 7,
oq 26 (.faddr 1 (.t 3)),
oq 27 (ld 26),
oq 28 (.lenSl (.t 27)),
oq 29 (bi .lss (.t 25) (.t 28))])
(.cond (.t 29) .skip (.exit 0)))
(.seq (.block 1 (.seq (.drw [oq 32 (.faddr 1 (.t 3)),
om 33 1 (ld 32),
mt 34 7,
om 35 7 (.iaddr (.slice 1) (.t 33) (.t 34)),
om 36 15 (ld 35),
om 37 31 (.lenSl (.t 36)),
oq 38 (.faddr 2 (.t 2)),
om 39 64 (ld 38),
mt 40 7,
om 41 448 (.iaddr (.slice 2) (.t 39) (.t 40)),
om 42 960 (.faddr 1 (.t 41)),
om 43 1984 (ld 42),
om 44 4095 (bi .neq (.t 37) (.t 43))])
(.cond (.t 44) (.seq (.reg [oq 4 (.mv (ci 10))])
.ret) .skip)))
(.reg [mt 30 7,
oq 31 (bi .add (.t 30) (ci 1)),
mt 7 31]))))))
(.seq (.reg [oq 4 (.mv (ci 0))])
.ret))))))⟩
theorem row81 : Row Go.Proofs.Try.prog (81, a81) := ⟨Go.Proofs.Try.f81, Go.Proofs.Try.func81, by kernel_rfl⟩
noncomputable def a82 : AFn :=
⟨18,[(.t 2)],(.seq (.reg [oq 2 (.mv (ci 0))])
(.seq (.reg [oq 3 (.mv (ci 0))])
(.seq (.seq (.reg [oq 4 (.mv (ci 0))])
(.block 0 (.loop (.seq (.seq (.reg [mt 5 4,
mt 6 0,
oq 7 (.lenSl (.t 6)),
oq 8 (bi .lss (.t 5) (.t 7))])
(.cond (.t 8) .skip (.exit 0)))
(.seq (.block 1 (.reg [mt 11 3,
mt 12 0,
mt 13 4,
oq 14 (.iaddr (.slice 1) (.t 12) (.t 13)),
oq 15 (ld 14),
oq 16 (bi .add (.t 11) (.t 15)),
mt 3 16]))
(.reg [mt 9 4,
oq 10 (bi .add (.t 9) (ci 1)),
mt 4 10]))))))
(.seq (.reg [mt 17 3,
mt 2 17])
.ret))))⟩
theorem row82 : Row Go.Proofs.Try.prog (82, a82) := ⟨Go.Proofs.Try.f82, Go.Proofs.Try.func82, by kernel_rfl⟩
noncomputable def a83 : AFn :=
⟨18,[(.t 4),(.t 5)],(.seq (.reg [oq 4 (.mv (ci 0)),
oq 5 (.mv (.c (.bool false)))])
(.seq (.reg [mt 6 0,
mt 7 0,
mt 8 1,
oc 9 126 [(.t 7),(.t 8)] 0,
oq 10 (bi .quo (.t 6) (.t 9)),
mt 0 10])
(.seq (.seq (.reg [mt 11 0,
mt 12 1,
oq 13 (bi .quo (ci 1000000000000000) (.t 12)),
oq 14 (bi .gtr (.t 11) (.t 13))])
(.cond (.t 14) (.seq (.reg [oq 4 (.mv (ci 0)),
oq 5 (.mv (.c (.bool false)))])
.ret) .skip))
(.seq (.reg [mt 15 0,
mt 16 1,
oq 17 (bi .mul (.t 15) (.t 16)),
mt 4 17,
oq 5 (.mv (.c (.bool true)))])
.ret))))⟩
theorem row83 : Row Go.Proofs.Try.prog (83, a83) := ⟨Go.Proofs.Try.f83, Go.Proofs.Try.func83, by kernel_rfl⟩
noncomputable def a84 : AFn :=
⟨19,[(.t 6)],(.seq (.reg [⟨(some 3),(.a (.box 28 (.t 0))),none,0⟩,
oq 6 (.mv (.c .nilsl))])
(.seq (.reg [⟨(some 7),(.a (.alloc 22 [.nilsl])),none,0⟩])
(.seq (.seq (.reg [oq 9 (.ld true 3 (.t 3)),
mt 10 1,
mt 11 2,
oc 12 127 [(.t 9),(.t 10),(.t 11)] 0])
(.block 0 (.rng (.t 12) [13] (.reg [mt 8 13]) (.block 1 (.reg [oq 14 (ld 7),
mt 15 8,
⟨(some 16),(.a (.bslice 3 1 1 [(.int .i64 (.ofNat 0))] [(0,(.t 15))])),none,0⟩,
⟨(some 17),(.x (.app 3 1 8 (.t 14) (.t 16))),none,0⟩,
⟨none,(.x (.st 1 (.t 7) (.t 17))),none,0⟩])))))
(.seq (.reg [oq 18 (ld 7),
mt 6 18])
.ret))))⟩
theorem row84 : Row Go.Proofs.Try.prog (84, a84) := ⟨Go.Proofs.Try.f84, Go.Proofs.Try.func84, by kernel_rfl⟩
noncomputable def a85 : AFn :=
⟨21,[(.t 4)],(.seq (.reg [oq 4 (.mv (ci 0))])
(.seq (.reg [oq 5 (.mv (ci 0))])
(.seq (.block 0 (.loop (.seq (.seq (.reg [mt 6 1,
mt 7 0,
mt 8 5,
oq 9 (.iaddr (.slice 1) (.t 7) (.t 8)),
oq 10 (ld 9),
oq 11 (bi .geq (.t 6) (.t 10))])
(.cond (.t 11) .skip (.exit 0)))
(.block 1 (.seq (.reg [mt 12 1,
mt 13 0,
mt 14 5,
oq 15 (.iaddr (.slice 1) (.t 13) (.t 14)),
oq 16 (ld 15),
oq 17 (bi .sub (.t 12) (.t 16)),
mt 1 17])
(.reg [mt 18 5,
oq 19 (bi .add (.t 18) (ci 1)),
mt 5 19]))))))
(.seq (.reg [mt 20 5,
mt 4 20])
.ret))))⟩
theorem row85 : Row Go.Proofs.Try.prog (85, a85) := ⟨Go.Proofs.Try.f85, Go.Proofs.Try.func85, by kernel_rfl⟩
noncomputable def a87 : AFn :=
⟨11,[(.t 2)],(.seq (.reg [⟨(some 1),(.a (.box 28 (.t 0))),none,0⟩,
oq 2 (.mv (ci 0))])
(.seq (.reg [oq 6 (.ld true 3 (.t 1)),
oc 7 131 [(.t 6)] 0,
mt 5 7,
oq 8 (.extract (.t 5) 0),
oq 9 (.extract (.t 5) 1),
mt 3 8,
mt 4 9])
(.seq (.reg [mt 10 4,
mt 2 10])
.ret)))⟩
theorem row87 : Row Go.Proofs.Try.prog (87, a87) := ⟨Go.Proofs.Try.f87, Go.Proofs.Try.func87, by kernel_rfl⟩
noncomputable def a102 : AFn :=
⟨165,[(.t 4)],(.seq (.reg [⟨(some 2),(.a (.box 28 (.t 0))),none,0⟩,
⟨(some 3),(.a (.box 64 (.t 1))),none,0⟩,
oq 4 (.mv (ci 0))])
(.seq (.seq (.reg [oq 7 (.faddr 0 (.t 3)),
oq 8 (ld 7)])
(.block 0 (.seq (.reg [oq 10 (bi .eql (.t 8) (ci 1)),
mt 9 10])
(.cond (.t 9) (.seq (.seq (.reg [oq 11 (.faddr 1 (.t 3)),
oq 12 (ld 11),
oq 13 (bi .neq (.t 12) (ci 0)),
mt 14 13,
og 15 14 false 0 (.faddr 2 (.t 3)),
og 16 14 false 0 (ld 15),
og 17 14 false 0 (bi .neq (.t 16) (ci 0)),
oq 18 (.pick (.t 14) (.c (.bool true)) (.t 17)),
mt 19 18,
og 20 19 false 0 (.faddr 5 (.t 3)),
og 21 19 false 0 (ld 20),
og 22 19 false 0 (.lenSl (.t 21)),
og 23 19 false 0 (bi .gtr (.t 22) (ci 0)),
oq 24 (.pick (.t 19) (.c (.bool true)) (.t 23)),
mt 25 24,
og 26 25 false 0 (.faddr 3 (.t 3)),
og 27 25 false 0 (ld 26),
og 28 25 false 0 (.lenSl (.t 27)),
og 29 25 false 0 (bi .lss (.t 28) (ci 1)),
oq 30 (.pick (.t 25) (.c (.bool true)) (.t 29)),
mt 31 30,
og 32 31 false 0 (.faddr 3 (.t 3)),
og 33 31 false 0 (ld 32),
og 34 31 false 0 (.lenSl (.t 33)),
og 35 31 false 0 (bi .gtr (.t 34) (ci 60)),
oq 36 (.pick (.t 31) (.c (.bool true)) (.t 35)),
mt 37 36,
og 38 37 false 0 (.faddr 4 (.t 3)),
og 39 37 false 0 (ld 38),
og 40 37 false 0 (.lenSl (.t 39)),
og 41 37 false 0 (.faddr 3 (.t 3)),
og 42 37 false 0 (ld 41),
og 43 37 false 0 (.lenSl (.t 42)),
og 44 37 false 0 (bi .neq (.t 40) (.t 43)),
oq 45 (.pick (.t 37) (.c (.bool true)) (.t 44))])
(.cond (.t 45) (.seq (.reg [oq 4 (.mv (ci 3))])
.ret) .skip))
(.seq (.reg [oq 5 (.mv (ci 0))])
(.block 1 (.loop (.seq (.seq (.reg [mt 46 5,
oq 47 (.faddr 4 (.t 3)),
oq 48 (ld 47),
oq 49 (.lenSl (.t 48)),
oq 50 (bi .lss (.t 46) (.t 49))])
(.cond (.t 50) .skip (.exit 1)))
(.seq (.block 2 (.seq (.reg [oq 53 (.faddr 4 (.t 3)),
oq 54 (ld 53),
mt 55 5,
oq 56 (.iaddr (.slice 1) (.t 54) (.t 55)),
oq 57 (ld 56),
oq 58 (bi .lss (.t 57) (ci 1)),
mt 59 58,
og 60 59 false 0 (.faddr 4 (.t 3)),
og 61 59 false 0 (ld 60),
og 62 59 false 0 (.mv (.t 5)),
og 63 59 false 0 (.iaddr (.slice 1) (.t 61) (.t 62)),
og 64 59 false 0 (ld 63),
og 65 59 false 0 (bi .gtr (.t 64) (ci 1000)),
oq 66 (.pick (.t 59) (.c (.bool true)) (.t 65))])
(.cond (.t 66) (.seq (.reg [oq 4 (.mv (ci 2))])
.ret) .skip)))
(.reg [mt 51 5,
oq 52 (bi .add (.t 51) (ci 1)),
mt 5 52]))))))) (.seq (.reg [oq 68 (bi .eql (.t 8) (ci 2)),
mt 67 68])
(.cond (.t 67) (.seq (.seq (.reg [oq 69 (.faddr 5 (.t 3)),
oq 70 (ld 69),
oq 71 (.lenSl (.t 70)),
oq 72 (bi .gtr (.t 71) (ci 0)),
mt 73 72,
og 74 73 false 0 (.faddr 4 (.t 3)),
og 75 73 false 0 (ld 74),
og 76 73 false 0 (.lenSl (.t 75)),
og 77 73 false 0 (bi .gtr (.t 76) (ci 0)),
oq 78 (.pick (.t 73) (.c (.bool true)) (.t 77)),
mt 79 78,
og 80 79 false 0 (.faddr 3 (.t 3)),
og 81 79 false 0 (ld 80),
og 82 79 false 0 (.lenSl (.t 81)),
og 83 79 false 0 (bi .lss (.t 82) (ci 1)),
oq 84 (.pick (.t 79) (.c (.bool true)) (.t 83)),
mt 85 84,
og 86 85 false 0 (.faddr 3 (.t 3)),
og 87 85 false 0 (ld 86),
og 88 85 false 0 (.lenSl (.t 87)),
og 89 85 false 0 (bi .gtr (.t 88) (ci 10)),
oq 90 (.pick (.t 85) (.c (.bool true)) (.t 89))])
(.cond (.t 90) (.seq (.reg [oq 4 (.mv (ci 3))])
.ret) .skip))
(.seq (.reg [oq 91 (.faddr 1 (.t 3)),
oq 92 (ld 91),
oq 93 (bi .lss (.t 92) (ci 0)),
mt 94 93,
og 95 94 false 0 (.faddr 1 (.t 3)),
og 96 94 false 0 (ld 95),
og 97 94 false 0 (.faddr 0 (.t 2)),
og 98 94 false 0 (ld 97),
og 99 94 false 0 (bi .geq (.t 96) (.t 98)),
oq 100 (.pick (.t 94) (.c (.bool true)) (.t 99)),
mt 101 100,
og 102 101 false 0 (.faddr 2 (.t 3)),
og 103 101 false 0 (ld 102),
og 104 101 false 0 (bi .lss (.t 103) (ci 0)),
oq 105 (.pick (.t 101) (.c (.bool true)) (.t 104)),
mt 106 105,
og 107 106 false 0 (.faddr 2 (.t 3)),
og 108 106 false 0 (ld 107),
og 109 106 false 0 (.faddr 2 (.t 2)),
og 110 106 false 0 (ld 109),
og 111 106 false 0 (.lenSl (.t 110)),
og 112 106 false 0 (bi .geq (.t 108) (.t 111)),
oq 113 (.pick (.t 106) (.c (.bool true)) (.t 112))])
(.cond (.t 113) (.seq (.reg [oq 4 (.mv (ci 2))])
.ret) .skip))) (.seq (.reg [oq 115 (bi .eql (.t 8) (ci 3)),
mt 114 115])
(.cond (.t 114) (.seq (.seq (.reg [oq 116 (.faddr 1 (.t 3)),
oq 117 (ld 116),
oq 118 (bi .neq (.t 117) (ci 0)),
mt 119 118,
og 120 119 false 0 (.faddr 2 (.t 3)),
og 121 119 false 0 (ld 120),
og 122 119 false 0 (bi .neq (.t 121) (ci 0)),
oq 123 (.pick (.t 119) (.c (.bool true)) (.t 122)),
mt 124 123,
og 125 124 false 0 (.faddr 3 (.t 3)),
og 126 124 false 0 (ld 125),
og 127 124 false 0 (.lenSl (.t 126)),
og 128 124 false 0 (bi .gtr (.t 127) (ci 0)),
oq 129 (.pick (.t 124) (.c (.bool true)) (.t 128)),
mt 130 129,
og 131 130 false 0 (.faddr 4 (.t 3)),
og 132 130 false 0 (ld 131),
og 133 130 false 0 (.lenSl (.t 132)),
og 134 130 false 0 (bi .gtr (.t 133) (ci 0)),
oq 135 (.pick (.t 130) (.c (.bool true)) (.t 134)),
mt 136 135,
og 137 136 false 0 (.faddr 5 (.t 3)),
og 138 136 false 0 (ld 137),
og 139 136 false 0 (.lenSl (.t 138)),
og 140 136 false 0 (.faddr 0 (.t 2)),
og 141 136 false 0 (ld 140),
og 142 136 false 0 (bi .neq (.t 139) (.t 141)),
oq 143 (.pick (.t 136) (.c (.bool true)) (.t 142))])
(.cond (.t 143) (.seq (.reg [oq 4 (.mv (ci 3))])
.ret) .skip))
(.seq (.reg [oq 6 (.mv (ci 0))])
(.block 3 (.loop (.seq (.seq (.reg [mt 144 6,
oq 145 (.faddr 5 (.t 3)),
oq 146 (ld 145),
oq 147 (.lenSl (.t 146)),
oq 148 (bi .lss (.t 144) (.t 147))])
(.cond (.t 148) .skip (.exit 3)))
(.seq (.block 4 (.seq (.reg [oq 151 (.faddr 5 (.t 3)),
oq 152 (ld 151),
mt 153 6,
oq 154 (.iaddr (.slice 1) (.t 152) (.t 153)),
oq 155 (ld 154),
oq 156 (bi .lss (.t 155) (.c (.int .i64 (.negSucc 999999)))),
mt 157 156,
og 158 157 false 0 (.faddr 5 (.t 3)),
og 159 157 false 0 (ld 158),
og 160 157 false 0 (.mv (.t 6)),
og 161 157 false 0 (.iaddr (.slice 1) (.t 159) (.t 160)),
og 162 157 false 0 (ld 161),
og 163 157 false 0 (bi .gtr (.t 162) (ci 1000000)),
oq 164 (.pick (.t 157) (.c (.bool true)) (.t 163))])
(.cond (.t 164) (.seq (.reg [oq 4 (.mv (ci 2))])
.ret) .skip)))
(.reg [mt 149 6,
oq 150 (bi .add (.t 149) (ci 1)),
mt 6 150]))))))) (.seq (.reg [oq 4 (.mv (ci 3))])
.ret)))))))))
(.seq (.reg [oq 4 (.mv (ci 0))])
.ret)))⟩
theorem row102 : Row Go.Proofs.Try.prog (102, a102) := ⟨Go.Proofs.Try.f102, Go.Proofs.Try.func102, by kernel_rfl⟩
noncomputable def a103 : AFn :=
⟨56,[(.t 8)],(.seq (.reg [⟨(some 4),(.a (.box 28 (.t 0))),none,0⟩,
oq 8 (.mv (ci 0))])
(.seq (.seq (.reg [mt 11 1,
oq 12 (.faddr 1 (.t 4)),
oq 13 (ld 12),
oq 14 (.lenSl (.t 13)),
oq 15 (bi .geq (.t 11) (.t 14))])
(.cond (.t 15) (.seq (.reg [oq 8 (.mv (.c (.int .i64 (.negSucc 0))))])
.ret) .skip))
(.seq (.reg [mt 16 3,
mt 17 3,
oq 18 (.nilchk (.t 17)),
oq 19 (ld 18),
mt 20 2,
oq 21 (.minmax true [(.t 19),(.t 20)]),
oq 22 (.nilchk (.t 16)),
⟨none,(.x (.st 1 (.t 22) (.t 21))),none,0⟩])
(.seq (.reg [mt 23 1,
oq 24 (bi .add (.t 23) (ci 1)),
mt 9 24])
(.seq (.seq (.reg [oq 10 (.mv (ci 0))])
(.block 0 (.loop (.seq (.seq (.reg [mt 25 10,
oq 26 (.faddr 1 (.t 4)),
oq 27 (ld 26),
mt 28 1,
oq 29 (.iaddr (.slice 6) (.t 27) (.t 28)),
oq 30 (.faddr 3 (.t 29)),
oq 31 (ld 30),
oq 32 (.lenSl (.t 31)),
oq 33 (bi .lss (.t 25) (.t 32))])
(.cond (.t 33) .skip (.exit 0)))
(.seq (.block 1 (.seq (.seq (.reg [oq 36 (.faddr 1 (.t 4)),
oq 37 (ld 36),
mt 38 1,
oq 39 (.iaddr (.slice 6) (.t 37) (.t 38)),
oq 40 (.faddr 3 (.t 39)),
oq 41 (ld 40),
mt 42 10,
oq 43 (.iaddr (.slice 1) (.t 41) (.t 42)),
oq 44 (ld 43),
mt 45 9,
oq 46 (bi .neq (.t 44) (.t 45))])
(.cond (.t 46) (.seq (.reg [oq 8 (.mv (.c (.int .i64 (.negSucc 0))))])
.ret) .skip))
(.seq (.reg [oq 47 (.ld true 3 (.t 4)),
mt 48 9,
mt 49 2,
oq 50 (bi .add (.t 49) (ci 1)),
mt 51 3,
oc 52 103 [(.t 47),(.t 48),(.t 50),(.t 51)] 0,
mt 9 52])
(.seq (.reg [mt 53 9,
oq 54 (bi .lss (.t 53) (ci 0))])
(.cond (.t 54) (.seq (.reg [oq 8 (.mv (.c (.int .i64 (.negSucc 0))))])
.ret) .skip)))))
(.reg [mt 34 10,
oq 35 (bi .add (.t 34) (ci 1)),
mt 10 35]))))))
(.seq (.reg [mt 55 9,
mt 8 55])
.ret))))))⟩
theorem row103 : Row Go.Proofs.Try.prog (103, a103) := ⟨Go.Proofs.Try.f103, Go.Proofs.Try.func103, by kernel_rfl⟩
noncomputable def a104 : AFn :=
⟨38,[(.t 2)],(.seq (.reg [⟨(some 1),(.a (.box 28 (.t 0))),none,0⟩,
oq 2 (.mv (.c .nilsl))])
(.seq (.reg [oq 6 (.faddr 2 (.t 1)),
oq 7 (ld 6),
oq 8 (.lenSl (.t 7)),
⟨(some 9),(.a (.mkSlice 22 1 24 [.nilsl] (.t 8) (.t 8))),none,0⟩,
mt 3 9])
(.seq (.seq (.reg [oq 4 (.mv (ci 0))])
(.block 0 (.loop (.seq (.seq (.reg [mt 10 4,
oq 11 (.faddr 1 (.t 1)),
oq 12 (ld 11),
oq 13 (.lenSl (.t 12)),
oq 14 (bi .lss (.t 10) (.t 13))])
(.cond (.t 14) .skip (.exit 0)))
(.seq (.block 1 (.seq (.reg [oq 17 (.faddr 1 (.t 1)),
oq 18 (ld 17),
mt 19 4,
oq 20 (.iaddr (.slice 6) (.t 18) (.t 19)),
oq 21 (.ld true 6 (.t 20)),
⟨(some 5),(.a (.alloc 64 [(.int .i64 (.ofNat 0)),(.int .i64 (.ofNat 0)),(.int .i64 (.ofNat 0)),.nilsl,.nilsl,.nilsl])),none,0⟩,
⟨none,(.x (.st 6 (.t 5) (.t 21))),none,0⟩])
(.seq (.reg [oq 22 (.faddr 0 (.t 5)),
oq 23 (ld 22),
oq 24 (bi .eql (.t 23) (ci 2))])
(.cond (.t 24) (.drw [mt 25 3,
oq 26 (.faddr 2 (.t 5)),
om 27 2 (ld 26),
mt 28 3,
oq 29 (.faddr 2 (.t 5)),
om 30 16 (ld 29),
om 31 56 (.iaddr (.slice 1) (.t 28) (.t 30)),
om 32 120 (ld 31),
mt 33 4,
⟨(some 34),(.a (.bslice 3 1 1 [(.int .i64 (.ofNat 0))] [(0,(.t 33))])),none,256⟩,
⟨(some 35),(.x (.app 3 1 8 (.t 32) (.t 34))),none,1016⟩,
om 36 2047 (.iaddr (.slice 1) (.t 25) (.t 27)),
⟨none,(.x (.st 1 (.t 36) (.t 35))),none,4095⟩]) .skip))))
(.reg [mt 15 4,
oq 16 (bi .add (.t 15) (ci 1)),
mt 4 16]))))))
(.seq (.reg [mt 37 3,
mt 2 37])
.ret))))⟩
theorem row104 : Row Go.Proofs.Try.prog (104, a104) := ⟨Go.Proofs.Try.f104, Go.Proofs.Try.func104, by kernel_rfl⟩
end Go.Ev.Gl
