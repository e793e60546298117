/- Functions of the program as data of the evaluator, written by program; each is shown to be the compiler's result on the loaded function. -/
import Derived.Test.YtlnjemhkijkaoaaProg
import Derived.Test.YtlnjemhkijkaoaaEv8
import Derived.KernelRfl
namespace Go.Ev.Gl
set_option maxRecDepth 100000
noncomputable def a13 : AFn :=
⟨14,[],(.seq (.reg [mt 5 0,
oq 6 (.lenSl (.t 5)),
mt 4 6])
(.reg [mt 7 0,
mt 8 4,
mt 9 4,
oq 10 (.conv (.int .u64) (.t 9)),
oc 11 22 [(.t 10)] 0,
mt 12 1,
oc 13 21 [(.t 7),(ci 0),(.t 8),(.t 11),(.t 12)] 0]))⟩
theorem row13 : Row Go.Proofs.Try.prog (13, a13) := ⟨Go.Proofs.Try.f13, Go.Proofs.Try.func13, by kernel_rfl⟩
noncomputable def a14 : AFn :=
⟨13,[(.t 4)],(.seq (.reg [⟨(some 2),(.a (.box 40 (.t 0))),none,0⟩,
⟨(some 3),(.a (.box 40 (.t 1))),none,0⟩,
oq 4 (.mv (ci 0))])
(.seq (.drw [oq 5 (.ld true 3 (.t 2)),
oq 6 (.ld true 3 (.t 3)),
oc 7 16 [(.t 5),(.t 6)] 3,
oq 8 (.ld true 3 (.t 2)),
oq 9 (.ld true 3 (.t 3)),
oc 10 17 [(.t 8),(.t 9)] 31,
⟨(some 11),(.a (.bslice 3 1 2 [(.int .i64 (.ofNat 0))] [(0,(.t 7)),(1,(.t 10))])),none,63⟩,
oc 12 15 [(.t 11)] 127,
om 4 255 (.mv (.t 12))])
.ret))⟩
theorem row14 : Row Go.Proofs.Try.prog (14, a14) := ⟨Go.Proofs.Try.f14, Go.Proofs.Try.func14, by kernel_rfl⟩
noncomputable def a15 : AFn :=
⟨18,[(.t 2)],(.seq (.reg [oq 2 (.mv (ci 0))])
(.seq (.reg [oq 3 (.mv (ci 0))])
(.seq (.seq (.reg [mt 6 0,
oq 7 (.lenSl (.t 6)),
oq 8 (.mv (ci 0))])
(.block 0 (.loop (.seq (.reg [oq 9 (bi .lss (.t 8) (.t 7))])
(.seq (.cond (.t 9) .skip (.exit 0))
(.seq (.block 1 (.seq (.reg [oq 10 (.iaddr (.slice 1) (.t 6) (.t 8)),
oq 11 (ld 10),
mt 5 11])
(.seq (.reg [mt 12 5,
mt 13 3,
oq 14 (bi .neq (.t 12) (.t 13))])
(.cond (.t 14) (.seq (.reg [mt 15 5,
mt 2 15])
.ret) .skip))))
(.reg [oq 16 (bi .add (.t 8) (ci 1)),
mt 8 16])))))))
(.seq (.reg [mt 17 3,
mt 2 17])
.ret))))⟩
theorem row15 : Row Go.Proofs.Try.prog (15, a15) := ⟨Go.Proofs.Try.f15, Go.Proofs.Try.func15, by kernel_rfl⟩
noncomputable def a16 : AFn :=
⟨10,[(.t 4)],(.seq (.reg [⟨(some 2),(.a (.box 40 (.t 0))),none,0⟩,
⟨(some 3),(.a (.box 40 (.t 1))),none,0⟩,
oq 4 (.mv (ci 0))])
(.seq (.reg [oq 5 (.faddr 1 (.t 3)),
oq 6 (ld 5),
oq 7 (.faddr 1 (.t 2)),
oq 8 (ld 7),
oc 9 23 [(.t 6),(.t 8)] 0,
mt 4 9])
.ret))⟩
theorem row16 : Row Go.Proofs.Try.prog (16, a16) := ⟨Go.Proofs.Try.f16, Go.Proofs.Try.func16, by kernel_rfl⟩
noncomputable def a17 : AFn :=
⟨10,[(.t 4)],(.seq (.reg [⟨(some 2),(.a (.box 40 (.t 0))),none,0⟩,
⟨(some 3),(.a (.box 40 (.t 1))),none,0⟩,
oq 4 (.mv (ci 0))])
(.seq (.reg [oq 5 (.faddr 0 (.t 2)),
oq 6 (ld 5),
oq 7 (.faddr 0 (.t 3)),
oq 8 (ld 7),
oc 9 23 [(.t 6),(.t 8)] 0,
mt 4 9])
.ret))⟩
theorem row17 : Row Go.Proofs.Try.prog (17, a17) := ⟨Go.Proofs.Try.f17, Go.Proofs.Try.func17, by kernel_rfl⟩
noncomputable def a18 : AFn :=
⟨26,[(.t 4)],(.seq (.reg [oq 4 (.mv (.c (.bool false)))])
(.seq (.seq (.reg [mt 6 0,
oq 7 (.lenSl (.t 6)),
mt 8 1,
oq 9 (.lenSl (.t 8)),
oq 10 (bi .neq (.t 7) (.t 9))])
(.cond (.t 10) (.seq (.reg [oq 4 (.mv (.c (.bool false)))])
.ret) .skip))
(.seq (.seq (.reg [oq 5 (.mv (ci 0))])
(.block 0 (.loop (.seq (.seq (.reg [mt 11 5,
mt 12 0,
oq 13 (.lenSl (.t 12)),
oq 14 (bi .lss (.t 11) (.t 13))])
(.cond (.t 14) .skip (.exit 0)))
(.seq (.block 1 (.seq (.drw [mt 17 0,
mt 18 5,
om 19 3 (.iaddr (.slice 1) (.t 17) (.t 18)),
om 20 7 (ld 19),
mt 21 1,
mt 22 5,
om 23 48 (.iaddr (.slice 1) (.t 21) (.t 22)),
om 24 112 (ld 23),
om 25 255 (bi .neq (.t 20) (.t 24))])
(.cond (.t 25) (.seq (.reg [oq 4 (.mv (.c (.bool false)))])
.ret) .skip)))
(.reg [mt 15 5,
oq 16 (bi .add (.t 15) (ci 1)),
mt 5 16]))))))
(.seq (.reg [oq 4 (.mv (.c (.bool true)))])
.ret))))⟩
theorem row18 : Row Go.Proofs.Try.prog (18, a18) := ⟨Go.Proofs.Try.f18, Go.Proofs.Try.func18, by kernel_rfl⟩
noncomputable def a21 : AFn :=
⟨148,[],(.seq (.reg [oq 10 (.mv (.c (.bool true)))])
(.seq (.reg [oq 11 (.mv (.c (.bool true)))])
(.block 0 (.loop (.block 1 (.seq (.reg [mt 21 2,
mt 22 1,
oq 23 (bi .sub (.t 21) (.t 22)),
mt 12 23])
(.seq (.seq (.reg [mt 24 12,
oq 25 (bi .leq (.t 24) (ci 12))])
(.cond (.t 25) (.seq (.reg [mt 26 0,
mt 27 1,
mt 28 2,
mt 29 4,
oc 30 25 [(.t 26),(.t 27),(.t 28),(.t 29)] 0])
.ret) .skip))
(.seq (.seq (.reg [mt 31 3,
oq 32 (bi .eql (.t 31) (ci 0))])
(.cond (.t 32) (.seq (.reg [mt 33 0,
mt 34 1,
mt 35 2,
mt 36 4,
oc 37 26 [(.t 33),(.t 34),(.t 35),(.t 36)] 0])
.ret) .skip))
(.seq (.seq (.reg [mt 38 10,
oq 39 (.un .not (.t 38))])
(.cond (.t 39) (.seq (.reg [mt 40 0,
mt 41 1,
mt 42 2,
mt 43 4,
oc 44 27 [(.t 40),(.t 41),(.t 42),(.t 43)] 0])
(.reg [mt 45 3,
oq 46 (bi .sub (.t 45) (ci 1)),
mt 3 46])) .skip))
(.seq (.reg [mt 48 0,
mt 49 1,
mt 50 2,
mt 51 4,
oc 52 28 [(.t 48),(.t 49),(.t 50),(.t 51)] 0,
mt 47 52,
oq 53 (.extract (.t 47) 0),
oq 54 (.extract (.t 47) 1),
mt 13 53,
mt 14 54])
(.seq (.seq (.reg [mt 55 14,
oq 56 (bi .eql (.t 55) (ci 2))])
(.cond (.t 56) (.seq (.reg [mt 57 0,
mt 58 1,
mt 59 2,
mt 60 4,
oc 61 29 [(.t 57),(.t 58),(.t 59),(.t 60)] 0])
(.seq (.reg [mt 62 2,
oq 63 (bi .sub (.t 62) (ci 1)),
mt 64 13,
mt 65 1,
oq 66 (bi .sub (.t 64) (.t 65)),
oq 67 (bi .sub (.t 63) (.t 66)),
mt 13 67])
(.reg [oq 14 (.mv (ci 1))]))) .skip))
(.seq (.seq (.reg [mt 68 10,
mt 69 68,
og 70 69 true 0 (.mv (.t 11)),
oq 71 (.pick (.t 69) (.t 70) (.c (.bool false))),
mt 72 71,
og 73 72 true 0 (.mv (.t 14)),
og 74 72 true 0 (bi .eql (.t 73) (ci 1)),
oq 75 (.pick (.t 72) (.t 74) (.c (.bool false)))])
(.cond (.t 75) (.seq (.reg [mt 76 0,
mt 77 1,
mt 78 2,
mt 79 4,
oc 80 30 [(.t 76),(.t 77),(.t 78),(.t 79)] 0])
(.cond (.t 80) .ret .skip)) .skip))
(.seq (.seq (.drw [mt 81 1,
om 82 1 (bi .gtr (.t 81) (ci 0)),
om 83 3 (.mv (.t 82)),
og 84 83 true 7 (.mv (.t 4)),
og 85 83 true 7 (.mv (.t 0)),
og 86 83 true 7 (.mv (.t 1)),
og 87 83 true 39 (bi .sub (.t 86) (ci 1)),
og 88 83 true 119 (.iaddr (.slice 3) (.t 85) (.t 87)),
og 89 83 true 247 (.ld true 3 (.t 88)),
og 90 83 true 7 (.mv (.t 0)),
og 91 83 true 7 (.mv (.t 13)),
og 92 83 true 1543 (.iaddr (.slice 3) (.t 90) (.t 91)),
og 93 83 true 3591 (.ld true 3 (.t 92)),
⟨(some 94),(.x (.call (.t 84) [(.t 89),(.t 93)])),(some (83,true)),8191⟩,
og 95 83 true 16383 (bi .lss (.t 94) (ci 0)),
og 96 83 true 32767 (.un .not (.t 95)),
om 97 65535 (.pick (.t 83) (.t 96) (.c (.bool false)))])
(.cond (.t 97) (.seq (.reg [mt 98 0,
mt 99 1,
mt 100 2,
mt 101 13,
mt 102 4,
oc 103 31 [(.t 98),(.t 99),(.t 100),(.t 101),(.t 102)] 0,
mt 15 103])
(.seq (.reg [mt 104 15,
mt 1 104])
(.exit 1))) .skip))
(.seq (.reg [mt 106 0,
mt 107 1,
mt 108 2,
mt 109 13,
mt 110 4,
oc 111 32 [(.t 106),(.t 107),(.t 108),(.t 109),(.t 110)] 0,
mt 105 111,
oq 112 (.extract (.t 105) 0),
oq 113 (.extract (.t 105) 1),
mt 16 112,
mt 17 113])
(.seq (.reg [mt 114 17,
mt 11 114])
(.seq (.reg [mt 115 16,
mt 116 1,
oq 117 (bi .sub (.t 115) (.t 116)),
mt 118 2,
mt 119 16,
oq 120 (bi .sub (.t 118) (.t 119)),
mt 18 117,
mt 19 120])
(.seq (.reg [mt 121 12,
oq 122 (bi .quo (.t 121) (ci 8)),
mt 20 122])
(.seq (.reg [mt 123 18,
mt 124 19,
oq 125 (bi .lss (.t 123) (.t 124))])
(.cond (.t 125) (.seq (.reg [mt 126 18,
mt 127 20,
oq 128 (bi .geq (.t 126) (.t 127)),
mt 10 128])
(.seq (.reg [mt 129 0,
mt 130 1,
mt 131 16,
mt 132 3,
mt 133 4,
oc 134 21 [(.t 129),(.t 130),(.t 131),(.t 132),(.t 133)] 0])
(.reg [mt 135 16,
oq 136 (bi .add (.t 135) (ci 1)),
mt 1 136]))) (.seq (.reg [mt 137 19,
mt 138 20,
oq 139 (bi .geq (.t 137) (.t 138)),
mt 10 139])
(.seq (.reg [mt 140 0,
mt 141 16,
oq 142 (bi .add (.t 141) (ci 1)),
mt 143 2,
mt 144 3,
mt 145 4,
oc 146 21 [(.t 140),(.t 142),(.t 143),(.t 144),(.t 145)] 0])
(.reg [mt 147 16,
mt 2 147]))))))))))))))))))))))⟩
theorem row21 : Row Go.Proofs.Try.prog (21, a21) := ⟨Go.Proofs.Try.f21, Go.Proofs.Try.func21, by kernel_rfl⟩
noncomputable def a22 : AFn :=
⟨8,[(.t 2)],(.seq (.reg [oq 2 (.mv (ci 0))])
(.seq (.cond (.c (.bool false)) (.seq (.reg [mt 3 0,
oq 4 (.conv (.int .u32) (.t 3)),
oc 5 33 [(.t 4)] 0,
mt 2 5])
.ret) .skip)
(.seq (.reg [mt 6 0,
oc 7 34 [(.t 6)] 0,
mt 2 7])
.ret)))⟩
theorem row22 : Row Go.Proofs.Try.prog (22, a22) := ⟨Go.Proofs.Try.f22, Go.Proofs.Try.func22, by kernel_rfl⟩
noncomputable def a23 : AFn :=
⟨20,[(.t 4)],(.seq (.reg [oq 4 (.mv (ci 0))])
(.seq (.reg [mt 7 0,
oc 8 35 [(.t 7)] 0,
mt 5 8])
(.seq (.reg [mt 9 1,
oc 10 35 [(.t 9)] 0,
mt 6 10])
(.seq (.seq (.reg [mt 11 5])
(.cond (.t 11) (.seq (.seq (.reg [mt 12 6])
(.cond (.t 12) (.seq (.reg [oq 4 (.mv (ci 0))])
.ret) .skip))
(.seq (.reg [oq 4 (.mv (.c (.int .i64 (.negSucc 0))))])
.ret)) .skip))
(.seq (.seq (.reg [mt 13 6])
(.cond (.t 13) (.seq (.reg [oq 4 (.mv (ci 1))])
.ret) .skip))
(.seq (.seq (.reg [mt 14 0,
mt 15 1,
oq 16 (bi .lss (.t 14) (.t 15))])
(.cond (.t 16) (.seq (.reg [oq 4 (.mv (.c (.int .i64 (.negSucc 0))))])
.ret) .skip))
(.seq (.seq (.reg [mt 17 0,
mt 18 1,
oq 19 (bi .gtr (.t 17) (.t 18))])
(.cond (.t 19) (.seq (.reg [oq 4 (.mv (ci 1))])
.ret) .skip))
(.seq (.reg [oq 4 (.mv (ci 0))])
.ret))))))))⟩
theorem row23 : Row Go.Proofs.Try.prog (23, a23) := ⟨Go.Proofs.Try.f23, Go.Proofs.Try.func23, by kernel_rfl⟩
noncomputable def a25 : AFn :=
⟨53,[],(.seq (.reg [mt 10 1,
oq 11 (bi .add (.t 10) (ci 1)),
mt 8 11])
(.block 0 (.loop (.seq (.seq (.reg [mt 12 8,
mt 13 2,
oq 14 (bi .lss (.t 12) (.t 13))])
(.cond (.t 14) .skip (.exit 0)))
(.seq (.block 1 (.seq (.reg [mt 17 8,
mt 9 17])
(.block 2 (.loop (.seq (.seq (.drw [mt 18 9,
mt 19 1,
om 20 3 (bi .gtr (.t 18) (.t 19)),
om 21 7 (.mv (.t 20)),
og 22 21 true 15 (.mv (.t 3)),
og 23 21 true 15 (.mv (.t 0)),
og 24 21 true 15 (.mv (.t 9)),
og 25 21 true 111 (.iaddr (.slice 3) (.t 23) (.t 24)),
og 26 21 true 239 (.ld true 3 (.t 25)),
og 27 21 true 15 (.mv (.t 0)),
og 28 21 true 15 (.mv (.t 9)),
og 29 21 true 1039 (bi .sub (.t 28) (ci 1)),
og 30 21 true 3599 (.iaddr (.slice 3) (.t 27) (.t 29)),
og 31 21 true 7695 (.ld true 3 (.t 30)),
⟨(some 32),(.x (.call (.t 22) [(.t 26),(.t 31)])),(some (21,true)),16383⟩,
og 33 21 true 32767 (bi .lss (.t 32) (ci 0)),
om 34 65535 (.pick (.t 21) (.t 33) (.c (.bool false)))])
(.cond (.t 34) .skip (.exit 2)))
(.seq (.block 3 (.drw [mt 37 0,
mt 38 9,
mt 39 0,
mt 40 9,
om 41 8 (bi .sub (.t 40) (ci 1)),
mt 42 0,
mt 43 9,
om 44 64 (bi .sub (.t 43) (ci 1)),
om 45 224 (.iaddr (.slice 3) (.t 42) (.t 44)),
om 46 480 (.ld true 3 (.t 45)),
mt 47 0,
mt 48 9,
om 49 3072 (.iaddr (.slice 3) (.t 47) (.t 48)),
om 50 7168 (.ld true 3 (.t 49)),
om 51 16355 (.iaddr (.slice 3) (.t 37) (.t 38)),
⟨none,(.x (.st 3 (.t 51) (.t 46))),none,32739⟩,
om 52 65535 (.iaddr (.slice 3) (.t 39) (.t 41)),
⟨none,(.x (.st 3 (.t 52) (.t 50))),none,131071⟩]))
(.reg [mt 35 9,
oq 36 (bi .sub (.t 35) (ci 1)),
mt 9 36])))))))
(.reg [mt 15 8,
oq 16 (bi .add (.t 15) (ci 1)),
mt 8 16]))))))⟩
theorem row25 : Row Go.Proofs.Try.prog (25, a25) := ⟨Go.Proofs.Try.f25, Go.Proofs.Try.func25, by kernel_rfl⟩
noncomputable def a26 : AFn :=
⟨60,[],(.seq (.reg [mt 13 1,
mt 8 13])
(.seq (.reg [oq 9 (.mv (ci 0))])
(.seq (.reg [mt 14 2,
mt 15 1,
oq 16 (bi .sub (.t 14) (.t 15)),
mt 10 16])
(.seq (.seq (.reg [mt 17 10,
oq 18 (bi .sub (.t 17) (ci 1)),
oq 19 (bi .quo (.t 18) (ci 2)),
mt 11 19])
(.block 0 (.loop (.seq (.seq (.reg [mt 20 11,
oq 21 (bi .geq (.t 20) (ci 0))])
(.cond (.t 21) .skip (.exit 0)))
(.seq (.block 1 (.reg [mt 24 0,
mt 25 11,
mt 26 10,
mt 27 8,
mt 28 3,
oc 29 40 [(.t 24),(.t 25),(.t 26),(.t 27),(.t 28)] 0]))
(.reg [mt 22 11,
oq 23 (bi .sub (.t 22) (ci 1)),
mt 11 23]))))))
(.seq (.reg [mt 30 10,
oq 31 (bi .sub (.t 30) (ci 1)),
mt 12 31])
(.block 2 (.loop (.seq (.seq (.reg [mt 32 12,
oq 33 (bi .geq (.t 32) (ci 0))])
(.cond (.t 33) .skip (.exit 2)))
(.seq (.block 3 (.seq (.drw [mt 36 0,
mt 37 8,
mt 38 0,
mt 39 8,
mt 40 12,
om 41 24 (bi .add (.t 39) (.t 40)),
mt 42 0,
mt 43 8,
mt 44 12,
om 45 384 (bi .add (.t 43) (.t 44)),
om 46 960 (.iaddr (.slice 3) (.t 42) (.t 45)),
om 47 1984 (.ld true 3 (.t 46)),
mt 48 0,
mt 49 8,
om 50 12288 (.iaddr (.slice 3) (.t 48) (.t 49)),
om 51 28672 (.ld true 3 (.t 50)),
om 52 65475 (.iaddr (.slice 3) (.t 36) (.t 37)),
⟨none,(.x (.st 3 (.t 52) (.t 47))),none,131011⟩,
om 53 262143 (.iaddr (.slice 3) (.t 38) (.t 41)),
⟨none,(.x (.st 3 (.t 53) (.t 51))),none,524287⟩])
(.reg [mt 54 0,
mt 55 9,
mt 56 12,
mt 57 8,
mt 58 3,
oc 59 40 [(.t 54),(.t 55),(.t 56),(.t 57),(.t 58)] 0])))
(.reg [mt 34 12,
oq 35 (bi .sub (.t 34) (ci 1)),
mt 12 35]))))))))))⟩
theorem row26 : Row Go.Proofs.Try.prog (26, a26) := ⟨Go.Proofs.Try.f26, Go.Proofs.Try.func26, by kernel_rfl⟩
noncomputable def a27 : AFn :=
⟨67,[],(.seq (.reg [mt 13 2,
mt 14 1,
oq 15 (bi .sub (.t 13) (.t 14)),
mt 8 15])
(.seq (.reg [mt 16 8,
oq 17 (bi .geq (.t 16) (ci 8))])
(.cond (.t 17) (.seq (.reg [mt 18 8,
oq 19 (.conv (.int .u64) (.t 18)),
⟨(some 9),(.a (.alloc 85 [(.int .u64 (.ofNat 0))])),none,0⟩,
⟨none,(.x (.st 1 (.t 9) (.t 19))),none,0⟩])
(.seq (.reg [mt 20 8,
oc 21 41 [(.t 20)] 0,
mt 10 21])
(.seq (.reg [mt 22 1,
mt 23 8,
oq 24 (bi .quo (.t 23) (ci 4)),
oq 25 (bi .mul (.t 24) (ci 2)),
oq 26 (bi .add (.t 22) (.t 25)),
oq 27 (bi .sub (.t 26) (ci 1)),
mt 11 27])
(.block 0 (.loop (.seq (.seq (.reg [mt 28 11,
mt 29 1,
mt 30 8,
oq 31 (bi .quo (.t 30) (ci 4)),
oq 32 (bi .mul (.t 31) (ci 2)),
oq 33 (bi .add (.t 29) (.t 32)),
oq 34 (bi .add (.t 33) (ci 1)),
oq 35 (bi .leq (.t 28) (.t 34))])
(.cond (.t 35) .skip (.exit 0)))
(.seq (.block 1 (.seq (.reg [oc 38 42 [(.t 9)] 0,
mt 39 10,
oq 40 (bi .sub (.t 39) (.c (.int .u64 (.ofNat 1)))),
oq 41 (bi .and (.t 38) (.t 40)),
oq 42 (.conv (.int .i64) (.t 41)),
mt 12 42])
(.seq (.seq (.reg [mt 43 12,
mt 44 8,
oq 45 (bi .geq (.t 43) (.t 44))])
(.cond (.t 45) (.reg [mt 46 12,
mt 47 8,
oq 48 (bi .sub (.t 46) (.t 47)),
mt 12 48]) .skip))
(.drw [mt 49 0,
mt 50 11,
mt 51 0,
mt 52 1,
mt 53 12,
om 54 24 (bi .add (.t 52) (.t 53)),
mt 55 0,
mt 56 1,
mt 57 12,
om 58 384 (bi .add (.t 56) (.t 57)),
om 59 960 (.iaddr (.slice 3) (.t 55) (.t 58)),
om 60 1984 (.ld true 3 (.t 59)),
mt 61 0,
mt 62 11,
om 63 12288 (.iaddr (.slice 3) (.t 61) (.t 62)),
om 64 28672 (.ld true 3 (.t 63)),
om 65 65475 (.iaddr (.slice 3) (.t 49) (.t 50)),
⟨none,(.x (.st 3 (.t 65) (.t 60))),none,131011⟩,
om 66 262143 (.iaddr (.slice 3) (.t 51) (.t 54)),
⟨none,(.x (.st 3 (.t 66) (.t 64))),none,524287⟩]))))
(.reg [mt 36 11,
oq 37 (bi .add (.t 36) (ci 1)),
mt 11 37])))))))) .skip)))⟩
theorem row27 : Row Go.Proofs.Try.prog (27, a27) := ⟨Go.Proofs.Try.f27, Go.Proofs.Try.func27, by kernel_rfl⟩
end Go.Ev.Gl
