/- Functions of the program as data of the evaluator, written by program; each is shown to be the compiler's result on the loaded function. -/
import Derived.Test.YtffbfglbdghpaaaGreatDoorProg
import Derived.Test.YtffbfglbdghpaaaGreatDoorEv8
import Derived.KernelRfl
namespace Go.Ev.Gl
set_option maxRecDepth 100000
noncomputable def a116 : AFn :=
⟨44,[(.t 4)],(.seq (.reg [oq 4 (.mv (.c .nilsl))])
(.seq (.reg [oq 5 (.mv (.c .nilsl))])
(.seq (.reg [oq 6 (.mv (ci 0))])
(.seq (.seq (.reg [oq 7 (.mv (ci 0))])
(.block 0 (.loop (.seq (.seq (.reg [mt 9 7,
mt 10 0,
oq 11 (.lenSl (.t 10)),
oq 12 (bi .lss (.t 9) (.t 11))])
(.cond (.t 12) .skip (.exit 0)))
(.seq (.block 1 (.seq (.reg [mt 15 0,
mt 16 7,
oq 17 (.iaddr (.slice 1) (.t 15) (.t 16)),
oq 18 (ld 17),
oq 19 (.conv (.int .i64) (.t 18)),
mt 20 6,
oq 21 (bi .sub (.t 19) (.t 20)),
mt 8 21])
(.seq (.seq (.reg [mt 22 7,
mt 23 1,
oq 24 (.lenSl (.t 23)),
oq 25 (bi .lss (.t 22) (.t 24))])
(.cond (.t 25) (.reg [mt 26 8,
mt 27 1,
mt 28 7,
oq 29 (.iaddr (.slice 1) (.t 27) (.t 28)),
oq 30 (ld 29),
oq 31 (.conv (.int .i64) (.t 30)),
oq 32 (bi .sub (.t 26) (.t 31)),
mt 8 32]) .skip))
(.seq (.reg [oq 6 (.mv (ci 0))])
(.seq (.seq (.reg [mt 33 8,
oq 34 (bi .lss (.t 33) (ci 0))])
(.cond (.t 34) (.reg [mt 35 8,
oq 36 (bi .add (.t 35) (ci 1000000000)),
mt 8 36,
oq 6 (.mv (ci 1))]) .skip))
(.reg [mt 37 5,
mt 38 8,
oq 39 (.conv (.int .u32) (.t 38)),
⟨(some 40),(.a (.bslice 102 1 1 [(.int .u32 (.ofNat 0))] [(0,(.t 39))])),none,0⟩,
⟨(some 41),(.x (.app 102 1 4 (.t 37) (.t 40))),none,0⟩,
mt 5 41]))))))
(.reg [mt 13 7,
oq 14 (bi .add (.t 13) (ci 1)),
mt 7 14]))))))
(.seq (.reg [mt 42 5,
oc 43 115 [(.t 42)] 0,
mt 4 43])
.ret)))))⟩
theorem row116 : Row Go.Proofs.Tryz.prog (116, a116) := ⟨Go.Proofs.Tryz.f116, Go.Proofs.Tryz.func116, by kernel_rfl⟩
noncomputable def a117 : AFn :=
⟨28,[(.t 4)],(.seq (.reg [⟨(some 3),(.a (.box 46 (.t 0))),none,0⟩,
oq 4 (.mv (ci 0))])
(.seq (.reg [oq 6 (.mkFunc 118 [] [(.t 3)]),
mt 5 6])
(.seq (.drw [mt 7 5,
oq 8 (ld 1),
om 9 2 (bi .sub (.t 8) (ci 1)),
⟨(some 10),(.x (.call (.t 7) [(.t 9)])),none,7⟩,
om 11 15 (bi .mul (.t 10) (.c (.int .u64 (.ofNat 1000000000)))),
mt 12 5,
oq 13 (ld 1),
om 14 64 (bi .sub (.t 13) (ci 2)),
⟨(some 15),(.x (.call (.t 12) [(.t 14)])),none,239⟩,
om 16 511 (bi .add (.t 11) (.t 15)),
oq 17 (ld 2),
om 18 2047 (bi .mul (.t 16) (.t 17)),
mt 19 5,
oq 20 (ld 1),
om 21 8192 (bi .sub (.t 20) (ci 3)),
⟨(some 22),(.x (.call (.t 19) [(.t 21)])),none,29167⟩,
oq 23 (ld 2),
om 24 127471 (bi .mul (.t 22) (.t 23)),
om 25 258543 (bi .quo (.t 24) (.c (.int .u64 (.ofNat 1000000000)))),
om 26 524287 (bi .add (.t 18) (.t 25)),
om 27 1048575 (.conv (.int .i64) (.t 26)),
om 4 2097151 (.mv (.t 27))])
.ret)))⟩
theorem row117 : Row Go.Proofs.Tryz.prog (117, a117) := ⟨Go.Proofs.Tryz.f117, Go.Proofs.Tryz.func117, by kernel_rfl⟩
noncomputable def a118 : AFn :=
⟨13,[(.t 3)],(.seq (.reg [oq 3 (.mv (.c (.int .u64 (.ofNat 0))))])
(.seq (.seq (.reg [mt 4 0,
oq 5 (ld 1),
oq 6 (.lenSl (.t 5)),
oq 7 (bi .lss (.t 4) (.t 6))])
(.cond (.t 7) (.seq (.reg [oq 8 (ld 1),
mt 9 0,
oq 10 (.iaddr (.slice 1) (.t 8) (.t 9)),
oq 11 (ld 10),
oq 12 (.conv (.int .u64) (.t 11)),
mt 3 12])
.ret) .skip))
(.seq (.reg [oq 3 (.mv (.c (.int .u64 (.ofNat 0))))])
.ret)))⟩
theorem row118 : Row Go.Proofs.Tryz.prog (118, a118) := ⟨Go.Proofs.Tryz.f118, Go.Proofs.Tryz.func118, by kernel_rfl⟩
noncomputable def a119 : AFn :=
⟨44,[(.t 4),(.t 5)],(.seq (.reg [oq 4 (.mv (.c .nilsl)),
oq 5 (.mv (.c (.int .u32 (.ofNat 0))))])
(.seq (.reg [mt 10 0,
oq 11 (.lenSl (.t 10)),
⟨(some 12),(.a (.mkSlice 102 1 4 [(.int .u32 (.ofNat 0))] (.t 11) (.t 11))),none,0⟩,
mt 6 12])
(.seq (.reg [oq 7 (.mv (.c (.int .u64 (.ofNat 0))))])
(.seq (.seq (.reg [mt 13 0,
oq 14 (.lenSl (.t 13)),
oq 15 (bi .sub (.t 14) (ci 1)),
mt 8 15])
(.block 0 (.loop (.seq (.seq (.reg [mt 16 8,
oq 17 (bi .geq (.t 16) (ci 0))])
(.cond (.t 17) .skip (.exit 0)))
(.seq (.block 1 (.seq (.reg [mt 20 7,
oq 21 (bi .mul (.t 20) (.c (.int .u64 (.ofNat 1000000000)))),
mt 22 0,
mt 23 8,
oq 24 (.iaddr (.slice 1) (.t 22) (.t 23)),
oq 25 (ld 24),
oq 26 (.conv (.int .u64) (.t 25)),
oq 27 (bi .add (.t 21) (.t 26)),
mt 9 27])
(.seq (.reg [mt 28 6,
mt 29 8,
mt 30 9,
mt 31 1,
oq 32 (.conv (.int .u64) (.t 31)),
oq 33 (bi .quo (.t 30) (.t 32)),
oq 34 (.conv (.int .u32) (.t 33)),
oq 35 (.iaddr (.slice 1) (.t 28) (.t 29)),
⟨none,(.x (.st 1 (.t 35) (.t 34))),none,0⟩])
(.reg [mt 36 9,
mt 37 1,
oq 38 (.conv (.int .u64) (.t 37)),
oq 39 (bi .rem (.t 36) (.t 38)),
mt 7 39]))))
(.reg [mt 18 8,
oq 19 (bi .sub (.t 18) (ci 1)),
mt 8 19]))))))
(.seq (.reg [mt 40 6,
oc 41 122 [(.t 40)] 0,
mt 42 7,
oq 43 (.conv (.int .u32) (.t 42)),
mt 4 41,
mt 5 43])
.ret)))))⟩
theorem row119 : Row Go.Proofs.Tryz.prog (119, a119) := ⟨Go.Proofs.Tryz.f119, Go.Proofs.Tryz.func119, by kernel_rfl⟩
noncomputable def a120 : AFn :=
⟨40,[(.t 6)],(.seq (.reg [oq 6 (.mv (.c .nilsl))])
(.seq (.reg [mt 10 2,
⟨(some 11),(.a (.mkSlice 102 1 4 [(.int .u32 (.ofNat 0))] (.t 10) (.t 10))),none,0⟩,
mt 7 11])
(.seq (.reg [oq 8 (.mv (.c (.int .u64 (.ofNat 0))))])
(.seq (.seq (.reg [mt 12 7,
oq 13 (.lenSl (.t 12)),
oq 14 (.mv (ci 0))])
(.block 0 (.loop (.seq (.reg [oq 15 (bi .lss (.t 14) (.t 13))])
(.seq (.cond (.t 15) .skip (.exit 0))
(.seq (.block 1 (.seq (.reg [mt 16 14,
mt 9 16])
(.seq (.seq (.reg [mt 17 9,
mt 18 0,
oq 19 (.lenSl (.t 18)),
oq 20 (bi .lss (.t 17) (.t 19))])
(.cond (.t 20) (.reg [mt 21 8,
mt 22 0,
mt 23 9,
oq 24 (.iaddr (.slice 1) (.t 22) (.t 23)),
oq 25 (ld 24),
oq 26 (.conv (.int .u64) (.t 25)),
mt 27 1,
oq 28 (bi .mul (.t 26) (.t 27)),
oq 29 (bi .add (.t 21) (.t 28)),
mt 8 29]) .skip))
(.seq (.reg [mt 30 7,
mt 31 9,
mt 32 8,
oq 33 (bi .rem (.t 32) (.c (.int .u64 (.ofNat 1000000000)))),
oq 34 (.conv (.int .u32) (.t 33)),
oq 35 (.iaddr (.slice 1) (.t 30) (.t 31)),
⟨none,(.x (.st 1 (.t 35) (.t 34))),none,0⟩])
(.reg [mt 36 8,
oq 37 (bi .quo (.t 36) (.c (.int .u64 (.ofNat 1000000000)))),
mt 8 37])))))
(.reg [oq 38 (bi .add (.t 14) (ci 1)),
mt 14 38])))))))
(.seq (.reg [mt 39 7,
mt 6 39])
.ret)))))⟩
theorem row120 : Row Go.Proofs.Tryz.prog (120, a120) := ⟨Go.Proofs.Tryz.f120, Go.Proofs.Tryz.func120, by kernel_rfl⟩
noncomputable def a121 : AFn :=
⟨159,[(.t 4)],(.seq (.reg [oq 4 (.mv (.c (.int .u32 (.ofNat 0))))])
(.seq (.reg [mt 18 1,
oq 19 (.lenSl (.t 18)),
mt 5 19])
(.seq (.drw [mt 20 0,
mt 21 5,
om 22 3 (.iaddr (.slice 1) (.t 20) (.t 21)),
om 23 7 (ld 22),
om 24 15 (.conv (.int .u64) (.t 23)),
om 25 31 (bi .mul (.t 24) (.c (.int .u64 (.ofNat 1000000000)))),
mt 26 0,
mt 27 5,
om 28 128 (bi .sub (.t 27) (ci 1)),
om 29 448 (.iaddr (.slice 1) (.t 26) (.t 28)),
om 30 960 (ld 29),
om 31 1984 (.conv (.int .u64) (.t 30)),
om 32 4095 (bi .add (.t 25) (.t 31)),
om 6 8191 (.mv (.t 32))])
(.seq (.drw [mt 33 6,
mt 34 1,
mt 35 5,
om 36 4 (bi .sub (.t 35) (ci 1)),
om 37 14 (.iaddr (.slice 1) (.t 34) (.t 36)),
om 38 30 (ld 37),
om 39 62 (.conv (.int .u64) (.t 38)),
om 40 127 (bi .quo (.t 33) (.t 39)),
mt 41 6,
mt 42 1,
mt 43 5,
om 44 1024 (bi .sub (.t 43) (ci 1)),
om 45 3584 (.iaddr (.slice 1) (.t 42) (.t 44)),
om 46 7680 (ld 45),
om 47 15872 (.conv (.int .u64) (.t 46)),
om 48 32512 (bi .rem (.t 41) (.t 47)),
om 7 255 (.mv (.t 40)),
om 8 131071 (.mv (.t 48))])
(.seq (.block 0 (.loop (.seq (.seq (.drw [mt 49 8,
om 50 1 (bi .lss (.t 49) (.c (.int .u64 (.ofNat 1000000000)))),
om 51 3 (.mv (.t 50)),
og 52 51 true 7 (.mv (.t 7)),
og 53 51 true 15 (bi .geq (.t 52) (.c (.int .u64 (.ofNat 1000000000)))),
og 54 51 true 31 (.mv (.t 53)),
og 55 54 false 63 (.mv (.t 7)),
og 56 54 false 63 (.mv (.t 1)),
og 57 54 false 63 (.mv (.t 5)),
og 58 54 false 319 (bi .sub (.t 57) (ci 2)),
og 59 54 false 959 (.iaddr (.slice 1) (.t 56) (.t 58)),
og 60 54 false 1983 (ld 59),
og 61 54 false 4031 (.conv (.int .u64) (.t 60)),
og 62 54 false 8191 (bi .mul (.t 55) (.t 61)),
og 63 54 false 63 (.mv (.t 8)),
og 64 54 false 16447 (bi .mul (.t 63) (.c (.int .u64 (.ofNat 1000000000)))),
og 65 54 false 63 (.mv (.t 0)),
og 66 54 false 63 (.mv (.t 5)),
og 67 54 false 131135 (bi .sub (.t 66) (ci 2)),
og 68 54 false 458815 (.iaddr (.slice 1) (.t 65) (.t 67)),
og 69 54 false 983103 (ld 68),
og 70 54 false 2031679 (.conv (.int .u64) (.t 69)),
og 71 54 false 4177983 (bi .add (.t 64) (.t 70)),
og 72 54 false 8388607 (bi .gtr (.t 62) (.t 71)),
og 73 51 true 16777215 (.pick (.t 54) (.c (.bool true)) (.t 72)),
om 74 33554431 (.pick (.t 51) (.t 73) (.c (.bool false)))])
(.cond (.t 74) .skip (.exit 0)))
(.block 1 (.seq (.reg [mt 75 7,
oq 76 (bi .sub (.t 75) (.c (.int .u64 (.ofNat 1)))),
mt 7 76])
(.reg [mt 77 8,
mt 78 1,
mt 79 5,
oq 80 (bi .sub (.t 79) (ci 1)),
oq 81 (.iaddr (.slice 1) (.t 78) (.t 80)),
oq 82 (ld 81),
oq 83 (.conv (.int .u64) (.t 82)),
oq 84 (bi .add (.t 77) (.t 83)),
mt 8 84]))))))
(.seq (.reg [oq 9 (.mv (.c (.int .u64 (.ofNat 0))))])
(.seq (.seq (.reg [mt 85 1,
oq 86 (.lenSl (.t 85)),
oq 87 (.mv (ci 0))])
(.block 2 (.loop (.seq (.reg [oq 88 (bi .lss (.t 87) (.t 86))])
(.seq (.cond (.t 88) .skip (.exit 2))
(.seq (.block 3 (.seq (.reg [mt 89 87,
oq 90 (.iaddr (.slice 1) (.t 85) (.t 87)),
oq 91 (ld 90),
mt 10 89,
mt 11 91])
(.seq (.reg [mt 92 7,
mt 93 11,
oq 94 (.conv (.int .u64) (.t 93)),
oq 95 (bi .mul (.t 92) (.t 94)),
mt 96 9,
oq 97 (bi .add (.t 95) (.t 96)),
mt 12 97])
(.seq (.reg [mt 98 12,
oq 99 (bi .quo (.t 98) (.c (.int .u64 (.ofNat 1000000000)))),
mt 9 99])
(.seq (.reg [mt 100 0,
mt 101 10,
oq 102 (.iaddr (.slice 1) (.t 100) (.t 101)),
oq 103 (ld 102),
oq 104 (.conv (.int .i64) (.t 103)),
mt 105 12,
oq 106 (bi .rem (.t 105) (.c (.int .u64 (.ofNat 1000000000)))),
oq 107 (.conv (.int .i64) (.t 106)),
oq 108 (bi .sub (.t 104) (.t 107)),
mt 13 108])
(.seq (.seq (.reg [mt 109 13,
oq 110 (bi .lss (.t 109) (ci 0))])
(.cond (.t 110) (.seq (.reg [mt 111 13,
oq 112 (bi .add (.t 111) (ci 1000000000)),
mt 13 112])
(.reg [mt 113 9,
oq 114 (bi .add (.t 113) (.c (.int .u64 (.ofNat 1)))),
mt 9 114])) .skip))
(.reg [mt 115 0,
mt 116 10,
mt 117 13,
oq 118 (.conv (.int .u32) (.t 117)),
oq 119 (.iaddr (.slice 1) (.t 115) (.t 116)),
⟨none,(.x (.st 1 (.t 119) (.t 118))),none,0⟩])))))))
(.reg [oq 120 (bi .add (.t 87) (ci 1)),
mt 87 120])))))))
(.seq (.seq (.reg [mt 121 0,
mt 122 5,
oq 123 (.iaddr (.slice 1) (.t 121) (.t 122)),
oq 124 (ld 123),
oq 125 (.conv (.int .u64) (.t 124)),
mt 126 9,
oq 127 (bi .lss (.t 125) (.t 126))])
(.cond (.t 127) (.seq (.reg [mt 128 7,
oq 129 (bi .sub (.t 128) (.c (.int .u64 (.ofNat 1)))),
mt 7 129])
(.seq (.reg [oq 14 (.mv (.c (.int .u32 (.ofNat 0))))])
(.seq (.reg [mt 130 1,
oq 131 (.lenSl (.t 130)),
oq 132 (.mv (ci 0))])
(.block 4 (.loop (.seq (.reg [oq 133 (bi .lss (.t 132) (.t 131))])
(.seq (.cond (.t 133) .skip (.exit 4))
(.seq (.block 5 (.seq (.reg [mt 134 132,
oq 135 (.iaddr (.slice 1) (.t 130) (.t 132)),
oq 136 (ld 135),
mt 15 134,
mt 16 136])
(.seq (.reg [mt 137 0,
mt 138 15,
oq 139 (.iaddr (.slice 1) (.t 137) (.t 138)),
oq 140 (ld 139),
mt 141 16,
oq 142 (bi .add (.t 140) (.t 141)),
mt 143 14,
oq 144 (bi .add (.t 142) (.t 143)),
mt 17 144])
(.seq (.reg [oq 14 (.mv (.c (.int .u32 (.ofNat 0))))])
(.seq (.seq (.reg [mt 145 17,
oq 146 (bi .geq (.t 145) (.c (.int .u32 (.ofNat 1000000000))))])
(.cond (.t 146) (.seq (.reg [mt 147 17,
oq 148 (bi .sub (.t 147) (.c (.int .u32 (.ofNat 1000000000)))),
mt 17 148])
(.reg [oq 14 (.mv (.c (.int .u32 (.ofNat 1))))])) .skip))
(.reg [mt 149 0,
mt 150 15,
mt 151 17,
oq 152 (.iaddr (.slice 1) (.t 149) (.t 150)),
⟨none,(.x (.st 1 (.t 152) (.t 151))),none,0⟩]))))))
(.reg [oq 153 (bi .add (.t 132) (ci 1)),
mt 132 153]))))))))) .skip))
(.seq (.reg [mt 154 0,
mt 155 5,
oq 156 (.iaddr (.slice 1) (.t 154) (.t 155)),
⟨none,(.x (.st 1 (.t 156) (.c (.int .u32 (.ofNat 0))))),none,0⟩])
(.seq (.reg [mt 157 7,
oq 158 (.conv (.int .u32) (.t 157)),
mt 4 158])
.ret))))))))))⟩
theorem row121 : Row Go.Proofs.Tryz.prog (121, a121) := ⟨Go.Proofs.Tryz.f121, Go.Proofs.Tryz.func121, by kernel_rfl⟩
noncomputable def a122 : AFn :=
⟨21,[(.t 2)],(.seq (.reg [oq 2 (.mv (.c .nilsl))])
(.seq (.block 0 (.loop (.seq (.seq (.reg [mt 3 0,
oq 4 (.lenSl (.t 3)),
oq 5 (bi .gtr (.t 4) (ci 0)),
mt 6 5,
og 7 6 true 0 (.mv (.t 0)),
og 8 6 true 0 (.mv (.t 0)),
og 9 6 true 0 (.lenSl (.t 8)),
og 10 6 true 0 (bi .sub (.t 9) (ci 1)),
og 11 6 true 0 (.iaddr (.slice 1) (.t 7) (.t 10)),
og 12 6 true 0 (ld 11),
og 13 6 true 0 (bi .eql (.t 12) (.c (.int .u32 (.ofNat 0)))),
oq 14 (.pick (.t 6) (.t 13) (.c (.bool false)))])
(.cond (.t 14) .skip (.exit 0)))
(.block 1 (.reg [mt 15 0,
mt 16 0,
oq 17 (.lenSl (.t 16)),
oq 18 (bi .sub (.t 17) (ci 1)),
oq 19 (.slc (.slice 1) (.t 15) none (some (.t 18)) none),
mt 0 19])))))
(.seq (.reg [mt 20 0,
mt 2 20])
.ret)))⟩
theorem row122 : Row Go.Proofs.Tryz.prog (122, a122) := ⟨Go.Proofs.Tryz.f122, Go.Proofs.Tryz.func122, by kernel_rfl⟩
end Go.Ev.Gl
