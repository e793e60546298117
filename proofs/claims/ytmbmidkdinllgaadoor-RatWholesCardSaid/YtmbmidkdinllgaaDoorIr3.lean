/- Functions of the program as data of the evaluator, written by program; each is shown to be the compiler's result on the loaded function. -/
import Derived.Test.YtmbmidkdinllgaaDoorProg
import Derived.Test.YtmbmidkdinllgaaDoorEv8
import Derived.KernelRfl
namespace Go.Ev.Gl
set_option maxRecDepth 100000
noncomputable def a119 : AFn :=
⟨21,[(.cell 6 true 3)],(.seq (.reg [⟨(some 6),(.a (.alloc 25 [(.bool false),.nilsl,.nilsl])),none,0⟩])
(.seq (.reg [mt 8 1,
mt 9 2,
oc 10 114 [(.t 8),(.t 9)] 0,
mt 7 10])
(.seq (.drw [mt 11 0,
mt 12 1,
mt 13 7,
om 14 6 (bi .quo (.t 12) (.t 13)),
oc 15 81 [(.t 14)] 14,
mt 16 2,
mt 17 7,
om 18 96 (bi .quo (.t 16) (.t 17)),
oc 19 81 [(.t 18)] 254,
om 20 511 (.build [(.bool false),.nilsl,.nilsl] [(0,1,(.t 11)),(1,1,(.t 15)),(2,1,(.t 19))]),
⟨none,(.x (.st 3 (.t 6) (.t 20))),none,1023⟩])
.ret)))⟩
theorem row119 : Row Go.Proofs.Tryd.prog (119, a119) := ⟨Go.Proofs.Tryd.f119, Go.Proofs.Tryd.func119, by kernel_rfl⟩
noncomputable def a120 : AFn :=
⟨17,[(.t 4)],(.seq (.reg [oq 4 (.mv (.c .nilsl))])
(.seq (.seq (.reg [mt 7 1,
oc 8 91 [(.t 7)] 0])
(.cond (.t 8) (.seq (.reg [mt 9 0,
mt 4 9])
.ret) .skip))
(.seq (.reg [mt 11 0,
mt 12 1,
oc 13 98 [(.t 11),(.t 12)] 0,
mt 10 13,
oq 14 (.extract (.t 10) 0),
oq 15 (.extract (.t 10) 1),
mt 5 14,
mt 6 15])
(.seq (.reg [mt 16 5,
mt 4 16])
.ret))))⟩
theorem row120 : Row Go.Proofs.Tryd.prog (120, a120) := ⟨Go.Proofs.Tryd.f120, Go.Proofs.Tryd.func120, by kernel_rfl⟩
noncomputable def a121 : AFn :=
⟨20,[(.t 2)],(.seq (.reg [oq 2 (.mv (.c .nilsl))])
(.seq (.reg [oq 3 (.mv (.c .nilsl))])
(.seq (.block 0 (.loop (.seq (.seq (.reg [mt 5 0,
oq 6 (bi .neq (.t 5) (ci 0))])
(.cond (.t 6) .skip (.exit 0)))
(.block 1 (.seq (.reg [mt 7 0,
oq 8 (bi .rem (.t 7) (ci 1000000000)),
mt 4 8])
(.seq (.reg [mt 9 3,
mt 10 4,
mt 11 4,
oq 12 (.un .neg (.t 11)),
oq 13 (.minmax true [(.t 10),(.t 12)]),
oq 14 (.conv (.int .u32) (.t 13)),
⟨(some 15),(.a (.bslice 41 1 1 [(.int .u32 (.ofNat 0))] [(0,(.t 14))])),none,0⟩,
⟨(some 16),(.x (.app 41 1 4 (.t 9) (.t 15))),none,0⟩,
mt 3 16])
(.reg [mt 17 0,
oq 18 (bi .quo (.t 17) (ci 1000000000)),
mt 0 18])))))))
(.seq (.reg [mt 19 3,
mt 2 19])
.ret))))⟩
theorem row121 : Row Go.Proofs.Tryd.prog (121, a121) := ⟨Go.Proofs.Tryd.f121, Go.Proofs.Tryd.func121, by kernel_rfl⟩
noncomputable def a122 : AFn :=
⟨51,[(.t 4),(.t 5)],(.seq (.reg [oq 4 (.mv (.c (.int .u64 (.ofNat 0)))),
oq 5 (.mv (.c (.int .u64 (.ofNat 0))))])
(.seq (.reg [mt 14 0,
oq 15 (bi .and (.t 14) (.c (.int .u64 (.ofNat 4294967295)))),
mt 6 15])
(.seq (.reg [mt 16 0,
oq 17 (bi .shr (.t 16) (.c (.int .u64 (.ofNat 32)))),
mt 7 17])
(.seq (.reg [mt 18 1,
oq 19 (bi .and (.t 18) (.c (.int .u64 (.ofNat 4294967295)))),
mt 8 19])
(.seq (.reg [mt 20 1,
oq 21 (bi .shr (.t 20) (.c (.int .u64 (.ofNat 32)))),
mt 9 21])
(.seq (.reg [mt 22 6,
mt 23 8,
oq 24 (bi .mul (.t 22) (.t 23)),
mt 10 24])
(.seq (.reg [mt 25 7,
mt 26 8,
oq 27 (bi .mul (.t 25) (.t 26)),
mt 28 10,
oq 29 (bi .shr (.t 28) (.c (.int .u64 (.ofNat 32)))),
oq 30 (bi .add (.t 27) (.t 29)),
mt 11 30])
(.seq (.reg [mt 31 11,
oq 32 (bi .and (.t 31) (.c (.int .u64 (.ofNat 4294967295)))),
mt 12 32])
(.seq (.reg [mt 33 11,
oq 34 (bi .shr (.t 33) (.c (.int .u64 (.ofNat 32)))),
mt 13 34])
(.seq (.reg [mt 35 12,
mt 36 6,
mt 37 9,
oq 38 (bi .mul (.t 36) (.t 37)),
oq 39 (bi .add (.t 35) (.t 38)),
mt 12 39])
(.seq (.reg [mt 40 7,
mt 41 9,
oq 42 (bi .mul (.t 40) (.t 41)),
mt 43 13,
oq 44 (bi .add (.t 42) (.t 43)),
mt 45 12,
oq 46 (bi .shr (.t 45) (.c (.int .u64 (.ofNat 32)))),
oq 47 (bi .add (.t 44) (.t 46)),
mt 4 47])
(.seq (.reg [mt 48 0,
mt 49 1,
oq 50 (bi .mul (.t 48) (.t 49)),
mt 5 50])
.ret))))))))))))⟩
theorem row122 : Row Go.Proofs.Tryd.prog (122, a122) := ⟨Go.Proofs.Tryd.f122, Go.Proofs.Tryd.func122, by kernel_rfl⟩
noncomputable def a127 : AFn :=
⟨44,[(.t 4),(.t 5)],(.seq (.reg [oq 4 (.mv (.c .nilsl)),
oq 5 (.mv (.c (.int .u32 (.ofNat 0))))])
(.seq (.reg [mt 10 0,
oq 11 (.lenSl (.t 10)),
⟨(some 12),(.a (.mkSlice 41 1 4 [(.int .u32 (.ofNat 0))] (.t 11) (.t 11))),none,0⟩,
mt 6 12])
(.seq (.reg [oq 7 (.mv (.c (.int .u64 (.ofNat 0))))])
(.seq (.seq (.reg [mt 13 0,
oq 14 (.lenSl (.t 13)),
oq 15 (bi .sub (.t 14) (ci 1)),
mt 8 15])
(.block 0 (.loop (.seq (.seq (.reg [mt 16 8,
oq 17 (bi .geq (.t 16) (ci 0))])
(.cond (.t 17) .skip (.exit 0)))
(.seq (.block 1 (.seq (.reg [mt 20 7,
oq 21 (bi .mul (.t 20) (.c (.int .u64 (.ofNat 1000000000)))),
mt 22 0,
mt 23 8,
oq 24 (.iaddr (.slice 1) (.t 22) (.t 23)),
oq 25 (ld 24),
oq 26 (.conv (.int .u64) (.t 25)),
oq 27 (bi .add (.t 21) (.t 26)),
mt 9 27])
(.seq (.reg [mt 28 6,
mt 29 8,
mt 30 9,
mt 31 1,
oq 32 (.conv (.int .u64) (.t 31)),
oq 33 (bi .quo (.t 30) (.t 32)),
oq 34 (.conv (.int .u32) (.t 33)),
oq 35 (.iaddr (.slice 1) (.t 28) (.t 29)),
⟨none,(.x (.st 1 (.t 35) (.t 34))),none,0⟩])
(.reg [mt 36 9,
mt 37 1,
oq 38 (.conv (.int .u64) (.t 37)),
oq 39 (bi .rem (.t 36) (.t 38)),
mt 7 39]))))
(.reg [mt 18 8,
oq 19 (bi .sub (.t 18) (ci 1)),
mt 8 19]))))))
(.seq (.reg [mt 40 6,
oc 41 103 [(.t 40)] 0,
mt 42 7,
oq 43 (.conv (.int .u32) (.t 42)),
mt 4 41,
mt 5 43])
.ret)))))⟩
theorem row127 : Row Go.Proofs.Tryd.prog (127, a127) := ⟨Go.Proofs.Tryd.f127, Go.Proofs.Tryd.func127, by kernel_rfl⟩
noncomputable def a128 : AFn :=
⟨40,[(.t 6)],(.seq (.reg [oq 6 (.mv (.c .nilsl))])
(.seq (.reg [mt 10 2,
⟨(some 11),(.a (.mkSlice 41 1 4 [(.int .u32 (.ofNat 0))] (.t 10) (.t 10))),none,0⟩,
mt 7 11])
(.seq (.reg [oq 8 (.mv (.c (.int .u64 (.ofNat 0))))])
(.seq (.seq (.reg [mt 12 7,
oq 13 (.lenSl (.t 12)),
oq 14 (.mv (ci 0))])
(.block 0 (.loop (.seq (.reg [oq 15 (bi .lss (.t 14) (.t 13))])
(.seq (.cond (.t 15) .skip (.exit 0))
(.seq (.block 1 (.seq (.reg [mt 16 14,
mt 9 16])
(.seq (.seq (.reg [mt 17 9,
mt 18 0,
oq 19 (.lenSl (.t 18)),
oq 20 (bi .lss (.t 17) (.t 19))])
(.cond (.t 20) (.reg [mt 21 8,
mt 22 0,
mt 23 9,
oq 24 (.iaddr (.slice 1) (.t 22) (.t 23)),
oq 25 (ld 24),
oq 26 (.conv (.int .u64) (.t 25)),
mt 27 1,
oq 28 (bi .mul (.t 26) (.t 27)),
oq 29 (bi .add (.t 21) (.t 28)),
mt 8 29]) .skip))
(.seq (.reg [mt 30 7,
mt 31 9,
mt 32 8,
oq 33 (bi .rem (.t 32) (.c (.int .u64 (.ofNat 1000000000)))),
oq 34 (.conv (.int .u32) (.t 33)),
oq 35 (.iaddr (.slice 1) (.t 30) (.t 31)),
⟨none,(.x (.st 1 (.t 35) (.t 34))),none,0⟩])
(.reg [mt 36 8,
oq 37 (bi .quo (.t 36) (.c (.int .u64 (.ofNat 1000000000)))),
mt 8 37])))))
(.reg [oq 38 (bi .add (.t 14) (ci 1)),
mt 14 38])))))))
(.seq (.reg [mt 39 7,
mt 6 39])
.ret)))))⟩
theorem row128 : Row Go.Proofs.Tryd.prog (128, a128) := ⟨Go.Proofs.Tryd.f128, Go.Proofs.Tryd.func128, by kernel_rfl⟩
noncomputable def a129 : AFn :=
⟨159,[(.t 4)],(.seq (.reg [oq 4 (.mv (.c (.int .u32 (.ofNat 0))))])
(.seq (.reg [mt 18 1,
oq 19 (.lenSl (.t 18)),
mt 5 19])
(.seq (.drw [mt 20 0,
mt 21 5,
om 22 3 (.iaddr (.slice 1) (.t 20) (.t 21)),
om 23 7 (ld 22),
om 24 15 (.conv (.int .u64) (.t 23)),
om 25 31 (bi .mul (.t 24) (.c (.int .u64 (.ofNat 1000000000)))),
mt 26 0,
mt 27 5,
om 28 128 (bi .sub (.t 27) (ci 1)),
om 29 448 (.iaddr (.slice 1) (.t 26) (.t 28)),
om 30 960 (ld 29),
om 31 1984 (.conv (.int .u64) (.t 30)),
om 32 4095 (bi .add (.t 25) (.t 31)),
om 6 8191 (.mv (.t 32))])
(.seq (.drw [mt 33 6,
mt 34 1,
mt 35 5,
om 36 4 (bi .sub (.t 35) (ci 1)),
om 37 14 (.iaddr (.slice 1) (.t 34) (.t 36)),
om 38 30 (ld 37),
om 39 62 (.conv (.int .u64) (.t 38)),
om 40 127 (bi .quo (.t 33) (.t 39)),
mt 41 6,
mt 42 1,
mt 43 5,
om 44 1024 (bi .sub (.t 43) (ci 1)),
om 45 3584 (.iaddr (.slice 1) (.t 42) (.t 44)),
om 46 7680 (ld 45),
om 47 15872 (.conv (.int .u64) (.t 46)),
om 48 32512 (bi .rem (.t 41) (.t 47)),
om 7 255 (.mv (.t 40)),
om 8 131071 (.mv (.t 48))])
(.seq (.block 0 (.loop (.seq (.seq (.drw [mt 49 8,
om 50 1 (bi .lss (.t 49) (.c (.int .u64 (.ofNat 1000000000)))),
om 51 3 (.mv (.t 50)),
og 52 51 true 7 (.mv (.t 7)),
og 53 51 true 15 (bi .geq (.t 52) (.c (.int .u64 (.ofNat 1000000000)))),
og 54 51 true 31 (.mv (.t 53)),
og 55 54 false 63 (.mv (.t 7)),
og 56 54 false 63 (.mv (.t 1)),
og 57 54 false 63 (.mv (.t 5)),
og 58 54 false 319 (bi .sub (.t 57) (ci 2)),
og 59 54 false 959 (.iaddr (.slice 1) (.t 56) (.t 58)),
og 60 54 false 1983 (ld 59),
og 61 54 false 4031 (.conv (.int .u64) (.t 60)),
og 62 54 false 8191 (bi .mul (.t 55) (.t 61)),
og 63 54 false 63 (.mv (.t 8)),
og 64 54 false 16447 (bi .mul (.t 63) (.c (.int .u64 (.ofNat 1000000000)))),
og 65 54 false 63 (.mv (.t 0)),
og 66 54 false 63 (.mv (.t 5)),
og 67 54 false 131135 (bi .sub (.t 66) (ci 2)),
og 68 54 false 458815 (.iaddr (.slice 1) (.t 65) (.t 67)),
og 69 54 false 983103 (ld 68),
og 70 54 false 2031679 (.conv (.int .u64) (.t 69)),
og 71 54 false 4177983 (bi .add (.t 64) (.t 70)),
og 72 54 false 8388607 (bi .gtr (.t 62) (.t 71)),
og 73 51 true 16777215 (.pick (.t 54) (.c (.bool true)) (.t 72)),
om 74 33554431 (.pick (.t 51) (.t 73) (.c (.bool false)))])
(.cond (.t 74) .skip (.exit 0)))
(.block 1 (.seq (.reg [mt 75 7,
oq 76 (bi .sub (.t 75) (.c (.int .u64 (.ofNat 1)))),
mt 7 76])
(.reg [mt 77 8,
mt 78 1,
mt 79 5,
oq 80 (bi .sub (.t 79) (ci 1)),
oq 81 (.iaddr (.slice 1) (.t 78) (.t 80)),
oq 82 (ld 81),
oq 83 (.conv (.int .u64) (.t 82)),
oq 84 (bi .add (.t 77) (.t 83)),
mt 8 84]))))))
(.seq (.reg [oq 9 (.mv (.c (.int .u64 (.ofNat 0))))])
(.seq (.seq (.reg [mt 85 1,
oq 86 (.lenSl (.t 85)),
oq 87 (.mv (ci 0))])
(.block 2 (.loop (.seq (.reg [oq 88 (bi .lss (.t 87) (.t 86))])
(.seq (.cond (.t 88) .skip (.exit 2))
(.seq (.block 3 (.seq (.reg [mt 89 87,
oq 90 (.iaddr (.slice 1) (.t 85) (.t 87)),
oq 91 (ld 90),
mt 10 89,
mt 11 91])
(.seq (.reg [mt 92 7,
mt 93 11,
oq 94 (.conv (.int .u64) (.t 93)),
oq 95 (bi .mul (.t 92) (.t 94)),
mt 96 9,
oq 97 (bi .add (.t 95) (.t 96)),
mt 12 97])
(.seq (.reg [mt 98 12,
oq 99 (bi .quo (.t 98) (.c (.int .u64 (.ofNat 1000000000)))),
mt 9 99])
(.seq (.reg [mt 100 0,
mt 101 10,
oq 102 (.iaddr (.slice 1) (.t 100) (.t 101)),
oq 103 (ld 102),
oq 104 (.conv (.int .i64) (.t 103)),
mt 105 12,
oq 106 (bi .rem (.t 105) (.c (.int .u64 (.ofNat 1000000000)))),
oq 107 (.conv (.int .i64) (.t 106)),
oq 108 (bi .sub (.t 104) (.t 107)),
mt 13 108])
(.seq (.seq (.reg [mt 109 13,
oq 110 (bi .lss (.t 109) (ci 0))])
(.cond (.t 110) (.seq (.reg [mt 111 13,
oq 112 (bi .add (.t 111) (ci 1000000000)),
mt 13 112])
(.reg [mt 113 9,
oq 114 (bi .add (.t 113) (.c (.int .u64 (.ofNat 1)))),
mt 9 114])) .skip))
(.reg [mt 115 0,
mt 116 10,
mt 117 13,
oq 118 (.conv (.int .u32) (.t 117)),
oq 119 (.iaddr (.slice 1) (.t 115) (.t 116)),
⟨none,(.x (.st 1 (.t 119) (.t 118))),none,0⟩])))))))
(.reg [oq 120 (bi .add (.t 87) (ci 1)),
mt 87 120])))))))
(.seq (.seq (.reg [mt 121 0,
mt 122 5,
oq 123 (.iaddr (.slice 1) (.t 121) (.t 122)),
oq 124 (ld 123),
oq 125 (.conv (.int .u64) (.t 124)),
mt 126 9,
oq 127 (bi .lss (.t 125) (.t 126))])
(.cond (.t 127) (.seq (.reg [mt 128 7,
oq 129 (bi .sub (.t 128) (.c (.int .u64 (.ofNat 1)))),
mt 7 129])
(.seq (.reg [oq 14 (.mv (.c (.int .u32 (.ofNat 0))))])
(.seq (.reg [mt 130 1,
oq 131 (.lenSl (.t 130)),
oq 132 (.mv (ci 0))])
(.block 4 (.loop (.seq (.reg [oq 133 (bi .lss (.t 132) (.t 131))])
(.seq (.cond (.t 133) .skip (.exit 4))
(.seq (.block 5 (.seq (.reg [mt 134 132,
oq 135 (.iaddr (.slice 1) (.t 130) (.t 132)),
oq 136 (ld 135),
mt 15 134,
mt 16 136])
(.seq (.reg [mt 137 0,
mt 138 15,
oq 139 (.iaddr (.slice 1) (.t 137) (.t 138)),
oq 140 (ld 139),
mt 141 16,
oq 142 (bi .add (.t 140) (.t 141)),
mt 143 14,
oq 144 (bi .add (.t 142) (.t 143)),
mt 17 144])
(.seq (.reg [oq 14 (.mv (.c (.int .u32 (.ofNat 0))))])
(.seq (.seq (.reg [mt 145 17,
oq 146 (bi .geq (.t 145) (.c (.int .u32 (.ofNat 1000000000))))])
(.cond (.t 146) (.seq (.reg [mt 147 17,
oq 148 (bi .sub (.t 147) (.c (.int .u32 (.ofNat 1000000000)))),
mt 17 148])
(.reg [oq 14 (.mv (.c (.int .u32 (.ofNat 1))))])) .skip))
(.reg [mt 149 0,
mt 150 15,
mt 151 17,
oq 152 (.iaddr (.slice 1) (.t 149) (.t 150)),
⟨none,(.x (.st 1 (.t 152) (.t 151))),none,0⟩]))))))
(.reg [oq 153 (bi .add (.t 132) (ci 1)),
mt 132 153]))))))))) .skip))
(.seq (.reg [mt 154 0,
mt 155 5,
oq 156 (.iaddr (.slice 1) (.t 154) (.t 155)),
⟨none,(.x (.st 1 (.t 156) (.c (.int .u32 (.ofNat 0))))),none,0⟩])
(.seq (.reg [mt 157 7,
oq 158 (.conv (.int .u32) (.t 157)),
mt 4 158])
.ret))))))))))⟩
theorem row129 : Row Go.Proofs.Tryd.prog (129, a129) := ⟨Go.Proofs.Tryd.f129, Go.Proofs.Tryd.func129, by kernel_rfl⟩
noncomputable def a133 : AFn :=
⟨21,[(.t 2)],(.seq (.reg [oq 2 (.mv (.c .nilsl))])
(.seq (.block 0 (.loop (.seq (.seq (.reg [mt 3 0,
oq 4 (.lenSl (.t 3)),
oq 5 (bi .gtr (.t 4) (ci 0)),
mt 6 5,
og 7 6 true 0 (.mv (.t 0)),
og 8 6 true 0 (.mv (.t 0)),
og 9 6 true 0 (.lenSl (.t 8)),
og 10 6 true 0 (bi .sub (.t 9) (ci 1)),
og 11 6 true 0 (.iaddr (.slice 1) (.t 7) (.t 10)),
og 12 6 true 0 (ld 11),
og 13 6 true 0 (bi .eql (.t 12) (.c (.int .u32 (.ofNat 0)))),
oq 14 (.pick (.t 6) (.t 13) (.c (.bool false)))])
(.cond (.t 14) .skip (.exit 0)))
(.block 1 (.reg [mt 15 0,
mt 16 0,
oq 17 (.lenSl (.t 16)),
oq 18 (bi .sub (.t 17) (ci 1)),
oq 19 (.slc (.slice 1) (.t 15) none (some (.t 18)) none),
mt 0 19])))))
(.seq (.reg [mt 20 0,
mt 2 20])
.ret)))⟩
theorem row133 : Row Go.Proofs.Tryd.prog (133, a133) := ⟨Go.Proofs.Tryd.f133, Go.Proofs.Tryd.func133, by kernel_rfl⟩
noncomputable def a134 : AFn :=
⟨14,[(.t 2)],(.seq (.reg [oq 2 (.mv (ci 0))])
(.seq (.seq (.reg [mt 3 0,
oq 4 (bi .eql (.t 3) (.c (.int .u64 (.ofNat 0))))])
(.cond (.t 4) (.seq (.reg [oq 2 (.mv (ci 64))])
.ret) .skip))
(.seq (.reg [mt 5 0,
mt 6 0,
oq 7 (.un .neg (.t 6)),
oq 8 (bi .and (.t 5) (.t 7)),
oq 9 (bi .mul (.t 8) (.c (.int .u64 (.ofNat 285870213051353865)))),
oq 10 (bi .shr (.t 9) (.c (.int .u64 (.ofNat 58)))),
oq 11 (.iaddr (.arr 64 1) (.c (.ptr 2 0)) (.t 10)),
oq 12 (ld 11),
oq 13 (.conv (.int .i64) (.t 12)),
mt 2 13])
.ret)))⟩
theorem row134 : Row Go.Proofs.Tryd.prog (134, a134) := ⟨Go.Proofs.Tryd.f134, Go.Proofs.Tryd.func134, by kernel_rfl⟩
noncomputable def a135 : AFn :=
⟨69,[(.t 4),(.t 5),(.t 6),(.t 7)],(.seq (.reg [oq 4 (.mv (ci 0)),
oq 5 (.mv (ci 0)),
oq 6 (.mv (ci 0)),
oq 7 (.mv (ci 0))])
(.seq (.reg [oq 4 (.mv (ci 1)),
oq 5 (.mv (ci 0)),
oq 6 (.mv (ci 0)),
oq 7 (.mv (ci 1))])
(.seq (.block 0 (.loop (.seq (.seq (.reg [mt 11 1,
mt 12 6,
oq 13 (bi .add (.t 11) (.t 12)),
oq 14 (bi .neq (.t 13) (ci 0)),
mt 15 14,
og 16 15 true 0 (.mv (.t 1)),
og 17 15 true 0 (.mv (.t 7)),
og 18 15 true 0 (bi .add (.t 16) (.t 17)),
og 19 15 true 0 (bi .neq (.t 18) (ci 0)),
oq 20 (.pick (.t 15) (.t 19) (.c (.bool false)))])
(.cond (.t 20) .skip (.exit 0)))
(.block 1 (.seq (.reg [mt 21 0,
mt 22 4,
oq 23 (bi .add (.t 21) (.t 22)),
mt 24 1,
mt 25 6,
oq 26 (bi .add (.t 24) (.t 25)),
oq 27 (bi .quo (.t 23) (.t 26)),
mt 8 27])
(.seq (.seq (.reg [mt 28 8,
mt 29 0,
mt 30 5,
oq 31 (bi .add (.t 29) (.t 30)),
mt 32 1,
mt 33 7,
oq 34 (bi .add (.t 32) (.t 33)),
oq 35 (bi .quo (.t 31) (.t 34)),
oq 36 (bi .neq (.t 28) (.t 35))])
(.cond (.t 36) (.exit 0) .skip))
(.seq (.reg [mt 37 4,
mt 38 8,
mt 39 6,
oq 40 (bi .mul (.t 38) (.t 39)),
oq 41 (bi .sub (.t 37) (.t 40)),
mt 42 5,
mt 43 8,
mt 44 7,
oq 45 (bi .mul (.t 43) (.t 44)),
oq 46 (bi .sub (.t 42) (.t 45)),
mt 9 41,
mt 10 46])
(.seq (.seq (.reg [mt 47 9,
mt 48 9,
oq 49 (.un .neg (.t 48)),
mt 50 10,
mt 51 10,
oq 52 (.un .neg (.t 51)),
oq 53 (.minmax true [(.t 47),(.t 49),(.t 50),(.t 52)]),
oq 54 (bi .geq (.t 53) (ci 1000000000))])
(.cond (.t 54) (.exit 0) .skip))
(.seq (.reg [mt 55 6,
mt 56 7,
mt 57 9,
mt 58 10,
mt 4 55,
mt 5 56,
mt 6 57,
mt 7 58])
(.reg [mt 59 1,
mt 60 0,
mt 61 8,
mt 62 1,
oq 63 (bi .mul (.t 61) (.t 62)),
oq 64 (bi .sub (.t 60) (.t 63)),
mt 0 59,
mt 1 64]))))))))))
(.seq (.reg [mt 65 4,
mt 66 5,
mt 67 6,
mt 68 7,
mt 4 65,
mt 5 66,
mt 6 67,
mt 7 68])
.ret))))⟩
theorem row135 : Row Go.Proofs.Tryd.prog (135, a135) := ⟨Go.Proofs.Tryd.f135, Go.Proofs.Tryd.func135, by kernel_rfl⟩
noncomputable def a136 : AFn :=
⟨30,[(.t 4),(.t 5)],(.seq (.reg [oq 4 (.mv (ci 0)),
oq 5 (.mv (ci 0))])
(.seq (.reg [mt 9 0,
oq 10 (.lenSl (.t 9)),
⟨(some 6),(.a (.alloc 3 [(.int .i64 (.ofNat 0))])),none,0⟩,
⟨none,(.x (.st 1 (.t 6) (.t 10))),none,0⟩])
(.seq (.reg [⟨(some 7),(.a (.alloc 88 [(.int .u64 (.ofNat 0))])),none,0⟩,
⟨none,(.x (.st 1 (.t 7) (.c (.int .u64 (.ofNat 1))))),none,0⟩])
(.seq (.block 0 (.loop (.seq (.seq (.drw [mt 11 0,
oq 12 (ld 6),
om 13 2 (bi .sub (.t 12) (ci 1)),
om 14 7 (.iaddr (.slice 1) (.t 11) (.t 13)),
om 15 15 (ld 14),
om 16 31 (.conv (.int .u64) (.t 15)),
oq 17 (ld 7),
om 18 127 (bi .mul (.t 16) (.t 17)),
om 19 255 (bi .mul (.t 18) (.c (.int .u64 (.ofNat 10)))),
om 20 511 (bi .lss (.t 19) (.c (.int .u64 (.ofNat 1000000000))))])
(.cond (.t 20) .skip (.exit 0)))
(.block 1 (.reg [oq 21 (ld 7),
oq 22 (bi .mul (.t 21) (.c (.int .u64 (.ofNat 10)))),
⟨none,(.x (.st 1 (.t 7) (.t 22))),none,0⟩])))))
(.seq (.reg [oq 23 (.mkFunc 142 [] [(.t 6),(.t 7)]),
mt 8 23])
(.seq (.reg [mt 24 8,
mt 25 0,
⟨(some 26),(.x (.call (.t 24) [(.t 25)])),none,0⟩,
mt 27 8,
mt 28 1,
⟨(some 29),(.x (.call (.t 27) [(.t 28)])),none,0⟩,
mt 4 26,
mt 5 29])
.ret))))))⟩
theorem row136 : Row Go.Proofs.Tryd.prog (136, a136) := ⟨Go.Proofs.Tryd.f136, Go.Proofs.Tryd.func136, by kernel_rfl⟩
noncomputable def a137 : AFn :=
⟨63,[(.t 8)],(.seq (.reg [oq 8 (.mv (.c .nilsl))])
(.seq (.reg [mt 13 0,
oq 14 (.lenSl (.t 13)),
⟨(some 15),(.a (.mkSlice 41 1 4 [(.int .u32 (.ofNat 0))] (.t 14) (.t 14))),none,0⟩,
mt 9 15])
(.seq (.reg [oq 10 (.mv (ci 0))])
(.seq (.seq (.reg [mt 16 0,
oq 17 (.lenSl (.t 16)),
oq 18 (.mv (ci 0))])
(.block 0 (.loop (.seq (.reg [oq 19 (bi .lss (.t 18) (.t 17))])
(.seq (.cond (.t 19) .skip (.exit 0))
(.seq (.block 1 (.seq (.reg [mt 20 18,
mt 11 20])
(.seq (.reg [mt 21 2,
mt 22 0,
mt 23 11,
oq 24 (.iaddr (.slice 1) (.t 22) (.t 23)),
oq 25 (ld 24),
oq 26 (.conv (.int .i64) (.t 25)),
oq 27 (bi .mul (.t 21) (.t 26)),
mt 28 10,
oq 29 (bi .add (.t 27) (.t 28)),
mt 12 29])
(.seq (.seq (.reg [mt 30 11,
mt 31 1,
oq 32 (.lenSl (.t 31)),
oq 33 (bi .lss (.t 30) (.t 32))])
(.cond (.t 33) (.reg [mt 34 12,
mt 35 3,
mt 36 1,
mt 37 11,
oq 38 (.iaddr (.slice 1) (.t 36) (.t 37)),
oq 39 (ld 38),
oq 40 (.conv (.int .i64) (.t 39)),
oq 41 (bi .mul (.t 35) (.t 40)),
oq 42 (bi .add (.t 34) (.t 41)),
mt 12 42]) .skip))
(.seq (.reg [mt 43 12,
oq 44 (bi .quo (.t 43) (ci 1000000000)),
mt 10 44])
(.seq (.reg [mt 45 12,
mt 46 10,
oq 47 (bi .mul (.t 46) (ci 1000000000)),
oq 48 (bi .sub (.t 45) (.t 47)),
mt 12 48])
(.seq (.seq (.reg [mt 49 12,
oq 50 (bi .lss (.t 49) (ci 0))])
(.cond (.t 50) (.seq (.reg [mt 51 12,
oq 52 (bi .add (.t 51) (ci 1000000000)),
mt 12 52])
(.reg [mt 53 10,
oq 54 (bi .sub (.t 53) (ci 1)),
mt 10 54])) .skip))
(.reg [mt 55 9,
mt 56 11,
mt 57 12,
oq 58 (.conv (.int .u32) (.t 57)),
oq 59 (.iaddr (.slice 1) (.t 55) (.t 56)),
⟨none,(.x (.st 1 (.t 59) (.t 58))),none,0⟩]))))))))
(.reg [oq 60 (bi .add (.t 18) (ci 1)),
mt 18 60])))))))
(.seq (.reg [mt 61 9,
oc 62 103 [(.t 61)] 0,
mt 8 62])
.ret)))))⟩
theorem row137 : Row Go.Proofs.Tryd.prog (137, a137) := ⟨Go.Proofs.Tryd.f137, Go.Proofs.Tryd.func137, by kernel_rfl⟩
noncomputable def a138 : AFn :=
⟨6,[(.t 2)],(.seq (.reg [oq 2 (.mv (.c .nilsl))])
(.seq (.reg [mt 3 0,
⟨(some 4),(.a (.bslice 41 1 1 [(.int .u32 (.ofNat 0))] [(0,(.t 3))])),none,0⟩,
oc 5 133 [(.t 4)] 0,
mt 2 5])
.ret))⟩
theorem row138 : Row Go.Proofs.Tryd.prog (138, a138) := ⟨Go.Proofs.Tryd.f138, Go.Proofs.Tryd.func138, by kernel_rfl⟩
noncomputable def a142 : AFn :=
⟨28,[(.t 4)],(.seq (.reg [⟨(some 3),(.a (.box 23 (.t 0))),none,0⟩,
oq 4 (.mv (ci 0))])
(.seq (.reg [oq 6 (.mkFunc 143 [] [(.t 3)]),
mt 5 6])
(.seq (.drw [mt 7 5,
oq 8 (ld 1),
om 9 2 (bi .sub (.t 8) (ci 1)),
⟨(some 10),(.x (.call (.t 7) [(.t 9)])),none,7⟩,
om 11 15 (bi .mul (.t 10) (.c (.int .u64 (.ofNat 1000000000)))),
mt 12 5,
oq 13 (ld 1),
om 14 64 (bi .sub (.t 13) (ci 2)),
⟨(some 15),(.x (.call (.t 12) [(.t 14)])),none,239⟩,
om 16 511 (bi .add (.t 11) (.t 15)),
oq 17 (ld 2),
om 18 2047 (bi .mul (.t 16) (.t 17)),
mt 19 5,
oq 20 (ld 1),
om 21 8192 (bi .sub (.t 20) (ci 3)),
⟨(some 22),(.x (.call (.t 19) [(.t 21)])),none,29167⟩,
oq 23 (ld 2),
om 24 127471 (bi .mul (.t 22) (.t 23)),
om 25 258543 (bi .quo (.t 24) (.c (.int .u64 (.ofNat 1000000000)))),
om 26 524287 (bi .add (.t 18) (.t 25)),
om 27 1048575 (.conv (.int .i64) (.t 26)),
om 4 2097151 (.mv (.t 27))])
.ret)))⟩
theorem row142 : Row Go.Proofs.Tryd.prog (142, a142) := ⟨Go.Proofs.Tryd.f142, Go.Proofs.Tryd.func142, by kernel_rfl⟩
noncomputable def a143 : AFn :=
⟨13,[(.t 3)],(.seq (.reg [oq 3 (.mv (.c (.int .u64 (.ofNat 0))))])
(.seq (.seq (.reg [mt 4 0,
oq 5 (ld 1),
oq 6 (.lenSl (.t 5)),
oq 7 (bi .lss (.t 4) (.t 6))])
(.cond (.t 7) (.seq (.reg [oq 8 (ld 1),
mt 9 0,
oq 10 (.iaddr (.slice 1) (.t 8) (.t 9)),
oq 11 (ld 10),
oq 12 (.conv (.int .u64) (.t 11)),
mt 3 12])
.ret) .skip))
(.seq (.reg [oq 3 (.mv (.c (.int .u64 (.ofNat 0))))])
.ret)))⟩
theorem row143 : Row Go.Proofs.Tryd.prog (143, a143) := ⟨Go.Proofs.Tryd.f143, Go.Proofs.Tryd.func143, by kernel_rfl⟩
end Go.Ev.Gl
