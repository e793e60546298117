/- Functions of the program as data of the evaluator, written by program; each is shown to be the compiler's result on the loaded function. -/
import Derived.Test.YtmbmidkdinllgaaGreatDoorProg
import Derived.Test.YtmbmidkdinllgaaGreatDoorEv8
import Derived.KernelRfl
namespace Go.Ev.Gl
set_option maxRecDepth 100000
noncomputable def a60 : AFn :=
⟨5,[(.t 2)],(.seq (.reg [oq 2 (.mv (.c .nilsl))])
(.seq (.reg [mt 3 0,
⟨(some 4),(.x (.app 47 1 4 (.c .nilsl) (.t 3))),none,0⟩,
mt 2 4])
.ret))⟩
theorem row60 : Row Go.Proofs.Tryz.prog (60, a60) := ⟨Go.Proofs.Tryz.f60, Go.Proofs.Tryz.func60, by kernel_rfl⟩
noncomputable def a61 : AFn :=
⟨17,[(.t 4)],(.seq (.reg [oq 4 (.mv (.c .nilsl))])
(.seq (.seq (.reg [mt 7 1,
oc 8 19 [(.t 7)] 0])
(.cond (.t 8) (.seq (.reg [mt 9 0,
mt 4 9])
.ret) .skip))
(.seq (.reg [mt 11 0,
mt 12 1,
oc 13 73 [(.t 11),(.t 12)] 0,
mt 10 13,
oq 14 (.extract (.t 10) 0),
oq 15 (.extract (.t 10) 1),
mt 5 14,
mt 6 15])
(.seq (.reg [mt 16 5,
mt 4 16])
.ret))))⟩
theorem row61 : Row Go.Proofs.Tryz.prog (61, a61) := ⟨Go.Proofs.Tryz.f61, Go.Proofs.Tryz.func61, by kernel_rfl⟩
noncomputable def a62 : AFn :=
⟨21,[(.t 2)],(.seq (.reg [oq 2 (.mv (.c .nilsl))])
(.seq (.block 0 (.loop (.seq (.seq (.reg [mt 3 0,
oq 4 (.lenSl (.t 3)),
oq 5 (bi .gtr (.t 4) (ci 0)),
mt 6 5,
og 7 6 true 0 (.mv (.t 0)),
og 8 6 true 0 (.mv (.t 0)),
og 9 6 true 0 (.lenSl (.t 8)),
og 10 6 true 0 (bi .sub (.t 9) (ci 1)),
og 11 6 true 0 (.iaddr (.slice 1) (.t 7) (.t 10)),
og 12 6 true 0 (ld 11),
og 13 6 true 0 (bi .eql (.t 12) (.c (.int .u32 (.ofNat 0)))),
oq 14 (.pick (.t 6) (.t 13) (.c (.bool false)))])
(.cond (.t 14) .skip (.exit 0)))
(.block 1 (.reg [mt 15 0,
mt 16 0,
oq 17 (.lenSl (.t 16)),
oq 18 (bi .sub (.t 17) (ci 1)),
oq 19 (.slc (.slice 1) (.t 15) none (some (.t 18)) none),
mt 0 19])))))
(.seq (.reg [mt 20 0,
mt 2 20])
.ret)))⟩
theorem row62 : Row Go.Proofs.Tryz.prog (62, a62) := ⟨Go.Proofs.Tryz.f62, Go.Proofs.Tryz.func62, by kernel_rfl⟩
noncomputable def a63 : AFn :=
⟨156,[(.t 4),(.t 5)],(.seq (.reg [oq 4 (.mv (.c .nilsl)),
oq 5 (.mv (.c .nilsl))])
(.seq (.seq (.reg [mt 15 0,
mt 16 1,
oc 17 22 [(.t 15),(.t 16)] 0,
oq 18 (bi .lss (.t 17) (ci 0))])
(.cond (.t 18) (.seq (.reg [mt 19 0,
oq 4 (.mv (.c .nilsl)),
mt 5 19])
.ret) .skip))
(.seq (.reg [mt 20 1,
mt 21 1,
oq 22 (.lenSl (.t 21)),
oq 23 (bi .sub (.t 22) (ci 1)),
oq 24 (.iaddr (.slice 1) (.t 20) (.t 23)),
oq 25 (ld 24),
oq 26 (.conv (.int .u64) (.t 25)),
oq 27 (bi .add (.t 26) (.c (.int .u64 (.ofNat 1)))),
oq 28 (bi .quo (.c (.int .u64 (.ofNat 1000000000))) (.t 27)),
oq 29 (.conv (.int .u32) (.t 28)),
oc 30 87 [(.t 29)] 0,
mt 6 30])
(.seq (.reg [mt 31 0,
mt 32 6,
oc 33 88 [(.t 31),(.t 32)] 0,
mt 34 1,
mt 35 6,
oc 36 88 [(.t 34),(.t 35)] 0,
mt 0 33,
mt 1 36])
(.seq (.reg [mt 37 1,
mt 38 1,
oq 39 (.lenSl (.t 38)),
oq 40 (bi .sub (.t 39) (ci 1)),
oq 41 (.iaddr (.slice 1) (.t 37) (.t 40)),
oq 42 (ld 41),
oq 43 (.conv (.int .u64) (.t 42)),
mt 7 43])
(.seq (.reg [mt 44 1,
oq 45 (.lenSl (.t 44)),
mt 8 45])
(.seq (.drw [mt 46 0,
om 47 1 (.lenSl (.t 46)),
mt 48 8,
om 49 7 (bi .sub (.t 47) (.t 48)),
om 50 15 (bi .add (.t 49) (ci 1)),
⟨(some 51),(.a (.mkSlice 47 1 4 [(.int .u32 (.ofNat 0))] (.t 50) (.t 50))),none,31⟩,
mt 52 5,
mt 53 0,
mt 54 0,
om 55 256 (.lenSl (.t 54)),
mt 56 8,
om 57 1792 (bi .sub (.t 55) (.t 56)),
om 58 3840 (bi .add (.t 57) (ci 1)),
om 59 8064 (.slc (.slice 1) (.t 53) (some (.t 58)) none none),
⟨(some 60),(.x (.app 47 1 4 (.t 52) (.t 59))),none,16320⟩,
om 4 32767 (.mv (.t 51)),
om 5 65535 (.mv (.t 60))])
(.seq (.seq (.reg [mt 61 0,
oq 62 (.lenSl (.t 61)),
mt 63 8,
oq 64 (bi .sub (.t 62) (.t 63)),
mt 9 64])
(.block 0 (.loop (.seq (.seq (.reg [mt 65 9,
oq 66 (bi .geq (.t 65) (ci 0))])
(.cond (.t 66) .skip (.exit 0)))
(.seq (.block 1 (.seq (.reg [mt 69 0,
mt 70 9,
oq 71 (.iaddr (.slice 1) (.t 69) (.t 70)),
oq 72 (ld 71),
⟨(some 73),(.a (.bslice 47 1 1 [(.int .u32 (.ofNat 0))] [(0,(.t 72))])),none,0⟩,
mt 74 5,
⟨(some 75),(.x (.app 47 1 4 (.t 73) (.t 74))),none,0⟩,
oc 76 62 [(.t 75)] 0,
mt 5 76])
(.seq (.reg [oq 10 (.mv (.c (.int .u64 (.ofNat 0))))])
(.seq (.seq (.reg [mt 77 5,
oq 78 (.lenSl (.t 77)),
oq 79 (bi .sub (.t 78) (ci 1)),
mt 11 79])
(.block 2 (.loop (.seq (.seq (.reg [mt 80 11,
mt 81 1,
oq 82 (.lenSl (.t 81)),
oq 83 (bi .sub (.t 82) (ci 1)),
oq 84 (bi .geq (.t 80) (.t 83))])
(.cond (.t 84) .skip (.exit 2)))
(.seq (.block 3 (.reg [mt 87 10,
oq 88 (bi .mul (.t 87) (.c (.int .u64 (.ofNat 1000000000)))),
mt 89 5,
mt 90 11,
oq 91 (.iaddr (.slice 1) (.t 89) (.t 90)),
oq 92 (ld 91),
oq 93 (.conv (.int .u64) (.t 92)),
oq 94 (bi .add (.t 88) (.t 93)),
mt 10 94]))
(.reg [mt 85 11,
oq 86 (bi .sub (.t 85) (ci 1)),
mt 11 86]))))))
(.seq (.reg [mt 95 10,
mt 96 7,
oq 97 (bi .quo (.t 95) (.t 96)),
oq 98 (.minmax false [(.t 97),(.c (.int .u64 (.ofNat 999999999)))]),
mt 12 98])
(.seq (.block 4 (.loop (.seq (.seq (.reg [mt 99 1,
mt 100 12,
oq 101 (.conv (.int .u32) (.t 100)),
oc 102 87 [(.t 101)] 0,
oc 103 88 [(.t 99),(.t 102)] 0,
mt 104 5,
oc 105 22 [(.t 103),(.t 104)] 0,
oq 106 (bi .gtr (.t 105) (ci 0))])
(.cond (.t 106) .skip (.exit 4)))
(.block 5 (.reg [mt 107 12,
oq 108 (bi .sub (.t 107) (.c (.int .u64 (.ofNat 1)))),
mt 12 108])))))
(.reg [mt 109 4,
mt 110 9,
mt 111 5,
mt 112 1,
mt 113 12,
oq 114 (.conv (.int .u32) (.t 113)),
oc 115 87 [(.t 114)] 0,
oc 116 88 [(.t 112),(.t 115)] 0,
oc 117 89 [(.t 111),(.t 116)] 0,
mt 118 12,
oq 119 (.conv (.int .u32) (.t 118)),
mt 5 117,
oq 120 (.iaddr (.slice 1) (.t 109) (.t 110)),
⟨none,(.x (.st 1 (.t 120) (.t 119))),none,0⟩])))))))
(.reg [mt 67 9,
oq 68 (bi .sub (.t 67) (ci 1)),
mt 9 68]))))))
(.seq (.reg [oq 13 (.mv (.c (.int .u64 (.ofNat 0))))])
(.seq (.seq (.reg [mt 121 5,
oq 122 (.lenSl (.t 121)),
oq 123 (bi .sub (.t 122) (ci 1)),
mt 14 123])
(.block 6 (.loop (.seq (.seq (.reg [mt 124 14,
oq 125 (bi .geq (.t 124) (ci 0))])
(.cond (.t 125) .skip (.exit 6)))
(.seq (.block 7 (.seq (.reg [mt 128 13,
oq 129 (bi .mul (.t 128) (.c (.int .u64 (.ofNat 1000000000)))),
mt 130 5,
mt 131 14,
oq 132 (.iaddr (.slice 1) (.t 130) (.t 131)),
oq 133 (ld 132),
oq 134 (.conv (.int .u64) (.t 133)),
oq 135 (bi .add (.t 129) (.t 134)),
mt 13 135])
(.seq (.reg [mt 136 5,
mt 137 14,
mt 138 13,
mt 139 6,
oq 140 (.iaddr (.slice 1) (.t 139) (ci 0)),
oq 141 (ld 140),
oq 142 (.conv (.int .u64) (.t 141)),
oq 143 (bi .quo (.t 138) (.t 142)),
oq 144 (.conv (.int .u32) (.t 143)),
oq 145 (.iaddr (.slice 1) (.t 136) (.t 137)),
⟨none,(.x (.st 1 (.t 145) (.t 144))),none,0⟩])
(.reg [mt 146 13,
mt 147 6,
oq 148 (.iaddr (.slice 1) (.t 147) (ci 0)),
oq 149 (ld 148),
oq 150 (.conv (.int .u64) (.t 149)),
oq 151 (bi .rem (.t 146) (.t 150)),
mt 13 151]))))
(.reg [mt 126 14,
oq 127 (bi .sub (.t 126) (ci 1)),
mt 14 127]))))))
(.seq (.reg [mt 152 4,
oc 153 62 [(.t 152)] 0,
mt 154 5,
oc 155 62 [(.t 154)] 0,
mt 4 153,
mt 5 155])
.ret)))))))))))⟩
theorem row63 : Row Go.Proofs.Tryz.prog (63, a63) := ⟨Go.Proofs.Tryz.f63, Go.Proofs.Tryz.func63, by kernel_rfl⟩
noncomputable def a71 : AFn :=
⟨41,[(.t 4)],(.seq (.reg [oq 4 (.mv (ci 0))])
(.seq (.seq (.reg [mt 6 0,
oq 7 (.lenSl (.t 6)),
mt 8 1,
oq 9 (.lenSl (.t 8)),
oq 10 (bi .neq (.t 7) (.t 9))])
(.cond (.t 10) (.seq (.seq (.reg [mt 11 0,
oq 12 (.lenSl (.t 11)),
mt 13 1,
oq 14 (.lenSl (.t 13)),
oq 15 (bi .lss (.t 12) (.t 14))])
(.cond (.t 15) (.seq (.reg [oq 4 (.mv (.c (.int .i64 (.negSucc 0))))])
.ret) .skip))
(.seq (.reg [oq 4 (.mv (ci 1))])
.ret)) .skip))
(.seq (.seq (.reg [mt 16 0,
oq 17 (.lenSl (.t 16)),
oq 18 (bi .sub (.t 17) (ci 1)),
mt 5 18])
(.block 0 (.loop (.seq (.seq (.reg [mt 19 5,
oq 20 (bi .geq (.t 19) (ci 0))])
(.cond (.t 20) .skip (.exit 0)))
(.seq (.block 1 (.seq (.seq (.drw [mt 23 0,
mt 24 5,
om 25 3 (.iaddr (.slice 1) (.t 23) (.t 24)),
om 26 7 (ld 25),
mt 27 1,
mt 28 5,
om 29 48 (.iaddr (.slice 1) (.t 27) (.t 28)),
om 30 112 (ld 29),
om 31 255 (bi .lss (.t 26) (.t 30))])
(.cond (.t 31) (.seq (.reg [oq 4 (.mv (.c (.int .i64 (.negSucc 0))))])
.ret) .skip))
(.seq (.drw [mt 32 0,
mt 33 5,
om 34 3 (.iaddr (.slice 1) (.t 32) (.t 33)),
om 35 7 (ld 34),
mt 36 1,
mt 37 5,
om 38 48 (.iaddr (.slice 1) (.t 36) (.t 37)),
om 39 112 (ld 38),
om 40 255 (bi .gtr (.t 35) (.t 39))])
(.cond (.t 40) (.seq (.reg [oq 4 (.mv (ci 1))])
.ret) .skip))))
(.reg [mt 21 5,
oq 22 (bi .sub (.t 21) (ci 1)),
mt 5 22]))))))
(.seq (.reg [oq 4 (.mv (ci 0))])
.ret))))⟩
theorem row71 : Row Go.Proofs.Tryz.prog (71, a71) := ⟨Go.Proofs.Tryz.f71, Go.Proofs.Tryz.func71, by kernel_rfl⟩
noncomputable def a73 : AFn :=
⟨93,[(.t 4),(.t 5)],(.seq (.reg [oq 4 (.mv (.c .nilsl)),
oq 5 (.mv (.c .nilsl))])
(.seq (.seq (.reg [mt 13 0,
mt 14 1,
oc 15 71 [(.t 13),(.t 14)] 0,
oq 16 (bi .lss (.t 15) (ci 0))])
(.cond (.t 16) (.seq (.reg [mt 17 0,
oc 18 60 [(.t 17)] 0,
oq 4 (.mv (.c .nilsl)),
mt 5 18])
.ret) .skip))
(.seq (.seq (.reg [mt 19 1,
oq 20 (.lenSl (.t 19)),
oq 21 (bi .eql (.t 20) (ci 1))])
(.cond (.t 21) (.seq (.reg [mt 23 0,
mt 24 1,
oq 25 (.iaddr (.slice 1) (.t 24) (ci 0)),
oq 26 (ld 25),
oc 27 93 [(.t 23),(.t 26)] 0,
mt 22 27,
oq 28 (.extract (.t 22) 0),
oq 29 (.extract (.t 22) 1),
mt 6 28,
mt 7 29])
(.seq (.reg [mt 30 6,
mt 31 7,
oq 32 (.conv (.int .u64) (.t 31)),
oc 33 45 [(.t 32)] 0,
mt 4 30,
mt 5 33])
.ret)) .skip))
(.seq (.reg [mt 34 1,
oq 35 (.lenSl (.t 34)),
mt 8 35])
(.seq (.reg [mt 36 1,
mt 37 8,
oq 38 (bi .sub (.t 37) (ci 1)),
oq 39 (.iaddr (.slice 1) (.t 36) (.t 38)),
oq 40 (ld 39),
oq 41 (.conv (.int .u64) (.t 40)),
oq 42 (bi .add (.t 41) (.c (.int .u64 (.ofNat 1)))),
oq 43 (bi .quo (.c (.int .u64 (.ofNat 1000000000))) (.t 42)),
mt 9 43])
(.seq (.reg [mt 44 0,
mt 45 9,
mt 46 0,
oq 47 (.lenSl (.t 46)),
oq 48 (bi .add (.t 47) (ci 1)),
oc 49 94 [(.t 44),(.t 45),(.t 48)] 0,
mt 10 49])
(.seq (.reg [mt 50 1,
mt 51 9,
mt 52 8,
oc 53 94 [(.t 50),(.t 51),(.t 52)] 0,
mt 11 53])
(.seq (.reg [mt 54 0,
oq 55 (.lenSl (.t 54)),
mt 56 8,
oq 57 (bi .sub (.t 55) (.t 56)),
oq 58 (bi .add (.t 57) (ci 1)),
⟨(some 59),(.a (.mkSlice 47 1 4 [(.int .u32 (.ofNat 0))] (.t 58) (.t 58))),none,0⟩,
mt 4 59])
(.seq (.seq (.reg [mt 60 0,
oq 61 (.lenSl (.t 60)),
mt 62 8,
oq 63 (bi .sub (.t 61) (.t 62)),
mt 12 63])
(.block 0 (.loop (.seq (.seq (.reg [mt 64 12,
oq 65 (bi .geq (.t 64) (ci 0))])
(.cond (.t 65) .skip (.exit 0)))
(.seq (.block 1 (.reg [mt 68 4,
mt 69 12,
mt 70 10,
mt 71 12,
mt 72 12,
mt 73 8,
oq 74 (bi .add (.t 72) (.t 73)),
oq 75 (bi .add (.t 74) (ci 1)),
oq 76 (.slc (.slice 1) (.t 70) (some (.t 71)) (some (.t 75)) none),
mt 77 11,
oc 78 95 [(.t 76),(.t 77)] 0,
oq 79 (.iaddr (.slice 1) (.t 68) (.t 69)),
⟨none,(.x (.st 1 (.t 79) (.t 78))),none,0⟩]))
(.reg [mt 66 12,
oq 67 (bi .sub (.t 66) (ci 1)),
mt 12 67]))))))
(.seq (.reg [mt 81 10,
mt 82 8,
oq 83 (.slc (.slice 1) (.t 81) none (some (.t 82)) none),
oc 84 77 [(.t 83)] 0,
mt 85 9,
oq 86 (.conv (.int .u32) (.t 85)),
oc 87 93 [(.t 84),(.t 86)] 0,
mt 80 87,
oq 88 (.extract (.t 80) 0),
oq 89 (.extract (.t 80) 1),
mt 5 88])
(.seq (.reg [mt 90 4,
oc 91 77 [(.t 90)] 0,
mt 92 5,
mt 4 91,
mt 5 92])
.ret)))))))))))⟩
theorem row73 : Row Go.Proofs.Tryz.prog (73, a73) := ⟨Go.Proofs.Tryz.f73, Go.Proofs.Tryz.func73, by kernel_rfl⟩
noncomputable def a77 : AFn :=
⟨21,[(.t 2)],(.seq (.reg [oq 2 (.mv (.c .nilsl))])
(.seq (.block 0 (.loop (.seq (.seq (.reg [mt 3 0,
oq 4 (.lenSl (.t 3)),
oq 5 (bi .gtr (.t 4) (ci 0)),
mt 6 5,
og 7 6 true 0 (.mv (.t 0)),
og 8 6 true 0 (.mv (.t 0)),
og 9 6 true 0 (.lenSl (.t 8)),
og 10 6 true 0 (bi .sub (.t 9) (ci 1)),
og 11 6 true 0 (.iaddr (.slice 1) (.t 7) (.t 10)),
og 12 6 true 0 (ld 11),
og 13 6 true 0 (bi .eql (.t 12) (.c (.int .u32 (.ofNat 0)))),
oq 14 (.pick (.t 6) (.t 13) (.c (.bool false)))])
(.cond (.t 14) .skip (.exit 0)))
(.block 1 (.reg [mt 15 0,
mt 16 0,
oq 17 (.lenSl (.t 16)),
oq 18 (bi .sub (.t 17) (ci 1)),
oq 19 (.slc (.slice 1) (.t 15) none (some (.t 18)) none),
mt 0 19])))))
(.seq (.reg [mt 20 0,
mt 2 20])
.ret)))⟩
theorem row77 : Row Go.Proofs.Tryz.prog (77, a77) := ⟨Go.Proofs.Tryz.f77, Go.Proofs.Tryz.func77, by kernel_rfl⟩
noncomputable def a80 : AFn :=
⟨37,[(.t 4)],(.seq (.reg [oq 4 (.mv (.c (.int .u64 (.ofNat 0))))])
(.seq (.seq (.reg [mt 6 0,
oq 7 (bi .eql (.t 6) (.c (.int .u64 (.ofNat 0))))])
(.cond (.t 7) (.seq (.reg [mt 8 1,
mt 4 8])
.ret) .skip))
(.seq (.seq (.reg [mt 9 1,
oq 10 (bi .eql (.t 9) (.c (.int .u64 (.ofNat 0))))])
(.cond (.t 10) (.seq (.reg [mt 11 0,
mt 4 11])
.ret) .skip))
(.seq (.reg [mt 12 0,
mt 13 1,
oq 14 (bi .or (.t 12) (.t 13)),
oc 15 96 [(.t 14)] 0,
mt 5 15])
(.seq (.reg [mt 16 0,
mt 17 0,
oc 18 96 [(.t 17)] 0,
oq 19 (bi .shr (.t 16) (.t 18)),
mt 0 19])
(.seq (.block 0 (.loop (.seq (.seq (.reg [mt 20 1,
oq 21 (bi .neq (.t 20) (.c (.int .u64 (.ofNat 0))))])
(.cond (.t 21) .skip (.exit 0)))
(.block 1 (.seq (.reg [mt 22 1,
mt 23 1,
oc 24 96 [(.t 23)] 0,
oq 25 (bi .shr (.t 22) (.t 24)),
mt 1 25])
(.seq (.seq (.reg [mt 26 0,
mt 27 1,
oq 28 (bi .gtr (.t 26) (.t 27))])
(.cond (.t 28) (.reg [mt 29 1,
mt 30 0,
mt 0 29,
mt 1 30]) .skip))
(.reg [mt 31 1,
mt 32 0,
oq 33 (bi .sub (.t 31) (.t 32)),
mt 1 33])))))))
(.seq (.reg [mt 34 0,
mt 35 5,
oq 36 (bi .shl (.t 34) (.t 35)),
mt 4 36])
.ret)))))))⟩
theorem row80 : Row Go.Proofs.Tryz.prog (80, a80) := ⟨Go.Proofs.Tryz.f80, Go.Proofs.Tryz.func80, by kernel_rfl⟩
noncomputable def a81 : AFn :=
⟨8,[(.t 4)],(.seq (.reg [oq 4 (.mv (ci 0))])
(.seq (.reg [mt 5 0,
mt 6 1,
oc 7 82 [(.t 5),(.t 6)] 0,
mt 4 7])
.ret))⟩
theorem row81 : Row Go.Proofs.Tryz.prog (81, a81) := ⟨Go.Proofs.Tryz.f81, Go.Proofs.Tryz.func81, by kernel_rfl⟩
noncomputable def a82 : AFn :=
⟨143,[(.t 4)],(.seq (.reg [oq 4 (.mv (ci 0))])
(.seq (.reg [mt 14 1,
oq 15 (.lenStr (.t 14)),
mt 5 15])
(.seq (.block 0 (.seq (.reg [mt 17 5,
oq 18 (bi .eql (.t 17) (ci 0)),
mt 19 18,
og 20 19 false 0 (.mv (.t 1)),
og 21 19 false 0 (.mv (.t 0)),
og 22 19 false 0 (.bin .eql (.p .str) (.t 20) (.t 21)),
oq 23 (.pick (.t 19) (.c (.bool true)) (.t 22)),
mt 16 23])
(.cond (.t 16) (.seq (.reg [oq 4 (.mv (ci 0))])
.ret) (.seq (.reg [mt 25 5,
oq 26 (bi .eql (.t 25) (ci 1)),
mt 24 26])
(.cond (.t 24) (.seq (.reg [mt 27 0,
mt 28 1,
oq 29 (.idxStr (.t 28) (ci 0)),
oc 30 97 [(.t 27),(.t 29)] 0,
mt 4 30])
.ret) (.seq (.reg [mt 32 5,
mt 33 0,
oq 34 (.lenStr (.t 33)),
oq 35 (bi .geq (.t 32) (.t 34)),
mt 31 35])
(.cond (.t 31) (.seq (.reg [oq 4 (.mv (.c (.int .i64 (.negSucc 0))))])
.ret) (.seq (.reg [mt 37 5,
oq 38 (.ld false 1 (.c (.ptr 2 0))),
oq 39 (bi .leq (.t 37) (.t 38)),
mt 40 39,
og 41 40 true 0 (.mv (.t 0)),
og 42 40 true 0 (.lenStr (.t 41)),
og 43 40 true 0 (bi .leq (.t 42) (ci 64)),
oq 44 (.pick (.t 40) (.t 43) (.c (.bool false))),
mt 36 44])
(.cond (.t 36) (.seq (.reg [mt 45 0,
mt 46 1,
oc 47 98 [(.t 45),(.t 46)] 0,
mt 4 47])
.ret) .skip)))))))))
(.seq (.reg [mt 48 1,
oq 49 (.idxStr (.t 48) (ci 0)),
mt 6 49])
(.seq (.reg [mt 50 1,
oq 51 (.idxStr (.t 50) (ci 1)),
mt 7 51])
(.seq (.reg [oq 8 (.mv (ci 0))])
(.seq (.reg [mt 52 0,
oq 53 (.lenStr (.t 52)),
mt 54 5,
oq 55 (bi .sub (.t 53) (.t 54)),
oq 56 (bi .add (.t 55) (ci 1)),
mt 9 56])
(.seq (.reg [oq 10 (.mv (ci 0))])
(.seq (.block 1 (.loop (.seq (.seq (.reg [mt 57 8,
mt 58 9,
oq 59 (bi .lss (.t 57) (.t 58))])
(.cond (.t 59) .skip (.exit 1)))
(.block 2 (.seq (.seq (.reg [mt 60 0,
mt 61 8,
oq 62 (.idxStr (.t 60) (.t 61)),
mt 63 6,
oq 64 (bi .neq (.t 62) (.t 63))])
(.cond (.t 64) (.seq (.reg [mt 65 0,
mt 66 8,
oq 67 (bi .add (.t 66) (ci 1)),
mt 68 9,
oq 69 (.slc .str (.t 65) (some (.t 67)) (some (.t 68)) none),
mt 70 6,
oc 71 97 [(.t 69),(.t 70)] 0,
mt 11 71])
(.seq (.seq (.reg [mt 72 11,
oq 73 (bi .lss (.t 72) (ci 0))])
(.cond (.t 73) (.seq (.reg [oq 4 (.mv (.c (.int .i64 (.negSucc 0))))])
.ret) .skip))
(.reg [mt 74 8,
mt 75 11,
oq 76 (bi .add (.t 75) (ci 1)),
oq 77 (bi .add (.t 74) (.t 76)),
mt 8 77]))) .skip))
(.seq (.seq (.reg [mt 78 0,
mt 79 8,
oq 80 (bi .add (.t 79) (ci 1)),
oq 81 (.idxStr (.t 78) (.t 80)),
mt 82 7,
oq 83 (bi .eql (.t 81) (.t 82)),
mt 84 83,
og 85 84 true 0 (.mv (.t 0)),
og 86 84 true 0 (.mv (.t 8)),
og 87 84 true 0 (.mv (.t 8)),
og 88 84 true 0 (.mv (.t 5)),
og 89 84 true 0 (bi .add (.t 87) (.t 88)),
og 90 84 true 0 (.slc .str (.t 85) (some (.t 86)) (some (.t 89)) none),
og 91 84 true 0 (.mv (.t 1)),
og 92 84 true 0 (.bin .eql (.p .str) (.t 90) (.t 91)),
oq 93 (.pick (.t 84) (.t 92) (.c (.bool false)))])
(.cond (.t 93) (.seq (.reg [mt 94 8,
mt 4 94])
.ret) .skip))
(.seq (.reg [mt 95 8,
oq 96 (bi .add (.t 95) (ci 1)),
mt 8 96])
(.seq (.reg [mt 97 10,
oq 98 (bi .add (.t 97) (ci 1)),
mt 10 98])
(.seq (.reg [mt 99 5,
oq 100 (.ld false 1 (.c (.ptr 2 0))),
oq 101 (bi .leq (.t 99) (.t 100)),
mt 102 101,
og 103 102 true 0 (.mv (.t 10)),
og 104 102 true 0 (.mv (.t 8)),
⟨(some 105),(.x (.call (.c (.fn 99 [] [])) [(.t 104)])),(some (102,true)),0⟩,
og 106 102 true 0 (bi .gtr (.t 103) (.t 105)),
oq 107 (.pick (.t 102) (.t 106) (.c (.bool false)))])
(.cond (.t 107) (.seq (.reg [mt 108 0,
mt 109 8,
oq 110 (.slc .str (.t 108) (some (.t 109)) none none),
mt 111 1,
oc 112 98 [(.t 110),(.t 111)] 0,
mt 12 112])
(.seq (.seq (.reg [mt 113 12,
oq 114 (bi .geq (.t 113) (ci 0))])
(.cond (.t 114) (.seq (.reg [mt 115 12,
mt 116 8,
oq 117 (bi .add (.t 115) (.t 116)),
mt 4 117])
.ret) .skip))
(.seq (.reg [oq 4 (.mv (.c (.int .i64 (.negSucc 0))))])
.ret))) (.seq (.reg [mt 118 5,
oq 119 (.ld false 1 (.c (.ptr 2 0))),
oq 120 (bi .gtr (.t 118) (.t 119)),
mt 121 120,
og 122 121 true 0 (.mv (.t 10)),
og 123 121 true 0 (.mv (.t 8)),
og 124 121 true 0 (bi .shr (.t 123) (.c (.int .u64 (.ofNat 4)))),
og 125 121 true 0 (bi .add (ci 4) (.t 124)),
og 126 121 true 0 (bi .geq (.t 122) (.t 125)),
oq 127 (.pick (.t 121) (.t 126) (.c (.bool false))),
mt 128 127,
og 129 128 true 0 (.mv (.t 8)),
og 130 128 true 0 (.mv (.t 9)),
og 131 128 true 0 (bi .lss (.t 129) (.t 130)),
oq 132 (.pick (.t 128) (.t 131) (.c (.bool false)))])
(.cond (.t 132) (.seq (.reg [mt 133 0,
mt 134 8,
oq 135 (.slc .str (.t 133) (some (.t 134)) none none),
mt 136 1,
oc 137 100 [(.t 135),(.t 136)] 0,
mt 13 137])
(.seq (.seq (.reg [mt 138 13,
oq 139 (bi .lss (.t 138) (ci 0))])
(.cond (.t 139) (.seq (.reg [oq 4 (.mv (.c (.int .i64 (.negSucc 0))))])
.ret) .skip))
(.seq (.reg [mt 140 8,
mt 141 13,
oq 142 (bi .add (.t 140) (.t 141)),
mt 4 142])
.ret))) .skip))))))))))))
(.seq (.reg [oq 4 (.mv (.c (.int .i64 (.negSucc 0))))])
.ret))))))))))⟩
theorem row82 : Row Go.Proofs.Tryz.prog (82, a82) := ⟨Go.Proofs.Tryz.f82, Go.Proofs.Tryz.func82, by kernel_rfl⟩
noncomputable def a83 : AFn :=
⟨18,[(.t 4)],(.seq (.reg [oq 4 (.mv (.c (.bool false)))])
(.seq (.reg [mt 5 0,
oq 6 (.lenStr (.t 5)),
mt 7 1,
oq 8 (.lenStr (.t 7)),
oq 9 (bi .geq (.t 6) (.t 8)),
mt 10 9,
og 11 10 true 0 (.mv (.t 0)),
og 12 10 true 0 (.mv (.t 1)),
og 13 10 true 0 (.lenStr (.t 12)),
og 14 10 true 0 (.slc .str (.t 11) none (some (.t 13)) none),
og 15 10 true 0 (.mv (.t 1)),
og 16 10 true 0 (.bin .eql (.p .str) (.t 14) (.t 15)),
oq 17 (.pick (.t 10) (.t 16) (.c (.bool false))),
mt 4 17])
.ret))⟩
theorem row83 : Row Go.Proofs.Tryz.prog (83, a83) := ⟨Go.Proofs.Tryz.f83, Go.Proofs.Tryz.func83, by kernel_rfl⟩
noncomputable def a84 : AFn :=
⟨69,[(.t 4),(.t 5),(.t 6),(.t 7)],(.seq (.reg [oq 4 (.mv (ci 0)),
oq 5 (.mv (ci 0)),
oq 6 (.mv (ci 0)),
oq 7 (.mv (ci 0))])
(.seq (.reg [oq 4 (.mv (ci 1)),
oq 5 (.mv (ci 0)),
oq 6 (.mv (ci 0)),
oq 7 (.mv (ci 1))])
(.seq (.block 0 (.loop (.seq (.seq (.reg [mt 11 1,
mt 12 6,
oq 13 (bi .add (.t 11) (.t 12)),
oq 14 (bi .neq (.t 13) (ci 0)),
mt 15 14,
og 16 15 true 0 (.mv (.t 1)),
og 17 15 true 0 (.mv (.t 7)),
og 18 15 true 0 (bi .add (.t 16) (.t 17)),
og 19 15 true 0 (bi .neq (.t 18) (ci 0)),
oq 20 (.pick (.t 15) (.t 19) (.c (.bool false)))])
(.cond (.t 20) .skip (.exit 0)))
(.block 1 (.seq (.reg [mt 21 0,
mt 22 4,
oq 23 (bi .add (.t 21) (.t 22)),
mt 24 1,
mt 25 6,
oq 26 (bi .add (.t 24) (.t 25)),
oq 27 (bi .quo (.t 23) (.t 26)),
mt 8 27])
(.seq (.seq (.reg [mt 28 8,
mt 29 0,
mt 30 5,
oq 31 (bi .add (.t 29) (.t 30)),
mt 32 1,
mt 33 7,
oq 34 (bi .add (.t 32) (.t 33)),
oq 35 (bi .quo (.t 31) (.t 34)),
oq 36 (bi .neq (.t 28) (.t 35))])
(.cond (.t 36) (.exit 0) .skip))
(.seq (.reg [mt 37 4,
mt 38 8,
mt 39 6,
oq 40 (bi .mul (.t 38) (.t 39)),
oq 41 (bi .sub (.t 37) (.t 40)),
mt 42 5,
mt 43 8,
mt 44 7,
oq 45 (bi .mul (.t 43) (.t 44)),
oq 46 (bi .sub (.t 42) (.t 45)),
mt 9 41,
mt 10 46])
(.seq (.seq (.reg [mt 47 9,
mt 48 9,
oq 49 (.un .neg (.t 48)),
mt 50 10,
mt 51 10,
oq 52 (.un .neg (.t 51)),
oq 53 (.minmax true [(.t 47),(.t 49),(.t 50),(.t 52)]),
oq 54 (bi .geq (.t 53) (ci 1000000000))])
(.cond (.t 54) (.exit 0) .skip))
(.seq (.reg [mt 55 6,
mt 56 7,
mt 57 9,
mt 58 10,
mt 4 55,
mt 5 56,
mt 6 57,
mt 7 58])
(.reg [mt 59 1,
mt 60 0,
mt 61 8,
mt 62 1,
oq 63 (bi .mul (.t 61) (.t 62)),
oq 64 (bi .sub (.t 60) (.t 63)),
mt 0 59,
mt 1 64]))))))))))
(.seq (.reg [mt 65 4,
mt 66 5,
mt 67 6,
mt 68 7,
mt 4 65,
mt 5 66,
mt 6 67,
mt 7 68])
.ret))))⟩
theorem row84 : Row Go.Proofs.Tryz.prog (84, a84) := ⟨Go.Proofs.Tryz.f84, Go.Proofs.Tryz.func84, by kernel_rfl⟩
noncomputable def a85 : AFn :=
⟨30,[(.t 4),(.t 5)],(.seq (.reg [oq 4 (.mv (ci 0)),
oq 5 (.mv (ci 0))])
(.seq (.reg [mt 9 0,
oq 10 (.lenSl (.t 9)),
⟨(some 6),(.a (.alloc 3 [(.int .i64 (.ofNat 0))])),none,0⟩,
⟨none,(.x (.st 1 (.t 6) (.t 10))),none,0⟩])
(.seq (.reg [⟨(some 7),(.a (.alloc 76 [(.int .u64 (.ofNat 0))])),none,0⟩,
⟨none,(.x (.st 1 (.t 7) (.c (.int .u64 (.ofNat 1))))),none,0⟩])
(.seq (.block 0 (.loop (.seq (.seq (.drw [mt 11 0,
oq 12 (ld 6),
om 13 2 (bi .sub (.t 12) (ci 1)),
om 14 7 (.iaddr (.slice 1) (.t 11) (.t 13)),
om 15 15 (ld 14),
om 16 31 (.conv (.int .u64) (.t 15)),
oq 17 (ld 7),
om 18 127 (bi .mul (.t 16) (.t 17)),
om 19 255 (bi .mul (.t 18) (.c (.int .u64 (.ofNat 10)))),
om 20 511 (bi .lss (.t 19) (.c (.int .u64 (.ofNat 1000000000))))])
(.cond (.t 20) .skip (.exit 0)))
(.block 1 (.reg [oq 21 (ld 7),
oq 22 (bi .mul (.t 21) (.c (.int .u64 (.ofNat 10)))),
⟨none,(.x (.st 1 (.t 7) (.t 22))),none,0⟩])))))
(.seq (.reg [oq 23 (.mkFunc 101 [] [(.t 6),(.t 7)]),
mt 8 23])
(.seq (.reg [mt 24 8,
mt 25 0,
⟨(some 26),(.x (.call (.t 24) [(.t 25)])),none,0⟩,
mt 27 8,
mt 28 1,
⟨(some 29),(.x (.call (.t 27) [(.t 28)])),none,0⟩,
mt 4 26,
mt 5 29])
.ret))))))⟩
theorem row85 : Row Go.Proofs.Tryz.prog (85, a85) := ⟨Go.Proofs.Tryz.f85, Go.Proofs.Tryz.func85, by kernel_rfl⟩
noncomputable def a86 : AFn :=
⟨63,[(.t 8)],(.seq (.reg [oq 8 (.mv (.c .nilsl))])
(.seq (.reg [mt 13 0,
oq 14 (.lenSl (.t 13)),
⟨(some 15),(.a (.mkSlice 47 1 4 [(.int .u32 (.ofNat 0))] (.t 14) (.t 14))),none,0⟩,
mt 9 15])
(.seq (.reg [oq 10 (.mv (ci 0))])
(.seq (.seq (.reg [mt 16 0,
oq 17 (.lenSl (.t 16)),
oq 18 (.mv (ci 0))])
(.block 0 (.loop (.seq (.reg [oq 19 (bi .lss (.t 18) (.t 17))])
(.seq (.cond (.t 19) .skip (.exit 0))
(.seq (.block 1 (.seq (.reg [mt 20 18,
mt 11 20])
(.seq (.reg [mt 21 2,
mt 22 0,
mt 23 11,
oq 24 (.iaddr (.slice 1) (.t 22) (.t 23)),
oq 25 (ld 24),
oq 26 (.conv (.int .i64) (.t 25)),
oq 27 (bi .mul (.t 21) (.t 26)),
mt 28 10,
oq 29 (bi .add (.t 27) (.t 28)),
mt 12 29])
(.seq (.seq (.reg [mt 30 11,
mt 31 1,
oq 32 (.lenSl (.t 31)),
oq 33 (bi .lss (.t 30) (.t 32))])
(.cond (.t 33) (.reg [mt 34 12,
mt 35 3,
mt 36 1,
mt 37 11,
oq 38 (.iaddr (.slice 1) (.t 36) (.t 37)),
oq 39 (ld 38),
oq 40 (.conv (.int .i64) (.t 39)),
oq 41 (bi .mul (.t 35) (.t 40)),
oq 42 (bi .add (.t 34) (.t 41)),
mt 12 42]) .skip))
(.seq (.reg [mt 43 12,
oq 44 (bi .quo (.t 43) (ci 1000000000)),
mt 10 44])
(.seq (.reg [mt 45 12,
mt 46 10,
oq 47 (bi .mul (.t 46) (ci 1000000000)),
oq 48 (bi .sub (.t 45) (.t 47)),
mt 12 48])
(.seq (.seq (.reg [mt 49 12,
oq 50 (bi .lss (.t 49) (ci 0))])
(.cond (.t 50) (.seq (.reg [mt 51 12,
oq 52 (bi .add (.t 51) (ci 1000000000)),
mt 12 52])
(.reg [mt 53 10,
oq 54 (bi .sub (.t 53) (ci 1)),
mt 10 54])) .skip))
(.reg [mt 55 9,
mt 56 11,
mt 57 12,
oq 58 (.conv (.int .u32) (.t 57)),
oq 59 (.iaddr (.slice 1) (.t 55) (.t 56)),
⟨none,(.x (.st 1 (.t 59) (.t 58))),none,0⟩]))))))))
(.reg [oq 60 (bi .add (.t 18) (ci 1)),
mt 18 60])))))))
(.seq (.reg [mt 61 9,
oc 62 77 [(.t 61)] 0,
mt 8 62])
.ret)))))⟩
theorem row86 : Row Go.Proofs.Tryz.prog (86, a86) := ⟨Go.Proofs.Tryz.f86, Go.Proofs.Tryz.func86, by kernel_rfl⟩
end Go.Ev.Gl
