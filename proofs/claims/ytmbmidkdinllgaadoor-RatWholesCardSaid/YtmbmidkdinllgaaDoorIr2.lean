/- Functions of the program as data of the evaluator, written by program; each is shown to be the compiler's result on the loaded function. -/
import Derived.Test.YtmbmidkdinllgaaDoorProg
import Derived.Test.YtmbmidkdinllgaaDoorEv8
import Derived.KernelRfl
namespace Go.Ev.Gl
set_option maxRecDepth 100000
noncomputable def a102 : AFn :=
⟨10,[(.t 2),(.t 3)],(.seq (.reg [oq 2 (.mv (.c .nilsl)),
oq 3 (.mv (ci 0))])
(.seq (.seq (.reg [mt 4 0,
oq 5 (.lenSl (.t 4)),
oq 6 (bi .gtr (.t 5) (ci 1024))])
(.cond (.t 6) (.seq (.reg [oq 2 (.mv (.c .nilsl)),
oq 3 (.mv (ci 5))])
.ret) .skip))
(.seq (.reg [⟨(some 7),(.a (.bslice 41 1 0 [(.int .u32 (.ofNat 0))] [])),none,0⟩,
mt 8 0,
⟨(some 9),(.x (.app 41 1 4 (.t 7) (.t 8))),none,0⟩,
mt 2 9,
oq 3 (.mv (ci 0))])
.ret)))⟩
theorem row102 : Row Go.Proofs.Tryd.prog (102, a102) := ⟨Go.Proofs.Tryd.f102, Go.Proofs.Tryd.func102, by kernel_rfl⟩
noncomputable def a103 : AFn :=
⟨21,[(.t 2)],(.seq (.reg [oq 2 (.mv (.c .nilsl))])
(.seq (.block 0 (.loop (.seq (.seq (.reg [mt 3 0,
oq 4 (.lenSl (.t 3)),
oq 5 (bi .gtr (.t 4) (ci 0)),
mt 6 5,
og 7 6 true 0 (.mv (.t 0)),
og 8 6 true 0 (.mv (.t 0)),
og 9 6 true 0 (.lenSl (.t 8)),
og 10 6 true 0 (bi .sub (.t 9) (ci 1)),
og 11 6 true 0 (.iaddr (.slice 1) (.t 7) (.t 10)),
og 12 6 true 0 (ld 11),
og 13 6 true 0 (bi .eql (.t 12) (.c (.int .u32 (.ofNat 0)))),
oq 14 (.pick (.t 6) (.t 13) (.c (.bool false)))])
(.cond (.t 14) .skip (.exit 0)))
(.block 1 (.reg [mt 15 0,
mt 16 0,
oq 17 (.lenSl (.t 16)),
oq 18 (bi .sub (.t 17) (ci 1)),
oq 19 (.slc (.slice 1) (.t 15) none (some (.t 18)) none),
mt 0 19])))))
(.seq (.reg [mt 20 0,
mt 2 20])
.ret)))⟩
theorem row103 : Row Go.Proofs.Tryd.prog (103, a103) := ⟨Go.Proofs.Tryd.f103, Go.Proofs.Tryd.func103, by kernel_rfl⟩
noncomputable def a109 : AFn :=
⟨68,[(.t 4)],(.seq (.reg [oq 4 (.mv (.c .nilsl))])
(.seq (.reg [mt 9 0,
oq 10 (.lenSl (.t 9)),
mt 11 1,
oq 12 (.lenSl (.t 11)),
oq 13 (bi .add (.t 10) (.t 12)),
⟨(some 14),(.a (.mkSlice 41 1 4 [(.int .u32 (.ofNat 0))] (.t 13) (.t 13))),none,0⟩,
mt 5 14])
(.seq (.seq (.reg [oq 6 (.mv (ci 0))])
(.block 0 (.loop (.seq (.seq (.reg [mt 15 6,
mt 16 0,
oq 17 (.lenSl (.t 16)),
oq 18 (bi .lss (.t 15) (.t 17))])
(.cond (.t 18) .skip (.exit 0)))
(.seq (.block 1 (.seq (.reg [oq 7 (.mv (.c (.int .u64 (.ofNat 0))))])
(.seq (.seq (.reg [oq 8 (.mv (ci 0))])
(.block 2 (.loop (.seq (.seq (.reg [mt 21 8,
mt 22 1,
oq 23 (.lenSl (.t 22)),
oq 24 (bi .lss (.t 21) (.t 23))])
(.cond (.t 24) .skip (.exit 2)))
(.seq (.block 3 (.seq (.drw [mt 27 7,
mt 28 5,
mt 29 6,
mt 30 8,
om 31 12 (bi .add (.t 29) (.t 30)),
om 32 30 (.iaddr (.slice 1) (.t 28) (.t 31)),
om 33 62 (ld 32),
om 34 126 (.conv (.int .u64) (.t 33)),
om 35 255 (bi .add (.t 27) (.t 34)),
mt 36 0,
mt 37 6,
om 38 1536 (.iaddr (.slice 1) (.t 36) (.t 37)),
om 39 3584 (ld 38),
om 40 7680 (.conv (.int .u64) (.t 39)),
mt 41 1,
mt 42 8,
om 43 49152 (.iaddr (.slice 1) (.t 41) (.t 42)),
om 44 114688 (ld 43),
om 45 245760 (.conv (.int .u64) (.t 44)),
om 46 523776 (bi .mul (.t 40) (.t 45)),
om 47 1048575 (bi .add (.t 35) (.t 46)),
om 7 2097151 (.mv (.t 47))])
(.seq (.reg [mt 48 5,
mt 49 6,
mt 50 8,
oq 51 (bi .add (.t 49) (.t 50)),
mt 52 7,
oq 53 (bi .rem (.t 52) (.c (.int .u64 (.ofNat 1000000000)))),
oq 54 (.conv (.int .u32) (.t 53)),
oq 55 (.iaddr (.slice 1) (.t 48) (.t 51)),
⟨none,(.x (.st 1 (.t 55) (.t 54))),none,0⟩])
(.reg [mt 56 7,
oq 57 (bi .quo (.t 56) (.c (.int .u64 (.ofNat 1000000000)))),
mt 7 57]))))
(.reg [mt 25 8,
oq 26 (bi .add (.t 25) (ci 1)),
mt 8 26]))))))
(.reg [mt 58 5,
mt 59 6,
mt 60 1,
oq 61 (.lenSl (.t 60)),
oq 62 (bi .add (.t 59) (.t 61)),
mt 63 7,
oq 64 (.conv (.int .u32) (.t 63)),
oq 65 (.iaddr (.slice 1) (.t 58) (.t 62)),
⟨none,(.x (.st 1 (.t 65) (.t 64))),none,0⟩]))))
(.reg [mt 19 6,
oq 20 (bi .add (.t 19) (ci 1)),
mt 6 20]))))))
(.seq (.reg [mt 66 5,
oc 67 133 [(.t 66)] 0,
mt 4 67])
.ret))))⟩
theorem row109 : Row Go.Proofs.Tryd.prog (109, a109) := ⟨Go.Proofs.Tryd.f109, Go.Proofs.Tryd.func109, by kernel_rfl⟩
noncomputable def a110 : AFn :=
⟨52,[(.t 4)],(.seq (.reg [oq 4 (.mv (.c .nilsl))])
(.seq (.reg [oq 5 (.mv (.c .nilsl))])
(.seq (.reg [oq 6 (.mv (.c (.int .u32 (.ofNat 0))))])
(.seq (.seq (.reg [oq 7 (.mv (ci 0))])
(.block 0 (.loop (.seq (.seq (.reg [mt 8 7,
mt 9 0,
oq 10 (.lenSl (.t 9)),
oq 11 (bi .lss (.t 8) (.t 10)),
mt 12 11,
og 13 12 false 0 (.mv (.t 7)),
og 14 12 false 0 (.mv (.t 1)),
og 15 12 false 0 (.lenSl (.t 14)),
og 16 12 false 0 (bi .lss (.t 13) (.t 15)),
oq 17 (.pick (.t 12) (.c (.bool true)) (.t 16)),
mt 18 17,
og 19 18 false 0 (.mv (.t 6)),
og 20 18 false 0 (bi .gtr (.t 19) (.c (.int .u32 (.ofNat 0)))),
oq 21 (.pick (.t 18) (.c (.bool true)) (.t 20))])
(.cond (.t 21) .skip (.exit 0)))
(.seq (.block 1 (.seq (.seq (.reg [mt 24 7,
mt 25 0,
oq 26 (.lenSl (.t 25)),
oq 27 (bi .lss (.t 24) (.t 26))])
(.cond (.t 27) (.reg [mt 28 6,
mt 29 0,
mt 30 7,
oq 31 (.iaddr (.slice 1) (.t 29) (.t 30)),
oq 32 (ld 31),
oq 33 (bi .add (.t 28) (.t 32)),
mt 6 33]) .skip))
(.seq (.seq (.reg [mt 34 7,
mt 35 1,
oq 36 (.lenSl (.t 35)),
oq 37 (bi .lss (.t 34) (.t 36))])
(.cond (.t 37) (.reg [mt 38 6,
mt 39 1,
mt 40 7,
oq 41 (.iaddr (.slice 1) (.t 39) (.t 40)),
oq 42 (ld 41),
oq 43 (bi .add (.t 38) (.t 42)),
mt 6 43]) .skip))
(.seq (.reg [mt 44 5,
mt 45 6,
oq 46 (bi .rem (.t 45) (.c (.int .u32 (.ofNat 1000000000)))),
⟨(some 47),(.a (.bslice 41 1 1 [(.int .u32 (.ofNat 0))] [(0,(.t 46))])),none,0⟩,
⟨(some 48),(.x (.app 41 1 4 (.t 44) (.t 47))),none,0⟩,
mt 5 48])
(.reg [mt 49 6,
oq 50 (bi .quo (.t 49) (.c (.int .u32 (.ofNat 1000000000)))),
mt 6 50])))))
(.reg [mt 22 7,
oq 23 (bi .add (.t 22) (ci 1)),
mt 7 23]))))))
(.seq (.reg [mt 51 5,
mt 4 51])
.ret)))))⟩
theorem row110 : Row Go.Proofs.Tryd.prog (110, a110) := ⟨Go.Proofs.Tryd.f110, Go.Proofs.Tryd.func110, by kernel_rfl⟩
noncomputable def a111 : AFn :=
⟨41,[(.t 4)],(.seq (.reg [oq 4 (.mv (ci 0))])
(.seq (.seq (.reg [mt 6 0,
oq 7 (.lenSl (.t 6)),
mt 8 1,
oq 9 (.lenSl (.t 8)),
oq 10 (bi .neq (.t 7) (.t 9))])
(.cond (.t 10) (.seq (.seq (.reg [mt 11 0,
oq 12 (.lenSl (.t 11)),
mt 13 1,
oq 14 (.lenSl (.t 13)),
oq 15 (bi .lss (.t 12) (.t 14))])
(.cond (.t 15) (.seq (.reg [oq 4 (.mv (.c (.int .i64 (.negSucc 0))))])
.ret) .skip))
(.seq (.reg [oq 4 (.mv (ci 1))])
.ret)) .skip))
(.seq (.seq (.reg [mt 16 0,
oq 17 (.lenSl (.t 16)),
oq 18 (bi .sub (.t 17) (ci 1)),
mt 5 18])
(.block 0 (.loop (.seq (.seq (.reg [mt 19 5,
oq 20 (bi .geq (.t 19) (ci 0))])
(.cond (.t 20) .skip (.exit 0)))
(.seq (.block 1 (.seq (.seq (.drw [mt 23 0,
mt 24 5,
om 25 3 (.iaddr (.slice 1) (.t 23) (.t 24)),
om 26 7 (ld 25),
mt 27 1,
mt 28 5,
om 29 48 (.iaddr (.slice 1) (.t 27) (.t 28)),
om 30 112 (ld 29),
om 31 255 (bi .lss (.t 26) (.t 30))])
(.cond (.t 31) (.seq (.reg [oq 4 (.mv (.c (.int .i64 (.negSucc 0))))])
.ret) .skip))
(.seq (.drw [mt 32 0,
mt 33 5,
om 34 3 (.iaddr (.slice 1) (.t 32) (.t 33)),
om 35 7 (ld 34),
mt 36 1,
mt 37 5,
om 38 48 (.iaddr (.slice 1) (.t 36) (.t 37)),
om 39 112 (ld 38),
om 40 255 (bi .gtr (.t 35) (.t 39))])
(.cond (.t 40) (.seq (.reg [oq 4 (.mv (ci 1))])
.ret) .skip))))
(.reg [mt 21 5,
oq 22 (bi .sub (.t 21) (ci 1)),
mt 5 22]))))))
(.seq (.reg [oq 4 (.mv (ci 0))])
.ret))))⟩
theorem row111 : Row Go.Proofs.Tryd.prog (111, a111) := ⟨Go.Proofs.Tryd.f111, Go.Proofs.Tryd.func111, by kernel_rfl⟩
noncomputable def a112 : AFn :=
⟨44,[(.t 4)],(.seq (.reg [oq 4 (.mv (.c .nilsl))])
(.seq (.reg [oq 5 (.mv (.c .nilsl))])
(.seq (.reg [oq 6 (.mv (ci 0))])
(.seq (.seq (.reg [oq 7 (.mv (ci 0))])
(.block 0 (.loop (.seq (.seq (.reg [mt 9 7,
mt 10 0,
oq 11 (.lenSl (.t 10)),
oq 12 (bi .lss (.t 9) (.t 11))])
(.cond (.t 12) .skip (.exit 0)))
(.seq (.block 1 (.seq (.reg [mt 15 0,
mt 16 7,
oq 17 (.iaddr (.slice 1) (.t 15) (.t 16)),
oq 18 (ld 17),
oq 19 (.conv (.int .i64) (.t 18)),
mt 20 6,
oq 21 (bi .sub (.t 19) (.t 20)),
mt 8 21])
(.seq (.seq (.reg [mt 22 7,
mt 23 1,
oq 24 (.lenSl (.t 23)),
oq 25 (bi .lss (.t 22) (.t 24))])
(.cond (.t 25) (.reg [mt 26 8,
mt 27 1,
mt 28 7,
oq 29 (.iaddr (.slice 1) (.t 27) (.t 28)),
oq 30 (ld 29),
oq 31 (.conv (.int .i64) (.t 30)),
oq 32 (bi .sub (.t 26) (.t 31)),
mt 8 32]) .skip))
(.seq (.reg [oq 6 (.mv (ci 0))])
(.seq (.seq (.reg [mt 33 8,
oq 34 (bi .lss (.t 33) (ci 0))])
(.cond (.t 34) (.reg [mt 35 8,
oq 36 (bi .add (.t 35) (ci 1000000000)),
mt 8 36,
oq 6 (.mv (ci 1))]) .skip))
(.reg [mt 37 5,
mt 38 8,
oq 39 (.conv (.int .u32) (.t 38)),
⟨(some 40),(.a (.bslice 41 1 1 [(.int .u32 (.ofNat 0))] [(0,(.t 39))])),none,0⟩,
⟨(some 41),(.x (.app 41 1 4 (.t 37) (.t 40))),none,0⟩,
mt 5 41]))))))
(.reg [mt 13 7,
oq 14 (bi .add (.t 13) (ci 1)),
mt 7 14]))))))
(.seq (.reg [mt 42 5,
oc 43 133 [(.t 42)] 0,
mt 4 43])
.ret)))))⟩
theorem row112 : Row Go.Proofs.Tryd.prog (112, a112) := ⟨Go.Proofs.Tryd.f112, Go.Proofs.Tryd.func112, by kernel_rfl⟩
noncomputable def a113 : AFn :=
⟨29,[(.t 2)],(.seq (.reg [oq 2 (.mv (ci 0))])
(.seq (.seq (.reg [mt 5 0,
oq 6 (.lenSl (.t 5)),
oq 7 (bi .gtr (.t 6) (ci 1024))])
(.cond (.t 7) (.seq (.reg [oq 2 (.mv (ci 4))])
.ret) .skip))
(.seq (.seq (.reg [mt 8 0,
oq 9 (.lenSl (.t 8)),
oq 10 (.mv (ci 0))])
(.block 0 (.loop (.seq (.reg [oq 11 (bi .lss (.t 10) (.t 9))])
(.seq (.cond (.t 11) .skip (.exit 0))
(.seq (.block 1 (.seq (.reg [oq 12 (.iaddr (.slice 1) (.t 8) (.t 10)),
oq 13 (ld 12),
mt 4 13])
(.seq (.reg [mt 14 4,
oq 15 (bi .geq (.t 14) (.c (.int .u32 (.ofNat 1000000000))))])
(.cond (.t 15) (.seq (.reg [oq 2 (.mv (ci 3))])
.ret) .skip))))
(.reg [oq 16 (bi .add (.t 10) (ci 1)),
mt 10 16])))))))
(.seq (.seq (.reg [mt 17 0,
oq 18 (.lenSl (.t 17)),
oq 19 (bi .gtr (.t 18) (ci 0)),
mt 20 19,
og 21 20 true 0 (.mv (.t 0)),
og 22 20 true 0 (.mv (.t 0)),
og 23 20 true 0 (.lenSl (.t 22)),
og 24 20 true 0 (bi .sub (.t 23) (ci 1)),
og 25 20 true 0 (.iaddr (.slice 1) (.t 21) (.t 24)),
og 26 20 true 0 (ld 25),
og 27 20 true 0 (bi .eql (.t 26) (.c (.int .u32 (.ofNat 0)))),
oq 28 (.pick (.t 20) (.t 27) (.c (.bool false)))])
(.cond (.t 28) (.seq (.reg [oq 2 (.mv (ci 3))])
.ret) .skip))
(.seq (.reg [oq 2 (.mv (ci 0))])
.ret)))))⟩
theorem row113 : Row Go.Proofs.Tryd.prog (113, a113) := ⟨Go.Proofs.Tryd.f113, Go.Proofs.Tryd.func113, by kernel_rfl⟩
noncomputable def a114 : AFn :=
⟨37,[(.t 4)],(.seq (.reg [oq 4 (.mv (.c (.int .u64 (.ofNat 0))))])
(.seq (.seq (.reg [mt 6 0,
oq 7 (bi .eql (.t 6) (.c (.int .u64 (.ofNat 0))))])
(.cond (.t 7) (.seq (.reg [mt 8 1,
mt 4 8])
.ret) .skip))
(.seq (.seq (.reg [mt 9 1,
oq 10 (bi .eql (.t 9) (.c (.int .u64 (.ofNat 0))))])
(.cond (.t 10) (.seq (.reg [mt 11 0,
mt 4 11])
.ret) .skip))
(.seq (.reg [mt 12 0,
mt 13 1,
oq 14 (bi .or (.t 12) (.t 13)),
oc 15 134 [(.t 14)] 0,
mt 5 15])
(.seq (.reg [mt 16 0,
mt 17 0,
oc 18 134 [(.t 17)] 0,
oq 19 (bi .shr (.t 16) (.t 18)),
mt 0 19])
(.seq (.block 0 (.loop (.seq (.seq (.reg [mt 20 1,
oq 21 (bi .neq (.t 20) (.c (.int .u64 (.ofNat 0))))])
(.cond (.t 21) .skip (.exit 0)))
(.block 1 (.seq (.reg [mt 22 1,
mt 23 1,
oc 24 134 [(.t 23)] 0,
oq 25 (bi .shr (.t 22) (.t 24)),
mt 1 25])
(.seq (.seq (.reg [mt 26 0,
mt 27 1,
oq 28 (bi .gtr (.t 26) (.t 27))])
(.cond (.t 28) (.reg [mt 29 1,
mt 30 0,
mt 0 29,
mt 1 30]) .skip))
(.reg [mt 31 1,
mt 32 0,
oq 33 (bi .sub (.t 31) (.t 32)),
mt 1 33])))))))
(.seq (.reg [mt 34 0,
mt 35 5,
oq 36 (bi .shl (.t 34) (.t 35)),
mt 4 36])
.ret)))))))⟩
theorem row114 : Row Go.Proofs.Tryd.prog (114, a114) := ⟨Go.Proofs.Tryd.f114, Go.Proofs.Tryd.func114, by kernel_rfl⟩
noncomputable def a115 : AFn :=
⟨21,[(.t 2)],(.seq (.reg [oq 2 (.mv (.c (.int .u64 (.ofNat 0))))])
(.seq (.reg [oq 3 (.mv (.c (.int .u64 (.ofNat 0))))])
(.seq (.seq (.reg [mt 5 0,
oq 6 (.lenSl (.t 5)),
oq 7 (bi .sub (.t 6) (ci 1)),
mt 4 7])
(.block 0 (.loop (.seq (.seq (.reg [mt 8 4,
oq 9 (bi .geq (.t 8) (ci 0))])
(.cond (.t 9) .skip (.exit 0)))
(.seq (.block 1 (.reg [mt 12 3,
oq 13 (bi .mul (.t 12) (.c (.int .u64 (.ofNat 1000000000)))),
mt 14 0,
mt 15 4,
oq 16 (.iaddr (.slice 1) (.t 14) (.t 15)),
oq 17 (ld 16),
oq 18 (.conv (.int .u64) (.t 17)),
oq 19 (bi .add (.t 13) (.t 18)),
mt 3 19]))
(.reg [mt 10 4,
oq 11 (bi .sub (.t 10) (ci 1)),
mt 4 11]))))))
(.seq (.reg [mt 20 3,
mt 2 20])
.ret))))⟩
theorem row115 : Row Go.Proofs.Tryd.prog (115, a115) := ⟨Go.Proofs.Tryd.f115, Go.Proofs.Tryd.func115, by kernel_rfl⟩
noncomputable def a116 : AFn :=
⟨91,[(.t 4)],(.seq (.reg [oq 4 (.mv (.c .nilsl))])
(.seq (.seq (.reg [mt 13 0,
oq 14 (.lenSl (.t 13)),
oq 15 (bi .leq (.t 14) (ci 2)),
mt 16 15,
og 17 16 true 0 (.mv (.t 1)),
og 18 16 true 0 (.lenSl (.t 17)),
og 19 16 true 0 (bi .leq (.t 18) (ci 2)),
oq 20 (.pick (.t 16) (.t 19) (.c (.bool false)))])
(.cond (.t 20) (.seq (.reg [mt 21 0,
oc 22 115 [(.t 21)] 0,
mt 23 1,
oc 24 115 [(.t 23)] 0,
oc 25 114 [(.t 22),(.t 24)] 0,
oc 26 81 [(.t 25)] 0,
mt 4 26])
.ret) .skip))
(.seq (.seq (.reg [mt 27 0,
oc 28 91 [(.t 27)] 0,
mt 29 28,
og 30 29 false 0 (.mv (.t 1)),
⟨(some 31),(.x (.call (.c (.fn 91 [] [])) [(.t 30)])),(some (29,false)),0⟩,
oq 32 (.pick (.t 29) (.c (.bool true)) (.t 31))])
(.cond (.t 32) (.seq (.reg [oc 33 66 [] 0,
mt 4 33])
.ret) .skip))
(.seq (.seq (.reg [mt 34 0,
mt 35 1,
oc 36 63 [(.t 34),(.t 35)] 0,
oq 37 (bi .lss (.t 36) (ci 0))])
(.cond (.t 37) (.reg [mt 38 1,
mt 39 0,
mt 0 38,
mt 1 39]) .skip))
(.seq (.block 0 (.loop (.seq (.seq (.reg [mt 40 1,
oq 41 (.lenSl (.t 40)),
oq 42 (bi .gtr (.t 41) (ci 2))])
(.cond (.t 42) .skip (.exit 0)))
(.block 1 (.seq (.reg [mt 44 0,
mt 45 1,
oc 46 136 [(.t 44),(.t 45)] 0,
oq 47 (.extract (.t 46) 0),
oq 48 (.extract (.t 46) 1),
oc 49 135 [(.t 47),(.t 48)] 0,
mt 43 49,
oq 50 (.extract (.t 43) 0),
oq 51 (.extract (.t 43) 1),
oq 52 (.extract (.t 43) 2),
oq 53 (.extract (.t 43) 3),
mt 5 50,
mt 6 51,
mt 7 52,
mt 8 53])
(.seq (.seq (.reg [mt 54 6,
oq 55 (bi .eql (.t 54) (ci 0))])
(.cond (.t 55) (.seq (.reg [mt 57 0,
mt 58 1,
oc 59 98 [(.t 57),(.t 58)] 0,
mt 56 59,
oq 60 (.extract (.t 56) 0),
oq 61 (.extract (.t 56) 1),
mt 9 60,
mt 10 61])
(.seq (.reg [mt 62 1,
mt 63 10,
mt 0 62,
mt 1 63])
(.exit 1))) .skip))
(.reg [mt 64 0,
mt 65 1,
mt 66 5,
mt 67 6,
oc 68 137 [(.t 64),(.t 65),(.t 66),(.t 67)] 0,
mt 69 0,
mt 70 1,
mt 71 7,
mt 72 8,
oc 73 137 [(.t 69),(.t 70),(.t 71),(.t 72)] 0,
mt 0 68,
mt 1 73])))))))
(.seq (.seq (.reg [mt 74 1,
oq 75 (.lenSl (.t 74)),
oq 76 (bi .eql (.t 75) (ci 0))])
(.cond (.t 76) (.seq (.reg [mt 77 0,
oc 78 96 [(.t 77)] 0,
mt 4 78])
.ret) .skip))
(.seq (.reg [mt 80 0,
mt 81 1,
oc 82 98 [(.t 80),(.t 81)] 0,
mt 79 82,
oq 83 (.extract (.t 79) 0),
oq 84 (.extract (.t 79) 1),
mt 11 83,
mt 12 84])
(.seq (.reg [mt 85 1,
oc 86 115 [(.t 85)] 0,
mt 87 12,
oc 88 115 [(.t 87)] 0,
oc 89 114 [(.t 86),(.t 88)] 0,
oc 90 81 [(.t 89)] 0,
mt 4 90])
.ret))))))))⟩
theorem row116 : Row Go.Proofs.Tryd.prog (116, a116) := ⟨Go.Proofs.Tryd.f116, Go.Proofs.Tryd.func116, by kernel_rfl⟩
noncomputable def a117 : AFn :=
⟨30,[(.t 2)],(.seq (.reg [oq 2 (.mv (ci 0))])
(.seq (.seq (.reg [mt 4 0,
oq 5 (.lenSl (.t 4)),
oq 6 (bi .gtr (.t 5) (ci 1024))])
(.cond (.t 6) (.seq (.reg [oq 2 (.mv (ci 4))])
.ret) .skip))
(.seq (.seq (.reg [oq 3 (.mv (ci 0))])
(.block 0 (.loop (.seq (.seq (.reg [mt 7 3,
mt 8 0,
oq 9 (.lenSl (.t 8)),
oq 10 (bi .lss (.t 7) (.t 9))])
(.cond (.t 10) .skip (.exit 0)))
(.seq (.block 1 (.seq (.reg [mt 13 0,
mt 14 3,
oq 15 (.iaddr (.slice 1) (.t 13) (.t 14)),
oq 16 (ld 15),
oq 17 (bi .geq (.t 16) (.c (.int .u32 (.ofNat 1000000000))))])
(.cond (.t 17) (.seq (.reg [oq 2 (.mv (ci 3))])
.ret) .skip)))
(.reg [mt 11 3,
oq 12 (bi .add (.t 11) (ci 1)),
mt 3 12]))))))
(.seq (.seq (.reg [mt 18 0,
oq 19 (.lenSl (.t 18)),
oq 20 (bi .gtr (.t 19) (ci 0)),
mt 21 20,
og 22 21 true 0 (.mv (.t 0)),
og 23 21 true 0 (.mv (.t 0)),
og 24 21 true 0 (.lenSl (.t 23)),
og 25 21 true 0 (bi .sub (.t 24) (ci 1)),
og 26 21 true 0 (.iaddr (.slice 1) (.t 22) (.t 25)),
og 27 21 true 0 (ld 26),
og 28 21 true 0 (bi .eql (.t 27) (.c (.int .u32 (.ofNat 0)))),
oq 29 (.pick (.t 21) (.t 28) (.c (.bool false)))])
(.cond (.t 29) (.seq (.reg [oq 2 (.mv (ci 3))])
.ret) .skip))
(.seq (.reg [oq 2 (.mv (ci 0))])
.ret)))))⟩
theorem row117 : Row Go.Proofs.Tryd.prog (117, a117) := ⟨Go.Proofs.Tryd.f117, Go.Proofs.Tryd.func117, by kernel_rfl⟩
noncomputable def a118 : AFn :=
⟨156,[(.t 4),(.t 5)],(.seq (.reg [oq 4 (.mv (.c .nilsl)),
oq 5 (.mv (.c .nilsl))])
(.seq (.seq (.reg [mt 15 0,
mt 16 1,
oc 17 111 [(.t 15),(.t 16)] 0,
oq 18 (bi .lss (.t 17) (ci 0))])
(.cond (.t 18) (.seq (.reg [mt 19 0,
oq 4 (.mv (.c .nilsl)),
mt 5 19])
.ret) .skip))
(.seq (.reg [mt 20 1,
mt 21 1,
oq 22 (.lenSl (.t 21)),
oq 23 (bi .sub (.t 22) (ci 1)),
oq 24 (.iaddr (.slice 1) (.t 20) (.t 23)),
oq 25 (ld 24),
oq 26 (.conv (.int .u64) (.t 25)),
oq 27 (bi .add (.t 26) (.c (.int .u64 (.ofNat 1)))),
oq 28 (bi .quo (.c (.int .u64 (.ofNat 1000000000))) (.t 27)),
oq 29 (.conv (.int .u32) (.t 28)),
oc 30 138 [(.t 29)] 0,
mt 6 30])
(.seq (.reg [mt 31 0,
mt 32 6,
oc 33 109 [(.t 31),(.t 32)] 0,
mt 34 1,
mt 35 6,
oc 36 109 [(.t 34),(.t 35)] 0,
mt 0 33,
mt 1 36])
(.seq (.reg [mt 37 1,
mt 38 1,
oq 39 (.lenSl (.t 38)),
oq 40 (bi .sub (.t 39) (ci 1)),
oq 41 (.iaddr (.slice 1) (.t 37) (.t 40)),
oq 42 (ld 41),
oq 43 (.conv (.int .u64) (.t 42)),
mt 7 43])
(.seq (.reg [mt 44 1,
oq 45 (.lenSl (.t 44)),
mt 8 45])
(.seq (.drw [mt 46 0,
om 47 1 (.lenSl (.t 46)),
mt 48 8,
om 49 7 (bi .sub (.t 47) (.t 48)),
om 50 15 (bi .add (.t 49) (ci 1)),
⟨(some 51),(.a (.mkSlice 41 1 4 [(.int .u32 (.ofNat 0))] (.t 50) (.t 50))),none,31⟩,
mt 52 5,
mt 53 0,
mt 54 0,
om 55 256 (.lenSl (.t 54)),
mt 56 8,
om 57 1792 (bi .sub (.t 55) (.t 56)),
om 58 3840 (bi .add (.t 57) (ci 1)),
om 59 8064 (.slc (.slice 1) (.t 53) (some (.t 58)) none none),
⟨(some 60),(.x (.app 41 1 4 (.t 52) (.t 59))),none,16320⟩,
om 4 32767 (.mv (.t 51)),
om 5 65535 (.mv (.t 60))])
(.seq (.seq (.reg [mt 61 0,
oq 62 (.lenSl (.t 61)),
mt 63 8,
oq 64 (bi .sub (.t 62) (.t 63)),
mt 9 64])
(.block 0 (.loop (.seq (.seq (.reg [mt 65 9,
oq 66 (bi .geq (.t 65) (ci 0))])
(.cond (.t 66) .skip (.exit 0)))
(.seq (.block 1 (.seq (.reg [mt 69 0,
mt 70 9,
oq 71 (.iaddr (.slice 1) (.t 69) (.t 70)),
oq 72 (ld 71),
⟨(some 73),(.a (.bslice 41 1 1 [(.int .u32 (.ofNat 0))] [(0,(.t 72))])),none,0⟩,
mt 74 5,
⟨(some 75),(.x (.app 41 1 4 (.t 73) (.t 74))),none,0⟩,
oc 76 133 [(.t 75)] 0,
mt 5 76])
(.seq (.reg [oq 10 (.mv (.c (.int .u64 (.ofNat 0))))])
(.seq (.seq (.reg [mt 77 5,
oq 78 (.lenSl (.t 77)),
oq 79 (bi .sub (.t 78) (ci 1)),
mt 11 79])
(.block 2 (.loop (.seq (.seq (.reg [mt 80 11,
mt 81 1,
oq 82 (.lenSl (.t 81)),
oq 83 (bi .sub (.t 82) (ci 1)),
oq 84 (bi .geq (.t 80) (.t 83))])
(.cond (.t 84) .skip (.exit 2)))
(.seq (.block 3 (.reg [mt 87 10,
oq 88 (bi .mul (.t 87) (.c (.int .u64 (.ofNat 1000000000)))),
mt 89 5,
mt 90 11,
oq 91 (.iaddr (.slice 1) (.t 89) (.t 90)),
oq 92 (ld 91),
oq 93 (.conv (.int .u64) (.t 92)),
oq 94 (bi .add (.t 88) (.t 93)),
mt 10 94]))
(.reg [mt 85 11,
oq 86 (bi .sub (.t 85) (ci 1)),
mt 11 86]))))))
(.seq (.reg [mt 95 10,
mt 96 7,
oq 97 (bi .quo (.t 95) (.t 96)),
oq 98 (.minmax false [(.t 97),(.c (.int .u64 (.ofNat 999999999)))]),
mt 12 98])
(.seq (.block 4 (.loop (.seq (.seq (.reg [mt 99 1,
mt 100 12,
oq 101 (.conv (.int .u32) (.t 100)),
oc 102 138 [(.t 101)] 0,
oc 103 109 [(.t 99),(.t 102)] 0,
mt 104 5,
oc 105 111 [(.t 103),(.t 104)] 0,
oq 106 (bi .gtr (.t 105) (ci 0))])
(.cond (.t 106) .skip (.exit 4)))
(.block 5 (.reg [mt 107 12,
oq 108 (bi .sub (.t 107) (.c (.int .u64 (.ofNat 1)))),
mt 12 108])))))
(.reg [mt 109 4,
mt 110 9,
mt 111 5,
mt 112 1,
mt 113 12,
oq 114 (.conv (.int .u32) (.t 113)),
oc 115 138 [(.t 114)] 0,
oc 116 109 [(.t 112),(.t 115)] 0,
oc 117 112 [(.t 111),(.t 116)] 0,
mt 118 12,
oq 119 (.conv (.int .u32) (.t 118)),
mt 5 117,
oq 120 (.iaddr (.slice 1) (.t 109) (.t 110)),
⟨none,(.x (.st 1 (.t 120) (.t 119))),none,0⟩])))))))
(.reg [mt 67 9,
oq 68 (bi .sub (.t 67) (ci 1)),
mt 9 68]))))))
(.seq (.reg [oq 13 (.mv (.c (.int .u64 (.ofNat 0))))])
(.seq (.seq (.reg [mt 121 5,
oq 122 (.lenSl (.t 121)),
oq 123 (bi .sub (.t 122) (ci 1)),
mt 14 123])
(.block 6 (.loop (.seq (.seq (.reg [mt 124 14,
oq 125 (bi .geq (.t 124) (ci 0))])
(.cond (.t 125) .skip (.exit 6)))
(.seq (.block 7 (.seq (.reg [mt 128 13,
oq 129 (bi .mul (.t 128) (.c (.int .u64 (.ofNat 1000000000)))),
mt 130 5,
mt 131 14,
oq 132 (.iaddr (.slice 1) (.t 130) (.t 131)),
oq 133 (ld 132),
oq 134 (.conv (.int .u64) (.t 133)),
oq 135 (bi .add (.t 129) (.t 134)),
mt 13 135])
(.seq (.reg [mt 136 5,
mt 137 14,
mt 138 13,
mt 139 6,
oq 140 (.iaddr (.slice 1) (.t 139) (ci 0)),
oq 141 (ld 140),
oq 142 (.conv (.int .u64) (.t 141)),
oq 143 (bi .quo (.t 138) (.t 142)),
oq 144 (.conv (.int .u32) (.t 143)),
oq 145 (.iaddr (.slice 1) (.t 136) (.t 137)),
⟨none,(.x (.st 1 (.t 145) (.t 144))),none,0⟩])
(.reg [mt 146 13,
mt 147 6,
oq 148 (.iaddr (.slice 1) (.t 147) (ci 0)),
oq 149 (ld 148),
oq 150 (.conv (.int .u64) (.t 149)),
oq 151 (bi .rem (.t 146) (.t 150)),
mt 13 151]))))
(.reg [mt 126 14,
oq 127 (bi .sub (.t 126) (ci 1)),
mt 14 127]))))))
(.seq (.reg [mt 152 4,
oc 153 133 [(.t 152)] 0,
mt 154 5,
oc 155 133 [(.t 154)] 0,
mt 4 153,
mt 5 155])
.ret)))))))))))⟩
theorem row118 : Row Go.Proofs.Tryd.prog (118, a118) := ⟨Go.Proofs.Tryd.f118, Go.Proofs.Tryd.func118, by kernel_rfl⟩
end Go.Ev.Gl
