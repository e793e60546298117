/- Functions of the program as data of the evaluator, written by program; each is shown to be the compiler's result on the loaded function. -/
import Derived.Test.YtffbfglbdghpaaaGreatDoorProg
import Derived.Test.YtffbfglbdghpaaaGreatDoorEv8
import Derived.KernelRfl
namespace Go.Ev.Gl
set_option maxRecDepth 100000
noncomputable def a22 : AFn :=
⟨5,[(.t 2)],(.seq (.reg [oq 2 (.mv (ci 0))])
(.seq (.reg [mt 3 0,
oc 4 39 [(.t 3),(ci 1),(.c (.fn 40 [] []))] 0,
mt 2 4])
.ret))⟩
theorem row22 : Row Go.Proofs.Tryz.prog (22, a22) := ⟨Go.Proofs.Tryz.f22, Go.Proofs.Tryz.func22, by kernel_rfl⟩
noncomputable def a23 : AFn :=
⟨33,[(.t 4)],(.seq (.reg [oq 4 (.mv (.c .nilsl))])
(.seq (.reg [mt 7 0,
oq 8 (.lenSl (.t 7)),
⟨(some 9),(.a (.mkSlice 3 1 8 [(.int .i64 (.ofNat 0))] (.t 8) (.t 8))),none,0⟩,
mt 5 9])
(.seq (.seq (.reg [mt 10 0,
oq 11 (.lenSl (.t 10)),
oq 12 (bi .sub (.t 11) (ci 1)),
mt 6 12])
(.block 0 (.loop (.seq (.seq (.reg [mt 13 6,
oq 14 (bi .geq (.t 13) (ci 0))])
(.cond (.t 14) .skip (.exit 0)))
(.seq (.block 1 (.seq (.reg [mt 17 5,
mt 18 6,
mt 19 1,
mt 20 0,
mt 21 6,
oq 22 (.iaddr (.slice 1) (.t 20) (.t 21)),
oq 23 (ld 22),
oq 24 (bi .rem (.t 19) (.t 23)),
oq 25 (.iaddr (.slice 1) (.t 17) (.t 18)),
⟨none,(.x (.st 1 (.t 25) (.t 24))),none,0⟩])
(.reg [mt 26 1,
mt 27 0,
mt 28 6,
oq 29 (.iaddr (.slice 1) (.t 27) (.t 28)),
oq 30 (ld 29),
oq 31 (bi .quo (.t 26) (.t 30)),
mt 1 31])))
(.reg [mt 15 6,
oq 16 (bi .sub (.t 15) (ci 1)),
mt 6 16]))))))
(.seq (.reg [mt 32 5,
mt 4 32])
.ret))))⟩
theorem row23 : Row Go.Proofs.Tryz.prog (23, a23) := ⟨Go.Proofs.Tryz.f23, Go.Proofs.Tryz.func23, by kernel_rfl⟩
noncomputable def a24 : AFn :=
⟨33,[(.t 4)],(.seq (.reg [oq 4 (.mv (.c .nilsl))])
(.seq (.reg [mt 7 0,
oq 8 (.lenSl (.t 7)),
⟨(some 9),(.a (.mkSlice 3 1 8 [(.int .i64 (.ofNat 0))] (.t 8) (.t 8))),none,0⟩,
mt 5 9])
(.seq (.seq (.reg [mt 10 0,
oq 11 (.lenSl (.t 10)),
oq 12 (bi .sub (.t 11) (ci 1)),
mt 6 12])
(.block 0 (.loop (.seq (.seq (.reg [mt 13 6,
oq 14 (bi .geq (.t 13) (ci 0))])
(.cond (.t 14) .skip (.exit 0)))
(.seq (.block 1 (.seq (.reg [mt 17 5,
mt 18 6,
mt 19 1,
mt 20 0,
mt 21 6,
oq 22 (.iaddr (.slice 1) (.t 20) (.t 21)),
oq 23 (ld 22),
oq 24 (bi .rem (.t 19) (.t 23)),
oq 25 (.iaddr (.slice 1) (.t 17) (.t 18)),
⟨none,(.x (.st 1 (.t 25) (.t 24))),none,0⟩])
(.reg [mt 26 1,
mt 27 0,
mt 28 6,
oq 29 (.iaddr (.slice 1) (.t 27) (.t 28)),
oq 30 (ld 29),
oq 31 (bi .quo (.t 26) (.t 30)),
mt 1 31])))
(.reg [mt 15 6,
oq 16 (bi .sub (.t 15) (ci 1)),
mt 6 16]))))))
(.seq (.reg [mt 32 5,
mt 4 32])
.ret))))⟩
theorem row24 : Row Go.Proofs.Tryz.prog (24, a24) := ⟨Go.Proofs.Tryz.f24, Go.Proofs.Tryz.func24, by kernel_rfl⟩
noncomputable def a25 : AFn :=
⟨28,[(.t 2)],(.seq (.reg [⟨(some 1),(.a (.box 48 (.t 0))),none,0⟩,
oq 2 (.mv (ci 0))])
(.seq (.seq (.reg [oq 4 (.faddr 1 (.t 1)),
oq 5 (ld 4),
oq 6 (.faddr 2 (.t 1)),
oq 7 (ld 6),
oc 8 41 [(.t 5),(.t 7)] 0,
mt 3 8])
(.seq (.reg [mt 9 3,
oq 10 (bi .neq (.t 9) (ci 0))])
(.cond (.t 10) (.seq (.reg [mt 11 3,
mt 2 11])
.ret) .skip)))
(.seq (.seq (.reg [oq 12 (.faddr 1 (.t 1)),
oq 13 (ld 12),
oq 14 (.lenSl (.t 13)),
oq 15 (bi .eql (.t 14) (ci 0)),
mt 16 15,
og 17 16 true 0 (.faddr 0 (.t 1)),
og 18 16 true 0 (ld 17),
oq 19 (.pick (.t 16) (.t 18) (.c (.bool false))),
mt 20 19,
og 21 20 false 0 (.faddr 1 (.t 1)),
og 22 20 false 0 (ld 21),
og 23 20 false 0 (.faddr 2 (.t 1)),
og 24 20 false 0 (ld 23),
⟨(some 25),(.x (.call (.c (.fn 42 [] [])) [(.t 22),(.t 24)])),(some (20,false)),0⟩,
og 26 20 false 0 (.un .not (.t 25)),
oq 27 (.pick (.t 20) (.c (.bool true)) (.t 26))])
(.cond (.t 27) (.seq (.reg [oq 2 (.mv (ci 3))])
.ret) .skip))
(.seq (.reg [oq 2 (.mv (ci 0))])
.ret))))⟩
theorem row25 : Row Go.Proofs.Tryz.prog (25, a25) := ⟨Go.Proofs.Tryz.f25, Go.Proofs.Tryz.func25, by kernel_rfl⟩
noncomputable def a26 : AFn :=
⟨19,[(.t 2)],(.seq (.reg [oq 2 (.mv (ci 0))])
(.seq (.seq (.reg [oq 3 (.mv (ci 0))])
(.block 0 (.loop (.seq (.seq (.reg [mt 5 3,
mt 6 0,
oq 7 (.lenSl (.t 6)),
oq 8 (bi .lss (.t 5) (.t 7))])
(.cond (.t 8) .skip (.exit 0)))
(.seq (.block 1 (.seq (.reg [mt 11 0,
mt 12 3,
oq 13 (.iaddr (.slice 3) (.t 11) (.t 12)),
oq 14 (.ld true 3 (.t 13)),
oc 15 43 [(.t 14)] 0,
mt 4 15])
(.seq (.reg [mt 16 4,
oq 17 (bi .neq (.t 16) (ci 0))])
(.cond (.t 17) (.seq (.reg [mt 18 4,
mt 2 18])
.ret) .skip))))
(.reg [mt 9 3,
oq 10 (bi .add (.t 9) (ci 1)),
mt 3 10]))))))
(.seq (.reg [oq 2 (.mv (ci 0))])
.ret)))⟩
theorem row26 : Row Go.Proofs.Tryz.prog (26, a26) := ⟨Go.Proofs.Tryz.f26, Go.Proofs.Tryz.func26, by kernel_rfl⟩
noncomputable def a39 : AFn :=
⟨21,[(.t 6)],(.seq (.reg [oq 6 (.mv (ci 0))])
(.seq (.seq (.reg [mt 9 0,
oq 10 (.lenSl (.t 9)),
oq 11 (.mv (ci 0))])
(.block 0 (.loop (.seq (.reg [oq 12 (bi .lss (.t 11) (.t 10))])
(.seq (.cond (.t 12) .skip (.exit 0))
(.seq (.block 1 (.seq (.reg [oq 13 (.iaddr (.slice 1) (.t 9) (.t 11)),
oq 14 (ld 13),
mt 8 14])
(.reg [mt 15 2,
mt 16 1,
mt 17 8,
⟨(some 18),(.x (.call (.t 15) [(.t 16),(.t 17)])),none,0⟩,
mt 1 18])))
(.reg [oq 19 (bi .add (.t 11) (ci 1)),
mt 11 19])))))))
(.seq (.reg [mt 20 1,
mt 6 20])
.ret)))⟩
theorem row39 : Row Go.Proofs.Tryz.prog (39, a39) := ⟨Go.Proofs.Tryz.f39, Go.Proofs.Tryz.func39, by kernel_rfl⟩
noncomputable def a40 : AFn :=
⟨12,[(.t 4)],(.seq (.reg [oq 4 (.mv (ci 0))])
(.seq (.seq (.reg [mt 5 1,
mt 6 0,
oq 7 (bi .quo (ci 1000) (.t 6)),
oq 8 (bi .gtr (.t 5) (.t 7))])
(.cond (.t 8) (.seq (.reg [oq 4 (.mv (ci 1001))])
.ret) .skip))
(.seq (.reg [mt 9 0,
mt 10 1,
oq 11 (bi .mul (.t 9) (.t 10)),
mt 4 11])
.ret)))⟩
theorem row40 : Row Go.Proofs.Tryz.prog (40, a40) := ⟨Go.Proofs.Tryz.f40, Go.Proofs.Tryz.func40, by kernel_rfl⟩
noncomputable def a41 : AFn :=
⟨20,[(.t 4)],(.seq (.reg [oq 4 (.mv (ci 0))])
(.seq (.seq (.reg [mt 7 0,
oc 8 59 [(.t 7)] 0,
mt 5 8])
(.seq (.reg [mt 9 5,
oq 10 (bi .neq (.t 9) (ci 0))])
(.cond (.t 10) (.seq (.reg [mt 11 5,
mt 4 11])
.ret) .skip)))
(.seq (.seq (.reg [mt 12 1,
oc 13 59 [(.t 12)] 0,
mt 6 13])
(.seq (.reg [mt 14 6,
oq 15 (bi .neq (.t 14) (ci 0))])
(.cond (.t 15) (.seq (.reg [mt 16 6,
mt 4 16])
.ret) .skip)))
(.seq (.seq (.reg [mt 17 1,
oq 18 (.lenSl (.t 17)),
oq 19 (bi .eql (.t 18) (ci 0))])
(.cond (.t 19) (.seq (.reg [oq 4 (.mv (ci 6))])
.ret) .skip))
(.seq (.reg [oq 4 (.mv (ci 0))])
.ret)))))⟩
theorem row41 : Row Go.Proofs.Tryz.prog (41, a41) := ⟨Go.Proofs.Tryz.f41, Go.Proofs.Tryz.func41, by kernel_rfl⟩
noncomputable def a42 : AFn :=
⟨23,[(.t 4)],(.seq (.reg [oq 4 (.mv (.c (.bool false)))])
(.seq (.seq (.reg [mt 5 0,
oq 6 (.lenSl (.t 5)),
oq 7 (bi .leq (.t 6) (ci 2)),
mt 8 7,
og 9 8 true 0 (.mv (.t 1)),
og 10 8 true 0 (.lenSl (.t 9)),
og 11 8 true 0 (bi .leq (.t 10) (ci 2)),
oq 12 (.pick (.t 8) (.t 11) (.c (.bool false)))])
(.cond (.t 12) (.seq (.reg [mt 13 0,
oc 14 61 [(.t 13)] 0,
mt 15 1,
oc 16 61 [(.t 15)] 0,
oc 17 60 [(.t 14),(.t 16)] 0,
oq 18 (bi .eql (.t 17) (.c (.int .u64 (.ofNat 1)))),
mt 4 18])
.ret) .skip))
(.seq (.reg [mt 19 0,
mt 20 1,
oc 21 63 [(.t 19),(.t 20)] 0,
oc 22 62 [(.t 21)] 0,
mt 4 22])
.ret)))⟩
theorem row42 : Row Go.Proofs.Tryz.prog (42, a42) := ⟨Go.Proofs.Tryz.f42, Go.Proofs.Tryz.func42, by kernel_rfl⟩
noncomputable def a43 : AFn :=
⟨39,[(.t 2)],(.seq (.reg [⟨(some 1),(.a (.box 48 (.t 0))),none,0⟩,
oq 2 (.mv (ci 0))])
(.seq (.seq (.reg [oq 4 (.faddr 1 (.t 1)),
oq 5 (ld 4),
oq 6 (.faddr 2 (.t 1)),
oq 7 (ld 6),
oc 8 64 [(.t 5),(.t 7)] 0,
mt 3 8])
(.seq (.reg [mt 9 3,
oq 10 (bi .neq (.t 9) (ci 0))])
(.cond (.t 10) (.seq (.reg [mt 11 3,
mt 2 11])
.ret) .skip)))
(.seq (.seq (.reg [oq 12 (.faddr 1 (.t 1)),
oq 13 (ld 12),
oq 14 (.faddr 2 (.t 1)),
oq 15 (ld 14),
oc 16 65 [(.t 13),(.t 15)] 0,
oq 17 (.lenSl (.t 16)),
oq 18 (bi .neq (.t 17) (ci 1)),
mt 19 18,
og 20 19 false 0 (.faddr 1 (.t 1)),
og 21 19 false 0 (ld 20),
og 22 19 false 0 (.faddr 2 (.t 1)),
og 23 19 false 0 (ld 22),
⟨(some 24),(.x (.call (.c (.fn 65 [] [])) [(.t 21),(.t 23)])),(some (19,false)),0⟩,
og 25 19 false 0 (.iaddr (.slice 1) (.t 24) (ci 0)),
og 26 19 false 0 (ld 25),
og 27 19 false 0 (bi .neq (.t 26) (.c (.int .u32 (.ofNat 1)))),
oq 28 (.pick (.t 19) (.c (.bool true)) (.t 27)),
mt 29 28,
og 30 29 false 0 (.faddr 0 (.t 1)),
og 31 29 false 0 (ld 30),
og 32 29 false 0 (.mv (.t 31)),
og 33 32 true 0 (.faddr 1 (.t 1)),
og 34 32 true 0 (ld 33),
og 35 32 true 0 (.lenSl (.t 34)),
og 36 32 true 0 (bi .eql (.t 35) (ci 0)),
og 37 29 false 0 (.pick (.t 32) (.t 36) (.c (.bool false))),
oq 38 (.pick (.t 29) (.c (.bool true)) (.t 37))])
(.cond (.t 38) (.seq (.reg [oq 2 (.mv (ci 3))])
.ret) .skip))
(.seq (.reg [oq 2 (.mv (ci 0))])
.ret))))⟩
theorem row43 : Row Go.Proofs.Tryz.prog (43, a43) := ⟨Go.Proofs.Tryz.f43, Go.Proofs.Tryz.func43, by kernel_rfl⟩
noncomputable def a59 : AFn :=
⟨29,[(.t 2)],(.seq (.reg [oq 2 (.mv (ci 0))])
(.seq (.seq (.reg [mt 5 0,
oq 6 (.lenSl (.t 5)),
oq 7 (bi .gtr (.t 6) (ci 1024))])
(.cond (.t 7) (.seq (.reg [oq 2 (.mv (ci 4))])
.ret) .skip))
(.seq (.seq (.reg [mt 8 0,
oq 9 (.lenSl (.t 8)),
oq 10 (.mv (ci 0))])
(.block 0 (.loop (.seq (.reg [oq 11 (bi .lss (.t 10) (.t 9))])
(.seq (.cond (.t 11) .skip (.exit 0))
(.seq (.block 1 (.seq (.reg [oq 12 (.iaddr (.slice 1) (.t 8) (.t 10)),
oq 13 (ld 12),
mt 4 13])
(.seq (.reg [mt 14 4,
oq 15 (bi .geq (.t 14) (.c (.int .u32 (.ofNat 1000000000))))])
(.cond (.t 15) (.seq (.reg [oq 2 (.mv (ci 3))])
.ret) .skip))))
(.reg [oq 16 (bi .add (.t 10) (ci 1)),
mt 10 16])))))))
(.seq (.seq (.reg [mt 17 0,
oq 18 (.lenSl (.t 17)),
oq 19 (bi .gtr (.t 18) (ci 0)),
mt 20 19,
og 21 20 true 0 (.mv (.t 0)),
og 22 20 true 0 (.mv (.t 0)),
og 23 20 true 0 (.lenSl (.t 22)),
og 24 20 true 0 (bi .sub (.t 23) (ci 1)),
og 25 20 true 0 (.iaddr (.slice 1) (.t 21) (.t 24)),
og 26 20 true 0 (ld 25),
og 27 20 true 0 (bi .eql (.t 26) (.c (.int .u32 (.ofNat 0)))),
oq 28 (.pick (.t 20) (.t 27) (.c (.bool false)))])
(.cond (.t 28) (.seq (.reg [oq 2 (.mv (ci 3))])
.ret) .skip))
(.seq (.reg [oq 2 (.mv (ci 0))])
.ret)))))⟩
theorem row59 : Row Go.Proofs.Tryz.prog (59, a59) := ⟨Go.Proofs.Tryz.f59, Go.Proofs.Tryz.func59, by kernel_rfl⟩
noncomputable def a60 : AFn :=
⟨37,[(.t 4)],(.seq (.reg [oq 4 (.mv (.c (.int .u64 (.ofNat 0))))])
(.seq (.seq (.reg [mt 6 0,
oq 7 (bi .eql (.t 6) (.c (.int .u64 (.ofNat 0))))])
(.cond (.t 7) (.seq (.reg [mt 8 1,
mt 4 8])
.ret) .skip))
(.seq (.seq (.reg [mt 9 1,
oq 10 (bi .eql (.t 9) (.c (.int .u64 (.ofNat 0))))])
(.cond (.t 10) (.seq (.reg [mt 11 0,
mt 4 11])
.ret) .skip))
(.seq (.reg [mt 12 0,
mt 13 1,
oq 14 (bi .or (.t 12) (.t 13)),
oc 15 79 [(.t 14)] 0,
mt 5 15])
(.seq (.reg [mt 16 0,
mt 17 0,
oc 18 79 [(.t 17)] 0,
oq 19 (bi .shr (.t 16) (.t 18)),
mt 0 19])
(.seq (.block 0 (.loop (.seq (.seq (.reg [mt 20 1,
oq 21 (bi .neq (.t 20) (.c (.int .u64 (.ofNat 0))))])
(.cond (.t 21) .skip (.exit 0)))
(.block 1 (.seq (.reg [mt 22 1,
mt 23 1,
oc 24 79 [(.t 23)] 0,
oq 25 (bi .shr (.t 22) (.t 24)),
mt 1 25])
(.seq (.seq (.reg [mt 26 0,
mt 27 1,
oq 28 (bi .gtr (.t 26) (.t 27))])
(.cond (.t 28) (.reg [mt 29 1,
mt 30 0,
mt 0 29,
mt 1 30]) .skip))
(.reg [mt 31 1,
mt 32 0,
oq 33 (bi .sub (.t 31) (.t 32)),
mt 1 33])))))))
(.seq (.reg [mt 34 0,
mt 35 5,
oq 36 (bi .shl (.t 34) (.t 35)),
mt 4 36])
.ret)))))))⟩
theorem row60 : Row Go.Proofs.Tryz.prog (60, a60) := ⟨Go.Proofs.Tryz.f60, Go.Proofs.Tryz.func60, by kernel_rfl⟩
noncomputable def a61 : AFn :=
⟨21,[(.t 2)],(.seq (.reg [oq 2 (.mv (.c (.int .u64 (.ofNat 0))))])
(.seq (.reg [oq 3 (.mv (.c (.int .u64 (.ofNat 0))))])
(.seq (.seq (.reg [mt 5 0,
oq 6 (.lenSl (.t 5)),
oq 7 (bi .sub (.t 6) (ci 1)),
mt 4 7])
(.block 0 (.loop (.seq (.seq (.reg [mt 8 4,
oq 9 (bi .geq (.t 8) (ci 0))])
(.cond (.t 9) .skip (.exit 0)))
(.seq (.block 1 (.reg [mt 12 3,
oq 13 (bi .mul (.t 12) (.c (.int .u64 (.ofNat 1000000000)))),
mt 14 0,
mt 15 4,
oq 16 (.iaddr (.slice 1) (.t 14) (.t 15)),
oq 17 (ld 16),
oq 18 (.conv (.int .u64) (.t 17)),
oq 19 (bi .add (.t 13) (.t 18)),
mt 3 19]))
(.reg [mt 10 4,
oq 11 (bi .sub (.t 10) (ci 1)),
mt 4 11]))))))
(.seq (.reg [mt 20 3,
mt 2 20])
.ret))))⟩
theorem row61 : Row Go.Proofs.Tryz.prog (61, a61) := ⟨Go.Proofs.Tryz.f61, Go.Proofs.Tryz.func61, by kernel_rfl⟩
noncomputable def a62 : AFn :=
⟨12,[(.t 2)],(.seq (.reg [oq 2 (.mv (.c (.bool false)))])
(.seq (.reg [mt 3 0,
oq 4 (.lenSl (.t 3)),
oq 5 (bi .eql (.t 4) (ci 1)),
mt 6 5,
og 7 6 true 0 (.mv (.t 0)),
og 8 6 true 0 (.iaddr (.slice 1) (.t 7) (ci 0)),
og 9 6 true 0 (ld 8),
og 10 6 true 0 (bi .eql (.t 9) (.c (.int .u32 (.ofNat 1)))),
oq 11 (.pick (.t 6) (.t 10) (.c (.bool false))),
mt 2 11])
.ret))⟩
theorem row62 : Row Go.Proofs.Tryz.prog (62, a62) := ⟨Go.Proofs.Tryz.f62, Go.Proofs.Tryz.func62, by kernel_rfl⟩
noncomputable def a63 : AFn :=
⟨91,[(.t 4)],(.seq (.reg [oq 4 (.mv (.c .nilsl))])
(.seq (.seq (.reg [mt 13 0,
oq 14 (.lenSl (.t 13)),
oq 15 (bi .leq (.t 14) (ci 2)),
mt 16 15,
og 17 16 true 0 (.mv (.t 1)),
og 18 16 true 0 (.lenSl (.t 17)),
og 19 16 true 0 (bi .leq (.t 18) (ci 2)),
oq 20 (.pick (.t 16) (.t 19) (.c (.bool false)))])
(.cond (.t 20) (.seq (.reg [mt 21 0,
oc 22 61 [(.t 21)] 0,
mt 23 1,
oc 24 61 [(.t 23)] 0,
oc 25 60 [(.t 22),(.t 24)] 0,
oc 26 80 [(.t 25)] 0,
mt 4 26])
.ret) .skip))
(.seq (.seq (.reg [mt 27 0,
oc 28 62 [(.t 27)] 0,
mt 29 28,
og 30 29 false 0 (.mv (.t 1)),
⟨(some 31),(.x (.call (.c (.fn 62 [] [])) [(.t 30)])),(some (29,false)),0⟩,
oq 32 (.pick (.t 29) (.c (.bool true)) (.t 31))])
(.cond (.t 32) (.seq (.reg [oc 33 81 [] 0,
mt 4 33])
.ret) .skip))
(.seq (.seq (.reg [mt 34 0,
mt 35 1,
oc 36 82 [(.t 34),(.t 35)] 0,
oq 37 (bi .lss (.t 36) (ci 0))])
(.cond (.t 37) (.reg [mt 38 1,
mt 39 0,
mt 0 38,
mt 1 39]) .skip))
(.seq (.block 0 (.loop (.seq (.seq (.reg [mt 40 1,
oq 41 (.lenSl (.t 40)),
oq 42 (bi .gtr (.t 41) (ci 2))])
(.cond (.t 42) .skip (.exit 0)))
(.block 1 (.seq (.reg [mt 44 0,
mt 45 1,
oc 46 84 [(.t 44),(.t 45)] 0,
oq 47 (.extract (.t 46) 0),
oq 48 (.extract (.t 46) 1),
oc 49 83 [(.t 47),(.t 48)] 0,
mt 43 49,
oq 50 (.extract (.t 43) 0),
oq 51 (.extract (.t 43) 1),
oq 52 (.extract (.t 43) 2),
oq 53 (.extract (.t 43) 3),
mt 5 50,
mt 6 51,
mt 7 52,
mt 8 53])
(.seq (.seq (.reg [mt 54 6,
oq 55 (bi .eql (.t 54) (ci 0))])
(.cond (.t 55) (.seq (.reg [mt 57 0,
mt 58 1,
oc 59 85 [(.t 57),(.t 58)] 0,
mt 56 59,
oq 60 (.extract (.t 56) 0),
oq 61 (.extract (.t 56) 1),
mt 9 60,
mt 10 61])
(.seq (.reg [mt 62 1,
mt 63 10,
mt 0 62,
mt 1 63])
(.exit 1))) .skip))
(.reg [mt 64 0,
mt 65 1,
mt 66 5,
mt 67 6,
oc 68 86 [(.t 64),(.t 65),(.t 66),(.t 67)] 0,
mt 69 0,
mt 70 1,
mt 71 7,
mt 72 8,
oc 73 86 [(.t 69),(.t 70),(.t 71),(.t 72)] 0,
mt 0 68,
mt 1 73])))))))
(.seq (.seq (.reg [mt 74 1,
oq 75 (.lenSl (.t 74)),
oq 76 (bi .eql (.t 75) (ci 0))])
(.cond (.t 76) (.seq (.reg [mt 77 0,
oc 78 87 [(.t 77)] 0,
mt 4 78])
.ret) .skip))
(.seq (.reg [mt 80 0,
mt 81 1,
oc 82 85 [(.t 80),(.t 81)] 0,
mt 79 82,
oq 83 (.extract (.t 79) 0),
oq 84 (.extract (.t 79) 1),
mt 11 83,
mt 12 84])
(.seq (.reg [mt 85 1,
oc 86 61 [(.t 85)] 0,
mt 87 12,
oc 88 61 [(.t 87)] 0,
oc 89 60 [(.t 86),(.t 88)] 0,
oc 90 80 [(.t 89)] 0,
mt 4 90])
.ret))))))))⟩
theorem row63 : Row Go.Proofs.Tryz.prog (63, a63) := ⟨Go.Proofs.Tryz.f63, Go.Proofs.Tryz.func63, by kernel_rfl⟩
noncomputable def a64 : AFn :=
⟨20,[(.t 4)],(.seq (.reg [oq 4 (.mv (ci 0))])
(.seq (.seq (.reg [mt 7 0,
oc 8 88 [(.t 7)] 0,
mt 5 8])
(.seq (.reg [mt 9 5,
oq 10 (bi .neq (.t 9) (ci 0))])
(.cond (.t 10) (.seq (.reg [mt 11 5,
mt 4 11])
.ret) .skip)))
(.seq (.seq (.reg [mt 12 1,
oc 13 88 [(.t 12)] 0,
mt 6 13])
(.seq (.reg [mt 14 6,
oq 15 (bi .neq (.t 14) (ci 0))])
(.cond (.t 15) (.seq (.reg [mt 16 6,
mt 4 16])
.ret) .skip)))
(.seq (.seq (.reg [mt 17 1,
oq 18 (.lenSl (.t 17)),
oq 19 (bi .eql (.t 18) (ci 0))])
(.cond (.t 19) (.seq (.reg [oq 4 (.mv (ci 6))])
.ret) .skip))
(.seq (.reg [oq 4 (.mv (ci 0))])
.ret)))))⟩
theorem row64 : Row Go.Proofs.Tryz.prog (64, a64) := ⟨Go.Proofs.Tryz.f64, Go.Proofs.Tryz.func64, by kernel_rfl⟩
noncomputable def a65 : AFn :=
⟨19,[(.t 4)],(.seq (.reg [oq 4 (.mv (.c .nilsl))])
(.seq (.block 0 (.loop (.seq (.seq (.reg [mt 7 1,
oq 8 (.lenSl (.t 7)),
oq 9 (bi .gtr (.t 8) (ci 0))])
(.cond (.t 9) .skip (.exit 0)))
(.block 1 (.seq (.reg [mt 11 0,
mt 12 1,
oc 13 78 [(.t 11),(.t 12)] 0,
mt 10 13,
oq 14 (.extract (.t 10) 0),
oq 15 (.extract (.t 10) 1),
mt 5 14,
mt 6 15])
(.reg [mt 16 1,
mt 17 6,
mt 0 16,
mt 1 17]))))))
(.seq (.reg [mt 18 0,
mt 4 18])
.ret)))⟩
theorem row65 : Row Go.Proofs.Tryz.prog (65, a65) := ⟨Go.Proofs.Tryz.f65, Go.Proofs.Tryz.func65, by kernel_rfl⟩
noncomputable def a78 : AFn :=
⟨156,[(.t 4),(.t 5)],(.seq (.reg [oq 4 (.mv (.c .nilsl)),
oq 5 (.mv (.c .nilsl))])
(.seq (.seq (.reg [mt 15 0,
mt 16 1,
oc 17 112 [(.t 15),(.t 16)] 0,
oq 18 (bi .lss (.t 17) (ci 0))])
(.cond (.t 18) (.seq (.reg [mt 19 0,
oq 4 (.mv (.c .nilsl)),
mt 5 19])
.ret) .skip))
(.seq (.reg [mt 20 1,
mt 21 1,
oq 22 (.lenSl (.t 21)),
oq 23 (bi .sub (.t 22) (ci 1)),
oq 24 (.iaddr (.slice 1) (.t 20) (.t 23)),
oq 25 (ld 24),
oq 26 (.conv (.int .u64) (.t 25)),
oq 27 (bi .add (.t 26) (.c (.int .u64 (.ofNat 1)))),
oq 28 (bi .quo (.c (.int .u64 (.ofNat 1000000000))) (.t 27)),
oq 29 (.conv (.int .u32) (.t 28)),
oc 30 113 [(.t 29)] 0,
mt 6 30])
(.seq (.reg [mt 31 0,
mt 32 6,
oc 33 114 [(.t 31),(.t 32)] 0,
mt 34 1,
mt 35 6,
oc 36 114 [(.t 34),(.t 35)] 0,
mt 0 33,
mt 1 36])
(.seq (.reg [mt 37 1,
mt 38 1,
oq 39 (.lenSl (.t 38)),
oq 40 (bi .sub (.t 39) (ci 1)),
oq 41 (.iaddr (.slice 1) (.t 37) (.t 40)),
oq 42 (ld 41),
oq 43 (.conv (.int .u64) (.t 42)),
mt 7 43])
(.seq (.reg [mt 44 1,
oq 45 (.lenSl (.t 44)),
mt 8 45])
(.seq (.drw [mt 46 0,
om 47 1 (.lenSl (.t 46)),
mt 48 8,
om 49 7 (bi .sub (.t 47) (.t 48)),
om 50 15 (bi .add (.t 49) (ci 1)),
⟨(some 51),(.a (.mkSlice 102 1 4 [(.int .u32 (.ofNat 0))] (.t 50) (.t 50))),none,31⟩,
mt 52 5,
mt 53 0,
mt 54 0,
om 55 256 (.lenSl (.t 54)),
mt 56 8,
om 57 1792 (bi .sub (.t 55) (.t 56)),
om 58 3840 (bi .add (.t 57) (ci 1)),
om 59 8064 (.slc (.slice 1) (.t 53) (some (.t 58)) none none),
⟨(some 60),(.x (.app 102 1 4 (.t 52) (.t 59))),none,16320⟩,
om 4 32767 (.mv (.t 51)),
om 5 65535 (.mv (.t 60))])
(.seq (.seq (.reg [mt 61 0,
oq 62 (.lenSl (.t 61)),
mt 63 8,
oq 64 (bi .sub (.t 62) (.t 63)),
mt 9 64])
(.block 0 (.loop (.seq (.seq (.reg [mt 65 9,
oq 66 (bi .geq (.t 65) (ci 0))])
(.cond (.t 66) .skip (.exit 0)))
(.seq (.block 1 (.seq (.reg [mt 69 0,
mt 70 9,
oq 71 (.iaddr (.slice 1) (.t 69) (.t 70)),
oq 72 (ld 71),
⟨(some 73),(.a (.bslice 102 1 1 [(.int .u32 (.ofNat 0))] [(0,(.t 72))])),none,0⟩,
mt 74 5,
⟨(some 75),(.x (.app 102 1 4 (.t 73) (.t 74))),none,0⟩,
oc 76 115 [(.t 75)] 0,
mt 5 76])
(.seq (.reg [oq 10 (.mv (.c (.int .u64 (.ofNat 0))))])
(.seq (.seq (.reg [mt 77 5,
oq 78 (.lenSl (.t 77)),
oq 79 (bi .sub (.t 78) (ci 1)),
mt 11 79])
(.block 2 (.loop (.seq (.seq (.reg [mt 80 11,
mt 81 1,
oq 82 (.lenSl (.t 81)),
oq 83 (bi .sub (.t 82) (ci 1)),
oq 84 (bi .geq (.t 80) (.t 83))])
(.cond (.t 84) .skip (.exit 2)))
(.seq (.block 3 (.reg [mt 87 10,
oq 88 (bi .mul (.t 87) (.c (.int .u64 (.ofNat 1000000000)))),
mt 89 5,
mt 90 11,
oq 91 (.iaddr (.slice 1) (.t 89) (.t 90)),
oq 92 (ld 91),
oq 93 (.conv (.int .u64) (.t 92)),
oq 94 (bi .add (.t 88) (.t 93)),
mt 10 94]))
(.reg [mt 85 11,
oq 86 (bi .sub (.t 85) (ci 1)),
mt 11 86]))))))
(.seq (.reg [mt 95 10,
mt 96 7,
oq 97 (bi .quo (.t 95) (.t 96)),
oq 98 (.minmax false [(.t 97),(.c (.int .u64 (.ofNat 999999999)))]),
mt 12 98])
(.seq (.block 4 (.loop (.seq (.seq (.reg [mt 99 1,
mt 100 12,
oq 101 (.conv (.int .u32) (.t 100)),
oc 102 113 [(.t 101)] 0,
oc 103 114 [(.t 99),(.t 102)] 0,
mt 104 5,
oc 105 112 [(.t 103),(.t 104)] 0,
oq 106 (bi .gtr (.t 105) (ci 0))])
(.cond (.t 106) .skip (.exit 4)))
(.block 5 (.reg [mt 107 12,
oq 108 (bi .sub (.t 107) (.c (.int .u64 (.ofNat 1)))),
mt 12 108])))))
(.reg [mt 109 4,
mt 110 9,
mt 111 5,
mt 112 1,
mt 113 12,
oq 114 (.conv (.int .u32) (.t 113)),
oc 115 113 [(.t 114)] 0,
oc 116 114 [(.t 112),(.t 115)] 0,
oc 117 116 [(.t 111),(.t 116)] 0,
mt 118 12,
oq 119 (.conv (.int .u32) (.t 118)),
mt 5 117,
oq 120 (.iaddr (.slice 1) (.t 109) (.t 110)),
⟨none,(.x (.st 1 (.t 120) (.t 119))),none,0⟩])))))))
(.reg [mt 67 9,
oq 68 (bi .sub (.t 67) (ci 1)),
mt 9 68]))))))
(.seq (.reg [oq 13 (.mv (.c (.int .u64 (.ofNat 0))))])
(.seq (.seq (.reg [mt 121 5,
oq 122 (.lenSl (.t 121)),
oq 123 (bi .sub (.t 122) (ci 1)),
mt 14 123])
(.block 6 (.loop (.seq (.seq (.reg [mt 124 14,
oq 125 (bi .geq (.t 124) (ci 0))])
(.cond (.t 125) .skip (.exit 6)))
(.seq (.block 7 (.seq (.reg [mt 128 13,
oq 129 (bi .mul (.t 128) (.c (.int .u64 (.ofNat 1000000000)))),
mt 130 5,
mt 131 14,
oq 132 (.iaddr (.slice 1) (.t 130) (.t 131)),
oq 133 (ld 132),
oq 134 (.conv (.int .u64) (.t 133)),
oq 135 (bi .add (.t 129) (.t 134)),
mt 13 135])
(.seq (.reg [mt 136 5,
mt 137 14,
mt 138 13,
mt 139 6,
oq 140 (.iaddr (.slice 1) (.t 139) (ci 0)),
oq 141 (ld 140),
oq 142 (.conv (.int .u64) (.t 141)),
oq 143 (bi .quo (.t 138) (.t 142)),
oq 144 (.conv (.int .u32) (.t 143)),
oq 145 (.iaddr (.slice 1) (.t 136) (.t 137)),
⟨none,(.x (.st 1 (.t 145) (.t 144))),none,0⟩])
(.reg [mt 146 13,
mt 147 6,
oq 148 (.iaddr (.slice 1) (.t 147) (ci 0)),
oq 149 (ld 148),
oq 150 (.conv (.int .u64) (.t 149)),
oq 151 (bi .rem (.t 146) (.t 150)),
mt 13 151]))))
(.reg [mt 126 14,
oq 127 (bi .sub (.t 126) (ci 1)),
mt 14 127]))))))
(.seq (.reg [mt 152 4,
oc 153 115 [(.t 152)] 0,
mt 154 5,
oc 155 115 [(.t 154)] 0,
mt 4 153,
mt 5 155])
.ret)))))))))))⟩
theorem row78 : Row Go.Proofs.Tryz.prog (78, a78) := ⟨Go.Proofs.Tryz.f78, Go.Proofs.Tryz.func78, by kernel_rfl⟩
end Go.Ev.Gl
