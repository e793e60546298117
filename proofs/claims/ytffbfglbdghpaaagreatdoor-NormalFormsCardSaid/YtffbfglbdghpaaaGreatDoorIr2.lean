/- Functions of the program as data of the evaluator, written by program; each is shown to be the compiler's result on the loaded function. -/
import Derived.Test.YtffbfglbdghpaaaGreatDoorProg
import Derived.Test.YtffbfglbdghpaaaGreatDoorEv8
import Derived.KernelRfl
namespace Go.Ev.Gl
set_option maxRecDepth 100000
noncomputable def a79 : AFn :=
⟨14,[(.t 2)],(.seq (.reg [oq 2 (.mv (ci 0))])
(.seq (.seq (.reg [mt 3 0,
oq 4 (bi .eql (.t 3) (.c (.int .u64 (.ofNat 0))))])
(.cond (.t 4) (.seq (.reg [oq 2 (.mv (ci 64))])
.ret) .skip))
(.seq (.reg [mt 5 0,
mt 6 0,
oq 7 (.un .neg (.t 6)),
oq 8 (bi .and (.t 5) (.t 7)),
oq 9 (bi .mul (.t 8) (.c (.int .u64 (.ofNat 285870213051353865)))),
oq 10 (bi .shr (.t 9) (.c (.int .u64 (.ofNat 58)))),
oq 11 (.iaddr (.arr 64 1) (.c (.ptr 0 0)) (.t 10)),
oq 12 (ld 11),
oq 13 (.conv (.int .i64) (.t 12)),
mt 2 13])
.ret)))⟩
theorem row79 : Row Go.Proofs.Tryz.prog (79, a79) := ⟨Go.Proofs.Tryz.f79, Go.Proofs.Tryz.func79, by kernel_rfl⟩
noncomputable def a80 : AFn :=
⟨15,[(.t 2)],(.seq (.reg [oq 2 (.mv (.c .nilsl))])
(.seq (.reg [oq 3 (.mv (.c .nilsl))])
(.seq (.block 0 (.loop (.seq (.seq (.reg [mt 4 0,
oq 5 (bi .gtr (.t 4) (.c (.int .u64 (.ofNat 0))))])
(.cond (.t 5) .skip (.exit 0)))
(.block 1 (.seq (.reg [mt 6 3,
mt 7 0,
oq 8 (bi .rem (.t 7) (.c (.int .u64 (.ofNat 1000000000)))),
oq 9 (.conv (.int .u32) (.t 8)),
⟨(some 10),(.a (.bslice 102 1 1 [(.int .u32 (.ofNat 0))] [(0,(.t 9))])),none,0⟩,
⟨(some 11),(.x (.app 102 1 4 (.t 6) (.t 10))),none,0⟩,
mt 3 11])
(.reg [mt 12 0,
oq 13 (bi .quo (.t 12) (.c (.int .u64 (.ofNat 1000000000)))),
mt 0 13]))))))
(.seq (.reg [mt 14 3,
mt 2 14])
.ret))))⟩
theorem row80 : Row Go.Proofs.Tryz.prog (80, a80) := ⟨Go.Proofs.Tryz.f80, Go.Proofs.Tryz.func80, by kernel_rfl⟩
noncomputable def a81 : AFn :=
⟨2,[(.t 0)],(.seq (.reg [oq 0 (.mv (.c .nilsl))])
(.seq (.reg [⟨(some 1),(.a (.bslice 102 1 1 [(.int .u32 (.ofNat 0))] [(0,(.c (.int .u32 (.ofNat 1))))])),none,0⟩,
mt 0 1])
.ret))⟩
theorem row81 : Row Go.Proofs.Tryz.prog (81, a81) := ⟨Go.Proofs.Tryz.f81, Go.Proofs.Tryz.func81, by kernel_rfl⟩
noncomputable def a82 : AFn :=
⟨41,[(.t 4)],(.seq (.reg [oq 4 (.mv (ci 0))])
(.seq (.seq (.reg [mt 6 0,
oq 7 (.lenSl (.t 6)),
mt 8 1,
oq 9 (.lenSl (.t 8)),
oq 10 (bi .neq (.t 7) (.t 9))])
(.cond (.t 10) (.seq (.seq (.reg [mt 11 0,
oq 12 (.lenSl (.t 11)),
mt 13 1,
oq 14 (.lenSl (.t 13)),
oq 15 (bi .lss (.t 12) (.t 14))])
(.cond (.t 15) (.seq (.reg [oq 4 (.mv (.c (.int .i64 (.negSucc 0))))])
.ret) .skip))
(.seq (.reg [oq 4 (.mv (ci 1))])
.ret)) .skip))
(.seq (.seq (.reg [mt 16 0,
oq 17 (.lenSl (.t 16)),
oq 18 (bi .sub (.t 17) (ci 1)),
mt 5 18])
(.block 0 (.loop (.seq (.seq (.reg [mt 19 5,
oq 20 (bi .geq (.t 19) (ci 0))])
(.cond (.t 20) .skip (.exit 0)))
(.seq (.block 1 (.seq (.seq (.drw [mt 23 0,
mt 24 5,
om 25 3 (.iaddr (.slice 1) (.t 23) (.t 24)),
om 26 7 (ld 25),
mt 27 1,
mt 28 5,
om 29 48 (.iaddr (.slice 1) (.t 27) (.t 28)),
om 30 112 (ld 29),
om 31 255 (bi .lss (.t 26) (.t 30))])
(.cond (.t 31) (.seq (.reg [oq 4 (.mv (.c (.int .i64 (.negSucc 0))))])
.ret) .skip))
(.seq (.drw [mt 32 0,
mt 33 5,
om 34 3 (.iaddr (.slice 1) (.t 32) (.t 33)),
om 35 7 (ld 34),
mt 36 1,
mt 37 5,
om 38 48 (.iaddr (.slice 1) (.t 36) (.t 37)),
om 39 112 (ld 38),
om 40 255 (bi .gtr (.t 35) (.t 39))])
(.cond (.t 40) (.seq (.reg [oq 4 (.mv (ci 1))])
.ret) .skip))))
(.reg [mt 21 5,
oq 22 (bi .sub (.t 21) (ci 1)),
mt 5 22]))))))
(.seq (.reg [oq 4 (.mv (ci 0))])
.ret))))⟩
theorem row82 : Row Go.Proofs.Tryz.prog (82, a82) := ⟨Go.Proofs.Tryz.f82, Go.Proofs.Tryz.func82, by kernel_rfl⟩
noncomputable def a83 : AFn :=
⟨69,[(.t 4),(.t 5),(.t 6),(.t 7)],(.seq (.reg [oq 4 (.mv (ci 0)),
oq 5 (.mv (ci 0)),
oq 6 (.mv (ci 0)),
oq 7 (.mv (ci 0))])
(.seq (.reg [oq 4 (.mv (ci 1)),
oq 5 (.mv (ci 0)),
oq 6 (.mv (ci 0)),
oq 7 (.mv (ci 1))])
(.seq (.block 0 (.loop (.seq (.seq (.reg [mt 11 1,
mt 12 6,
oq 13 (bi .add (.t 11) (.t 12)),
oq 14 (bi .neq (.t 13) (ci 0)),
mt 15 14,
og 16 15 true 0 (.mv (.t 1)),
og 17 15 true 0 (.mv (.t 7)),
og 18 15 true 0 (bi .add (.t 16) (.t 17)),
og 19 15 true 0 (bi .neq (.t 18) (ci 0)),
oq 20 (.pick (.t 15) (.t 19) (.c (.bool false)))])
(.cond (.t 20) .skip (.exit 0)))
(.block 1 (.seq (.reg [mt 21 0,
mt 22 4,
oq 23 (bi .add (.t 21) (.t 22)),
mt 24 1,
mt 25 6,
oq 26 (bi .add (.t 24) (.t 25)),
oq 27 (bi .quo (.t 23) (.t 26)),
mt 8 27])
(.seq (.seq (.reg [mt 28 8,
mt 29 0,
mt 30 5,
oq 31 (bi .add (.t 29) (.t 30)),
mt 32 1,
mt 33 7,
oq 34 (bi .add (.t 32) (.t 33)),
oq 35 (bi .quo (.t 31) (.t 34)),
oq 36 (bi .neq (.t 28) (.t 35))])
(.cond (.t 36) (.exit 0) .skip))
(.seq (.reg [mt 37 4,
mt 38 8,
mt 39 6,
oq 40 (bi .mul (.t 38) (.t 39)),
oq 41 (bi .sub (.t 37) (.t 40)),
mt 42 5,
mt 43 8,
mt 44 7,
oq 45 (bi .mul (.t 43) (.t 44)),
oq 46 (bi .sub (.t 42) (.t 45)),
mt 9 41,
mt 10 46])
(.seq (.seq (.reg [mt 47 9,
mt 48 9,
oq 49 (.un .neg (.t 48)),
mt 50 10,
mt 51 10,
oq 52 (.un .neg (.t 51)),
oq 53 (.minmax true [(.t 47),(.t 49),(.t 50),(.t 52)]),
oq 54 (bi .geq (.t 53) (ci 1000000000))])
(.cond (.t 54) (.exit 0) .skip))
(.seq (.reg [mt 55 6,
mt 56 7,
mt 57 9,
mt 58 10,
mt 4 55,
mt 5 56,
mt 6 57,
mt 7 58])
(.reg [mt 59 1,
mt 60 0,
mt 61 8,
mt 62 1,
oq 63 (bi .mul (.t 61) (.t 62)),
oq 64 (bi .sub (.t 60) (.t 63)),
mt 0 59,
mt 1 64]))))))))))
(.seq (.reg [mt 65 4,
mt 66 5,
mt 67 6,
mt 68 7,
mt 4 65,
mt 5 66,
mt 6 67,
mt 7 68])
.ret))))⟩
theorem row83 : Row Go.Proofs.Tryz.prog (83, a83) := ⟨Go.Proofs.Tryz.f83, Go.Proofs.Tryz.func83, by kernel_rfl⟩
noncomputable def a84 : AFn :=
⟨30,[(.t 4),(.t 5)],(.seq (.reg [oq 4 (.mv (ci 0)),
oq 5 (.mv (ci 0))])
(.seq (.reg [mt 9 0,
oq 10 (.lenSl (.t 9)),
⟨(some 6),(.a (.alloc 3 [(.int .i64 (.ofNat 0))])),none,0⟩,
⟨none,(.x (.st 1 (.t 6) (.t 10))),none,0⟩])
(.seq (.reg [⟨(some 7),(.a (.alloc 110 [(.int .u64 (.ofNat 0))])),none,0⟩,
⟨none,(.x (.st 1 (.t 7) (.c (.int .u64 (.ofNat 1))))),none,0⟩])
(.seq (.block 0 (.loop (.seq (.seq (.drw [mt 11 0,
oq 12 (ld 6),
om 13 2 (bi .sub (.t 12) (ci 1)),
om 14 7 (.iaddr (.slice 1) (.t 11) (.t 13)),
om 15 15 (ld 14),
om 16 31 (.conv (.int .u64) (.t 15)),
oq 17 (ld 7),
om 18 127 (bi .mul (.t 16) (.t 17)),
om 19 255 (bi .mul (.t 18) (.c (.int .u64 (.ofNat 10)))),
om 20 511 (bi .lss (.t 19) (.c (.int .u64 (.ofNat 1000000000))))])
(.cond (.t 20) .skip (.exit 0)))
(.block 1 (.reg [oq 21 (ld 7),
oq 22 (bi .mul (.t 21) (.c (.int .u64 (.ofNat 10)))),
⟨none,(.x (.st 1 (.t 7) (.t 22))),none,0⟩])))))
(.seq (.reg [oq 23 (.mkFunc 117 [] [(.t 6),(.t 7)]),
mt 8 23])
(.seq (.reg [mt 24 8,
mt 25 0,
⟨(some 26),(.x (.call (.t 24) [(.t 25)])),none,0⟩,
mt 27 8,
mt 28 1,
⟨(some 29),(.x (.call (.t 27) [(.t 28)])),none,0⟩,
mt 4 26,
mt 5 29])
.ret))))))⟩
theorem row84 : Row Go.Proofs.Tryz.prog (84, a84) := ⟨Go.Proofs.Tryz.f84, Go.Proofs.Tryz.func84, by kernel_rfl⟩
noncomputable def a85 : AFn :=
⟨93,[(.t 4),(.t 5)],(.seq (.reg [oq 4 (.mv (.c .nilsl)),
oq 5 (.mv (.c .nilsl))])
(.seq (.seq (.reg [mt 13 0,
mt 14 1,
oc 15 82 [(.t 13),(.t 14)] 0,
oq 16 (bi .lss (.t 15) (ci 0))])
(.cond (.t 16) (.seq (.reg [mt 17 0,
oc 18 87 [(.t 17)] 0,
oq 4 (.mv (.c .nilsl)),
mt 5 18])
.ret) .skip))
(.seq (.seq (.reg [mt 19 1,
oq 20 (.lenSl (.t 19)),
oq 21 (bi .eql (.t 20) (ci 1))])
(.cond (.t 21) (.seq (.reg [mt 23 0,
mt 24 1,
oq 25 (.iaddr (.slice 1) (.t 24) (ci 0)),
oq 26 (ld 25),
oc 27 119 [(.t 23),(.t 26)] 0,
mt 22 27,
oq 28 (.extract (.t 22) 0),
oq 29 (.extract (.t 22) 1),
mt 6 28,
mt 7 29])
(.seq (.reg [mt 30 6,
mt 31 7,
oq 32 (.conv (.int .u64) (.t 31)),
oc 33 80 [(.t 32)] 0,
mt 4 30,
mt 5 33])
.ret)) .skip))
(.seq (.reg [mt 34 1,
oq 35 (.lenSl (.t 34)),
mt 8 35])
(.seq (.reg [mt 36 1,
mt 37 8,
oq 38 (bi .sub (.t 37) (ci 1)),
oq 39 (.iaddr (.slice 1) (.t 36) (.t 38)),
oq 40 (ld 39),
oq 41 (.conv (.int .u64) (.t 40)),
oq 42 (bi .add (.t 41) (.c (.int .u64 (.ofNat 1)))),
oq 43 (bi .quo (.c (.int .u64 (.ofNat 1000000000))) (.t 42)),
mt 9 43])
(.seq (.reg [mt 44 0,
mt 45 9,
mt 46 0,
oq 47 (.lenSl (.t 46)),
oq 48 (bi .add (.t 47) (ci 1)),
oc 49 120 [(.t 44),(.t 45),(.t 48)] 0,
mt 10 49])
(.seq (.reg [mt 50 1,
mt 51 9,
mt 52 8,
oc 53 120 [(.t 50),(.t 51),(.t 52)] 0,
mt 11 53])
(.seq (.reg [mt 54 0,
oq 55 (.lenSl (.t 54)),
mt 56 8,
oq 57 (bi .sub (.t 55) (.t 56)),
oq 58 (bi .add (.t 57) (ci 1)),
⟨(some 59),(.a (.mkSlice 102 1 4 [(.int .u32 (.ofNat 0))] (.t 58) (.t 58))),none,0⟩,
mt 4 59])
(.seq (.seq (.reg [mt 60 0,
oq 61 (.lenSl (.t 60)),
mt 62 8,
oq 63 (bi .sub (.t 61) (.t 62)),
mt 12 63])
(.block 0 (.loop (.seq (.seq (.reg [mt 64 12,
oq 65 (bi .geq (.t 64) (ci 0))])
(.cond (.t 65) .skip (.exit 0)))
(.seq (.block 1 (.reg [mt 68 4,
mt 69 12,
mt 70 10,
mt 71 12,
mt 72 12,
mt 73 8,
oq 74 (bi .add (.t 72) (.t 73)),
oq 75 (bi .add (.t 74) (ci 1)),
oq 76 (.slc (.slice 1) (.t 70) (some (.t 71)) (some (.t 75)) none),
mt 77 11,
oc 78 121 [(.t 76),(.t 77)] 0,
oq 79 (.iaddr (.slice 1) (.t 68) (.t 69)),
⟨none,(.x (.st 1 (.t 79) (.t 78))),none,0⟩]))
(.reg [mt 66 12,
oq 67 (bi .sub (.t 66) (ci 1)),
mt 12 67]))))))
(.seq (.reg [mt 81 10,
mt 82 8,
oq 83 (.slc (.slice 1) (.t 81) none (some (.t 82)) none),
oc 84 122 [(.t 83)] 0,
mt 85 9,
oq 86 (.conv (.int .u32) (.t 85)),
oc 87 119 [(.t 84),(.t 86)] 0,
mt 80 87,
oq 88 (.extract (.t 80) 0),
oq 89 (.extract (.t 80) 1),
mt 5 88])
(.seq (.reg [mt 90 4,
oc 91 122 [(.t 90)] 0,
mt 92 5,
mt 4 91,
mt 5 92])
.ret)))))))))))⟩
theorem row85 : Row Go.Proofs.Tryz.prog (85, a85) := ⟨Go.Proofs.Tryz.f85, Go.Proofs.Tryz.func85, by kernel_rfl⟩
noncomputable def a86 : AFn :=
⟨63,[(.t 8)],(.seq (.reg [oq 8 (.mv (.c .nilsl))])
(.seq (.reg [mt 13 0,
oq 14 (.lenSl (.t 13)),
⟨(some 15),(.a (.mkSlice 102 1 4 [(.int .u32 (.ofNat 0))] (.t 14) (.t 14))),none,0⟩,
mt 9 15])
(.seq (.reg [oq 10 (.mv (ci 0))])
(.seq (.seq (.reg [mt 16 0,
oq 17 (.lenSl (.t 16)),
oq 18 (.mv (ci 0))])
(.block 0 (.loop (.seq (.reg [oq 19 (bi .lss (.t 18) (.t 17))])
(.seq (.cond (.t 19) .skip (.exit 0))
(.seq (.block 1 (.seq (.reg [mt 20 18,
mt 11 20])
(.seq (.reg [mt 21 2,
mt 22 0,
mt 23 11,
oq 24 (.iaddr (.slice 1) (.t 22) (.t 23)),
oq 25 (ld 24),
oq 26 (.conv (.int .i64) (.t 25)),
oq 27 (bi .mul (.t 21) (.t 26)),
mt 28 10,
oq 29 (bi .add (.t 27) (.t 28)),
mt 12 29])
(.seq (.seq (.reg [mt 30 11,
mt 31 1,
oq 32 (.lenSl (.t 31)),
oq 33 (bi .lss (.t 30) (.t 32))])
(.cond (.t 33) (.reg [mt 34 12,
mt 35 3,
mt 36 1,
mt 37 11,
oq 38 (.iaddr (.slice 1) (.t 36) (.t 37)),
oq 39 (ld 38),
oq 40 (.conv (.int .i64) (.t 39)),
oq 41 (bi .mul (.t 35) (.t 40)),
oq 42 (bi .add (.t 34) (.t 41)),
mt 12 42]) .skip))
(.seq (.reg [mt 43 12,
oq 44 (bi .quo (.t 43) (ci 1000000000)),
mt 10 44])
(.seq (.reg [mt 45 12,
mt 46 10,
oq 47 (bi .mul (.t 46) (ci 1000000000)),
oq 48 (bi .sub (.t 45) (.t 47)),
mt 12 48])
(.seq (.seq (.reg [mt 49 12,
oq 50 (bi .lss (.t 49) (ci 0))])
(.cond (.t 50) (.seq (.reg [mt 51 12,
oq 52 (bi .add (.t 51) (ci 1000000000)),
mt 12 52])
(.reg [mt 53 10,
oq 54 (bi .sub (.t 53) (ci 1)),
mt 10 54])) .skip))
(.reg [mt 55 9,
mt 56 11,
mt 57 12,
oq 58 (.conv (.int .u32) (.t 57)),
oq 59 (.iaddr (.slice 1) (.t 55) (.t 56)),
⟨none,(.x (.st 1 (.t 59) (.t 58))),none,0⟩]))))))))
(.reg [oq 60 (bi .add (.t 18) (ci 1)),
mt 18 60])))))))
(.seq (.reg [mt 61 9,
oc 62 122 [(.t 61)] 0,
mt 8 62])
.ret)))))⟩
theorem row86 : Row Go.Proofs.Tryz.prog (86, a86) := ⟨Go.Proofs.Tryz.f86, Go.Proofs.Tryz.func86, by kernel_rfl⟩
noncomputable def a87 : AFn :=
⟨5,[(.t 2)],(.seq (.reg [oq 2 (.mv (.c .nilsl))])
(.seq (.reg [mt 3 0,
⟨(some 4),(.x (.app 102 1 4 (.c .nilsl) (.t 3))),none,0⟩,
mt 2 4])
.ret))⟩
theorem row87 : Row Go.Proofs.Tryz.prog (87, a87) := ⟨Go.Proofs.Tryz.f87, Go.Proofs.Tryz.func87, by kernel_rfl⟩
noncomputable def a88 : AFn :=
⟨30,[(.t 2)],(.seq (.reg [oq 2 (.mv (ci 0))])
(.seq (.seq (.reg [mt 4 0,
oq 5 (.lenSl (.t 4)),
oq 6 (bi .gtr (.t 5) (ci 1024))])
(.cond (.t 6) (.seq (.reg [oq 2 (.mv (ci 4))])
.ret) .skip))
(.seq (.seq (.reg [oq 3 (.mv (ci 0))])
(.block 0 (.loop (.seq (.seq (.reg [mt 7 3,
mt 8 0,
oq 9 (.lenSl (.t 8)),
oq 10 (bi .lss (.t 7) (.t 9))])
(.cond (.t 10) .skip (.exit 0)))
(.seq (.block 1 (.seq (.reg [mt 13 0,
mt 14 3,
oq 15 (.iaddr (.slice 1) (.t 13) (.t 14)),
oq 16 (ld 15),
oq 17 (bi .geq (.t 16) (.c (.int .u32 (.ofNat 1000000000))))])
(.cond (.t 17) (.seq (.reg [oq 2 (.mv (ci 3))])
.ret) .skip)))
(.reg [mt 11 3,
oq 12 (bi .add (.t 11) (ci 1)),
mt 3 12]))))))
(.seq (.seq (.reg [mt 18 0,
oq 19 (.lenSl (.t 18)),
oq 20 (bi .gtr (.t 19) (ci 0)),
mt 21 20,
og 22 21 true 0 (.mv (.t 0)),
og 23 21 true 0 (.mv (.t 0)),
og 24 21 true 0 (.lenSl (.t 23)),
og 25 21 true 0 (bi .sub (.t 24) (ci 1)),
og 26 21 true 0 (.iaddr (.slice 1) (.t 22) (.t 25)),
og 27 21 true 0 (ld 26),
og 28 21 true 0 (bi .eql (.t 27) (.c (.int .u32 (.ofNat 0)))),
oq 29 (.pick (.t 21) (.t 28) (.c (.bool false)))])
(.cond (.t 29) (.seq (.reg [oq 2 (.mv (ci 3))])
.ret) .skip))
(.seq (.reg [oq 2 (.mv (ci 0))])
.ret)))))⟩
theorem row88 : Row Go.Proofs.Tryz.prog (88, a88) := ⟨Go.Proofs.Tryz.f88, Go.Proofs.Tryz.func88, by kernel_rfl⟩
noncomputable def a112 : AFn :=
⟨41,[(.t 4)],(.seq (.reg [oq 4 (.mv (ci 0))])
(.seq (.seq (.reg [mt 6 0,
oq 7 (.lenSl (.t 6)),
mt 8 1,
oq 9 (.lenSl (.t 8)),
oq 10 (bi .neq (.t 7) (.t 9))])
(.cond (.t 10) (.seq (.seq (.reg [mt 11 0,
oq 12 (.lenSl (.t 11)),
mt 13 1,
oq 14 (.lenSl (.t 13)),
oq 15 (bi .lss (.t 12) (.t 14))])
(.cond (.t 15) (.seq (.reg [oq 4 (.mv (.c (.int .i64 (.negSucc 0))))])
.ret) .skip))
(.seq (.reg [oq 4 (.mv (ci 1))])
.ret)) .skip))
(.seq (.seq (.reg [mt 16 0,
oq 17 (.lenSl (.t 16)),
oq 18 (bi .sub (.t 17) (ci 1)),
mt 5 18])
(.block 0 (.loop (.seq (.seq (.reg [mt 19 5,
oq 20 (bi .geq (.t 19) (ci 0))])
(.cond (.t 20) .skip (.exit 0)))
(.seq (.block 1 (.seq (.seq (.drw [mt 23 0,
mt 24 5,
om 25 3 (.iaddr (.slice 1) (.t 23) (.t 24)),
om 26 7 (ld 25),
mt 27 1,
mt 28 5,
om 29 48 (.iaddr (.slice 1) (.t 27) (.t 28)),
om 30 112 (ld 29),
om 31 255 (bi .lss (.t 26) (.t 30))])
(.cond (.t 31) (.seq (.reg [oq 4 (.mv (.c (.int .i64 (.negSucc 0))))])
.ret) .skip))
(.seq (.drw [mt 32 0,
mt 33 5,
om 34 3 (.iaddr (.slice 1) (.t 32) (.t 33)),
om 35 7 (ld 34),
mt 36 1,
mt 37 5,
om 38 48 (.iaddr (.slice 1) (.t 36) (.t 37)),
om 39 112 (ld 38),
om 40 255 (bi .gtr (.t 35) (.t 39))])
(.cond (.t 40) (.seq (.reg [oq 4 (.mv (ci 1))])
.ret) .skip))))
(.reg [mt 21 5,
oq 22 (bi .sub (.t 21) (ci 1)),
mt 5 22]))))))
(.seq (.reg [oq 4 (.mv (ci 0))])
.ret))))⟩
theorem row112 : Row Go.Proofs.Tryz.prog (112, a112) := ⟨Go.Proofs.Tryz.f112, Go.Proofs.Tryz.func112, by kernel_rfl⟩
noncomputable def a113 : AFn :=
⟨6,[(.t 2)],(.seq (.reg [oq 2 (.mv (.c .nilsl))])
(.seq (.reg [mt 3 0,
⟨(some 4),(.a (.bslice 102 1 1 [(.int .u32 (.ofNat 0))] [(0,(.t 3))])),none,0⟩,
oc 5 115 [(.t 4)] 0,
mt 2 5])
.ret))⟩
theorem row113 : Row Go.Proofs.Tryz.prog (113, a113) := ⟨Go.Proofs.Tryz.f113, Go.Proofs.Tryz.func113, by kernel_rfl⟩
noncomputable def a114 : AFn :=
⟨68,[(.t 4)],(.seq (.reg [oq 4 (.mv (.c .nilsl))])
(.seq (.reg [mt 9 0,
oq 10 (.lenSl (.t 9)),
mt 11 1,
oq 12 (.lenSl (.t 11)),
oq 13 (bi .add (.t 10) (.t 12)),
⟨(some 14),(.a (.mkSlice 102 1 4 [(.int .u32 (.ofNat 0))] (.t 13) (.t 13))),none,0⟩,
mt 5 14])
(.seq (.seq (.reg [oq 6 (.mv (ci 0))])
(.block 0 (.loop (.seq (.seq (.reg [mt 15 6,
mt 16 0,
oq 17 (.lenSl (.t 16)),
oq 18 (bi .lss (.t 15) (.t 17))])
(.cond (.t 18) .skip (.exit 0)))
(.seq (.block 1 (.seq (.reg [oq 7 (.mv (.c (.int .u64 (.ofNat 0))))])
(.seq (.seq (.reg [oq 8 (.mv (ci 0))])
(.block 2 (.loop (.seq (.seq (.reg [mt 21 8,
mt 22 1,
oq 23 (.lenSl (.t 22)),
oq 24 (bi .lss (.t 21) (.t 23))])
(.cond (.t 24) .skip (.exit 2)))
(.seq (.block 3 (.seq (.drw [mt 27 7,
mt 28 5,
mt 29 6,
mt 30 8,
om 31 12 (bi .add (.t 29) (.t 30)),
om 32 30 (.iaddr (.slice 1) (.t 28) (.t 31)),
om 33 62 (ld 32),
om 34 126 (.conv (.int .u64) (.t 33)),
om 35 255 (bi .add (.t 27) (.t 34)),
mt 36 0,
mt 37 6,
om 38 1536 (.iaddr (.slice 1) (.t 36) (.t 37)),
om 39 3584 (ld 38),
om 40 7680 (.conv (.int .u64) (.t 39)),
mt 41 1,
mt 42 8,
om 43 49152 (.iaddr (.slice 1) (.t 41) (.t 42)),
om 44 114688 (ld 43),
om 45 245760 (.conv (.int .u64) (.t 44)),
om 46 523776 (bi .mul (.t 40) (.t 45)),
om 47 1048575 (bi .add (.t 35) (.t 46)),
om 7 2097151 (.mv (.t 47))])
(.seq (.reg [mt 48 5,
mt 49 6,
mt 50 8,
oq 51 (bi .add (.t 49) (.t 50)),
mt 52 7,
oq 53 (bi .rem (.t 52) (.c (.int .u64 (.ofNat 1000000000)))),
oq 54 (.conv (.int .u32) (.t 53)),
oq 55 (.iaddr (.slice 1) (.t 48) (.t 51)),
⟨none,(.x (.st 1 (.t 55) (.t 54))),none,0⟩])
(.reg [mt 56 7,
oq 57 (bi .quo (.t 56) (.c (.int .u64 (.ofNat 1000000000)))),
mt 7 57]))))
(.reg [mt 25 8,
oq 26 (bi .add (.t 25) (ci 1)),
mt 8 26]))))))
(.reg [mt 58 5,
mt 59 6,
mt 60 1,
oq 61 (.lenSl (.t 60)),
oq 62 (bi .add (.t 59) (.t 61)),
mt 63 7,
oq 64 (.conv (.int .u32) (.t 63)),
oq 65 (.iaddr (.slice 1) (.t 58) (.t 62)),
⟨none,(.x (.st 1 (.t 65) (.t 64))),none,0⟩]))))
(.reg [mt 19 6,
oq 20 (bi .add (.t 19) (ci 1)),
mt 6 20]))))))
(.seq (.reg [mt 66 5,
oc 67 115 [(.t 66)] 0,
mt 4 67])
.ret))))⟩
theorem row114 : Row Go.Proofs.Tryz.prog (114, a114) := ⟨Go.Proofs.Tryz.f114, Go.Proofs.Tryz.func114, by kernel_rfl⟩
noncomputable def a115 : AFn :=
⟨21,[(.t 2)],(.seq (.reg [oq 2 (.mv (.c .nilsl))])
(.seq (.block 0 (.loop (.seq (.seq (.reg [mt 3 0,
oq 4 (.lenSl (.t 3)),
oq 5 (bi .gtr (.t 4) (ci 0)),
mt 6 5,
og 7 6 true 0 (.mv (.t 0)),
og 8 6 true 0 (.mv (.t 0)),
og 9 6 true 0 (.lenSl (.t 8)),
og 10 6 true 0 (bi .sub (.t 9) (ci 1)),
og 11 6 true 0 (.iaddr (.slice 1) (.t 7) (.t 10)),
og 12 6 true 0 (ld 11),
og 13 6 true 0 (bi .eql (.t 12) (.c (.int .u32 (.ofNat 0)))),
oq 14 (.pick (.t 6) (.t 13) (.c (.bool false)))])
(.cond (.t 14) .skip (.exit 0)))
(.block 1 (.reg [mt 15 0,
mt 16 0,
oq 17 (.lenSl (.t 16)),
oq 18 (bi .sub (.t 17) (ci 1)),
oq 19 (.slc (.slice 1) (.t 15) none (some (.t 18)) none),
mt 0 19])))))
(.seq (.reg [mt 20 0,
mt 2 20])
.ret)))⟩
theorem row115 : Row Go.Proofs.Tryz.prog (115, a115) := ⟨Go.Proofs.Tryz.f115, Go.Proofs.Tryz.func115, by kernel_rfl⟩
end Go.Ev.Gl
