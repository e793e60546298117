/- Functions of the program as data of the evaluator, written by program; each is shown to be the compiler's result on the loaded function. -/
import Derived.Test.YtmbmidkdinllgaaDoorProg
import Derived.Test.YtmbmidkdinllgaaDoorEv8
import Derived.KernelRfl
namespace Go.Ev.Gl
set_option maxRecDepth 100000
noncomputable def a74 : AFn :=
⟨20,[(.t 4)],(.seq (.reg [oq 4 (.mv (ci 0))])
(.seq (.seq (.reg [mt 7 0,
oc 8 113 [(.t 7)] 0,
mt 5 8])
(.seq (.reg [mt 9 5,
oq 10 (bi .neq (.t 9) (ci 0))])
(.cond (.t 10) (.seq (.reg [mt 11 5,
mt 4 11])
.ret) .skip)))
(.seq (.seq (.reg [mt 12 1,
oc 13 113 [(.t 12)] 0,
mt 6 13])
(.seq (.reg [mt 14 6,
oq 15 (bi .neq (.t 14) (ci 0))])
(.cond (.t 15) (.seq (.reg [mt 16 6,
mt 4 16])
.ret) .skip)))
(.seq (.seq (.reg [mt 17 1,
oq 18 (.lenSl (.t 17)),
oq 19 (bi .eql (.t 18) (ci 0))])
(.cond (.t 19) (.seq (.reg [oq 4 (.mv (ci 6))])
.ret) .skip))
(.seq (.reg [oq 4 (.mv (ci 0))])
.ret)))))⟩
theorem row74 : Row Go.Proofs.Tryd.prog (74, a74) := ⟨Go.Proofs.Tryd.f74, Go.Proofs.Tryd.func74, by kernel_rfl⟩
noncomputable def a75 : AFn :=
⟨23,[(.t 4)],(.seq (.reg [oq 4 (.mv (.c (.bool false)))])
(.seq (.seq (.reg [mt 5 0,
oq 6 (.lenSl (.t 5)),
oq 7 (bi .leq (.t 6) (ci 2)),
mt 8 7,
og 9 8 true 0 (.mv (.t 1)),
og 10 8 true 0 (.lenSl (.t 9)),
og 11 8 true 0 (bi .leq (.t 10) (ci 2)),
oq 12 (.pick (.t 8) (.t 11) (.c (.bool false)))])
(.cond (.t 12) (.seq (.reg [mt 13 0,
oc 14 115 [(.t 13)] 0,
mt 15 1,
oc 16 115 [(.t 15)] 0,
oc 17 114 [(.t 14),(.t 16)] 0,
oq 18 (bi .eql (.t 17) (.c (.int .u64 (.ofNat 1)))),
mt 4 18])
.ret) .skip))
(.seq (.reg [mt 19 0,
mt 20 1,
oc 21 116 [(.t 19),(.t 20)] 0,
oc 22 91 [(.t 21)] 0,
mt 4 22])
.ret)))⟩
theorem row75 : Row Go.Proofs.Tryd.prog (75, a75) := ⟨Go.Proofs.Tryd.f75, Go.Proofs.Tryd.func75, by kernel_rfl⟩
noncomputable def a78 : AFn :=
⟨37,[(.t 2)],(.seq (.reg [oq 2 (.mv (.c .nilsl))])
(.seq (.reg [oq 3 (.mv (.c .nilsl))])
(.seq (.seq (.reg [oq 4 (.mv (ci 0))])
(.block 0 (.loop (.seq (.seq (.reg [mt 5 4,
mt 6 0,
oq 7 (.lenSl (.t 6)),
oq 8 (bi .lss (.t 5) (.t 7))])
(.cond (.t 8) .skip (.exit 0)))
(.seq (.block 1 (.reg [mt 11 3,
mt 12 0,
mt 13 4,
oq 14 (.iaddr (.slice 1) (.t 12) (.t 13)),
oq 15 (ld 14),
oq 16 (bi .rem (.t 15) (.c (.int .u32 (.ofNat 1000000000)))),
⟨(some 17),(.a (.bslice 41 1 1 [(.int .u32 (.ofNat 0))] [(0,(.t 16))])),none,0⟩,
⟨(some 18),(.x (.app 41 1 4 (.t 11) (.t 17))),none,0⟩,
mt 3 18]))
(.reg [mt 9 4,
oq 10 (bi .add (.t 9) (ci 1)),
mt 4 10]))))))
(.seq (.block 2 (.loop (.seq (.seq (.reg [mt 19 3,
oq 20 (.lenSl (.t 19)),
oq 21 (bi .gtr (.t 20) (ci 0)),
mt 22 21,
og 23 22 true 0 (.mv (.t 3)),
og 24 22 true 0 (.mv (.t 3)),
og 25 22 true 0 (.lenSl (.t 24)),
og 26 22 true 0 (bi .sub (.t 25) (ci 1)),
og 27 22 true 0 (.iaddr (.slice 1) (.t 23) (.t 26)),
og 28 22 true 0 (ld 27),
og 29 22 true 0 (bi .eql (.t 28) (.c (.int .u32 (.ofNat 0)))),
oq 30 (.pick (.t 22) (.t 29) (.c (.bool false)))])
(.cond (.t 30) .skip (.exit 2)))
(.block 3 (.reg [mt 31 3,
mt 32 3,
oq 33 (.lenSl (.t 32)),
oq 34 (bi .sub (.t 33) (ci 1)),
oq 35 (.slc (.slice 1) (.t 31) none (some (.t 34)) none),
mt 3 35])))))
(.seq (.reg [mt 36 3,
mt 2 36])
.ret)))))⟩
theorem row78 : Row Go.Proofs.Tryd.prog (78, a78) := ⟨Go.Proofs.Tryd.f78, Go.Proofs.Tryd.func78, by kernel_rfl⟩
noncomputable def a80 : AFn :=
⟨39,[(.cell 6 true 3)],(.seq (.reg [⟨(some 6),(.a (.alloc 25 [(.bool false),.nilsl,.nilsl])),none,0⟩])
(.seq (.seq (.reg [mt 8 1,
oq 9 (.lenSl (.t 8)),
oq 10 (bi .eql (.t 9) (ci 0))])
(.cond (.t 10) (.seq (.reg [oc 11 55 [] 0,
⟨none,(.x (.st 3 (.t 6) (.t 11))),none,0⟩])
.ret) .skip))
(.seq (.seq (.reg [mt 12 1,
oq 13 (.lenSl (.t 12)),
oq 14 (bi .leq (.t 13) (ci 2)),
mt 15 14,
og 16 15 true 0 (.mv (.t 2)),
og 17 15 true 0 (.lenSl (.t 16)),
og 18 15 true 0 (bi .leq (.t 17) (ci 2)),
oq 19 (.pick (.t 15) (.t 18) (.c (.bool false)))])
(.cond (.t 19) (.seq (.reg [mt 20 0,
mt 21 1,
oc 22 115 [(.t 21)] 0,
mt 23 2,
oc 24 115 [(.t 23)] 0,
oc 25 119 [(.t 20),(.t 22),(.t 24)] 0,
⟨none,(.x (.st 3 (.t 6) (.t 25))),none,0⟩])
.ret) .skip))
(.seq (.reg [mt 26 1,
mt 27 2,
oc 28 116 [(.t 26),(.t 27)] 0,
mt 7 28])
(.seq (.reg [mt 29 0,
mt 30 1,
mt 31 7,
oc 32 120 [(.t 30),(.t 31)] 0,
oc 33 96 [(.t 32)] 0,
mt 34 2,
mt 35 7,
oc 36 120 [(.t 34),(.t 35)] 0,
oc 37 96 [(.t 36)] 0,
oq 38 (.build [(.bool false),.nilsl,.nilsl] [(0,1,(.t 29)),(1,1,(.t 33)),(2,1,(.t 37))]),
⟨none,(.x (.st 3 (.t 6) (.t 38))),none,0⟩])
.ret)))))⟩
theorem row80 : Row Go.Proofs.Tryd.prog (80, a80) := ⟨Go.Proofs.Tryd.f80, Go.Proofs.Tryd.func80, by kernel_rfl⟩
noncomputable def a81 : AFn :=
⟨15,[(.t 2)],(.seq (.reg [oq 2 (.mv (.c .nilsl))])
(.seq (.reg [oq 3 (.mv (.c .nilsl))])
(.seq (.block 0 (.loop (.seq (.seq (.reg [mt 4 0,
oq 5 (bi .gtr (.t 4) (.c (.int .u64 (.ofNat 0))))])
(.cond (.t 5) .skip (.exit 0)))
(.block 1 (.seq (.reg [mt 6 3,
mt 7 0,
oq 8 (bi .rem (.t 7) (.c (.int .u64 (.ofNat 1000000000)))),
oq 9 (.conv (.int .u32) (.t 8)),
⟨(some 10),(.a (.bslice 41 1 1 [(.int .u32 (.ofNat 0))] [(0,(.t 9))])),none,0⟩,
⟨(some 11),(.x (.app 41 1 4 (.t 6) (.t 10))),none,0⟩,
mt 3 11])
(.reg [mt 12 0,
oq 13 (bi .quo (.t 12) (.c (.int .u64 (.ofNat 1000000000)))),
mt 0 13]))))))
(.seq (.reg [mt 14 3,
mt 2 14])
.ret))))⟩
theorem row81 : Row Go.Proofs.Tryd.prog (81, a81) := ⟨Go.Proofs.Tryd.f81, Go.Proofs.Tryd.func81, by kernel_rfl⟩
noncomputable def a90 : AFn :=
⟨61,[(.t 2),(.t 3)],(.seq (.reg [oq 2 (.mv (.c (.str []))),
oq 3 (.mv (ci 0))])
(.seq (.seq (.reg [mt 10 0,
oc 11 113 [(.t 10)] 0,
mt 4 11])
(.seq (.reg [mt 12 4,
oq 13 (bi .neq (.t 12) (ci 0))])
(.cond (.t 13) (.seq (.reg [mt 14 4,
oq 2 (.mv (.c (.str []))),
mt 3 14])
.ret) .skip)))
(.seq (.seq (.reg [mt 15 0,
oq 16 (.lenSl (.t 15)),
oq 17 (bi .eql (.t 16) (ci 0))])
(.cond (.t 17) (.seq (.reg [oq 2 (.mv (.c (.str [48]))),
oq 3 (.mv (ci 0))])
.ret) .skip))
(.seq (.reg [mt 18 0,
oq 19 (.lenSl (.t 18)),
oq 20 (bi .mul (ci 9) (.t 19)),
⟨(some 21),(.a (.mkSlice 5 1 1 [(.int .u8 (.ofNat 0))] (.t 20) (.t 20))),none,0⟩,
mt 5 21])
(.seq (.seq (.reg [mt 22 0,
oq 23 (.lenSl (.t 22)),
oq 24 (.mv (ci 0))])
(.block 0 (.loop (.seq (.reg [oq 25 (bi .lss (.t 24) (.t 23))])
(.seq (.cond (.t 25) .skip (.exit 0))
(.seq (.block 1 (.seq (.reg [mt 26 24,
oq 27 (.iaddr (.slice 1) (.t 22) (.t 24)),
oq 28 (ld 27),
mt 6 26,
mt 7 28])
(.seq (.reg [mt 29 5,
oq 30 (.lenSl (.t 29)),
mt 31 6,
oq 32 (bi .mul (ci 9) (.t 31)),
oq 33 (bi .sub (.t 30) (.t 32)),
oq 34 (bi .sub (.t 33) (ci 1)),
mt 8 34])
(.seq (.reg [oq 35 (.mv (ci 0))])
(.block 2 (.loop (.seq (.reg [oq 36 (bi .lss (.t 35) (ci 9))])
(.seq (.cond (.t 36) .skip (.exit 2))
(.seq (.block 3 (.seq (.reg [mt 37 35,
mt 9 37])
(.seq (.reg [mt 38 5,
mt 39 8,
mt 40 9,
oq 41 (bi .sub (.t 39) (.t 40)),
mt 42 7,
oq 43 (bi .rem (.t 42) (.c (.int .u32 (.ofNat 10)))),
oq 44 (.iaddr (.arr 10 1) (.c (.ptr 1 0)) (.t 43)),
oq 45 (ld 44),
oq 46 (.iaddr (.slice 1) (.t 38) (.t 41)),
⟨none,(.x (.st 1 (.t 46) (.t 45))),none,0⟩])
(.reg [mt 47 7,
oq 48 (bi .quo (.t 47) (.c (.int .u32 (.ofNat 10)))),
mt 7 48]))))
(.reg [oq 49 (bi .add (.t 35) (ci 1)),
mt 35 49]))))))))))
(.reg [oq 50 (bi .add (.t 24) (ci 1)),
mt 24 50])))))))
(.seq (.block 4 (.loop (.seq (.seq (.drw [mt 51 5,
om 52 1 (.iaddr (.slice 1) (.t 51) (ci 0)),
om 53 3 (ld 52),
oq 54 (.iaddr (.arr 10 1) (.c (.ptr 1 0)) (ci 0)),
om 55 8 (ld 54),
om 56 31 (bi .eql (.t 53) (.t 55))])
(.cond (.t 56) .skip (.exit 4)))
(.block 5 (.reg [mt 57 5,
oq 58 (.slc (.slice 1) (.t 57) (some (ci 1)) none none),
mt 5 58])))))
(.seq (.reg [mt 59 5,
oq 60 (.conv .bytesToStr (.t 59)),
mt 2 60,
oq 3 (.mv (ci 0))])
.ret)))))))⟩
theorem row90 : Row Go.Proofs.Tryd.prog (90, a90) := ⟨Go.Proofs.Tryd.f90, Go.Proofs.Tryd.func90, by kernel_rfl⟩
noncomputable def a91 : AFn :=
⟨12,[(.t 2)],(.seq (.reg [oq 2 (.mv (.c (.bool false)))])
(.seq (.reg [mt 3 0,
oq 4 (.lenSl (.t 3)),
oq 5 (bi .eql (.t 4) (ci 1)),
mt 6 5,
og 7 6 true 0 (.mv (.t 0)),
og 8 6 true 0 (.iaddr (.slice 1) (.t 7) (ci 0)),
og 9 6 true 0 (ld 8),
og 10 6 true 0 (bi .eql (.t 9) (.c (.int .u32 (.ofNat 1)))),
oq 11 (.pick (.t 6) (.t 10) (.c (.bool false))),
mt 2 11])
.ret))⟩
theorem row91 : Row Go.Proofs.Tryd.prog (91, a91) := ⟨Go.Proofs.Tryd.f91, Go.Proofs.Tryd.func91, by kernel_rfl⟩
noncomputable def a92 : AFn :=
⟨54,[(.cell 2 true 2)],(.seq (.reg [⟨(some 2),(.a (.alloc 59 [(.int .i64 (.ofNat 0)),(.int .i64 (.ofNat 0))])),none,0⟩])
(.seq (.seq (.reg [mt 6 0,
oq 7 (.lenStr (.t 6)),
oq 8 (.mv (ci 0))])
(.block 0 (.loop (.seq (.reg [oq 9 (bi .lss (.t 8) (.t 7))])
(.seq (.cond (.t 9) .skip (.exit 0))
(.seq (.block 1 (.seq (.reg [mt 10 8,
mt 3 10])
(.seq (.reg [mt 11 0,
mt 12 3,
mt 13 3,
oq 14 (bi .add (.t 13) (ci 1)),
oq 15 (.slc .str (.t 11) (some (.t 12)) (some (.t 14)) none),
oc 16 124 [(.c (.str [48,49,50,51,52,53,54,55,56,57,45,47])),(.t 15)] 0,
oq 17 (.un .not (.t 16))])
(.cond (.t 17) (.seq (.reg [mt 18 3,
oq 19 (.build [(.int .i64 (.ofNat 0)),(.int .i64 (.ofNat 0))] [(0,1,(ci 11)),(1,1,(.t 18))]),
⟨none,(.x (.st 2 (.t 2) (.t 19))),none,0⟩])
.ret) .skip))))
(.reg [oq 20 (bi .add (.t 8) (ci 1)),
mt 8 20])))))))
(.seq (.reg [oq 4 (.mv (ci 0))])
(.seq (.seq (.reg [mt 21 0,
oq 22 (.lenStr (.t 21)),
oq 23 (.mv (ci 0))])
(.block 2 (.loop (.seq (.reg [oq 24 (bi .lss (.t 23) (.t 22))])
(.seq (.cond (.t 24) .skip (.exit 2))
(.seq (.block 3 (.seq (.reg [mt 25 23,
mt 5 25])
(.seq (.seq (.reg [mt 26 0,
mt 27 5,
oq 28 (.idxStr (.t 26) (.t 27)),
oq 29 (bi .eql (.t 28) (.c (.int .u8 (.ofNat 47))))])
(.cond (.t 29) (.reg [mt 30 4,
oq 31 (bi .add (.t 30) (ci 1)),
mt 4 31]) .skip))
(.seq (.reg [mt 32 0,
mt 33 5,
oq 34 (.idxStr (.t 32) (.t 33)),
oq 35 (bi .eql (.t 34) (.c (.int .u8 (.ofNat 45)))),
mt 36 35,
og 37 36 true 0 (.mv (.t 5)),
og 38 36 true 0 (bi .gtr (.t 37) (ci 0)),
oq 39 (.pick (.t 36) (.t 38) (.c (.bool false))),
mt 40 39,
og 41 40 false 0 (.mv (.t 0)),
og 42 40 false 0 (.mv (.t 5)),
og 43 40 false 0 (.idxStr (.t 41) (.t 42)),
og 44 40 false 0 (bi .eql (.t 43) (.c (.int .u8 (.ofNat 47)))),
og 45 40 false 0 (.mv (.t 44)),
og 46 45 true 0 (.mv (.t 4)),
og 47 45 true 0 (bi .gtr (.t 46) (ci 1)),
og 48 40 false 0 (.pick (.t 45) (.t 47) (.c (.bool false))),
oq 49 (.pick (.t 40) (.c (.bool true)) (.t 48))])
(.cond (.t 49) (.seq (.reg [mt 50 5,
oq 51 (.build [(.int .i64 (.ofNat 0)),(.int .i64 (.ofNat 0))] [(0,1,(ci 11)),(1,1,(.t 50))]),
⟨none,(.x (.st 2 (.t 2) (.t 51))),none,0⟩])
.ret) .skip)))))
(.reg [oq 52 (bi .add (.t 23) (ci 1)),
mt 23 52])))))))
(.seq (.reg [oq 53 (.build [(.int .i64 (.ofNat 0)),(.int .i64 (.ofNat 0))] []),
⟨none,(.x (.st 2 (.t 2) (.t 53))),none,0⟩])
.ret)))))⟩
theorem row92 : Row Go.Proofs.Tryd.prog (92, a92) := ⟨Go.Proofs.Tryd.f92, Go.Proofs.Tryd.func92, by kernel_rfl⟩
noncomputable def a93 : AFn :=
⟨13,[(.t 4),(.t 5),(.t 6)],(.seq (.reg [oq 4 (.mv (.c (.str []))),
oq 5 (.mv (.c (.str []))),
oq 6 (.mv (.c (.bool false)))])
(.seq (.reg [mt 7 0,
mt 8 1,
oc 9 125 [(.t 7),(.t 8)] 0,
oq 10 (.extract (.t 9) 0),
oq 11 (.extract (.t 9) 1),
oq 12 (.extract (.t 9) 2),
mt 4 10,
mt 5 11,
mt 6 12])
.ret))⟩
theorem row93 : Row Go.Proofs.Tryd.prog (93, a93) := ⟨Go.Proofs.Tryd.f93, Go.Proofs.Tryd.func93, by kernel_rfl⟩
noncomputable def a94 : AFn :=
⟨11,[(.t 4),(.t 5)],(.seq (.reg [oq 4 (.mv (.c (.str []))),
oq 5 (.mv (.c (.bool false)))])
(.seq (.reg [mt 6 0,
mt 7 1,
oc 8 126 [(.t 6),(.t 7)] 0,
oq 9 (.extract (.t 8) 0),
oq 10 (.extract (.t 8) 1),
mt 4 9,
mt 5 10])
.ret))⟩
theorem row94 : Row Go.Proofs.Tryd.prog (94, a94) := ⟨Go.Proofs.Tryd.f94, Go.Proofs.Tryd.func94, by kernel_rfl⟩
noncomputable def a95 : AFn :=
⟨80,[(.t 2),(.cell 3 true 2)],(.seq (.reg [oq 2 (.mv (.c .nilsl)),
⟨(some 3),(.a (.alloc 59 [(.int .i64 (.ofNat 0)),(.int .i64 (.ofNat 0))])),none,0⟩])
(.seq (.seq (.reg [mt 10 0,
oq 11 (.lenStr (.t 10)),
oq 12 (bi .gtr (.t 11) (ci 9216))])
(.cond (.t 12) (.seq (.reg [oq 13 (.build [(.int .i64 (.ofNat 0)),(.int .i64 (.ofNat 0))] [(0,1,(ci 4)),(1,1,(ci 9216))]),
oq 2 (.mv (.c .nilsl)),
⟨none,(.x (.st 2 (.t 3) (.t 13))),none,0⟩])
.ret) .skip))
(.seq (.seq (.reg [mt 14 0,
oq 15 (.lenStr (.t 14)),
oq 16 (.mv (ci 0))])
(.block 0 (.loop (.seq (.reg [oq 17 (bi .lss (.t 16) (.t 15))])
(.seq (.cond (.t 17) .skip (.exit 0))
(.seq (.block 1 (.seq (.reg [mt 18 16,
mt 4 18])
(.seq (.reg [mt 19 0,
mt 20 4,
oq 21 (.idxStr (.t 19) (.t 20)),
oq 22 (bi .lss (.t 21) (.c (.int .u8 (.ofNat 48)))),
mt 23 22,
og 24 23 false 0 (.mv (.t 0)),
og 25 23 false 0 (.mv (.t 4)),
og 26 23 false 0 (.idxStr (.t 24) (.t 25)),
og 27 23 false 0 (bi .gtr (.t 26) (.c (.int .u8 (.ofNat 57)))),
oq 28 (.pick (.t 23) (.c (.bool true)) (.t 27))])
(.cond (.t 28) (.seq (.reg [mt 29 4,
oq 30 (.build [(.int .i64 (.ofNat 0)),(.int .i64 (.ofNat 0))] [(0,1,(ci 11)),(1,1,(.t 29))]),
oq 2 (.mv (.c .nilsl)),
⟨none,(.x (.st 2 (.t 3) (.t 30))),none,0⟩])
.ret) .skip))))
(.reg [oq 31 (bi .add (.t 16) (ci 1)),
mt 16 31])))))))
(.seq (.seq (.reg [mt 32 0,
oq 33 (.lenStr (.t 32)),
oq 34 (bi .eql (.t 33) (ci 0)),
mt 35 34,
og 36 35 false 0 (.mv (.t 0)),
og 37 35 false 0 (.lenStr (.t 36)),
og 38 35 false 0 (bi .gtr (.t 37) (ci 1)),
og 39 35 false 0 (.mv (.t 38)),
og 40 39 true 0 (.mv (.t 0)),
og 41 39 true 0 (.idxStr (.t 40) (ci 0)),
og 42 39 true 0 (bi .eql (.t 41) (.c (.int .u8 (.ofNat 48)))),
og 43 35 false 0 (.pick (.t 39) (.t 42) (.c (.bool false))),
oq 44 (.pick (.t 35) (.c (.bool true)) (.t 43))])
(.cond (.t 44) (.seq (.reg [oq 45 (.build [(.int .i64 (.ofNat 0)),(.int .i64 (.ofNat 0))] [(0,1,(ci 11))]),
oq 2 (.mv (.c .nilsl)),
⟨none,(.x (.st 2 (.t 3) (.t 45))),none,0⟩])
.ret) .skip))
(.seq (.reg [oq 5 (.mv (.c .nilsl))])
(.seq (.seq (.reg [mt 46 0,
oq 47 (.lenStr (.t 46)),
mt 6 47])
(.block 2 (.loop (.seq (.seq (.reg [mt 48 6,
oq 49 (bi .gtr (.t 48) (ci 0))])
(.cond (.t 49) .skip (.exit 2)))
(.seq (.block 3 (.seq (.reg [oq 7 (.mv (.c (.int .u32 (.ofNat 0))))])
(.seq (.seq (.reg [mt 52 0,
mt 53 6,
oq 54 (bi .sub (.t 53) (ci 9)),
oq 55 (.minmax true [(ci 0),(.t 54)]),
mt 56 6,
oq 57 (.slc .str (.t 52) (some (.t 55)) (some (.t 56)) none),
⟨(some 58),(.a (.strBytes 5 (.t 57))),none,0⟩,
oq 59 (.lenSl (.t 58)),
oq 60 (.mv (ci 0))])
(.block 4 (.loop (.seq (.reg [oq 61 (bi .lss (.t 60) (.t 59))])
(.seq (.cond (.t 61) .skip (.exit 4))
(.seq (.block 5 (.seq (.reg [oq 62 (.iaddr (.slice 1) (.t 58) (.t 60)),
oq 63 (ld 62),
mt 9 63])
(.reg [mt 64 7,
oq 65 (bi .mul (.c (.int .u32 (.ofNat 10))) (.t 64)),
mt 66 9,
oq 67 (bi .sub (.t 66) (.c (.int .u8 (.ofNat 48)))),
oq 68 (.conv (.int .u32) (.t 67)),
oq 69 (bi .add (.t 65) (.t 68)),
mt 7 69])))
(.reg [oq 70 (bi .add (.t 60) (ci 1)),
mt 60 70])))))))
(.reg [mt 71 5,
mt 72 7,
⟨(some 73),(.a (.bslice 41 1 1 [(.int .u32 (.ofNat 0))] [(0,(.t 72))])),none,0⟩,
⟨(some 74),(.x (.app 41 1 4 (.t 71) (.t 73))),none,0⟩,
mt 5 74]))))
(.reg [mt 50 6,
oq 51 (bi .sub (.t 50) (ci 9)),
mt 6 51]))))))
(.seq (.seq (.reg [mt 75 0,
oq 76 (.bin .eql (.p .str) (.t 75) (.c (.str [48])))])
(.cond (.t 76) (.seq (.reg [oq 77 (.build [(.int .i64 (.ofNat 0)),(.int .i64 (.ofNat 0))] []),
oq 2 (.mv (.c .nilsl)),
⟨none,(.x (.st 2 (.t 3) (.t 77))),none,0⟩])
.ret) .skip))
(.seq (.reg [mt 78 5,
oq 79 (.build [(.int .i64 (.ofNat 0)),(.int .i64 (.ofNat 0))] []),
mt 2 78,
⟨none,(.x (.st 2 (.t 3) (.t 79))),none,0⟩])
.ret))))))))⟩
theorem row95 : Row Go.Proofs.Tryd.prog (95, a95) := ⟨Go.Proofs.Tryd.f95, Go.Proofs.Tryd.func95, by kernel_rfl⟩
noncomputable def a96 : AFn :=
⟨5,[(.t 2)],(.seq (.reg [oq 2 (.mv (.c .nilsl))])
(.seq (.reg [mt 3 0,
⟨(some 4),(.x (.app 41 1 4 (.c .nilsl) (.t 3))),none,0⟩,
mt 2 4])
.ret))⟩
theorem row96 : Row Go.Proofs.Tryd.prog (96, a96) := ⟨Go.Proofs.Tryd.f96, Go.Proofs.Tryd.func96, by kernel_rfl⟩
noncomputable def a97 : AFn :=
⟨13,[(.t 2)],(.seq (.reg [⟨(some 1),(.a (.box 25 (.t 0))),none,0⟩,
oq 2 (.mv (.c (.bool false)))])
(.seq (.reg [oq 3 (.faddr 1 (.t 1)),
oq 4 (ld 3),
oq 5 (.lenSl (.t 4)),
oq 6 (bi .leq (.t 5) (ci 1024)),
mt 7 6,
og 8 7 true 0 (.faddr 2 (.t 1)),
og 9 7 true 0 (ld 8),
og 10 7 true 0 (.lenSl (.t 9)),
og 11 7 true 0 (bi .leq (.t 10) (ci 1024)),
oq 12 (.pick (.t 7) (.t 11) (.c (.bool false))),
mt 2 12])
.ret))⟩
theorem row97 : Row Go.Proofs.Tryd.prog (97, a97) := ⟨Go.Proofs.Tryd.f97, Go.Proofs.Tryd.func97, by kernel_rfl⟩
noncomputable def a98 : AFn :=
⟨93,[(.t 4),(.t 5)],(.seq (.reg [oq 4 (.mv (.c .nilsl)),
oq 5 (.mv (.c .nilsl))])
(.seq (.seq (.reg [mt 13 0,
mt 14 1,
oc 15 63 [(.t 13),(.t 14)] 0,
oq 16 (bi .lss (.t 15) (ci 0))])
(.cond (.t 16) (.seq (.reg [mt 17 0,
oc 18 96 [(.t 17)] 0,
oq 4 (.mv (.c .nilsl)),
mt 5 18])
.ret) .skip))
(.seq (.seq (.reg [mt 19 1,
oq 20 (.lenSl (.t 19)),
oq 21 (bi .eql (.t 20) (ci 1))])
(.cond (.t 21) (.seq (.reg [mt 23 0,
mt 24 1,
oq 25 (.iaddr (.slice 1) (.t 24) (ci 0)),
oq 26 (ld 25),
oc 27 127 [(.t 23),(.t 26)] 0,
mt 22 27,
oq 28 (.extract (.t 22) 0),
oq 29 (.extract (.t 22) 1),
mt 6 28,
mt 7 29])
(.seq (.reg [mt 30 6,
mt 31 7,
oq 32 (.conv (.int .u64) (.t 31)),
oc 33 81 [(.t 32)] 0,
mt 4 30,
mt 5 33])
.ret)) .skip))
(.seq (.reg [mt 34 1,
oq 35 (.lenSl (.t 34)),
mt 8 35])
(.seq (.reg [mt 36 1,
mt 37 8,
oq 38 (bi .sub (.t 37) (ci 1)),
oq 39 (.iaddr (.slice 1) (.t 36) (.t 38)),
oq 40 (ld 39),
oq 41 (.conv (.int .u64) (.t 40)),
oq 42 (bi .add (.t 41) (.c (.int .u64 (.ofNat 1)))),
oq 43 (bi .quo (.c (.int .u64 (.ofNat 1000000000))) (.t 42)),
mt 9 43])
(.seq (.reg [mt 44 0,
mt 45 9,
mt 46 0,
oq 47 (.lenSl (.t 46)),
oq 48 (bi .add (.t 47) (ci 1)),
oc 49 128 [(.t 44),(.t 45),(.t 48)] 0,
mt 10 49])
(.seq (.reg [mt 50 1,
mt 51 9,
mt 52 8,
oc 53 128 [(.t 50),(.t 51),(.t 52)] 0,
mt 11 53])
(.seq (.reg [mt 54 0,
oq 55 (.lenSl (.t 54)),
mt 56 8,
oq 57 (bi .sub (.t 55) (.t 56)),
oq 58 (bi .add (.t 57) (ci 1)),
⟨(some 59),(.a (.mkSlice 41 1 4 [(.int .u32 (.ofNat 0))] (.t 58) (.t 58))),none,0⟩,
mt 4 59])
(.seq (.seq (.reg [mt 60 0,
oq 61 (.lenSl (.t 60)),
mt 62 8,
oq 63 (bi .sub (.t 61) (.t 62)),
mt 12 63])
(.block 0 (.loop (.seq (.seq (.reg [mt 64 12,
oq 65 (bi .geq (.t 64) (ci 0))])
(.cond (.t 65) .skip (.exit 0)))
(.seq (.block 1 (.reg [mt 68 4,
mt 69 12,
mt 70 10,
mt 71 12,
mt 72 12,
mt 73 8,
oq 74 (bi .add (.t 72) (.t 73)),
oq 75 (bi .add (.t 74) (ci 1)),
oq 76 (.slc (.slice 1) (.t 70) (some (.t 71)) (some (.t 75)) none),
mt 77 11,
oc 78 129 [(.t 76),(.t 77)] 0,
oq 79 (.iaddr (.slice 1) (.t 68) (.t 69)),
⟨none,(.x (.st 1 (.t 79) (.t 78))),none,0⟩]))
(.reg [mt 66 12,
oq 67 (bi .sub (.t 66) (ci 1)),
mt 12 67]))))))
(.seq (.reg [mt 81 10,
mt 82 8,
oq 83 (.slc (.slice 1) (.t 81) none (some (.t 82)) none),
oc 84 103 [(.t 83)] 0,
mt 85 9,
oq 86 (.conv (.int .u32) (.t 85)),
oc 87 127 [(.t 84),(.t 86)] 0,
mt 80 87,
oq 88 (.extract (.t 80) 0),
oq 89 (.extract (.t 80) 1),
mt 5 88])
(.seq (.reg [mt 90 4,
oc 91 103 [(.t 90)] 0,
mt 92 5,
mt 4 91,
mt 5 92])
.ret)))))))))))⟩
theorem row98 : Row Go.Proofs.Tryd.prog (98, a98) := ⟨Go.Proofs.Tryd.f98, Go.Proofs.Tryd.func98, by kernel_rfl⟩
noncomputable def a99 : AFn :=
⟨57,[(.t 4)],(.seq (.reg [oq 4 (.mv (.c .nilsl))])
(.seq (.seq (.reg [mt 10 0,
oq 11 (.lenSl (.t 10)),
mt 12 1,
oq 13 (.lenSl (.t 12)),
oq 14 (bi .lss (.t 11) (.t 13))])
(.cond (.t 14) (.reg [mt 15 1,
mt 16 0,
mt 0 15,
mt 1 16]) .skip))
(.seq (.reg [mt 17 0,
oq 18 (.lenSl (.t 17)),
oq 19 (bi .add (.t 18) (ci 1)),
⟨(some 20),(.a (.mkSlice 41 1 4 [(.int .u32 (.ofNat 0))] (ci 0) (.t 19))),none,0⟩,
mt 5 20])
(.seq (.reg [oq 6 (.mv (.c (.int .u32 (.ofNat 0))))])
(.seq (.seq (.reg [mt 21 0,
oq 22 (.lenSl (.t 21)),
oq 23 (.mv (ci 0))])
(.block 0 (.loop (.seq (.reg [oq 24 (bi .lss (.t 23) (.t 22))])
(.seq (.cond (.t 24) .skip (.exit 0))
(.seq (.block 1 (.seq (.reg [mt 25 23,
oq 26 (.iaddr (.slice 1) (.t 21) (.t 23)),
oq 27 (ld 26),
mt 7 25,
mt 8 27])
(.seq (.reg [mt 28 8,
mt 29 6,
oq 30 (bi .add (.t 28) (.t 29)),
mt 9 30])
(.seq (.seq (.reg [mt 31 7,
mt 32 1,
oq 33 (.lenSl (.t 32)),
oq 34 (bi .lss (.t 31) (.t 33))])
(.cond (.t 34) (.reg [mt 35 9,
mt 36 1,
mt 37 7,
oq 38 (.iaddr (.slice 1) (.t 36) (.t 37)),
oq 39 (ld 38),
oq 40 (bi .add (.t 35) (.t 39)),
mt 9 40]) .skip))
(.seq (.reg [oq 6 (.mv (.c (.int .u32 (.ofNat 0))))])
(.seq (.seq (.reg [mt 41 9,
oq 42 (bi .geq (.t 41) (.c (.int .u32 (.ofNat 1000000000))))])
(.cond (.t 42) (.seq (.reg [mt 43 9,
oq 44 (bi .sub (.t 43) (.c (.int .u32 (.ofNat 1000000000)))),
mt 9 44])
(.reg [oq 6 (.mv (.c (.int .u32 (.ofNat 1))))])) .skip))
(.reg [mt 45 5,
mt 46 9,
⟨(some 47),(.a (.bslice 41 1 1 [(.int .u32 (.ofNat 0))] [(0,(.t 46))])),none,0⟩,
⟨(some 48),(.x (.app 41 1 4 (.t 45) (.t 47))),none,0⟩,
mt 5 48])))))))
(.reg [oq 49 (bi .add (.t 23) (ci 1)),
mt 23 49])))))))
(.seq (.seq (.reg [mt 50 6,
oq 51 (bi .gtr (.t 50) (.c (.int .u32 (.ofNat 0))))])
(.cond (.t 51) (.reg [mt 52 5,
mt 53 6,
⟨(some 54),(.a (.bslice 41 1 1 [(.int .u32 (.ofNat 0))] [(0,(.t 53))])),none,0⟩,
⟨(some 55),(.x (.app 41 1 4 (.t 52) (.t 54))),none,0⟩,
mt 5 55]) .skip))
(.seq (.reg [mt 56 5,
mt 4 56])
.ret)))))))⟩
theorem row99 : Row Go.Proofs.Tryd.prog (99, a99) := ⟨Go.Proofs.Tryd.f99, Go.Proofs.Tryd.func99, by kernel_rfl⟩
noncomputable def a100 : AFn :=
⟨47,[(.t 4)],(.seq (.reg [oq 4 (.mv (.c .nilsl))])
(.seq (.reg [mt 10 0,
oq 11 (.lenSl (.t 10)),
⟨(some 12),(.a (.mkSlice 41 1 4 [(.int .u32 (.ofNat 0))] (.t 11) (.t 11))),none,0⟩,
mt 5 12])
(.seq (.reg [oq 6 (.mv (ci 0))])
(.seq (.seq (.reg [mt 13 0,
oq 14 (.lenSl (.t 13)),
oq 15 (.mv (ci 0))])
(.block 0 (.loop (.seq (.reg [oq 16 (bi .lss (.t 15) (.t 14))])
(.seq (.cond (.t 16) .skip (.exit 0))
(.seq (.block 1 (.seq (.reg [mt 17 15,
oq 18 (.iaddr (.slice 1) (.t 13) (.t 15)),
oq 19 (ld 18),
mt 7 17,
mt 8 19])
(.seq (.reg [mt 20 8,
oq 21 (.conv (.int .i64) (.t 20)),
mt 22 6,
oq 23 (bi .sub (.t 21) (.t 22)),
mt 9 23])
(.seq (.seq (.reg [mt 24 7,
mt 25 1,
oq 26 (.lenSl (.t 25)),
oq 27 (bi .lss (.t 24) (.t 26))])
(.cond (.t 27) (.reg [mt 28 9,
mt 29 1,
mt 30 7,
oq 31 (.iaddr (.slice 1) (.t 29) (.t 30)),
oq 32 (ld 31),
oq 33 (.conv (.int .i64) (.t 32)),
oq 34 (bi .sub (.t 28) (.t 33)),
mt 9 34]) .skip))
(.seq (.reg [oq 6 (.mv (ci 0))])
(.seq (.seq (.reg [mt 35 9,
oq 36 (bi .lss (.t 35) (ci 0))])
(.cond (.t 36) (.seq (.reg [mt 37 9,
oq 38 (bi .add (.t 37) (ci 1000000000)),
mt 9 38])
(.reg [oq 6 (.mv (ci 1))])) .skip))
(.reg [mt 39 5,
mt 40 7,
mt 41 9,
oq 42 (.conv (.int .u32) (.t 41)),
oq 43 (.iaddr (.slice 1) (.t 39) (.t 40)),
⟨none,(.x (.st 1 (.t 43) (.t 42))),none,0⟩])))))))
(.reg [oq 44 (bi .add (.t 15) (ci 1)),
mt 15 44])))))))
(.seq (.reg [mt 45 5,
oc 46 103 [(.t 45)] 0,
mt 4 46])
.ret)))))⟩
theorem row100 : Row Go.Proofs.Tryd.prog (100, a100) := ⟨Go.Proofs.Tryd.f100, Go.Proofs.Tryd.func100, by kernel_rfl⟩
noncomputable def a103 : AFn :=
⟨21,[(.t 2)],(.seq (.reg [oq 2 (.mv (.c .nilsl))])
(.seq (.block 0 (.loop (.seq (.seq (.reg [mt 3 0,
oq 4 (.lenSl (.t 3)),
oq 5 (bi .gtr (.t 4) (ci 0)),
mt 6 5,
og 7 6 true 0 (.mv (.t 0)),
og 8 6 true 0 (.mv (.t 0)),
og 9 6 true 0 (.lenSl (.t 8)),
og 10 6 true 0 (bi .sub (.t 9) (ci 1)),
og 11 6 true 0 (.iaddr (.slice 1) (.t 7) (.t 10)),
og 12 6 true 0 (ld 11),
og 13 6 true 0 (bi .eql (.t 12) (.c (.int .u32 (.ofNat 0)))),
oq 14 (.pick (.t 6) (.t 13) (.c (.bool false)))])
(.cond (.t 14) .skip (.exit 0)))
(.block 1 (.reg [mt 15 0,
mt 16 0,
oq 17 (.lenSl (.t 16)),
oq 18 (bi .sub (.t 17) (ci 1)),
oq 19 (.slc (.slice 1) (.t 15) none (some (.t 18)) none),
mt 0 19])))))
(.seq (.reg [mt 20 0,
mt 2 20])
.ret)))⟩
theorem row103 : Row Go.Proofs.Tryd.prog (103, a103) := ⟨Go.Proofs.Tryd.f103, Go.Proofs.Tryd.func103, by kernel_rfl⟩
noncomputable def a104 : AFn :=
⟨26,[(.cell 2 true 3)],(.seq (.reg [⟨(some 1),(.a (.box 80 (.t 0))),none,0⟩,
⟨(some 2),(.a (.alloc 25 [(.bool false),.nilsl,.nilsl])),none,0⟩])
(.seq (.seq (.reg [oq 3 (.faddr 3 (.t 1)),
oq 4 (.faddr 1 (.t 3)),
oq 5 (ld 4),
oc 6 91 [(.t 5)] 0,
mt 7 6,
og 8 7 true 0 (.faddr 3 (.t 1)),
og 9 7 true 0 (.faddr 2 (.t 8)),
og 10 7 true 0 (ld 9),
⟨(some 11),(.x (.call (.c (.fn 91 [] [])) [(.t 10)])),(some (7,true)),0⟩,
oq 12 (.pick (.t 7) (.t 11) (.c (.bool false))),
mt 13 12,
og 14 13 true 0 (.faddr 3 (.t 1)),
og 15 13 true 0 (.faddr 0 (.t 14)),
og 16 13 true 0 (ld 15),
og 17 13 true 0 (.un .not (.t 16)),
oq 18 (.pick (.t 13) (.t 17) (.c (.bool false)))])
(.cond (.t 18) (.seq (.reg [oq 19 (.faddr 0 (.t 1)),
oq 20 (.ld true 3 (.t 19)),
⟨none,(.x (.st 3 (.t 2) (.t 20))),none,0⟩])
.ret) .skip))
(.seq (.reg [oq 21 (.faddr 0 (.t 1)),
oq 22 (.ld true 3 (.t 21)),
oq 23 (.faddr 3 (.t 1)),
oq 24 (.ld true 3 (.t 23)),
oc 25 105 [(.t 22),(.t 24)] 0,
⟨none,(.x (.st 3 (.t 2) (.t 25))),none,0⟩])
.ret)))⟩
theorem row104 : Row Go.Proofs.Tryd.prog (104, a104) := ⟨Go.Proofs.Tryd.f104, Go.Proofs.Tryd.func104, by kernel_rfl⟩
noncomputable def a105 : AFn :=
⟨83,[(.cell 4 true 3)],(.seq (.reg [⟨(some 2),(.a (.box 25 (.t 0))),none,0⟩,
⟨(some 3),(.a (.box 25 (.t 1))),none,0⟩,
⟨(some 4),(.a (.alloc 25 [(.bool false),.nilsl,.nilsl])),none,0⟩])
(.seq (.seq (.reg [oq 9 (.faddr 1 (.t 2)),
oq 10 (ld 9),
oq 11 (.lenSl (.t 10)),
oq 12 (bi .eql (.t 11) (ci 0)),
mt 13 12,
og 14 13 false 0 (.faddr 1 (.t 3)),
og 15 13 false 0 (ld 14),
og 16 13 false 0 (.lenSl (.t 15)),
og 17 13 false 0 (bi .eql (.t 16) (ci 0)),
oq 18 (.pick (.t 13) (.c (.bool true)) (.t 17))])
(.cond (.t 18) (.seq (.reg [oc 19 55 [] 0,
⟨none,(.x (.st 3 (.t 4) (.t 19))),none,0⟩])
.ret) .skip))
(.seq (.reg [oq 20 (.faddr 0 (.t 2)),
oq 21 (ld 20),
oq 22 (.faddr 0 (.t 3)),
oq 23 (ld 22),
oq 24 (.bin .neq (.p .bool) (.t 21) (.t 23)),
mt 5 24])
(.seq (.seq (.reg [oq 25 (.ld true 3 (.t 2)),
oq 26 (.ld true 3 (.t 3)),
oc 27 130 [(.t 25),(.t 26)] 0])
(.cond (.t 27) (.seq (.drw [mt 28 5,
oq 29 (.faddr 1 (.t 2)),
om 30 2 (ld 29),
om 31 6 (.iaddr (.slice 1) (.t 30) (ci 0)),
om 32 14 (ld 31),
om 33 30 (.conv (.int .u64) (.t 32)),
oq 34 (.faddr 1 (.t 3)),
om 35 64 (ld 34),
om 36 192 (.iaddr (.slice 1) (.t 35) (ci 0)),
om 37 448 (ld 36),
om 38 960 (.conv (.int .u64) (.t 37)),
om 39 2046 (bi .mul (.t 33) (.t 38)),
oq 40 (.faddr 2 (.t 2)),
om 41 4096 (ld 40),
om 42 12288 (.iaddr (.slice 1) (.t 41) (ci 0)),
om 43 28672 (ld 42),
om 44 61440 (.conv (.int .u64) (.t 43)),
oq 45 (.faddr 2 (.t 3)),
om 46 131072 (ld 45),
om 47 393216 (.iaddr (.slice 1) (.t 46) (ci 0)),
om 48 917504 (ld 47),
om 49 1966080 (.conv (.int .u64) (.t 48)),
om 50 4190208 (bi .mul (.t 44) (.t 49)),
oc 51 119 [(.t 28),(.t 39),(.t 50)] 8388607,
⟨none,(.x (.st 3 (.t 4) (.t 51))),none,16777215⟩])
.ret) .skip))
(.seq (.drw [oq 52 (.faddr 1 (.t 2)),
om 53 1 (ld 52),
oq 54 (.faddr 2 (.t 3)),
om 55 4 (ld 54),
oc 56 116 [(.t 53),(.t 55)] 15,
oq 57 (.faddr 1 (.t 3)),
om 58 32 (ld 57),
oq 59 (.faddr 2 (.t 2)),
om 60 128 (ld 59),
oc 61 116 [(.t 58),(.t 60)] 511,
om 6 1023 (.mv (.t 56)),
om 7 2047 (.mv (.t 61))])
(.seq (.drw [oq 62 (.faddr 1 (.t 2)),
om 63 1 (ld 62),
mt 64 6,
oc 65 120 [(.t 63),(.t 64)] 7,
oq 66 (.faddr 1 (.t 3)),
om 67 16 (ld 66),
mt 68 7,
oc 69 120 [(.t 67),(.t 68)] 127,
oc 70 64 [(.t 65),(.t 69)] 255,
om 8 511 (.mv (.t 70))])
(.seq (.drw [mt 71 5,
mt 72 8,
oq 73 (.faddr 2 (.t 2)),
om 74 4 (ld 73),
mt 75 7,
oc 76 120 [(.t 74),(.t 75)] 28,
oq 77 (.faddr 2 (.t 3)),
om 78 64 (ld 77),
mt 79 6,
oc 80 120 [(.t 78),(.t 79)] 508,
oc 81 64 [(.t 76),(.t 80)] 1020,
om 82 2047 (.build [(.bool false),.nilsl,.nilsl] [(0,1,(.t 71)),(1,1,(.t 72)),(2,1,(.t 81))]),
⟨none,(.x (.st 3 (.t 4) (.t 82))),none,4095⟩])
.ret)))))))⟩
theorem row105 : Row Go.Proofs.Tryd.prog (105, a105) := ⟨Go.Proofs.Tryd.f105, Go.Proofs.Tryd.func105, by kernel_rfl⟩
end Go.Ev.Gl
