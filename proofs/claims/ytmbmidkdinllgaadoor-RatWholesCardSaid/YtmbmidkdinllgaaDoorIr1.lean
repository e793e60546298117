/- Functions of the program as data of the evaluator, written by program; each is shown to be the compiler's result on the loaded function. -/
import Derived.Test.YtmbmidkdinllgaaDoorProg
import Derived.Test.YtmbmidkdinllgaaDoorEv8
import Derived.KernelRfl
namespace Go.Ev.Gl
set_option maxRecDepth 100000
noncomputable def a64 : AFn :=
⟨77,[(.t 4)],(.seq (.reg [oq 4 (.mv (.c .nilsl))])
(.seq (.seq (.reg [mt 13 0,
oq 14 (.lenSl (.t 13)),
oq 15 (bi .eql (.t 14) (ci 0)),
mt 16 15,
og 17 16 false 0 (.mv (.t 1)),
og 18 16 false 0 (.lenSl (.t 17)),
og 19 16 false 0 (bi .eql (.t 18) (ci 0)),
oq 20 (.pick (.t 16) (.c (.bool true)) (.t 19))])
(.cond (.t 20) (.seq (.reg [oq 4 (.mv (.c .nilsl))])
.ret) .skip))
(.seq (.reg [mt 21 0,
oq 22 (.lenSl (.t 21)),
mt 23 1,
oq 24 (.lenSl (.t 23)),
oq 25 (bi .add (.t 22) (.t 24)),
⟨(some 26),(.a (.mkSlice 41 1 4 [(.int .u32 (.ofNat 0))] (.t 25) (.t 25))),none,0⟩,
mt 5 26])
(.seq (.seq (.reg [mt 27 0,
oq 28 (.lenSl (.t 27)),
oq 29 (.mv (ci 0))])
(.block 0 (.loop (.seq (.reg [oq 30 (bi .lss (.t 29) (.t 28))])
(.seq (.cond (.t 30) .skip (.exit 0))
(.seq (.block 1 (.seq (.reg [mt 31 29,
oq 32 (.iaddr (.slice 1) (.t 27) (.t 29)),
oq 33 (ld 32),
mt 6 31,
mt 7 33])
(.seq (.reg [mt 34 5,
mt 35 6,
oq 36 (.slc (.slice 1) (.t 34) (some (.t 35)) none none),
mt 8 36])
(.seq (.reg [oq 9 (.mv (.c (.int .u64 (.ofNat 0))))])
(.seq (.seq (.reg [mt 37 1,
oq 38 (.lenSl (.t 37)),
oq 39 (.mv (ci 0))])
(.block 2 (.loop (.seq (.reg [oq 40 (bi .lss (.t 39) (.t 38))])
(.seq (.cond (.t 40) .skip (.exit 2))
(.seq (.block 3 (.seq (.reg [mt 41 39,
oq 42 (.iaddr (.slice 1) (.t 37) (.t 39)),
oq 43 (ld 42),
mt 10 41,
mt 11 43])
(.seq (.reg [mt 44 7,
oq 45 (.conv (.int .u64) (.t 44)),
mt 46 11,
oq 47 (.conv (.int .u64) (.t 46)),
oq 48 (bi .mul (.t 45) (.t 47)),
mt 49 8,
mt 50 10,
oq 51 (.iaddr (.slice 1) (.t 49) (.t 50)),
oq 52 (ld 51),
oq 53 (.conv (.int .u64) (.t 52)),
oq 54 (bi .add (.t 48) (.t 53)),
mt 55 9,
oq 56 (bi .add (.t 54) (.t 55)),
mt 12 56])
(.seq (.reg [mt 57 12,
oq 58 (bi .quo (.t 57) (.c (.int .u64 (.ofNat 1000000000)))),
mt 9 58])
(.reg [mt 59 8,
mt 60 10,
mt 61 12,
mt 62 9,
oq 63 (bi .mul (.t 62) (.c (.int .u64 (.ofNat 1000000000)))),
oq 64 (bi .sub (.t 61) (.t 63)),
oq 65 (.conv (.int .u32) (.t 64)),
oq 66 (.iaddr (.slice 1) (.t 59) (.t 60)),
⟨none,(.x (.st 1 (.t 66) (.t 65))),none,0⟩])))))
(.reg [oq 67 (bi .add (.t 39) (ci 1)),
mt 39 67])))))))
(.reg [mt 68 8,
mt 69 1,
oq 70 (.lenSl (.t 69)),
mt 71 9,
oq 72 (.conv (.int .u32) (.t 71)),
oq 73 (.iaddr (.slice 1) (.t 68) (.t 70)),
⟨none,(.x (.st 1 (.t 73) (.t 72))),none,0⟩]))))))
(.reg [oq 74 (bi .add (.t 29) (ci 1)),
mt 29 74])))))))
(.seq (.reg [mt 75 5,
oc 76 103 [(.t 75)] 0,
mt 4 76])
.ret)))))⟩
theorem row64 : Row Go.Proofs.Tryd.prog (64, a64) := ⟨Go.Proofs.Tryd.f64, Go.Proofs.Tryd.func64, by kernel_rfl⟩
noncomputable def a65 : AFn :=
⟨15,[(.cell 4 true 3)],(.seq (.reg [⟨(some 4),(.a (.alloc 25 [(.bool false),.nilsl,.nilsl])),none,0⟩])
(.seq (.reg [mt 5 0,
mt 6 5,
og 7 6 true 0 (.mv (.t 1)),
og 8 6 true 0 (.lenSl (.t 7)),
og 9 6 true 0 (bi .gtr (.t 8) (ci 0)),
oq 10 (.pick (.t 6) (.t 9) (.c (.bool false))),
mt 11 1,
oc 12 96 [(.t 11)] 0,
oc 13 66 [] 0,
oq 14 (.build [(.bool false),.nilsl,.nilsl] [(0,1,(.t 10)),(1,1,(.t 12)),(2,1,(.t 13))]),
⟨none,(.x (.st 3 (.t 4) (.t 14))),none,0⟩])
.ret))⟩
theorem row65 : Row Go.Proofs.Tryd.prog (65, a65) := ⟨Go.Proofs.Tryd.f65, Go.Proofs.Tryd.func65, by kernel_rfl⟩
noncomputable def a66 : AFn :=
⟨2,[(.t 0)],(.seq (.reg [oq 0 (.mv (.c .nilsl))])
(.seq (.reg [⟨(some 1),(.a (.bslice 41 1 1 [(.int .u32 (.ofNat 0))] [(0,(.c (.int .u32 (.ofNat 1))))])),none,0⟩,
mt 0 1])
.ret))⟩
theorem row66 : Row Go.Proofs.Tryd.prog (66, a66) := ⟨Go.Proofs.Tryd.f66, Go.Proofs.Tryd.func66, by kernel_rfl⟩
noncomputable def a69 : AFn :=
⟨14,[(.cell 2 true 3)],(.seq (.reg [⟨(some 1),(.a (.box 25 (.t 0))),none,0⟩,
⟨(some 2),(.a (.alloc 25 [(.bool false),.nilsl,.nilsl])),none,0⟩])
(.seq (.reg [oq 3 (.faddr 0 (.t 1)),
oq 4 (ld 3),
oq 5 (.un .not (.t 4)),
mt 6 5,
og 7 6 true 0 (.faddr 1 (.t 1)),
og 8 6 true 0 (ld 7),
og 9 6 true 0 (.lenSl (.t 8)),
og 10 6 true 0 (bi .gtr (.t 9) (ci 0)),
oq 11 (.pick (.t 6) (.t 10) (.c (.bool false))),
oq 12 (.faddr 0 (.t 1)),
⟨none,(.x (.st 1 (.t 12) (.t 11))),none,0⟩])
(.seq (.reg [oq 13 (.ld true 3 (.t 1)),
⟨none,(.x (.st 3 (.t 2) (.t 13))),none,0⟩])
.ret)))⟩
theorem row69 : Row Go.Proofs.Tryd.prog (69, a69) := ⟨Go.Proofs.Tryd.f69, Go.Proofs.Tryd.func69, by kernel_rfl⟩
noncomputable def a70 : AFn :=
⟨21,[(.cell 4 true 3)],(.seq (.reg [⟨(some 2),(.a (.box 25 (.t 0))),none,0⟩,
⟨(some 3),(.a (.box 25 (.t 1))),none,0⟩,
⟨(some 4),(.a (.alloc 25 [(.bool false),.nilsl,.nilsl])),none,0⟩])
(.seq (.drw [oq 5 (.faddr 0 (.t 2)),
om 6 1 (ld 5),
oq 7 (.faddr 0 (.t 3)),
om 8 4 (ld 7),
om 9 15 (.bin .neq (.p .bool) (.t 6) (.t 8)),
oq 10 (.faddr 1 (.t 2)),
om 11 32 (ld 10),
oq 12 (.faddr 1 (.t 3)),
om 13 128 (ld 12),
oc 14 109 [(.t 11),(.t 13)] 480,
oq 15 (.faddr 2 (.t 2)),
om 16 1024 (ld 15),
oq 17 (.faddr 2 (.t 3)),
om 18 4096 (ld 17),
oc 19 109 [(.t 16),(.t 18)] 16352,
oc 20 84 [(.t 9),(.t 14),(.t 19)] 32767,
⟨none,(.x (.st 3 (.t 4) (.t 20))),none,65535⟩])
.ret))⟩
theorem row70 : Row Go.Proofs.Tryd.prog (70, a70) := ⟨Go.Proofs.Tryd.f70, Go.Proofs.Tryd.func70, by kernel_rfl⟩
noncomputable def a74 : AFn :=
⟨20,[(.t 4)],(.seq (.reg [oq 4 (.mv (ci 0))])
(.seq (.seq (.reg [mt 7 0,
oc 8 113 [(.t 7)] 0,
mt 5 8])
(.seq (.reg [mt 9 5,
oq 10 (bi .neq (.t 9) (ci 0))])
(.cond (.t 10) (.seq (.reg [mt 11 5,
mt 4 11])
.ret) .skip)))
(.seq (.seq (.reg [mt 12 1,
oc 13 113 [(.t 12)] 0,
mt 6 13])
(.seq (.reg [mt 14 6,
oq 15 (bi .neq (.t 14) (ci 0))])
(.cond (.t 15) (.seq (.reg [mt 16 6,
mt 4 16])
.ret) .skip)))
(.seq (.seq (.reg [mt 17 1,
oq 18 (.lenSl (.t 17)),
oq 19 (bi .eql (.t 18) (ci 0))])
(.cond (.t 19) (.seq (.reg [oq 4 (.mv (ci 6))])
.ret) .skip))
(.seq (.reg [oq 4 (.mv (ci 0))])
.ret)))))⟩
theorem row74 : Row Go.Proofs.Tryd.prog (74, a74) := ⟨Go.Proofs.Tryd.f74, Go.Proofs.Tryd.func74, by kernel_rfl⟩
noncomputable def a75 : AFn :=
⟨23,[(.t 4)],(.seq (.reg [oq 4 (.mv (.c (.bool false)))])
(.seq (.seq (.reg [mt 5 0,
oq 6 (.lenSl (.t 5)),
oq 7 (bi .leq (.t 6) (ci 2)),
mt 8 7,
og 9 8 true 0 (.mv (.t 1)),
og 10 8 true 0 (.lenSl (.t 9)),
og 11 8 true 0 (bi .leq (.t 10) (ci 2)),
oq 12 (.pick (.t 8) (.t 11) (.c (.bool false)))])
(.cond (.t 12) (.seq (.reg [mt 13 0,
oc 14 115 [(.t 13)] 0,
mt 15 1,
oc 16 115 [(.t 15)] 0,
oc 17 114 [(.t 14),(.t 16)] 0,
oq 18 (bi .eql (.t 17) (.c (.int .u64 (.ofNat 1)))),
mt 4 18])
.ret) .skip))
(.seq (.reg [mt 19 0,
mt 20 1,
oc 21 116 [(.t 19),(.t 20)] 0,
oc 22 91 [(.t 21)] 0,
mt 4 22])
.ret)))⟩
theorem row75 : Row Go.Proofs.Tryd.prog (75, a75) := ⟨Go.Proofs.Tryd.f75, Go.Proofs.Tryd.func75, by kernel_rfl⟩
noncomputable def a76 : AFn :=
⟨20,[(.t 4)],(.seq (.reg [oq 4 (.mv (ci 0))])
(.seq (.seq (.reg [mt 7 0,
oc 8 117 [(.t 7)] 0,
mt 5 8])
(.seq (.reg [mt 9 5,
oq 10 (bi .neq (.t 9) (ci 0))])
(.cond (.t 10) (.seq (.reg [mt 11 5,
mt 4 11])
.ret) .skip)))
(.seq (.seq (.reg [mt 12 1,
oc 13 117 [(.t 12)] 0,
mt 6 13])
(.seq (.reg [mt 14 6,
oq 15 (bi .neq (.t 14) (ci 0))])
(.cond (.t 15) (.seq (.reg [mt 16 6,
mt 4 16])
.ret) .skip)))
(.seq (.seq (.reg [mt 17 1,
oq 18 (.lenSl (.t 17)),
oq 19 (bi .eql (.t 18) (ci 0))])
(.cond (.t 19) (.seq (.reg [oq 4 (.mv (ci 6))])
.ret) .skip))
(.seq (.reg [oq 4 (.mv (ci 0))])
.ret)))))⟩
theorem row76 : Row Go.Proofs.Tryd.prog (76, a76) := ⟨Go.Proofs.Tryd.f76, Go.Proofs.Tryd.func76, by kernel_rfl⟩
noncomputable def a77 : AFn :=
⟨19,[(.t 4)],(.seq (.reg [oq 4 (.mv (.c .nilsl))])
(.seq (.block 0 (.loop (.seq (.seq (.reg [mt 7 1,
oq 8 (.lenSl (.t 7)),
oq 9 (bi .gtr (.t 8) (ci 0))])
(.cond (.t 9) .skip (.exit 0)))
(.block 1 (.seq (.reg [mt 11 0,
mt 12 1,
oc 13 118 [(.t 11),(.t 12)] 0,
mt 10 13,
oq 14 (.extract (.t 10) 0),
oq 15 (.extract (.t 10) 1),
mt 5 14,
mt 6 15])
(.reg [mt 16 1,
mt 17 6,
mt 0 16,
mt 1 17]))))))
(.seq (.reg [mt 18 0,
mt 4 18])
.ret)))⟩
theorem row77 : Row Go.Proofs.Tryd.prog (77, a77) := ⟨Go.Proofs.Tryd.f77, Go.Proofs.Tryd.func77, by kernel_rfl⟩
noncomputable def a79 : AFn :=
⟨27,[(.t 6),(.t 7)],(.seq (.reg [oq 6 (.mv (.c (.bool false))),
oq 7 (.mv (.c .nilsl))])
(.seq (.reg [mt 11 1,
mt 12 2,
oc 13 98 [(.t 11),(.t 12)] 0,
mt 10 13,
oq 14 (.extract (.t 10) 0),
oq 15 (.extract (.t 10) 1),
mt 8 14,
mt 9 15])
(.seq (.seq (.reg [mt 16 0,
mt 17 16,
og 18 17 true 0 (.mv (.t 9)),
og 19 17 true 0 (.lenSl (.t 18)),
og 20 17 true 0 (bi .gtr (.t 19) (ci 0)),
oq 21 (.pick (.t 17) (.t 20) (.c (.bool false)))])
(.cond (.t 21) (.reg [mt 22 8,
oc 23 66 [] 0,
oc 24 99 [(.t 22),(.t 23)] 0,
mt 8 24]) .skip))
(.seq (.reg [mt 25 0,
mt 26 8,
mt 6 25,
mt 7 26])
.ret))))⟩
theorem row79 : Row Go.Proofs.Tryd.prog (79, a79) := ⟨Go.Proofs.Tryd.f79, Go.Proofs.Tryd.func79, by kernel_rfl⟩
noncomputable def a80 : AFn :=
⟨39,[(.cell 6 true 3)],(.seq (.reg [⟨(some 6),(.a (.alloc 25 [(.bool false),.nilsl,.nilsl])),none,0⟩])
(.seq (.seq (.reg [mt 8 1,
oq 9 (.lenSl (.t 8)),
oq 10 (bi .eql (.t 9) (ci 0))])
(.cond (.t 10) (.seq (.reg [oc 11 55 [] 0,
⟨none,(.x (.st 3 (.t 6) (.t 11))),none,0⟩])
.ret) .skip))
(.seq (.seq (.reg [mt 12 1,
oq 13 (.lenSl (.t 12)),
oq 14 (bi .leq (.t 13) (ci 2)),
mt 15 14,
og 16 15 true 0 (.mv (.t 2)),
og 17 15 true 0 (.lenSl (.t 16)),
og 18 15 true 0 (bi .leq (.t 17) (ci 2)),
oq 19 (.pick (.t 15) (.t 18) (.c (.bool false)))])
(.cond (.t 19) (.seq (.reg [mt 20 0,
mt 21 1,
oc 22 115 [(.t 21)] 0,
mt 23 2,
oc 24 115 [(.t 23)] 0,
oc 25 119 [(.t 20),(.t 22),(.t 24)] 0,
⟨none,(.x (.st 3 (.t 6) (.t 25))),none,0⟩])
.ret) .skip))
(.seq (.reg [mt 26 1,
mt 27 2,
oc 28 116 [(.t 26),(.t 27)] 0,
mt 7 28])
(.seq (.reg [mt 29 0,
mt 30 1,
mt 31 7,
oc 32 120 [(.t 30),(.t 31)] 0,
oc 33 96 [(.t 32)] 0,
mt 34 2,
mt 35 7,
oc 36 120 [(.t 34),(.t 35)] 0,
oc 37 96 [(.t 36)] 0,
oq 38 (.build [(.bool false),.nilsl,.nilsl] [(0,1,(.t 29)),(1,1,(.t 33)),(2,1,(.t 37))]),
⟨none,(.x (.st 3 (.t 6) (.t 38))),none,0⟩])
.ret)))))⟩
theorem row80 : Row Go.Proofs.Tryd.prog (80, a80) := ⟨Go.Proofs.Tryd.f80, Go.Proofs.Tryd.func80, by kernel_rfl⟩
noncomputable def a81 : AFn :=
⟨15,[(.t 2)],(.seq (.reg [oq 2 (.mv (.c .nilsl))])
(.seq (.reg [oq 3 (.mv (.c .nilsl))])
(.seq (.block 0 (.loop (.seq (.seq (.reg [mt 4 0,
oq 5 (bi .gtr (.t 4) (.c (.int .u64 (.ofNat 0))))])
(.cond (.t 5) .skip (.exit 0)))
(.block 1 (.seq (.reg [mt 6 3,
mt 7 0,
oq 8 (bi .rem (.t 7) (.c (.int .u64 (.ofNat 1000000000)))),
oq 9 (.conv (.int .u32) (.t 8)),
⟨(some 10),(.a (.bslice 41 1 1 [(.int .u32 (.ofNat 0))] [(0,(.t 9))])),none,0⟩,
⟨(some 11),(.x (.app 41 1 4 (.t 6) (.t 10))),none,0⟩,
mt 3 11])
(.reg [mt 12 0,
oq 13 (bi .quo (.t 12) (.c (.int .u64 (.ofNat 1000000000)))),
mt 0 13]))))))
(.seq (.reg [mt 14 3,
mt 2 14])
.ret))))⟩
theorem row81 : Row Go.Proofs.Tryd.prog (81, a81) := ⟨Go.Proofs.Tryd.f81, Go.Proofs.Tryd.func81, by kernel_rfl⟩
noncomputable def a82 : AFn :=
⟨10,[(.t 2)],(.seq (.reg [oq 2 (.mv (.c (.int .u64 (.ofNat 0))))])
(.seq (.seq (.reg [mt 3 0,
oq 4 (bi .lss (.t 3) (ci 0))])
(.cond (.t 4) (.seq (.reg [mt 5 0,
oq 6 (.conv (.int .u64) (.t 5)),
oq 7 (.un .neg (.t 6)),
mt 2 7])
.ret) .skip))
(.seq (.reg [mt 8 0,
oq 9 (.conv (.int .u64) (.t 8)),
mt 2 9])
.ret)))⟩
theorem row82 : Row Go.Proofs.Tryd.prog (82, a82) := ⟨Go.Proofs.Tryd.f82, Go.Proofs.Tryd.func82, by kernel_rfl⟩
noncomputable def a83 : AFn :=
⟨15,[(.cell 4 true 3)],(.seq (.reg [⟨(some 4),(.a (.alloc 25 [(.bool false),.nilsl,.nilsl])),none,0⟩])
(.seq (.reg [mt 5 0,
oq 6 (bi .lss (.t 5) (ci 0)),
mt 7 1,
oq 8 (bi .lss (.t 7) (ci 0)),
oq 9 (.bin .neq (.p .bool) (.t 6) (.t 8)),
mt 10 0,
oc 11 121 [(.t 10)] 0,
mt 12 1,
oc 13 121 [(.t 12)] 0,
oc 14 84 [(.t 9),(.t 11),(.t 13)] 0,
⟨none,(.x (.st 3 (.t 4) (.t 14))),none,0⟩])
.ret))⟩
theorem row83 : Row Go.Proofs.Tryd.prog (83, a83) := ⟨Go.Proofs.Tryd.f83, Go.Proofs.Tryd.func83, by kernel_rfl⟩
noncomputable def a84 : AFn :=
⟨32,[(.cell 6 true 3)],(.seq (.reg [⟨(some 6),(.a (.alloc 25 [(.bool false),.nilsl,.nilsl])),none,0⟩])
(.seq (.seq (.reg [mt 8 1,
oq 9 (.lenSl (.t 8)),
oq 10 (bi .eql (.t 9) (ci 0))])
(.cond (.t 10) (.seq (.reg [⟨(some 11),(.a (.bslice 41 1 1 [(.int .u32 (.ofNat 0))] [(0,(.c (.int .u32 (.ofNat 1))))])),none,0⟩,
oq 12 (.build [(.bool false),.nilsl,.nilsl] [(2,1,(.t 11))]),
⟨none,(.x (.st 3 (.t 6) (.t 12))),none,0⟩])
.ret) .skip))
(.seq (.reg [mt 13 1,
mt 14 2,
oc 15 77 [(.t 13),(.t 14)] 0,
mt 7 15])
(.seq (.reg [mt 17 1,
mt 18 7,
oc 19 118 [(.t 17),(.t 18)] 0,
mt 16 19,
oq 20 (.extract (.t 16) 0),
oq 21 (.extract (.t 16) 1),
mt 1 20])
(.seq (.reg [mt 23 2,
mt 24 7,
oc 25 118 [(.t 23),(.t 24)] 0,
mt 22 25,
oq 26 (.extract (.t 22) 0),
oq 27 (.extract (.t 22) 1),
mt 2 26])
(.seq (.reg [mt 28 0,
mt 29 1,
mt 30 2,
oq 31 (.build [(.bool false),.nilsl,.nilsl] [(0,1,(.t 28)),(1,1,(.t 29)),(2,1,(.t 30))]),
⟨none,(.x (.st 3 (.t 6) (.t 31))),none,0⟩])
.ret))))))⟩
theorem row84 : Row Go.Proofs.Tryd.prog (84, a84) := ⟨Go.Proofs.Tryd.f84, Go.Proofs.Tryd.func84, by kernel_rfl⟩
noncomputable def a85 : AFn :=
⟨28,[(.cell 2 true 3)],(.seq (.reg [⟨(some 1),(.a (.box 25 (.t 0))),none,0⟩,
⟨(some 2),(.a (.alloc 25 [(.bool false),.nilsl,.nilsl])),none,0⟩])
(.seq (.reg [oq 6 (.faddr 1 (.t 1)),
oq 7 (ld 6),
oq 8 (.faddr 2 (.t 1)),
oq 9 (ld 8),
oc 10 118 [(.t 7),(.t 9)] 0,
mt 5 10,
oq 11 (.extract (.t 5) 0),
oq 12 (.extract (.t 5) 1),
mt 3 11,
mt 4 12])
(.seq (.seq (.reg [oq 13 (.faddr 0 (.t 1)),
oq 14 (ld 13),
mt 15 14,
og 16 15 true 0 (.mv (.t 4)),
og 17 15 true 0 (.lenSl (.t 16)),
og 18 15 true 0 (bi .gtr (.t 17) (ci 0)),
oq 19 (.pick (.t 15) (.t 18) (.c (.bool false)))])
(.cond (.t 19) (.reg [mt 20 3,
⟨(some 21),(.a (.bslice 41 1 1 [(.int .u32 (.ofNat 0))] [(0,(.c (.int .u32 (.ofNat 1))))])),none,0⟩,
oc 22 110 [(.t 20),(.t 21)] 0,
mt 3 22]) .skip))
(.seq (.reg [oq 23 (.faddr 0 (.t 1)),
oq 24 (ld 23),
mt 25 3,
⟨(some 26),(.a (.bslice 41 1 1 [(.int .u32 (.ofNat 0))] [(0,(.c (.int .u32 (.ofNat 1))))])),none,0⟩,
oc 27 84 [(.t 24),(.t 25),(.t 26)] 0,
⟨none,(.x (.st 3 (.t 2) (.t 27))),none,0⟩])
.ret))))⟩
theorem row85 : Row Go.Proofs.Tryd.prog (85, a85) := ⟨Go.Proofs.Tryd.f85, Go.Proofs.Tryd.func85, by kernel_rfl⟩
noncomputable def a86 : AFn :=
⟨7,[(.cell 2 true 3)],(.seq (.reg [⟨(some 1),(.a (.box 25 (.t 0))),none,0⟩,
⟨(some 2),(.a (.alloc 25 [(.bool false),.nilsl,.nilsl])),none,0⟩])
(.seq (.reg [oq 3 (.ld true 3 (.t 1)),
oc 4 69 [(.t 3)] 0,
oc 5 85 [(.t 4)] 0,
oc 6 69 [(.t 5)] 0,
⟨none,(.x (.st 3 (.t 2) (.t 6))),none,0⟩])
.ret))⟩
theorem row86 : Row Go.Proofs.Tryd.prog (86, a86) := ⟨Go.Proofs.Tryd.f86, Go.Proofs.Tryd.func86, by kernel_rfl⟩
noncomputable def a87 : AFn :=
⟨41,[(.t 2),(.t 3)],(.seq (.reg [oq 2 (.mv (.c (.int .u64 (.ofNat 0)))),
oq 3 (.mv (.c (.bool false)))])
(.seq (.seq (.reg [mt 10 0,
oq 11 (.lenSl (.t 10)),
oq 12 (bi .gtr (.t 11) (ci 3))])
(.cond (.t 12) (.seq (.reg [oq 2 (.mv (.c (.int .u64 (.ofNat 0)))),
oq 3 (.mv (.c (.bool false)))])
.ret) .skip))
(.seq (.reg [oq 4 (.mv (.c (.int .u64 (.ofNat 0))))])
(.seq (.seq (.reg [mt 13 0,
oq 14 (.lenSl (.t 13)),
oq 15 (bi .sub (.t 14) (ci 1)),
mt 5 15])
(.block 0 (.loop (.seq (.seq (.reg [mt 16 5,
oq 17 (bi .geq (.t 16) (ci 0))])
(.cond (.t 17) .skip (.exit 0)))
(.seq (.block 1 (.seq (.reg [mt 21 4,
oc 22 122 [(.t 21),(.c (.int .u64 (.ofNat 1000000000)))] 0,
mt 20 22,
oq 23 (.extract (.t 20) 0),
oq 24 (.extract (.t 20) 1),
mt 6 23,
mt 7 24])
(.seq (.reg [mt 26 7,
mt 27 0,
mt 28 5,
oq 29 (.iaddr (.slice 1) (.t 27) (.t 28)),
oq 30 (ld 29),
oq 31 (.conv (.int .u64) (.t 30)),
⟨(some 32),(.x (.ext .add64 [(.t 26),(.t 31),(.c (.int .u64 (.ofNat 0)))])),none,0⟩,
mt 25 32,
oq 33 (.extract (.t 25) 0),
oq 34 (.extract (.t 25) 1),
mt 8 33,
mt 9 34])
(.seq (.seq (.reg [mt 35 6,
mt 36 9,
oq 37 (bi .add (.t 35) (.t 36)),
oq 38 (bi .gtr (.t 37) (.c (.int .u64 (.ofNat 0))))])
(.cond (.t 38) (.seq (.reg [oq 2 (.mv (.c (.int .u64 (.ofNat 0)))),
oq 3 (.mv (.c (.bool false)))])
.ret) .skip))
(.reg [mt 39 8,
mt 4 39])))))
(.reg [mt 18 5,
oq 19 (bi .sub (.t 18) (ci 1)),
mt 5 19]))))))
(.seq (.reg [mt 40 4,
mt 2 40,
oq 3 (.mv (.c (.bool true)))])
.ret)))))⟩
theorem row87 : Row Go.Proofs.Tryd.prog (87, a87) := ⟨Go.Proofs.Tryd.f87, Go.Proofs.Tryd.func87, by kernel_rfl⟩
noncomputable def a88 : AFn :=
⟨41,[(.t 2),(.t 3)],(.seq (.reg [⟨(some 1),(.a (.box 25 (.t 0))),none,0⟩,
oq 2 (.mv (ci 0)),
oq 3 (.mv (ci 0))])
(.seq (.seq (.reg [oq 6 (.faddr 1 (.t 1)),
oq 7 (ld 6),
⟨(some 8),(.a (.bslice 41 1 3 [(.int .u32 (.ofNat 0))] [(0,(.c (.int .u32 (.ofNat 854775808)))),(1,(.c (.int .u32 (.ofNat 223372036)))),(2,(.c (.int .u32 (.ofNat 9))))])),none,0⟩,
oc 9 111 [(.t 7),(.t 8)] 0,
oq 10 (bi .gtr (.t 9) (ci 0))])
(.cond (.t 10) (.seq (.reg [oq 2 (.mv (ci 0)),
oq 3 (.mv (ci 5))])
.ret) .skip))
(.seq (.reg [oq 4 (.mv (ci 0))])
(.seq (.seq (.reg [oq 11 (.faddr 1 (.t 1)),
oq 12 (ld 11),
oq 13 (.lenSl (.t 12)),
oq 14 (bi .sub (.t 13) (ci 1)),
mt 5 14])
(.block 0 (.loop (.seq (.seq (.reg [mt 15 5,
oq 16 (bi .geq (.t 15) (ci 0))])
(.cond (.t 16) .skip (.exit 0)))
(.seq (.block 1 (.reg [mt 19 4,
oq 20 (bi .mul (.t 19) (ci 1000000000)),
oq 21 (.faddr 1 (.t 1)),
oq 22 (ld 21),
mt 23 5,
oq 24 (.iaddr (.slice 1) (.t 22) (.t 23)),
oq 25 (ld 24),
oq 26 (.conv (.int .i64) (.t 25)),
oq 27 (bi .sub (.t 20) (.t 26)),
mt 4 27]))
(.reg [mt 17 5,
oq 18 (bi .sub (.t 17) (ci 1)),
mt 5 18]))))))
(.seq (.seq (.reg [oq 28 (.faddr 0 (.t 1)),
oq 29 (ld 28)])
(.cond (.t 29) (.seq (.reg [mt 30 4,
mt 2 30,
oq 3 (.mv (ci 0))])
.ret) .skip))
(.seq (.seq (.reg [mt 31 4,
mt 32 4,
oq 33 (.un .neg (.t 32)),
oq 34 (bi .eql (.t 31) (.t 33)),
mt 35 34,
og 36 35 true 0 (.mv (.t 4)),
og 37 35 true 0 (bi .neq (.t 36) (ci 0)),
oq 38 (.pick (.t 35) (.t 37) (.c (.bool false)))])
(.cond (.t 38) (.seq (.reg [oq 2 (.mv (ci 0)),
oq 3 (.mv (ci 5))])
.ret) .skip))
(.seq (.reg [mt 39 4,
oq 40 (.un .neg (.t 39)),
mt 2 40,
oq 3 (.mv (ci 0))])
.ret)))))))⟩
theorem row88 : Row Go.Proofs.Tryd.prog (88, a88) := ⟨Go.Proofs.Tryd.f88, Go.Proofs.Tryd.func88, by kernel_rfl⟩
noncomputable def a89 : AFn :=
⟨9,[(.cell 2 true 3)],(.seq (.reg [⟨(some 2),(.a (.alloc 25 [(.bool false),.nilsl,.nilsl])),none,0⟩])
(.seq (.reg [mt 3 0,
oq 4 (bi .lss (.t 3) (ci 0)),
mt 5 0,
oc 6 121 [(.t 5)] 0,
⟨(some 7),(.a (.bslice 41 1 1 [(.int .u32 (.ofNat 0))] [(0,(.c (.int .u32 (.ofNat 1))))])),none,0⟩,
oc 8 84 [(.t 4),(.t 6),(.t 7)] 0,
⟨none,(.x (.st 3 (.t 2) (.t 8))),none,0⟩])
.ret))⟩
theorem row89 : Row Go.Proofs.Tryd.prog (89, a89) := ⟨Go.Proofs.Tryd.f89, Go.Proofs.Tryd.func89, by kernel_rfl⟩
noncomputable def a91 : AFn :=
⟨12,[(.t 2)],(.seq (.reg [oq 2 (.mv (.c (.bool false)))])
(.seq (.reg [mt 3 0,
oq 4 (.lenSl (.t 3)),
oq 5 (bi .eql (.t 4) (ci 1)),
mt 6 5,
og 7 6 true 0 (.mv (.t 0)),
og 8 6 true 0 (.iaddr (.slice 1) (.t 7) (ci 0)),
og 9 6 true 0 (ld 8),
og 10 6 true 0 (bi .eql (.t 9) (.c (.int .u32 (.ofNat 1)))),
oq 11 (.pick (.t 6) (.t 10) (.c (.bool false))),
mt 2 11])
.ret))⟩
theorem row91 : Row Go.Proofs.Tryd.prog (91, a91) := ⟨Go.Proofs.Tryd.f91, Go.Proofs.Tryd.func91, by kernel_rfl⟩
noncomputable def a96 : AFn :=
⟨5,[(.t 2)],(.seq (.reg [oq 2 (.mv (.c .nilsl))])
(.seq (.reg [mt 3 0,
⟨(some 4),(.x (.app 41 1 4 (.c .nilsl) (.t 3))),none,0⟩,
mt 2 4])
.ret))⟩
theorem row96 : Row Go.Proofs.Tryd.prog (96, a96) := ⟨Go.Proofs.Tryd.f96, Go.Proofs.Tryd.func96, by kernel_rfl⟩
noncomputable def a97 : AFn :=
⟨13,[(.t 2)],(.seq (.reg [⟨(some 1),(.a (.box 25 (.t 0))),none,0⟩,
oq 2 (.mv (.c (.bool false)))])
(.seq (.reg [oq 3 (.faddr 1 (.t 1)),
oq 4 (ld 3),
oq 5 (.lenSl (.t 4)),
oq 6 (bi .leq (.t 5) (ci 1024)),
mt 7 6,
og 8 7 true 0 (.faddr 2 (.t 1)),
og 9 7 true 0 (ld 8),
og 10 7 true 0 (.lenSl (.t 9)),
og 11 7 true 0 (bi .leq (.t 10) (ci 1024)),
oq 12 (.pick (.t 7) (.t 11) (.c (.bool false))),
mt 2 12])
.ret))⟩
theorem row97 : Row Go.Proofs.Tryd.prog (97, a97) := ⟨Go.Proofs.Tryd.f97, Go.Proofs.Tryd.func97, by kernel_rfl⟩
noncomputable def a98 : AFn :=
⟨93,[(.t 4),(.t 5)],(.seq (.reg [oq 4 (.mv (.c .nilsl)),
oq 5 (.mv (.c .nilsl))])
(.seq (.seq (.reg [mt 13 0,
mt 14 1,
oc 15 63 [(.t 13),(.t 14)] 0,
oq 16 (bi .lss (.t 15) (ci 0))])
(.cond (.t 16) (.seq (.reg [mt 17 0,
oc 18 96 [(.t 17)] 0,
oq 4 (.mv (.c .nilsl)),
mt 5 18])
.ret) .skip))
(.seq (.seq (.reg [mt 19 1,
oq 20 (.lenSl (.t 19)),
oq 21 (bi .eql (.t 20) (ci 1))])
(.cond (.t 21) (.seq (.reg [mt 23 0,
mt 24 1,
oq 25 (.iaddr (.slice 1) (.t 24) (ci 0)),
oq 26 (ld 25),
oc 27 127 [(.t 23),(.t 26)] 0,
mt 22 27,
oq 28 (.extract (.t 22) 0),
oq 29 (.extract (.t 22) 1),
mt 6 28,
mt 7 29])
(.seq (.reg [mt 30 6,
mt 31 7,
oq 32 (.conv (.int .u64) (.t 31)),
oc 33 81 [(.t 32)] 0,
mt 4 30,
mt 5 33])
.ret)) .skip))
(.seq (.reg [mt 34 1,
oq 35 (.lenSl (.t 34)),
mt 8 35])
(.seq (.reg [mt 36 1,
mt 37 8,
oq 38 (bi .sub (.t 37) (ci 1)),
oq 39 (.iaddr (.slice 1) (.t 36) (.t 38)),
oq 40 (ld 39),
oq 41 (.conv (.int .u64) (.t 40)),
oq 42 (bi .add (.t 41) (.c (.int .u64 (.ofNat 1)))),
oq 43 (bi .quo (.c (.int .u64 (.ofNat 1000000000))) (.t 42)),
mt 9 43])
(.seq (.reg [mt 44 0,
mt 45 9,
mt 46 0,
oq 47 (.lenSl (.t 46)),
oq 48 (bi .add (.t 47) (ci 1)),
oc 49 128 [(.t 44),(.t 45),(.t 48)] 0,
mt 10 49])
(.seq (.reg [mt 50 1,
mt 51 9,
mt 52 8,
oc 53 128 [(.t 50),(.t 51),(.t 52)] 0,
mt 11 53])
(.seq (.reg [mt 54 0,
oq 55 (.lenSl (.t 54)),
mt 56 8,
oq 57 (bi .sub (.t 55) (.t 56)),
oq 58 (bi .add (.t 57) (ci 1)),
⟨(some 59),(.a (.mkSlice 41 1 4 [(.int .u32 (.ofNat 0))] (.t 58) (.t 58))),none,0⟩,
mt 4 59])
(.seq (.seq (.reg [mt 60 0,
oq 61 (.lenSl (.t 60)),
mt 62 8,
oq 63 (bi .sub (.t 61) (.t 62)),
mt 12 63])
(.block 0 (.loop (.seq (.seq (.reg [mt 64 12,
oq 65 (bi .geq (.t 64) (ci 0))])
(.cond (.t 65) .skip (.exit 0)))
(.seq (.block 1 (.reg [mt 68 4,
mt 69 12,
mt 70 10,
mt 71 12,
mt 72 12,
mt 73 8,
oq 74 (bi .add (.t 72) (.t 73)),
oq 75 (bi .add (.t 74) (ci 1)),
oq 76 (.slc (.slice 1) (.t 70) (some (.t 71)) (some (.t 75)) none),
mt 77 11,
oc 78 129 [(.t 76),(.t 77)] 0,
oq 79 (.iaddr (.slice 1) (.t 68) (.t 69)),
⟨none,(.x (.st 1 (.t 79) (.t 78))),none,0⟩]))
(.reg [mt 66 12,
oq 67 (bi .sub (.t 66) (ci 1)),
mt 12 67]))))))
(.seq (.reg [mt 81 10,
mt 82 8,
oq 83 (.slc (.slice 1) (.t 81) none (some (.t 82)) none),
oc 84 103 [(.t 83)] 0,
mt 85 9,
oq 86 (.conv (.int .u32) (.t 85)),
oc 87 127 [(.t 84),(.t 86)] 0,
mt 80 87,
oq 88 (.extract (.t 80) 0),
oq 89 (.extract (.t 80) 1),
mt 5 88])
(.seq (.reg [mt 90 4,
oc 91 103 [(.t 90)] 0,
mt 92 5,
mt 4 91,
mt 5 92])
.ret)))))))))))⟩
theorem row98 : Row Go.Proofs.Tryd.prog (98, a98) := ⟨Go.Proofs.Tryd.f98, Go.Proofs.Tryd.func98, by kernel_rfl⟩
noncomputable def a99 : AFn :=
⟨57,[(.t 4)],(.seq (.reg [oq 4 (.mv (.c .nilsl))])
(.seq (.seq (.reg [mt 10 0,
oq 11 (.lenSl (.t 10)),
mt 12 1,
oq 13 (.lenSl (.t 12)),
oq 14 (bi .lss (.t 11) (.t 13))])
(.cond (.t 14) (.reg [mt 15 1,
mt 16 0,
mt 0 15,
mt 1 16]) .skip))
(.seq (.reg [mt 17 0,
oq 18 (.lenSl (.t 17)),
oq 19 (bi .add (.t 18) (ci 1)),
⟨(some 20),(.a (.mkSlice 41 1 4 [(.int .u32 (.ofNat 0))] (ci 0) (.t 19))),none,0⟩,
mt 5 20])
(.seq (.reg [oq 6 (.mv (.c (.int .u32 (.ofNat 0))))])
(.seq (.seq (.reg [mt 21 0,
oq 22 (.lenSl (.t 21)),
oq 23 (.mv (ci 0))])
(.block 0 (.loop (.seq (.reg [oq 24 (bi .lss (.t 23) (.t 22))])
(.seq (.cond (.t 24) .skip (.exit 0))
(.seq (.block 1 (.seq (.reg [mt 25 23,
oq 26 (.iaddr (.slice 1) (.t 21) (.t 23)),
oq 27 (ld 26),
mt 7 25,
mt 8 27])
(.seq (.reg [mt 28 8,
mt 29 6,
oq 30 (bi .add (.t 28) (.t 29)),
mt 9 30])
(.seq (.seq (.reg [mt 31 7,
mt 32 1,
oq 33 (.lenSl (.t 32)),
oq 34 (bi .lss (.t 31) (.t 33))])
(.cond (.t 34) (.reg [mt 35 9,
mt 36 1,
mt 37 7,
oq 38 (.iaddr (.slice 1) (.t 36) (.t 37)),
oq 39 (ld 38),
oq 40 (bi .add (.t 35) (.t 39)),
mt 9 40]) .skip))
(.seq (.reg [oq 6 (.mv (.c (.int .u32 (.ofNat 0))))])
(.seq (.seq (.reg [mt 41 9,
oq 42 (bi .geq (.t 41) (.c (.int .u32 (.ofNat 1000000000))))])
(.cond (.t 42) (.seq (.reg [mt 43 9,
oq 44 (bi .sub (.t 43) (.c (.int .u32 (.ofNat 1000000000)))),
mt 9 44])
(.reg [oq 6 (.mv (.c (.int .u32 (.ofNat 1))))])) .skip))
(.reg [mt 45 5,
mt 46 9,
⟨(some 47),(.a (.bslice 41 1 1 [(.int .u32 (.ofNat 0))] [(0,(.t 46))])),none,0⟩,
⟨(some 48),(.x (.app 41 1 4 (.t 45) (.t 47))),none,0⟩,
mt 5 48])))))))
(.reg [oq 49 (bi .add (.t 23) (ci 1)),
mt 23 49])))))))
(.seq (.seq (.reg [mt 50 6,
oq 51 (bi .gtr (.t 50) (.c (.int .u32 (.ofNat 0))))])
(.cond (.t 51) (.reg [mt 52 5,
mt 53 6,
⟨(some 54),(.a (.bslice 41 1 1 [(.int .u32 (.ofNat 0))] [(0,(.t 53))])),none,0⟩,
⟨(some 55),(.x (.app 41 1 4 (.t 52) (.t 54))),none,0⟩,
mt 5 55]) .skip))
(.seq (.reg [mt 56 5,
mt 4 56])
.ret)))))))⟩
theorem row99 : Row Go.Proofs.Tryd.prog (99, a99) := ⟨Go.Proofs.Tryd.f99, Go.Proofs.Tryd.func99, by kernel_rfl⟩
end Go.Ev.Gl
