/- Functions of the program as data of the evaluator, written by program; each is shown to be the compiler's result on the loaded function. -/
import Derived.Test.YtmbmidkdinllgaaDoorProg
import Derived.Test.YtmbmidkdinllgaaDoorEv8
import Derived.KernelRfl
namespace Go.Ev.Gl
set_option maxRecDepth 100000
noncomputable def a106 : AFn :=
⟨21,[(.cell 6 true 3)],(.seq (.reg [⟨(some 3),(.a (.box 25 (.t 0))),none,0⟩,
⟨(some 6),(.a (.alloc 25 [(.bool false),.nilsl,.nilsl])),none,0⟩])
(.seq (.seq (.reg [mt 9 2,
oq 10 (.lenSl (.t 9)),
oq 11 (.mv (ci 0))])
(.block 0 (.loop (.seq (.reg [oq 12 (bi .lss (.t 11) (.t 10))])
(.seq (.cond (.t 12) .skip (.exit 0))
(.seq (.block 1 (.seq (.reg [oq 13 (.iaddr (.slice 6) (.t 9) (.t 11)),
oq 14 (.ld true 6 (.t 13)),
⟨(some 8),(.a (.alloc 80 [(.bool false),.nilsl,.nilsl,(.bool false),.nilsl,.nilsl])),none,0⟩,
⟨none,(.x (.st 6 (.t 8) (.t 14))),none,0⟩])
(.reg [mt 15 1,
oq 16 (.ld true 3 (.t 3)),
oq 17 (.ld true 6 (.t 8)),
⟨(some 18),(.x (.call (.t 15) [(.t 16),(.t 17)])),none,0⟩,
⟨none,(.x (.st 3 (.t 3) (.t 18))),none,0⟩])))
(.reg [oq 19 (bi .add (.t 11) (ci 1)),
mt 11 19])))))))
(.seq (.reg [oq 20 (.ld true 3 (.t 3)),
⟨none,(.x (.st 3 (.t 6) (.t 20))),none,0⟩])
.ret)))⟩
theorem row106 : Row Go.Proofs.Tryd.prog (106, a106) := ⟨Go.Proofs.Tryd.f106, Go.Proofs.Tryd.func106, by kernel_rfl⟩
noncomputable def a107 : AFn :=
⟨11,[(.cell 5 true 3)],(.seq (.reg [⟨(some 3),(.a (.box 25 (.t 0))),none,0⟩,
⟨(some 4),(.a (.box 80 (.t 1))),none,0⟩,
⟨(some 5),(.a (.alloc 25 [(.bool false),.nilsl,.nilsl])),none,0⟩])
(.seq (.drw [oq 6 (.ld true 3 (.t 3)),
oq 7 (ld 2),
oq 8 (.ld true 6 (.t 4)),
⟨(some 9),(.x (.call (.t 7) [(.t 8)])),none,6⟩,
oc 10 108 [(.t 6),(.t 9)] 15,
⟨none,(.x (.st 3 (.t 5) (.t 10))),none,31⟩])
.ret))⟩
theorem row107 : Row Go.Proofs.Tryd.prog (107, a107) := ⟨Go.Proofs.Tryd.f107, Go.Proofs.Tryd.func107, by kernel_rfl⟩
noncomputable def a108 : AFn :=
⟨86,[(.cell 4 true 3)],(.seq (.reg [⟨(some 2),(.a (.box 25 (.t 0))),none,0⟩,
⟨(some 3),(.a (.box 25 (.t 1))),none,0⟩,
⟨(some 4),(.a (.alloc 25 [(.bool false),.nilsl,.nilsl])),none,0⟩])
(.seq (.seq (.reg [oq 11 (.faddr 1 (.t 2)),
oq 12 (ld 11),
oq 13 (.lenSl (.t 12)),
oq 14 (bi .eql (.t 13) (ci 0))])
(.cond (.t 14) (.seq (.reg [oq 15 (.ld true 3 (.t 3)),
oc 16 50 [(.t 15)] 0,
⟨none,(.x (.st 3 (.t 4) (.t 16))),none,0⟩])
.ret) .skip))
(.seq (.seq (.reg [oq 17 (.faddr 1 (.t 3)),
oq 18 (ld 17),
oq 19 (.lenSl (.t 18)),
oq 20 (bi .eql (.t 19) (ci 0))])
(.cond (.t 20) (.seq (.reg [oq 21 (.ld true 3 (.t 2)),
oc 22 50 [(.t 21)] 0,
⟨none,(.x (.st 3 (.t 4) (.t 22))),none,0⟩])
.ret) .skip))
(.seq (.seq (.reg [oq 23 (.ld true 3 (.t 2)),
oq 24 (.ld true 3 (.t 3)),
oc 25 130 [(.t 23),(.t 24)] 0])
(.cond (.t 25) (.seq (.reg [oq 26 (.ld true 3 (.t 2)),
oq 27 (.ld true 3 (.t 3)),
oc 28 131 [(.t 26),(.t 27)] 0,
⟨none,(.x (.st 3 (.t 4) (.t 28))),none,0⟩])
.ret) .skip))
(.seq (.reg [oq 29 (.faddr 2 (.t 2)),
oq 30 (ld 29),
oq 31 (.faddr 2 (.t 3)),
oq 32 (ld 31),
oc 33 116 [(.t 30),(.t 32)] 0,
mt 5 33])
(.seq (.drw [oq 34 (.faddr 2 (.t 2)),
om 35 1 (ld 34),
mt 36 5,
oc 37 120 [(.t 35),(.t 36)] 7,
oq 38 (.faddr 2 (.t 3)),
om 39 16 (ld 38),
mt 40 5,
oc 41 120 [(.t 39),(.t 40)] 127,
om 6 255 (.mv (.t 37)),
om 7 511 (.mv (.t 41))])
(.seq (.drw [oq 43 (.faddr 0 (.t 2)),
om 44 1 (ld 43),
oq 45 (.faddr 1 (.t 2)),
om 46 4 (ld 45),
mt 47 7,
oc 48 64 [(.t 46),(.t 47)] 28,
oq 49 (.faddr 0 (.t 3)),
om 50 64 (ld 49),
oq 51 (.faddr 1 (.t 3)),
om 52 256 (ld 51),
mt 53 6,
oc 54 64 [(.t 52),(.t 53)] 1852,
oc 55 132 [(.t 44),(.t 48),(.t 50),(.t 54)] 4095,
om 42 8191 (.mv (.t 55)),
om 56 16383 (.extract (.t 42) 0),
om 57 16383 (.extract (.t 42) 1),
om 8 32767 (.mv (.t 56)),
om 9 131071 (.mv (.t 57))])
(.seq (.seq (.reg [mt 58 9,
oq 59 (.lenSl (.t 58)),
oq 60 (bi .eql (.t 59) (ci 0))])
(.cond (.t 60) (.seq (.reg [oc 61 55 [] 0,
⟨none,(.x (.st 3 (.t 4) (.t 61))),none,0⟩])
.ret) .skip))
(.seq (.seq (.reg [mt 62 5,
oc 63 91 [(.t 62)] 0])
(.cond (.t 63) (.seq (.reg [mt 64 8,
mt 65 9,
oq 66 (.faddr 2 (.t 2)),
oq 67 (ld 66),
oq 68 (.faddr 2 (.t 3)),
oq 69 (ld 68),
oc 70 64 [(.t 67),(.t 69)] 0,
oq 71 (.build [(.bool false),.nilsl,.nilsl] [(0,1,(.t 64)),(1,1,(.t 65)),(2,1,(.t 70))]),
⟨none,(.x (.st 3 (.t 4) (.t 71))),none,0⟩])
.ret) .skip))
(.seq (.reg [mt 72 9,
mt 73 5,
oc 74 116 [(.t 72),(.t 73)] 0,
mt 10 74])
(.seq (.drw [mt 75 8,
mt 76 9,
mt 77 10,
oc 78 120 [(.t 76),(.t 77)] 6,
mt 79 6,
oq 80 (.faddr 2 (.t 3)),
om 81 32 (ld 80),
mt 82 10,
oc 83 120 [(.t 81),(.t 82)] 238,
oc 84 64 [(.t 79),(.t 83)] 510,
om 85 1023 (.build [(.bool false),.nilsl,.nilsl] [(0,1,(.t 75)),(1,1,(.t 78)),(2,1,(.t 84))]),
⟨none,(.x (.st 3 (.t 4) (.t 85))),none,2047⟩])
.ret)))))))))))⟩
theorem row108 : Row Go.Proofs.Tryd.prog (108, a108) := ⟨Go.Proofs.Tryd.f108, Go.Proofs.Tryd.func108, by kernel_rfl⟩
noncomputable def a113 : AFn :=
⟨29,[(.t 2)],(.seq (.reg [oq 2 (.mv (ci 0))])
(.seq (.seq (.reg [mt 5 0,
oq 6 (.lenSl (.t 5)),
oq 7 (bi .gtr (.t 6) (ci 1024))])
(.cond (.t 7) (.seq (.reg [oq 2 (.mv (ci 4))])
.ret) .skip))
(.seq (.seq (.reg [mt 8 0,
oq 9 (.lenSl (.t 8)),
oq 10 (.mv (ci 0))])
(.block 0 (.loop (.seq (.reg [oq 11 (bi .lss (.t 10) (.t 9))])
(.seq (.cond (.t 11) .skip (.exit 0))
(.seq (.block 1 (.seq (.reg [oq 12 (.iaddr (.slice 1) (.t 8) (.t 10)),
oq 13 (ld 12),
mt 4 13])
(.seq (.reg [mt 14 4,
oq 15 (bi .geq (.t 14) (.c (.int .u32 (.ofNat 1000000000))))])
(.cond (.t 15) (.seq (.reg [oq 2 (.mv (ci 3))])
.ret) .skip))))
(.reg [oq 16 (bi .add (.t 10) (ci 1)),
mt 10 16])))))))
(.seq (.seq (.reg [mt 17 0,
oq 18 (.lenSl (.t 17)),
oq 19 (bi .gtr (.t 18) (ci 0)),
mt 20 19,
og 21 20 true 0 (.mv (.t 0)),
og 22 20 true 0 (.mv (.t 0)),
og 23 20 true 0 (.lenSl (.t 22)),
og 24 20 true 0 (bi .sub (.t 23) (ci 1)),
og 25 20 true 0 (.iaddr (.slice 1) (.t 21) (.t 24)),
og 26 20 true 0 (ld 25),
og 27 20 true 0 (bi .eql (.t 26) (.c (.int .u32 (.ofNat 0)))),
oq 28 (.pick (.t 20) (.t 27) (.c (.bool false)))])
(.cond (.t 28) (.seq (.reg [oq 2 (.mv (ci 3))])
.ret) .skip))
(.seq (.reg [oq 2 (.mv (ci 0))])
.ret)))))⟩
theorem row113 : Row Go.Proofs.Tryd.prog (113, a113) := ⟨Go.Proofs.Tryd.f113, Go.Proofs.Tryd.func113, by kernel_rfl⟩
noncomputable def a114 : AFn :=
⟨37,[(.t 4)],(.seq (.reg [oq 4 (.mv (.c (.int .u64 (.ofNat 0))))])
(.seq (.seq (.reg [mt 6 0,
oq 7 (bi .eql (.t 6) (.c (.int .u64 (.ofNat 0))))])
(.cond (.t 7) (.seq (.reg [mt 8 1,
mt 4 8])
.ret) .skip))
(.seq (.seq (.reg [mt 9 1,
oq 10 (bi .eql (.t 9) (.c (.int .u64 (.ofNat 0))))])
(.cond (.t 10) (.seq (.reg [mt 11 0,
mt 4 11])
.ret) .skip))
(.seq (.reg [mt 12 0,
mt 13 1,
oq 14 (bi .or (.t 12) (.t 13)),
oc 15 134 [(.t 14)] 0,
mt 5 15])
(.seq (.reg [mt 16 0,
mt 17 0,
oc 18 134 [(.t 17)] 0,
oq 19 (bi .shr (.t 16) (.t 18)),
mt 0 19])
(.seq (.block 0 (.loop (.seq (.seq (.reg [mt 20 1,
oq 21 (bi .neq (.t 20) (.c (.int .u64 (.ofNat 0))))])
(.cond (.t 21) .skip (.exit 0)))
(.block 1 (.seq (.reg [mt 22 1,
mt 23 1,
oc 24 134 [(.t 23)] 0,
oq 25 (bi .shr (.t 22) (.t 24)),
mt 1 25])
(.seq (.seq (.reg [mt 26 0,
mt 27 1,
oq 28 (bi .gtr (.t 26) (.t 27))])
(.cond (.t 28) (.reg [mt 29 1,
mt 30 0,
mt 0 29,
mt 1 30]) .skip))
(.reg [mt 31 1,
mt 32 0,
oq 33 (bi .sub (.t 31) (.t 32)),
mt 1 33])))))))
(.seq (.reg [mt 34 0,
mt 35 5,
oq 36 (bi .shl (.t 34) (.t 35)),
mt 4 36])
.ret)))))))⟩
theorem row114 : Row Go.Proofs.Tryd.prog (114, a114) := ⟨Go.Proofs.Tryd.f114, Go.Proofs.Tryd.func114, by kernel_rfl⟩
noncomputable def a115 : AFn :=
⟨21,[(.t 2)],(.seq (.reg [oq 2 (.mv (.c (.int .u64 (.ofNat 0))))])
(.seq (.reg [oq 3 (.mv (.c (.int .u64 (.ofNat 0))))])
(.seq (.seq (.reg [mt 5 0,
oq 6 (.lenSl (.t 5)),
oq 7 (bi .sub (.t 6) (ci 1)),
mt 4 7])
(.block 0 (.loop (.seq (.seq (.reg [mt 8 4,
oq 9 (bi .geq (.t 8) (ci 0))])
(.cond (.t 9) .skip (.exit 0)))
(.seq (.block 1 (.reg [mt 12 3,
oq 13 (bi .mul (.t 12) (.c (.int .u64 (.ofNat 1000000000)))),
mt 14 0,
mt 15 4,
oq 16 (.iaddr (.slice 1) (.t 14) (.t 15)),
oq 17 (ld 16),
oq 18 (.conv (.int .u64) (.t 17)),
oq 19 (bi .add (.t 13) (.t 18)),
mt 3 19]))
(.reg [mt 10 4,
oq 11 (bi .sub (.t 10) (ci 1)),
mt 4 11]))))))
(.seq (.reg [mt 20 3,
mt 2 20])
.ret))))⟩
theorem row115 : Row Go.Proofs.Tryd.prog (115, a115) := ⟨Go.Proofs.Tryd.f115, Go.Proofs.Tryd.func115, by kernel_rfl⟩
noncomputable def a116 : AFn :=
⟨91,[(.t 4)],(.seq (.reg [oq 4 (.mv (.c .nilsl))])
(.seq (.seq (.reg [mt 13 0,
oq 14 (.lenSl (.t 13)),
oq 15 (bi .leq (.t 14) (ci 2)),
mt 16 15,
og 17 16 true 0 (.mv (.t 1)),
og 18 16 true 0 (.lenSl (.t 17)),
og 19 16 true 0 (bi .leq (.t 18) (ci 2)),
oq 20 (.pick (.t 16) (.t 19) (.c (.bool false)))])
(.cond (.t 20) (.seq (.reg [mt 21 0,
oc 22 115 [(.t 21)] 0,
mt 23 1,
oc 24 115 [(.t 23)] 0,
oc 25 114 [(.t 22),(.t 24)] 0,
oc 26 81 [(.t 25)] 0,
mt 4 26])
.ret) .skip))
(.seq (.seq (.reg [mt 27 0,
oc 28 91 [(.t 27)] 0,
mt 29 28,
og 30 29 false 0 (.mv (.t 1)),
⟨(some 31),(.x (.call (.c (.fn 91 [] [])) [(.t 30)])),(some (29,false)),0⟩,
oq 32 (.pick (.t 29) (.c (.bool true)) (.t 31))])
(.cond (.t 32) (.seq (.reg [oc 33 66 [] 0,
mt 4 33])
.ret) .skip))
(.seq (.seq (.reg [mt 34 0,
mt 35 1,
oc 36 63 [(.t 34),(.t 35)] 0,
oq 37 (bi .lss (.t 36) (ci 0))])
(.cond (.t 37) (.reg [mt 38 1,
mt 39 0,
mt 0 38,
mt 1 39]) .skip))
(.seq (.block 0 (.loop (.seq (.seq (.reg [mt 40 1,
oq 41 (.lenSl (.t 40)),
oq 42 (bi .gtr (.t 41) (ci 2))])
(.cond (.t 42) .skip (.exit 0)))
(.block 1 (.seq (.reg [mt 44 0,
mt 45 1,
oc 46 136 [(.t 44),(.t 45)] 0,
oq 47 (.extract (.t 46) 0),
oq 48 (.extract (.t 46) 1),
oc 49 135 [(.t 47),(.t 48)] 0,
mt 43 49,
oq 50 (.extract (.t 43) 0),
oq 51 (.extract (.t 43) 1),
oq 52 (.extract (.t 43) 2),
oq 53 (.extract (.t 43) 3),
mt 5 50,
mt 6 51,
mt 7 52,
mt 8 53])
(.seq (.seq (.reg [mt 54 6,
oq 55 (bi .eql (.t 54) (ci 0))])
(.cond (.t 55) (.seq (.reg [mt 57 0,
mt 58 1,
oc 59 98 [(.t 57),(.t 58)] 0,
mt 56 59,
oq 60 (.extract (.t 56) 0),
oq 61 (.extract (.t 56) 1),
mt 9 60,
mt 10 61])
(.seq (.reg [mt 62 1,
mt 63 10,
mt 0 62,
mt 1 63])
(.exit 1))) .skip))
(.reg [mt 64 0,
mt 65 1,
mt 66 5,
mt 67 6,
oc 68 137 [(.t 64),(.t 65),(.t 66),(.t 67)] 0,
mt 69 0,
mt 70 1,
mt 71 7,
mt 72 8,
oc 73 137 [(.t 69),(.t 70),(.t 71),(.t 72)] 0,
mt 0 68,
mt 1 73])))))))
(.seq (.seq (.reg [mt 74 1,
oq 75 (.lenSl (.t 74)),
oq 76 (bi .eql (.t 75) (ci 0))])
(.cond (.t 76) (.seq (.reg [mt 77 0,
oc 78 96 [(.t 77)] 0,
mt 4 78])
.ret) .skip))
(.seq (.reg [mt 80 0,
mt 81 1,
oc 82 98 [(.t 80),(.t 81)] 0,
mt 79 82,
oq 83 (.extract (.t 79) 0),
oq 84 (.extract (.t 79) 1),
mt 11 83,
mt 12 84])
(.seq (.reg [mt 85 1,
oc 86 115 [(.t 85)] 0,
mt 87 12,
oc 88 115 [(.t 87)] 0,
oc 89 114 [(.t 86),(.t 88)] 0,
oc 90 81 [(.t 89)] 0,
mt 4 90])
.ret))))))))⟩
theorem row116 : Row Go.Proofs.Tryd.prog (116, a116) := ⟨Go.Proofs.Tryd.f116, Go.Proofs.Tryd.func116, by kernel_rfl⟩
noncomputable def a119 : AFn :=
⟨21,[(.cell 6 true 3)],(.seq (.reg [⟨(some 6),(.a (.alloc 25 [(.bool false),.nilsl,.nilsl])),none,0⟩])
(.seq (.reg [mt 8 1,
mt 9 2,
oc 10 114 [(.t 8),(.t 9)] 0,
mt 7 10])
(.seq (.drw [mt 11 0,
mt 12 1,
mt 13 7,
om 14 6 (bi .quo (.t 12) (.t 13)),
oc 15 81 [(.t 14)] 14,
mt 16 2,
mt 17 7,
om 18 96 (bi .quo (.t 16) (.t 17)),
oc 19 81 [(.t 18)] 254,
om 20 511 (.build [(.bool false),.nilsl,.nilsl] [(0,1,(.t 11)),(1,1,(.t 15)),(2,1,(.t 19))]),
⟨none,(.x (.st 3 (.t 6) (.t 20))),none,1023⟩])
.ret)))⟩
theorem row119 : Row Go.Proofs.Tryd.prog (119, a119) := ⟨Go.Proofs.Tryd.f119, Go.Proofs.Tryd.func119, by kernel_rfl⟩
noncomputable def a120 : AFn :=
⟨17,[(.t 4)],(.seq (.reg [oq 4 (.mv (.c .nilsl))])
(.seq (.seq (.reg [mt 7 1,
oc 8 91 [(.t 7)] 0])
(.cond (.t 8) (.seq (.reg [mt 9 0,
mt 4 9])
.ret) .skip))
(.seq (.reg [mt 11 0,
mt 12 1,
oc 13 98 [(.t 11),(.t 12)] 0,
mt 10 13,
oq 14 (.extract (.t 10) 0),
oq 15 (.extract (.t 10) 1),
mt 5 14,
mt 6 15])
(.seq (.reg [mt 16 5,
mt 4 16])
.ret))))⟩
theorem row120 : Row Go.Proofs.Tryd.prog (120, a120) := ⟨Go.Proofs.Tryd.f120, Go.Proofs.Tryd.func120, by kernel_rfl⟩
noncomputable def a124 : AFn :=
⟨9,[(.t 4)],(.seq (.reg [oq 4 (.mv (.c (.bool false)))])
(.seq (.reg [mt 5 0,
mt 6 1,
oc 7 139 [(.t 5),(.t 6)] 0,
oq 8 (bi .geq (.t 7) (ci 0)),
mt 4 8])
.ret))⟩
theorem row124 : Row Go.Proofs.Tryd.prog (124, a124) := ⟨Go.Proofs.Tryd.f124, Go.Proofs.Tryd.func124, by kernel_rfl⟩
noncomputable def a125 : AFn :=
⟨23,[(.t 4),(.t 5),(.t 6)],(.seq (.reg [oq 4 (.mv (.c (.str []))),
oq 5 (.mv (.c (.str []))),
oq 6 (.mv (.c (.bool false)))])
(.seq (.seq (.reg [mt 8 0,
mt 9 1,
oc 10 140 [(.t 8),(.t 9)] 0,
mt 7 10])
(.seq (.reg [mt 11 7,
oq 12 (bi .geq (.t 11) (ci 0))])
(.cond (.t 12) (.seq (.drw [mt 13 0,
mt 14 7,
om 15 3 (.slc .str (.t 13) none (some (.t 14)) none),
mt 16 0,
mt 17 7,
mt 18 1,
om 19 32 (.lenStr (.t 18)),
om 20 112 (bi .add (.t 17) (.t 19)),
om 21 248 (.slc .str (.t 16) (some (.t 20)) none none),
om 4 7 (.mv (.t 15)),
om 5 1023 (.mv (.t 21)),
om 6 2047 (.mv (.c (.bool true)))])
.ret) .skip)))
(.seq (.reg [mt 22 0,
mt 4 22,
oq 5 (.mv (.c (.str []))),
oq 6 (.mv (.c (.bool false)))])
.ret)))⟩
theorem row125 : Row Go.Proofs.Tryd.prog (125, a125) := ⟨Go.Proofs.Tryd.f125, Go.Proofs.Tryd.func125, by kernel_rfl⟩
noncomputable def a126 : AFn :=
⟨15,[(.t 4),(.t 5)],(.seq (.reg [oq 4 (.mv (.c (.str []))),
oq 5 (.mv (.c (.bool false)))])
(.seq (.seq (.reg [mt 6 0,
mt 7 1,
oc 8 141 [(.t 6),(.t 7)] 0,
oq 9 (.un .not (.t 8))])
(.cond (.t 9) (.seq (.reg [mt 10 0,
mt 4 10,
oq 5 (.mv (.c (.bool false)))])
.ret) .skip))
(.seq (.reg [mt 11 0,
mt 12 1,
oq 13 (.lenStr (.t 12)),
oq 14 (.slc .str (.t 11) (some (.t 13)) none none),
mt 4 14,
oq 5 (.mv (.c (.bool true)))])
.ret)))⟩
theorem row126 : Row Go.Proofs.Tryd.prog (126, a126) := ⟨Go.Proofs.Tryd.f126, Go.Proofs.Tryd.func126, by kernel_rfl⟩
noncomputable def a127 : AFn :=
⟨44,[(.t 4),(.t 5)],(.seq (.reg [oq 4 (.mv (.c .nilsl)),
oq 5 (.mv (.c (.int .u32 (.ofNat 0))))])
(.seq (.reg [mt 10 0,
oq 11 (.lenSl (.t 10)),
⟨(some 12),(.a (.mkSlice 41 1 4 [(.int .u32 (.ofNat 0))] (.t 11) (.t 11))),none,0⟩,
mt 6 12])
(.seq (.reg [oq 7 (.mv (.c (.int .u64 (.ofNat 0))))])
(.seq (.seq (.reg [mt 13 0,
oq 14 (.lenSl (.t 13)),
oq 15 (bi .sub (.t 14) (ci 1)),
mt 8 15])
(.block 0 (.loop (.seq (.seq (.reg [mt 16 8,
oq 17 (bi .geq (.t 16) (ci 0))])
(.cond (.t 17) .skip (.exit 0)))
(.seq (.block 1 (.seq (.reg [mt 20 7,
oq 21 (bi .mul (.t 20) (.c (.int .u64 (.ofNat 1000000000)))),
mt 22 0,
mt 23 8,
oq 24 (.iaddr (.slice 1) (.t 22) (.t 23)),
oq 25 (ld 24),
oq 26 (.conv (.int .u64) (.t 25)),
oq 27 (bi .add (.t 21) (.t 26)),
mt 9 27])
(.seq (.reg [mt 28 6,
mt 29 8,
mt 30 9,
mt 31 1,
oq 32 (.conv (.int .u64) (.t 31)),
oq 33 (bi .quo (.t 30) (.t 32)),
oq 34 (.conv (.int .u32) (.t 33)),
oq 35 (.iaddr (.slice 1) (.t 28) (.t 29)),
⟨none,(.x (.st 1 (.t 35) (.t 34))),none,0⟩])
(.reg [mt 36 9,
mt 37 1,
oq 38 (.conv (.int .u64) (.t 37)),
oq 39 (bi .rem (.t 36) (.t 38)),
mt 7 39]))))
(.reg [mt 18 8,
oq 19 (bi .sub (.t 18) (ci 1)),
mt 8 19]))))))
(.seq (.reg [mt 40 6,
oc 41 103 [(.t 40)] 0,
mt 42 7,
oq 43 (.conv (.int .u32) (.t 42)),
mt 4 41,
mt 5 43])
.ret)))))⟩
theorem row127 : Row Go.Proofs.Tryd.prog (127, a127) := ⟨Go.Proofs.Tryd.f127, Go.Proofs.Tryd.func127, by kernel_rfl⟩
noncomputable def a128 : AFn :=
⟨40,[(.t 6)],(.seq (.reg [oq 6 (.mv (.c .nilsl))])
(.seq (.reg [mt 10 2,
⟨(some 11),(.a (.mkSlice 41 1 4 [(.int .u32 (.ofNat 0))] (.t 10) (.t 10))),none,0⟩,
mt 7 11])
(.seq (.reg [oq 8 (.mv (.c (.int .u64 (.ofNat 0))))])
(.seq (.seq (.reg [mt 12 7,
oq 13 (.lenSl (.t 12)),
oq 14 (.mv (ci 0))])
(.block 0 (.loop (.seq (.reg [oq 15 (bi .lss (.t 14) (.t 13))])
(.seq (.cond (.t 15) .skip (.exit 0))
(.seq (.block 1 (.seq (.reg [mt 16 14,
mt 9 16])
(.seq (.seq (.reg [mt 17 9,
mt 18 0,
oq 19 (.lenSl (.t 18)),
oq 20 (bi .lss (.t 17) (.t 19))])
(.cond (.t 20) (.reg [mt 21 8,
mt 22 0,
mt 23 9,
oq 24 (.iaddr (.slice 1) (.t 22) (.t 23)),
oq 25 (ld 24),
oq 26 (.conv (.int .u64) (.t 25)),
mt 27 1,
oq 28 (bi .mul (.t 26) (.t 27)),
oq 29 (bi .add (.t 21) (.t 28)),
mt 8 29]) .skip))
(.seq (.reg [mt 30 7,
mt 31 9,
mt 32 8,
oq 33 (bi .rem (.t 32) (.c (.int .u64 (.ofNat 1000000000)))),
oq 34 (.conv (.int .u32) (.t 33)),
oq 35 (.iaddr (.slice 1) (.t 30) (.t 31)),
⟨none,(.x (.st 1 (.t 35) (.t 34))),none,0⟩])
(.reg [mt 36 8,
oq 37 (bi .quo (.t 36) (.c (.int .u64 (.ofNat 1000000000)))),
mt 8 37])))))
(.reg [oq 38 (bi .add (.t 14) (ci 1)),
mt 14 38])))))))
(.seq (.reg [mt 39 7,
mt 6 39])
.ret)))))⟩
theorem row128 : Row Go.Proofs.Tryd.prog (128, a128) := ⟨Go.Proofs.Tryd.f128, Go.Proofs.Tryd.func128, by kernel_rfl⟩
noncomputable def a129 : AFn :=
⟨159,[(.t 4)],(.seq (.reg [oq 4 (.mv (.c (.int .u32 (.ofNat 0))))])
(.seq (.reg [mt 18 1,
oq 19 (.lenSl (.t 18)),
mt 5 19])
(.seq (.drw [mt 20 0,
mt 21 5,
om 22 3 (.iaddr (.slice 1) (.t 20) (.t 21)),
om 23 7 (ld 22),
om 24 15 (.conv (.int .u64) (.t 23)),
om 25 31 (bi .mul (.t 24) (.c (.int .u64 (.ofNat 1000000000)))),
mt 26 0,
mt 27 5,
om 28 128 (bi .sub (.t 27) (ci 1)),
om 29 448 (.iaddr (.slice 1) (.t 26) (.t 28)),
om 30 960 (ld 29),
om 31 1984 (.conv (.int .u64) (.t 30)),
om 32 4095 (bi .add (.t 25) (.t 31)),
om 6 8191 (.mv (.t 32))])
(.seq (.drw [mt 33 6,
mt 34 1,
mt 35 5,
om 36 4 (bi .sub (.t 35) (ci 1)),
om 37 14 (.iaddr (.slice 1) (.t 34) (.t 36)),
om 38 30 (ld 37),
om 39 62 (.conv (.int .u64) (.t 38)),
om 40 127 (bi .quo (.t 33) (.t 39)),
mt 41 6,
mt 42 1,
mt 43 5,
om 44 1024 (bi .sub (.t 43) (ci 1)),
om 45 3584 (.iaddr (.slice 1) (.t 42) (.t 44)),
om 46 7680 (ld 45),
om 47 15872 (.conv (.int .u64) (.t 46)),
om 48 32512 (bi .rem (.t 41) (.t 47)),
om 7 255 (.mv (.t 40)),
om 8 131071 (.mv (.t 48))])
(.seq (.block 0 (.loop (.seq (.seq (.drw [mt 49 8,
om 50 1 (bi .lss (.t 49) (.c (.int .u64 (.ofNat 1000000000)))),
om 51 3 (.mv (.t 50)),
og 52 51 true 7 (.mv (.t 7)),
og 53 51 true 15 (bi .geq (.t 52) (.c (.int .u64 (.ofNat 1000000000)))),
og 54 51 true 31 (.mv (.t 53)),
og 55 54 false 63 (.mv (.t 7)),
og 56 54 false 63 (.mv (.t 1)),
og 57 54 false 63 (.mv (.t 5)),
og 58 54 false 319 (bi .sub (.t 57) (ci 2)),
og 59 54 false 959 (.iaddr (.slice 1) (.t 56) (.t 58)),
og 60 54 false 1983 (ld 59),
og 61 54 false 4031 (.conv (.int .u64) (.t 60)),
og 62 54 false 8191 (bi .mul (.t 55) (.t 61)),
og 63 54 false 63 (.mv (.t 8)),
og 64 54 false 16447 (bi .mul (.t 63) (.c (.int .u64 (.ofNat 1000000000)))),
og 65 54 false 63 (.mv (.t 0)),
og 66 54 false 63 (.mv (.t 5)),
og 67 54 false 131135 (bi .sub (.t 66) (ci 2)),
og 68 54 false 458815 (.iaddr (.slice 1) (.t 65) (.t 67)),
og 69 54 false 983103 (ld 68),
og 70 54 false 2031679 (.conv (.int .u64) (.t 69)),
og 71 54 false 4177983 (bi .add (.t 64) (.t 70)),
og 72 54 false 8388607 (bi .gtr (.t 62) (.t 71)),
og 73 51 true 16777215 (.pick (.t 54) (.c (.bool true)) (.t 72)),
om 74 33554431 (.pick (.t 51) (.t 73) (.c (.bool false)))])
(.cond (.t 74) .skip (.exit 0)))
(.block 1 (.seq (.reg [mt 75 7,
oq 76 (bi .sub (.t 75) (.c (.int .u64 (.ofNat 1)))),
mt 7 76])
(.reg [mt 77 8,
mt 78 1,
mt 79 5,
oq 80 (bi .sub (.t 79) (ci 1)),
oq 81 (.iaddr (.slice 1) (.t 78) (.t 80)),
oq 82 (ld 81),
oq 83 (.conv (.int .u64) (.t 82)),
oq 84 (bi .add (.t 77) (.t 83)),
mt 8 84]))))))
(.seq (.reg [oq 9 (.mv (.c (.int .u64 (.ofNat 0))))])
(.seq (.seq (.reg [mt 85 1,
oq 86 (.lenSl (.t 85)),
oq 87 (.mv (ci 0))])
(.block 2 (.loop (.seq (.reg [oq 88 (bi .lss (.t 87) (.t 86))])
(.seq (.cond (.t 88) .skip (.exit 2))
(.seq (.block 3 (.seq (.reg [mt 89 87,
oq 90 (.iaddr (.slice 1) (.t 85) (.t 87)),
oq 91 (ld 90),
mt 10 89,
mt 11 91])
(.seq (.reg [mt 92 7,
mt 93 11,
oq 94 (.conv (.int .u64) (.t 93)),
oq 95 (bi .mul (.t 92) (.t 94)),
mt 96 9,
oq 97 (bi .add (.t 95) (.t 96)),
mt 12 97])
(.seq (.reg [mt 98 12,
oq 99 (bi .quo (.t 98) (.c (.int .u64 (.ofNat 1000000000)))),
mt 9 99])
(.seq (.reg [mt 100 0,
mt 101 10,
oq 102 (.iaddr (.slice 1) (.t 100) (.t 101)),
oq 103 (ld 102),
oq 104 (.conv (.int .i64) (.t 103)),
mt 105 12,
oq 106 (bi .rem (.t 105) (.c (.int .u64 (.ofNat 1000000000)))),
oq 107 (.conv (.int .i64) (.t 106)),
oq 108 (bi .sub (.t 104) (.t 107)),
mt 13 108])
(.seq (.seq (.reg [mt 109 13,
oq 110 (bi .lss (.t 109) (ci 0))])
(.cond (.t 110) (.seq (.reg [mt 111 13,
oq 112 (bi .add (.t 111) (ci 1000000000)),
mt 13 112])
(.reg [mt 113 9,
oq 114 (bi .add (.t 113) (.c (.int .u64 (.ofNat 1)))),
mt 9 114])) .skip))
(.reg [mt 115 0,
mt 116 10,
mt 117 13,
oq 118 (.conv (.int .u32) (.t 117)),
oq 119 (.iaddr (.slice 1) (.t 115) (.t 116)),
⟨none,(.x (.st 1 (.t 119) (.t 118))),none,0⟩])))))))
(.reg [oq 120 (bi .add (.t 87) (ci 1)),
mt 87 120])))))))
(.seq (.seq (.reg [mt 121 0,
mt 122 5,
oq 123 (.iaddr (.slice 1) (.t 121) (.t 122)),
oq 124 (ld 123),
oq 125 (.conv (.int .u64) (.t 124)),
mt 126 9,
oq 127 (bi .lss (.t 125) (.t 126))])
(.cond (.t 127) (.seq (.reg [mt 128 7,
oq 129 (bi .sub (.t 128) (.c (.int .u64 (.ofNat 1)))),
mt 7 129])
(.seq (.reg [oq 14 (.mv (.c (.int .u32 (.ofNat 0))))])
(.seq (.reg [mt 130 1,
oq 131 (.lenSl (.t 130)),
oq 132 (.mv (ci 0))])
(.block 4 (.loop (.seq (.reg [oq 133 (bi .lss (.t 132) (.t 131))])
(.seq (.cond (.t 133) .skip (.exit 4))
(.seq (.block 5 (.seq (.reg [mt 134 132,
oq 135 (.iaddr (.slice 1) (.t 130) (.t 132)),
oq 136 (ld 135),
mt 15 134,
mt 16 136])
(.seq (.reg [mt 137 0,
mt 138 15,
oq 139 (.iaddr (.slice 1) (.t 137) (.t 138)),
oq 140 (ld 139),
mt 141 16,
oq 142 (bi .add (.t 140) (.t 141)),
mt 143 14,
oq 144 (bi .add (.t 142) (.t 143)),
mt 17 144])
(.seq (.reg [oq 14 (.mv (.c (.int .u32 (.ofNat 0))))])
(.seq (.seq (.reg [mt 145 17,
oq 146 (bi .geq (.t 145) (.c (.int .u32 (.ofNat 1000000000))))])
(.cond (.t 146) (.seq (.reg [mt 147 17,
oq 148 (bi .sub (.t 147) (.c (.int .u32 (.ofNat 1000000000)))),
mt 17 148])
(.reg [oq 14 (.mv (.c (.int .u32 (.ofNat 1))))])) .skip))
(.reg [mt 149 0,
mt 150 15,
mt 151 17,
oq 152 (.iaddr (.slice 1) (.t 149) (.t 150)),
⟨none,(.x (.st 1 (.t 152) (.t 151))),none,0⟩]))))))
(.reg [oq 153 (bi .add (.t 132) (ci 1)),
mt 132 153]))))))))) .skip))
(.seq (.reg [mt 154 0,
mt 155 5,
oq 156 (.iaddr (.slice 1) (.t 154) (.t 155)),
⟨none,(.x (.st 1 (.t 156) (.c (.int .u32 (.ofNat 0))))),none,0⟩])
(.seq (.reg [mt 157 7,
oq 158 (.conv (.int .u32) (.t 157)),
mt 4 158])
.ret))))))))))⟩
theorem row129 : Row Go.Proofs.Tryd.prog (129, a129) := ⟨Go.Proofs.Tryd.f129, Go.Proofs.Tryd.func129, by kernel_rfl⟩
noncomputable def a130 : AFn :=
⟨27,[(.t 4)],(.seq (.reg [⟨(some 2),(.a (.box 25 (.t 0))),none,0⟩,
⟨(some 3),(.a (.box 25 (.t 1))),none,0⟩,
oq 4 (.mv (.c (.bool false)))])
(.seq (.reg [oq 5 (.faddr 1 (.t 2)),
oq 6 (ld 5),
oq 7 (.lenSl (.t 6)),
oq 8 (bi .eql (.t 7) (ci 1)),
mt 9 8,
og 10 9 true 0 (.faddr 2 (.t 2)),
og 11 9 true 0 (ld 10),
og 12 9 true 0 (.lenSl (.t 11)),
og 13 9 true 0 (bi .eql (.t 12) (ci 1)),
oq 14 (.pick (.t 9) (.t 13) (.c (.bool false))),
mt 15 14,
og 16 15 true 0 (.faddr 1 (.t 3)),
og 17 15 true 0 (ld 16),
og 18 15 true 0 (.lenSl (.t 17)),
og 19 15 true 0 (bi .eql (.t 18) (ci 1)),
oq 20 (.pick (.t 15) (.t 19) (.c (.bool false))),
mt 21 20,
og 22 21 true 0 (.faddr 2 (.t 3)),
og 23 21 true 0 (ld 22),
og 24 21 true 0 (.lenSl (.t 23)),
og 25 21 true 0 (bi .eql (.t 24) (ci 1)),
oq 26 (.pick (.t 21) (.t 25) (.c (.bool false))),
mt 4 26])
.ret))⟩
theorem row130 : Row Go.Proofs.Tryd.prog (130, a130) := ⟨Go.Proofs.Tryd.f130, Go.Proofs.Tryd.func130, by kernel_rfl⟩
noncomputable def a131 : AFn :=
⟨74,[(.cell 4 true 3)],(.seq (.reg [⟨(some 2),(.a (.box 25 (.t 0))),none,0⟩,
⟨(some 3),(.a (.box 25 (.t 1))),none,0⟩,
⟨(some 4),(.a (.alloc 25 [(.bool false),.nilsl,.nilsl])),none,0⟩])
(.seq (.drw [oq 8 (.faddr 1 (.t 2)),
om 9 1 (ld 8),
om 10 3 (.iaddr (.slice 1) (.t 9) (ci 0)),
om 11 7 (ld 10),
om 12 15 (.conv (.int .u64) (.t 11)),
oq 13 (.faddr 2 (.t 3)),
om 14 32 (ld 13),
om 15 96 (.iaddr (.slice 1) (.t 14) (ci 0)),
om 16 224 (ld 15),
om 17 480 (.conv (.int .u64) (.t 16)),
om 18 1023 (bi .mul (.t 12) (.t 17)),
oq 19 (.faddr 1 (.t 3)),
om 20 2048 (ld 19),
om 21 6144 (.iaddr (.slice 1) (.t 20) (ci 0)),
om 22 14336 (ld 21),
om 23 30720 (.conv (.int .u64) (.t 22)),
oq 24 (.faddr 2 (.t 2)),
om 25 65536 (ld 24),
om 26 196608 (.iaddr (.slice 1) (.t 25) (ci 0)),
om 27 458752 (ld 26),
om 28 983040 (.conv (.int .u64) (.t 27)),
om 29 2095104 (bi .mul (.t 23) (.t 28)),
om 5 2047 (.mv (.t 18)),
om 6 8388607 (.mv (.t 29))])
(.seq (.drw [oq 30 (.faddr 2 (.t 2)),
om 31 1 (ld 30),
om 32 3 (.iaddr (.slice 1) (.t 31) (ci 0)),
om 33 7 (ld 32),
om 34 15 (.conv (.int .u64) (.t 33)),
oq 35 (.faddr 2 (.t 3)),
om 36 32 (ld 35),
om 37 96 (.iaddr (.slice 1) (.t 36) (ci 0)),
om 38 224 (ld 37),
om 39 480 (.conv (.int .u64) (.t 38)),
om 40 1023 (bi .mul (.t 34) (.t 39)),
om 7 2047 (.mv (.t 40))])
(.seq (.seq (.reg [oq 41 (.faddr 0 (.t 2)),
oq 42 (ld 41),
oq 43 (.faddr 0 (.t 3)),
oq 44 (ld 43),
oq 45 (.bin .eql (.p .bool) (.t 42) (.t 44))])
(.cond (.t 45) (.seq (.reg [oq 46 (.faddr 0 (.t 2)),
oq 47 (ld 46),
mt 48 5,
mt 49 6,
oq 50 (bi .add (.t 48) (.t 49)),
mt 51 7,
oc 52 119 [(.t 47),(.t 50),(.t 51)] 0,
⟨none,(.x (.st 3 (.t 4) (.t 52))),none,0⟩])
.ret) .skip))
(.seq (.seq (.reg [mt 53 5,
mt 54 6,
oq 55 (bi .eql (.t 53) (.t 54))])
(.cond (.t 55) (.seq (.reg [oc 56 55 [] 0,
⟨none,(.x (.st 3 (.t 4) (.t 56))),none,0⟩])
.ret) .skip))
(.seq (.seq (.reg [mt 57 5,
mt 58 6,
oq 59 (bi .gtr (.t 57) (.t 58))])
(.cond (.t 59) (.seq (.reg [oq 60 (.faddr 0 (.t 2)),
oq 61 (ld 60),
mt 62 5,
mt 63 6,
oq 64 (bi .sub (.t 62) (.t 63)),
mt 65 7,
oc 66 119 [(.t 61),(.t 64),(.t 65)] 0,
⟨none,(.x (.st 3 (.t 4) (.t 66))),none,0⟩])
.ret) .skip))
(.seq (.reg [oq 67 (.faddr 0 (.t 3)),
oq 68 (ld 67),
mt 69 6,
mt 70 5,
oq 71 (bi .sub (.t 69) (.t 70)),
mt 72 7,
oc 73 119 [(.t 68),(.t 71),(.t 72)] 0,
⟨none,(.x (.st 3 (.t 4) (.t 73))),none,0⟩])
.ret)))))))⟩
theorem row131 : Row Go.Proofs.Tryd.prog (131, a131) := ⟨Go.Proofs.Tryd.f131, Go.Proofs.Tryd.func131, by kernel_rfl⟩
end Go.Ev.Gl
