/- Functions of the program as data of the evaluator, written by program; each is shown to be the compiler's result on the loaded function. -/
import Derived.Test.YtmbmidkdinllgaaDoorProg
import Derived.Test.YtmbmidkdinllgaaDoorEv8
import Derived.KernelRfl
namespace Go.Ev.Gl
set_option maxRecDepth 100000
noncomputable def a9 : AFn :=
⟨114,[(.t 8)],(.seq (.reg [oq 8 (.mv (.c (.bool false)))])
(.seq (.seq (.reg [mt 20 0,
oq 21 (.lenSl (.t 20)),
oq 22 (bi .gtr (.t 21) (ci 8)),
mt 23 22,
og 24 23 false 0 (.mv (.t 1)),
og 25 23 false 0 (.lenSl (.t 24)),
og 26 23 false 0 (bi .gtr (.t 25) (ci 8)),
oq 27 (.pick (.t 23) (.c (.bool true)) (.t 26))])
(.cond (.t 27) (.seq (.reg [oc 28 11 [] 0,
mt 8 28])
.ret) .skip))
(.seq (.reg [mt 30 0,
mt 31 1,
mt 32 2,
oc 33 33 [(.t 30),(.t 31),(.t 32)] 0,
mt 29 33,
oq 34 (.extract (.t 29) 0),
oq 35 (.extract (.t 29) 1),
⟨(some 9),(.a (.alloc 25 [(.bool false),.nilsl,.nilsl])),none,0⟩,
⟨none,(.x (.st 3 (.t 9) (.t 34))),none,0⟩,
mt 10 35])
(.seq (.seq (.reg [mt 36 10,
oq 37 (.un .not (.t 36))])
(.cond (.t 37) (.seq (.reg [oq 8 (.mv (.c (.bool false)))])
.ret) .skip))
(.seq (.reg [oq 39 (.ld true 3 (.t 9)),
oc 40 47 [(.t 39)] 0,
mt 38 40,
oq 41 (.extract (.t 38) 0),
oq 42 (.extract (.t 38) 1),
mt 11 41,
mt 12 42])
(.seq (.reg [mt 44 11,
oc 45 48 [(.t 44)] 0,
mt 43 45,
oq 46 (.extract (.t 43) 0),
oq 47 (.extract (.t 43) 1),
⟨(some 13),(.a (.alloc 25 [(.bool false),.nilsl,.nilsl])),none,0⟩,
⟨(some 14),(.a (.alloc 59 [(.int .i64 (.ofNat 0)),(.int .i64 (.ofNat 0))])),none,0⟩,
⟨none,(.x (.st 3 (.t 13) (.t 46))),none,0⟩,
⟨none,(.x (.st 2 (.t 14) (.t 47))),none,0⟩])
(.seq (.seq (.reg [mt 48 12,
oq 49 (bi .neq (.t 48) (ci 0)),
mt 50 49,
og 51 50 false 0 (.faddr 0 (.t 14)),
og 52 50 false 0 (ld 51),
og 53 50 false 0 (bi .neq (.t 52) (ci 0)),
oq 54 (.pick (.t 50) (.c (.bool true)) (.t 53)),
mt 55 54,
og 56 55 false 0 (.ld true 3 (.t 13)),
og 57 55 false 0 (.ld true 3 (.t 9)),
⟨(some 58),(.x (.call (.c (.fn 14 [] [])) [(.t 56),(.t 57)])),(some (55,false)),0⟩,
og 59 55 false 0 (.un .not (.t 58)),
oq 60 (.pick (.t 55) (.c (.bool true)) (.t 59))])
(.cond (.t 60) (.seq (.reg [oq 8 (.mv (.c (.bool false)))])
.ret) .skip))
(.seq (.reg [mt 61 3,
oc 62 34 [(.t 61),(ci 1000)] 0,
oq 63 (bi .add (ci 1) (.t 62)),
oc 64 19 [(.t 63),(ci 1)] 0,
⟨(some 15),(.a (.alloc 25 [(.bool false),.nilsl,.nilsl])),none,0⟩,
⟨none,(.x (.st 3 (.t 15) (.t 64))),none,0⟩])
(.seq (.reg [oq 66 (.faddr 0 (.t 9)),
oq 67 (ld 66),
oq 68 (.faddr 1 (.t 9)),
oq 69 (ld 68),
⟨(some 70),(.a (.bslice 41 1 1 [(.int .u32 (.ofNat 0))] [(0,(.c (.int .u32 (.ofNat 1))))])),none,0⟩,
oq 71 (.build [(.bool false),.nilsl,.nilsl] [(0,1,(.t 67)),(1,1,(.t 69)),(2,1,(.t 70))]),
oq 72 (.ld true 3 (.t 15)),
oc 73 35 [(.t 71),(.t 72)] 0,
oc 74 47 [(.t 73)] 0,
mt 65 74,
oq 75 (.extract (.t 65) 0),
oq 76 (.extract (.t 65) 1),
mt 16 75,
mt 12 76])
(.seq (.reg [oq 78 (.faddr 2 (.t 9)),
oq 79 (ld 78),
⟨(some 80),(.a (.bslice 41 1 1 [(.int .u32 (.ofNat 0))] [(0,(.c (.int .u32 (.ofNat 1))))])),none,0⟩,
oq 81 (.build [(.bool false),.nilsl,.nilsl] [(1,1,(.t 79)),(2,1,(.t 80))]),
oq 82 (.ld true 3 (.t 15)),
oc 83 35 [(.t 81),(.t 82)] 0,
oc 84 47 [(.t 83)] 0,
mt 77 84,
oq 85 (.extract (.t 77) 0),
oq 86 (.extract (.t 77) 1),
mt 17 85,
mt 18 86])
(.seq (.reg [mt 88 16,
oq 89 (.bin .add (.p .str) (.t 88) (.c (.str [47]))),
mt 90 17,
oq 91 (.bin .add (.p .str) (.t 89) (.t 90)),
oc 92 48 [(.t 91)] 0,
mt 87 92,
oq 93 (.extract (.t 87) 0),
oq 94 (.extract (.t 87) 1),
⟨(some 19),(.a (.alloc 25 [(.bool false),.nilsl,.nilsl])),none,0⟩,
⟨none,(.x (.st 3 (.t 19) (.t 93))),none,0⟩,
⟨none,(.x (.st 2 (.t 14) (.t 94))),none,0⟩])
(.seq (.reg [mt 95 12,
oq 96 (bi .eql (.t 95) (ci 0)),
mt 97 96,
og 98 97 true 0 (.mv (.t 18)),
og 99 97 true 0 (bi .eql (.t 98) (ci 0)),
oq 100 (.pick (.t 97) (.t 99) (.c (.bool false))),
mt 101 100,
og 102 101 true 0 (.faddr 0 (.t 14)),
og 103 101 true 0 (ld 102),
og 104 101 true 0 (bi .eql (.t 103) (ci 0)),
oq 105 (.pick (.t 101) (.t 104) (.c (.bool false))),
mt 106 105,
og 107 106 true 0 (.ld true 3 (.t 19)),
og 108 106 true 0 (.ld true 3 (.t 9)),
⟨(some 109),(.x (.call (.c (.fn 14 [] [])) [(.t 107),(.t 108)])),(some (106,true)),0⟩,
oq 110 (.pick (.t 106) (.t 109) (.c (.bool false))),
mt 111 110,
⟨(some 112),(.x (.call (.c (.fn 11 [] [])) [])),(some (111,true)),0⟩,
oq 113 (.pick (.t 111) (.t 112) (.c (.bool false))),
mt 8 113])
.ret))))))))))))⟩
theorem row9 : Row Go.Proofs.Tryd.prog (9, a9) := ⟨Go.Proofs.Tryd.f9, Go.Proofs.Tryd.func9, by kernel_rfl⟩
noncomputable def a14 : AFn :=
⟨24,[(.t 4)],(.seq (.reg [⟨(some 2),(.a (.box 25 (.t 0))),none,0⟩,
⟨(some 3),(.a (.box 25 (.t 1))),none,0⟩,
oq 4 (.mv (.c (.bool false)))])
(.seq (.reg [oq 5 (.faddr 0 (.t 2)),
oq 6 (ld 5),
oq 7 (.faddr 0 (.t 3)),
oq 8 (ld 7),
oq 9 (.bin .eql (.p .bool) (.t 6) (.t 8)),
mt 10 9,
og 11 10 true 0 (.faddr 1 (.t 2)),
og 12 10 true 0 (ld 11),
og 13 10 true 0 (.faddr 1 (.t 3)),
og 14 10 true 0 (ld 13),
⟨(some 15),(.x (.call (.c (.fn 38 [] [])) [(.t 12),(.t 14)])),(some (10,true)),0⟩,
oq 16 (.pick (.t 10) (.t 15) (.c (.bool false))),
mt 17 16,
og 18 17 true 0 (.faddr 2 (.t 2)),
og 19 17 true 0 (ld 18),
og 20 17 true 0 (.faddr 2 (.t 3)),
og 21 17 true 0 (ld 20),
⟨(some 22),(.x (.call (.c (.fn 38 [] [])) [(.t 19),(.t 21)])),(some (17,true)),0⟩,
oq 23 (.pick (.t 17) (.t 22) (.c (.bool false))),
mt 4 23])
.ret))⟩
theorem row14 : Row Go.Proofs.Tryd.prog (14, a14) := ⟨Go.Proofs.Tryd.f14, Go.Proofs.Tryd.func14, by kernel_rfl⟩
noncomputable def a16 : AFn :=
⟨31,[(.cell 4 true 3)],(.seq (.reg [⟨(some 4),(.a (.alloc 25 [(.bool false),.nilsl,.nilsl])),none,0⟩])
(.seq (.reg [mt 6 0,
mt 7 0,
oq 8 (.un .neg (.t 7)),
oq 9 (.minmax true [(.t 6),(.t 8)]),
mt 10 1,
oc 11 60 [(.t 9),(.t 10)] 0,
mt 5 11])
(.seq (.drw [mt 12 0,
mt 13 5,
om 14 3 (bi .quo (.t 12) (.t 13)),
mt 15 1,
mt 16 5,
om 17 24 (bi .quo (.t 15) (.t 16)),
om 0 7 (.mv (.t 14)),
om 1 127 (.mv (.t 17))])
(.seq (.seq (.reg [mt 18 0,
oq 19 (bi .lss (.t 18) (ci 0))])
(.cond (.t 19) (.seq (.reg [mt 20 0,
oq 21 (.un .neg (.t 20)),
oc 22 61 [(.t 21)] 0,
mt 23 1,
oc 24 61 [(.t 23)] 0,
oq 25 (.build [(.bool false),.nilsl,.nilsl] [(0,1,(.c (.bool true))),(1,1,(.t 22)),(2,1,(.t 24))]),
⟨none,(.x (.st 3 (.t 4) (.t 25))),none,0⟩])
.ret) .skip))
(.seq (.reg [mt 26 0,
oc 27 61 [(.t 26)] 0,
mt 28 1,
oc 29 61 [(.t 28)] 0,
oq 30 (.build [(.bool false),.nilsl,.nilsl] [(1,1,(.t 27)),(2,1,(.t 29))]),
⟨none,(.x (.st 3 (.t 4) (.t 30))),none,0⟩])
.ret)))))⟩
theorem row16 : Row Go.Proofs.Tryd.prog (16, a16) := ⟨Go.Proofs.Tryd.f16, Go.Proofs.Tryd.func16, by kernel_rfl⟩
noncomputable def a19 : AFn :=
⟨8,[(.cell 4 true 3)],(.seq (.reg [⟨(some 4),(.a (.alloc 25 [(.bool false),.nilsl,.nilsl])),none,0⟩])
(.seq (.reg [mt 5 0,
mt 6 1,
oc 7 16 [(.t 5),(.t 6)] 0,
⟨none,(.x (.st 3 (.t 4) (.t 7))),none,0⟩])
.ret))⟩
theorem row19 : Row Go.Proofs.Tryd.prog (19, a19) := ⟨Go.Proofs.Tryd.f19, Go.Proofs.Tryd.func19, by kernel_rfl⟩
noncomputable def a26 : AFn :=
⟨21,[(.cell 4 true 3),(.t 5)],(.seq (.reg [⟨(some 2),(.a (.box 25 (.t 0))),none,0⟩,
⟨(some 3),(.a (.box 25 (.t 1))),none,0⟩,
⟨(some 4),(.a (.alloc 25 [(.bool false),.nilsl,.nilsl])),none,0⟩,
oq 5 (.mv (ci 0))])
(.seq (.seq (.reg [oq 7 (.ld true 3 (.t 2)),
oq 8 (.ld true 3 (.t 3)),
oc 9 62 [(.t 7),(.t 8)] 0,
mt 6 9])
(.seq (.reg [mt 10 6,
oq 11 (bi .neq (.t 10) (ci 0))])
(.cond (.t 11) (.seq (.reg [oq 12 (.build [(.bool false),.nilsl,.nilsl] []),
mt 13 6,
⟨none,(.x (.st 3 (.t 4) (.t 12))),none,0⟩,
mt 5 13])
.ret) .skip)))
(.seq (.reg [oq 14 (.ld true 3 (.t 2)),
oq 15 (.ld true 3 (.t 3)),
oq 16 (.build [(.bool false),.nilsl,.nilsl,(.bool false),.nilsl,.nilsl] [(0,3,(.t 14)),(3,3,(.t 15))]),
⟨(some 17),(.a (.bslice 80 6 1 [(.bool false),.nilsl,.nilsl,(.bool false),.nilsl,.nilsl] [(0,(.t 16))])),none,0⟩,
oc 18 67 [(.t 17)] 0,
oq 19 (.extract (.t 18) 0),
oq 20 (.extract (.t 18) 1),
⟨none,(.x (.st 3 (.t 4) (.t 19))),none,0⟩,
mt 5 20])
.ret)))⟩
theorem row26 : Row Go.Proofs.Tryd.prog (26, a26) := ⟨Go.Proofs.Tryd.f26, Go.Proofs.Tryd.func26, by kernel_rfl⟩
noncomputable def a31 : AFn :=
⟨28,[(.t 2)],(.seq (.reg [⟨(some 1),(.a (.box 25 (.t 0))),none,0⟩,
oq 2 (.mv (ci 0))])
(.seq (.seq (.reg [oq 4 (.faddr 1 (.t 1)),
oq 5 (ld 4),
oq 6 (.faddr 2 (.t 1)),
oq 7 (ld 6),
oc 8 74 [(.t 5),(.t 7)] 0,
mt 3 8])
(.seq (.reg [mt 9 3,
oq 10 (bi .neq (.t 9) (ci 0))])
(.cond (.t 10) (.seq (.reg [mt 11 3,
mt 2 11])
.ret) .skip)))
(.seq (.seq (.reg [oq 12 (.faddr 1 (.t 1)),
oq 13 (ld 12),
oq 14 (.lenSl (.t 13)),
oq 15 (bi .eql (.t 14) (ci 0)),
mt 16 15,
og 17 16 true 0 (.faddr 0 (.t 1)),
og 18 16 true 0 (ld 17),
oq 19 (.pick (.t 16) (.t 18) (.c (.bool false))),
mt 20 19,
og 21 20 false 0 (.faddr 1 (.t 1)),
og 22 20 false 0 (ld 21),
og 23 20 false 0 (.faddr 2 (.t 1)),
og 24 20 false 0 (ld 23),
⟨(some 25),(.x (.call (.c (.fn 75 [] [])) [(.t 22),(.t 24)])),(some (20,false)),0⟩,
og 26 20 false 0 (.un .not (.t 25)),
oq 27 (.pick (.t 20) (.c (.bool true)) (.t 26))])
(.cond (.t 27) (.seq (.reg [oq 2 (.mv (ci 3))])
.ret) .skip))
(.seq (.reg [oq 2 (.mv (ci 0))])
.ret))))⟩
theorem row31 : Row Go.Proofs.Tryd.prog (31, a31) := ⟨Go.Proofs.Tryd.f31, Go.Proofs.Tryd.func31, by kernel_rfl⟩
noncomputable def a33 : AFn :=
⟨33,[(.cell 6 true 3),(.t 7)],(.seq (.reg [⟨(some 6),(.a (.alloc 25 [(.bool false),.nilsl,.nilsl])),none,0⟩,
oq 7 (.mv (.c (.bool false)))])
(.seq (.reg [mt 11 1,
oc 12 78 [(.t 11)] 0,
mt 8 12])
(.seq (.seq (.reg [mt 13 8,
oq 14 (.lenSl (.t 13)),
oq 15 (bi .eql (.t 14) (ci 0))])
(.cond (.t 15) (.reg [⟨(some 16),(.a (.bslice 41 1 1 [(.int .u32 (.ofNat 0))] [(0,(.c (.int .u32 (.ofNat 1))))])),none,0⟩,
mt 8 16]) .skip))
(.seq (.reg [mt 18 2,
mt 19 0,
oc 20 78 [(.t 19)] 0,
mt 21 8,
oc 22 41 [(.t 18),(.t 20),(.t 21)] 0,
mt 17 22,
oq 23 (.extract (.t 17) 0),
oq 24 (.extract (.t 17) 1),
⟨(some 9),(.a (.alloc 25 [(.bool false),.nilsl,.nilsl])),none,0⟩,
⟨none,(.x (.st 3 (.t 9) (.t 23))),none,0⟩,
mt 10 24])
(.seq (.drw [oq 25 (.ld true 3 (.t 9)),
mt 26 10,
om 27 2 (bi .eql (.t 26) (ci 0)),
om 28 6 (.mv (.t 27)),
og 29 28 true 14 (.ld true 3 (.t 9)),
⟨(some 30),(.x (.call (.c (.fn 31 [] [])) [(.t 29)])),(some (28,true)),30⟩,
og 31 28 true 62 (bi .eql (.t 30) (ci 0)),
om 32 126 (.pick (.t 28) (.t 31) (.c (.bool false))),
⟨none,(.x (.st 3 (.t 6) (.t 25))),none,63⟩,
om 7 511 (.mv (.t 32))])
.ret)))))⟩
theorem row33 : Row Go.Proofs.Tryd.prog (33, a33) := ⟨Go.Proofs.Tryd.f33, Go.Proofs.Tryd.func33, by kernel_rfl⟩
noncomputable def a34 : AFn :=
⟨14,[(.t 4)],(.seq (.reg [oq 4 (.mv (ci 0))])
(.seq (.reg [mt 5 0,
mt 6 1,
oq 7 (bi .rem (.t 5) (.t 6)),
mt 0 7])
(.seq (.seq (.reg [mt 8 0,
oq 9 (bi .lss (.t 8) (ci 0))])
(.cond (.t 9) (.reg [mt 10 0,
mt 11 1,
oq 12 (bi .add (.t 10) (.t 11)),
mt 0 12]) .skip))
(.seq (.reg [mt 13 0,
mt 4 13])
.ret))))⟩
theorem row34 : Row Go.Proofs.Tryd.prog (34, a34) := ⟨Go.Proofs.Tryd.f34, Go.Proofs.Tryd.func34, by kernel_rfl⟩
noncomputable def a35 : AFn :=
⟨14,[(.cell 4 true 3)],(.seq (.reg [⟨(some 2),(.a (.box 25 (.t 0))),none,0⟩,
⟨(some 3),(.a (.box 25 (.t 1))),none,0⟩,
⟨(some 4),(.a (.alloc 25 [(.bool false),.nilsl,.nilsl])),none,0⟩])
(.seq (.reg [oq 8 (.ld true 3 (.t 2)),
oq 9 (.ld true 3 (.t 3)),
oc 10 26 [(.t 8),(.t 9)] 0,
mt 7 10,
oq 11 (.extract (.t 7) 0),
oq 12 (.extract (.t 7) 1),
⟨(some 5),(.a (.alloc 25 [(.bool false),.nilsl,.nilsl])),none,0⟩,
⟨none,(.x (.st 3 (.t 5) (.t 11))),none,0⟩,
mt 6 12])
(.seq (.reg [oq 13 (.ld true 3 (.t 5)),
⟨none,(.x (.st 3 (.t 4) (.t 13))),none,0⟩])
.ret)))⟩
theorem row35 : Row Go.Proofs.Tryd.prog (35, a35) := ⟨Go.Proofs.Tryd.f35, Go.Proofs.Tryd.func35, by kernel_rfl⟩
noncomputable def a38 : AFn :=
⟨26,[(.t 4)],(.seq (.reg [oq 4 (.mv (.c (.bool false)))])
(.seq (.seq (.reg [mt 6 0,
oq 7 (.lenSl (.t 6)),
mt 8 1,
oq 9 (.lenSl (.t 8)),
oq 10 (bi .neq (.t 7) (.t 9))])
(.cond (.t 10) (.seq (.reg [oq 4 (.mv (.c (.bool false)))])
.ret) .skip))
(.seq (.seq (.reg [oq 5 (.mv (ci 0))])
(.block 0 (.loop (.seq (.seq (.reg [mt 11 5,
mt 12 0,
oq 13 (.lenSl (.t 12)),
oq 14 (bi .lss (.t 11) (.t 13))])
(.cond (.t 14) .skip (.exit 0)))
(.seq (.block 1 (.seq (.drw [mt 17 0,
mt 18 5,
om 19 3 (.iaddr (.slice 1) (.t 17) (.t 18)),
om 20 7 (ld 19),
mt 21 1,
mt 22 5,
om 23 48 (.iaddr (.slice 1) (.t 21) (.t 22)),
om 24 112 (ld 23),
om 25 255 (bi .neq (.t 20) (.t 24))])
(.cond (.t 25) (.seq (.reg [oq 4 (.mv (.c (.bool false)))])
.ret) .skip)))
(.reg [mt 15 5,
oq 16 (bi .add (.t 15) (ci 1)),
mt 5 16]))))))
(.seq (.reg [oq 4 (.mv (.c (.bool true)))])
.ret))))⟩
theorem row38 : Row Go.Proofs.Tryd.prog (38, a38) := ⟨Go.Proofs.Tryd.f38, Go.Proofs.Tryd.func38, by kernel_rfl⟩
noncomputable def a41 : AFn :=
⟨20,[(.cell 6 true 3),(.t 7)],(.seq (.reg [⟨(some 6),(.a (.alloc 25 [(.bool false),.nilsl,.nilsl])),none,0⟩,
oq 7 (.mv (ci 0))])
(.seq (.seq (.reg [mt 9 1,
mt 10 2,
oc 11 74 [(.t 9),(.t 10)] 0,
mt 8 11])
(.seq (.reg [mt 12 8,
oq 13 (bi .neq (.t 12) (ci 0))])
(.cond (.t 13) (.seq (.reg [oq 14 (.build [(.bool false),.nilsl,.nilsl] []),
mt 15 8,
⟨none,(.x (.st 3 (.t 6) (.t 14))),none,0⟩,
mt 7 15])
.ret) .skip)))
(.seq (.reg [mt 16 0,
mt 17 1,
mt 18 2,
oc 19 80 [(.t 16),(.t 17),(.t 18)] 0,
⟨none,(.x (.st 3 (.t 6) (.t 19))),none,0⟩,
oq 7 (.mv (ci 0))])
.ret)))⟩
theorem row41 : Row Go.Proofs.Tryd.prog (41, a41) := ⟨Go.Proofs.Tryd.f41, Go.Proofs.Tryd.func41, by kernel_rfl⟩
noncomputable def a47 : AFn :=
⟨43,[(.t 2),(.t 3)],(.seq (.reg [⟨(some 1),(.a (.box 25 (.t 0))),none,0⟩,
oq 2 (.mv (.c (.str []))),
oq 3 (.mv (ci 0))])
(.seq (.seq (.reg [oq 8 (.ld true 3 (.t 1)),
oc 9 31 [(.t 8)] 0,
mt 4 9])
(.seq (.reg [mt 10 4,
oq 11 (bi .neq (.t 10) (ci 0))])
(.cond (.t 11) (.seq (.reg [mt 12 4,
oq 2 (.mv (.c (.str []))),
mt 3 12])
.ret) .skip)))
(.seq (.reg [oq 14 (.faddr 1 (.t 1)),
oq 15 (ld 14),
oc 16 90 [(.t 15)] 0,
mt 13 16,
oq 17 (.extract (.t 13) 0),
oq 18 (.extract (.t 13) 1),
mt 5 17,
mt 6 18])
(.seq (.seq (.reg [mt 19 6,
oq 20 (bi .neq (.t 19) (ci 0))])
(.cond (.t 20) (.seq (.reg [mt 21 6,
oq 2 (.mv (.c (.str []))),
mt 3 21])
.ret) .skip))
(.seq (.seq (.reg [oq 22 (.faddr 0 (.t 1)),
oq 23 (ld 22)])
(.cond (.t 23) (.reg [mt 24 5,
oq 25 (.bin .add (.p .str) (.c (.str [45])) (.t 24)),
mt 5 25]) .skip))
(.seq (.seq (.reg [oq 26 (.faddr 2 (.t 1)),
oq 27 (ld 26),
oc 28 91 [(.t 27)] 0])
(.cond (.t 28) (.seq (.reg [mt 29 5,
mt 2 29,
oq 3 (.mv (ci 0))])
.ret) .skip))
(.seq (.reg [oq 31 (.faddr 2 (.t 1)),
oq 32 (ld 31),
oc 33 90 [(.t 32)] 0,
mt 30 33,
oq 34 (.extract (.t 30) 0),
oq 35 (.extract (.t 30) 1),
mt 7 34,
mt 6 35])
(.seq (.seq (.reg [mt 36 6,
oq 37 (bi .neq (.t 36) (ci 0))])
(.cond (.t 37) (.seq (.reg [mt 38 6,
oq 2 (.mv (.c (.str []))),
mt 3 38])
.ret) .skip))
(.seq (.reg [mt 39 5,
oq 40 (.bin .add (.p .str) (.t 39) (.c (.str [47]))),
mt 41 7,
oq 42 (.bin .add (.p .str) (.t 40) (.t 41)),
mt 2 42,
oq 3 (.mv (ci 0))])
.ret)))))))))⟩
theorem row47 : Row Go.Proofs.Tryd.prog (47, a47) := ⟨Go.Proofs.Tryd.f47, Go.Proofs.Tryd.func47, by kernel_rfl⟩
noncomputable def a48 : AFn :=
⟨87,[(.cell 2 true 3),(.cell 3 true 2)],(.seq (.reg [⟨(some 2),(.a (.alloc 25 [(.bool false),.nilsl,.nilsl])),none,0⟩,
⟨(some 3),(.a (.alloc 59 [(.int .i64 (.ofNat 0)),(.int .i64 (.ofNat 0))])),none,0⟩])
(.seq (.seq (.reg [mt 13 0,
oq 14 (.lenStr (.t 13)),
oq 15 (bi .gtr (.t 14) (ci 20000))])
(.cond (.t 15) (.seq (.reg [oq 16 (.build [(.bool false),.nilsl,.nilsl] []),
oq 17 (.build [(.int .i64 (.ofNat 0)),(.int .i64 (.ofNat 0))] [(0,1,(ci 4)),(1,1,(ci 20000))]),
⟨none,(.x (.st 3 (.t 2) (.t 16))),none,0⟩,
⟨none,(.x (.st 2 (.t 3) (.t 17))),none,0⟩])
.ret) .skip))
(.seq (.seq (.reg [mt 18 0,
oc 19 92 [(.t 18)] 0,
⟨(some 4),(.a (.alloc 59 [(.int .i64 (.ofNat 0)),(.int .i64 (.ofNat 0))])),none,0⟩,
⟨none,(.x (.st 2 (.t 4) (.t 19))),none,0⟩])
(.seq (.reg [oq 20 (.faddr 0 (.t 4)),
oq 21 (ld 20),
oq 22 (bi .neq (.t 21) (ci 0))])
(.cond (.t 22) (.seq (.drw [oq 23 (.build [(.bool false),.nilsl,.nilsl] []),
oq 24 (.ld true 2 (.t 4)),
⟨none,(.x (.st 3 (.t 2) (.t 23))),none,1⟩,
⟨none,(.x (.st 2 (.t 3) (.t 24))),none,7⟩])
.ret) .skip)))
(.seq (.reg [mt 26 0,
oc 27 93 [(.t 26),(.c (.str [47]))] 0,
mt 25 27,
oq 28 (.extract (.t 25) 0),
oq 29 (.extract (.t 25) 1),
oq 30 (.extract (.t 25) 2),
mt 5 28,
mt 6 29,
mt 7 30])
(.seq (.reg [mt 32 5,
oc 33 94 [(.t 32),(.c (.str [45]))] 0,
mt 31 33,
oq 34 (.extract (.t 31) 0),
oq 35 (.extract (.t 31) 1),
mt 8 34,
mt 9 35])
(.seq (.reg [mt 37 8,
oc 38 95 [(.t 37)] 0,
mt 36 38,
oq 39 (.extract (.t 36) 0),
oq 40 (.extract (.t 36) 1),
⟨(some 11),(.a (.alloc 59 [(.int .i64 (.ofNat 0)),(.int .i64 (.ofNat 0))])),none,0⟩,
mt 10 39,
⟨none,(.x (.st 2 (.t 11) (.t 40))),none,0⟩])
(.seq (.seq (.reg [oq 41 (.faddr 0 (.t 11)),
oq 42 (ld 41),
oq 43 (bi .neq (.t 42) (ci 0))])
(.cond (.t 43) (.seq (.reg [oq 44 (.faddr 1 (.t 11)),
oq 45 (ld 44),
mt 46 5,
oq 47 (.lenStr (.t 46)),
mt 48 8,
oq 49 (.lenStr (.t 48)),
oq 50 (bi .sub (.t 47) (.t 49)),
oq 51 (bi .add (.t 45) (.t 50)),
oq 52 (.faddr 1 (.t 11)),
⟨none,(.x (.st 1 (.t 52) (.t 51))),none,0⟩])
(.seq (.drw [oq 53 (.build [(.bool false),.nilsl,.nilsl] []),
oq 54 (.ld true 2 (.t 11)),
⟨none,(.x (.st 3 (.t 2) (.t 53))),none,1⟩,
⟨none,(.x (.st 2 (.t 3) (.t 54))),none,7⟩])
.ret)) .skip))
(.seq (.reg [oc 55 66 [] 0,
mt 12 55])
(.seq (.seq (.reg [mt 56 7])
(.cond (.t 56) (.seq (.reg [mt 58 6,
oc 59 95 [(.t 58)] 0,
mt 57 59,
oq 60 (.extract (.t 57) 0),
oq 61 (.extract (.t 57) 1),
mt 12 60,
⟨none,(.x (.st 2 (.t 11) (.t 61))),none,0⟩])
(.seq (.reg [oq 62 (.faddr 0 (.t 11)),
oq 63 (ld 62),
oq 64 (bi .neq (.t 63) (ci 0))])
(.cond (.t 64) (.seq (.reg [oq 65 (.faddr 1 (.t 11)),
oq 66 (ld 65),
mt 67 5,
oq 68 (.lenStr (.t 67)),
oq 69 (bi .add (.t 68) (ci 1)),
oq 70 (bi .add (.t 66) (.t 69)),
oq 71 (.faddr 1 (.t 11)),
⟨none,(.x (.st 1 (.t 71) (.t 70))),none,0⟩])
(.seq (.drw [oq 72 (.build [(.bool false),.nilsl,.nilsl] []),
oq 73 (.ld true 2 (.t 11)),
⟨none,(.x (.st 3 (.t 2) (.t 72))),none,1⟩,
⟨none,(.x (.st 2 (.t 3) (.t 73))),none,7⟩])
.ret)) .skip))) .skip))
(.seq (.seq (.reg [mt 74 12,
oq 75 (.lenSl (.t 74)),
oq 76 (bi .eql (.t 75) (ci 0))])
(.cond (.t 76) (.seq (.reg [oq 77 (.build [(.bool false),.nilsl,.nilsl] []),
mt 78 5,
oq 79 (.lenStr (.t 78)),
oq 80 (bi .add (.t 79) (ci 1)),
oq 81 (.build [(.int .i64 (.ofNat 0)),(.int .i64 (.ofNat 0))] [(0,1,(ci 6)),(1,1,(.t 80))]),
⟨none,(.x (.st 3 (.t 2) (.t 77))),none,0⟩,
⟨none,(.x (.st 2 (.t 3) (.t 81))),none,0⟩])
.ret) .skip))
(.seq (.reg [mt 82 9,
mt 83 10,
mt 84 12,
oc 85 80 [(.t 82),(.t 83),(.t 84)] 0,
oq 86 (.build [(.int .i64 (.ofNat 0)),(.int .i64 (.ofNat 0))] []),
⟨none,(.x (.st 3 (.t 2) (.t 85))),none,0⟩,
⟨none,(.x (.st 2 (.t 3) (.t 86))),none,0⟩])
.ret)))))))))))⟩
theorem row48 : Row Go.Proofs.Tryd.prog (48, a48) := ⟨Go.Proofs.Tryd.f48, Go.Proofs.Tryd.func48, by kernel_rfl⟩
noncomputable def a50 : AFn :=
⟨12,[(.cell 2 true 3)],(.seq (.reg [⟨(some 1),(.a (.box 25 (.t 0))),none,0⟩,
⟨(some 2),(.a (.alloc 25 [(.bool false),.nilsl,.nilsl])),none,0⟩])
(.seq (.drw [oq 3 (.faddr 0 (.t 1)),
om 4 1 (ld 3),
oq 5 (.faddr 1 (.t 1)),
om 6 4 (ld 5),
oc 7 96 [(.t 6)] 12,
oq 8 (.faddr 2 (.t 1)),
om 9 32 (ld 8),
oc 10 96 [(.t 9)] 124,
om 11 255 (.build [(.bool false),.nilsl,.nilsl] [(0,1,(.t 4)),(1,1,(.t 7)),(2,1,(.t 10))]),
⟨none,(.x (.st 3 (.t 2) (.t 11))),none,511⟩])
.ret))⟩
theorem row50 : Row Go.Proofs.Tryd.prog (50, a50) := ⟨Go.Proofs.Tryd.f50, Go.Proofs.Tryd.func50, by kernel_rfl⟩
noncomputable def a52 : AFn :=
⟨9,[(.cell 2 true 3),(.t 3)],(.seq (.reg [⟨(some 1),(.a (.box 25 (.t 0))),none,0⟩,
⟨(some 2),(.a (.alloc 25 [(.bool false),.nilsl,.nilsl])),none,0⟩,
oq 3 (.mv (ci 0))])
(.seq (.seq (.reg [oq 4 (.ld true 3 (.t 1)),
oc 5 97 [(.t 4)] 0,
oq 6 (.un .not (.t 5))])
(.cond (.t 6) (.seq (.reg [oq 7 (.build [(.bool false),.nilsl,.nilsl] []),
⟨none,(.x (.st 3 (.t 2) (.t 7))),none,0⟩,
oq 3 (.mv (ci 5))])
.ret) .skip))
(.seq (.reg [oq 8 (.ld true 3 (.t 1)),
⟨none,(.x (.st 3 (.t 2) (.t 8))),none,0⟩,
oq 3 (.mv (ci 0))])
.ret)))⟩
theorem row52 : Row Go.Proofs.Tryd.prog (52, a52) := ⟨Go.Proofs.Tryd.f52, Go.Proofs.Tryd.func52, by kernel_rfl⟩
noncomputable def a55 : AFn :=
⟨3,[(.cell 0 true 3)],(.seq (.reg [⟨(some 0),(.a (.alloc 25 [(.bool false),.nilsl,.nilsl])),none,0⟩])
(.seq (.reg [oc 1 66 [] 0,
oq 2 (.build [(.bool false),.nilsl,.nilsl] [(2,1,(.t 1))]),
⟨none,(.x (.st 3 (.t 0) (.t 2))),none,0⟩])
.ret))⟩
theorem row55 : Row Go.Proofs.Tryd.prog (55, a55) := ⟨Go.Proofs.Tryd.f55, Go.Proofs.Tryd.func55, by kernel_rfl⟩
noncomputable def a60 : AFn :=
⟨15,[(.t 4)],(.seq (.reg [oq 4 (.mv (ci 0))])
(.seq (.block 0 (.loop (.seq (.seq (.reg [mt 5 1,
oq 6 (bi .neq (.t 5) (ci 0))])
(.cond (.t 6) .skip (.exit 0)))
(.block 1 (.drw [mt 7 1,
mt 8 0,
mt 9 1,
om 10 6 (bi .rem (.t 8) (.t 9)),
om 0 3 (.mv (.t 7)),
om 1 31 (.mv (.t 10))])))))
(.seq (.reg [mt 11 0,
mt 12 0,
oq 13 (.un .neg (.t 12)),
oq 14 (.minmax true [(.t 11),(.t 13)]),
mt 4 14])
.ret)))⟩
theorem row60 : Row Go.Proofs.Tryd.prog (60, a60) := ⟨Go.Proofs.Tryd.f60, Go.Proofs.Tryd.func60, by kernel_rfl⟩
noncomputable def a61 : AFn :=
⟨15,[(.t 2)],(.seq (.reg [oq 2 (.mv (.c .nilsl))])
(.seq (.reg [oq 3 (.mv (.c .nilsl))])
(.seq (.block 0 (.loop (.seq (.seq (.reg [mt 4 0,
oq 5 (bi .gtr (.t 4) (ci 0))])
(.cond (.t 5) .skip (.exit 0)))
(.block 1 (.seq (.reg [mt 6 3,
mt 7 0,
oq 8 (bi .rem (.t 7) (ci 1000000000)),
oq 9 (.conv (.int .u32) (.t 8)),
⟨(some 10),(.a (.bslice 41 1 1 [(.int .u32 (.ofNat 0))] [(0,(.t 9))])),none,0⟩,
⟨(some 11),(.x (.app 41 1 4 (.t 6) (.t 10))),none,0⟩,
mt 3 11])
(.reg [mt 12 0,
oq 13 (bi .quo (.t 12) (ci 1000000000)),
mt 0 13]))))))
(.seq (.reg [mt 14 3,
mt 2 14])
.ret))))⟩
theorem row61 : Row Go.Proofs.Tryd.prog (61, a61) := ⟨Go.Proofs.Tryd.f61, Go.Proofs.Tryd.func61, by kernel_rfl⟩
noncomputable def a62 : AFn :=
⟨13,[(.t 4)],(.seq (.reg [⟨(some 2),(.a (.box 25 (.t 0))),none,0⟩,
⟨(some 3),(.a (.box 25 (.t 1))),none,0⟩,
oq 4 (.mv (ci 0))])
(.seq (.seq (.reg [oq 6 (.ld true 3 (.t 2)),
oc 7 31 [(.t 6)] 0,
mt 5 7])
(.seq (.reg [mt 8 5,
oq 9 (bi .neq (.t 8) (ci 0))])
(.cond (.t 9) (.seq (.reg [mt 10 5,
mt 4 10])
.ret) .skip)))
(.seq (.reg [oq 11 (.ld true 3 (.t 3)),
oc 12 31 [(.t 11)] 0,
mt 4 12])
.ret)))⟩
theorem row62 : Row Go.Proofs.Tryd.prog (62, a62) := ⟨Go.Proofs.Tryd.f62, Go.Proofs.Tryd.func62, by kernel_rfl⟩
noncomputable def a63 : AFn :=
⟨41,[(.t 4)],(.seq (.reg [oq 4 (.mv (ci 0))])
(.seq (.seq (.reg [mt 6 0,
oq 7 (.lenSl (.t 6)),
mt 8 1,
oq 9 (.lenSl (.t 8)),
oq 10 (bi .neq (.t 7) (.t 9))])
(.cond (.t 10) (.seq (.seq (.reg [mt 11 0,
oq 12 (.lenSl (.t 11)),
mt 13 1,
oq 14 (.lenSl (.t 13)),
oq 15 (bi .lss (.t 12) (.t 14))])
(.cond (.t 15) (.seq (.reg [oq 4 (.mv (.c (.int .i64 (.negSucc 0))))])
.ret) .skip))
(.seq (.reg [oq 4 (.mv (ci 1))])
.ret)) .skip))
(.seq (.seq (.reg [mt 16 0,
oq 17 (.lenSl (.t 16)),
oq 18 (bi .sub (.t 17) (ci 1)),
mt 5 18])
(.block 0 (.loop (.seq (.seq (.reg [mt 19 5,
oq 20 (bi .geq (.t 19) (ci 0))])
(.cond (.t 20) .skip (.exit 0)))
(.seq (.block 1 (.seq (.seq (.drw [mt 23 0,
mt 24 5,
om 25 3 (.iaddr (.slice 1) (.t 23) (.t 24)),
om 26 7 (ld 25),
mt 27 1,
mt 28 5,
om 29 48 (.iaddr (.slice 1) (.t 27) (.t 28)),
om 30 112 (ld 29),
om 31 255 (bi .lss (.t 26) (.t 30))])
(.cond (.t 31) (.seq (.reg [oq 4 (.mv (.c (.int .i64 (.negSucc 0))))])
.ret) .skip))
(.seq (.drw [mt 32 0,
mt 33 5,
om 34 3 (.iaddr (.slice 1) (.t 32) (.t 33)),
om 35 7 (ld 34),
mt 36 1,
mt 37 5,
om 38 48 (.iaddr (.slice 1) (.t 36) (.t 37)),
om 39 112 (ld 38),
om 40 255 (bi .gtr (.t 35) (.t 39))])
(.cond (.t 40) (.seq (.reg [oq 4 (.mv (ci 1))])
.ret) .skip))))
(.reg [mt 21 5,
oq 22 (bi .sub (.t 21) (ci 1)),
mt 5 22]))))))
(.seq (.reg [oq 4 (.mv (ci 0))])
.ret))))⟩
theorem row63 : Row Go.Proofs.Tryd.prog (63, a63) := ⟨Go.Proofs.Tryd.f63, Go.Proofs.Tryd.func63, by kernel_rfl⟩
noncomputable def a64 : AFn :=
⟨77,[(.t 4)],(.seq (.reg [oq 4 (.mv (.c .nilsl))])
(.seq (.seq (.reg [mt 13 0,
oq 14 (.lenSl (.t 13)),
oq 15 (bi .eql (.t 14) (ci 0)),
mt 16 15,
og 17 16 false 0 (.mv (.t 1)),
og 18 16 false 0 (.lenSl (.t 17)),
og 19 16 false 0 (bi .eql (.t 18) (ci 0)),
oq 20 (.pick (.t 16) (.c (.bool true)) (.t 19))])
(.cond (.t 20) (.seq (.reg [oq 4 (.mv (.c .nilsl))])
.ret) .skip))
(.seq (.reg [mt 21 0,
oq 22 (.lenSl (.t 21)),
mt 23 1,
oq 24 (.lenSl (.t 23)),
oq 25 (bi .add (.t 22) (.t 24)),
⟨(some 26),(.a (.mkSlice 41 1 4 [(.int .u32 (.ofNat 0))] (.t 25) (.t 25))),none,0⟩,
mt 5 26])
(.seq (.seq (.reg [mt 27 0,
oq 28 (.lenSl (.t 27)),
oq 29 (.mv (ci 0))])
(.block 0 (.loop (.seq (.reg [oq 30 (bi .lss (.t 29) (.t 28))])
(.seq (.cond (.t 30) .skip (.exit 0))
(.seq (.block 1 (.seq (.reg [mt 31 29,
oq 32 (.iaddr (.slice 1) (.t 27) (.t 29)),
oq 33 (ld 32),
mt 6 31,
mt 7 33])
(.seq (.reg [mt 34 5,
mt 35 6,
oq 36 (.slc (.slice 1) (.t 34) (some (.t 35)) none none),
mt 8 36])
(.seq (.reg [oq 9 (.mv (.c (.int .u64 (.ofNat 0))))])
(.seq (.seq (.reg [mt 37 1,
oq 38 (.lenSl (.t 37)),
oq 39 (.mv (ci 0))])
(.block 2 (.loop (.seq (.reg [oq 40 (bi .lss (.t 39) (.t 38))])
(.seq (.cond (.t 40) .skip (.exit 2))
(.seq (.block 3 (.seq (.reg [mt 41 39,
oq 42 (.iaddr (.slice 1) (.t 37) (.t 39)),
oq 43 (ld 42),
mt 10 41,
mt 11 43])
(.seq (.reg [mt 44 7,
oq 45 (.conv (.int .u64) (.t 44)),
mt 46 11,
oq 47 (.conv (.int .u64) (.t 46)),
oq 48 (bi .mul (.t 45) (.t 47)),
mt 49 8,
mt 50 10,
oq 51 (.iaddr (.slice 1) (.t 49) (.t 50)),
oq 52 (ld 51),
oq 53 (.conv (.int .u64) (.t 52)),
oq 54 (bi .add (.t 48) (.t 53)),
mt 55 9,
oq 56 (bi .add (.t 54) (.t 55)),
mt 12 56])
(.seq (.reg [mt 57 12,
oq 58 (bi .quo (.t 57) (.c (.int .u64 (.ofNat 1000000000)))),
mt 9 58])
(.reg [mt 59 8,
mt 60 10,
mt 61 12,
mt 62 9,
oq 63 (bi .mul (.t 62) (.c (.int .u64 (.ofNat 1000000000)))),
oq 64 (bi .sub (.t 61) (.t 63)),
oq 65 (.conv (.int .u32) (.t 64)),
oq 66 (.iaddr (.slice 1) (.t 59) (.t 60)),
⟨none,(.x (.st 1 (.t 66) (.t 65))),none,0⟩])))))
(.reg [oq 67 (bi .add (.t 39) (ci 1)),
mt 39 67])))))))
(.reg [mt 68 8,
mt 69 1,
oq 70 (.lenSl (.t 69)),
mt 71 9,
oq 72 (.conv (.int .u32) (.t 71)),
oq 73 (.iaddr (.slice 1) (.t 68) (.t 70)),
⟨none,(.x (.st 1 (.t 73) (.t 72))),none,0⟩]))))))
(.reg [oq 74 (bi .add (.t 29) (ci 1)),
mt 29 74])))))))
(.seq (.reg [mt 75 5,
oc 76 103 [(.t 75)] 0,
mt 4 76])
.ret)))))⟩
theorem row64 : Row Go.Proofs.Tryd.prog (64, a64) := ⟨Go.Proofs.Tryd.f64, Go.Proofs.Tryd.func64, by kernel_rfl⟩
noncomputable def a66 : AFn :=
⟨2,[(.t 0)],(.seq (.reg [oq 0 (.mv (.c .nilsl))])
(.seq (.reg [⟨(some 1),(.a (.bslice 41 1 1 [(.int .u32 (.ofNat 0))] [(0,(.c (.int .u32 (.ofNat 1))))])),none,0⟩,
mt 0 1])
.ret))⟩
theorem row66 : Row Go.Proofs.Tryd.prog (66, a66) := ⟨Go.Proofs.Tryd.f66, Go.Proofs.Tryd.func66, by kernel_rfl⟩
noncomputable def a67 : AFn :=
⟨12,[(.cell 2 true 3),(.t 3)],(.seq (.reg [⟨(some 2),(.a (.alloc 25 [(.bool false),.nilsl,.nilsl])),none,0⟩,
oq 3 (.mv (ci 0))])
(.seq (.reg [⟨(some 4),(.a (.alloc 109 [.nilfn])),none,0⟩,
⟨none,(.x (.st 1 (.t 4) (.c (.fn 104 [] [])))),none,0⟩])
(.seq (.reg [oc 5 55 [] 0,
oq 6 (.mkFunc 107 [] [(.t 4)]),
mt 7 0,
oc 8 106 [(.t 5),(.t 6),(.t 7)] 0,
oc 9 52 [(.t 8)] 0,
oq 10 (.extract (.t 9) 0),
oq 11 (.extract (.t 9) 1),
⟨none,(.x (.st 3 (.t 2) (.t 10))),none,0⟩,
mt 3 11])
.ret)))⟩
theorem row67 : Row Go.Proofs.Tryd.prog (67, a67) := ⟨Go.Proofs.Tryd.f67, Go.Proofs.Tryd.func67, by kernel_rfl⟩
end Go.Ev.Gl
