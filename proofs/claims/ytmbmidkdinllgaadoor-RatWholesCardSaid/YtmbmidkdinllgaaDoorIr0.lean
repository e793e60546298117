/- Functions of the program as data of the evaluator, written by program; each is shown to be the compiler's result on the loaded function. -/
import Derived.Test.YtmbmidkdinllgaaDoorProg
import Derived.Test.YtmbmidkdinllgaaDoorEv8
import Derived.KernelRfl
namespace Go.Ev.Gl
set_option maxRecDepth 100000
noncomputable def a8 : AFn :=
⟨130,[(.t 6)],(.seq (.reg [⟨(some 3),(.a (.box 25 (.t 0))),none,0⟩,
oq 6 (.mv (.c (.bool false)))])
(.seq (.seq (.reg [oq 15 (.ld true 3 (.t 3)),
oc 16 10 [(.t 15)] 0])
(.cond (.t 16) (.seq (.reg [oc 17 11 [] 0,
mt 6 17])
.ret) .skip))
(.seq (.reg [mt 19 1,
mt 20 2,
oc 21 39 [(.t 19),(.t 20)] 0,
mt 18 21,
oq 22 (.extract (.t 18) 0),
oq 23 (.extract (.t 18) 1),
⟨(some 7),(.a (.alloc 25 [(.bool false),.nilsl,.nilsl])),none,0⟩,
⟨none,(.x (.st 3 (.t 7) (.t 22))),none,0⟩,
mt 8 23])
(.seq (.reg [mt 25 1,
mt 26 2,
oc 27 40 [(.t 25),(.t 26)] 0,
mt 24 27,
oq 28 (.extract (.t 24) 0),
oq 29 (.extract (.t 24) 1),
⟨(some 9),(.a (.alloc 25 [(.bool false),.nilsl,.nilsl])),none,0⟩,
⟨none,(.x (.st 3 (.t 9) (.t 28))),none,0⟩,
mt 10 29])
(.seq (.seq (.reg [oq 30 (.ld true 3 (.t 7)),
oq 31 (.ld true 3 (.t 9)),
oc 32 14 [(.t 30),(.t 31)] 0,
oq 33 (.un .not (.t 32)),
mt 34 33,
og 35 34 false 0 (.mv (.t 8)),
og 36 34 false 0 (.mv (.t 10)),
og 37 34 false 0 (bi .neq (.t 35) (.t 36)),
oq 38 (.pick (.t 34) (.c (.bool true)) (.t 37))])
(.cond (.t 38) (.seq (.reg [oq 6 (.mv (.c (.bool false)))])
.ret) .skip))
(.seq (.reg [oq 40 (.faddr 0 (.t 3)),
oq 41 (ld 40),
oq 42 (.faddr 1 (.t 3)),
oq 43 (ld 42),
oq 44 (.faddr 2 (.t 3)),
oq 45 (ld 44),
oc 46 41 [(.t 41),(.t 43),(.t 45)] 0,
mt 39 46,
oq 47 (.extract (.t 39) 0),
oq 48 (.extract (.t 39) 1),
⟨none,(.x (.st 3 (.t 7) (.t 47))),none,0⟩,
mt 8 48])
(.seq (.reg [oq 50 (.faddr 0 (.t 3)),
oq 51 (ld 50),
oq 52 (.faddr 1 (.t 3)),
oq 53 (ld 52),
oq 54 (.faddr 2 (.t 3)),
oq 55 (ld 54),
oc 56 42 [(.t 51),(.t 53),(.t 55)] 0,
mt 49 56,
oq 57 (.extract (.t 49) 0),
oq 58 (.extract (.t 49) 1),
⟨none,(.x (.st 3 (.t 9) (.t 57))),none,0⟩,
mt 10 58])
(.seq (.seq (.reg [oq 59 (.ld true 3 (.t 7)),
oq 60 (.ld true 3 (.t 9)),
oc 61 14 [(.t 59),(.t 60)] 0,
oq 62 (.un .not (.t 61)),
mt 63 62,
og 64 63 false 0 (.mv (.t 8)),
og 65 63 false 0 (.mv (.t 10)),
og 66 63 false 0 (bi .neq (.t 64) (.t 65)),
oq 67 (.pick (.t 63) (.c (.bool true)) (.t 66))])
(.cond (.t 67) (.seq (.reg [oq 6 (.mv (.c (.bool false)))])
.ret) .skip))
(.seq (.reg [oq 69 (.ld true 3 (.t 3)),
oc 70 36 [(.t 69)] 0,
mt 68 70,
oq 71 (.extract (.t 68) 0),
oq 72 (.extract (.t 68) 1),
⟨none,(.x (.st 3 (.t 7) (.t 71))),none,0⟩,
mt 8 72])
(.seq (.reg [oq 74 (.ld true 3 (.t 3)),
oc 75 43 [(.t 74)] 0,
mt 73 75,
oq 76 (.extract (.t 73) 0),
oq 77 (.extract (.t 73) 1),
⟨none,(.x (.st 3 (.t 9) (.t 76))),none,0⟩,
mt 10 77])
(.seq (.seq (.reg [oq 78 (.ld true 3 (.t 7)),
oq 79 (.ld true 3 (.t 9)),
oc 80 14 [(.t 78),(.t 79)] 0,
oq 81 (.un .not (.t 80)),
mt 82 81,
og 83 82 false 0 (.mv (.t 8)),
og 84 82 false 0 (.mv (.t 10)),
og 85 82 false 0 (bi .neq (.t 83) (.t 84)),
oq 86 (.pick (.t 82) (.c (.bool true)) (.t 85))])
(.cond (.t 86) (.seq (.reg [oq 6 (.mv (.c (.bool false)))])
.ret) .skip))
(.seq (.reg [oq 88 (.ld true 3 (.t 3)),
oc 89 37 [(.t 88)] 0,
mt 87 89,
oq 90 (.extract (.t 87) 0),
oq 91 (.extract (.t 87) 1),
⟨none,(.x (.st 3 (.t 7) (.t 90))),none,0⟩,
mt 8 91])
(.seq (.reg [oq 93 (.ld true 3 (.t 3)),
oc 94 44 [(.t 93)] 0,
mt 92 94,
oq 95 (.extract (.t 92) 0),
oq 96 (.extract (.t 92) 1),
⟨none,(.x (.st 3 (.t 9) (.t 95))),none,0⟩,
mt 10 96])
(.seq (.reg [oq 98 (.ld true 3 (.t 3)),
mt 99 2,
oc 100 45 [(.t 98),(.t 99)] 0,
mt 97 100,
oq 101 (.extract (.t 97) 0),
oq 102 (.extract (.t 97) 1),
mt 11 101,
mt 12 102])
(.seq (.reg [oq 104 (.ld true 3 (.t 3)),
mt 105 2,
oc 106 46 [(.t 104),(.t 105)] 0,
mt 103 106,
oq 107 (.extract (.t 103) 0),
oq 108 (.extract (.t 103) 1),
mt 13 107,
mt 14 108])
(.seq (.reg [oq 109 (.ld true 3 (.t 7)),
oq 110 (.ld true 3 (.t 9)),
oc 111 14 [(.t 109),(.t 110)] 0,
mt 112 111,
og 113 112 true 0 (.mv (.t 8)),
og 114 112 true 0 (.mv (.t 10)),
og 115 112 true 0 (bi .eql (.t 113) (.t 114)),
oq 116 (.pick (.t 112) (.t 115) (.c (.bool false))),
mt 117 116,
og 118 117 true 0 (.mv (.t 11)),
og 119 117 true 0 (.mv (.t 13)),
og 120 117 true 0 (bi .eql (.t 118) (.t 119)),
oq 121 (.pick (.t 117) (.t 120) (.c (.bool false))),
mt 122 121,
og 123 122 true 0 (.mv (.t 12)),
og 124 122 true 0 (.mv (.t 14)),
og 125 122 true 0 (bi .eql (.t 123) (.t 124)),
oq 126 (.pick (.t 122) (.t 125) (.c (.bool false))),
mt 127 126,
⟨(some 128),(.x (.call (.c (.fn 11 [] [])) [])),(some (127,true)),0⟩,
oq 129 (.pick (.t 127) (.t 128) (.c (.bool false))),
mt 6 129])
.ret))))))))))))))))⟩
theorem row8 : Row Go.Proofs.Tryd.prog (8, a8) := ⟨Go.Proofs.Tryd.f8, Go.Proofs.Tryd.func8, by kernel_rfl⟩
noncomputable def a10 : AFn :=
⟨37,[(.t 2)],(.seq (.reg [⟨(some 1),(.a (.box 25 (.t 0))),none,0⟩,
oq 2 (.mv (.c (.bool false)))])
(.seq (.reg [oq 3 (.faddr 1 (.t 1)),
oq 4 (ld 3),
oq 5 (.lenSl (.t 4)),
oq 6 (bi .gtr (.t 5) (ci 30)),
mt 7 6,
og 8 7 true 0 (.faddr 1 (.t 1)),
og 9 7 true 0 (ld 8),
og 10 7 true 0 (.lenSl (.t 9)),
og 11 7 true 0 (bi .leq (.t 10) (ci 1024)),
oq 12 (.pick (.t 7) (.t 11) (.c (.bool false))),
mt 13 12,
og 14 13 false 0 (.faddr 2 (.t 1)),
og 15 13 false 0 (ld 14),
og 16 13 false 0 (.lenSl (.t 15)),
og 17 13 false 0 (bi .gtr (.t 16) (ci 30)),
og 18 13 false 0 (.mv (.t 17)),
og 19 18 true 0 (.faddr 2 (.t 1)),
og 20 18 true 0 (ld 19),
og 21 18 true 0 (.lenSl (.t 20)),
og 22 18 true 0 (bi .leq (.t 21) (ci 1024)),
og 23 13 false 0 (.pick (.t 18) (.t 22) (.c (.bool false))),
oq 24 (.pick (.t 13) (.c (.bool true)) (.t 23)),
mt 25 24,
og 26 25 false 0 (.faddr 1 (.t 1)),
og 27 25 false 0 (ld 26),
og 28 25 false 0 (.lenSl (.t 27)),
og 29 25 false 0 (bi .gtr (.t 28) (ci 1100)),
oq 30 (.pick (.t 25) (.c (.bool true)) (.t 29)),
mt 31 30,
og 32 31 false 0 (.faddr 2 (.t 1)),
og 33 31 false 0 (ld 32),
og 34 31 false 0 (.lenSl (.t 33)),
og 35 31 false 0 (bi .gtr (.t 34) (ci 1100)),
oq 36 (.pick (.t 31) (.c (.bool true)) (.t 35)),
mt 2 36])
.ret))⟩
theorem row10 : Row Go.Proofs.Tryd.prog (10, a10) := ⟨Go.Proofs.Tryd.f10, Go.Proofs.Tryd.func10, by kernel_rfl⟩
noncomputable def a14 : AFn :=
⟨24,[(.t 4)],(.seq (.reg [⟨(some 2),(.a (.box 25 (.t 0))),none,0⟩,
⟨(some 3),(.a (.box 25 (.t 1))),none,0⟩,
oq 4 (.mv (.c (.bool false)))])
(.seq (.reg [oq 5 (.faddr 0 (.t 2)),
oq 6 (ld 5),
oq 7 (.faddr 0 (.t 3)),
oq 8 (ld 7),
oq 9 (.bin .eql (.p .bool) (.t 6) (.t 8)),
mt 10 9,
og 11 10 true 0 (.faddr 1 (.t 2)),
og 12 10 true 0 (ld 11),
og 13 10 true 0 (.faddr 1 (.t 3)),
og 14 10 true 0 (ld 13),
⟨(some 15),(.x (.call (.c (.fn 38 [] [])) [(.t 12),(.t 14)])),(some (10,true)),0⟩,
oq 16 (.pick (.t 10) (.t 15) (.c (.bool false))),
mt 17 16,
og 18 17 true 0 (.faddr 2 (.t 2)),
og 19 17 true 0 (ld 18),
og 20 17 true 0 (.faddr 2 (.t 3)),
og 21 17 true 0 (ld 20),
⟨(some 22),(.x (.call (.c (.fn 38 [] [])) [(.t 19),(.t 21)])),(some (17,true)),0⟩,
oq 23 (.pick (.t 17) (.t 22) (.c (.bool false))),
mt 4 23])
.ret))⟩
theorem row14 : Row Go.Proofs.Tryd.prog (14, a14) := ⟨Go.Proofs.Tryd.f14, Go.Proofs.Tryd.func14, by kernel_rfl⟩
noncomputable def a31 : AFn :=
⟨28,[(.t 2)],(.seq (.reg [⟨(some 1),(.a (.box 25 (.t 0))),none,0⟩,
oq 2 (.mv (ci 0))])
(.seq (.seq (.reg [oq 4 (.faddr 1 (.t 1)),
oq 5 (ld 4),
oq 6 (.faddr 2 (.t 1)),
oq 7 (ld 6),
oc 8 74 [(.t 5),(.t 7)] 0,
mt 3 8])
(.seq (.reg [mt 9 3,
oq 10 (bi .neq (.t 9) (ci 0))])
(.cond (.t 10) (.seq (.reg [mt 11 3,
mt 2 11])
.ret) .skip)))
(.seq (.seq (.reg [oq 12 (.faddr 1 (.t 1)),
oq 13 (ld 12),
oq 14 (.lenSl (.t 13)),
oq 15 (bi .eql (.t 14) (ci 0)),
mt 16 15,
og 17 16 true 0 (.faddr 0 (.t 1)),
og 18 16 true 0 (ld 17),
oq 19 (.pick (.t 16) (.t 18) (.c (.bool false))),
mt 20 19,
og 21 20 false 0 (.faddr 1 (.t 1)),
og 22 20 false 0 (ld 21),
og 23 20 false 0 (.faddr 2 (.t 1)),
og 24 20 false 0 (ld 23),
⟨(some 25),(.x (.call (.c (.fn 75 [] [])) [(.t 22),(.t 24)])),(some (20,false)),0⟩,
og 26 20 false 0 (.un .not (.t 25)),
oq 27 (.pick (.t 20) (.c (.bool true)) (.t 26))])
(.cond (.t 27) (.seq (.reg [oq 2 (.mv (ci 3))])
.ret) .skip))
(.seq (.reg [oq 2 (.mv (ci 0))])
.ret))))⟩
theorem row31 : Row Go.Proofs.Tryd.prog (31, a31) := ⟨Go.Proofs.Tryd.f31, Go.Proofs.Tryd.func31, by kernel_rfl⟩
noncomputable def a32 : AFn :=
⟨39,[(.t 2)],(.seq (.reg [⟨(some 1),(.a (.box 25 (.t 0))),none,0⟩,
oq 2 (.mv (ci 0))])
(.seq (.seq (.reg [oq 4 (.faddr 1 (.t 1)),
oq 5 (ld 4),
oq 6 (.faddr 2 (.t 1)),
oq 7 (ld 6),
oc 8 76 [(.t 5),(.t 7)] 0,
mt 3 8])
(.seq (.reg [mt 9 3,
oq 10 (bi .neq (.t 9) (ci 0))])
(.cond (.t 10) (.seq (.reg [mt 11 3,
mt 2 11])
.ret) .skip)))
(.seq (.seq (.reg [oq 12 (.faddr 1 (.t 1)),
oq 13 (ld 12),
oq 14 (.faddr 2 (.t 1)),
oq 15 (ld 14),
oc 16 77 [(.t 13),(.t 15)] 0,
oq 17 (.lenSl (.t 16)),
oq 18 (bi .neq (.t 17) (ci 1)),
mt 19 18,
og 20 19 false 0 (.faddr 1 (.t 1)),
og 21 19 false 0 (ld 20),
og 22 19 false 0 (.faddr 2 (.t 1)),
og 23 19 false 0 (ld 22),
⟨(some 24),(.x (.call (.c (.fn 77 [] [])) [(.t 21),(.t 23)])),(some (19,false)),0⟩,
og 25 19 false 0 (.iaddr (.slice 1) (.t 24) (ci 0)),
og 26 19 false 0 (ld 25),
og 27 19 false 0 (bi .neq (.t 26) (.c (.int .u32 (.ofNat 1)))),
oq 28 (.pick (.t 19) (.c (.bool true)) (.t 27)),
mt 29 28,
og 30 29 false 0 (.faddr 0 (.t 1)),
og 31 29 false 0 (ld 30),
og 32 29 false 0 (.mv (.t 31)),
og 33 32 true 0 (.faddr 1 (.t 1)),
og 34 32 true 0 (ld 33),
og 35 32 true 0 (.lenSl (.t 34)),
og 36 32 true 0 (bi .eql (.t 35) (ci 0)),
og 37 29 false 0 (.pick (.t 32) (.t 36) (.c (.bool false))),
oq 38 (.pick (.t 29) (.c (.bool true)) (.t 37))])
(.cond (.t 38) (.seq (.reg [oq 2 (.mv (ci 3))])
.ret) .skip))
(.seq (.reg [oq 2 (.mv (ci 0))])
.ret))))⟩
theorem row32 : Row Go.Proofs.Tryd.prog (32, a32) := ⟨Go.Proofs.Tryd.f32, Go.Proofs.Tryd.func32, by kernel_rfl⟩
noncomputable def a36 : AFn :=
⟨24,[(.cell 2 true 3),(.t 3)],(.seq (.reg [⟨(some 1),(.a (.box 25 (.t 0))),none,0⟩,
⟨(some 2),(.a (.alloc 25 [(.bool false),.nilsl,.nilsl])),none,0⟩,
oq 3 (.mv (ci 0))])
(.seq (.seq (.reg [oq 5 (.ld true 3 (.t 1)),
oc 6 31 [(.t 5)] 0,
mt 4 6])
(.seq (.reg [mt 7 4,
oq 8 (bi .neq (.t 7) (ci 0))])
(.cond (.t 8) (.seq (.reg [oq 9 (.build [(.bool false),.nilsl,.nilsl] []),
mt 10 4,
⟨none,(.x (.st 3 (.t 2) (.t 9))),none,0⟩,
mt 3 10])
.ret) .skip)))
(.seq (.reg [oq 11 (.faddr 0 (.t 1)),
oq 12 (ld 11),
oq 13 (.faddr 1 (.t 1)),
oq 14 (ld 13),
oq 15 (.faddr 2 (.t 1)),
oq 16 (ld 15),
oc 17 79 [(.t 12),(.t 14),(.t 16)] 0,
oq 18 (.extract (.t 17) 0),
oq 19 (.extract (.t 17) 1),
oc 20 65 [(.t 18),(.t 19)] 0,
oc 21 52 [(.t 20)] 0,
oq 22 (.extract (.t 21) 0),
oq 23 (.extract (.t 21) 1),
⟨none,(.x (.st 3 (.t 2) (.t 22))),none,0⟩,
mt 3 23])
.ret)))⟩
theorem row36 : Row Go.Proofs.Tryd.prog (36, a36) := ⟨Go.Proofs.Tryd.f36, Go.Proofs.Tryd.func36, by kernel_rfl⟩
noncomputable def a37 : AFn :=
⟨31,[(.cell 2 true 3),(.t 3)],(.seq (.reg [⟨(some 1),(.a (.box 25 (.t 0))),none,0⟩,
⟨(some 2),(.a (.alloc 25 [(.bool false),.nilsl,.nilsl])),none,0⟩,
oq 3 (.mv (ci 0))])
(.seq (.seq (.reg [oq 7 (.ld true 3 (.t 1)),
oc 8 31 [(.t 7)] 0,
mt 4 8])
(.seq (.reg [mt 9 4,
oq 10 (bi .neq (.t 9) (ci 0))])
(.cond (.t 10) (.seq (.reg [oq 11 (.build [(.bool false),.nilsl,.nilsl] []),
mt 12 4,
⟨none,(.x (.st 3 (.t 2) (.t 11))),none,0⟩,
mt 3 12])
.ret) .skip)))
(.seq (.reg [oq 14 (.faddr 0 (.t 1)),
oq 15 (ld 14),
oq 16 (.un .not (.t 15)),
oq 17 (.faddr 1 (.t 1)),
oq 18 (ld 17),
oq 19 (.faddr 2 (.t 1)),
oq 20 (ld 19),
oc 21 79 [(.t 16),(.t 18),(.t 20)] 0,
mt 13 21,
oq 22 (.extract (.t 13) 0),
oq 23 (.extract (.t 13) 1),
mt 5 22,
mt 6 23])
(.seq (.reg [mt 24 5,
oq 25 (.un .not (.t 24)),
mt 26 6,
oc 27 65 [(.t 25),(.t 26)] 0,
oc 28 52 [(.t 27)] 0,
oq 29 (.extract (.t 28) 0),
oq 30 (.extract (.t 28) 1),
⟨none,(.x (.st 3 (.t 2) (.t 29))),none,0⟩,
mt 3 30])
.ret))))⟩
theorem row37 : Row Go.Proofs.Tryd.prog (37, a37) := ⟨Go.Proofs.Tryd.f37, Go.Proofs.Tryd.func37, by kernel_rfl⟩
noncomputable def a38 : AFn :=
⟨26,[(.t 4)],(.seq (.reg [oq 4 (.mv (.c (.bool false)))])
(.seq (.seq (.reg [mt 6 0,
oq 7 (.lenSl (.t 6)),
mt 8 1,
oq 9 (.lenSl (.t 8)),
oq 10 (bi .neq (.t 7) (.t 9))])
(.cond (.t 10) (.seq (.reg [oq 4 (.mv (.c (.bool false)))])
.ret) .skip))
(.seq (.seq (.reg [oq 5 (.mv (ci 0))])
(.block 0 (.loop (.seq (.seq (.reg [mt 11 5,
mt 12 0,
oq 13 (.lenSl (.t 12)),
oq 14 (bi .lss (.t 11) (.t 13))])
(.cond (.t 14) .skip (.exit 0)))
(.seq (.block 1 (.seq (.drw [mt 17 0,
mt 18 5,
om 19 3 (.iaddr (.slice 1) (.t 17) (.t 18)),
om 20 7 (ld 19),
mt 21 1,
mt 22 5,
om 23 48 (.iaddr (.slice 1) (.t 21) (.t 22)),
om 24 112 (ld 23),
om 25 255 (bi .neq (.t 20) (.t 24))])
(.cond (.t 25) (.seq (.reg [oq 4 (.mv (.c (.bool false)))])
.ret) .skip)))
(.reg [mt 15 5,
oq 16 (bi .add (.t 15) (ci 1)),
mt 5 16]))))))
(.seq (.reg [oq 4 (.mv (.c (.bool true)))])
.ret))))⟩
theorem row38 : Row Go.Proofs.Tryd.prog (38, a38) := ⟨Go.Proofs.Tryd.f38, Go.Proofs.Tryd.func38, by kernel_rfl⟩
noncomputable def a39 : AFn :=
⟨21,[(.cell 4 true 3),(.t 5)],(.seq (.reg [⟨(some 4),(.a (.alloc 25 [(.bool false),.nilsl,.nilsl])),none,0⟩,
oq 5 (.mv (ci 0))])
(.seq (.seq (.reg [mt 6 1,
oq 7 (bi .eql (.t 6) (ci 0))])
(.cond (.t 7) (.seq (.reg [oq 8 (.build [(.bool false),.nilsl,.nilsl] []),
⟨none,(.x (.st 3 (.t 4) (.t 8))),none,0⟩,
oq 5 (.mv (ci 6))])
.ret) .skip))
(.seq (.reg [mt 9 0,
oq 10 (bi .lss (.t 9) (ci 0)),
mt 11 1,
oq 12 (bi .lss (.t 11) (ci 0)),
oq 13 (.bin .neq (.p .bool) (.t 10) (.t 12)),
mt 14 0,
oc 15 82 [(.t 14)] 0,
oc 16 81 [(.t 15)] 0,
mt 17 1,
oc 18 82 [(.t 17)] 0,
oc 19 81 [(.t 18)] 0,
oc 20 80 [(.t 13),(.t 16),(.t 19)] 0,
⟨none,(.x (.st 3 (.t 4) (.t 20))),none,0⟩,
oq 5 (.mv (ci 0))])
.ret)))⟩
theorem row39 : Row Go.Proofs.Tryd.prog (39, a39) := ⟨Go.Proofs.Tryd.f39, Go.Proofs.Tryd.func39, by kernel_rfl⟩
noncomputable def a40 : AFn :=
⟨12,[(.cell 4 true 3),(.t 5)],(.seq (.reg [⟨(some 4),(.a (.alloc 25 [(.bool false),.nilsl,.nilsl])),none,0⟩,
oq 5 (.mv (ci 0))])
(.seq (.seq (.reg [mt 6 1,
oq 7 (bi .eql (.t 6) (ci 0))])
(.cond (.t 7) (.seq (.reg [oq 8 (.build [(.bool false),.nilsl,.nilsl] []),
⟨none,(.x (.st 3 (.t 4) (.t 8))),none,0⟩,
oq 5 (.mv (ci 6))])
.ret) .skip))
(.seq (.reg [mt 9 0,
mt 10 1,
oc 11 83 [(.t 9),(.t 10)] 0,
⟨none,(.x (.st 3 (.t 4) (.t 11))),none,0⟩,
oq 5 (.mv (ci 0))])
.ret)))⟩
theorem row40 : Row Go.Proofs.Tryd.prog (40, a40) := ⟨Go.Proofs.Tryd.f40, Go.Proofs.Tryd.func40, by kernel_rfl⟩
noncomputable def a41 : AFn :=
⟨20,[(.cell 6 true 3),(.t 7)],(.seq (.reg [⟨(some 6),(.a (.alloc 25 [(.bool false),.nilsl,.nilsl])),none,0⟩,
oq 7 (.mv (ci 0))])
(.seq (.seq (.reg [mt 9 1,
mt 10 2,
oc 11 74 [(.t 9),(.t 10)] 0,
mt 8 11])
(.seq (.reg [mt 12 8,
oq 13 (bi .neq (.t 12) (ci 0))])
(.cond (.t 13) (.seq (.reg [oq 14 (.build [(.bool false),.nilsl,.nilsl] []),
mt 15 8,
⟨none,(.x (.st 3 (.t 6) (.t 14))),none,0⟩,
mt 7 15])
.ret) .skip)))
(.seq (.reg [mt 16 0,
mt 17 1,
mt 18 2,
oc 19 80 [(.t 16),(.t 17),(.t 18)] 0,
⟨none,(.x (.st 3 (.t 6) (.t 19))),none,0⟩,
oq 7 (.mv (ci 0))])
.ret)))⟩
theorem row41 : Row Go.Proofs.Tryd.prog (41, a41) := ⟨Go.Proofs.Tryd.f41, Go.Proofs.Tryd.func41, by kernel_rfl⟩
noncomputable def a42 : AFn :=
⟨23,[(.cell 6 true 3),(.t 7)],(.seq (.reg [⟨(some 6),(.a (.alloc 25 [(.bool false),.nilsl,.nilsl])),none,0⟩,
oq 7 (.mv (ci 0))])
(.seq (.seq (.reg [mt 9 1,
mt 10 2,
oc 11 76 [(.t 9),(.t 10)] 0,
mt 8 11])
(.seq (.reg [mt 12 8,
oq 13 (bi .neq (.t 12) (ci 0))])
(.cond (.t 13) (.seq (.reg [oq 14 (.build [(.bool false),.nilsl,.nilsl] []),
mt 15 8,
⟨none,(.x (.st 3 (.t 6) (.t 14))),none,0⟩,
mt 7 15])
.ret) .skip)))
(.seq (.reg [mt 16 0,
mt 17 1,
mt 18 2,
oc 19 84 [(.t 16),(.t 17),(.t 18)] 0,
oc 20 58 [(.t 19)] 0,
oq 21 (.extract (.t 20) 0),
oq 22 (.extract (.t 20) 1),
⟨none,(.x (.st 3 (.t 6) (.t 21))),none,0⟩,
mt 7 22])
.ret)))⟩
theorem row42 : Row Go.Proofs.Tryd.prog (42, a42) := ⟨Go.Proofs.Tryd.f42, Go.Proofs.Tryd.func42, by kernel_rfl⟩
noncomputable def a43 : AFn :=
⟨16,[(.cell 2 true 3),(.t 3)],(.seq (.reg [⟨(some 1),(.a (.box 25 (.t 0))),none,0⟩,
⟨(some 2),(.a (.alloc 25 [(.bool false),.nilsl,.nilsl])),none,0⟩,
oq 3 (.mv (ci 0))])
(.seq (.seq (.reg [oq 5 (.ld true 3 (.t 1)),
oc 6 32 [(.t 5)] 0,
mt 4 6])
(.seq (.reg [mt 7 4,
oq 8 (bi .neq (.t 7) (ci 0))])
(.cond (.t 8) (.seq (.reg [oq 9 (.build [(.bool false),.nilsl,.nilsl] []),
mt 10 4,
⟨none,(.x (.st 3 (.t 2) (.t 9))),none,0⟩,
mt 3 10])
.ret) .skip)))
(.seq (.reg [oq 11 (.ld true 3 (.t 1)),
oc 12 85 [(.t 11)] 0,
oc 13 58 [(.t 12)] 0,
oq 14 (.extract (.t 13) 0),
oq 15 (.extract (.t 13) 1),
⟨none,(.x (.st 3 (.t 2) (.t 14))),none,0⟩,
mt 3 15])
.ret)))⟩
theorem row43 : Row Go.Proofs.Tryd.prog (43, a43) := ⟨Go.Proofs.Tryd.f43, Go.Proofs.Tryd.func43, by kernel_rfl⟩
noncomputable def a44 : AFn :=
⟨16,[(.cell 2 true 3),(.t 3)],(.seq (.reg [⟨(some 1),(.a (.box 25 (.t 0))),none,0⟩,
⟨(some 2),(.a (.alloc 25 [(.bool false),.nilsl,.nilsl])),none,0⟩,
oq 3 (.mv (ci 0))])
(.seq (.seq (.reg [oq 5 (.ld true 3 (.t 1)),
oc 6 32 [(.t 5)] 0,
mt 4 6])
(.seq (.reg [mt 7 4,
oq 8 (bi .neq (.t 7) (ci 0))])
(.cond (.t 8) (.seq (.reg [oq 9 (.build [(.bool false),.nilsl,.nilsl] []),
mt 10 4,
⟨none,(.x (.st 3 (.t 2) (.t 9))),none,0⟩,
mt 3 10])
.ret) .skip)))
(.seq (.reg [oq 11 (.ld true 3 (.t 1)),
oc 12 86 [(.t 11)] 0,
oc 13 58 [(.t 12)] 0,
oq 14 (.extract (.t 13) 0),
oq 15 (.extract (.t 13) 1),
⟨none,(.x (.st 3 (.t 2) (.t 14))),none,0⟩,
mt 3 15])
.ret)))⟩
theorem row44 : Row Go.Proofs.Tryd.prog (44, a44) := ⟨Go.Proofs.Tryd.f44, Go.Proofs.Tryd.func44, by kernel_rfl⟩
noncomputable def a45 : AFn :=
⟨62,[(.t 4),(.t 5)],(.seq (.reg [⟨(some 2),(.a (.box 25 (.t 0))),none,0⟩,
oq 4 (.mv (ci 0)),
oq 5 (.mv (ci 0))])
(.seq (.seq (.reg [oq 11 (.ld true 3 (.t 2)),
oc 12 31 [(.t 11)] 0,
mt 6 12])
(.seq (.reg [mt 13 6,
oq 14 (bi .neq (.t 13) (ci 0))])
(.cond (.t 14) (.seq (.reg [mt 15 6,
oq 4 (.mv (ci 0)),
mt 5 15])
.ret) .skip)))
(.seq (.drw [oq 17 (.faddr 0 (.t 2)),
om 18 1 (ld 17),
mt 19 1,
om 20 4 (bi .lss (.t 19) (ci 0)),
om 21 15 (.bin .neq (.p .bool) (.t 18) (.t 20)),
oq 22 (.faddr 1 (.t 2)),
om 23 32 (ld 22),
mt 24 1,
oc 25 82 [(.t 24)] 128,
oc 26 81 [(.t 25)] 384,
oc 27 64 [(.t 23),(.t 26)] 992,
oq 28 (.faddr 2 (.t 2)),
om 29 2048 (ld 28),
oc 30 79 [(.t 21),(.t 27),(.t 29)] 8191,
om 16 16383 (.mv (.t 30)),
om 31 32767 (.extract (.t 16) 0),
om 32 32767 (.extract (.t 16) 1),
om 7 65535 (.mv (.t 31)),
om 8 262143 (.mv (.t 32))])
(.seq (.reg [mt 34 8,
oc 35 87 [(.t 34)] 0,
mt 33 35,
oq 36 (.extract (.t 33) 0),
oq 37 (.extract (.t 33) 1),
mt 9 36,
mt 10 37])
(.seq (.block 0 (.seq (.reg [mt 39 10,
mt 40 39,
og 41 40 true 0 (.mv (.t 7)),
og 42 40 true 0 (.un .not (.t 41)),
oq 43 (.pick (.t 40) (.t 42) (.c (.bool false))),
mt 44 43,
og 45 44 true 0 (.mv (.t 9)),
og 46 44 true 0 (bi .leq (.t 45) (.c (.int .u64 (.ofNat 9223372036854775807)))),
oq 47 (.pick (.t 44) (.t 46) (.c (.bool false))),
mt 38 47])
(.cond (.t 38) (.seq (.reg [mt 48 9,
oq 49 (.conv (.int .i64) (.t 48)),
mt 4 49,
oq 5 (.mv (ci 0))])
.ret) (.seq (.reg [mt 51 10,
mt 52 51,
og 53 52 true 0 (.mv (.t 7)),
oq 54 (.pick (.t 52) (.t 53) (.c (.bool false))),
mt 55 54,
og 56 55 true 0 (.mv (.t 9)),
og 57 55 true 0 (bi .leq (.t 56) (.c (.int .u64 (.ofNat 9223372036854775808)))),
oq 58 (.pick (.t 55) (.t 57) (.c (.bool false))),
mt 50 58])
(.cond (.t 50) (.seq (.reg [mt 59 9,
oq 60 (.un .neg (.t 59)),
oq 61 (.conv (.int .i64) (.t 60)),
mt 4 61,
oq 5 (.mv (ci 0))])
.ret) .skip)))))
(.seq (.reg [oq 4 (.mv (ci 0)),
oq 5 (.mv (ci 5))])
.ret))))))⟩
theorem row45 : Row Go.Proofs.Tryd.prog (45, a45) := ⟨Go.Proofs.Tryd.f45, Go.Proofs.Tryd.func45, by kernel_rfl⟩
noncomputable def a46 : AFn :=
⟨20,[(.t 4),(.t 5)],(.seq (.reg [⟨(some 2),(.a (.box 25 (.t 0))),none,0⟩,
oq 4 (.mv (ci 0)),
oq 5 (.mv (ci 0))])
(.seq (.seq (.reg [oq 7 (.ld true 3 (.t 2)),
oc 8 32 [(.t 7)] 0,
mt 6 8])
(.seq (.reg [mt 9 6,
oq 10 (bi .neq (.t 9) (ci 0))])
(.cond (.t 10) (.seq (.reg [mt 11 6,
oq 4 (.mv (ci 0)),
mt 5 11])
.ret) .skip)))
(.seq (.drw [oq 12 (.ld true 3 (.t 2)),
mt 13 1,
oc 14 89 [(.t 13)] 2,
oc 15 70 [(.t 12),(.t 14)] 7,
oc 16 85 [(.t 15)] 15,
oc 17 88 [(.t 16)] 31,
om 18 63 (.extract (.t 17) 0),
om 19 63 (.extract (.t 17) 1),
om 4 255 (.mv (.t 18)),
om 5 511 (.mv (.t 19))])
.ret)))⟩
theorem row46 : Row Go.Proofs.Tryd.prog (46, a46) := ⟨Go.Proofs.Tryd.f46, Go.Proofs.Tryd.func46, by kernel_rfl⟩
noncomputable def a52 : AFn :=
⟨9,[(.cell 2 true 3),(.t 3)],(.seq (.reg [⟨(some 1),(.a (.box 25 (.t 0))),none,0⟩,
⟨(some 2),(.a (.alloc 25 [(.bool false),.nilsl,.nilsl])),none,0⟩,
oq 3 (.mv (ci 0))])
(.seq (.seq (.reg [oq 4 (.ld true 3 (.t 1)),
oc 5 97 [(.t 4)] 0,
oq 6 (.un .not (.t 5))])
(.cond (.t 6) (.seq (.reg [oq 7 (.build [(.bool false),.nilsl,.nilsl] []),
⟨none,(.x (.st 3 (.t 2) (.t 7))),none,0⟩,
oq 3 (.mv (ci 5))])
.ret) .skip))
(.seq (.reg [oq 8 (.ld true 3 (.t 1)),
⟨none,(.x (.st 3 (.t 2) (.t 8))),none,0⟩,
oq 3 (.mv (ci 0))])
.ret)))⟩
theorem row52 : Row Go.Proofs.Tryd.prog (52, a52) := ⟨Go.Proofs.Tryd.f52, Go.Proofs.Tryd.func52, by kernel_rfl⟩
noncomputable def a55 : AFn :=
⟨3,[(.cell 0 true 3)],(.seq (.reg [⟨(some 0),(.a (.alloc 25 [(.bool false),.nilsl,.nilsl])),none,0⟩])
(.seq (.reg [oc 1 66 [] 0,
oq 2 (.build [(.bool false),.nilsl,.nilsl] [(2,1,(.t 1))]),
⟨none,(.x (.st 3 (.t 0) (.t 2))),none,0⟩])
.ret))⟩
theorem row55 : Row Go.Proofs.Tryd.prog (55, a55) := ⟨Go.Proofs.Tryd.f55, Go.Proofs.Tryd.func55, by kernel_rfl⟩
noncomputable def a58 : AFn :=
⟨32,[(.cell 2 true 3),(.t 3)],(.seq (.reg [⟨(some 1),(.a (.box 25 (.t 0))),none,0⟩,
⟨(some 2),(.a (.alloc 25 [(.bool false),.nilsl,.nilsl])),none,0⟩,
oq 3 (.mv (ci 0))])
(.seq (.reg [oq 9 (.faddr 1 (.t 1)),
oq 10 (ld 9),
oc 11 102 [(.t 10)] 0,
mt 8 11,
oq 12 (.extract (.t 8) 0),
oq 13 (.extract (.t 8) 1),
mt 4 12,
mt 5 13])
(.seq (.reg [oq 15 (.faddr 2 (.t 1)),
oq 16 (ld 15),
oc 17 102 [(.t 16)] 0,
mt 14 17,
oq 18 (.extract (.t 14) 0),
oq 19 (.extract (.t 14) 1),
mt 6 18,
mt 7 19])
(.seq (.seq (.reg [mt 20 5,
oq 21 (bi .neq (.t 20) (ci 0)),
mt 22 21,
og 23 22 false 0 (.mv (.t 7)),
og 24 22 false 0 (bi .neq (.t 23) (ci 0)),
oq 25 (.pick (.t 22) (.c (.bool true)) (.t 24))])
(.cond (.t 25) (.seq (.reg [oq 26 (.build [(.bool false),.nilsl,.nilsl] []),
⟨none,(.x (.st 3 (.t 2) (.t 26))),none,0⟩,
oq 3 (.mv (ci 5))])
.ret) .skip))
(.seq (.reg [oq 27 (.faddr 0 (.t 1)),
oq 28 (ld 27),
mt 29 4,
mt 30 6,
oq 31 (.build [(.bool false),.nilsl,.nilsl] [(0,1,(.t 28)),(1,1,(.t 29)),(2,1,(.t 30))]),
⟨none,(.x (.st 3 (.t 2) (.t 31))),none,0⟩,
oq 3 (.mv (ci 0))])
.ret)))))⟩
theorem row58 : Row Go.Proofs.Tryd.prog (58, a58) := ⟨Go.Proofs.Tryd.f58, Go.Proofs.Tryd.func58, by kernel_rfl⟩
noncomputable def a63 : AFn :=
⟨41,[(.t 4)],(.seq (.reg [oq 4 (.mv (ci 0))])
(.seq (.seq (.reg [mt 6 0,
oq 7 (.lenSl (.t 6)),
mt 8 1,
oq 9 (.lenSl (.t 8)),
oq 10 (bi .neq (.t 7) (.t 9))])
(.cond (.t 10) (.seq (.seq (.reg [mt 11 0,
oq 12 (.lenSl (.t 11)),
mt 13 1,
oq 14 (.lenSl (.t 13)),
oq 15 (bi .lss (.t 12) (.t 14))])
(.cond (.t 15) (.seq (.reg [oq 4 (.mv (.c (.int .i64 (.negSucc 0))))])
.ret) .skip))
(.seq (.reg [oq 4 (.mv (ci 1))])
.ret)) .skip))
(.seq (.seq (.reg [mt 16 0,
oq 17 (.lenSl (.t 16)),
oq 18 (bi .sub (.t 17) (ci 1)),
mt 5 18])
(.block 0 (.loop (.seq (.seq (.reg [mt 19 5,
oq 20 (bi .geq (.t 19) (ci 0))])
(.cond (.t 20) .skip (.exit 0)))
(.seq (.block 1 (.seq (.seq (.drw [mt 23 0,
mt 24 5,
om 25 3 (.iaddr (.slice 1) (.t 23) (.t 24)),
om 26 7 (ld 25),
mt 27 1,
mt 28 5,
om 29 48 (.iaddr (.slice 1) (.t 27) (.t 28)),
om 30 112 (ld 29),
om 31 255 (bi .lss (.t 26) (.t 30))])
(.cond (.t 31) (.seq (.reg [oq 4 (.mv (.c (.int .i64 (.negSucc 0))))])
.ret) .skip))
(.seq (.drw [mt 32 0,
mt 33 5,
om 34 3 (.iaddr (.slice 1) (.t 32) (.t 33)),
om 35 7 (ld 34),
mt 36 1,
mt 37 5,
om 38 48 (.iaddr (.slice 1) (.t 36) (.t 37)),
om 39 112 (ld 38),
om 40 255 (bi .gtr (.t 35) (.t 39))])
(.cond (.t 40) (.seq (.reg [oq 4 (.mv (ci 1))])
.ret) .skip))))
(.reg [mt 21 5,
oq 22 (bi .sub (.t 21) (ci 1)),
mt 5 22]))))))
(.seq (.reg [oq 4 (.mv (ci 0))])
.ret))))⟩
theorem row63 : Row Go.Proofs.Tryd.prog (63, a63) := ⟨Go.Proofs.Tryd.f63, Go.Proofs.Tryd.func63, by kernel_rfl⟩
end Go.Ev.Gl
