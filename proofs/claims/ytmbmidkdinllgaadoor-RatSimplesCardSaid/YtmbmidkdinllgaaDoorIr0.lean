/- Functions of the program as data of the evaluator, written by program; each is shown to be the compiler's result on the loaded function. -/
import Derived.Test.YtmbmidkdinllgaaDoorProg
import Derived.Test.YtmbmidkdinllgaaDoorEv8
import Derived.KernelRfl
namespace Go.Ev.Gl
set_option maxRecDepth 100000
noncomputable def a3 : AFn :=
⟨87,[(.t 4)],(.seq (.reg [⟨(some 2),(.a (.box 25 (.t 0))),none,0⟩,
⟨(some 3),(.a (.box 25 (.t 1))),none,0⟩,
oq 4 (.mv (.c (.bool false)))])
(.seq (.seq (.reg [oq 9 (.ld true 3 (.t 2)),
oc 10 10 [(.t 9)] 0,
mt 11 10,
og 12 11 false 0 (.ld true 3 (.t 3)),
⟨(some 13),(.x (.call (.c (.fn 10 [] [])) [(.t 12)])),(some (11,false)),0⟩,
oq 14 (.pick (.t 11) (.c (.bool true)) (.t 13)),
mt 15 14,
og 16 15 false 0 (.faddr 1 (.t 2)),
og 17 15 false 0 (ld 16),
og 18 15 false 0 (.lenSl (.t 17)),
og 19 15 false 0 (bi .gtr (.t 18) (ci 6)),
og 20 15 false 0 (.mv (.t 19)),
og 21 20 true 0 (.faddr 1 (.t 2)),
og 22 20 true 0 (ld 21),
og 23 20 true 0 (.lenSl (.t 22)),
og 24 20 true 0 (bi .lss (.t 23) (ci 31)),
og 25 15 false 0 (.pick (.t 20) (.t 24) (.c (.bool false))),
oq 26 (.pick (.t 15) (.c (.bool true)) (.t 25)),
mt 27 26,
og 28 27 false 0 (.faddr 2 (.t 2)),
og 29 27 false 0 (ld 28),
og 30 27 false 0 (.lenSl (.t 29)),
og 31 27 false 0 (bi .gtr (.t 30) (ci 6)),
og 32 27 false 0 (.mv (.t 31)),
og 33 32 true 0 (.faddr 2 (.t 2)),
og 34 32 true 0 (ld 33),
og 35 32 true 0 (.lenSl (.t 34)),
og 36 32 true 0 (bi .lss (.t 35) (ci 31)),
og 37 27 false 0 (.pick (.t 32) (.t 36) (.c (.bool false))),
oq 38 (.pick (.t 27) (.c (.bool true)) (.t 37)),
mt 39 38,
og 40 39 false 0 (.faddr 1 (.t 3)),
og 41 39 false 0 (ld 40),
og 42 39 false 0 (.lenSl (.t 41)),
og 43 39 false 0 (bi .gtr (.t 42) (ci 6)),
og 44 39 false 0 (.mv (.t 43)),
og 45 44 true 0 (.faddr 1 (.t 3)),
og 46 44 true 0 (ld 45),
og 47 44 true 0 (.lenSl (.t 46)),
og 48 44 true 0 (bi .lss (.t 47) (ci 31)),
og 49 39 false 0 (.pick (.t 44) (.t 48) (.c (.bool false))),
oq 50 (.pick (.t 39) (.c (.bool true)) (.t 49)),
mt 51 50,
og 52 51 false 0 (.faddr 2 (.t 3)),
og 53 51 false 0 (ld 52),
og 54 51 false 0 (.lenSl (.t 53)),
og 55 51 false 0 (bi .gtr (.t 54) (ci 6)),
og 56 51 false 0 (.mv (.t 55)),
og 57 56 true 0 (.faddr 2 (.t 3)),
og 58 56 true 0 (ld 57),
og 59 56 true 0 (.lenSl (.t 58)),
og 60 56 true 0 (bi .lss (.t 59) (ci 31)),
og 61 51 false 0 (.pick (.t 56) (.t 60) (.c (.bool false))),
oq 62 (.pick (.t 51) (.c (.bool true)) (.t 61))])
(.cond (.t 62) (.seq (.reg [oc 63 11 [] 0,
mt 4 63])
.ret) .skip))
(.seq (.reg [oq 65 (.ld true 3 (.t 2)),
oq 66 (.ld true 3 (.t 3)),
oc 67 12 [(.t 65),(.t 66)] 0,
mt 64 67,
oq 68 (.extract (.t 64) 0),
oq 69 (.extract (.t 64) 1),
⟨(some 5),(.a (.alloc 25 [(.bool false),.nilsl,.nilsl])),none,0⟩,
⟨none,(.x (.st 3 (.t 5) (.t 68))),none,0⟩,
mt 6 69])
(.seq (.reg [oq 71 (.ld true 3 (.t 2)),
oq 72 (.ld true 3 (.t 3)),
oc 73 13 [(.t 71),(.t 72)] 0,
mt 70 73,
oq 74 (.extract (.t 70) 0),
oq 75 (.extract (.t 70) 1),
⟨(some 7),(.a (.alloc 25 [(.bool false),.nilsl,.nilsl])),none,0⟩,
⟨none,(.x (.st 3 (.t 7) (.t 74))),none,0⟩,
mt 8 75])
(.seq (.reg [oq 76 (.ld true 3 (.t 5)),
oq 77 (.ld true 3 (.t 7)),
oc 78 14 [(.t 76),(.t 77)] 0,
mt 79 78,
og 80 79 true 0 (.mv (.t 6)),
og 81 79 true 0 (.mv (.t 8)),
og 82 79 true 0 (bi .eql (.t 80) (.t 81)),
oq 83 (.pick (.t 79) (.t 82) (.c (.bool false))),
mt 84 83,
⟨(some 85),(.x (.call (.c (.fn 11 [] [])) [])),(some (84,true)),0⟩,
oq 86 (.pick (.t 84) (.t 85) (.c (.bool false))),
mt 4 86])
.ret)))))⟩
theorem row3 : Row Go.Proofs.Tryd.prog (3, a3) := ⟨Go.Proofs.Tryd.f3, Go.Proofs.Tryd.func3, by kernel_rfl⟩
noncomputable def a10 : AFn :=
⟨37,[(.t 2)],(.seq (.reg [⟨(some 1),(.a (.box 25 (.t 0))),none,0⟩,
oq 2 (.mv (.c (.bool false)))])
(.seq (.reg [oq 3 (.faddr 1 (.t 1)),
oq 4 (ld 3),
oq 5 (.lenSl (.t 4)),
oq 6 (bi .gtr (.t 5) (ci 30)),
mt 7 6,
og 8 7 true 0 (.faddr 1 (.t 1)),
og 9 7 true 0 (ld 8),
og 10 7 true 0 (.lenSl (.t 9)),
og 11 7 true 0 (bi .leq (.t 10) (ci 1024)),
oq 12 (.pick (.t 7) (.t 11) (.c (.bool false))),
mt 13 12,
og 14 13 false 0 (.faddr 2 (.t 1)),
og 15 13 false 0 (ld 14),
og 16 13 false 0 (.lenSl (.t 15)),
og 17 13 false 0 (bi .gtr (.t 16) (ci 30)),
og 18 13 false 0 (.mv (.t 17)),
og 19 18 true 0 (.faddr 2 (.t 1)),
og 20 18 true 0 (ld 19),
og 21 18 true 0 (.lenSl (.t 20)),
og 22 18 true 0 (bi .leq (.t 21) (ci 1024)),
og 23 13 false 0 (.pick (.t 18) (.t 22) (.c (.bool false))),
oq 24 (.pick (.t 13) (.c (.bool true)) (.t 23)),
mt 25 24,
og 26 25 false 0 (.faddr 1 (.t 1)),
og 27 25 false 0 (ld 26),
og 28 25 false 0 (.lenSl (.t 27)),
og 29 25 false 0 (bi .gtr (.t 28) (ci 1100)),
oq 30 (.pick (.t 25) (.c (.bool true)) (.t 29)),
mt 31 30,
og 32 31 false 0 (.faddr 2 (.t 1)),
og 33 31 false 0 (ld 32),
og 34 31 false 0 (.lenSl (.t 33)),
og 35 31 false 0 (bi .gtr (.t 34) (ci 1100)),
oq 36 (.pick (.t 31) (.c (.bool true)) (.t 35)),
mt 2 36])
.ret))⟩
theorem row10 : Row Go.Proofs.Tryd.prog (10, a10) := ⟨Go.Proofs.Tryd.f10, Go.Proofs.Tryd.func10, by kernel_rfl⟩
noncomputable def a12 : AFn :=
⟨50,[(.cell 4 true 3),(.t 5)],(.seq (.reg [⟨(some 2),(.a (.box 25 (.t 0))),none,0⟩,
⟨(some 3),(.a (.box 25 (.t 1))),none,0⟩,
⟨(some 4),(.a (.alloc 25 [(.bool false),.nilsl,.nilsl])),none,0⟩,
oq 5 (.mv (ci 0))])
(.seq (.reg [oq 9 (.ld true 3 (.t 2)),
oq 10 (.ld true 3 (.t 3)),
oc 11 18 [(.t 9),(.t 10)] 0,
mt 8 11,
oq 12 (.extract (.t 8) 0),
oq 13 (.extract (.t 8) 1),
mt 6 12,
mt 7 13])
(.seq (.seq (.reg [mt 14 7,
oq 15 (bi .neq (.t 14) (ci 0))])
(.cond (.t 15) (.seq (.reg [oq 16 (.build [(.bool false),.nilsl,.nilsl] []),
mt 17 7,
⟨none,(.x (.st 3 (.t 4) (.t 16))),none,0⟩,
mt 5 17])
.ret) .skip))
(.seq (.seq (.reg [mt 18 6,
oq 19 (bi .gtr (.t 18) (ci 0))])
(.cond (.t 19) (.seq (.reg [oq 20 (.build [(.bool false),.nilsl,.nilsl] []),
⟨none,(.x (.st 3 (.t 4) (.t 20))),none,0⟩,
oq 5 (.mv (ci 9))])
.ret) .skip))
(.seq (.seq (.reg [mt 21 6,
oq 22 (bi .eql (.t 21) (ci 0))])
(.cond (.t 22) (.seq (.reg [oq 23 (.ld true 3 (.t 2)),
oc 24 50 [(.t 23)] 0,
⟨none,(.x (.st 3 (.t 4) (.t 24))),none,0⟩,
oq 5 (.mv (ci 0))])
.ret) .skip))
(.seq (.seq (.reg [oq 25 (.ld true 3 (.t 2)),
oc 26 51 [(.t 25)] 0,
oq 27 (bi .eql (.t 26) (ci 2))])
(.cond (.t 27) (.seq (.reg [oq 28 (.ld true 3 (.t 2)),
oq 29 (.ld true 3 (.t 3)),
oq 30 (.build [(.bool false),.nilsl,.nilsl,(.bool false),.nilsl,.nilsl] [(0,3,(.t 28)),(3,3,(.t 29))]),
oc 31 53 [(.t 30)] 0,
oc 32 50 [(.t 31)] 0,
oc 33 52 [(.t 32)] 0,
oq 34 (.extract (.t 33) 0),
oq 35 (.extract (.t 33) 1),
⟨none,(.x (.st 3 (.t 4) (.t 34))),none,0⟩,
mt 5 35])
.ret) .skip))
(.seq (.seq (.reg [oq 36 (.ld true 3 (.t 3)),
oc 37 51 [(.t 36)] 0,
oq 38 (bi .eql (.t 37) (ci 0))])
(.cond (.t 38) (.seq (.drw [oq 39 (.ld true 3 (.t 3)),
oc 40 54 [(.t 39)] 1,
oq 41 (.ld true 3 (.t 2)),
oc 42 54 [(.t 41)] 7,
om 43 15 (.build [(.bool false),.nilsl,.nilsl,(.bool false),.nilsl,.nilsl] [(0,3,(.t 40)),(3,3,(.t 42))]),
oc 44 53 [(.t 43)] 31,
oc 45 54 [(.t 44)] 63,
oc 46 52 [(.t 45)] 127,
om 47 255 (.extract (.t 46) 0),
om 48 255 (.extract (.t 46) 1),
⟨none,(.x (.st 3 (.t 4) (.t 47))),none,1023⟩,
om 5 2047 (.mv (.t 48))])
.ret) .skip))
(.seq (.reg [oc 49 55 [] 0,
⟨none,(.x (.st 3 (.t 4) (.t 49))),none,0⟩,
oq 5 (.mv (ci 0))])
.ret))))))))⟩
theorem row12 : Row Go.Proofs.Tryd.prog (12, a12) := ⟨Go.Proofs.Tryd.f12, Go.Proofs.Tryd.func12, by kernel_rfl⟩
noncomputable def a13 : AFn :=
⟨25,[(.cell 4 true 3),(.t 5)],(.seq (.reg [⟨(some 2),(.a (.box 25 (.t 0))),none,0⟩,
⟨(some 3),(.a (.box 25 (.t 1))),none,0⟩,
⟨(some 4),(.a (.alloc 25 [(.bool false),.nilsl,.nilsl])),none,0⟩,
oq 5 (.mv (ci 0))])
(.seq (.seq (.reg [oq 7 (.ld true 3 (.t 2)),
oq 8 (.ld true 3 (.t 3)),
oc 9 56 [(.t 7),(.t 8)] 0,
mt 6 9])
(.seq (.reg [mt 10 6,
oq 11 (bi .neq (.t 10) (ci 0))])
(.cond (.t 11) (.seq (.reg [oq 12 (.build [(.bool false),.nilsl,.nilsl] []),
mt 13 6,
⟨none,(.x (.st 3 (.t 4) (.t 12))),none,0⟩,
mt 5 13])
.ret) .skip)))
(.seq (.seq (.reg [oq 14 (.ld true 3 (.t 2)),
oq 15 (.ld true 3 (.t 3)),
oc 16 57 [(.t 14),(.t 15)] 0,
oq 17 (bi .gtr (.t 16) (ci 0))])
(.cond (.t 17) (.seq (.reg [oq 18 (.build [(.bool false),.nilsl,.nilsl] []),
⟨none,(.x (.st 3 (.t 4) (.t 18))),none,0⟩,
oq 5 (.mv (ci 9))])
.ret) .skip))
(.seq (.reg [oq 19 (.ld true 3 (.t 2)),
oq 20 (.ld true 3 (.t 3)),
oc 21 59 [(.t 19),(.t 20)] 0,
oc 22 58 [(.t 21)] 0,
oq 23 (.extract (.t 22) 0),
oq 24 (.extract (.t 22) 1),
⟨none,(.x (.st 3 (.t 4) (.t 23))),none,0⟩,
mt 5 24])
.ret))))⟩
theorem row13 : Row Go.Proofs.Tryd.prog (13, a13) := ⟨Go.Proofs.Tryd.f13, Go.Proofs.Tryd.func13, by kernel_rfl⟩
noncomputable def a14 : AFn :=
⟨24,[(.t 4)],(.seq (.reg [⟨(some 2),(.a (.box 25 (.t 0))),none,0⟩,
⟨(some 3),(.a (.box 25 (.t 1))),none,0⟩,
oq 4 (.mv (.c (.bool false)))])
(.seq (.reg [oq 5 (.faddr 0 (.t 2)),
oq 6 (ld 5),
oq 7 (.faddr 0 (.t 3)),
oq 8 (ld 7),
oq 9 (.bin .eql (.p .bool) (.t 6) (.t 8)),
mt 10 9,
og 11 10 true 0 (.faddr 1 (.t 2)),
og 12 10 true 0 (ld 11),
og 13 10 true 0 (.faddr 1 (.t 3)),
og 14 10 true 0 (ld 13),
⟨(some 15),(.x (.call (.c (.fn 38 [] [])) [(.t 12),(.t 14)])),(some (10,true)),0⟩,
oq 16 (.pick (.t 10) (.t 15) (.c (.bool false))),
mt 17 16,
og 18 17 true 0 (.faddr 2 (.t 2)),
og 19 17 true 0 (ld 18),
og 20 17 true 0 (.faddr 2 (.t 3)),
og 21 17 true 0 (ld 20),
⟨(some 22),(.x (.call (.c (.fn 38 [] [])) [(.t 19),(.t 21)])),(some (17,true)),0⟩,
oq 23 (.pick (.t 17) (.t 22) (.c (.bool false))),
mt 4 23])
.ret))⟩
theorem row14 : Row Go.Proofs.Tryd.prog (14, a14) := ⟨Go.Proofs.Tryd.f14, Go.Proofs.Tryd.func14, by kernel_rfl⟩
noncomputable def a18 : AFn :=
⟨46,[(.t 4),(.t 5)],(.seq (.reg [⟨(some 2),(.a (.box 25 (.t 0))),none,0⟩,
⟨(some 3),(.a (.box 25 (.t 1))),none,0⟩,
oq 4 (.mv (ci 0)),
oq 5 (.mv (ci 0))])
(.seq (.seq (.reg [oq 9 (.ld true 3 (.t 2)),
oq 10 (.ld true 3 (.t 3)),
oc 11 62 [(.t 9),(.t 10)] 0,
mt 6 11])
(.seq (.reg [mt 12 6,
oq 13 (bi .neq (.t 12) (ci 0))])
(.cond (.t 13) (.seq (.reg [mt 14 6,
oq 4 (.mv (ci 0)),
mt 5 14])
.ret) .skip)))
(.seq (.drw [oq 15 (.ld true 3 (.t 2)),
oc 16 51 [(.t 15)] 1,
oq 17 (.ld true 3 (.t 3)),
oc 18 51 [(.t 17)] 7,
om 7 15 (.mv (.t 16)),
om 8 31 (.mv (.t 18))])
(.seq (.block 0 (.seq (.reg [mt 20 7,
mt 21 8,
oq 22 (bi .lss (.t 20) (.t 21)),
mt 19 22])
(.cond (.t 19) (.seq (.reg [oq 23 (.iaddr (.arr 3 1) (.c (.ptr 0 0)) (ci 0)),
oq 24 (ld 23),
mt 4 24,
oq 5 (.mv (ci 0))])
.ret) (.seq (.reg [mt 26 7,
mt 27 8,
oq 28 (bi .gtr (.t 26) (.t 27)),
mt 25 28])
(.cond (.t 25) (.seq (.reg [oq 29 (.iaddr (.arr 3 1) (.c (.ptr 0 0)) (ci 2)),
oq 30 (ld 29),
mt 4 30,
oq 5 (.mv (ci 0))])
.ret) .skip)))))
(.seq (.drw [mt 31 7,
om 32 1 (.iaddr (.arr 3 1) (.c (.ptr 0 0)) (.t 31)),
om 33 3 (ld 32),
oq 34 (.faddr 1 (.t 2)),
om 35 8 (ld 34),
oq 36 (.faddr 2 (.t 3)),
om 37 32 (ld 36),
oc 38 64 [(.t 35),(.t 37)] 120,
oq 39 (.faddr 1 (.t 3)),
om 40 256 (ld 39),
oq 41 (.faddr 2 (.t 2)),
om 42 1024 (ld 41),
oc 43 64 [(.t 40),(.t 42)] 4088,
oc 44 63 [(.t 38),(.t 43)] 8184,
om 45 16383 (bi .mul (.t 33) (.t 44)),
om 4 32767 (.mv (.t 45)),
om 5 65535 (.mv (ci 0))])
.ret)))))⟩
theorem row18 : Row Go.Proofs.Tryd.prog (18, a18) := ⟨Go.Proofs.Tryd.f18, Go.Proofs.Tryd.func18, by kernel_rfl⟩
noncomputable def a31 : AFn :=
⟨28,[(.t 2)],(.seq (.reg [⟨(some 1),(.a (.box 25 (.t 0))),none,0⟩,
oq 2 (.mv (ci 0))])
(.seq (.seq (.reg [oq 4 (.faddr 1 (.t 1)),
oq 5 (ld 4),
oq 6 (.faddr 2 (.t 1)),
oq 7 (ld 6),
oc 8 74 [(.t 5),(.t 7)] 0,
mt 3 8])
(.seq (.reg [mt 9 3,
oq 10 (bi .neq (.t 9) (ci 0))])
(.cond (.t 10) (.seq (.reg [mt 11 3,
mt 2 11])
.ret) .skip)))
(.seq (.seq (.reg [oq 12 (.faddr 1 (.t 1)),
oq 13 (ld 12),
oq 14 (.lenSl (.t 13)),
oq 15 (bi .eql (.t 14) (ci 0)),
mt 16 15,
og 17 16 true 0 (.faddr 0 (.t 1)),
og 18 16 true 0 (ld 17),
oq 19 (.pick (.t 16) (.t 18) (.c (.bool false))),
mt 20 19,
og 21 20 false 0 (.faddr 1 (.t 1)),
og 22 20 false 0 (ld 21),
og 23 20 false 0 (.faddr 2 (.t 1)),
og 24 20 false 0 (ld 23),
⟨(some 25),(.x (.call (.c (.fn 75 [] [])) [(.t 22),(.t 24)])),(some (20,false)),0⟩,
og 26 20 false 0 (.un .not (.t 25)),
oq 27 (.pick (.t 20) (.c (.bool true)) (.t 26))])
(.cond (.t 27) (.seq (.reg [oq 2 (.mv (ci 3))])
.ret) .skip))
(.seq (.reg [oq 2 (.mv (ci 0))])
.ret))))⟩
theorem row31 : Row Go.Proofs.Tryd.prog (31, a31) := ⟨Go.Proofs.Tryd.f31, Go.Proofs.Tryd.func31, by kernel_rfl⟩
noncomputable def a32 : AFn :=
⟨39,[(.t 2)],(.seq (.reg [⟨(some 1),(.a (.box 25 (.t 0))),none,0⟩,
oq 2 (.mv (ci 0))])
(.seq (.seq (.reg [oq 4 (.faddr 1 (.t 1)),
oq 5 (ld 4),
oq 6 (.faddr 2 (.t 1)),
oq 7 (ld 6),
oc 8 76 [(.t 5),(.t 7)] 0,
mt 3 8])
(.seq (.reg [mt 9 3,
oq 10 (bi .neq (.t 9) (ci 0))])
(.cond (.t 10) (.seq (.reg [mt 11 3,
mt 2 11])
.ret) .skip)))
(.seq (.seq (.reg [oq 12 (.faddr 1 (.t 1)),
oq 13 (ld 12),
oq 14 (.faddr 2 (.t 1)),
oq 15 (ld 14),
oc 16 77 [(.t 13),(.t 15)] 0,
oq 17 (.lenSl (.t 16)),
oq 18 (bi .neq (.t 17) (ci 1)),
mt 19 18,
og 20 19 false 0 (.faddr 1 (.t 1)),
og 21 19 false 0 (ld 20),
og 22 19 false 0 (.faddr 2 (.t 1)),
og 23 19 false 0 (ld 22),
⟨(some 24),(.x (.call (.c (.fn 77 [] [])) [(.t 21),(.t 23)])),(some (19,false)),0⟩,
og 25 19 false 0 (.iaddr (.slice 1) (.t 24) (ci 0)),
og 26 19 false 0 (ld 25),
og 27 19 false 0 (bi .neq (.t 26) (.c (.int .u32 (.ofNat 1)))),
oq 28 (.pick (.t 19) (.c (.bool true)) (.t 27)),
mt 29 28,
og 30 29 false 0 (.faddr 0 (.t 1)),
og 31 29 false 0 (ld 30),
og 32 29 false 0 (.mv (.t 31)),
og 33 32 true 0 (.faddr 1 (.t 1)),
og 34 32 true 0 (ld 33),
og 35 32 true 0 (.lenSl (.t 34)),
og 36 32 true 0 (bi .eql (.t 35) (ci 0)),
og 37 29 false 0 (.pick (.t 32) (.t 36) (.c (.bool false))),
oq 38 (.pick (.t 29) (.c (.bool true)) (.t 37))])
(.cond (.t 38) (.seq (.reg [oq 2 (.mv (ci 3))])
.ret) .skip))
(.seq (.reg [oq 2 (.mv (ci 0))])
.ret))))⟩
theorem row32 : Row Go.Proofs.Tryd.prog (32, a32) := ⟨Go.Proofs.Tryd.f32, Go.Proofs.Tryd.func32, by kernel_rfl⟩
noncomputable def a38 : AFn :=
⟨26,[(.t 4)],(.seq (.reg [oq 4 (.mv (.c (.bool false)))])
(.seq (.seq (.reg [mt 6 0,
oq 7 (.lenSl (.t 6)),
mt 8 1,
oq 9 (.lenSl (.t 8)),
oq 10 (bi .neq (.t 7) (.t 9))])
(.cond (.t 10) (.seq (.reg [oq 4 (.mv (.c (.bool false)))])
.ret) .skip))
(.seq (.seq (.reg [oq 5 (.mv (ci 0))])
(.block 0 (.loop (.seq (.seq (.reg [mt 11 5,
mt 12 0,
oq 13 (.lenSl (.t 12)),
oq 14 (bi .lss (.t 11) (.t 13))])
(.cond (.t 14) .skip (.exit 0)))
(.seq (.block 1 (.seq (.drw [mt 17 0,
mt 18 5,
om 19 3 (.iaddr (.slice 1) (.t 17) (.t 18)),
om 20 7 (ld 19),
mt 21 1,
mt 22 5,
om 23 48 (.iaddr (.slice 1) (.t 21) (.t 22)),
om 24 112 (ld 23),
om 25 255 (bi .neq (.t 20) (.t 24))])
(.cond (.t 25) (.seq (.reg [oq 4 (.mv (.c (.bool false)))])
.ret) .skip)))
(.reg [mt 15 5,
oq 16 (bi .add (.t 15) (ci 1)),
mt 5 16]))))))
(.seq (.reg [oq 4 (.mv (.c (.bool true)))])
.ret))))⟩
theorem row38 : Row Go.Proofs.Tryd.prog (38, a38) := ⟨Go.Proofs.Tryd.f38, Go.Proofs.Tryd.func38, by kernel_rfl⟩
noncomputable def a50 : AFn :=
⟨12,[(.cell 2 true 3)],(.seq (.reg [⟨(some 1),(.a (.box 25 (.t 0))),none,0⟩,
⟨(some 2),(.a (.alloc 25 [(.bool false),.nilsl,.nilsl])),none,0⟩])
(.seq (.drw [oq 3 (.faddr 0 (.t 1)),
om 4 1 (ld 3),
oq 5 (.faddr 1 (.t 1)),
om 6 4 (ld 5),
oc 7 96 [(.t 6)] 12,
oq 8 (.faddr 2 (.t 1)),
om 9 32 (ld 8),
oc 10 96 [(.t 9)] 124,
om 11 255 (.build [(.bool false),.nilsl,.nilsl] [(0,1,(.t 4)),(1,1,(.t 7)),(2,1,(.t 10))]),
⟨none,(.x (.st 3 (.t 2) (.t 11))),none,511⟩])
.ret))⟩
theorem row50 : Row Go.Proofs.Tryd.prog (50, a50) := ⟨Go.Proofs.Tryd.f50, Go.Proofs.Tryd.func50, by kernel_rfl⟩
noncomputable def a51 : AFn :=
⟨11,[(.t 2)],(.seq (.reg [⟨(some 1),(.a (.box 25 (.t 0))),none,0⟩,
oq 2 (.mv (ci 0))])
(.seq (.block 0 (.seq (.reg [oq 4 (.faddr 1 (.t 1)),
oq 5 (ld 4),
oq 6 (.lenSl (.t 5)),
oq 7 (bi .eql (.t 6) (ci 0)),
mt 3 7])
(.cond (.t 3) (.seq (.reg [oq 2 (.mv (ci 1))])
.ret) (.seq (.reg [oq 9 (.faddr 0 (.t 1)),
oq 10 (ld 9),
mt 8 10])
(.cond (.t 8) (.seq (.reg [oq 2 (.mv (ci 0))])
.ret) .skip)))))
(.seq (.reg [oq 2 (.mv (ci 2))])
.ret)))⟩
theorem row51 : Row Go.Proofs.Tryd.prog (51, a51) := ⟨Go.Proofs.Tryd.f51, Go.Proofs.Tryd.func51, by kernel_rfl⟩
noncomputable def a52 : AFn :=
⟨9,[(.cell 2 true 3),(.t 3)],(.seq (.reg [⟨(some 1),(.a (.box 25 (.t 0))),none,0⟩,
⟨(some 2),(.a (.alloc 25 [(.bool false),.nilsl,.nilsl])),none,0⟩,
oq 3 (.mv (ci 0))])
(.seq (.seq (.reg [oq 4 (.ld true 3 (.t 1)),
oc 5 97 [(.t 4)] 0,
oq 6 (.un .not (.t 5))])
(.cond (.t 6) (.seq (.reg [oq 7 (.build [(.bool false),.nilsl,.nilsl] []),
⟨none,(.x (.st 3 (.t 2) (.t 7))),none,0⟩,
oq 3 (.mv (ci 5))])
.ret) .skip))
(.seq (.reg [oq 8 (.ld true 3 (.t 1)),
⟨none,(.x (.st 3 (.t 2) (.t 8))),none,0⟩,
oq 3 (.mv (ci 0))])
.ret)))⟩
theorem row52 : Row Go.Proofs.Tryd.prog (52, a52) := ⟨Go.Proofs.Tryd.f52, Go.Proofs.Tryd.func52, by kernel_rfl⟩
noncomputable def a53 : AFn :=
⟨68,[(.cell 2 true 3)],(.seq (.reg [⟨(some 1),(.a (.box 68 (.t 0))),none,0⟩,
⟨(some 2),(.a (.alloc 25 [(.bool false),.nilsl,.nilsl])),none,0⟩])
(.seq (.reg [oq 9 (.faddr 0 (.t 1)),
oq 10 (.faddr 1 (.t 9)),
oq 11 (ld 10),
oq 12 (.faddr 0 (.t 1)),
oq 13 (.faddr 2 (.t 12)),
oq 14 (ld 13),
oc 15 98 [(.t 11),(.t 14)] 0,
mt 8 15,
oq 16 (.extract (.t 8) 0),
oq 17 (.extract (.t 8) 1),
mt 3 16,
mt 4 17])
(.seq (.reg [mt 18 3,
mt 5 18])
(.seq (.seq (.reg [mt 19 4,
oq 20 (.lenSl (.t 19)),
oq 21 (bi .gtr (.t 20) (ci 0))])
(.cond (.t 21) (.reg [mt 22 3,
oc 23 66 [] 0,
oc 24 99 [(.t 22),(.t 23)] 0,
mt 5 24]) .skip))
(.seq (.seq (.drw [mt 25 5,
oq 26 (.faddr 3 (.t 1)),
om 27 2 (.faddr 2 (.t 26)),
om 28 6 (ld 27),
oc 29 64 [(.t 25),(.t 28)] 15,
oq 30 (.faddr 3 (.t 1)),
om 31 32 (.faddr 1 (.t 30)),
om 32 96 (ld 31),
oc 33 63 [(.t 29),(.t 32)] 255,
om 34 511 (bi .leq (.t 33) (ci 0))])
(.cond (.t 34) (.seq (.reg [mt 35 5,
oc 36 65 [(.c (.bool false)),(.t 35)] 0,
⟨none,(.x (.st 3 (.t 2) (.t 36))),none,0⟩])
.ret) .skip))
(.seq (.drw [oq 37 (.faddr 3 (.t 1)),
om 38 1 (.faddr 1 (.t 37)),
om 39 3 (ld 38),
mt 40 3,
oq 41 (.faddr 3 (.t 1)),
om 42 16 (.faddr 2 (.t 41)),
om 43 48 (ld 42),
oc 44 64 [(.t 40),(.t 43)] 120,
oc 45 100 [(.t 39),(.t 44)] 255,
om 6 511 (.mv (.t 45))])
(.seq (.reg [oq 46 (.faddr 3 (.t 1)),
oq 47 (.faddr 2 (.t 46)),
oq 48 (ld 47),
mt 49 6,
oq 50 (.build [(.bool false),.nilsl,.nilsl] [(1,1,(.t 48)),(2,1,(.t 49))]),
oq 51 (.faddr 0 (.t 1)),
oq 52 (.faddr 2 (.t 51)),
oq 53 (ld 52),
mt 54 4,
oq 55 (.build [(.bool false),.nilsl,.nilsl] [(1,1,(.t 53)),(2,1,(.t 54))]),
oq 56 (.build [(.bool false),.nilsl,.nilsl,(.bool false),.nilsl,.nilsl] [(0,3,(.t 50)),(3,3,(.t 55))]),
oc 57 53 [(.t 56)] 0,
⟨(some 7),(.a (.alloc 25 [(.bool false),.nilsl,.nilsl])),none,0⟩,
⟨none,(.x (.st 3 (.t 7) (.t 57))),none,0⟩])
(.seq (.drw [mt 58 3,
oq 59 (.faddr 1 (.t 7)),
om 60 2 (ld 59),
oc 61 64 [(.t 58),(.t 60)] 7,
oq 62 (.faddr 2 (.t 7)),
om 63 16 (ld 62),
oc 64 99 [(.t 61),(.t 63)] 63,
oq 65 (.faddr 1 (.t 7)),
om 66 128 (ld 65),
om 67 511 (.build [(.bool false),.nilsl,.nilsl] [(1,1,(.t 64)),(2,1,(.t 66))]),
⟨none,(.x (.st 3 (.t 2) (.t 67))),none,1023⟩])
.ret))))))))⟩
theorem row53 : Row Go.Proofs.Tryd.prog (53, a53) := ⟨Go.Proofs.Tryd.f53, Go.Proofs.Tryd.func53, by kernel_rfl⟩
noncomputable def a54 : AFn :=
⟨6,[(.cell 2 true 3)],(.seq (.reg [⟨(some 1),(.a (.box 25 (.t 0))),none,0⟩,
⟨(some 2),(.a (.alloc 25 [(.bool false),.nilsl,.nilsl])),none,0⟩])
(.seq (.reg [oq 3 (.ld true 3 (.t 1)),
oc 4 101 [(.t 3)] 0,
oc 5 50 [(.t 4)] 0,
⟨none,(.x (.st 3 (.t 2) (.t 5))),none,0⟩])
.ret))⟩
theorem row54 : Row Go.Proofs.Tryd.prog (54, a54) := ⟨Go.Proofs.Tryd.f54, Go.Proofs.Tryd.func54, by kernel_rfl⟩
noncomputable def a55 : AFn :=
⟨3,[(.cell 0 true 3)],(.seq (.reg [⟨(some 0),(.a (.alloc 25 [(.bool false),.nilsl,.nilsl])),none,0⟩])
(.seq (.reg [oc 1 66 [] 0,
oq 2 (.build [(.bool false),.nilsl,.nilsl] [(2,1,(.t 1))]),
⟨none,(.x (.st 3 (.t 0) (.t 2))),none,0⟩])
.ret))⟩
theorem row55 : Row Go.Proofs.Tryd.prog (55, a55) := ⟨Go.Proofs.Tryd.f55, Go.Proofs.Tryd.func55, by kernel_rfl⟩
noncomputable def a56 : AFn :=
⟨13,[(.t 4)],(.seq (.reg [⟨(some 2),(.a (.box 25 (.t 0))),none,0⟩,
⟨(some 3),(.a (.box 25 (.t 1))),none,0⟩,
oq 4 (.mv (ci 0))])
(.seq (.seq (.reg [oq 6 (.ld true 3 (.t 2)),
oc 7 32 [(.t 6)] 0,
mt 5 7])
(.seq (.reg [mt 8 5,
oq 9 (bi .neq (.t 8) (ci 0))])
(.cond (.t 9) (.seq (.reg [mt 10 5,
mt 4 10])
.ret) .skip)))
(.seq (.reg [oq 11 (.ld true 3 (.t 3)),
oc 12 32 [(.t 11)] 0,
mt 4 12])
.ret)))⟩
theorem row56 : Row Go.Proofs.Tryd.prog (56, a56) := ⟨Go.Proofs.Tryd.f56, Go.Proofs.Tryd.func56, by kernel_rfl⟩
noncomputable def a57 : AFn :=
⟨18,[(.t 4)],(.seq (.reg [⟨(some 2),(.a (.box 25 (.t 0))),none,0⟩,
⟨(some 3),(.a (.box 25 (.t 1))),none,0⟩,
oq 4 (.mv (ci 0))])
(.seq (.drw [oq 6 (.ld true 3 (.t 2)),
oq 7 (.ld true 3 (.t 3)),
oc 8 69 [(.t 7)] 2,
oc 9 68 [(.t 6),(.t 8)] 7,
⟨(some 5),(.a (.alloc 25 [(.bool false),.nilsl,.nilsl])),none,0⟩,
⟨none,(.x (.st 3 (.t 5) (.t 9))),none,31⟩])
(.seq (.block 0 (.seq (.reg [oq 11 (.faddr 1 (.t 5)),
oq 12 (ld 11),
oq 13 (.lenSl (.t 12)),
oq 14 (bi .eql (.t 13) (ci 0)),
mt 10 14])
(.cond (.t 10) (.seq (.reg [oq 4 (.mv (ci 0))])
.ret) (.seq (.reg [oq 16 (.faddr 0 (.t 5)),
oq 17 (ld 16),
mt 15 17])
(.cond (.t 15) (.seq (.reg [oq 4 (.mv (.c (.int .i64 (.negSucc 0))))])
.ret) .skip)))))
(.seq (.reg [oq 4 (.mv (ci 1))])
.ret))))⟩
theorem row57 : Row Go.Proofs.Tryd.prog (57, a57) := ⟨Go.Proofs.Tryd.f57, Go.Proofs.Tryd.func57, by kernel_rfl⟩
noncomputable def a58 : AFn :=
⟨32,[(.cell 2 true 3),(.t 3)],(.seq (.reg [⟨(some 1),(.a (.box 25 (.t 0))),none,0⟩,
⟨(some 2),(.a (.alloc 25 [(.bool false),.nilsl,.nilsl])),none,0⟩,
oq 3 (.mv (ci 0))])
(.seq (.reg [oq 9 (.faddr 1 (.t 1)),
oq 10 (ld 9),
oc 11 102 [(.t 10)] 0,
mt 8 11,
oq 12 (.extract (.t 8) 0),
oq 13 (.extract (.t 8) 1),
mt 4 12,
mt 5 13])
(.seq (.reg [oq 15 (.faddr 2 (.t 1)),
oq 16 (ld 15),
oc 17 102 [(.t 16)] 0,
mt 14 17,
oq 18 (.extract (.t 14) 0),
oq 19 (.extract (.t 14) 1),
mt 6 18,
mt 7 19])
(.seq (.seq (.reg [mt 20 5,
oq 21 (bi .neq (.t 20) (ci 0)),
mt 22 21,
og 23 22 false 0 (.mv (.t 7)),
og 24 22 false 0 (bi .neq (.t 23) (ci 0)),
oq 25 (.pick (.t 22) (.c (.bool true)) (.t 24))])
(.cond (.t 25) (.seq (.reg [oq 26 (.build [(.bool false),.nilsl,.nilsl] []),
⟨none,(.x (.st 3 (.t 2) (.t 26))),none,0⟩,
oq 3 (.mv (ci 5))])
.ret) .skip))
(.seq (.reg [oq 27 (.faddr 0 (.t 1)),
oq 28 (ld 27),
mt 29 4,
mt 30 6,
oq 31 (.build [(.bool false),.nilsl,.nilsl] [(0,1,(.t 28)),(1,1,(.t 29)),(2,1,(.t 30))]),
⟨none,(.x (.st 3 (.t 2) (.t 31))),none,0⟩,
oq 3 (.mv (ci 0))])
.ret)))))⟩
theorem row58 : Row Go.Proofs.Tryd.prog (58, a58) := ⟨Go.Proofs.Tryd.f58, Go.Proofs.Tryd.func58, by kernel_rfl⟩
noncomputable def a59 : AFn :=
⟨61,[(.cell 4 true 3)],(.seq (.reg [⟨(some 2),(.a (.box 25 (.t 0))),none,0⟩,
⟨(some 3),(.a (.box 25 (.t 1))),none,0⟩,
⟨(some 4),(.a (.alloc 25 [(.bool false),.nilsl,.nilsl])),none,0⟩])
(.seq (.seq (.reg [oq 8 (.faddr 0 (.t 2)),
oq 9 (ld 8),
mt 10 9,
og 11 10 false 0 (.ld true 3 (.t 2)),
⟨(some 12),(.x (.call (.c (.fn 72 [] [])) [(.t 11)])),(some (10,false)),0⟩,
oq 13 (.pick (.t 10) (.c (.bool true)) (.t 12)),
mt 14 13,
og 15 14 true 0 (.faddr 0 (.t 3)),
og 16 14 true 0 (ld 15),
og 17 14 true 0 (.un .not (.t 16)),
oq 18 (.pick (.t 14) (.t 17) (.c (.bool false)))])
(.cond (.t 18) (.seq (.reg [oc 19 89 [(ci 0)] 0,
⟨none,(.x (.st 3 (.t 4) (.t 19))),none,0⟩])
.ret) .skip))
(.seq (.seq (.reg [oq 20 (.faddr 0 (.t 3)),
oq 21 (ld 20)])
(.cond (.t 21) (.seq (.drw [oq 22 (.ld true 3 (.t 3)),
oc 23 69 [(.t 22)] 1,
oq 24 (.ld true 3 (.t 2)),
oc 25 69 [(.t 24)] 7,
oc 26 59 [(.t 23),(.t 25)] 15,
oc 27 69 [(.t 26)] 31,
⟨none,(.x (.st 3 (.t 4) (.t 27))),none,63⟩])
.ret) .skip))
(.seq (.reg [oq 28 (.ld true 3 (.t 2)),
oc 29 85 [(.t 28)] 0,
⟨(some 5),(.a (.alloc 25 [(.bool false),.nilsl,.nilsl])),none,0⟩,
⟨none,(.x (.st 3 (.t 5) (.t 29))),none,0⟩])
(.seq (.seq (.reg [oq 30 (.ld true 3 (.t 5)),
oq 31 (.ld true 3 (.t 2)),
oc 32 57 [(.t 30),(.t 31)] 0,
oq 33 (bi .eql (.t 32) (ci 0))])
(.cond (.t 33) (.seq (.reg [oq 34 (.ld true 3 (.t 5)),
⟨none,(.x (.st 3 (.t 4) (.t 34))),none,0⟩])
.ret) .skip))
(.seq (.seq (.drw [oq 35 (.ld true 3 (.t 5)),
oc 36 89 [(ci 1)] 0,
oc 37 68 [(.t 35),(.t 36)] 3,
⟨(some 6),(.a (.alloc 25 [(.bool false),.nilsl,.nilsl])),none,0⟩,
⟨none,(.x (.st 3 (.t 6) (.t 37))),none,15⟩])
(.seq (.reg [oq 38 (.ld true 3 (.t 6)),
oq 39 (.ld true 3 (.t 3)),
oc 40 57 [(.t 38),(.t 39)] 0,
oq 41 (bi .leq (.t 40) (ci 0))])
(.cond (.t 41) (.seq (.reg [oq 42 (.ld true 3 (.t 6)),
⟨none,(.x (.st 3 (.t 4) (.t 42))),none,0⟩])
.ret) .skip)))
(.seq (.drw [oc 43 89 [(ci 1)] 0,
oq 44 (.ld true 3 (.t 3)),
oq 45 (.ld true 3 (.t 5)),
oc 46 69 [(.t 45)] 5,
oc 47 68 [(.t 44),(.t 46)] 15,
oc 48 73 [(.t 43),(.t 47)] 31,
oc 49 89 [(ci 1)] 63,
oq 50 (.ld true 3 (.t 2)),
oq 51 (.ld true 3 (.t 5)),
oc 52 69 [(.t 51)] 383,
oc 53 68 [(.t 50),(.t 52)] 1023,
oc 54 73 [(.t 49),(.t 53)] 2047,
oc 55 59 [(.t 48),(.t 54)] 4095,
⟨(some 7),(.a (.alloc 25 [(.bool false),.nilsl,.nilsl])),none,0⟩,
⟨none,(.x (.st 3 (.t 7) (.t 55))),none,16383⟩])
(.seq (.drw [oq 56 (.ld true 3 (.t 5)),
oc 57 89 [(ci 1)] 0,
oq 58 (.ld true 3 (.t 7)),
oc 59 73 [(.t 57),(.t 58)] 6,
oc 60 68 [(.t 56),(.t 59)] 15,
⟨none,(.x (.st 3 (.t 4) (.t 60))),none,31⟩])
.ret))))))))⟩
theorem row59 : Row Go.Proofs.Tryd.prog (59, a59) := ⟨Go.Proofs.Tryd.f59, Go.Proofs.Tryd.func59, by kernel_rfl⟩
end Go.Ev.Gl
