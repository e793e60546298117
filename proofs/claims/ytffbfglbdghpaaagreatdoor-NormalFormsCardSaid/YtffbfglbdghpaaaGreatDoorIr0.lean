/- Functions of the program as data of the evaluator, written by program; each is shown to be the compiler's result on the loaded function. -/
import Derived.Test.YtffbfglbdghpaaaGreatDoorProg
import Derived.Test.YtffbfglbdghpaaaGreatDoorEv8
import Derived.KernelRfl
namespace Go.Ev.Gl
set_option maxRecDepth 100000
noncomputable def a3 : AFn :=
⟨95,[(.t 6)],(.seq (.reg [⟨(some 3),(.a (.box 25 (.t 0))),none,0⟩,
oq 6 (.mv (.c (.bool false)))])
(.seq (.seq (.reg [oc 16 4 [] 0,
oq 17 (.un .not (.t 16))])
(.cond (.t 17) (.seq (.reg [oq 6 (.mv (.c (.bool false)))])
.ret) .skip))
(.seq (.seq (.reg [oq 18 (.faddr 0 (.t 3)),
oq 19 (ld 18),
oq 20 (.lenSl (.t 19)),
oq 21 (bi .gtr (.t 20) (ci 6)),
mt 22 21,
og 23 22 false 0 (.faddr 1 (.t 3)),
og 24 22 false 0 (ld 23),
og 25 22 false 0 (.lenSl (.t 24)),
og 26 22 false 0 (bi .gtr (.t 25) (ci 6)),
oq 27 (.pick (.t 22) (.c (.bool true)) (.t 26))])
(.cond (.t 27) (.seq (.reg [oq 6 (.mv (.c (.bool true)))])
.ret) .skip))
(.seq (.seq (.reg [oq 7 (.mv (ci 0))])
(.block 0 (.loop (.seq (.seq (.reg [mt 28 7,
oq 29 (.faddr 1 (.t 3)),
oq 30 (ld 29),
oq 31 (.lenSl (.t 30)),
oq 32 (bi .lss (.t 28) (.t 31))])
(.cond (.t 32) .skip (.exit 0)))
(.seq (.block 1 (.seq (.reg [oq 35 (.faddr 1 (.t 3)),
oq 36 (ld 35),
mt 37 7,
oq 38 (.iaddr (.slice 1) (.t 36) (.t 37)),
oq 39 (ld 38),
oq 40 (.lenSl (.t 39)),
oq 41 (bi .gtr (.t 40) (ci 300))])
(.cond (.t 41) (.seq (.reg [oq 6 (.mv (.c (.bool true)))])
.ret) .skip)))
(.reg [mt 33 7,
oq 34 (bi .add (.t 33) (ci 1)),
mt 7 34]))))))
(.seq (.reg [oq 43 (.faddr 0 (.t 3)),
oq 44 (ld 43),
mt 45 1,
oc 46 5 [(.t 44),(.t 45)] 0,
mt 42 46,
oq 47 (.extract (.t 42) 0),
oq 48 (.extract (.t 42) 1),
mt 8 47,
mt 9 48])
(.seq (.reg [oq 50 (.faddr 0 (.t 3)),
oq 51 (ld 50),
mt 52 1,
oc 53 6 [(.t 51),(.t 52)] 0,
mt 49 53,
oq 54 (.extract (.t 49) 0),
oq 55 (.extract (.t 49) 1),
mt 10 54,
mt 11 55])
(.seq (.reg [oq 57 (.faddr 0 (.t 3)),
oq 58 (ld 57),
mt 59 2,
oc 60 7 [(.t 58),(.t 59)] 0,
mt 56 60,
oq 61 (.extract (.t 56) 0),
oq 62 (.extract (.t 56) 1),
mt 12 61,
mt 13 62])
(.seq (.reg [oq 64 (.faddr 0 (.t 3)),
oq 65 (ld 64),
mt 66 2,
oc 67 8 [(.t 65),(.t 66)] 0,
mt 63 67,
oq 68 (.extract (.t 63) 0),
oq 69 (.extract (.t 63) 1),
mt 14 68,
mt 15 69])
(.seq (.drw [oq 70 (.ld true 2 (.t 3)),
oc 71 9 [(.t 70)] 1,
oq 72 (.ld true 2 (.t 3)),
oc 73 10 [(.t 72)] 7,
om 74 15 (bi .eql (.t 71) (.t 73)),
om 75 31 (.mv (.t 74)),
og 76 75 true 63 (.mv (.t 8)),
og 77 75 true 63 (.mv (.t 10)),
og 78 75 true 255 (bi .eql (.t 76) (.t 77)),
om 79 511 (.pick (.t 75) (.t 78) (.c (.bool false))),
om 80 1023 (.mv (.t 79)),
og 81 80 true 2047 (.mv (.t 9)),
og 82 80 true 2047 (.mv (.t 11)),
og 83 80 true 8191 (bi .eql (.t 81) (.t 82)),
om 84 16383 (.pick (.t 80) (.t 83) (.c (.bool false))),
om 85 32767 (.mv (.t 84)),
og 86 85 true 65535 (.mv (.t 12)),
og 87 85 true 65535 (.mv (.t 14)),
⟨(some 88),(.x (.call (.c (.fn 11 [] [])) [(.t 86),(.t 87)])),(some (85,true)),262143⟩,
om 89 524287 (.pick (.t 85) (.t 88) (.c (.bool false))),
om 90 1048575 (.mv (.t 89)),
og 91 90 true 2097151 (.mv (.t 13)),
og 92 90 true 2097151 (.mv (.t 15)),
og 93 90 true 8388607 (bi .eql (.t 91) (.t 92)),
om 94 16777215 (.pick (.t 90) (.t 93) (.c (.bool false))),
om 6 33554431 (.mv (.t 94))])
.ret)))))))))⟩
theorem row3 : Row Go.Proofs.Tryz.prog (3, a3) := ⟨Go.Proofs.Tryz.f3, Go.Proofs.Tryz.func3, by kernel_rfl⟩
noncomputable def a5 : AFn :=
⟨40,[(.t 4),(.t 5)],(.seq (.reg [oq 4 (.mv (ci 0)),
oq 5 (.mv (ci 0))])
(.seq (.seq (.reg [mt 9 0,
oc 10 18 [(.t 9)] 0,
mt 6 10])
(.seq (.reg [mt 11 6,
oq 12 (bi .neq (.t 11) (ci 0))])
(.cond (.t 12) (.seq (.reg [mt 13 6,
oq 4 (.mv (ci 0)),
mt 5 13])
.ret) .skip)))
(.seq (.seq (.reg [mt 14 1,
oq 15 (.lenSl (.t 14)),
mt 16 0,
oq 17 (.lenSl (.t 16)),
oq 18 (bi .neq (.t 15) (.t 17))])
(.cond (.t 18) (.seq (.reg [oq 4 (.mv (ci 0)),
oq 5 (.mv (ci 10))])
.ret) .skip))
(.seq (.seq (.reg [mt 19 1,
oq 20 (.lenSl (.t 19)),
oq 21 (.mv (ci 0))])
(.block 0 (.loop (.seq (.reg [oq 22 (bi .lss (.t 21) (.t 20))])
(.seq (.cond (.t 22) .skip (.exit 0))
(.seq (.block 1 (.seq (.reg [mt 23 21,
oq 24 (.iaddr (.slice 1) (.t 19) (.t 21)),
oq 25 (ld 24),
mt 7 23,
mt 8 25])
(.seq (.reg [mt 26 8,
oq 27 (bi .lss (.t 26) (ci 0)),
mt 28 27,
og 29 28 false 0 (.mv (.t 8)),
og 30 28 false 0 (.mv (.t 0)),
og 31 28 false 0 (.mv (.t 7)),
og 32 28 false 0 (.iaddr (.slice 1) (.t 30) (.t 31)),
og 33 28 false 0 (ld 32),
og 34 28 false 0 (bi .geq (.t 29) (.t 33)),
oq 35 (.pick (.t 28) (.c (.bool true)) (.t 34))])
(.cond (.t 35) (.seq (.reg [oq 4 (.mv (ci 0)),
oq 5 (.mv (ci 2))])
.ret) .skip))))
(.reg [oq 36 (bi .add (.t 21) (ci 1)),
mt 21 36])))))))
(.seq (.reg [mt 37 0,
mt 38 1,
oc 39 19 [(.t 37),(.t 38)] 0,
mt 4 39,
oq 5 (.mv (ci 0))])
.ret)))))⟩
theorem row5 : Row Go.Proofs.Tryz.prog (5, a5) := ⟨Go.Proofs.Tryz.f5, Go.Proofs.Tryz.func5, by kernel_rfl⟩
noncomputable def a6 : AFn :=
⟨47,[(.t 4),(.t 5)],(.seq (.reg [oq 4 (.mv (ci 0)),
oq 5 (.mv (ci 0))])
(.seq (.seq (.reg [mt 10 0,
oc 11 20 [(.t 10)] 0,
mt 9 11,
oq 12 (.extract (.t 9) 0),
oq 13 (.extract (.t 9) 1),
mt 6 12,
mt 7 13])
(.seq (.reg [mt 14 7,
oq 15 (bi .neq (.t 14) (ci 0))])
(.cond (.t 15) (.seq (.reg [mt 16 7,
oq 4 (.mv (ci 0)),
mt 5 16])
.ret) .skip)))
(.seq (.seq (.reg [mt 17 1,
oq 18 (.lenSl (.t 17)),
mt 19 0,
oq 20 (.lenSl (.t 19)),
oq 21 (bi .neq (.t 18) (.t 20))])
(.cond (.t 21) (.seq (.reg [oq 4 (.mv (ci 0)),
oq 5 (.mv (ci 10))])
.ret) .skip))
(.seq (.seq (.reg [oq 8 (.mv (ci 0))])
(.block 0 (.loop (.seq (.seq (.reg [mt 22 8,
mt 23 0,
oq 24 (.lenSl (.t 23)),
oq 25 (bi .lss (.t 22) (.t 24))])
(.cond (.t 25) .skip (.exit 0)))
(.seq (.block 1 (.seq (.drw [mt 28 1,
mt 29 8,
om 30 3 (.iaddr (.slice 1) (.t 28) (.t 29)),
om 31 7 (ld 30),
om 32 15 (bi .lss (.t 31) (ci 0)),
om 33 31 (.mv (.t 32)),
og 34 33 false 63 (.mv (.t 1)),
og 35 33 false 63 (.mv (.t 8)),
og 36 33 false 255 (.iaddr (.slice 1) (.t 34) (.t 35)),
og 37 33 false 511 (ld 36),
og 38 33 false 63 (.mv (.t 0)),
og 39 33 false 63 (.mv (.t 8)),
og 40 33 false 3135 (.iaddr (.slice 1) (.t 38) (.t 39)),
og 41 33 false 7231 (ld 40),
og 42 33 false 16383 (bi .geq (.t 37) (.t 41)),
om 43 32767 (.pick (.t 33) (.c (.bool true)) (.t 42))])
(.cond (.t 43) (.seq (.reg [oq 4 (.mv (ci 0)),
oq 5 (.mv (ci 2))])
.ret) .skip)))
(.reg [mt 26 8,
oq 27 (bi .add (.t 26) (ci 1)),
mt 8 27]))))))
(.seq (.reg [mt 44 0,
mt 45 1,
oc 46 21 [(.t 44),(.t 45)] 0,
mt 4 46,
oq 5 (.mv (ci 0))])
.ret)))))⟩
theorem row6 : Row Go.Proofs.Tryz.prog (6, a6) := ⟨Go.Proofs.Tryz.f6, Go.Proofs.Tryz.func6, by kernel_rfl⟩
noncomputable def a7 : AFn :=
⟨23,[(.t 4),(.t 5)],(.seq (.reg [oq 4 (.mv (.c .nilsl)),
oq 5 (.mv (ci 0))])
(.seq (.seq (.reg [mt 7 0,
oc 8 18 [(.t 7)] 0,
mt 6 8])
(.seq (.reg [mt 9 6,
oq 10 (bi .neq (.t 9) (ci 0))])
(.cond (.t 10) (.seq (.reg [mt 11 6,
oq 4 (.mv (.c .nilsl)),
mt 5 11])
.ret) .skip)))
(.seq (.seq (.reg [mt 12 1,
oq 13 (bi .lss (.t 12) (ci 0)),
mt 14 13,
og 15 14 false 0 (.mv (.t 1)),
og 16 14 false 0 (.mv (.t 0)),
⟨(some 17),(.x (.call (.c (.fn 22 [] [])) [(.t 16)])),(some (14,false)),0⟩,
og 18 14 false 0 (bi .geq (.t 15) (.t 17)),
oq 19 (.pick (.t 14) (.c (.bool true)) (.t 18))])
(.cond (.t 19) (.seq (.reg [oq 4 (.mv (.c .nilsl)),
oq 5 (.mv (ci 2))])
.ret) .skip))
(.seq (.reg [mt 20 0,
mt 21 1,
oc 22 23 [(.t 20),(.t 21)] 0,
mt 4 22,
oq 5 (.mv (ci 0))])
.ret))))⟩
theorem row7 : Row Go.Proofs.Tryz.prog (7, a7) := ⟨Go.Proofs.Tryz.f7, Go.Proofs.Tryz.func7, by kernel_rfl⟩
noncomputable def a8 : AFn :=
⟨26,[(.t 4),(.t 5)],(.seq (.reg [oq 4 (.mv (.c .nilsl)),
oq 5 (.mv (ci 0))])
(.seq (.reg [mt 9 0,
oc 10 20 [(.t 9)] 0,
mt 8 10,
oq 11 (.extract (.t 8) 0),
oq 12 (.extract (.t 8) 1),
mt 6 11,
mt 7 12])
(.seq (.seq (.reg [mt 13 7,
oq 14 (bi .neq (.t 13) (ci 0))])
(.cond (.t 14) (.seq (.reg [mt 15 7,
oq 4 (.mv (.c .nilsl)),
mt 5 15])
.ret) .skip))
(.seq (.seq (.reg [mt 16 1,
oq 17 (bi .lss (.t 16) (ci 0)),
mt 18 17,
og 19 18 false 0 (.mv (.t 1)),
og 20 18 false 0 (.mv (.t 6)),
og 21 18 false 0 (bi .geq (.t 19) (.t 20)),
oq 22 (.pick (.t 18) (.c (.bool true)) (.t 21))])
(.cond (.t 22) (.seq (.reg [oq 4 (.mv (.c .nilsl)),
oq 5 (.mv (ci 2))])
.ret) .skip))
(.seq (.reg [mt 23 0,
mt 24 1,
oc 25 24 [(.t 23),(.t 24)] 0,
mt 4 25,
oq 5 (.mv (ci 0))])
.ret)))))⟩
theorem row8 : Row Go.Proofs.Tryz.prog (8, a8) := ⟨Go.Proofs.Tryz.f8, Go.Proofs.Tryz.func8, by kernel_rfl⟩
noncomputable def a9 : AFn :=
⟨48,[(.t 2)],(.seq (.reg [⟨(some 1),(.a (.box 25 (.t 0))),none,0⟩,
oq 2 (.mv (ci 0))])
(.seq (.seq (.reg [oq 9 (.faddr 0 (.t 1)),
oq 10 (ld 9),
oc 11 18 [(.t 10)] 0,
mt 3 11])
(.seq (.reg [mt 12 3,
oq 13 (bi .neq (.t 12) (ci 0))])
(.cond (.t 13) (.seq (.reg [mt 14 3,
mt 2 14])
.ret) .skip)))
(.seq (.seq (.reg [oq 15 (.faddr 1 (.t 1)),
oq 16 (ld 15),
oq 17 (.lenSl (.t 16)),
oq 18 (.faddr 0 (.t 1)),
oq 19 (ld 18),
oq 20 (.lenSl (.t 19)),
oq 21 (bi .neq (.t 17) (.t 20))])
(.cond (.t 21) (.seq (.reg [oq 2 (.mv (ci 10))])
.ret) .skip))
(.seq (.seq (.reg [oq 22 (.faddr 1 (.t 1)),
oq 23 (ld 22),
oq 24 (.lenSl (.t 23)),
oq 25 (.mv (ci 0))])
(.block 0 (.loop (.seq (.reg [oq 26 (bi .lss (.t 25) (.t 24))])
(.seq (.cond (.t 26) .skip (.exit 0))
(.seq (.block 1 (.seq (.reg [oq 27 (.iaddr (.slice 1) (.t 23) (.t 25)),
oq 28 (ld 27),
mt 5 28])
(.seq (.seq (.reg [mt 29 5,
oq 30 (.lenSl (.t 29)),
oq 31 (.faddr 0 (.t 1)),
oq 32 (ld 31),
oc 33 22 [(.t 32)] 0,
oq 34 (bi .neq (.t 30) (.t 33))])
(.cond (.t 34) (.seq (.reg [oq 2 (.mv (ci 10))])
.ret) .skip))
(.seq (.reg [mt 35 5,
oq 36 (.lenSl (.t 35)),
oq 37 (.mv (ci 0))])
(.block 2 (.loop (.seq (.reg [oq 38 (bi .lss (.t 37) (.t 36))])
(.seq (.cond (.t 38) .skip (.exit 2))
(.seq (.block 3 (.seq (.reg [oq 39 (.iaddr (.slice 3) (.t 35) (.t 37)),
oq 40 (.ld true 3 (.t 39)),
⟨(some 7),(.a (.alloc 48 [(.bool false),.nilsl,.nilsl])),none,0⟩,
⟨none,(.x (.st 3 (.t 7) (.t 40))),none,0⟩])
(.seq (.reg [oq 41 (.ld true 3 (.t 7)),
oc 42 25 [(.t 41)] 0,
mt 8 42])
(.seq (.reg [mt 43 8,
oq 44 (bi .neq (.t 43) (ci 0))])
(.cond (.t 44) (.seq (.reg [mt 45 8,
mt 2 45])
.ret) .skip)))))
(.reg [oq 46 (bi .add (.t 37) (ci 1)),
mt 37 46]))))))))))
(.reg [oq 47 (bi .add (.t 25) (ci 1)),
mt 25 47])))))))
(.seq (.reg [oq 2 (.mv (ci 0))])
.ret)))))⟩
theorem row9 : Row Go.Proofs.Tryz.prog (9, a9) := ⟨Go.Proofs.Tryz.f9, Go.Proofs.Tryz.func9, by kernel_rfl⟩
noncomputable def a10 : AFn :=
⟨47,[(.t 2)],(.seq (.reg [⟨(some 1),(.a (.box 25 (.t 0))),none,0⟩,
oq 2 (.mv (ci 0))])
(.seq (.reg [oq 8 (.faddr 0 (.t 1)),
oq 9 (ld 8),
oc 10 20 [(.t 9)] 0,
mt 7 10,
oq 11 (.extract (.t 7) 0),
oq 12 (.extract (.t 7) 1),
mt 3 11,
mt 4 12])
(.seq (.seq (.reg [mt 13 4,
oq 14 (bi .neq (.t 13) (ci 0))])
(.cond (.t 14) (.seq (.reg [mt 15 4,
mt 2 15])
.ret) .skip))
(.seq (.seq (.reg [oq 16 (.faddr 1 (.t 1)),
oq 17 (ld 16),
oq 18 (.lenSl (.t 17)),
oq 19 (.faddr 0 (.t 1)),
oq 20 (ld 19),
oq 21 (.lenSl (.t 20)),
oq 22 (bi .neq (.t 18) (.t 21))])
(.cond (.t 22) (.seq (.reg [oq 2 (.mv (ci 10))])
.ret) .skip))
(.seq (.seq (.reg [oq 5 (.mv (ci 0))])
(.block 0 (.loop (.seq (.seq (.reg [mt 23 5,
oq 24 (.faddr 1 (.t 1)),
oq 25 (ld 24),
oq 26 (.lenSl (.t 25)),
oq 27 (bi .lss (.t 23) (.t 26))])
(.cond (.t 27) .skip (.exit 0)))
(.seq (.block 1 (.seq (.seq (.reg [oq 30 (.faddr 1 (.t 1)),
oq 31 (ld 30),
mt 32 5,
oq 33 (.iaddr (.slice 1) (.t 31) (.t 32)),
oq 34 (ld 33),
oq 35 (.lenSl (.t 34)),
mt 36 3,
oq 37 (bi .neq (.t 35) (.t 36))])
(.cond (.t 37) (.seq (.reg [oq 2 (.mv (ci 10))])
.ret) .skip))
(.seq (.reg [oq 38 (.faddr 1 (.t 1)),
oq 39 (ld 38),
mt 40 5,
oq 41 (.iaddr (.slice 1) (.t 39) (.t 40)),
oq 42 (ld 41),
oc 43 26 [(.t 42)] 0,
mt 6 43])
(.seq (.reg [mt 44 6,
oq 45 (bi .neq (.t 44) (ci 0))])
(.cond (.t 45) (.seq (.reg [mt 46 6,
mt 2 46])
.ret) .skip)))))
(.reg [mt 28 5,
oq 29 (bi .add (.t 28) (ci 1)),
mt 5 29]))))))
(.seq (.reg [oq 2 (.mv (ci 0))])
.ret))))))⟩
theorem row10 : Row Go.Proofs.Tryz.prog (10, a10) := ⟨Go.Proofs.Tryz.f10, Go.Proofs.Tryz.func10, by kernel_rfl⟩
noncomputable def a11 : AFn :=
⟨26,[(.t 4)],(.seq (.reg [oq 4 (.mv (.c (.bool false)))])
(.seq (.seq (.reg [mt 6 0,
oq 7 (.lenSl (.t 6)),
mt 8 1,
oq 9 (.lenSl (.t 8)),
oq 10 (bi .neq (.t 7) (.t 9))])
(.cond (.t 10) (.seq (.reg [oq 4 (.mv (.c (.bool false)))])
.ret) .skip))
(.seq (.seq (.reg [oq 5 (.mv (ci 0))])
(.block 0 (.loop (.seq (.seq (.reg [mt 11 5,
mt 12 0,
oq 13 (.lenSl (.t 12)),
oq 14 (bi .lss (.t 11) (.t 13))])
(.cond (.t 14) .skip (.exit 0)))
(.seq (.block 1 (.seq (.drw [mt 17 0,
mt 18 5,
om 19 3 (.iaddr (.slice 1) (.t 17) (.t 18)),
om 20 7 (ld 19),
mt 21 1,
mt 22 5,
om 23 48 (.iaddr (.slice 1) (.t 21) (.t 22)),
om 24 112 (ld 23),
om 25 255 (bi .neq (.t 20) (.t 24))])
(.cond (.t 25) (.seq (.reg [oq 4 (.mv (.c (.bool false)))])
.ret) .skip)))
(.reg [mt 15 5,
oq 16 (bi .add (.t 15) (ci 1)),
mt 5 16]))))))
(.seq (.reg [oq 4 (.mv (.c (.bool true)))])
.ret))))⟩
theorem row11 : Row Go.Proofs.Tryz.prog (11, a11) := ⟨Go.Proofs.Tryz.f11, Go.Proofs.Tryz.func11, by kernel_rfl⟩
noncomputable def a18 : AFn :=
⟨29,[(.t 2)],(.seq (.reg [oq 2 (.mv (ci 0))])
(.seq (.seq (.reg [mt 5 0,
oq 6 (.lenSl (.t 5)),
oq 7 (bi .lss (.t 6) (ci 1)),
mt 8 7,
og 9 8 false 0 (.mv (.t 0)),
og 10 8 false 0 (.lenSl (.t 9)),
og 11 8 false 0 (bi .gtr (.t 10) (ci 4)),
oq 12 (.pick (.t 8) (.c (.bool true)) (.t 11))])
(.cond (.t 12) (.seq (.reg [oq 2 (.mv (ci 2))])
.ret) .skip))
(.seq (.seq (.reg [mt 13 0,
oq 14 (.lenSl (.t 13)),
oq 15 (.mv (ci 0))])
(.block 0 (.loop (.seq (.reg [oq 16 (bi .lss (.t 15) (.t 14))])
(.seq (.cond (.t 16) .skip (.exit 0))
(.seq (.block 1 (.seq (.reg [mt 17 15,
oq 18 (.iaddr (.slice 1) (.t 13) (.t 15)),
oq 19 (ld 18),
mt 3 17,
mt 4 19])
(.seq (.seq (.reg [mt 20 4,
oq 21 (bi .lss (.t 20) (ci 1))])
(.cond (.t 21) (.seq (.reg [oq 2 (.mv (ci 2))])
.ret) .skip))
(.seq (.reg [mt 22 0,
mt 23 3,
oq 24 (bi .add (.t 23) (ci 1)),
oq 25 (.slc (.slice 1) (.t 22) none (some (.t 24)) none),
oc 26 22 [(.t 25)] 0,
oq 27 (bi .gtr (.t 26) (ci 1000))])
(.cond (.t 27) (.seq (.reg [oq 2 (.mv (ci 5))])
.ret) .skip)))))
(.reg [oq 28 (bi .add (.t 15) (ci 1)),
mt 15 28])))))))
(.seq (.reg [oq 2 (.mv (ci 0))])
.ret))))⟩
theorem row18 : Row Go.Proofs.Tryz.prog (18, a18) := ⟨Go.Proofs.Tryz.f18, Go.Proofs.Tryz.func18, by kernel_rfl⟩
noncomputable def a19 : AFn :=
⟨25,[(.t 4)],(.seq (.reg [oq 4 (.mv (ci 0))])
(.seq (.reg [oq 5 (.mv (ci 0))])
(.seq (.seq (.reg [mt 8 1,
oq 9 (.lenSl (.t 8)),
oq 10 (.mv (ci 0))])
(.block 0 (.loop (.seq (.reg [oq 11 (bi .lss (.t 10) (.t 9))])
(.seq (.cond (.t 11) .skip (.exit 0))
(.seq (.block 1 (.seq (.reg [mt 12 10,
oq 13 (.iaddr (.slice 1) (.t 8) (.t 10)),
oq 14 (ld 13),
mt 6 12,
mt 7 14])
(.reg [mt 15 5,
mt 16 0,
mt 17 6,
oq 18 (.iaddr (.slice 1) (.t 16) (.t 17)),
oq 19 (ld 18),
oq 20 (bi .mul (.t 15) (.t 19)),
mt 21 7,
oq 22 (bi .add (.t 20) (.t 21)),
mt 5 22])))
(.reg [oq 23 (bi .add (.t 10) (ci 1)),
mt 10 23])))))))
(.seq (.reg [mt 24 5,
mt 4 24])
.ret))))⟩
theorem row19 : Row Go.Proofs.Tryz.prog (19, a19) := ⟨Go.Proofs.Tryz.f19, Go.Proofs.Tryz.func19, by kernel_rfl⟩
noncomputable def a20 : AFn :=
⟨46,[(.t 2),(.t 3)],(.seq (.reg [oq 2 (.mv (ci 0)),
oq 3 (.mv (ci 0))])
(.seq (.seq (.reg [mt 6 0,
oq 7 (.lenSl (.t 6)),
oq 8 (bi .lss (.t 7) (ci 1)),
mt 9 8,
og 10 9 false 0 (.mv (.t 0)),
og 11 9 false 0 (.lenSl (.t 10)),
og 12 9 false 0 (bi .gtr (.t 11) (ci 4)),
oq 13 (.pick (.t 9) (.c (.bool true)) (.t 12))])
(.cond (.t 13) (.seq (.reg [oq 2 (.mv (ci 0)),
oq 3 (.mv (ci 2))])
.ret) .skip))
(.seq (.reg [oq 4 (.mv (ci 1))])
(.seq (.seq (.reg [oq 5 (.mv (ci 0))])
(.block 0 (.loop (.seq (.seq (.reg [mt 14 5,
mt 15 0,
oq 16 (.lenSl (.t 15)),
oq 17 (bi .lss (.t 14) (.t 16))])
(.cond (.t 17) .skip (.exit 0)))
(.seq (.block 1 (.seq (.seq (.reg [mt 20 0,
mt 21 5,
oq 22 (.iaddr (.slice 1) (.t 20) (.t 21)),
oq 23 (ld 22),
oq 24 (bi .lss (.t 23) (ci 1))])
(.cond (.t 24) (.seq (.reg [oq 2 (.mv (ci 0)),
oq 3 (.mv (ci 2))])
.ret) .skip))
(.seq (.seq (.reg [mt 25 0,
mt 26 5,
oq 27 (.iaddr (.slice 1) (.t 25) (.t 26)),
oq 28 (ld 27),
oq 29 (bi .gtr (.t 28) (ci 1000)),
mt 30 29,
og 31 30 false 0 (.mv (.t 4)),
og 32 30 false 0 (.mv (.t 0)),
og 33 30 false 0 (.mv (.t 5)),
og 34 30 false 0 (.iaddr (.slice 1) (.t 32) (.t 33)),
og 35 30 false 0 (ld 34),
og 36 30 false 0 (bi .mul (.t 31) (.t 35)),
og 37 30 false 0 (bi .gtr (.t 36) (ci 1000)),
oq 38 (.pick (.t 30) (.c (.bool true)) (.t 37))])
(.cond (.t 38) (.seq (.reg [oq 2 (.mv (ci 0)),
oq 3 (.mv (ci 5))])
.ret) .skip))
(.reg [mt 39 4,
mt 40 0,
mt 41 5,
oq 42 (.iaddr (.slice 1) (.t 40) (.t 41)),
oq 43 (ld 42),
oq 44 (bi .mul (.t 39) (.t 43)),
mt 4 44]))))
(.reg [mt 18 5,
oq 19 (bi .add (.t 18) (ci 1)),
mt 5 19]))))))
(.seq (.reg [mt 45 4,
mt 2 45,
oq 3 (.mv (ci 0))])
.ret)))))⟩
theorem row20 : Row Go.Proofs.Tryz.prog (20, a20) := ⟨Go.Proofs.Tryz.f20, Go.Proofs.Tryz.func20, by kernel_rfl⟩
noncomputable def a21 : AFn :=
⟨25,[(.t 4)],(.seq (.reg [oq 4 (.mv (ci 0))])
(.seq (.reg [oq 5 (.mv (ci 0))])
(.seq (.seq (.reg [oq 6 (.mv (ci 0))])
(.block 0 (.loop (.seq (.seq (.reg [mt 7 6,
mt 8 0,
oq 9 (.lenSl (.t 8)),
oq 10 (bi .lss (.t 7) (.t 9))])
(.cond (.t 10) .skip (.exit 0)))
(.seq (.block 1 (.drw [mt 13 5,
mt 14 0,
mt 15 6,
om 16 6 (.iaddr (.slice 1) (.t 14) (.t 15)),
om 17 14 (ld 16),
om 18 31 (bi .mul (.t 13) (.t 17)),
mt 19 1,
mt 20 6,
om 21 192 (.iaddr (.slice 1) (.t 19) (.t 20)),
om 22 448 (ld 21),
om 23 1023 (bi .add (.t 18) (.t 22)),
om 5 2047 (.mv (.t 23))]))
(.reg [mt 11 6,
oq 12 (bi .add (.t 11) (ci 1)),
mt 6 12]))))))
(.seq (.reg [mt 24 5,
mt 4 24])
.ret))))⟩
theorem row21 : Row Go.Proofs.Tryz.prog (21, a21) := ⟨Go.Proofs.Tryz.f21, Go.Proofs.Tryz.func21, by kernel_rfl⟩
end Go.Ev.Gl
