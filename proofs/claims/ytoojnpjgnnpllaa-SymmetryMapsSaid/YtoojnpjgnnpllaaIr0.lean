/- Functions of the program as data of the evaluator, written by program; each is shown to be the compiler's result on the loaded function. -/
import Derived.Test.YtoojnpjgnnpllaaProg
import Derived.Test.YtoojnpjgnnpllaaEv8
import Derived.KernelRfl
namespace Go.Ev.Gl
set_option maxRecDepth 100000
noncomputable def a5 : AFn :=
⟨126,[(.t 6)],(.seq (.reg [⟨(some 3),(.a (.box 28 (.t 0))),none,0⟩,
oq 6 (.mv (.c (.bool false)))])
(.seq (.seq (.reg [oc 23 14 [] 0,
oq 24 (.un .not (.t 23))])
(.cond (.t 24) (.seq (.reg [oq 6 (.mv (.c (.bool false)))])
.ret) .skip))
(.seq (.seq (.reg [oq 25 (.faddr 1 (.t 3)),
oq 26 (ld 25),
oq 27 (.lenSl (.t 26)),
oq 28 (bi .gtr (.t 27) (ci 60))])
(.cond (.t 28) (.seq (.reg [oq 6 (.mv (.c (.bool true)))])
.ret) .skip))
(.seq (.reg [oq 30 (.ld true 3 (.t 3)),
mt 31 1,
oc 32 21 [(.t 30),(.t 31)] 0,
mt 29 32,
oq 33 (.extract (.t 29) 0),
oq 34 (.extract (.t 29) 1),
mt 7 33,
mt 8 34])
(.seq (.reg [oq 36 (.ld true 3 (.t 3)),
mt 37 1,
oc 38 25 [(.t 36),(.t 37)] 0,
mt 35 38,
oq 39 (.extract (.t 35) 0),
oq 40 (.extract (.t 35) 1),
mt 9 39,
mt 10 40])
(.seq (.reg [oq 42 (.ld true 3 (.t 3)),
mt 43 1,
oc 44 22 [(.t 42),(.t 43)] 0,
mt 41 44,
oq 45 (.extract (.t 41) 0),
oq 46 (.extract (.t 41) 1),
mt 11 45,
mt 12 46])
(.seq (.reg [oq 48 (.ld true 3 (.t 3)),
mt 49 1,
oc 50 26 [(.t 48),(.t 49)] 0,
mt 47 50,
oq 51 (.extract (.t 47) 0),
oq 52 (.extract (.t 47) 1),
mt 13 51,
mt 14 52])
(.seq (.reg [oq 54 (.ld true 3 (.t 3)),
mt 55 1,
mt 56 2,
oc 57 17 [(.t 54),(.t 55),(.t 56)] 0,
mt 53 57,
oq 58 (.extract (.t 53) 0),
oq 59 (.extract (.t 53) 1),
mt 15 58,
mt 16 59])
(.seq (.reg [oq 61 (.ld true 3 (.t 3)),
mt 62 1,
mt 63 2,
oc 64 27 [(.t 61),(.t 62),(.t 63)] 0,
mt 60 64,
oq 65 (.extract (.t 60) 0),
oq 66 (.extract (.t 60) 1),
mt 17 65,
mt 18 66])
(.seq (.reg [oq 68 (.ld true 3 (.t 3)),
mt 69 1,
oc 70 18 [(.t 68),(.t 69)] 0,
mt 67 70,
oq 71 (.extract (.t 67) 0),
oq 72 (.extract (.t 67) 1),
mt 19 71,
mt 20 72])
(.seq (.reg [oq 74 (.ld true 3 (.t 3)),
mt 75 1,
oc 76 28 [(.t 74),(.t 75)] 0,
mt 73 76,
oq 77 (.extract (.t 73) 0),
oq 78 (.extract (.t 73) 1),
mt 21 77,
mt 22 78])
(.seq (.drw [oq 79 (.ld true 3 (.t 3)),
mt 80 1,
oc 81 20 [(.t 79),(.t 80)] 3,
oq 82 (.ld true 3 (.t 3)),
mt 83 1,
oc 84 29 [(.t 82),(.t 83)] 31,
om 85 63 (bi .eql (.t 81) (.t 84)),
om 86 127 (.mv (.t 85)),
og 87 86 true 255 (.mv (.t 7)),
og 88 86 true 255 (.mv (.t 9)),
⟨(some 89),(.x (.call (.c (.fn 19 [] [])) [(.t 87),(.t 88)])),(some (86,true)),1023⟩,
om 90 2047 (.pick (.t 86) (.t 89) (.c (.bool false))),
om 91 4095 (.mv (.t 90)),
og 92 91 true 8191 (.mv (.t 8)),
og 93 91 true 8191 (.mv (.t 10)),
og 94 91 true 32767 (bi .eql (.t 92) (.t 93)),
om 95 65535 (.pick (.t 91) (.t 94) (.c (.bool false))),
om 96 131071 (.mv (.t 95)),
og 97 96 true 262143 (.mv (.t 11)),
og 98 96 true 262143 (.mv (.t 13)),
⟨(some 99),(.x (.call (.c (.fn 30 [] [])) [(.t 97),(.t 98)])),(some (96,true)),1048575⟩,
om 100 2097151 (.pick (.t 96) (.t 99) (.c (.bool false))),
om 101 4194303 (.mv (.t 100)),
og 102 101 true 8388607 (.mv (.t 12)),
og 103 101 true 8388607 (.mv (.t 14)),
og 104 101 true 33554431 (bi .eql (.t 102) (.t 103)),
om 105 67108863 (.pick (.t 101) (.t 104) (.c (.bool false))),
om 106 134217727 (.mv (.t 105)),
og 107 106 true 268435455 (.mv (.t 15)),
og 108 106 true 268435455 (.mv (.t 17)),
⟨(some 109),(.x (.call (.c (.fn 19 [] [])) [(.t 107),(.t 108)])),(some (106,true)),1073741823⟩,
om 110 2147483647 (.pick (.t 106) (.t 109) (.c (.bool false))),
om 111 4294967295 (.mv (.t 110)),
og 112 111 true 8589934591 (.mv (.t 16)),
og 113 111 true 8589934591 (.mv (.t 18)),
og 114 111 true 34359738367 (bi .eql (.t 112) (.t 113)),
om 115 68719476735 (.pick (.t 111) (.t 114) (.c (.bool false))),
om 116 137438953471 (.mv (.t 115)),
og 117 116 true 274877906943 (.mv (.t 19)),
og 118 116 true 274877906943 (.mv (.t 21)),
⟨(some 119),(.x (.call (.c (.fn 19 [] [])) [(.t 117),(.t 118)])),(some (116,true)),1099511627775⟩,
om 120 2199023255551 (.pick (.t 116) (.t 119) (.c (.bool false))),
om 121 4398046511103 (.mv (.t 120)),
og 122 121 true 8796093022207 (.mv (.t 20)),
og 123 121 true 8796093022207 (.mv (.t 22)),
og 124 121 true 35184372088831 (bi .eql (.t 122) (.t 123)),
om 125 70368744177663 (.pick (.t 121) (.t 124) (.c (.bool false))),
om 6 140737488355327 (.mv (.t 125))])
.ret))))))))))))⟩
theorem row5 : Row Go.Proofs.Try.prog (5, a5) := ⟨Go.Proofs.Try.f5, Go.Proofs.Try.func5, by kernel_rfl⟩
noncomputable def a17 : AFn :=
⟨39,[(.t 6),(.t 7)],(.seq (.reg [⟨(some 3),(.a (.box 28 (.t 0))),none,0⟩,
oq 6 (.mv (.c .nilsl)),
oq 7 (.mv (ci 0))])
(.seq (.reg [oq 11 (.ld true 3 (.t 3)),
oc 12 68 [(.t 11)] 0,
mt 10 12,
oq 13 (.extract (.t 10) 0),
oq 14 (.extract (.t 10) 1),
mt 8 13,
mt 9 14])
(.seq (.seq (.reg [mt 15 9,
oq 16 (bi .neq (.t 15) (ci 0))])
(.cond (.t 16) (.seq (.reg [mt 17 9,
oq 6 (.mv (.c .nilsl)),
mt 7 17])
.ret) .skip))
(.seq (.seq (.reg [mt 19 8,
mt 20 1,
oc 21 69 [(.t 19),(.t 20)] 0,
mt 18 21,
oq 22 (.extract (.t 18) 0),
oq 23 (.extract (.t 18) 1),
mt 9 23])
(.seq (.reg [mt 24 9,
oq 25 (bi .neq (.t 24) (ci 0))])
(.cond (.t 25) (.seq (.reg [mt 26 9,
oq 6 (.mv (.c .nilsl)),
mt 7 26])
.ret) .skip)))
(.seq (.seq (.reg [mt 28 8,
mt 29 2,
oc 30 69 [(.t 28),(.t 29)] 0,
mt 27 30,
oq 31 (.extract (.t 27) 0),
oq 32 (.extract (.t 27) 1),
mt 9 32])
(.seq (.reg [mt 33 9,
oq 34 (bi .neq (.t 33) (ci 0))])
(.cond (.t 34) (.seq (.reg [mt 35 9,
oq 6 (.mv (.c .nilsl)),
mt 7 35])
.ret) .skip)))
(.seq (.reg [mt 36 1,
mt 37 2,
oc 38 70 [(.t 36),(.t 37)] 0,
mt 6 38,
oq 7 (.mv (ci 0))])
.ret))))))⟩
theorem row17 : Row Go.Proofs.Try.prog (17, a17) := ⟨Go.Proofs.Try.f17, Go.Proofs.Try.func17, by kernel_rfl⟩
noncomputable def a18 : AFn :=
⟨44,[(.t 4),(.t 5)],(.seq (.reg [⟨(some 2),(.a (.box 28 (.t 0))),none,0⟩,
oq 4 (.mv (.c .nilsl)),
oq 5 (.mv (ci 0))])
(.seq (.reg [oq 12 (.ld true 3 (.t 2)),
oc 13 68 [(.t 12)] 0,
mt 11 13,
oq 14 (.extract (.t 11) 0),
oq 15 (.extract (.t 11) 1),
mt 6 14,
mt 7 15])
(.seq (.seq (.reg [mt 16 7,
oq 17 (bi .neq (.t 16) (ci 0))])
(.cond (.t 17) (.seq (.reg [mt 18 7,
oq 4 (.mv (.c .nilsl)),
mt 5 18])
.ret) .skip))
(.seq (.seq (.reg [mt 20 6,
mt 21 1,
oc 22 69 [(.t 20),(.t 21)] 0,
mt 19 22,
oq 23 (.extract (.t 19) 0),
oq 24 (.extract (.t 19) 1),
mt 7 24])
(.seq (.reg [mt 25 7,
oq 26 (bi .neq (.t 25) (ci 0))])
(.cond (.t 26) (.seq (.reg [mt 27 7,
oq 4 (.mv (.c .nilsl)),
mt 5 27])
.ret) .skip)))
(.seq (.reg [mt 28 1,
oq 29 (.lenSl (.t 28)),
⟨(some 30),(.a (.mkSlice 3 1 8 [(.int .i64 (.ofNat 0))] (.t 29) (.t 29))),none,0⟩,
mt 8 30])
(.seq (.seq (.reg [mt 31 1,
oq 32 (.lenSl (.t 31)),
oq 33 (.mv (ci 0))])
(.block 0 (.loop (.seq (.reg [oq 34 (bi .lss (.t 33) (.t 32))])
(.seq (.cond (.t 34) .skip (.exit 0))
(.seq (.block 1 (.seq (.reg [mt 35 33,
oq 36 (.iaddr (.slice 1) (.t 31) (.t 33)),
oq 37 (ld 36),
mt 9 35,
mt 10 37])
(.reg [mt 38 8,
mt 39 10,
mt 40 9,
oq 41 (.iaddr (.slice 1) (.t 38) (.t 39)),
⟨none,(.x (.st 1 (.t 41) (.t 40))),none,0⟩])))
(.reg [oq 42 (bi .add (.t 33) (ci 1)),
mt 33 42])))))))
(.seq (.reg [mt 43 8,
mt 4 43,
oq 5 (.mv (ci 0))])
.ret)))))))⟩
theorem row18 : Row Go.Proofs.Try.prog (18, a18) := ⟨Go.Proofs.Try.f18, Go.Proofs.Try.func18, by kernel_rfl⟩
noncomputable def a19 : AFn :=
⟨26,[(.t 4)],(.seq (.reg [oq 4 (.mv (.c (.bool false)))])
(.seq (.seq (.reg [mt 6 0,
oq 7 (.lenSl (.t 6)),
mt 8 1,
oq 9 (.lenSl (.t 8)),
oq 10 (bi .neq (.t 7) (.t 9))])
(.cond (.t 10) (.seq (.reg [oq 4 (.mv (.c (.bool false)))])
.ret) .skip))
(.seq (.seq (.reg [oq 5 (.mv (ci 0))])
(.block 0 (.loop (.seq (.seq (.reg [mt 11 5,
mt 12 0,
oq 13 (.lenSl (.t 12)),
oq 14 (bi .lss (.t 11) (.t 13))])
(.cond (.t 14) .skip (.exit 0)))
(.seq (.block 1 (.seq (.drw [mt 17 0,
mt 18 5,
om 19 3 (.iaddr (.slice 1) (.t 17) (.t 18)),
om 20 7 (ld 19),
mt 21 1,
mt 22 5,
om 23 48 (.iaddr (.slice 1) (.t 21) (.t 22)),
om 24 112 (ld 23),
om 25 255 (bi .neq (.t 20) (.t 24))])
(.cond (.t 25) (.seq (.reg [oq 4 (.mv (.c (.bool false)))])
.ret) .skip)))
(.reg [mt 15 5,
oq 16 (bi .add (.t 15) (ci 1)),
mt 5 16]))))))
(.seq (.reg [oq 4 (.mv (.c (.bool true)))])
.ret))))⟩
theorem row19 : Row Go.Proofs.Try.prog (19, a19) := ⟨Go.Proofs.Try.f19, Go.Proofs.Try.func19, by kernel_rfl⟩
noncomputable def a20 : AFn :=
⟨22,[(.t 4)],(.seq (.reg [⟨(some 2),(.a (.box 28 (.t 0))),none,0⟩,
oq 4 (.mv (ci 0))])
(.seq (.reg [oq 8 (.ld true 3 (.t 2)),
oc 9 68 [(.t 8)] 0,
mt 7 9,
oq 10 (.extract (.t 7) 0),
oq 11 (.extract (.t 7) 1),
mt 5 10,
mt 6 11])
(.seq (.seq (.reg [mt 12 6,
oq 13 (bi .neq (.t 12) (ci 0))])
(.cond (.t 13) (.seq (.reg [mt 14 6,
mt 4 14])
.ret) .skip))
(.seq (.reg [mt 16 5,
mt 17 1,
oc 18 69 [(.t 16),(.t 17)] 0,
mt 15 18,
oq 19 (.extract (.t 15) 0),
oq 20 (.extract (.t 15) 1),
mt 6 20])
(.seq (.reg [mt 21 6,
mt 4 21])
.ret)))))⟩
theorem row20 : Row Go.Proofs.Try.prog (20, a20) := ⟨Go.Proofs.Try.f20, Go.Proofs.Try.func20, by kernel_rfl⟩
noncomputable def a21 : AFn :=
⟨26,[(.t 4),(.t 5)],(.seq (.reg [⟨(some 2),(.a (.box 28 (.t 0))),none,0⟩,
oq 4 (.mv (.c .nilsl)),
oq 5 (.mv (ci 0))])
(.seq (.reg [oq 10 (.ld true 3 (.t 2)),
oc 11 68 [(.t 10)] 0,
mt 9 11,
oq 12 (.extract (.t 9) 0),
oq 13 (.extract (.t 9) 1),
mt 6 12,
mt 7 13])
(.seq (.seq (.reg [mt 14 7,
oq 15 (bi .neq (.t 14) (ci 0))])
(.cond (.t 15) (.seq (.reg [mt 16 7,
oq 4 (.mv (.c .nilsl)),
mt 5 16])
.ret) .skip))
(.seq (.reg [mt 18 6,
mt 19 1,
oc 20 69 [(.t 18),(.t 19)] 0,
mt 17 20,
oq 21 (.extract (.t 17) 0),
oq 22 (.extract (.t 17) 1),
⟨(some 8),(.a (.alloc 108 [.nilsl,.nilsl])),none,0⟩,
⟨none,(.x (.st 2 (.t 8) (.t 21))),none,0⟩,
mt 7 22])
(.seq (.reg [oq 23 (.faddr 0 (.t 8)),
oq 24 (ld 23),
mt 25 7,
mt 4 24,
mt 5 25])
.ret)))))⟩
theorem row21 : Row Go.Proofs.Try.prog (21, a21) := ⟨Go.Proofs.Try.f21, Go.Proofs.Try.func21, by kernel_rfl⟩
noncomputable def a22 : AFn :=
⟨26,[(.t 4),(.t 5)],(.seq (.reg [⟨(some 2),(.a (.box 28 (.t 0))),none,0⟩,
oq 4 (.mv (.c .nilsl)),
oq 5 (.mv (ci 0))])
(.seq (.reg [oq 10 (.ld true 3 (.t 2)),
oc 11 68 [(.t 10)] 0,
mt 9 11,
oq 12 (.extract (.t 9) 0),
oq 13 (.extract (.t 9) 1),
mt 6 12,
mt 7 13])
(.seq (.seq (.reg [mt 14 7,
oq 15 (bi .neq (.t 14) (ci 0))])
(.cond (.t 15) (.seq (.reg [mt 16 7,
oq 4 (.mv (.c .nilsl)),
mt 5 16])
.ret) .skip))
(.seq (.reg [mt 18 6,
mt 19 1,
oc 20 69 [(.t 18),(.t 19)] 0,
mt 17 20,
oq 21 (.extract (.t 17) 0),
oq 22 (.extract (.t 17) 1),
⟨(some 8),(.a (.alloc 108 [.nilsl,.nilsl])),none,0⟩,
⟨none,(.x (.st 2 (.t 8) (.t 21))),none,0⟩,
mt 7 22])
(.seq (.reg [oq 23 (.faddr 1 (.t 8)),
oq 24 (ld 23),
mt 25 7,
mt 4 24,
mt 5 25])
.ret)))))⟩
theorem row22 : Row Go.Proofs.Try.prog (22, a22) := ⟨Go.Proofs.Try.f22, Go.Proofs.Try.func22, by kernel_rfl⟩
noncomputable def a25 : AFn :=
⟨24,[(.t 4),(.t 5)],(.seq (.reg [⟨(some 2),(.a (.box 28 (.t 0))),none,0⟩,
oq 4 (.mv (.c .nilsl)),
oq 5 (.mv (ci 0))])
(.seq (.seq (.reg [oq 10 (.ld true 3 (.t 2)),
mt 11 1,
oc 12 29 [(.t 10),(.t 11)] 0,
mt 6 12])
(.seq (.reg [mt 13 6,
oq 14 (bi .neq (.t 13) (ci 0))])
(.cond (.t 14) (.seq (.reg [mt 15 6,
oq 4 (.mv (.c .nilsl)),
mt 5 15])
.ret) .skip)))
(.seq (.reg [oq 17 (.ld true 3 (.t 2)),
mt 18 1,
oc 19 72 [(.t 17),(.t 18)] 0,
mt 16 19,
oq 20 (.extract (.t 16) 0),
oq 21 (.extract (.t 16) 1),
oq 22 (.extract (.t 16) 2),
mt 7 20,
mt 8 21,
mt 9 22])
(.seq (.reg [mt 23 7,
mt 4 23,
oq 5 (.mv (ci 0))])
.ret))))⟩
theorem row25 : Row Go.Proofs.Try.prog (25, a25) := ⟨Go.Proofs.Try.f25, Go.Proofs.Try.func25, by kernel_rfl⟩
noncomputable def a26 : AFn :=
⟨24,[(.t 4),(.t 5)],(.seq (.reg [⟨(some 2),(.a (.box 28 (.t 0))),none,0⟩,
oq 4 (.mv (.c .nilsl)),
oq 5 (.mv (ci 0))])
(.seq (.seq (.reg [oq 10 (.ld true 3 (.t 2)),
mt 11 1,
oc 12 29 [(.t 10),(.t 11)] 0,
mt 6 12])
(.seq (.reg [mt 13 6,
oq 14 (bi .neq (.t 13) (ci 0))])
(.cond (.t 14) (.seq (.reg [mt 15 6,
oq 4 (.mv (.c .nilsl)),
mt 5 15])
.ret) .skip)))
(.seq (.reg [oq 17 (.ld true 3 (.t 2)),
mt 18 1,
oc 19 72 [(.t 17),(.t 18)] 0,
mt 16 19,
oq 20 (.extract (.t 16) 0),
oq 21 (.extract (.t 16) 1),
oq 22 (.extract (.t 16) 2),
mt 7 20,
mt 8 21,
mt 9 22])
(.seq (.reg [mt 23 8,
mt 4 23,
oq 5 (.mv (ci 0))])
.ret))))⟩
theorem row26 : Row Go.Proofs.Try.prog (26, a26) := ⟨Go.Proofs.Try.f26, Go.Proofs.Try.func26, by kernel_rfl⟩
noncomputable def a27 : AFn :=
⟨25,[(.t 6),(.t 7)],(.seq (.reg [⟨(some 3),(.a (.box 28 (.t 0))),none,0⟩,
oq 6 (.mv (.c .nilsl)),
oq 7 (.mv (ci 0))])
(.seq (.seq (.reg [oq 10 (.ld true 3 (.t 3)),
mt 11 1,
oc 12 29 [(.t 10),(.t 11)] 0,
mt 8 12])
(.seq (.reg [mt 13 8,
oq 14 (bi .neq (.t 13) (ci 0))])
(.cond (.t 14) (.seq (.reg [mt 15 8,
oq 6 (.mv (.c .nilsl)),
mt 7 15])
.ret) .skip)))
(.seq (.seq (.reg [oq 16 (.ld true 3 (.t 3)),
mt 17 2,
oc 18 73 [(.t 16),(.t 17)] 0,
mt 9 18])
(.seq (.reg [mt 19 9,
oq 20 (bi .neq (.t 19) (ci 0))])
(.cond (.t 20) (.seq (.reg [mt 21 9,
oq 6 (.mv (.c .nilsl)),
mt 7 21])
.ret) .skip)))
(.seq (.reg [mt 22 1,
mt 23 2,
oc 24 74 [(.t 22),(.t 23)] 0,
mt 6 24,
oq 7 (.mv (ci 0))])
.ret))))⟩
theorem row27 : Row Go.Proofs.Try.prog (27, a27) := ⟨Go.Proofs.Try.f27, Go.Proofs.Try.func27, by kernel_rfl⟩
noncomputable def a28 : AFn :=
⟨32,[(.t 4),(.t 5)],(.seq (.reg [⟨(some 2),(.a (.box 28 (.t 0))),none,0⟩,
oq 4 (.mv (.c .nilsl)),
oq 5 (.mv (ci 0))])
(.seq (.seq (.reg [oq 9 (.ld true 3 (.t 2)),
mt 10 1,
oc 11 29 [(.t 9),(.t 10)] 0,
mt 6 11])
(.seq (.reg [mt 12 6,
oq 13 (bi .neq (.t 12) (ci 0))])
(.cond (.t 13) (.seq (.reg [mt 14 6,
oq 4 (.mv (.c .nilsl)),
mt 5 14])
.ret) .skip)))
(.seq (.reg [mt 15 1,
oq 16 (.lenSl (.t 15)),
⟨(some 17),(.a (.mkSlice 3 1 8 [(.int .i64 (.ofNat 0))] (.t 16) (.t 16))),none,0⟩,
mt 7 17])
(.seq (.seq (.reg [oq 8 (.mv (ci 0))])
(.block 0 (.loop (.seq (.seq (.reg [mt 18 8,
mt 19 1,
oq 20 (.lenSl (.t 19)),
oq 21 (bi .lss (.t 18) (.t 20))])
(.cond (.t 21) .skip (.exit 0)))
(.seq (.block 1 (.reg [mt 24 7,
mt 25 1,
mt 26 8,
oq 27 (.iaddr (.slice 1) (.t 25) (.t 26)),
oq 28 (ld 27),
mt 29 8,
oq 30 (.iaddr (.slice 1) (.t 24) (.t 28)),
⟨none,(.x (.st 1 (.t 30) (.t 29))),none,0⟩]))
(.reg [mt 22 8,
oq 23 (bi .add (.t 22) (ci 1)),
mt 8 23]))))))
(.seq (.reg [mt 31 7,
mt 4 31,
oq 5 (.mv (ci 0))])
.ret)))))⟩
theorem row28 : Row Go.Proofs.Try.prog (28, a28) := ⟨Go.Proofs.Try.f28, Go.Proofs.Try.func28, by kernel_rfl⟩
noncomputable def a29 : AFn :=
⟨14,[(.t 4)],(.seq (.reg [⟨(some 2),(.a (.box 28 (.t 0))),none,0⟩,
oq 4 (.mv (ci 0))])
(.seq (.seq (.reg [oq 6 (.ld true 3 (.t 2)),
oc 7 53 [(.t 6)] 0,
mt 5 7])
(.seq (.reg [mt 8 5,
oq 9 (bi .neq (.t 8) (ci 0))])
(.cond (.t 9) (.seq (.reg [mt 10 5,
mt 4 10])
.ret) .skip)))
(.seq (.reg [oq 11 (.ld true 3 (.t 2)),
mt 12 1,
oc 13 73 [(.t 11),(.t 12)] 0,
mt 4 13])
.ret)))⟩
theorem row29 : Row Go.Proofs.Try.prog (29, a29) := ⟨Go.Proofs.Try.f29, Go.Proofs.Try.func29, by kernel_rfl⟩
noncomputable def a30 : AFn :=
⟨27,[(.t 4)],(.seq (.reg [oq 4 (.mv (.c (.bool false)))])
(.seq (.seq (.reg [mt 6 0,
oq 7 (.lenSl (.t 6)),
mt 8 1,
oq 9 (.lenSl (.t 8)),
oq 10 (bi .neq (.t 7) (.t 9))])
(.cond (.t 10) (.seq (.reg [oq 4 (.mv (.c (.bool false)))])
.ret) .skip))
(.seq (.seq (.reg [oq 5 (.mv (ci 0))])
(.block 0 (.loop (.seq (.seq (.reg [mt 11 5,
mt 12 0,
oq 13 (.lenSl (.t 12)),
oq 14 (bi .lss (.t 11) (.t 13))])
(.cond (.t 14) .skip (.exit 0)))
(.seq (.block 1 (.seq (.drw [mt 17 0,
mt 18 5,
om 19 3 (.iaddr (.slice 1) (.t 17) (.t 18)),
om 20 7 (ld 19),
mt 21 1,
mt 22 5,
om 23 48 (.iaddr (.slice 1) (.t 21) (.t 22)),
om 24 112 (ld 23),
oc 25 19 [(.t 20),(.t 24)] 255,
om 26 511 (.un .not (.t 25))])
(.cond (.t 26) (.seq (.reg [oq 4 (.mv (.c (.bool false)))])
.ret) .skip)))
(.reg [mt 15 5,
oq 16 (bi .add (.t 15) (ci 1)),
mt 5 16]))))))
(.seq (.reg [oq 4 (.mv (.c (.bool true)))])
.ret))))⟩
theorem row30 : Row Go.Proofs.Try.prog (30, a30) := ⟨Go.Proofs.Try.f30, Go.Proofs.Try.func30, by kernel_rfl⟩
noncomputable def a53 : AFn :=
⟨136,[(.t 2)],(.seq (.reg [⟨(some 1),(.a (.box 28 (.t 0))),none,0⟩,
oq 2 (.mv (ci 0))])
(.seq (.seq (.reg [oq 11 (.faddr 0 (.t 1)),
oq 12 (ld 11),
oq 13 (bi .lss (.t 12) (ci 1)),
mt 14 13,
og 15 14 false 0 (.faddr 0 (.t 1)),
og 16 14 false 0 (ld 15),
og 17 14 false 0 (bi .gtr (.t 16) (ci 4)),
oq 18 (.pick (.t 14) (.c (.bool true)) (.t 17)),
mt 19 18,
og 20 19 false 0 (.faddr 1 (.t 1)),
og 21 19 false 0 (ld 20),
og 22 19 false 0 (.lenSl (.t 21)),
og 23 19 false 0 (bi .lss (.t 22) (ci 1)),
oq 24 (.pick (.t 19) (.c (.bool true)) (.t 23)),
mt 25 24,
og 26 25 false 0 (.faddr 1 (.t 1)),
og 27 25 false 0 (ld 26),
og 28 25 false 0 (.lenSl (.t 27)),
og 29 25 false 0 (bi .gtr (.t 28) (ci 2000)),
oq 30 (.pick (.t 25) (.c (.bool true)) (.t 29)),
mt 31 30,
og 32 31 false 0 (.faddr 2 (.t 1)),
og 33 31 false 0 (ld 32),
og 34 31 false 0 (.lenSl (.t 33)),
og 35 31 false 0 (bi .gtr (.t 34) (ci 200)),
oq 36 (.pick (.t 31) (.c (.bool true)) (.t 35))])
(.cond (.t 36) (.seq (.reg [oq 2 (.mv (ci 2))])
.ret) .skip))
(.seq (.seq (.reg [oq 3 (.mv (ci 0))])
(.block 0 (.loop (.seq (.seq (.reg [mt 37 3,
oq 38 (.faddr 1 (.t 1)),
oq 39 (ld 38),
oq 40 (.lenSl (.t 39)),
oq 41 (bi .lss (.t 37) (.t 40))])
(.cond (.t 41) .skip (.exit 0)))
(.seq (.block 1 (.seq (.drw [oq 44 (.ld true 3 (.t 1)),
oq 45 (.faddr 1 (.t 1)),
om 46 2 (ld 45),
mt 47 3,
om 48 14 (.iaddr (.slice 6) (.t 46) (.t 47)),
om 49 30 (.ld true 6 (.t 48)),
oc 50 102 [(.t 44),(.t 49)] 63,
om 4 127 (.mv (.t 50))])
(.seq (.reg [mt 51 4,
oq 52 (bi .neq (.t 51) (ci 0))])
(.cond (.t 52) (.seq (.reg [mt 53 4,
mt 2 53])
.ret) .skip))))
(.reg [mt 42 3,
oq 43 (bi .add (.t 42) (ci 1)),
mt 3 43]))))))
(.seq (.reg [⟨(some 5),(.a (.alloc 3 [(.int .i64 (.ofNat 0))])),none,0⟩,
⟨none,(.x (.st 1 (.t 5) (ci 0))),none,0⟩])
(.seq (.seq (.drw [oq 54 (.ld true 3 (.t 1)),
oc 55 103 [(.t 54),(ci 0),(ci 0),(.t 5)] 1,
oq 56 (.faddr 1 (.t 1)),
om 57 4 (ld 56),
om 58 12 (.lenSl (.t 57)),
om 59 31 (bi .neq (.t 55) (.t 58))])
(.cond (.t 59) (.seq (.reg [oq 2 (.mv (ci 9))])
.ret) .skip))
(.seq (.seq (.reg [oq 60 (ld 5),
oq 61 (bi .gtr (.t 60) (ci 40))])
(.cond (.t 61) (.seq (.reg [oq 2 (.mv (ci 5))])
.ret) .skip))
(.seq (.seq (.reg [oq 6 (.mv (ci 0))])
(.block 2 (.loop (.seq (.seq (.reg [mt 62 6,
oq 63 (.faddr 1 (.t 1)),
oq 64 (ld 63),
oq 65 (.lenSl (.t 64)),
oq 66 (bi .lss (.t 62) (.t 65))])
(.cond (.t 66) .skip (.exit 2)))
(.seq (.block 3 (.seq (.reg [oq 69 (.faddr 1 (.t 1)),
oq 70 (ld 69),
mt 71 6,
oq 72 (.iaddr (.slice 6) (.t 70) (.t 71)),
oq 73 (.ld true 6 (.t 72)),
⟨(some 7),(.a (.alloc 64 [(.int .i64 (.ofNat 0)),(.int .i64 (.ofNat 0)),(.int .i64 (.ofNat 0)),.nilsl,.nilsl,.nilsl])),none,0⟩,
⟨none,(.x (.st 6 (.t 7) (.t 73))),none,0⟩])
(.seq (.drw [oq 74 (.faddr 0 (.t 7)),
om 75 1 (ld 74),
om 76 3 (bi .eql (.t 75) (ci 2)),
om 77 7 (.mv (.t 76)),
og 78 77 true 15 (.faddr 2 (.t 1)),
og 79 77 true 31 (ld 78),
og 80 77 true 15 (.faddr 2 (.t 7)),
og 81 77 true 79 (ld 80),
og 82 77 true 255 (.iaddr (.slice 2) (.t 79) (.t 81)),
og 83 77 true 511 (.faddr 0 (.t 82)),
og 84 77 true 1023 (ld 83),
og 85 77 true 15 (.faddr 1 (.t 7)),
og 86 77 true 2063 (ld 85),
og 87 77 true 8191 (bi .neq (.t 84) (.t 86)),
og 88 77 true 16383 (.mv (.t 87)),
og 89 88 false 32767 (.faddr 2 (.t 1)),
og 90 88 false 65535 (ld 89),
og 91 88 false 32767 (.faddr 2 (.t 7)),
og 92 88 false 163839 (ld 91),
og 93 88 false 524287 (.iaddr (.slice 2) (.t 90) (.t 92)),
og 94 88 false 1048575 (.faddr 1 (.t 93)),
og 95 88 false 2097151 (ld 94),
og 96 88 false 32767 (.faddr 3 (.t 7)),
og 97 88 false 4227071 (ld 96),
og 98 88 false 12615679 (.lenSl (.t 97)),
og 99 88 false 33554431 (bi .neq (.t 95) (.t 98)),
og 100 77 true 67108863 (.pick (.t 88) (.c (.bool true)) (.t 99)),
om 101 134217727 (.pick (.t 77) (.t 100) (.c (.bool false)))])
(.cond (.t 101) (.seq (.reg [oq 2 (.mv (ci 10))])
.ret) .skip))))
(.reg [mt 67 6,
oq 68 (bi .add (.t 67) (ci 1)),
mt 6 68]))))))
(.seq (.reg [oq 102 (.ld true 3 (.t 1)),
oc 103 104 [(.t 102)] 0,
mt 8 103])
(.seq (.seq (.reg [oq 9 (.mv (ci 0))])
(.block 4 (.loop (.seq (.seq (.reg [mt 104 9,
mt 105 8,
oq 106 (.lenSl (.t 105)),
oq 107 (bi .lss (.t 104) (.t 106))])
(.cond (.t 107) .skip (.exit 4)))
(.seq (.block 5 (.seq (.reg [mt 110 8,
mt 111 9,
oq 112 (.iaddr (.slice 1) (.t 110) (.t 111)),
oq 113 (ld 112),
oq 114 (.lenSl (.t 113)),
oq 115 (bi .eql (.t 114) (ci 0))])
(.cond (.t 115) (.seq (.reg [oq 2 (.mv (ci 18))])
.ret) .skip)))
(.reg [mt 108 9,
oq 109 (bi .add (.t 108) (ci 1)),
mt 9 109]))))))
(.seq (.seq (.reg [oq 10 (.mv (ci 1))])
(.block 6 (.loop (.seq (.seq (.reg [mt 116 10,
mt 117 8,
oq 118 (.lenSl (.t 117)),
oq 119 (bi .lss (.t 116) (.t 118))])
(.cond (.t 119) .skip (.exit 6)))
(.seq (.block 7 (.seq (.drw [mt 122 8,
mt 123 10,
om 124 3 (.iaddr (.slice 1) (.t 122) (.t 123)),
om 125 7 (ld 124),
om 126 15 (.iaddr (.slice 1) (.t 125) (ci 0)),
om 127 31 (ld 126),
mt 128 8,
mt 129 10,
om 130 128 (bi .sub (.t 129) (ci 1)),
om 131 448 (.iaddr (.slice 1) (.t 128) (.t 130)),
om 132 960 (ld 131),
om 133 1984 (.iaddr (.slice 1) (.t 132) (ci 0)),
om 134 4032 (ld 133),
om 135 8191 (bi .lss (.t 127) (.t 134))])
(.cond (.t 135) (.seq (.reg [oq 2 (.mv (ci 9))])
.ret) .skip)))
(.reg [mt 120 10,
oq 121 (bi .add (.t 120) (ci 1)),
mt 10 121]))))))
(.seq (.reg [oq 2 (.mv (ci 0))])
.ret)))))))))))⟩
theorem row53 : Row Go.Proofs.Try.prog (53, a53) := ⟨Go.Proofs.Try.f53, Go.Proofs.Try.func53, by kernel_rfl⟩
end Go.Ev.Gl
