/- Functions of the program as data of the evaluator, written by program; each is shown to be the compiler's result on the loaded function. -/
import Derived.Test.YtmbmidkdinllgaaDoorProg
import Derived.Test.YtmbmidkdinllgaaDoorEv8
import Derived.KernelRfl
namespace Go.Ev.Gl
set_option maxRecDepth 100000
noncomputable def a132 : AFn :=
⟨29,[(.t 8),(.t 9)],(.seq (.reg [oq 8 (.mv (.c (.bool false))),
oq 9 (.mv (.c .nilsl))])
(.seq (.seq (.reg [mt 10 0,
mt 11 2,
oq 12 (.bin .eql (.p .bool) (.t 10) (.t 11))])
(.cond (.t 12) (.seq (.reg [mt 13 0,
mt 14 1,
mt 15 3,
oc 16 99 [(.t 14),(.t 15)] 0,
mt 8 13,
mt 9 16])
.ret) .skip))
(.seq (.seq (.reg [mt 17 1,
mt 18 3,
oc 19 63 [(.t 17),(.t 18)] 0,
oq 20 (bi .geq (.t 19) (ci 0))])
(.cond (.t 20) (.seq (.reg [mt 21 0,
mt 22 1,
mt 23 3,
oc 24 100 [(.t 22),(.t 23)] 0,
mt 8 21,
mt 9 24])
.ret) .skip))
(.seq (.reg [mt 25 2,
mt 26 3,
mt 27 1,
oc 28 100 [(.t 26),(.t 27)] 0,
mt 8 25,
mt 9 28])
.ret))))⟩
theorem row132 : Row Go.Proofs.Tryd.prog (132, a132) := ⟨Go.Proofs.Tryd.f132, Go.Proofs.Tryd.func132, by kernel_rfl⟩
noncomputable def a134 : AFn :=
⟨14,[(.t 2)],(.seq (.reg [oq 2 (.mv (ci 0))])
(.seq (.seq (.reg [mt 3 0,
oq 4 (bi .eql (.t 3) (.c (.int .u64 (.ofNat 0))))])
(.cond (.t 4) (.seq (.reg [oq 2 (.mv (ci 64))])
.ret) .skip))
(.seq (.reg [mt 5 0,
mt 6 0,
oq 7 (.un .neg (.t 6)),
oq 8 (bi .and (.t 5) (.t 7)),
oq 9 (bi .mul (.t 8) (.c (.int .u64 (.ofNat 285870213051353865)))),
oq 10 (bi .shr (.t 9) (.c (.int .u64 (.ofNat 58)))),
oq 11 (.iaddr (.arr 64 1) (.c (.ptr 2 0)) (.t 10)),
oq 12 (ld 11),
oq 13 (.conv (.int .i64) (.t 12)),
mt 2 13])
.ret)))⟩
theorem row134 : Row Go.Proofs.Tryd.prog (134, a134) := ⟨Go.Proofs.Tryd.f134, Go.Proofs.Tryd.func134, by kernel_rfl⟩
noncomputable def a135 : AFn :=
⟨69,[(.t 4),(.t 5),(.t 6),(.t 7)],(.seq (.reg [oq 4 (.mv (ci 0)),
oq 5 (.mv (ci 0)),
oq 6 (.mv (ci 0)),
oq 7 (.mv (ci 0))])
(.seq (.reg [oq 4 (.mv (ci 1)),
oq 5 (.mv (ci 0)),
oq 6 (.mv (ci 0)),
oq 7 (.mv (ci 1))])
(.seq (.block 0 (.loop (.seq (.seq (.reg [mt 11 1,
mt 12 6,
oq 13 (bi .add (.t 11) (.t 12)),
oq 14 (bi .neq (.t 13) (ci 0)),
mt 15 14,
og 16 15 true 0 (.mv (.t 1)),
og 17 15 true 0 (.mv (.t 7)),
og 18 15 true 0 (bi .add (.t 16) (.t 17)),
og 19 15 true 0 (bi .neq (.t 18) (ci 0)),
oq 20 (.pick (.t 15) (.t 19) (.c (.bool false)))])
(.cond (.t 20) .skip (.exit 0)))
(.block 1 (.seq (.reg [mt 21 0,
mt 22 4,
oq 23 (bi .add (.t 21) (.t 22)),
mt 24 1,
mt 25 6,
oq 26 (bi .add (.t 24) (.t 25)),
oq 27 (bi .quo (.t 23) (.t 26)),
mt 8 27])
(.seq (.seq (.reg [mt 28 8,
mt 29 0,
mt 30 5,
oq 31 (bi .add (.t 29) (.t 30)),
mt 32 1,
mt 33 7,
oq 34 (bi .add (.t 32) (.t 33)),
oq 35 (bi .quo (.t 31) (.t 34)),
oq 36 (bi .neq (.t 28) (.t 35))])
(.cond (.t 36) (.exit 0) .skip))
(.seq (.reg [mt 37 4,
mt 38 8,
mt 39 6,
oq 40 (bi .mul (.t 38) (.t 39)),
oq 41 (bi .sub (.t 37) (.t 40)),
mt 42 5,
mt 43 8,
mt 44 7,
oq 45 (bi .mul (.t 43) (.t 44)),
oq 46 (bi .sub (.t 42) (.t 45)),
mt 9 41,
mt 10 46])
(.seq (.seq (.reg [mt 47 9,
mt 48 9,
oq 49 (.un .neg (.t 48)),
mt 50 10,
mt 51 10,
oq 52 (.un .neg (.t 51)),
oq 53 (.minmax true [(.t 47),(.t 49),(.t 50),(.t 52)]),
oq 54 (bi .geq (.t 53) (ci 1000000000))])
(.cond (.t 54) (.exit 0) .skip))
(.seq (.reg [mt 55 6,
mt 56 7,
mt 57 9,
mt 58 10,
mt 4 55,
mt 5 56,
mt 6 57,
mt 7 58])
(.reg [mt 59 1,
mt 60 0,
mt 61 8,
mt 62 1,
oq 63 (bi .mul (.t 61) (.t 62)),
oq 64 (bi .sub (.t 60) (.t 63)),
mt 0 59,
mt 1 64]))))))))))
(.seq (.reg [mt 65 4,
mt 66 5,
mt 67 6,
mt 68 7,
mt 4 65,
mt 5 66,
mt 6 67,
mt 7 68])
.ret))))⟩
theorem row135 : Row Go.Proofs.Tryd.prog (135, a135) := ⟨Go.Proofs.Tryd.f135, Go.Proofs.Tryd.func135, by kernel_rfl⟩
noncomputable def a136 : AFn :=
⟨30,[(.t 4),(.t 5)],(.seq (.reg [oq 4 (.mv (ci 0)),
oq 5 (.mv (ci 0))])
(.seq (.reg [mt 9 0,
oq 10 (.lenSl (.t 9)),
⟨(some 6),(.a (.alloc 3 [(.int .i64 (.ofNat 0))])),none,0⟩,
⟨none,(.x (.st 1 (.t 6) (.t 10))),none,0⟩])
(.seq (.reg [⟨(some 7),(.a (.alloc 88 [(.int .u64 (.ofNat 0))])),none,0⟩,
⟨none,(.x (.st 1 (.t 7) (.c (.int .u64 (.ofNat 1))))),none,0⟩])
(.seq (.block 0 (.loop (.seq (.seq (.drw [mt 11 0,
oq 12 (ld 6),
om 13 2 (bi .sub (.t 12) (ci 1)),
om 14 7 (.iaddr (.slice 1) (.t 11) (.t 13)),
om 15 15 (ld 14),
om 16 31 (.conv (.int .u64) (.t 15)),
oq 17 (ld 7),
om 18 127 (bi .mul (.t 16) (.t 17)),
om 19 255 (bi .mul (.t 18) (.c (.int .u64 (.ofNat 10)))),
om 20 511 (bi .lss (.t 19) (.c (.int .u64 (.ofNat 1000000000))))])
(.cond (.t 20) .skip (.exit 0)))
(.block 1 (.reg [oq 21 (ld 7),
oq 22 (bi .mul (.t 21) (.c (.int .u64 (.ofNat 10)))),
⟨none,(.x (.st 1 (.t 7) (.t 22))),none,0⟩])))))
(.seq (.reg [oq 23 (.mkFunc 142 [] [(.t 6),(.t 7)]),
mt 8 23])
(.seq (.reg [mt 24 8,
mt 25 0,
⟨(some 26),(.x (.call (.t 24) [(.t 25)])),none,0⟩,
mt 27 8,
mt 28 1,
⟨(some 29),(.x (.call (.t 27) [(.t 28)])),none,0⟩,
mt 4 26,
mt 5 29])
.ret))))))⟩
theorem row136 : Row Go.Proofs.Tryd.prog (136, a136) := ⟨Go.Proofs.Tryd.f136, Go.Proofs.Tryd.func136, by kernel_rfl⟩
noncomputable def a137 : AFn :=
⟨63,[(.t 8)],(.seq (.reg [oq 8 (.mv (.c .nilsl))])
(.seq (.reg [mt 13 0,
oq 14 (.lenSl (.t 13)),
⟨(some 15),(.a (.mkSlice 41 1 4 [(.int .u32 (.ofNat 0))] (.t 14) (.t 14))),none,0⟩,
mt 9 15])
(.seq (.reg [oq 10 (.mv (ci 0))])
(.seq (.seq (.reg [mt 16 0,
oq 17 (.lenSl (.t 16)),
oq 18 (.mv (ci 0))])
(.block 0 (.loop (.seq (.reg [oq 19 (bi .lss (.t 18) (.t 17))])
(.seq (.cond (.t 19) .skip (.exit 0))
(.seq (.block 1 (.seq (.reg [mt 20 18,
mt 11 20])
(.seq (.reg [mt 21 2,
mt 22 0,
mt 23 11,
oq 24 (.iaddr (.slice 1) (.t 22) (.t 23)),
oq 25 (ld 24),
oq 26 (.conv (.int .i64) (.t 25)),
oq 27 (bi .mul (.t 21) (.t 26)),
mt 28 10,
oq 29 (bi .add (.t 27) (.t 28)),
mt 12 29])
(.seq (.seq (.reg [mt 30 11,
mt 31 1,
oq 32 (.lenSl (.t 31)),
oq 33 (bi .lss (.t 30) (.t 32))])
(.cond (.t 33) (.reg [mt 34 12,
mt 35 3,
mt 36 1,
mt 37 11,
oq 38 (.iaddr (.slice 1) (.t 36) (.t 37)),
oq 39 (ld 38),
oq 40 (.conv (.int .i64) (.t 39)),
oq 41 (bi .mul (.t 35) (.t 40)),
oq 42 (bi .add (.t 34) (.t 41)),
mt 12 42]) .skip))
(.seq (.reg [mt 43 12,
oq 44 (bi .quo (.t 43) (ci 1000000000)),
mt 10 44])
(.seq (.reg [mt 45 12,
mt 46 10,
oq 47 (bi .mul (.t 46) (ci 1000000000)),
oq 48 (bi .sub (.t 45) (.t 47)),
mt 12 48])
(.seq (.seq (.reg [mt 49 12,
oq 50 (bi .lss (.t 49) (ci 0))])
(.cond (.t 50) (.seq (.reg [mt 51 12,
oq 52 (bi .add (.t 51) (ci 1000000000)),
mt 12 52])
(.reg [mt 53 10,
oq 54 (bi .sub (.t 53) (ci 1)),
mt 10 54])) .skip))
(.reg [mt 55 9,
mt 56 11,
mt 57 12,
oq 58 (.conv (.int .u32) (.t 57)),
oq 59 (.iaddr (.slice 1) (.t 55) (.t 56)),
⟨none,(.x (.st 1 (.t 59) (.t 58))),none,0⟩]))))))))
(.reg [oq 60 (bi .add (.t 18) (ci 1)),
mt 18 60])))))))
(.seq (.reg [mt 61 9,
oc 62 103 [(.t 61)] 0,
mt 8 62])
.ret)))))⟩
theorem row137 : Row Go.Proofs.Tryd.prog (137, a137) := ⟨Go.Proofs.Tryd.f137, Go.Proofs.Tryd.func137, by kernel_rfl⟩
noncomputable def a139 : AFn :=
⟨8,[(.t 4)],(.seq (.reg [oq 4 (.mv (ci 0))])
(.seq (.reg [mt 5 0,
mt 6 1,
oc 7 140 [(.t 5),(.t 6)] 0,
mt 4 7])
.ret))⟩
theorem row139 : Row Go.Proofs.Tryd.prog (139, a139) := ⟨Go.Proofs.Tryd.f139, Go.Proofs.Tryd.func139, by kernel_rfl⟩
noncomputable def a140 : AFn :=
⟨143,[(.t 4)],(.seq (.reg [oq 4 (.mv (ci 0))])
(.seq (.reg [mt 14 1,
oq 15 (.lenStr (.t 14)),
mt 5 15])
(.seq (.block 0 (.seq (.reg [mt 17 5,
oq 18 (bi .eql (.t 17) (ci 0)),
mt 19 18,
og 20 19 false 0 (.mv (.t 1)),
og 21 19 false 0 (.mv (.t 0)),
og 22 19 false 0 (.bin .eql (.p .str) (.t 20) (.t 21)),
oq 23 (.pick (.t 19) (.c (.bool true)) (.t 22)),
mt 16 23])
(.cond (.t 16) (.seq (.reg [oq 4 (.mv (ci 0))])
.ret) (.seq (.reg [mt 25 5,
oq 26 (bi .eql (.t 25) (ci 1)),
mt 24 26])
(.cond (.t 24) (.seq (.reg [mt 27 0,
mt 28 1,
oq 29 (.idxStr (.t 28) (ci 0)),
oc 30 144 [(.t 27),(.t 29)] 0,
mt 4 30])
.ret) (.seq (.reg [mt 32 5,
mt 33 0,
oq 34 (.lenStr (.t 33)),
oq 35 (bi .geq (.t 32) (.t 34)),
mt 31 35])
(.cond (.t 31) (.seq (.reg [oq 4 (.mv (.c (.int .i64 (.negSucc 0))))])
.ret) (.seq (.reg [mt 37 5,
oq 38 (.ld false 1 (.c (.ptr 3 0))),
oq 39 (bi .leq (.t 37) (.t 38)),
mt 40 39,
og 41 40 true 0 (.mv (.t 0)),
og 42 40 true 0 (.lenStr (.t 41)),
og 43 40 true 0 (bi .leq (.t 42) (ci 64)),
oq 44 (.pick (.t 40) (.t 43) (.c (.bool false))),
mt 36 44])
(.cond (.t 36) (.seq (.reg [mt 45 0,
mt 46 1,
oc 47 145 [(.t 45),(.t 46)] 0,
mt 4 47])
.ret) .skip)))))))))
(.seq (.reg [mt 48 1,
oq 49 (.idxStr (.t 48) (ci 0)),
mt 6 49])
(.seq (.reg [mt 50 1,
oq 51 (.idxStr (.t 50) (ci 1)),
mt 7 51])
(.seq (.reg [oq 8 (.mv (ci 0))])
(.seq (.reg [mt 52 0,
oq 53 (.lenStr (.t 52)),
mt 54 5,
oq 55 (bi .sub (.t 53) (.t 54)),
oq 56 (bi .add (.t 55) (ci 1)),
mt 9 56])
(.seq (.reg [oq 10 (.mv (ci 0))])
(.seq (.block 1 (.loop (.seq (.seq (.reg [mt 57 8,
mt 58 9,
oq 59 (bi .lss (.t 57) (.t 58))])
(.cond (.t 59) .skip (.exit 1)))
(.block 2 (.seq (.seq (.reg [mt 60 0,
mt 61 8,
oq 62 (.idxStr (.t 60) (.t 61)),
mt 63 6,
oq 64 (bi .neq (.t 62) (.t 63))])
(.cond (.t 64) (.seq (.reg [mt 65 0,
mt 66 8,
oq 67 (bi .add (.t 66) (ci 1)),
mt 68 9,
oq 69 (.slc .str (.t 65) (some (.t 67)) (some (.t 68)) none),
mt 70 6,
oc 71 144 [(.t 69),(.t 70)] 0,
mt 11 71])
(.seq (.seq (.reg [mt 72 11,
oq 73 (bi .lss (.t 72) (ci 0))])
(.cond (.t 73) (.seq (.reg [oq 4 (.mv (.c (.int .i64 (.negSucc 0))))])
.ret) .skip))
(.reg [mt 74 8,
mt 75 11,
oq 76 (bi .add (.t 75) (ci 1)),
oq 77 (bi .add (.t 74) (.t 76)),
mt 8 77]))) .skip))
(.seq (.seq (.reg [mt 78 0,
mt 79 8,
oq 80 (bi .add (.t 79) (ci 1)),
oq 81 (.idxStr (.t 78) (.t 80)),
mt 82 7,
oq 83 (bi .eql (.t 81) (.t 82)),
mt 84 83,
og 85 84 true 0 (.mv (.t 0)),
og 86 84 true 0 (.mv (.t 8)),
og 87 84 true 0 (.mv (.t 8)),
og 88 84 true 0 (.mv (.t 5)),
og 89 84 true 0 (bi .add (.t 87) (.t 88)),
og 90 84 true 0 (.slc .str (.t 85) (some (.t 86)) (some (.t 89)) none),
og 91 84 true 0 (.mv (.t 1)),
og 92 84 true 0 (.bin .eql (.p .str) (.t 90) (.t 91)),
oq 93 (.pick (.t 84) (.t 92) (.c (.bool false)))])
(.cond (.t 93) (.seq (.reg [mt 94 8,
mt 4 94])
.ret) .skip))
(.seq (.reg [mt 95 8,
oq 96 (bi .add (.t 95) (ci 1)),
mt 8 96])
(.seq (.reg [mt 97 10,
oq 98 (bi .add (.t 97) (ci 1)),
mt 10 98])
(.seq (.reg [mt 99 5,
oq 100 (.ld false 1 (.c (.ptr 3 0))),
oq 101 (bi .leq (.t 99) (.t 100)),
mt 102 101,
og 103 102 true 0 (.mv (.t 10)),
og 104 102 true 0 (.mv (.t 8)),
⟨(some 105),(.x (.call (.c (.fn 146 [] [])) [(.t 104)])),(some (102,true)),0⟩,
og 106 102 true 0 (bi .gtr (.t 103) (.t 105)),
oq 107 (.pick (.t 102) (.t 106) (.c (.bool false)))])
(.cond (.t 107) (.seq (.reg [mt 108 0,
mt 109 8,
oq 110 (.slc .str (.t 108) (some (.t 109)) none none),
mt 111 1,
oc 112 145 [(.t 110),(.t 111)] 0,
mt 12 112])
(.seq (.seq (.reg [mt 113 12,
oq 114 (bi .geq (.t 113) (ci 0))])
(.cond (.t 114) (.seq (.reg [mt 115 12,
mt 116 8,
oq 117 (bi .add (.t 115) (.t 116)),
mt 4 117])
.ret) .skip))
(.seq (.reg [oq 4 (.mv (.c (.int .i64 (.negSucc 0))))])
.ret))) (.seq (.reg [mt 118 5,
oq 119 (.ld false 1 (.c (.ptr 3 0))),
oq 120 (bi .gtr (.t 118) (.t 119)),
mt 121 120,
og 122 121 true 0 (.mv (.t 10)),
og 123 121 true 0 (.mv (.t 8)),
og 124 121 true 0 (bi .shr (.t 123) (.c (.int .u64 (.ofNat 4)))),
og 125 121 true 0 (bi .add (ci 4) (.t 124)),
og 126 121 true 0 (bi .geq (.t 122) (.t 125)),
oq 127 (.pick (.t 121) (.t 126) (.c (.bool false))),
mt 128 127,
og 129 128 true 0 (.mv (.t 8)),
og 130 128 true 0 (.mv (.t 9)),
og 131 128 true 0 (bi .lss (.t 129) (.t 130)),
oq 132 (.pick (.t 128) (.t 131) (.c (.bool false)))])
(.cond (.t 132) (.seq (.reg [mt 133 0,
mt 134 8,
oq 135 (.slc .str (.t 133) (some (.t 134)) none none),
mt 136 1,
oc 137 147 [(.t 135),(.t 136)] 0,
mt 13 137])
(.seq (.seq (.reg [mt 138 13,
oq 139 (bi .lss (.t 138) (ci 0))])
(.cond (.t 139) (.seq (.reg [oq 4 (.mv (.c (.int .i64 (.negSucc 0))))])
.ret) .skip))
(.seq (.reg [mt 140 8,
mt 141 13,
oq 142 (bi .add (.t 140) (.t 141)),
mt 4 142])
.ret))) .skip))))))))))))
(.seq (.reg [oq 4 (.mv (.c (.int .i64 (.negSucc 0))))])
.ret))))))))))⟩
theorem row140 : Row Go.Proofs.Tryd.prog (140, a140) := ⟨Go.Proofs.Tryd.f140, Go.Proofs.Tryd.func140, by kernel_rfl⟩
noncomputable def a141 : AFn :=
⟨18,[(.t 4)],(.seq (.reg [oq 4 (.mv (.c (.bool false)))])
(.seq (.reg [mt 5 0,
oq 6 (.lenStr (.t 5)),
mt 7 1,
oq 8 (.lenStr (.t 7)),
oq 9 (bi .geq (.t 6) (.t 8)),
mt 10 9,
og 11 10 true 0 (.mv (.t 0)),
og 12 10 true 0 (.mv (.t 1)),
og 13 10 true 0 (.lenStr (.t 12)),
og 14 10 true 0 (.slc .str (.t 11) none (some (.t 13)) none),
og 15 10 true 0 (.mv (.t 1)),
og 16 10 true 0 (.bin .eql (.p .str) (.t 14) (.t 15)),
oq 17 (.pick (.t 10) (.t 16) (.c (.bool false))),
mt 4 17])
.ret))⟩
theorem row141 : Row Go.Proofs.Tryd.prog (141, a141) := ⟨Go.Proofs.Tryd.f141, Go.Proofs.Tryd.func141, by kernel_rfl⟩
noncomputable def a142 : AFn :=
⟨28,[(.t 4)],(.seq (.reg [⟨(some 3),(.a (.box 23 (.t 0))),none,0⟩,
oq 4 (.mv (ci 0))])
(.seq (.reg [oq 6 (.mkFunc 143 [] [(.t 3)]),
mt 5 6])
(.seq (.drw [mt 7 5,
oq 8 (ld 1),
om 9 2 (bi .sub (.t 8) (ci 1)),
⟨(some 10),(.x (.call (.t 7) [(.t 9)])),none,7⟩,
om 11 15 (bi .mul (.t 10) (.c (.int .u64 (.ofNat 1000000000)))),
mt 12 5,
oq 13 (ld 1),
om 14 64 (bi .sub (.t 13) (ci 2)),
⟨(some 15),(.x (.call (.t 12) [(.t 14)])),none,239⟩,
om 16 511 (bi .add (.t 11) (.t 15)),
oq 17 (ld 2),
om 18 2047 (bi .mul (.t 16) (.t 17)),
mt 19 5,
oq 20 (ld 1),
om 21 8192 (bi .sub (.t 20) (ci 3)),
⟨(some 22),(.x (.call (.t 19) [(.t 21)])),none,29167⟩,
oq 23 (ld 2),
om 24 127471 (bi .mul (.t 22) (.t 23)),
om 25 258543 (bi .quo (.t 24) (.c (.int .u64 (.ofNat 1000000000)))),
om 26 524287 (bi .add (.t 18) (.t 25)),
om 27 1048575 (.conv (.int .i64) (.t 26)),
om 4 2097151 (.mv (.t 27))])
.ret)))⟩
theorem row142 : Row Go.Proofs.Tryd.prog (142, a142) := ⟨Go.Proofs.Tryd.f142, Go.Proofs.Tryd.func142, by kernel_rfl⟩
noncomputable def a143 : AFn :=
⟨13,[(.t 3)],(.seq (.reg [oq 3 (.mv (.c (.int .u64 (.ofNat 0))))])
(.seq (.seq (.reg [mt 4 0,
oq 5 (ld 1),
oq 6 (.lenSl (.t 5)),
oq 7 (bi .lss (.t 4) (.t 6))])
(.cond (.t 7) (.seq (.reg [oq 8 (ld 1),
mt 9 0,
oq 10 (.iaddr (.slice 1) (.t 8) (.t 9)),
oq 11 (ld 10),
oq 12 (.conv (.int .u64) (.t 11)),
mt 3 12])
.ret) .skip))
(.seq (.reg [oq 3 (.mv (.c (.int .u64 (.ofNat 0))))])
.ret)))⟩
theorem row143 : Row Go.Proofs.Tryd.prog (143, a143) := ⟨Go.Proofs.Tryd.f143, Go.Proofs.Tryd.func143, by kernel_rfl⟩
noncomputable def a144 : AFn :=
⟨8,[(.t 4)],(.seq (.reg [oq 4 (.mv (ci 0))])
(.seq (.reg [mt 5 0,
mt 6 1,
⟨(some 7),(.x (.ext .idxByte [(.t 5),(.t 6)])),none,0⟩,
mt 4 7])
.ret))⟩
theorem row144 : Row Go.Proofs.Tryd.prog (144, a144) := ⟨Go.Proofs.Tryd.f144, Go.Proofs.Tryd.func144, by kernel_rfl⟩
noncomputable def a146 : AFn :=
⟨6,[(.t 2)],(.seq (.reg [oq 2 (.mv (ci 0))])
(.seq (.reg [mt 3 0,
oq 4 (bi .add (.t 3) (ci 16)),
oq 5 (bi .quo (.t 4) (ci 8)),
mt 2 5])
.ret))⟩
theorem row146 : Row Go.Proofs.Tryd.prog (146, a146) := ⟨Go.Proofs.Tryd.f146, Go.Proofs.Tryd.func146, by kernel_rfl⟩
noncomputable def a147 : AFn :=
⟨81,[(.t 4)],(.seq (.reg [oq 4 (.mv (ci 0))])
(.seq (.reg [mt 12 1,
oc 13 149 [(.t 12)] 0,
mt 11 13,
oq 14 (.extract (.t 11) 0),
oq 15 (.extract (.t 11) 1),
mt 5 14,
mt 6 15])
(.seq (.reg [mt 16 1,
oq 17 (.lenStr (.t 16)),
mt 7 17])
(.seq (.reg [oq 8 (.mv (.c (.int .u32 (.ofNat 0))))])
(.seq (.seq (.reg [oq 9 (.mv (ci 0))])
(.block 0 (.loop (.seq (.seq (.reg [mt 18 9,
mt 19 7,
oq 20 (bi .lss (.t 18) (.t 19))])
(.cond (.t 20) .skip (.exit 0)))
(.seq (.block 1 (.reg [mt 23 8,
oq 24 (bi .mul (.t 23) (.c (.int .u32 (.ofNat 16777619)))),
mt 25 0,
mt 26 9,
oq 27 (.idxStr (.t 25) (.t 26)),
oq 28 (.conv (.int .u32) (.t 27)),
oq 29 (bi .add (.t 24) (.t 28)),
mt 8 29]))
(.reg [mt 21 9,
oq 22 (bi .add (.t 21) (ci 1)),
mt 9 22]))))))
(.seq (.seq (.reg [mt 30 8,
mt 31 5,
oq 32 (bi .eql (.t 30) (.t 31)),
mt 33 32,
og 34 33 true 0 (.mv (.t 0)),
og 35 33 true 0 (.mv (.t 7)),
og 36 33 true 0 (.slc .str (.t 34) none (some (.t 35)) none),
og 37 33 true 0 (.mv (.t 1)),
og 38 33 true 0 (.bin .eql (.p .str) (.t 36) (.t 37)),
oq 39 (.pick (.t 33) (.t 38) (.c (.bool false)))])
(.cond (.t 39) (.seq (.reg [oq 4 (.mv (ci 0))])
.ret) .skip))
(.seq (.seq (.reg [mt 40 7,
mt 10 40])
(.block 2 (.loop (.seq (.seq (.reg [mt 41 10,
mt 42 0,
oq 43 (.lenStr (.t 42)),
oq 44 (bi .lss (.t 41) (.t 43))])
(.cond (.t 44) .skip (.exit 2)))
(.block 3 (.seq (.reg [mt 45 8,
oq 46 (bi .mul (.t 45) (.c (.int .u32 (.ofNat 16777619)))),
mt 8 46])
(.seq (.reg [mt 47 8,
mt 48 0,
mt 49 10,
oq 50 (.idxStr (.t 48) (.t 49)),
oq 51 (.conv (.int .u32) (.t 50)),
oq 52 (bi .add (.t 47) (.t 51)),
mt 8 52])
(.seq (.reg [mt 53 8,
mt 54 6,
mt 55 0,
mt 56 10,
mt 57 7,
oq 58 (bi .sub (.t 56) (.t 57)),
oq 59 (.idxStr (.t 55) (.t 58)),
oq 60 (.conv (.int .u32) (.t 59)),
oq 61 (bi .mul (.t 54) (.t 60)),
oq 62 (bi .sub (.t 53) (.t 61)),
mt 8 62])
(.seq (.reg [mt 63 10,
oq 64 (bi .add (.t 63) (ci 1)),
mt 10 64])
(.seq (.reg [mt 65 8,
mt 66 5,
oq 67 (bi .eql (.t 65) (.t 66)),
mt 68 67,
og 69 68 true 0 (.mv (.t 0)),
og 70 68 true 0 (.mv (.t 10)),
og 71 68 true 0 (.mv (.t 7)),
og 72 68 true 0 (bi .sub (.t 70) (.t 71)),
og 73 68 true 0 (.mv (.t 10)),
og 74 68 true 0 (.slc .str (.t 69) (some (.t 72)) (some (.t 73)) none),
og 75 68 true 0 (.mv (.t 1)),
og 76 68 true 0 (.bin .eql (.p .str) (.t 74) (.t 75)),
oq 77 (.pick (.t 68) (.t 76) (.c (.bool false)))])
(.cond (.t 77) (.seq (.reg [mt 78 10,
mt 79 7,
oq 80 (bi .sub (.t 78) (.t 79)),
mt 4 80])
.ret) .skip)))))))))))
(.seq (.reg [oq 4 (.mv (.c (.int .i64 (.negSucc 0))))])
.ret))))))))⟩
theorem row147 : Row Go.Proofs.Tryd.prog (147, a147) := ⟨Go.Proofs.Tryd.f147, Go.Proofs.Tryd.func147, by kernel_rfl⟩
noncomputable def a149 : AFn :=
⟨39,[(.t 2),(.t 3)],(.seq (.reg [oq 2 (.mv (.c (.int .u32 (.ofNat 0)))),
oq 3 (.mv (.c (.int .u32 (.ofNat 0))))])
(.seq (.reg [oq 4 (.mv (.c (.int .u32 (.ofNat 0))))])
(.seq (.seq (.reg [oq 5 (.mv (ci 0))])
(.block 0 (.loop (.seq (.seq (.reg [mt 9 5,
mt 10 0,
oq 11 (.lenStr (.t 10)),
oq 12 (bi .lss (.t 9) (.t 11))])
(.cond (.t 12) .skip (.exit 0)))
(.seq (.block 1 (.reg [mt 15 4,
oq 16 (bi .mul (.t 15) (.c (.int .u32 (.ofNat 16777619)))),
mt 17 0,
mt 18 5,
oq 19 (.idxStr (.t 17) (.t 18)),
oq 20 (.conv (.int .u32) (.t 19)),
oq 21 (bi .add (.t 16) (.t 20)),
mt 4 21]))
(.reg [mt 13 5,
oq 14 (bi .add (.t 13) (ci 1)),
mt 5 14]))))))
(.seq (.reg [oq 6 (.mv (.c (.int .u32 (.ofNat 1)))),
oq 7 (.mv (.c (.int .u32 (.ofNat 16777619))))])
(.seq (.seq (.reg [mt 22 0,
oq 23 (.lenStr (.t 22)),
mt 8 23])
(.block 2 (.loop (.seq (.seq (.reg [mt 24 8,
oq 25 (bi .gtr (.t 24) (ci 0))])
(.cond (.t 25) .skip (.exit 2)))
(.seq (.block 3 (.seq (.seq (.reg [mt 28 8,
oq 29 (bi .and (.t 28) (ci 1)),
oq 30 (bi .neq (.t 29) (ci 0))])
(.cond (.t 30) (.reg [mt 31 6,
mt 32 7,
oq 33 (bi .mul (.t 31) (.t 32)),
mt 6 33]) .skip))
(.reg [mt 34 7,
mt 35 7,
oq 36 (bi .mul (.t 34) (.t 35)),
mt 7 36])))
(.reg [mt 26 8,
oq 27 (bi .shr (.t 26) (.c (.int .u64 (.ofNat 1)))),
mt 8 27]))))))
(.seq (.reg [mt 37 4,
mt 38 6,
mt 2 37,
mt 3 38])
.ret))))))⟩
theorem row149 : Row Go.Proofs.Tryd.prog (149, a149) := ⟨Go.Proofs.Tryd.f149, Go.Proofs.Tryd.func149, by kernel_rfl⟩
end Go.Ev.Gl
