/- Functions of the program as data of the evaluator, written by program; each is shown to be the compiler's result on the loaded function. -/
import Derived.Test.YtoojnpjgnnpllaaProg
import Derived.Test.YtoojnpjgnnpllaaEv8
import Derived.KernelRfl
namespace Go.Ev.Gl
set_option maxRecDepth 100000
noncomputable def a82 : AFn :=
⟨18,[(.t 2)],(.seq (.reg [oq 2 (.mv (ci 0))])
(.seq (.reg [oq 3 (.mv (ci 0))])
(.seq (.seq (.reg [oq 4 (.mv (ci 0))])
(.block 0 (.loop (.seq (.seq (.reg [mt 5 4,
mt 6 0,
oq 7 (.lenSl (.t 6)),
oq 8 (bi .lss (.t 5) (.t 7))])
(.cond (.t 8) .skip (.exit 0)))
(.seq (.block 1 (.reg [mt 11 3,
mt 12 0,
mt 13 4,
oq 14 (.iaddr (.slice 1) (.t 12) (.t 13)),
oq 15 (ld 14),
oq 16 (bi .add (.t 11) (.t 15)),
mt 3 16]))
(.reg [mt 9 4,
oq 10 (bi .add (.t 9) (ci 1)),
mt 4 10]))))))
(.seq (.reg [mt 17 3,
mt 2 17])
.ret))))⟩
theorem row82 : Row Go.Proofs.Try.prog (82, a82) := ⟨Go.Proofs.Try.f82, Go.Proofs.Try.func82, by kernel_rfl⟩
noncomputable def a83 : AFn :=
⟨18,[(.t 4),(.t 5)],(.seq (.reg [oq 4 (.mv (ci 0)),
oq 5 (.mv (.c (.bool false)))])
(.seq (.reg [mt 6 0,
mt 7 0,
mt 8 1,
oc 9 126 [(.t 7),(.t 8)] 0,
oq 10 (bi .quo (.t 6) (.t 9)),
mt 0 10])
(.seq (.seq (.reg [mt 11 0,
mt 12 1,
oq 13 (bi .quo (ci 1000000000000000) (.t 12)),
oq 14 (bi .gtr (.t 11) (.t 13))])
(.cond (.t 14) (.seq (.reg [oq 4 (.mv (ci 0)),
oq 5 (.mv (.c (.bool false)))])
.ret) .skip))
(.seq (.reg [mt 15 0,
mt 16 1,
oq 17 (bi .mul (.t 15) (.t 16)),
mt 4 17,
oq 5 (.mv (.c (.bool true)))])
.ret))))⟩
theorem row83 : Row Go.Proofs.Try.prog (83, a83) := ⟨Go.Proofs.Try.f83, Go.Proofs.Try.func83, by kernel_rfl⟩
noncomputable def a84 : AFn :=
⟨19,[(.t 6)],(.seq (.reg [⟨(some 3),(.a (.box 28 (.t 0))),none,0⟩,
oq 6 (.mv (.c .nilsl))])
(.seq (.reg [⟨(some 7),(.a (.alloc 22 [.nilsl])),none,0⟩])
(.seq (.seq (.reg [oq 9 (.ld true 3 (.t 3)),
mt 10 1,
mt 11 2,
oc 12 127 [(.t 9),(.t 10),(.t 11)] 0])
(.block 0 (.rng (.t 12) [13] (.reg [mt 8 13]) (.block 1 (.reg [oq 14 (ld 7),
mt 15 8,
⟨(some 16),(.a (.bslice 3 1 1 [(.int .i64 (.ofNat 0))] [(0,(.t 15))])),none,0⟩,
⟨(some 17),(.x (.app 3 1 8 (.t 14) (.t 16))),none,0⟩,
⟨none,(.x (.st 1 (.t 7) (.t 17))),none,0⟩])))))
(.seq (.reg [oq 18 (ld 7),
mt 6 18])
.ret))))⟩
theorem row84 : Row Go.Proofs.Try.prog (84, a84) := ⟨Go.Proofs.Try.f84, Go.Proofs.Try.func84, by kernel_rfl⟩
noncomputable def a85 : AFn :=
⟨21,[(.t 4)],(.seq (.reg [oq 4 (.mv (ci 0))])
(.seq (.reg [oq 5 (.mv (ci 0))])
(.seq (.block 0 (.loop (.seq (.seq (.reg [mt 6 1,
mt 7 0,
mt 8 5,
oq 9 (.iaddr (.slice 1) (.t 7) (.t 8)),
oq 10 (ld 9),
oq 11 (bi .geq (.t 6) (.t 10))])
(.cond (.t 11) .skip (.exit 0)))
(.block 1 (.seq (.reg [mt 12 1,
mt 13 0,
mt 14 5,
oq 15 (.iaddr (.slice 1) (.t 13) (.t 14)),
oq 16 (ld 15),
oq 17 (bi .sub (.t 12) (.t 16)),
mt 1 17])
(.reg [mt 18 5,
oq 19 (bi .add (.t 18) (ci 1)),
mt 5 19]))))))
(.seq (.reg [mt 20 5,
mt 4 20])
.ret))))⟩
theorem row85 : Row Go.Proofs.Try.prog (85, a85) := ⟨Go.Proofs.Try.f85, Go.Proofs.Try.func85, by kernel_rfl⟩
noncomputable def a87 : AFn :=
⟨11,[(.t 2)],(.seq (.reg [⟨(some 1),(.a (.box 28 (.t 0))),none,0⟩,
oq 2 (.mv (ci 0))])
(.seq (.reg [oq 6 (.ld true 3 (.t 1)),
oc 7 131 [(.t 6)] 0,
mt 5 7,
oq 8 (.extract (.t 5) 0),
oq 9 (.extract (.t 5) 1),
mt 3 8,
mt 4 9])
(.seq (.reg [mt 10 4,
mt 2 10])
.ret)))⟩
theorem row87 : Row Go.Proofs.Try.prog (87, a87) := ⟨Go.Proofs.Try.f87, Go.Proofs.Try.func87, by kernel_rfl⟩
noncomputable def a88 : AFn :=
⟨56,[],(.seq (.reg [mt 10 0,
oq 11 (.nilchk (.t 10)),
oq 12 (.faddr 0 (.t 11)),
oq 13 (.faddr 1 (.t 12)),
oq 14 (ld 13),
mt 15 1,
oq 16 (.iaddr (.slice 6) (.t 14) (.t 15)),
oq 17 (.ld true 6 (.t 16)),
⟨(some 6),(.a (.alloc 64 [(.int .i64 (.ofNat 0)),(.int .i64 (.ofNat 0)),(.int .i64 (.ofNat 0)),.nilsl,.nilsl,.nilsl])),none,0⟩,
⟨none,(.x (.st 6 (.t 6) (.t 17))),none,0⟩])
(.seq (.seq (.reg [oq 18 (.faddr 0 (.t 6)),
oq 19 (ld 18)])
(.block 0 (.seq (.reg [oq 21 (bi .eql (.t 19) (ci 3)),
mt 20 21])
(.cond (.t 20) (.seq (.reg [mt 22 0,
mt 23 2,
oc 24 132 [(.t 22),(.t 23)] 0])
.ret) (.seq (.reg [oq 26 (bi .eql (.t 19) (ci 1)),
mt 25 26])
(.cond (.t 25) (.seq (.reg [oq 27 (.faddr 4 (.t 6)),
oq 28 (ld 27),
oc 29 133 [(.t 28)] 0,
mt 7 29])
(.seq (.seq (.reg [mt 30 2,
mt 31 7,
oq 32 (bi .quo (ci 1000000000000000) (.t 31)),
oq 33 (bi .gtr (.t 30) (.t 32))])
(.cond (.t 33) (.seq (.reg [mt 34 0,
oq 35 (.nilchk (.t 34)),
oq 36 (.faddr 4 (.t 35)),
⟨none,(.x (.st 1 (.t 36) (.c (.bool true)))),none,0⟩])
.ret) .skip))
(.reg [mt 37 2,
mt 38 7,
oq 39 (bi .mul (.t 37) (.t 38)),
mt 2 39]))) .skip))))))
(.seq (.reg [oq 40 (.faddr 3 (.t 6)),
oq 41 (ld 40),
oq 42 (.lenSl (.t 41)),
oq 43 (.mv (ci 0))])
(.block 1 (.loop (.seq (.reg [oq 44 (bi .lss (.t 43) (.t 42))])
(.seq (.cond (.t 44) .skip (.exit 1))
(.seq (.block 2 (.seq (.reg [oq 45 (.iaddr (.slice 1) (.t 41) (.t 43)),
oq 46 (ld 45),
mt 9 46])
(.seq (.seq (.reg [mt 47 0,
oq 48 (.nilchk (.t 47)),
oq 49 (.faddr 4 (.t 48)),
oq 50 (ld 49)])
(.cond (.t 50) .ret .skip))
(.reg [mt 51 0,
mt 52 9,
mt 53 2,
oc 54 88 [(.t 51),(.t 52),(.t 53)] 0]))))
(.reg [oq 55 (bi .add (.t 43) (ci 1)),
mt 43 55])))))))))⟩
theorem row88 : Row Go.Proofs.Try.prog (88, a88) := ⟨Go.Proofs.Try.f88, Go.Proofs.Try.func88, by kernel_rfl⟩
noncomputable def a89 : AFn :=
⟨44,[(.t 4),(.t 5)],(.seq (.reg [⟨(some 2),(.a (.box 28 (.t 0))),none,0⟩,
oq 4 (.mv (ci 0)),
oq 5 (.mv (ci 0))])
(.seq (.seq (.reg [oq 9 (.ld true 3 (.t 2)),
oc 10 87 [(.t 9)] 0,
mt 6 10])
(.seq (.reg [mt 11 6,
oq 12 (bi .neq (.t 11) (ci 0))])
(.cond (.t 12) (.seq (.reg [mt 13 6,
oq 4 (.mv (ci 0)),
mt 5 13])
.ret) .skip)))
(.seq (.seq (.reg [mt 14 1,
oq 15 (.lenSl (.t 14)),
oq 16 (.faddr 2 (.t 2)),
oq 17 (ld 16),
oq 18 (.lenSl (.t 17)),
oq 19 (bi .neq (.t 15) (.t 18))])
(.cond (.t 19) (.seq (.reg [oq 4 (.mv (ci 0)),
oq 5 (.mv (ci 10))])
.ret) .skip))
(.seq (.seq (.reg [mt 20 1,
oq 21 (.lenSl (.t 20)),
oq 22 (.mv (ci 0))])
(.block 0 (.loop (.seq (.reg [oq 23 (bi .lss (.t 22) (.t 21))])
(.seq (.cond (.t 23) .skip (.exit 0))
(.seq (.block 1 (.seq (.reg [mt 24 22,
oq 25 (.iaddr (.slice 1) (.t 20) (.t 22)),
oq 26 (ld 25),
mt 7 24,
mt 8 26])
(.seq (.reg [mt 27 8,
oq 28 (bi .lss (.t 27) (ci 0)),
mt 29 28,
og 30 29 false 0 (.mv (.t 8)),
og 31 29 false 0 (.faddr 2 (.t 2)),
og 32 29 false 0 (ld 31),
og 33 29 false 0 (.mv (.t 7)),
og 34 29 false 0 (.iaddr (.slice 2) (.t 32) (.t 33)),
og 35 29 false 0 (.faddr 1 (.t 34)),
og 36 29 false 0 (ld 35),
og 37 29 false 0 (bi .geq (.t 30) (.t 36)),
oq 38 (.pick (.t 29) (.c (.bool true)) (.t 37))])
(.cond (.t 38) (.seq (.reg [oq 4 (.mv (ci 0)),
oq 5 (.mv (ci 2))])
.ret) .skip))))
(.reg [oq 39 (bi .add (.t 22) (ci 1)),
mt 22 39])))))))
(.seq (.reg [oq 40 (.ld true 3 (.t 2)),
oc 41 39 [(.t 40)] 0,
oq 42 (.extract (.t 41) 0),
oq 43 (.extract (.t 41) 1),
mt 4 42,
mt 5 43])
.ret)))))⟩
theorem row89 : Row Go.Proofs.Try.prog (89, a89) := ⟨Go.Proofs.Try.f89, Go.Proofs.Try.func89, by kernel_rfl⟩
noncomputable def a91 : AFn :=
⟨47,[(.t 4),(.t 5)],(.seq (.reg [⟨(some 2),(.a (.box 28 (.t 0))),none,0⟩,
oq 4 (.mv (ci 0)),
oq 5 (.mv (ci 0))])
(.seq (.seq (.reg [oq 8 (.ld true 3 (.t 2)),
oc 9 53 [(.t 8)] 0,
mt 6 9])
(.seq (.reg [mt 10 6,
oq 11 (bi .neq (.t 10) (ci 0))])
(.cond (.t 11) (.seq (.reg [mt 12 6,
oq 4 (.mv (ci 0)),
mt 5 12])
.ret) .skip)))
(.seq (.seq (.reg [mt 13 1,
oq 14 (.lenSl (.t 13)),
oq 15 (.faddr 2 (.t 2)),
oq 16 (ld 15),
oq 17 (.lenSl (.t 16)),
oq 18 (bi .neq (.t 14) (.t 17))])
(.cond (.t 18) (.seq (.reg [oq 4 (.mv (ci 0)),
oq 5 (.mv (ci 10))])
.ret) .skip))
(.seq (.seq (.reg [oq 7 (.mv (ci 0))])
(.block 0 (.loop (.seq (.seq (.reg [mt 19 7,
mt 20 1,
oq 21 (.lenSl (.t 20)),
oq 22 (bi .lss (.t 19) (.t 21))])
(.cond (.t 22) .skip (.exit 0)))
(.seq (.block 1 (.seq (.drw [mt 25 1,
mt 26 7,
om 27 3 (.iaddr (.slice 1) (.t 25) (.t 26)),
om 28 7 (ld 27),
om 29 15 (bi .lss (.t 28) (ci 0)),
om 30 31 (.mv (.t 29)),
og 31 30 false 63 (.mv (.t 1)),
og 32 30 false 63 (.mv (.t 7)),
og 33 30 false 255 (.iaddr (.slice 1) (.t 31) (.t 32)),
og 34 30 false 511 (ld 33),
og 35 30 false 63 (.faddr 2 (.t 2)),
og 36 30 false 1087 (ld 35),
og 37 30 false 63 (.mv (.t 7)),
og 38 30 false 7231 (.iaddr (.slice 2) (.t 36) (.t 37)),
og 39 30 false 15423 (.faddr 1 (.t 38)),
og 40 30 false 31807 (ld 39),
og 41 30 false 65535 (bi .geq (.t 34) (.t 40)),
om 42 131071 (.pick (.t 30) (.c (.bool true)) (.t 41))])
(.cond (.t 42) (.seq (.reg [oq 4 (.mv (ci 0)),
oq 5 (.mv (ci 2))])
.ret) .skip)))
(.reg [mt 23 7,
oq 24 (bi .add (.t 23) (ci 1)),
mt 7 24]))))))
(.seq (.reg [oq 43 (.ld true 3 (.t 2)),
oc 44 135 [(.t 43)] 0,
oq 45 (.extract (.t 44) 0),
oq 46 (.extract (.t 44) 1),
mt 4 45,
mt 5 46])
.ret)))))⟩
theorem row91 : Row Go.Proofs.Try.prog (91, a91) := ⟨Go.Proofs.Try.f91, Go.Proofs.Try.func91, by kernel_rfl⟩
noncomputable def a92 : AFn :=
⟨8,[(.t 2)],(.seq (.reg [oq 2 (.mv (.c .nilsl))])
(.seq (.seq (.reg [mt 3 0,
oq 4 (.bin .eql (.p .slice) (.t 3) (.c .nilsl))])
(.cond (.t 4) (.seq (.reg [oq 2 (.mv (.c .nilsl))])
.ret) .skip))
(.seq (.reg [⟨(some 5),(.a (.bslice 3 1 0 [(.int .i64 (.ofNat 0))] [])),none,0⟩,
mt 6 0,
⟨(some 7),(.x (.app 3 1 8 (.t 5) (.t 6))),none,0⟩,
mt 2 7])
.ret)))⟩
theorem row92 : Row Go.Proofs.Try.prog (92, a92) := ⟨Go.Proofs.Try.f92, Go.Proofs.Try.func92, by kernel_rfl⟩
noncomputable def a93 : AFn :=
⟨26,[(.t 4)],(.seq (.reg [oq 4 (.mv (.c (.bool false)))])
(.seq (.seq (.reg [mt 6 0,
oq 7 (.lenSl (.t 6)),
mt 8 1,
oq 9 (.lenSl (.t 8)),
oq 10 (bi .neq (.t 7) (.t 9))])
(.cond (.t 10) (.seq (.reg [oq 4 (.mv (.c (.bool false)))])
.ret) .skip))
(.seq (.seq (.reg [oq 5 (.mv (ci 0))])
(.block 0 (.loop (.seq (.seq (.reg [mt 11 5,
mt 12 0,
oq 13 (.lenSl (.t 12)),
oq 14 (bi .lss (.t 11) (.t 13))])
(.cond (.t 14) .skip (.exit 0)))
(.seq (.block 1 (.seq (.drw [mt 17 0,
mt 18 5,
om 19 3 (.iaddr (.slice 2) (.t 17) (.t 18)),
om 20 7 (.ld true 2 (.t 19)),
mt 21 1,
mt 22 5,
om 23 48 (.iaddr (.slice 2) (.t 21) (.t 22)),
om 24 112 (.ld true 2 (.t 23)),
om 25 255 (.bin .neq (.struct [(0,.int),(1,.int)]) (.t 20) (.t 24))])
(.cond (.t 25) (.seq (.reg [oq 4 (.mv (.c (.bool false)))])
.ret) .skip)))
(.reg [mt 15 5,
oq 16 (bi .add (.t 15) (ci 1)),
mt 5 16]))))))
(.seq (.reg [oq 4 (.mv (.c (.bool true)))])
.ret))))⟩
theorem row93 : Row Go.Proofs.Try.prog (93, a93) := ⟨Go.Proofs.Try.f93, Go.Proofs.Try.func93, by kernel_rfl⟩
noncomputable def a94 : AFn :=
⟨45,[(.t 4)],(.seq (.reg [⟨(some 2),(.a (.box 64 (.t 0))),none,0⟩,
⟨(some 3),(.a (.box 64 (.t 1))),none,0⟩,
oq 4 (.mv (.c (.bool false)))])
(.seq (.reg [oq 5 (.faddr 0 (.t 2)),
oq 6 (ld 5),
oq 7 (.faddr 0 (.t 3)),
oq 8 (ld 7),
oq 9 (bi .eql (.t 6) (.t 8)),
mt 10 9,
og 11 10 true 0 (.faddr 1 (.t 2)),
og 12 10 true 0 (ld 11),
og 13 10 true 0 (.faddr 1 (.t 3)),
og 14 10 true 0 (ld 13),
og 15 10 true 0 (bi .eql (.t 12) (.t 14)),
oq 16 (.pick (.t 10) (.t 15) (.c (.bool false))),
mt 17 16,
og 18 17 true 0 (.faddr 2 (.t 2)),
og 19 17 true 0 (ld 18),
og 20 17 true 0 (.faddr 2 (.t 3)),
og 21 17 true 0 (ld 20),
og 22 17 true 0 (bi .eql (.t 19) (.t 21)),
oq 23 (.pick (.t 17) (.t 22) (.c (.bool false))),
mt 24 23,
og 25 24 true 0 (.faddr 3 (.t 2)),
og 26 24 true 0 (ld 25),
og 27 24 true 0 (.faddr 3 (.t 3)),
og 28 24 true 0 (ld 27),
⟨(some 29),(.x (.call (.c (.fn 19 [] [])) [(.t 26),(.t 28)])),(some (24,true)),0⟩,
oq 30 (.pick (.t 24) (.t 29) (.c (.bool false))),
mt 31 30,
og 32 31 true 0 (.faddr 4 (.t 2)),
og 33 31 true 0 (ld 32),
og 34 31 true 0 (.faddr 4 (.t 3)),
og 35 31 true 0 (ld 34),
⟨(some 36),(.x (.call (.c (.fn 19 [] [])) [(.t 33),(.t 35)])),(some (31,true)),0⟩,
oq 37 (.pick (.t 31) (.t 36) (.c (.bool false))),
mt 38 37,
og 39 38 true 0 (.faddr 5 (.t 2)),
og 40 38 true 0 (ld 39),
og 41 38 true 0 (.faddr 5 (.t 3)),
og 42 38 true 0 (ld 41),
⟨(some 43),(.x (.call (.c (.fn 19 [] [])) [(.t 40),(.t 42)])),(some (38,true)),0⟩,
oq 44 (.pick (.t 38) (.t 43) (.c (.bool false))),
mt 4 44])
.ret))⟩
theorem row94 : Row Go.Proofs.Try.prog (94, a94) := ⟨Go.Proofs.Try.f94, Go.Proofs.Try.func94, by kernel_rfl⟩
noncomputable def a102 : AFn :=
⟨165,[(.t 4)],(.seq (.reg [⟨(some 2),(.a (.box 28 (.t 0))),none,0⟩,
⟨(some 3),(.a (.box 64 (.t 1))),none,0⟩,
oq 4 (.mv (ci 0))])
(.seq (.seq (.reg [oq 7 (.faddr 0 (.t 3)),
oq 8 (ld 7)])
(.block 0 (.seq (.reg [oq 10 (bi .eql (.t 8) (ci 1)),
mt 9 10])
(.cond (.t 9) (.seq (.seq (.reg [oq 11 (.faddr 1 (.t 3)),
oq 12 (ld 11),
oq 13 (bi .neq (.t 12) (ci 0)),
mt 14 13,
og 15 14 false 0 (.faddr 2 (.t 3)),
og 16 14 false 0 (ld 15),
og 17 14 false 0 (bi .neq (.t 16) (ci 0)),
oq 18 (.pick (.t 14) (.c (.bool true)) (.t 17)),
mt 19 18,
og 20 19 false 0 (.faddr 5 (.t 3)),
og 21 19 false 0 (ld 20),
og 22 19 false 0 (.lenSl (.t 21)),
og 23 19 false 0 (bi .gtr (.t 22) (ci 0)),
oq 24 (.pick (.t 19) (.c (.bool true)) (.t 23)),
mt 25 24,
og 26 25 false 0 (.faddr 3 (.t 3)),
og 27 25 false 0 (ld 26),
og 28 25 false 0 (.lenSl (.t 27)),
og 29 25 false 0 (bi .lss (.t 28) (ci 1)),
oq 30 (.pick (.t 25) (.c (.bool true)) (.t 29)),
mt 31 30,
og 32 31 false 0 (.faddr 3 (.t 3)),
og 33 31 false 0 (ld 32),
og 34 31 false 0 (.lenSl (.t 33)),
og 35 31 false 0 (bi .gtr (.t 34) (ci 60)),
oq 36 (.pick (.t 31) (.c (.bool true)) (.t 35)),
mt 37 36,
og 38 37 false 0 (.faddr 4 (.t 3)),
og 39 37 false 0 (ld 38),
og 40 37 false 0 (.lenSl (.t 39)),
og 41 37 false 0 (.faddr 3 (.t 3)),
og 42 37 false 0 (ld 41),
og 43 37 false 0 (.lenSl (.t 42)),
og 44 37 false 0 (bi .neq (.t 40) (.t 43)),
oq 45 (.pick (.t 37) (.c (.bool true)) (.t 44))])
(.cond (.t 45) (.seq (.reg [oq 4 (.mv (ci 3))])
.ret) .skip))
(.seq (.reg [oq 5 (.mv (ci 0))])
(.block 1 (.loop (.seq (.seq (.reg [mt 46 5,
oq 47 (.faddr 4 (.t 3)),
oq 48 (ld 47),
oq 49 (.lenSl (.t 48)),
oq 50 (bi .lss (.t 46) (.t 49))])
(.cond (.t 50) .skip (.exit 1)))
(.seq (.block 2 (.seq (.reg [oq 53 (.faddr 4 (.t 3)),
oq 54 (ld 53),
mt 55 5,
oq 56 (.iaddr (.slice 1) (.t 54) (.t 55)),
oq 57 (ld 56),
oq 58 (bi .lss (.t 57) (ci 1)),
mt 59 58,
og 60 59 false 0 (.faddr 4 (.t 3)),
og 61 59 false 0 (ld 60),
og 62 59 false 0 (.mv (.t 5)),
og 63 59 false 0 (.iaddr (.slice 1) (.t 61) (.t 62)),
og 64 59 false 0 (ld 63),
og 65 59 false 0 (bi .gtr (.t 64) (ci 1000)),
oq 66 (.pick (.t 59) (.c (.bool true)) (.t 65))])
(.cond (.t 66) (.seq (.reg [oq 4 (.mv (ci 2))])
.ret) .skip)))
(.reg [mt 51 5,
oq 52 (bi .add (.t 51) (ci 1)),
mt 5 52]))))))) (.seq (.reg [oq 68 (bi .eql (.t 8) (ci 2)),
mt 67 68])
(.cond (.t 67) (.seq (.seq (.reg [oq 69 (.faddr 5 (.t 3)),
oq 70 (ld 69),
oq 71 (.lenSl (.t 70)),
oq 72 (bi .gtr (.t 71) (ci 0)),
mt 73 72,
og 74 73 false 0 (.faddr 4 (.t 3)),
og 75 73 false 0 (ld 74),
og 76 73 false 0 (.lenSl (.t 75)),
og 77 73 false 0 (bi .gtr (.t 76) (ci 0)),
oq 78 (.pick (.t 73) (.c (.bool true)) (.t 77)),
mt 79 78,
og 80 79 false 0 (.faddr 3 (.t 3)),
og 81 79 false 0 (ld 80),
og 82 79 false 0 (.lenSl (.t 81)),
og 83 79 false 0 (bi .lss (.t 82) (ci 1)),
oq 84 (.pick (.t 79) (.c (.bool true)) (.t 83)),
mt 85 84,
og 86 85 false 0 (.faddr 3 (.t 3)),
og 87 85 false 0 (ld 86),
og 88 85 false 0 (.lenSl (.t 87)),
og 89 85 false 0 (bi .gtr (.t 88) (ci 10)),
oq 90 (.pick (.t 85) (.c (.bool true)) (.t 89))])
(.cond (.t 90) (.seq (.reg [oq 4 (.mv (ci 3))])
.ret) .skip))
(.seq (.reg [oq 91 (.faddr 1 (.t 3)),
oq 92 (ld 91),
oq 93 (bi .lss (.t 92) (ci 0)),
mt 94 93,
og 95 94 false 0 (.faddr 1 (.t 3)),
og 96 94 false 0 (ld 95),
og 97 94 false 0 (.faddr 0 (.t 2)),
og 98 94 false 0 (ld 97),
og 99 94 false 0 (bi .geq (.t 96) (.t 98)),
oq 100 (.pick (.t 94) (.c (.bool true)) (.t 99)),
mt 101 100,
og 102 101 false 0 (.faddr 2 (.t 3)),
og 103 101 false 0 (ld 102),
og 104 101 false 0 (bi .lss (.t 103) (ci 0)),
oq 105 (.pick (.t 101) (.c (.bool true)) (.t 104)),
mt 106 105,
og 107 106 false 0 (.faddr 2 (.t 3)),
og 108 106 false 0 (ld 107),
og 109 106 false 0 (.faddr 2 (.t 2)),
og 110 106 false 0 (ld 109),
og 111 106 false 0 (.lenSl (.t 110)),
og 112 106 false 0 (bi .geq (.t 108) (.t 111)),
oq 113 (.pick (.t 106) (.c (.bool true)) (.t 112))])
(.cond (.t 113) (.seq (.reg [oq 4 (.mv (ci 2))])
.ret) .skip))) (.seq (.reg [oq 115 (bi .eql (.t 8) (ci 3)),
mt 114 115])
(.cond (.t 114) (.seq (.seq (.reg [oq 116 (.faddr 1 (.t 3)),
oq 117 (ld 116),
oq 118 (bi .neq (.t 117) (ci 0)),
mt 119 118,
og 120 119 false 0 (.faddr 2 (.t 3)),
og 121 119 false 0 (ld 120),
og 122 119 false 0 (bi .neq (.t 121) (ci 0)),
oq 123 (.pick (.t 119) (.c (.bool true)) (.t 122)),
mt 124 123,
og 125 124 false 0 (.faddr 3 (.t 3)),
og 126 124 false 0 (ld 125),
og 127 124 false 0 (.lenSl (.t 126)),
og 128 124 false 0 (bi .gtr (.t 127) (ci 0)),
oq 129 (.pick (.t 124) (.c (.bool true)) (.t 128)),
mt 130 129,
og 131 130 false 0 (.faddr 4 (.t 3)),
og 132 130 false 0 (ld 131),
og 133 130 false 0 (.lenSl (.t 132)),
og 134 130 false 0 (bi .gtr (.t 133) (ci 0)),
oq 135 (.pick (.t 130) (.c (.bool true)) (.t 134)),
mt 136 135,
og 137 136 false 0 (.faddr 5 (.t 3)),
og 138 136 false 0 (ld 137),
og 139 136 false 0 (.lenSl (.t 138)),
og 140 136 false 0 (.faddr 0 (.t 2)),
og 141 136 false 0 (ld 140),
og 142 136 false 0 (bi .neq (.t 139) (.t 141)),
oq 143 (.pick (.t 136) (.c (.bool true)) (.t 142))])
(.cond (.t 143) (.seq (.reg [oq 4 (.mv (ci 3))])
.ret) .skip))
(.seq (.reg [oq 6 (.mv (ci 0))])
(.block 3 (.loop (.seq (.seq (.reg [mt 144 6,
oq 145 (.faddr 5 (.t 3)),
oq 146 (ld 145),
oq 147 (.lenSl (.t 146)),
oq 148 (bi .lss (.t 144) (.t 147))])
(.cond (.t 148) .skip (.exit 3)))
(.seq (.block 4 (.seq (.reg [oq 151 (.faddr 5 (.t 3)),
oq 152 (ld 151),
mt 153 6,
oq 154 (.iaddr (.slice 1) (.t 152) (.t 153)),
oq 155 (ld 154),
oq 156 (bi .lss (.t 155) (.c (.int .i64 (.negSucc 999999)))),
mt 157 156,
og 158 157 false 0 (.faddr 5 (.t 3)),
og 159 157 false 0 (ld 158),
og 160 157 false 0 (.mv (.t 6)),
og 161 157 false 0 (.iaddr (.slice 1) (.t 159) (.t 160)),
og 162 157 false 0 (ld 161),
og 163 157 false 0 (bi .gtr (.t 162) (ci 1000000)),
oq 164 (.pick (.t 157) (.c (.bool true)) (.t 163))])
(.cond (.t 164) (.seq (.reg [oq 4 (.mv (ci 2))])
.ret) .skip)))
(.reg [mt 149 6,
oq 150 (bi .add (.t 149) (ci 1)),
mt 6 150]))))))) (.seq (.reg [oq 4 (.mv (ci 3))])
.ret)))))))))
(.seq (.reg [oq 4 (.mv (ci 0))])
.ret)))⟩
theorem row102 : Row Go.Proofs.Try.prog (102, a102) := ⟨Go.Proofs.Try.f102, Go.Proofs.Try.func102, by kernel_rfl⟩
noncomputable def a103 : AFn :=
⟨56,[(.t 8)],(.seq (.reg [⟨(some 4),(.a (.box 28 (.t 0))),none,0⟩,
oq 8 (.mv (ci 0))])
(.seq (.seq (.reg [mt 11 1,
oq 12 (.faddr 1 (.t 4)),
oq 13 (ld 12),
oq 14 (.lenSl (.t 13)),
oq 15 (bi .geq (.t 11) (.t 14))])
(.cond (.t 15) (.seq (.reg [oq 8 (.mv (.c (.int .i64 (.negSucc 0))))])
.ret) .skip))
(.seq (.reg [mt 16 3,
mt 17 3,
oq 18 (.nilchk (.t 17)),
oq 19 (ld 18),
mt 20 2,
oq 21 (.minmax true [(.t 19),(.t 20)]),
oq 22 (.nilchk (.t 16)),
⟨none,(.x (.st 1 (.t 22) (.t 21))),none,0⟩])
(.seq (.reg [mt 23 1,
oq 24 (bi .add (.t 23) (ci 1)),
mt 9 24])
(.seq (.seq (.reg [oq 10 (.mv (ci 0))])
(.block 0 (.loop (.seq (.seq (.reg [mt 25 10,
oq 26 (.faddr 1 (.t 4)),
oq 27 (ld 26),
mt 28 1,
oq 29 (.iaddr (.slice 6) (.t 27) (.t 28)),
oq 30 (.faddr 3 (.t 29)),
oq 31 (ld 30),
oq 32 (.lenSl (.t 31)),
oq 33 (bi .lss (.t 25) (.t 32))])
(.cond (.t 33) .skip (.exit 0)))
(.seq (.block 1 (.seq (.seq (.reg [oq 36 (.faddr 1 (.t 4)),
oq 37 (ld 36),
mt 38 1,
oq 39 (.iaddr (.slice 6) (.t 37) (.t 38)),
oq 40 (.faddr 3 (.t 39)),
oq 41 (ld 40),
mt 42 10,
oq 43 (.iaddr (.slice 1) (.t 41) (.t 42)),
oq 44 (ld 43),
mt 45 9,
oq 46 (bi .neq (.t 44) (.t 45))])
(.cond (.t 46) (.seq (.reg [oq 8 (.mv (.c (.int .i64 (.negSucc 0))))])
.ret) .skip))
(.seq (.reg [oq 47 (.ld true 3 (.t 4)),
mt 48 9,
mt 49 2,
oq 50 (bi .add (.t 49) (ci 1)),
mt 51 3,
oc 52 103 [(.t 47),(.t 48),(.t 50),(.t 51)] 0,
mt 9 52])
(.seq (.reg [mt 53 9,
oq 54 (bi .lss (.t 53) (ci 0))])
(.cond (.t 54) (.seq (.reg [oq 8 (.mv (.c (.int .i64 (.negSucc 0))))])
.ret) .skip)))))
(.reg [mt 34 10,
oq 35 (bi .add (.t 34) (ci 1)),
mt 10 35]))))))
(.seq (.reg [mt 55 9,
mt 8 55])
.ret))))))⟩
theorem row103 : Row Go.Proofs.Try.prog (103, a103) := ⟨Go.Proofs.Try.f103, Go.Proofs.Try.func103, by kernel_rfl⟩
end Go.Ev.Gl
