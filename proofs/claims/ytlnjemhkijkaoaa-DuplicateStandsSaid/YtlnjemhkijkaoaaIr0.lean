/- Functions of the program as data of the evaluator, written by program; each is shown to be the compiler's result on the loaded function. -/
import Derived.Test.YtlnjemhkijkaoaaProg
import Derived.Test.YtlnjemhkijkaoaaEv8
import Derived.KernelRfl
namespace Go.Ev.Gl
set_option maxRecDepth 100000
noncomputable def a3 : AFn :=
⟨65,[(.t 4)],(.seq (.reg [oq 4 (.mv (.c (.bool false)))])
(.seq (.seq (.reg [mt 11 0,
oq 12 (.lenSl (.t 11)),
oq 13 (bi .gtr (.t 12) (ci 30))])
(.cond (.t 13) (.seq (.reg [oc 14 4 [] 0,
mt 4 14])
.ret) .skip))
(.seq (.reg [oq 5 (.mv (.c .nilsl))])
(.seq (.seq (.reg [oq 6 (.mv (ci 0))])
(.block 0 (.loop (.seq (.seq (.reg [mt 15 6,
mt 16 0,
oq 17 (.lenSl (.t 16)),
oq 18 (bi .lss (.t 15) (.t 17))])
(.cond (.t 18) .skip (.exit 0)))
(.seq (.block 1 (.seq (.seq (.reg [mt 21 0,
mt 22 6,
oq 23 (.iaddr (.slice 1) (.t 21) (.t 22)),
oq 24 (ld 23),
oq 25 (.lenSl (.t 24)),
oq 26 (bi .gtr (.t 25) (ci 30))])
(.cond (.t 26) (.seq (.reg [oc 27 4 [] 0,
mt 4 27])
.ret) .skip))
(.reg [mt 28 5,
⟨(some 29),(.a (.bslice 3 1 0 [(.int .i64 (.ofNat 0))] [])),none,0⟩,
mt 30 0,
mt 31 6,
oq 32 (.iaddr (.slice 1) (.t 30) (.t 31)),
oq 33 (ld 32),
⟨(some 34),(.x (.app 3 1 8 (.t 29) (.t 33))),none,0⟩,
⟨(some 35),(.a (.bslice 24 1 1 [.nilsl] [(0,(.t 34))])),none,0⟩,
⟨(some 36),(.x (.app 24 1 24 (.t 28) (.t 35))),none,0⟩,
mt 5 36])))
(.reg [mt 19 6,
oq 20 (bi .add (.t 19) (ci 1)),
mt 6 20]))))))
(.seq (.reg [mt 38 5,
mt 39 1,
oc 40 5 [(.t 38),(.t 39)] 0,
mt 37 40,
oq 41 (.extract (.t 37) 0),
oq 42 (.extract (.t 37) 1),
mt 7 41,
mt 8 42])
(.seq (.reg [mt 44 0,
mt 45 1,
oc 46 6 [(.t 44),(.t 45)] 0,
mt 43 46,
oq 47 (.extract (.t 43) 0),
oq 48 (.extract (.t 43) 1),
mt 9 47,
mt 10 48])
(.seq (.reg [mt 49 7,
mt 50 9,
oc 51 7 [(.t 49),(.t 50)] 0,
mt 52 51,
og 53 52 true 0 (.mv (.t 8)),
og 54 52 true 0 (.mv (.t 10)),
og 55 52 true 0 (bi .eql (.t 53) (.t 54)),
oq 56 (.pick (.t 52) (.t 55) (.c (.bool false))),
mt 57 56,
og 58 57 true 0 (.mv (.t 5)),
og 59 57 true 0 (.mv (.t 0)),
⟨(some 60),(.x (.call (.c (.fn 8 [] [])) [(.t 58),(.t 59)])),(some (57,true)),0⟩,
oq 61 (.pick (.t 57) (.t 60) (.c (.bool false))),
mt 62 61,
⟨(some 63),(.x (.call (.c (.fn 4 [] [])) [])),(some (62,true)),0⟩,
oq 64 (.pick (.t 62) (.t 63) (.c (.bool false))),
mt 4 64])
.ret)))))))⟩
theorem row3 : Row Go.Proofs.Try.prog (3, a3) := ⟨Go.Proofs.Try.f3, Go.Proofs.Try.func3, by kernel_rfl⟩
noncomputable def a5 : AFn :=
⟨67,[(.t 4),(.t 5)],(.seq (.reg [oq 4 (.mv (.c .nilsl)),
oq 5 (.mv (ci 0))])
(.seq (.seq (.reg [mt 16 0,
mt 17 1,
oc 18 12 [(.t 16),(.t 17)] 0,
mt 6 18])
(.seq (.reg [mt 19 6,
oq 20 (bi .neq (.t 19) (ci 0))])
(.cond (.t 20) (.seq (.reg [mt 21 6,
oq 4 (.mv (.c .nilsl)),
mt 5 21])
.ret) .skip)))
(.seq (.reg [oq 7 (.mv (.c .nilsl))])
(.seq (.seq (.reg [mt 22 0,
oq 23 (.lenSl (.t 22)),
oq 24 (.mv (ci 0))])
(.block 0 (.loop (.seq (.reg [oq 25 (bi .lss (.t 24) (.t 23))])
(.seq (.cond (.t 25) .skip (.exit 0))
(.seq (.block 1 (.seq (.reg [mt 26 24,
oq 27 (.iaddr (.slice 1) (.t 22) (.t 24)),
oq 28 (ld 27),
mt 8 26,
mt 9 28])
(.seq (.reg [mt 29 8,
mt 30 1,
mt 31 0,
oq 32 (.lenSl (.t 31)),
oq 33 (bi .sub (.t 32) (ci 1)),
oq 34 (bi .mul (.t 30) (.t 33)),
oq 35 (.build [(.int .i64 (.ofNat 0)),(.int .i64 (.ofNat 0)),(.int .i64 (.ofNat 0))] [(0,1,(.t 29)),(2,1,(.t 34))]),
⟨(some 10),(.a (.alloc 40 [(.int .i64 (.ofNat 0)),(.int .i64 (.ofNat 0)),(.int .i64 (.ofNat 0))])),none,0⟩,
⟨none,(.x (.st 3 (.t 10) (.t 35))),none,0⟩])
(.seq (.seq (.reg [mt 36 9,
oq 37 (.lenSl (.t 36)),
oq 38 (.mv (ci 0))])
(.block 2 (.loop (.seq (.reg [oq 39 (bi .lss (.t 38) (.t 37))])
(.seq (.cond (.t 39) .skip (.exit 2))
(.seq (.block 3 (.seq (.reg [oq 40 (.iaddr (.slice 1) (.t 36) (.t 38)),
oq 41 (ld 40),
mt 12 41])
(.reg [oq 42 (.faddr 1 (.t 10)),
oq 43 (ld 42),
mt 44 12,
oq 45 (bi .add (.t 43) (.t 44)),
oq 46 (.faddr 1 (.t 10)),
⟨none,(.x (.st 1 (.t 46) (.t 45))),none,0⟩])))
(.reg [oq 47 (bi .add (.t 38) (ci 1)),
mt 38 47])))))))
(.reg [mt 48 7,
oq 49 (.ld true 3 (.t 10)),
⟨(some 50),(.a (.bslice 40 3 1 [(.int .i64 (.ofNat 0)),(.int .i64 (.ofNat 0)),(.int .i64 (.ofNat 0))] [(0,(.t 49))])),none,0⟩,
⟨(some 51),(.x (.app 40 3 24 (.t 48) (.t 50))),none,0⟩,
mt 7 51])))))
(.reg [oq 52 (bi .add (.t 24) (ci 1)),
mt 24 52])))))))
(.seq (.reg [mt 53 7,
oc 54 13 [(.t 53),(.c (.fn 14 [] []))] 0])
(.seq (.reg [oq 13 (.mv (.c .nilsl))])
(.seq (.seq (.reg [mt 55 7,
oq 56 (.lenSl (.t 55)),
oq 57 (.mv (ci 0))])
(.block 4 (.loop (.seq (.reg [oq 58 (bi .lss (.t 57) (.t 56))])
(.seq (.cond (.t 58) .skip (.exit 4))
(.seq (.block 5 (.seq (.reg [oq 59 (.iaddr (.slice 3) (.t 55) (.t 57)),
oq 60 (.ld true 3 (.t 59)),
⟨(some 15),(.a (.alloc 40 [(.int .i64 (.ofNat 0)),(.int .i64 (.ofNat 0)),(.int .i64 (.ofNat 0))])),none,0⟩,
⟨none,(.x (.st 3 (.t 15) (.t 60))),none,0⟩])
(.reg [mt 61 13,
oq 62 (.ld true 3 (.t 15)),
⟨(some 63),(.a (.bslice 37 3 1 [(.int .i64 (.ofNat 0)),(.int .i64 (.ofNat 0)),(.int .i64 (.ofNat 0))] [(0,(.t 62))])),none,0⟩,
⟨(some 64),(.x (.app 37 3 24 (.t 61) (.t 63))),none,0⟩,
mt 13 64])))
(.reg [oq 65 (bi .add (.t 57) (ci 1)),
mt 57 65])))))))
(.seq (.reg [mt 66 13,
mt 4 66,
oq 5 (.mv (ci 0))])
.ret))))))))⟩
theorem row5 : Row Go.Proofs.Try.prog (5, a5) := ⟨Go.Proofs.Try.f5, Go.Proofs.Try.func5, by kernel_rfl⟩
noncomputable def a6 : AFn :=
⟨132,[(.t 4),(.t 5)],(.seq (.reg [oq 4 (.mv (.c .nilsl)),
oq 5 (.mv (ci 0))])
(.seq (.seq (.reg [mt 12 0,
oq 13 (.lenSl (.t 12)),
oq 14 (bi .gtr (.t 13) (ci 20))])
(.cond (.t 14) (.seq (.reg [oq 4 (.mv (.c .nilsl)),
oq 5 (.mv (ci 4))])
.ret) .skip))
(.seq (.seq (.reg [oq 6 (.mv (ci 0))])
(.block 0 (.loop (.seq (.seq (.reg [mt 15 6,
mt 16 0,
oq 17 (.lenSl (.t 16)),
oq 18 (bi .lss (.t 15) (.t 17))])
(.cond (.t 18) .skip (.exit 0)))
(.seq (.block 1 (.seq (.reg [mt 21 0,
mt 22 6,
oq 23 (.iaddr (.slice 1) (.t 21) (.t 22)),
oq 24 (ld 23),
oq 25 (.lenSl (.t 24)),
mt 26 0,
oq 27 (.lenSl (.t 26)),
oq 28 (bi .neq (.t 25) (.t 27))])
(.cond (.t 28) (.seq (.reg [oq 4 (.mv (.c .nilsl)),
oq 5 (.mv (ci 10))])
.ret) .skip)))
(.reg [mt 19 6,
oq 20 (bi .add (.t 19) (ci 1)),
mt 6 20]))))))
(.seq (.seq (.reg [mt 29 1,
oq 30 (bi .lss (.t 29) (ci 0)),
mt 31 30,
og 32 31 false 0 (.mv (.t 1)),
og 33 31 false 0 (bi .gtr (.t 32) (ci 1000)),
oq 34 (.pick (.t 31) (.c (.bool true)) (.t 33))])
(.cond (.t 34) (.seq (.reg [oq 4 (.mv (.c .nilsl)),
oq 5 (.mv (ci 2))])
.ret) .skip))
(.seq (.reg [oq 7 (.mv (.c .nilsl))])
(.seq (.seq (.reg [oq 8 (.mv (ci 0))])
(.block 2 (.loop (.seq (.seq (.reg [mt 35 8,
mt 36 0,
oq 37 (.lenSl (.t 36)),
oq 38 (bi .lss (.t 35) (.t 37))])
(.cond (.t 38) .skip (.exit 2)))
(.seq (.block 3 (.seq (.reg [mt 41 8,
mt 42 1,
mt 43 0,
oq 44 (.lenSl (.t 43)),
oq 45 (bi .sub (.t 44) (ci 1)),
oq 46 (bi .mul (.t 42) (.t 45)),
oq 47 (.build [(.int .i64 (.ofNat 0)),(.int .i64 (.ofNat 0)),(.int .i64 (.ofNat 0))] [(0,1,(.t 41)),(2,1,(.t 46))]),
⟨(some 9),(.a (.alloc 37 [(.int .i64 (.ofNat 0)),(.int .i64 (.ofNat 0)),(.int .i64 (.ofNat 0))])),none,0⟩,
⟨none,(.x (.st 3 (.t 9) (.t 47))),none,0⟩])
(.seq (.seq (.reg [oq 10 (.mv (ci 0))])
(.block 4 (.loop (.seq (.seq (.reg [mt 48 10,
mt 49 0,
oq 50 (.lenSl (.t 49)),
oq 51 (bi .lss (.t 48) (.t 50))])
(.cond (.t 51) .skip (.exit 4)))
(.seq (.block 5 (.seq (.seq (.reg [mt 54 0,
mt 55 8,
oq 56 (.iaddr (.slice 1) (.t 54) (.t 55)),
oq 57 (ld 56),
mt 58 10,
oq 59 (.iaddr (.slice 1) (.t 57) (.t 58)),
oq 60 (ld 59),
oq 61 (bi .lss (.t 60) (.c (.int .i64 (.negSucc 1999999999)))),
mt 62 61,
og 63 62 false 0 (.mv (.t 0)),
og 64 62 false 0 (.mv (.t 8)),
og 65 62 false 0 (.iaddr (.slice 1) (.t 63) (.t 64)),
og 66 62 false 0 (ld 65),
og 67 62 false 0 (.mv (.t 10)),
og 68 62 false 0 (.iaddr (.slice 1) (.t 66) (.t 67)),
og 69 62 false 0 (ld 68),
og 70 62 false 0 (bi .gtr (.t 69) (ci 2000000000)),
oq 71 (.pick (.t 62) (.c (.bool true)) (.t 70)),
mt 72 71,
og 73 72 false 0 (.mv (.t 8)),
og 74 72 false 0 (.mv (.t 10)),
og 75 72 false 0 (bi .eql (.t 73) (.t 74)),
og 76 72 false 0 (.mv (.t 75)),
og 77 76 true 0 (.mv (.t 0)),
og 78 76 true 0 (.mv (.t 8)),
og 79 76 true 0 (.iaddr (.slice 1) (.t 77) (.t 78)),
og 80 76 true 0 (ld 79),
og 81 76 true 0 (.mv (.t 10)),
og 82 76 true 0 (.iaddr (.slice 1) (.t 80) (.t 81)),
og 83 76 true 0 (ld 82),
og 84 76 true 0 (bi .neq (.t 83) (ci 0)),
og 85 72 false 0 (.pick (.t 76) (.t 84) (.c (.bool false))),
oq 86 (.pick (.t 72) (.c (.bool true)) (.t 85))])
(.cond (.t 86) (.seq (.reg [oq 4 (.mv (.c .nilsl)),
oq 5 (.mv (ci 2))])
.ret) .skip))
(.drw [oq 87 (.faddr 1 (.t 9)),
om 88 1 (ld 87),
mt 89 0,
mt 90 8,
om 91 12 (.iaddr (.slice 1) (.t 89) (.t 90)),
om 92 28 (ld 91),
mt 93 10,
om 94 124 (.iaddr (.slice 1) (.t 92) (.t 93)),
om 95 252 (ld 94),
om 96 511 (bi .add (.t 88) (.t 95)),
om 97 1023 (.faddr 1 (.t 9)),
⟨none,(.x (.st 1 (.t 97) (.t 96))),none,2047⟩])))
(.reg [mt 52 10,
oq 53 (bi .add (.t 52) (ci 1)),
mt 10 53]))))))
(.seq (.reg [mt 98 7,
oq 99 (.lenSl (.t 98)),
mt 11 99])
(.seq (.block 6 (.loop (.seq (.seq (.drw [mt 100 11,
om 101 1 (bi .gtr (.t 100) (ci 0)),
om 102 3 (.mv (.t 101)),
og 103 102 true 7 (.mv (.t 7)),
og 104 102 true 7 (.mv (.t 11)),
og 105 102 true 23 (bi .sub (.t 104) (ci 1)),
og 106 102 true 63 (.iaddr (.slice 3) (.t 103) (.t 105)),
og 107 102 true 127 (.faddr 1 (.t 106)),
og 108 102 true 255 (ld 107),
og 109 102 true 7 (.faddr 1 (.t 9)),
og 110 102 true 519 (ld 109),
og 111 102 true 2047 (bi .lss (.t 108) (.t 110)),
om 112 4095 (.pick (.t 102) (.t 111) (.c (.bool false)))])
(.cond (.t 112) .skip (.exit 6)))
(.block 7 (.reg [mt 113 11,
oq 114 (bi .sub (.t 113) (ci 1)),
mt 11 114])))))
(.seq (.reg [mt 115 7,
oq 116 (.build [(.int .i64 (.ofNat 0)),(.int .i64 (.ofNat 0)),(.int .i64 (.ofNat 0))] []),
⟨(some 117),(.a (.bslice 37 3 1 [(.int .i64 (.ofNat 0)),(.int .i64 (.ofNat 0)),(.int .i64 (.ofNat 0))] [(0,(.t 116))])),none,0⟩,
⟨(some 118),(.x (.app 37 3 24 (.t 115) (.t 117))),none,0⟩,
mt 7 118])
(.seq (.drw [mt 119 7,
mt 120 11,
om 121 2 (bi .add (.t 120) (ci 1)),
om 122 7 (.slc (.slice 3) (.t 119) (some (.t 121)) none none),
mt 123 7,
mt 124 11,
om 125 48 (.slc (.slice 3) (.t 123) (some (.t 124)) none none),
⟨(some 126),(.x (.copy 3 (.t 122) (.t 125))),none,127⟩])
(.reg [mt 127 7,
mt 128 11,
oq 129 (.ld true 3 (.t 9)),
oq 130 (.iaddr (.slice 3) (.t 127) (.t 128)),
⟨none,(.x (.st 3 (.t 130) (.t 129))),none,0⟩]))))))))
(.reg [mt 39 8,
oq 40 (bi .add (.t 39) (ci 1)),
mt 8 40]))))))
(.seq (.reg [mt 131 7,
mt 4 131,
oq 5 (.mv (ci 0))])
.ret)))))))⟩
theorem row6 : Row Go.Proofs.Try.prog (6, a6) := ⟨Go.Proofs.Try.f6, Go.Proofs.Try.func6, by kernel_rfl⟩
noncomputable def a7 : AFn :=
⟨26,[(.t 4)],(.seq (.reg [oq 4 (.mv (.c (.bool false)))])
(.seq (.seq (.reg [mt 6 0,
oq 7 (.lenSl (.t 6)),
mt 8 1,
oq 9 (.lenSl (.t 8)),
oq 10 (bi .neq (.t 7) (.t 9))])
(.cond (.t 10) (.seq (.reg [oq 4 (.mv (.c (.bool false)))])
.ret) .skip))
(.seq (.seq (.reg [oq 5 (.mv (ci 0))])
(.block 0 (.loop (.seq (.seq (.reg [mt 11 5,
mt 12 0,
oq 13 (.lenSl (.t 12)),
oq 14 (bi .lss (.t 11) (.t 13))])
(.cond (.t 14) .skip (.exit 0)))
(.seq (.block 1 (.seq (.drw [mt 17 0,
mt 18 5,
om 19 3 (.iaddr (.slice 3) (.t 17) (.t 18)),
om 20 7 (.ld true 3 (.t 19)),
mt 21 1,
mt 22 5,
om 23 48 (.iaddr (.slice 3) (.t 21) (.t 22)),
om 24 112 (.ld true 3 (.t 23)),
om 25 255 (.bin .neq (.struct [(0,.int),(1,.int),(2,.int)]) (.t 20) (.t 24))])
(.cond (.t 25) (.seq (.reg [oq 4 (.mv (.c (.bool false)))])
.ret) .skip)))
(.reg [mt 15 5,
oq 16 (bi .add (.t 15) (ci 1)),
mt 5 16]))))))
(.seq (.reg [oq 4 (.mv (.c (.bool true)))])
.ret))))⟩
theorem row7 : Row Go.Proofs.Try.prog (7, a7) := ⟨Go.Proofs.Try.f7, Go.Proofs.Try.func7, by kernel_rfl⟩
noncomputable def a8 : AFn :=
⟨27,[(.t 4)],(.seq (.reg [oq 4 (.mv (.c (.bool false)))])
(.seq (.seq (.reg [mt 6 0,
oq 7 (.lenSl (.t 6)),
mt 8 1,
oq 9 (.lenSl (.t 8)),
oq 10 (bi .neq (.t 7) (.t 9))])
(.cond (.t 10) (.seq (.reg [oq 4 (.mv (.c (.bool false)))])
.ret) .skip))
(.seq (.seq (.reg [oq 5 (.mv (ci 0))])
(.block 0 (.loop (.seq (.seq (.reg [mt 11 5,
mt 12 0,
oq 13 (.lenSl (.t 12)),
oq 14 (bi .lss (.t 11) (.t 13))])
(.cond (.t 14) .skip (.exit 0)))
(.seq (.block 1 (.seq (.drw [mt 17 0,
mt 18 5,
om 19 3 (.iaddr (.slice 1) (.t 17) (.t 18)),
om 20 7 (ld 19),
mt 21 1,
mt 22 5,
om 23 48 (.iaddr (.slice 1) (.t 21) (.t 22)),
om 24 112 (ld 23),
oc 25 18 [(.t 20),(.t 24)] 255,
om 26 511 (.un .not (.t 25))])
(.cond (.t 26) (.seq (.reg [oq 4 (.mv (.c (.bool false)))])
.ret) .skip)))
(.reg [mt 15 5,
oq 16 (bi .add (.t 15) (ci 1)),
mt 5 16]))))))
(.seq (.reg [oq 4 (.mv (.c (.bool true)))])
.ret))))⟩
theorem row8 : Row Go.Proofs.Try.prog (8, a8) := ⟨Go.Proofs.Try.f8, Go.Proofs.Try.func8, by kernel_rfl⟩
noncomputable def a12 : AFn :=
⟨63,[(.t 4)],(.seq (.reg [oq 4 (.mv (ci 0))])
(.seq (.seq (.reg [mt 11 0,
oq 12 (.lenSl (.t 11)),
oq 13 (bi .gtr (.t 12) (ci 20))])
(.cond (.t 13) (.seq (.reg [oq 4 (.mv (ci 4))])
.ret) .skip))
(.seq (.seq (.reg [mt 14 0,
oq 15 (.lenSl (.t 14)),
oq 16 (.mv (ci 0))])
(.block 0 (.loop (.seq (.reg [oq 17 (bi .lss (.t 16) (.t 15))])
(.seq (.cond (.t 17) .skip (.exit 0))
(.seq (.block 1 (.seq (.reg [oq 18 (.iaddr (.slice 1) (.t 14) (.t 16)),
oq 19 (ld 18),
mt 6 19])
(.seq (.reg [mt 20 6,
oq 21 (.lenSl (.t 20)),
mt 22 0,
oq 23 (.lenSl (.t 22)),
oq 24 (bi .neq (.t 21) (.t 23))])
(.cond (.t 24) (.seq (.reg [oq 4 (.mv (ci 10))])
.ret) .skip))))
(.reg [oq 25 (bi .add (.t 16) (ci 1)),
mt 16 25])))))))
(.seq (.seq (.reg [mt 26 1,
oq 27 (bi .lss (.t 26) (ci 0)),
mt 28 27,
og 29 28 false 0 (.mv (.t 1)),
og 30 28 false 0 (bi .gtr (.t 29) (ci 1000)),
oq 31 (.pick (.t 28) (.c (.bool true)) (.t 30))])
(.cond (.t 31) (.seq (.reg [oq 4 (.mv (ci 2))])
.ret) .skip))
(.seq (.seq (.reg [mt 32 0,
oq 33 (.lenSl (.t 32)),
oq 34 (.mv (ci 0))])
(.block 2 (.loop (.seq (.reg [oq 35 (bi .lss (.t 34) (.t 33))])
(.seq (.cond (.t 35) .skip (.exit 2))
(.seq (.block 3 (.seq (.reg [mt 36 34,
oq 37 (.iaddr (.slice 1) (.t 32) (.t 34)),
oq 38 (ld 37),
mt 7 36,
mt 8 38])
(.seq (.reg [mt 39 8,
oq 40 (.lenSl (.t 39)),
oq 41 (.mv (ci 0))])
(.block 4 (.loop (.seq (.reg [oq 42 (bi .lss (.t 41) (.t 40))])
(.seq (.cond (.t 42) .skip (.exit 4))
(.seq (.block 5 (.seq (.reg [mt 43 41,
oq 44 (.iaddr (.slice 1) (.t 39) (.t 41)),
oq 45 (ld 44),
mt 9 43,
mt 10 45])
(.seq (.reg [mt 46 10,
oq 47 (bi .lss (.t 46) (.c (.int .i64 (.negSucc 1999999999)))),
mt 48 47,
og 49 48 false 0 (.mv (.t 10)),
og 50 48 false 0 (bi .gtr (.t 49) (ci 2000000000)),
oq 51 (.pick (.t 48) (.c (.bool true)) (.t 50)),
mt 52 51,
og 53 52 false 0 (.mv (.t 7)),
og 54 52 false 0 (.mv (.t 9)),
og 55 52 false 0 (bi .eql (.t 53) (.t 54)),
og 56 52 false 0 (.mv (.t 55)),
og 57 56 true 0 (.mv (.t 10)),
og 58 56 true 0 (bi .neq (.t 57) (ci 0)),
og 59 52 false 0 (.pick (.t 56) (.t 58) (.c (.bool false))),
oq 60 (.pick (.t 52) (.c (.bool true)) (.t 59))])
(.cond (.t 60) (.seq (.reg [oq 4 (.mv (ci 2))])
.ret) .skip))))
(.reg [oq 61 (bi .add (.t 41) (ci 1)),
mt 41 61])))))))))
(.reg [oq 62 (bi .add (.t 34) (ci 1)),
mt 34 62])))))))
(.seq (.reg [oq 4 (.mv (ci 0))])
.ret))))))⟩
theorem row12 : Row Go.Proofs.Try.prog (12, a12) := ⟨Go.Proofs.Try.f12, Go.Proofs.Try.func12, by kernel_rfl⟩
end Go.Ev.Gl
