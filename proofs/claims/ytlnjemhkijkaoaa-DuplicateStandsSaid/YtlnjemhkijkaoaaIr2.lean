/- Functions of the program as data of the evaluator, written by program; each is shown to be the compiler's result on the loaded function. -/
import Derived.Test.YtlnjemhkijkaoaaProg
import Derived.Test.YtlnjemhkijkaoaaEv8
import Derived.KernelRfl
namespace Go.Ev.Gl
set_option maxRecDepth 100000
noncomputable def a28 : AFn :=
⟨63,[(.t 8),(.t 9)],(.seq (.reg [oq 8 (.mv (ci 0)),
oq 9 (.mv (ci 0))])
(.seq (.reg [mt 15 2,
mt 16 1,
oq 17 (bi .sub (.t 15) (.t 16)),
mt 10 17])
(.seq (.reg [⟨(some 11),(.a (.alloc 3 [(.int .i64 (.ofNat 0))])),none,0⟩])
(.seq (.reg [mt 18 1,
mt 19 10,
oq 20 (bi .quo (.t 19) (ci 4)),
oq 21 (bi .mul (.t 20) (ci 1)),
oq 22 (bi .add (.t 18) (.t 21)),
mt 12 22])
(.seq (.reg [mt 23 1,
mt 24 10,
oq 25 (bi .quo (.t 24) (ci 4)),
oq 26 (bi .mul (.t 25) (ci 2)),
oq 27 (bi .add (.t 23) (.t 26)),
mt 13 27])
(.seq (.reg [mt 28 1,
mt 29 10,
oq 30 (bi .quo (.t 29) (ci 4)),
oq 31 (bi .mul (.t 30) (ci 3)),
oq 32 (bi .add (.t 28) (.t 31)),
mt 14 32])
(.seq (.seq (.reg [mt 33 10,
oq 34 (bi .geq (.t 33) (ci 8))])
(.cond (.t 34) (.seq (.seq (.reg [mt 35 10,
oq 36 (bi .geq (.t 35) (ci 50))])
(.cond (.t 36) (.seq (.reg [mt 37 0,
mt 38 12,
mt 39 3,
oc 40 43 [(.t 37),(.t 38),(.t 11),(.t 39)] 0,
mt 12 40])
(.seq (.reg [mt 41 0,
mt 42 13,
mt 43 3,
oc 44 43 [(.t 41),(.t 42),(.t 11),(.t 43)] 0,
mt 13 44])
(.reg [mt 45 0,
mt 46 14,
mt 47 3,
oc 48 43 [(.t 45),(.t 46),(.t 11),(.t 47)] 0,
mt 14 48]))) .skip))
(.reg [mt 49 0,
mt 50 12,
mt 51 13,
mt 52 14,
mt 53 3,
oc 54 44 [(.t 49),(.t 50),(.t 51),(.t 52),(.t 11),(.t 53)] 0,
mt 13 54])) .skip))
(.seq (.reg [oq 55 (ld 11)])
(.block 0 (.seq (.reg [oq 58 (bi .eql (.t 55) (ci 0)),
mt 57 58])
(.cond (.t 57) (.seq (.reg [mt 59 13,
mt 8 59,
oq 9 (.mv (ci 1))])
.ret) (.seq (.reg [oq 61 (bi .eql (.t 55) (ci 12)),
mt 60 61])
(.cond (.t 60) (.seq (.reg [mt 62 13,
mt 8 62,
oq 9 (.mv (ci 2))])
.ret) (.seq (.reg [mt 56 13,
mt 8 56,
oq 9 (.mv (ci 0))])
.ret))))))))))))))⟩
theorem row28 : Row Go.Proofs.Try.prog (28, a28) := ⟨Go.Proofs.Try.f28, Go.Proofs.Try.func28, by kernel_rfl⟩
noncomputable def a29 : AFn :=
⟨34,[],(.seq (.reg [mt 10 1,
mt 8 10])
(.seq (.reg [mt 11 2,
oq 12 (bi .sub (.t 11) (ci 1)),
mt 9 12])
(.block 0 (.loop (.seq (.seq (.reg [mt 13 8,
mt 14 9,
oq 15 (bi .lss (.t 13) (.t 14))])
(.cond (.t 15) .skip (.exit 0)))
(.block 1 (.seq (.drw [mt 16 0,
mt 17 8,
mt 18 0,
mt 19 9,
mt 20 0,
mt 21 9,
om 22 48 (.iaddr (.slice 3) (.t 20) (.t 21)),
om 23 112 (.ld true 3 (.t 22)),
mt 24 0,
mt 25 8,
om 26 768 (.iaddr (.slice 3) (.t 24) (.t 25)),
om 27 1792 (.ld true 3 (.t 26)),
om 28 4083 (.iaddr (.slice 3) (.t 16) (.t 17)),
⟨none,(.x (.st 3 (.t 28) (.t 23))),none,8179⟩,
om 29 16383 (.iaddr (.slice 3) (.t 18) (.t 19)),
⟨none,(.x (.st 3 (.t 29) (.t 27))),none,32767⟩])
(.seq (.reg [mt 30 8,
oq 31 (bi .add (.t 30) (ci 1)),
mt 8 31])
(.reg [mt 32 9,
oq 33 (bi .sub (.t 32) (ci 1)),
mt 9 33])))))))))⟩
theorem row29 : Row Go.Proofs.Try.prog (29, a29) := ⟨Go.Proofs.Try.f29, Go.Proofs.Try.func29, by kernel_rfl⟩
noncomputable def a30 : AFn :=
⟨141,[(.t 8)],(.seq (.reg [oq 8 (.mv (.c (.bool false)))])
(.seq (.reg [mt 13 1,
oq 14 (bi .add (.t 13) (ci 1)),
mt 9 14])
(.seq (.seq (.reg [oq 10 (.mv (ci 0))])
(.block 0 (.loop (.seq (.seq (.reg [mt 15 10,
oq 16 (bi .lss (.t 15) (ci 5))])
(.cond (.t 16) .skip (.exit 0)))
(.seq (.block 1 (.seq (.block 2 (.loop (.seq (.seq (.drw [mt 19 9,
mt 20 2,
om 21 3 (bi .lss (.t 19) (.t 20)),
om 22 7 (.mv (.t 21)),
og 23 22 true 15 (.mv (.t 3)),
og 24 22 true 15 (.mv (.t 0)),
og 25 22 true 15 (.mv (.t 9)),
og 26 22 true 111 (.iaddr (.slice 3) (.t 24) (.t 25)),
og 27 22 true 239 (.ld true 3 (.t 26)),
og 28 22 true 15 (.mv (.t 0)),
og 29 22 true 15 (.mv (.t 9)),
og 30 22 true 1039 (bi .sub (.t 29) (ci 1)),
og 31 22 true 3599 (.iaddr (.slice 3) (.t 28) (.t 30)),
og 32 22 true 7695 (.ld true 3 (.t 31)),
⟨(some 33),(.x (.call (.t 23) [(.t 27),(.t 32)])),(some (22,true)),16383⟩,
og 34 22 true 32767 (bi .lss (.t 33) (ci 0)),
og 35 22 true 65535 (.un .not (.t 34)),
om 36 131071 (.pick (.t 22) (.t 35) (.c (.bool false)))])
(.cond (.t 36) .skip (.exit 2)))
(.block 3 (.reg [mt 37 9,
oq 38 (bi .add (.t 37) (ci 1)),
mt 9 38])))))
(.seq (.seq (.reg [mt 39 9,
mt 40 2,
oq 41 (bi .eql (.t 39) (.t 40))])
(.cond (.t 41) (.seq (.reg [oq 8 (.mv (.c (.bool true)))])
.ret) .skip))
(.seq (.seq (.reg [mt 42 2,
mt 43 1,
oq 44 (bi .sub (.t 42) (.t 43)),
oq 45 (bi .lss (.t 44) (ci 50))])
(.cond (.t 45) (.seq (.reg [oq 8 (.mv (.c (.bool false)))])
.ret) .skip))
(.seq (.drw [mt 46 0,
mt 47 9,
mt 48 0,
mt 49 9,
om 50 8 (bi .sub (.t 49) (ci 1)),
mt 51 0,
mt 52 9,
om 53 64 (bi .sub (.t 52) (ci 1)),
om 54 224 (.iaddr (.slice 3) (.t 51) (.t 53)),
om 55 480 (.ld true 3 (.t 54)),
mt 56 0,
mt 57 9,
om 58 3072 (.iaddr (.slice 3) (.t 56) (.t 57)),
om 59 7168 (.ld true 3 (.t 58)),
om 60 16355 (.iaddr (.slice 3) (.t 46) (.t 47)),
⟨none,(.x (.st 3 (.t 60) (.t 55))),none,32739⟩,
om 61 65535 (.iaddr (.slice 3) (.t 48) (.t 50)),
⟨none,(.x (.st 3 (.t 61) (.t 59))),none,131071⟩])
(.seq (.seq (.reg [mt 62 9,
mt 63 1,
oq 64 (bi .sub (.t 62) (.t 63)),
oq 65 (bi .geq (.t 64) (ci 2))])
(.cond (.t 65) (.seq (.reg [mt 66 9,
oq 67 (bi .sub (.t 66) (ci 1)),
mt 11 67])
(.block 4 (.loop (.seq (.seq (.reg [mt 68 11,
oq 69 (bi .geq (.t 68) (ci 1))])
(.cond (.t 69) .skip (.exit 4)))
(.seq (.block 5 (.seq (.seq (.drw [mt 72 3,
mt 73 0,
mt 74 11,
om 75 6 (.iaddr (.slice 3) (.t 73) (.t 74)),
om 76 14 (.ld true 3 (.t 75)),
mt 77 0,
mt 78 11,
om 79 64 (bi .sub (.t 78) (ci 1)),
om 80 224 (.iaddr (.slice 3) (.t 77) (.t 79)),
om 81 480 (.ld true 3 (.t 80)),
⟨(some 82),(.x (.call (.t 72) [(.t 76),(.t 81)])),none,1023⟩,
om 83 2047 (bi .lss (.t 82) (ci 0)),
om 84 4095 (.un .not (.t 83))])
(.cond (.t 84) (.exit 4) .skip))
(.drw [mt 85 0,
mt 86 11,
mt 87 0,
mt 88 11,
om 89 8 (bi .sub (.t 88) (ci 1)),
mt 90 0,
mt 91 11,
om 92 64 (bi .sub (.t 91) (ci 1)),
om 93 224 (.iaddr (.slice 3) (.t 90) (.t 92)),
om 94 480 (.ld true 3 (.t 93)),
mt 95 0,
mt 96 11,
om 97 3072 (.iaddr (.slice 3) (.t 95) (.t 96)),
om 98 7168 (.ld true 3 (.t 97)),
om 99 16355 (.iaddr (.slice 3) (.t 85) (.t 86)),
⟨none,(.x (.st 3 (.t 99) (.t 94))),none,32739⟩,
om 100 65535 (.iaddr (.slice 3) (.t 87) (.t 89)),
⟨none,(.x (.st 3 (.t 100) (.t 98))),none,131071⟩])))
(.reg [mt 70 11,
oq 71 (bi .sub (.t 70) (ci 1)),
mt 11 71])))))) .skip))
(.seq (.reg [mt 101 2,
mt 102 9,
oq 103 (bi .sub (.t 101) (.t 102)),
oq 104 (bi .geq (.t 103) (ci 2))])
(.cond (.t 104) (.seq (.reg [mt 105 9,
oq 106 (bi .add (.t 105) (ci 1)),
mt 12 106])
(.block 6 (.loop (.seq (.seq (.reg [mt 107 12,
mt 108 2,
oq 109 (bi .lss (.t 107) (.t 108))])
(.cond (.t 109) .skip (.exit 6)))
(.seq (.block 7 (.seq (.seq (.drw [mt 112 3,
mt 113 0,
mt 114 12,
om 115 6 (.iaddr (.slice 3) (.t 113) (.t 114)),
om 116 14 (.ld true 3 (.t 115)),
mt 117 0,
mt 118 12,
om 119 64 (bi .sub (.t 118) (ci 1)),
om 120 224 (.iaddr (.slice 3) (.t 117) (.t 119)),
om 121 480 (.ld true 3 (.t 120)),
⟨(some 122),(.x (.call (.t 112) [(.t 116),(.t 121)])),none,1023⟩,
om 123 2047 (bi .lss (.t 122) (ci 0)),
om 124 4095 (.un .not (.t 123))])
(.cond (.t 124) (.exit 6) .skip))
(.drw [mt 125 0,
mt 126 12,
mt 127 0,
mt 128 12,
om 129 8 (bi .sub (.t 128) (ci 1)),
mt 130 0,
mt 131 12,
om 132 64 (bi .sub (.t 131) (ci 1)),
om 133 224 (.iaddr (.slice 3) (.t 130) (.t 132)),
om 134 480 (.ld true 3 (.t 133)),
mt 135 0,
mt 136 12,
om 137 3072 (.iaddr (.slice 3) (.t 135) (.t 136)),
om 138 7168 (.ld true 3 (.t 137)),
om 139 16355 (.iaddr (.slice 3) (.t 125) (.t 126)),
⟨none,(.x (.st 3 (.t 139) (.t 134))),none,32739⟩,
om 140 65535 (.iaddr (.slice 3) (.t 127) (.t 129)),
⟨none,(.x (.st 3 (.t 140) (.t 138))),none,131071⟩])))
(.reg [mt 110 12,
oq 111 (bi .add (.t 110) (ci 1)),
mt 12 111])))))) .skip))))))))
(.reg [mt 17 10,
oq 18 (bi .add (.t 17) (ci 1)),
mt 10 18]))))))
(.seq (.reg [oq 8 (.mv (.c (.bool false)))])
.ret))))⟩
theorem row30 : Row Go.Proofs.Try.prog (30, a30) := ⟨Go.Proofs.Try.f30, Go.Proofs.Try.func30, by kernel_rfl⟩
noncomputable def a31 : AFn :=
⟨90,[(.t 10)],(.seq (.reg [oq 10 (.mv (ci 0))])
(.seq (.drw [mt 13 0,
mt 14 1,
mt 15 0,
mt 16 3,
mt 17 0,
mt 18 3,
om 19 48 (.iaddr (.slice 3) (.t 17) (.t 18)),
om 20 112 (.ld true 3 (.t 19)),
mt 21 0,
mt 22 1,
om 23 768 (.iaddr (.slice 3) (.t 21) (.t 22)),
om 24 1792 (.ld true 3 (.t 23)),
om 25 4083 (.iaddr (.slice 3) (.t 13) (.t 14)),
⟨none,(.x (.st 3 (.t 25) (.t 20))),none,8179⟩,
om 26 16383 (.iaddr (.slice 3) (.t 15) (.t 16)),
⟨none,(.x (.st 3 (.t 26) (.t 24))),none,32767⟩])
(.seq (.reg [mt 27 1,
oq 28 (bi .add (.t 27) (ci 1)),
mt 29 2,
oq 30 (bi .sub (.t 29) (ci 1)),
mt 11 28,
mt 12 30])
(.seq (.block 0 (.loop (.block 1 (.seq (.block 2 (.loop (.seq (.seq (.drw [mt 31 11,
mt 32 12,
om 33 3 (bi .leq (.t 31) (.t 32)),
om 34 7 (.mv (.t 33)),
og 35 34 true 15 (.mv (.t 4)),
og 36 34 true 15 (.mv (.t 0)),
og 37 34 true 15 (.mv (.t 1)),
og 38 34 true 111 (.iaddr (.slice 3) (.t 36) (.t 37)),
og 39 34 true 239 (.ld true 3 (.t 38)),
og 40 34 true 15 (.mv (.t 0)),
og 41 34 true 15 (.mv (.t 11)),
og 42 34 true 1551 (.iaddr (.slice 3) (.t 40) (.t 41)),
og 43 34 true 3599 (.ld true 3 (.t 42)),
⟨(some 44),(.x (.call (.t 35) [(.t 39),(.t 43)])),(some (34,true)),8191⟩,
og 45 34 true 16383 (bi .lss (.t 44) (ci 0)),
og 46 34 true 32767 (.un .not (.t 45)),
om 47 65535 (.pick (.t 34) (.t 46) (.c (.bool false)))])
(.cond (.t 47) .skip (.exit 2)))
(.block 3 (.reg [mt 48 11,
oq 49 (bi .add (.t 48) (ci 1)),
mt 11 49])))))
(.seq (.block 4 (.loop (.seq (.seq (.drw [mt 50 11,
mt 51 12,
om 52 3 (bi .leq (.t 50) (.t 51)),
om 53 7 (.mv (.t 52)),
og 54 53 true 15 (.mv (.t 4)),
og 55 53 true 15 (.mv (.t 0)),
og 56 53 true 15 (.mv (.t 1)),
og 57 53 true 111 (.iaddr (.slice 3) (.t 55) (.t 56)),
og 58 53 true 239 (.ld true 3 (.t 57)),
og 59 53 true 15 (.mv (.t 0)),
og 60 53 true 15 (.mv (.t 12)),
og 61 53 true 1551 (.iaddr (.slice 3) (.t 59) (.t 60)),
og 62 53 true 3599 (.ld true 3 (.t 61)),
⟨(some 63),(.x (.call (.t 54) [(.t 58),(.t 62)])),(some (53,true)),8191⟩,
og 64 53 true 16383 (bi .lss (.t 63) (ci 0)),
om 65 32767 (.pick (.t 53) (.t 64) (.c (.bool false)))])
(.cond (.t 65) .skip (.exit 4)))
(.block 5 (.reg [mt 66 12,
oq 67 (bi .sub (.t 66) (ci 1)),
mt 12 67])))))
(.seq (.seq (.reg [mt 68 11,
mt 69 12,
oq 70 (bi .gtr (.t 68) (.t 69))])
(.cond (.t 70) (.exit 0) .skip))
(.seq (.drw [mt 71 0,
mt 72 11,
mt 73 0,
mt 74 12,
mt 75 0,
mt 76 12,
om 77 48 (.iaddr (.slice 3) (.t 75) (.t 76)),
om 78 112 (.ld true 3 (.t 77)),
mt 79 0,
mt 80 11,
om 81 768 (.iaddr (.slice 3) (.t 79) (.t 80)),
om 82 1792 (.ld true 3 (.t 81)),
om 83 4083 (.iaddr (.slice 3) (.t 71) (.t 72)),
⟨none,(.x (.st 3 (.t 83) (.t 78))),none,8179⟩,
om 84 16383 (.iaddr (.slice 3) (.t 73) (.t 74)),
⟨none,(.x (.st 3 (.t 84) (.t 82))),none,32767⟩])
(.seq (.reg [mt 85 11,
oq 86 (bi .add (.t 85) (ci 1)),
mt 11 86])
(.reg [mt 87 12,
oq 88 (bi .sub (.t 87) (ci 1)),
mt 12 88])))))))))
(.seq (.reg [mt 89 11,
mt 10 89])
.ret)))))⟩
theorem row31 : Row Go.Proofs.Try.prog (31, a31) := ⟨Go.Proofs.Try.f31, Go.Proofs.Try.func31, by kernel_rfl⟩
noncomputable def a32 : AFn :=
⟨178,[(.t 10),(.t 11)],(.seq (.reg [oq 10 (.mv (ci 0)),
oq 11 (.mv (.c (.bool false)))])
(.seq (.drw [mt 14 0,
mt 15 1,
mt 16 0,
mt 17 3,
mt 18 0,
mt 19 3,
om 20 48 (.iaddr (.slice 3) (.t 18) (.t 19)),
om 21 112 (.ld true 3 (.t 20)),
mt 22 0,
mt 23 1,
om 24 768 (.iaddr (.slice 3) (.t 22) (.t 23)),
om 25 1792 (.ld true 3 (.t 24)),
om 26 4083 (.iaddr (.slice 3) (.t 14) (.t 15)),
⟨none,(.x (.st 3 (.t 26) (.t 21))),none,8179⟩,
om 27 16383 (.iaddr (.slice 3) (.t 16) (.t 17)),
⟨none,(.x (.st 3 (.t 27) (.t 25))),none,32767⟩])
(.seq (.reg [mt 28 1,
oq 29 (bi .add (.t 28) (ci 1)),
mt 30 2,
oq 31 (bi .sub (.t 30) (ci 1)),
mt 12 29,
mt 13 31])
(.seq (.block 0 (.loop (.seq (.seq (.drw [mt 32 12,
mt 33 13,
om 34 3 (bi .leq (.t 32) (.t 33)),
om 35 7 (.mv (.t 34)),
og 36 35 true 15 (.mv (.t 4)),
og 37 35 true 15 (.mv (.t 0)),
og 38 35 true 15 (.mv (.t 12)),
og 39 35 true 111 (.iaddr (.slice 3) (.t 37) (.t 38)),
og 40 35 true 239 (.ld true 3 (.t 39)),
og 41 35 true 15 (.mv (.t 0)),
og 42 35 true 15 (.mv (.t 1)),
og 43 35 true 1551 (.iaddr (.slice 3) (.t 41) (.t 42)),
og 44 35 true 3599 (.ld true 3 (.t 43)),
⟨(some 45),(.x (.call (.t 36) [(.t 40),(.t 44)])),(some (35,true)),8191⟩,
og 46 35 true 16383 (bi .lss (.t 45) (ci 0)),
om 47 32767 (.pick (.t 35) (.t 46) (.c (.bool false)))])
(.cond (.t 47) .skip (.exit 0)))
(.block 1 (.reg [mt 48 12,
oq 49 (bi .add (.t 48) (ci 1)),
mt 12 49])))))
(.seq (.block 2 (.loop (.seq (.seq (.drw [mt 50 12,
mt 51 13,
om 52 3 (bi .leq (.t 50) (.t 51)),
om 53 7 (.mv (.t 52)),
og 54 53 true 15 (.mv (.t 4)),
og 55 53 true 15 (.mv (.t 0)),
og 56 53 true 15 (.mv (.t 13)),
og 57 53 true 111 (.iaddr (.slice 3) (.t 55) (.t 56)),
og 58 53 true 239 (.ld true 3 (.t 57)),
og 59 53 true 15 (.mv (.t 0)),
og 60 53 true 15 (.mv (.t 1)),
og 61 53 true 1551 (.iaddr (.slice 3) (.t 59) (.t 60)),
og 62 53 true 3599 (.ld true 3 (.t 61)),
⟨(some 63),(.x (.call (.t 54) [(.t 58),(.t 62)])),(some (53,true)),8191⟩,
og 64 53 true 16383 (bi .lss (.t 63) (ci 0)),
og 65 53 true 32767 (.un .not (.t 64)),
om 66 65535 (.pick (.t 53) (.t 65) (.c (.bool false)))])
(.cond (.t 66) .skip (.exit 2)))
(.block 3 (.reg [mt 67 13,
oq 68 (bi .sub (.t 67) (ci 1)),
mt 13 68])))))
(.seq (.seq (.reg [mt 69 12,
mt 70 13,
oq 71 (bi .gtr (.t 69) (.t 70))])
(.cond (.t 71) (.seq (.drw [mt 72 0,
mt 73 13,
mt 74 0,
mt 75 1,
mt 76 0,
mt 77 1,
om 78 48 (.iaddr (.slice 3) (.t 76) (.t 77)),
om 79 112 (.ld true 3 (.t 78)),
mt 80 0,
mt 81 13,
om 82 768 (.iaddr (.slice 3) (.t 80) (.t 81)),
om 83 1792 (.ld true 3 (.t 82)),
om 84 4083 (.iaddr (.slice 3) (.t 72) (.t 73)),
⟨none,(.x (.st 3 (.t 84) (.t 79))),none,8179⟩,
om 85 16383 (.iaddr (.slice 3) (.t 74) (.t 75)),
⟨none,(.x (.st 3 (.t 85) (.t 83))),none,32767⟩])
(.seq (.reg [mt 86 13,
mt 10 86,
oq 11 (.mv (.c (.bool true)))])
.ret)) .skip))
(.seq (.drw [mt 87 0,
mt 88 12,
mt 89 0,
mt 90 13,
mt 91 0,
mt 92 13,
om 93 48 (.iaddr (.slice 3) (.t 91) (.t 92)),
om 94 112 (.ld true 3 (.t 93)),
mt 95 0,
mt 96 12,
om 97 768 (.iaddr (.slice 3) (.t 95) (.t 96)),
om 98 1792 (.ld true 3 (.t 97)),
om 99 4083 (.iaddr (.slice 3) (.t 87) (.t 88)),
⟨none,(.x (.st 3 (.t 99) (.t 94))),none,8179⟩,
om 100 16383 (.iaddr (.slice 3) (.t 89) (.t 90)),
⟨none,(.x (.st 3 (.t 100) (.t 98))),none,32767⟩])
(.seq (.reg [mt 101 12,
oq 102 (bi .add (.t 101) (ci 1)),
mt 12 102])
(.seq (.reg [mt 103 13,
oq 104 (bi .sub (.t 103) (ci 1)),
mt 13 104])
(.seq (.block 4 (.loop (.block 5 (.seq (.block 6 (.loop (.seq (.seq (.drw [mt 105 12,
mt 106 13,
om 107 3 (bi .leq (.t 105) (.t 106)),
om 108 7 (.mv (.t 107)),
og 109 108 true 15 (.mv (.t 4)),
og 110 108 true 15 (.mv (.t 0)),
og 111 108 true 15 (.mv (.t 12)),
og 112 108 true 111 (.iaddr (.slice 3) (.t 110) (.t 111)),
og 113 108 true 239 (.ld true 3 (.t 112)),
og 114 108 true 15 (.mv (.t 0)),
og 115 108 true 15 (.mv (.t 1)),
og 116 108 true 1551 (.iaddr (.slice 3) (.t 114) (.t 115)),
og 117 108 true 3599 (.ld true 3 (.t 116)),
⟨(some 118),(.x (.call (.t 109) [(.t 113),(.t 117)])),(some (108,true)),8191⟩,
og 119 108 true 16383 (bi .lss (.t 118) (ci 0)),
om 120 32767 (.pick (.t 108) (.t 119) (.c (.bool false)))])
(.cond (.t 120) .skip (.exit 6)))
(.block 7 (.reg [mt 121 12,
oq 122 (bi .add (.t 121) (ci 1)),
mt 12 122])))))
(.seq (.block 8 (.loop (.seq (.seq (.drw [mt 123 12,
mt 124 13,
om 125 3 (bi .leq (.t 123) (.t 124)),
om 126 7 (.mv (.t 125)),
og 127 126 true 15 (.mv (.t 4)),
og 128 126 true 15 (.mv (.t 0)),
og 129 126 true 15 (.mv (.t 13)),
og 130 126 true 111 (.iaddr (.slice 3) (.t 128) (.t 129)),
og 131 126 true 239 (.ld true 3 (.t 130)),
og 132 126 true 15 (.mv (.t 0)),
og 133 126 true 15 (.mv (.t 1)),
og 134 126 true 1551 (.iaddr (.slice 3) (.t 132) (.t 133)),
og 135 126 true 3599 (.ld true 3 (.t 134)),
⟨(some 136),(.x (.call (.t 127) [(.t 131),(.t 135)])),(some (126,true)),8191⟩,
og 137 126 true 16383 (bi .lss (.t 136) (ci 0)),
og 138 126 true 32767 (.un .not (.t 137)),
om 139 65535 (.pick (.t 126) (.t 138) (.c (.bool false)))])
(.cond (.t 139) .skip (.exit 8)))
(.block 9 (.reg [mt 140 13,
oq 141 (bi .sub (.t 140) (ci 1)),
mt 13 141])))))
(.seq (.seq (.reg [mt 142 12,
mt 143 13,
oq 144 (bi .gtr (.t 142) (.t 143))])
(.cond (.t 144) (.exit 4) .skip))
(.seq (.drw [mt 145 0,
mt 146 12,
mt 147 0,
mt 148 13,
mt 149 0,
mt 150 13,
om 151 48 (.iaddr (.slice 3) (.t 149) (.t 150)),
om 152 112 (.ld true 3 (.t 151)),
mt 153 0,
mt 154 12,
om 155 768 (.iaddr (.slice 3) (.t 153) (.t 154)),
om 156 1792 (.ld true 3 (.t 155)),
om 157 4083 (.iaddr (.slice 3) (.t 145) (.t 146)),
⟨none,(.x (.st 3 (.t 157) (.t 152))),none,8179⟩,
om 158 16383 (.iaddr (.slice 3) (.t 147) (.t 148)),
⟨none,(.x (.st 3 (.t 158) (.t 156))),none,32767⟩])
(.seq (.reg [mt 159 12,
oq 160 (bi .add (.t 159) (ci 1)),
mt 12 160])
(.reg [mt 161 13,
oq 162 (bi .sub (.t 161) (ci 1)),
mt 13 162])))))))))
(.seq (.drw [mt 163 0,
mt 164 13,
mt 165 0,
mt 166 1,
mt 167 0,
mt 168 1,
om 169 48 (.iaddr (.slice 3) (.t 167) (.t 168)),
om 170 112 (.ld true 3 (.t 169)),
mt 171 0,
mt 172 13,
om 173 768 (.iaddr (.slice 3) (.t 171) (.t 172)),
om 174 1792 (.ld true 3 (.t 173)),
om 175 4083 (.iaddr (.slice 3) (.t 163) (.t 164)),
⟨none,(.x (.st 3 (.t 175) (.t 170))),none,8179⟩,
om 176 16383 (.iaddr (.slice 3) (.t 165) (.t 166)),
⟨none,(.x (.st 3 (.t 176) (.t 174))),none,32767⟩])
(.seq (.reg [mt 177 13,
mt 10 177,
oq 11 (.mv (.c (.bool false)))])
.ret))))))))))))⟩
theorem row32 : Row Go.Proofs.Try.prog (32, a32) := ⟨Go.Proofs.Try.f32, Go.Proofs.Try.func32, by kernel_rfl⟩
end Go.Ev.Gl
