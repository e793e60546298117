import Derived.Test.YtoojnpjgnnpllaaProg
import Derived.Test.YtoojnpjgnnpllaaEv8
import Derived.KernelRfl
namespace Go.Ev.Gl
set_option maxRecDepth 100000
noncomputable def a157 : eJ :=
⟨22,[(.t 6)],(.seq (.reg [oq 6 (.mv (.c (.bool false)))])
(.seq (.seq (.reg [mt 7 0,
mt 8 1,
oq 9 (.iaddr (.slice 1) (.t 7) (.t 8)),
oq 10 (ld 9),
oq 11 (bi .lss (.t 10) (ci 0))])
(.cond (.t 11) (.reg [mt 12 0,
mt 13 1,
mt 14 2,
oq 15 (.iaddr (.slice 1) (.t 12) (.t 13)),
⟨none,(.x (.st 1 (.t 15) (.t 14))),none,0⟩]) .skip))
(.seq (.reg [mt 16 0,
mt 17 1,
oq 18 (.iaddr (.slice 1) (.t 16) (.t 17)),
oq 19 (ld 18),
mt 20 2,
oq 21 (bi .eql (.t 19) (.t 20)),
mt 6 21])
.ret)))⟩
theorem row157 : Row Go.Proofs.Try.prog (157, a157) := ⟨Go.Proofs.Try.f157, Go.Proofs.Try.func157, by kernel_rfl⟩
noncomputable def a158 : eJ :=
⟨21,[(.t 4),(.t 5)],(.seq (.reg [⟨(some 2),(.a (.box 28 (.t 0))),none,0⟩,
oq 4 (.mv (.c .nilsl)),
oq 5 (.mv (ci 0))])
(.seq (.reg [oq 10 (.ld true 3 (.t 2)),
oc 11 131 [(.t 10)] 0,
mt 9 11,
oq 12 (.extract (.t 9) 0),
oq 13 (.extract (.t 9) 1),
mt 6 12,
mt 7 13])
(.seq (.seq (.reg [mt 14 7,
oq 15 (bi .neq (.t 14) (ci 0))])
(.cond (.t 15) (.seq (.reg [oq 8 (.mv (.c .nilsl))])
(.seq (.reg [mt 16 8,
mt 17 7,
mt 4 16,
mt 5 17])
.ret)) .skip))
(.seq (.reg [mt 18 1,
mt 19 6,
⟨(some 20),(.x (.call (.t 18) [(.t 19)])),none,0⟩,
mt 4 20,
oq 5 (.mv (ci 0))])
.ret))))⟩
theorem row158 : Row Go.Proofs.Try.prog (158, a158) := ⟨Go.Proofs.Try.f158, Go.Proofs.Try.func158, by kernel_rfl⟩
noncomputable def a159 : eJ :=
⟨7,[(.t 2)],(.seq (.reg [oq 2 (.mv (.c .nilsl))])
(.seq (.reg [mt 3 0,
oq 4 (.nilchk (.t 3)),
oq 5 (.faddr 3 (.t 4)),
oq 6 (ld 5),
mt 2 6])
.ret))⟩
theorem row159 : Row Go.Proofs.Try.prog (159, a159) := ⟨Go.Proofs.Try.f159, Go.Proofs.Try.func159, by kernel_rfl⟩
noncomputable def a162 : eJ :=
⟨22,[(.t 4)],(.seq (.reg [⟨(some 3),(.a (.box 64 (.t 1))),none,0⟩,
oq 4 (.mv (ci 0))])
(.seq (.reg [oq 6 (.build [.nilfn,.nilfn,.nilfn,.nilfn] [(1,1,(.c (.fn 173 [] []))),(2,1,(.c (.fn 174 [] []))),(3,1,(.c (.fn 175 [] [])))]),
⟨(some 5),(.a (.alloc 243 [.nilfn,.nilfn,.nilfn,.nilfn])),none,0⟩,
⟨none,(.x (.st 4 (.t 5) (.t 6))),none,0⟩])
(.seq (.seq (.reg [oq 7 (.faddr 0 (.t 3)),
oq 8 (ld 7),
oq 9 (bi .lss (.t 8) (ci 1)),
mt 10 9,
og 11 10 false 0 (.faddr 0 (.t 3)),
og 12 10 false 0 (ld 11),
og 13 10 false 0 (bi .gtr (.t 12) (ci 3)),
oq 14 (.pick (.t 10) (.c (.bool true)) (.t 13))])
(.cond (.t 14) (.seq (.reg [oq 4 (.mv (ci 3))])
.ret) .skip))
(.seq (.drw [oq 15 (.faddr 0 (.t 3)),
om 16 1 (ld 15),
om 17 3 (.iaddr (.arr 4 1) (.t 5) (.t 16)),
om 18 7 (ld 17),
mt 19 0,
oq 20 (.ld true 6 (.t 3)),
⟨(some 21),(.x (.call (.t 18) [(.t 19),(.t 20)])),none,63⟩,
om 4 127 (.mv (.t 21))])
.ret))))⟩
theorem row162 : Row Go.Proofs.Try.prog (162, a162) := ⟨Go.Proofs.Try.f162, Go.Proofs.Try.func162, by kernel_rfl⟩
noncomputable def a163 : eJ :=
⟨92,[(.t 8),(.t 9)],(.seq (.reg [oq 8 (.mv (.c .nilsl)),
oq 9 (.mv (.c (.bool false)))])
(.seq (.seq (.reg [mt 15 3,
oq 16 (.lenSl (.t 15)),
oq 17 (bi .eql (.t 16) (ci 0))])
(.cond (.t 17) (.seq (.reg [oq 8 (.mv (.c .nilsl)),
oq 9 (.mv (.c (.bool false)))])
.ret) .skip))
(.seq (.reg [mt 18 0,
oq 19 (.nilchk (.t 18)),
oq 20 (.faddr 0 (.t 19)),
oq 21 (.faddr 1 (.t 20)),
oq 22 (ld 21),
oq 23 (.lenSl (.t 22)),
mt 24 3,
oq 25 (.lenSl (.t 24)),
oq 26 (bi .sub (.t 23) (.t 25)),
mt 10 26])
(.seq (.drw [mt 27 0,
om 28 1 (.nilchk (.t 27)),
om 29 3 (.faddr 3 (.t 28)),
om 30 7 (ld 29),
mt 31 10,
mt 32 0,
om 33 32 (.nilchk (.t 32)),
om 34 96 (.faddr 4 (.t 33)),
om 35 224 (ld 34),
mt 36 10,
mt 37 1,
mt 38 2,
om 39 1535 (.iaddr (.slice 1) (.t 30) (.t 31)),
⟨none,(.x (.st 1 (.t 39) (.t 37))),none,5631⟩,
om 40 16383 (.iaddr (.slice 1) (.t 35) (.t 36)),
⟨none,(.x (.st 1 (.t 40) (.t 38))),none,32767⟩])
(.seq (.reg [mt 41 3,
oq 42 (.slc (.slice 6) (.t 41) (some (ci 1)) none none),
mt 11 42,
oq 12 (.mv (.c (.bool true)))])
(.seq (.seq (.reg [mt 43 3,
oq 44 (.iaddr (.slice 6) (.t 43) (ci 0)),
oq 45 (.faddr 3 (.t 44)),
oq 46 (ld 45),
oq 47 (.lenSl (.t 46)),
oq 48 (.mv (ci 0))])
(.block 0 (.loop (.seq (.reg [oq 49 (bi .lss (.t 48) (.t 47))])
(.seq (.cond (.t 49) .skip (.exit 0))
(.seq (.block 1 (.seq (.reg [oq 50 (.iaddr (.slice 1) (.t 46) (.t 48)),
oq 51 (ld 50),
mt 14 51])
(.seq (.seq (.reg [mt 52 14,
mt 53 0,
oq 54 (.nilchk (.t 53)),
oq 55 (.faddr 0 (.t 54)),
oq 56 (.faddr 1 (.t 55)),
oq 57 (ld 56),
oq 58 (.lenSl (.t 57)),
mt 59 11,
oq 60 (.lenSl (.t 59)),
oq 61 (bi .sub (.t 58) (.t 60)),
oq 62 (bi .neq (.t 52) (.t 61))])
(.cond (.t 62) (.seq (.reg [oq 8 (.mv (.c .nilsl)),
oq 9 (.mv (.c (.bool false)))])
.ret) .skip))
(.seq (.reg [mt 64 0,
mt 65 10,
mt 66 2,
oq 67 (bi .add (.t 66) (ci 1)),
mt 68 11,
oc 69 163 [(.t 64),(.t 65),(.t 67),(.t 68)] 0,
mt 63 69,
oq 70 (.extract (.t 63) 0),
oq 71 (.extract (.t 63) 1),
mt 11 70,
mt 12 71])
(.seq (.reg [mt 72 12,
oq 73 (.un .not (.t 72))])
(.cond (.t 73) (.seq (.reg [oq 8 (.mv (.c .nilsl)),
oq 9 (.mv (.c (.bool false)))])
.ret) .skip))))))
(.reg [oq 74 (bi .add (.t 48) (ci 1)),
mt 48 74])))))))
(.seq (.drw [mt 75 0,
om 76 1 (.nilchk (.t 75)),
om 77 3 (.faddr 5 (.t 76)),
om 78 7 (ld 77),
mt 79 10,
mt 80 0,
om 81 32 (.nilchk (.t 80)),
om 82 96 (.faddr 0 (.t 81)),
om 83 224 (.faddr 1 (.t 82)),
om 84 480 (ld 83),
om 85 992 (.lenSl (.t 84)),
mt 86 11,
om 87 2048 (.lenSl (.t 86)),
om 88 8160 (bi .sub (.t 85) (.t 87)),
om 89 16352 (bi .sub (.t 88) (ci 1)),
om 90 32767 (.iaddr (.slice 1) (.t 78) (.t 79)),
⟨none,(.x (.st 1 (.t 90) (.t 89))),none,65535⟩])
(.seq (.reg [mt 91 11,
mt 8 91,
oq 9 (.mv (.c (.bool true)))])
.ret))))))))⟩
theorem row163 : Row Go.Proofs.Try.prog (163, a163) := ⟨Go.Proofs.Try.f163, Go.Proofs.Try.func163, by kernel_rfl⟩
noncomputable def a164 : eJ :=
⟨25,[(.t 2)],(.seq (.reg [oq 2 (.mv (ci 0))])
(.seq (.seq (.reg [mt 5 0,
oq 6 (.lenSl (.t 5)),
oq 7 (bi .lss (.t 6) (ci 1))])
(.cond (.t 7) (.reg [oq 8 (.mkIface 9 (.c (.str [115,108,105,99,101,115,46,77,97,120,58,32,101,109,112,116,121,32,108,105,115,116]))),
⟨none,(.x (.bad)),none,0⟩]) .skip))
(.seq (.reg [mt 9 0,
oq 10 (.iaddr (.slice 1) (.t 9) (ci 0)),
oq 11 (ld 10),
mt 3 11])
(.seq (.seq (.reg [oq 4 (.mv (ci 1))])
(.block 0 (.loop (.seq (.seq (.reg [mt 12 4,
mt 13 0,
oq 14 (.lenSl (.t 13)),
oq 15 (bi .lss (.t 12) (.t 14))])
(.cond (.t 15) .skip (.exit 0)))
(.seq (.block 1 (.reg [mt 18 3,
mt 19 0,
mt 20 4,
oq 21 (.iaddr (.slice 1) (.t 19) (.t 20)),
oq 22 (ld 21),
oq 23 (.minmax true [(.t 18),(.t 22)]),
mt 3 23]))
(.reg [mt 16 4,
oq 17 (bi .add (.t 16) (ci 1)),
mt 4 17]))))))
(.seq (.reg [mt 24 3,
mt 2 24])
.ret)))))⟩
theorem row164 : Row Go.Proofs.Try.prog (164, a164) := ⟨Go.Proofs.Try.f164, Go.Proofs.Try.func164, by kernel_rfl⟩
noncomputable def a165 : eJ :=
⟨80,[(.t 2)],(.seq (.reg [oq 2 (.mv (ci 0))])
(.seq (.reg [mt 8 0,
oq 9 (.nilchk (.t 8)),
oq 10 (.faddr 0 (.t 9)),
oq 11 (.faddr 2 (.t 10)),
oq 12 (ld 11),
oq 13 (.lenSl (.t 12)),
⟨(some 14),(.a (.mkSlice 3 1 8 [(.int .i64 (.ofNat 0))] (.t 13) (.t 13))),none,0⟩,
mt 3 14])
(.seq (.seq (.reg [mt 15 0,
oq 16 (.nilchk (.t 15)),
oq 17 (.faddr 0 (.t 16)),
oq 18 (.faddr 1 (.t 17)),
oq 19 (ld 18),
oq 20 (.lenSl (.t 19)),
oq 21 (bi .sub (.t 20) (ci 1)),
mt 4 21])
(.block 0 (.loop (.seq (.seq (.reg [mt 22 4,
oq 23 (bi .geq (.t 22) (ci 0))])
(.cond (.t 23) .skip (.exit 0)))
(.seq (.block 1 (.seq (.reg [mt 26 0,
oq 27 (.nilchk (.t 26)),
oq 28 (.faddr 0 (.t 27)),
oq 29 (.faddr 1 (.t 28)),
oq 30 (ld 29),
mt 31 4,
oq 32 (.iaddr (.slice 6) (.t 30) (.t 31)),
oq 33 (.ld true 6 (.t 32)),
⟨(some 5),(.a (.alloc 64 [(.int .i64 (.ofNat 0)),(.int .i64 (.ofNat 0)),(.int .i64 (.ofNat 0)),.nilsl,.nilsl,.nilsl])),none,0⟩,
⟨none,(.x (.st 6 (.t 5) (.t 33))),none,0⟩])
(.seq (.reg [oq 34 (.faddr 0 (.t 5)),
oq 35 (ld 34),
oq 36 (bi .eql (.t 35) (ci 2))])
(.cond (.t 36) (.reg [mt 37 3,
oq 38 (.faddr 2 (.t 5)),
oq 39 (ld 38),
mt 40 4,
oq 41 (bi .add (.t 40) (ci 1)),
oq 42 (.iaddr (.slice 1) (.t 37) (.t 39)),
⟨none,(.x (.st 1 (.t 42) (.t 41))),none,0⟩]) .skip))))
(.reg [mt 24 4,
oq 25 (bi .sub (.t 24) (ci 1)),
mt 4 25]))))))
(.seq (.seq (.reg [mt 43 0,
oq 44 (.nilchk (.t 43)),
oq 45 (.faddr 0 (.t 44)),
oq 46 (.faddr 1 (.t 45)),
oq 47 (ld 46),
oq 48 (.lenSl (.t 47)),
oq 49 (.mv (ci 0))])
(.block 2 (.loop (.seq (.reg [oq 50 (bi .lss (.t 49) (.t 48))])
(.seq (.cond (.t 50) .skip (.exit 2))
(.seq (.block 3 (.seq (.reg [oq 51 (.iaddr (.slice 6) (.t 47) (.t 49)),
oq 52 (.ld true 6 (.t 51)),
⟨(some 7),(.a (.alloc 64 [(.int .i64 (.ofNat 0)),(.int .i64 (.ofNat 0)),(.int .i64 (.ofNat 0)),.nilsl,.nilsl,.nilsl])),none,0⟩,
⟨none,(.x (.st 6 (.t 7) (.t 52))),none,0⟩])
(.seq (.drw [oq 53 (.faddr 0 (.t 7)),
om 54 1 (ld 53),
om 55 3 (bi .eql (.t 54) (ci 2)),
om 56 7 (.mv (.t 55)),
og 57 56 true 15 (.mv (.t 0)),
og 58 56 true 31 (.nilchk (.t 57)),
og 59 56 true 63 (.faddr 0 (.t 58)),
og 60 56 true 127 (.faddr 2 (.t 59)),
og 61 56 true 255 (ld 60),
og 62 56 true 15 (.faddr 2 (.t 7)),
og 63 56 true 527 (ld 62),
og 64 56 true 2047 (.iaddr (.slice 2) (.t 61) (.t 63)),
og 65 56 true 4095 (.ld true 2 (.t 64)),
og 66 56 true 15 (.faddr 1 (.t 7)),
og 67 56 true 8207 (ld 66),
og 68 56 true 15 (.faddr 3 (.t 7)),
og 69 56 true 32783 (ld 68),
og 70 56 true 98319 (.lenSl (.t 69)),
og 71 56 true 253967 (.build [(.int .i64 (.ofNat 0)),(.int .i64 (.ofNat 0))] [(0,1,(.t 67)),(1,1,(.t 70))]),
og 72 56 true 524287 (.bin .neq (.struct [(0,.int),(1,.int)]) (.t 65) (.t 71)),
om 73 1048575 (.pick (.t 56) (.t 72) (.c (.bool false)))])
(.cond (.t 73) (.seq (.reg [oq 2 (.mv (ci 10))])
.ret) .skip))))
(.reg [oq 74 (bi .add (.t 49) (ci 1)),
mt 49 74])))))))
(.seq (.seq (.reg [mt 75 3,
oc 76 176 [(.t 75),(ci 0)] 0])
(.cond (.t 76) (.seq (.reg [oq 2 (.mv (ci 18))])
.ret) .skip))
(.seq (.seq (.reg [mt 77 3,
oc 78 177 [(.t 77)] 0,
oq 79 (.un .not (.t 78))])
(.cond (.t 79) (.seq (.reg [oq 2 (.mv (ci 9))])
.ret) .skip))
(.seq (.reg [oq 2 (.mv (ci 0))])
.ret)))))))⟩
theorem row165 : Row Go.Proofs.Try.prog (165, a165) := ⟨Go.Proofs.Try.f165, Go.Proofs.Try.func165, by kernel_rfl⟩
noncomputable def a173 : eJ :=
⟨43,[(.t 4)],(.seq (.reg [⟨(some 3),(.a (.box 64 (.t 1))),none,0⟩,
oq 4 (.mv (ci 0))])
(.seq (.seq (.reg [oq 5 (.faddr 1 (.t 3)),
oq 6 (ld 5),
oq 7 (bi .neq (.t 6) (ci 0)),
mt 8 7,
og 9 8 false 0 (.faddr 2 (.t 3)),
og 10 8 false 0 (ld 9),
og 11 8 false 0 (bi .neq (.t 10) (ci 0)),
oq 12 (.pick (.t 8) (.c (.bool true)) (.t 11)),
mt 13 12,
og 14 13 false 0 (.faddr 5 (.t 3)),
og 15 13 false 0 (ld 14),
og 16 13 false 0 (.lenSl (.t 15)),
og 17 13 false 0 (bi .gtr (.t 16) (ci 0)),
oq 18 (.pick (.t 13) (.c (.bool true)) (.t 17)),
mt 19 18,
og 20 19 false 0 (.faddr 3 (.t 3)),
og 21 19 false 0 (ld 20),
og 22 19 false 0 (.lenSl (.t 21)),
og 23 19 false 0 (bi .lss (.t 22) (ci 1)),
oq 24 (.pick (.t 19) (.c (.bool true)) (.t 23)),
mt 25 24,
og 26 25 false 0 (.faddr 3 (.t 3)),
og 27 25 false 0 (ld 26),
og 28 25 false 0 (.lenSl (.t 27)),
og 29 25 false 0 (bi .gtr (.t 28) (ci 60)),
oq 30 (.pick (.t 25) (.c (.bool true)) (.t 29)),
mt 31 30,
og 32 31 false 0 (.faddr 4 (.t 3)),
og 33 31 false 0 (ld 32),
og 34 31 false 0 (.lenSl (.t 33)),
og 35 31 false 0 (.faddr 3 (.t 3)),
og 36 31 false 0 (ld 35),
og 37 31 false 0 (.lenSl (.t 36)),
og 38 31 false 0 (bi .neq (.t 34) (.t 37)),
oq 39 (.pick (.t 31) (.c (.bool true)) (.t 38))])
(.cond (.t 39) (.seq (.reg [oq 4 (.mv (ci 3))])
.ret) .skip))
(.seq (.reg [oq 40 (.faddr 4 (.t 3)),
oq 41 (ld 40),
oc 42 180 [(ci 1),(ci 1000),(.t 41)] 0,
mt 4 42])
.ret)))⟩
theorem row173 : Row Go.Proofs.Try.prog (173, a173) := ⟨Go.Proofs.Try.f173, Go.Proofs.Try.func173, by kernel_rfl⟩
noncomputable def a174 : eJ :=
⟨52,[(.t 4)],(.seq (.reg [⟨(some 3),(.a (.box 64 (.t 1))),none,0⟩,
oq 4 (.mv (ci 0))])
(.seq (.seq (.reg [oq 6 (.faddr 4 (.t 3)),
oq 7 (ld 6),
oq 8 (.lenSl (.t 7)),
oq 9 (bi .gtr (.t 8) (ci 0)),
mt 10 9,
og 11 10 false 0 (.faddr 5 (.t 3)),
og 12 10 false 0 (ld 11),
og 13 10 false 0 (.lenSl (.t 12)),
og 14 10 false 0 (bi .gtr (.t 13) (ci 0)),
oq 15 (.pick (.t 10) (.c (.bool true)) (.t 14)),
mt 16 15,
og 17 16 false 0 (.faddr 3 (.t 3)),
og 18 16 false 0 (ld 17),
og 19 16 false 0 (.lenSl (.t 18)),
og 20 16 false 0 (bi .lss (.t 19) (ci 1)),
oq 21 (.pick (.t 16) (.c (.bool true)) (.t 20)),
mt 22 21,
og 23 22 false 0 (.faddr 3 (.t 3)),
og 24 22 false 0 (ld 23),
og 25 22 false 0 (.lenSl (.t 24)),
og 26 22 false 0 (bi .gtr (.t 25) (ci 10)),
oq 27 (.pick (.t 22) (.c (.bool true)) (.t 26))])
(.cond (.t 27) (.seq (.reg [oq 4 (.mv (ci 3))])
.ret) .skip))
(.seq (.seq (.drw [mt 28 0,
om 29 1 (.nilchk (.t 28)),
om 30 3 (.faddr 0 (.t 29)),
om 31 7 (.faddr 0 (.t 30)),
om 32 15 (ld 31),
om 33 31 (bi .sub (.t 32) (ci 1)),
oq 34 (.faddr 1 (.t 3)),
om 35 64 (ld 34),
⟨(some 36),(.a (.bslice 3 1 1 [(.int .i64 (.ofNat 0))] [(0,(.t 35))])),none,192⟩,
oc 37 180 [(ci 0),(.t 33),(.t 36)] 511,
om 5 1023 (.mv (.t 37))])
(.seq (.reg [mt 38 5,
oq 39 (bi .neq (.t 38) (ci 0))])
(.cond (.t 39) (.seq (.reg [mt 40 5,
mt 4 40])
.ret) .skip)))
(.seq (.drw [mt 41 0,
om 42 1 (.nilchk (.t 41)),
om 43 3 (.faddr 0 (.t 42)),
om 44 7 (.faddr 2 (.t 43)),
om 45 15 (ld 44),
om 46 31 (.lenSl (.t 45)),
om 47 63 (bi .sub (.t 46) (ci 1)),
oq 48 (.faddr 2 (.t 3)),
om 49 128 (ld 48),
⟨(some 50),(.a (.bslice 3 1 1 [(.int .i64 (.ofNat 0))] [(0,(.t 49))])),none,384⟩,
oc 51 180 [(ci 0),(.t 47),(.t 50)] 1023,
om 4 2047 (.mv (.t 51))])
.ret))))⟩
theorem row174 : Row Go.Proofs.Try.prog (174, a174) := ⟨Go.Proofs.Try.f174, Go.Proofs.Try.func174, by kernel_rfl⟩
noncomputable def a175 : eJ :=
⟨39,[(.t 4)],(.seq (.reg [⟨(some 3),(.a (.box 64 (.t 1))),none,0⟩,
oq 4 (.mv (ci 0))])
(.seq (.seq (.drw [oq 5 (.faddr 1 (.t 3)),
om 6 1 (ld 5),
om 7 3 (bi .neq (.t 6) (ci 0)),
om 8 7 (.mv (.t 7)),
og 9 8 false 15 (.faddr 2 (.t 3)),
og 10 8 false 31 (ld 9),
og 11 8 false 63 (bi .neq (.t 10) (ci 0)),
om 12 127 (.pick (.t 8) (.c (.bool true)) (.t 11)),
om 13 255 (.mv (.t 12)),
og 14 13 false 511 (.faddr 3 (.t 3)),
og 15 13 false 1023 (ld 14),
og 16 13 false 2047 (.lenSl (.t 15)),
og 17 13 false 4095 (bi .gtr (.t 16) (ci 0)),
om 18 8191 (.pick (.t 13) (.c (.bool true)) (.t 17)),
om 19 16383 (.mv (.t 18)),
og 20 19 false 32767 (.faddr 4 (.t 3)),
og 21 19 false 65535 (ld 20),
og 22 19 false 131071 (.lenSl (.t 21)),
og 23 19 false 262143 (bi .gtr (.t 22) (ci 0)),
om 24 524287 (.pick (.t 19) (.c (.bool true)) (.t 23)),
om 25 1048575 (.mv (.t 24)),
og 26 25 false 2097151 (.faddr 5 (.t 3)),
og 27 25 false 4194303 (ld 26),
og 28 25 false 8388607 (.lenSl (.t 27)),
og 29 25 false 2097151 (.mv (.t 0)),
og 30 25 false 18874367 (.nilchk (.t 29)),
og 31 25 false 52428799 (.faddr 0 (.t 30)),
og 32 25 false 119537663 (.faddr 0 (.t 31)),
og 33 25 false 253755391 (ld 32),
og 34 25 false 536870911 (bi .neq (.t 28) (.t 33)),
om 35 1073741823 (.pick (.t 25) (.c (.bool true)) (.t 34))])
(.cond (.t 35) (.seq (.reg [oq 4 (.mv (ci 3))])
.ret) .skip))
(.seq (.reg [oq 36 (.faddr 5 (.t 3)),
oq 37 (ld 36),
oc 38 180 [(.c (.int .i64 (.negSucc 999999))),(ci 1000000),(.t 37)] 0,
mt 4 38])
.ret)))⟩
theorem row175 : Row Go.Proofs.Try.prog (175, a175) := ⟨Go.Proofs.Try.f175, Go.Proofs.Try.func175, by kernel_rfl⟩
noncomputable def a176 : eJ :=
⟨9,[(.t 4)],(.seq (.reg [oq 4 (.mv (.c (.bool false)))])
(.seq (.reg [mt 5 0,
mt 6 1,
oc 7 181 [(.t 5),(.t 6)] 0,
oq 8 (bi .geq (.t 7) (ci 0)),
mt 4 8])
.ret))⟩
theorem row176 : Row Go.Proofs.Try.prog (176, a176) := ⟨Go.Proofs.Try.f176, Go.Proofs.Try.func176, by kernel_rfl⟩
noncomputable def a177 : eJ :=
⟨21,[(.t 2)],(.seq (.reg [oq 2 (.mv (.c (.bool false)))])
(.seq (.seq (.reg [mt 4 0,
oq 5 (.lenSl (.t 4)),
oq 6 (bi .sub (.t 5) (ci 1)),
mt 3 6])
(.block 0 (.loop (.seq (.seq (.reg [mt 7 3,
oq 8 (bi .gtr (.t 7) (ci 0))])
(.cond (.t 8) .skip (.exit 0)))
(.seq (.block 1 (.seq (.drw [mt 11 0,
mt 12 3,
om 13 3 (.iaddr (.slice 1) (.t 11) (.t 12)),
om 14 7 (ld 13),
mt 15 0,
mt 16 3,
om 17 32 (bi .sub (.t 16) (ci 1)),
om 18 112 (.iaddr (.slice 1) (.t 15) (.t 17)),
om 19 240 (ld 18),
oc 20 182 [(.t 14),(.t 19)] 511])
(.cond (.t 20) (.seq (.reg [oq 2 (.mv (.c (.bool false)))])
.ret) .skip)))
(.reg [mt 9 3,
oq 10 (bi .sub (.t 9) (ci 1)),
mt 3 10]))))))
(.seq (.reg [oq 2 (.mv (.c (.bool true)))])
.ret)))⟩
theorem row177 : Row Go.Proofs.Try.prog (177, a177) := ⟨Go.Proofs.Try.f177, Go.Proofs.Try.func177, by kernel_rfl⟩
noncomputable def a180 : eJ :=
⟨10,[(.t 6)],(.seq (.reg [⟨(some 3),(.a (.box 3 (.t 0))),none,0⟩,
⟨(some 4),(.a (.box 3 (.t 1))),none,0⟩,
oq 6 (.mv (ci 0))])
(.seq (.seq (.reg [mt 7 2,
oq 8 (.mkFunc 184 [] [(.t 3),(.t 4)]),
oc 9 183 [(.t 7),(.t 8)] 0])
(.cond (.t 9) (.seq (.reg [oq 6 (.mv (ci 2))])
.ret) .skip))
(.seq (.reg [oq 6 (.mv (ci 0))])
.ret)))⟩
theorem row180 : Row Go.Proofs.Try.prog (180, a180) := ⟨Go.Proofs.Try.f180, Go.Proofs.Try.func180, by kernel_rfl⟩
noncomputable def a181 : eJ :=
⟨19,[(.t 4)],(.seq (.reg [oq 4 (.mv (ci 0))])
(.seq (.seq (.reg [mt 6 0,
oq 7 (.lenSl (.t 6)),
oq 8 (.mv (ci 0))])
(.block 0 (.loop (.seq (.reg [oq 9 (bi .lss (.t 8) (.t 7))])
(.seq (.cond (.t 9) .skip (.exit 0))
(.seq (.block 1 (.seq (.reg [mt 10 8,
mt 5 10])
(.seq (.reg [mt 11 1,
mt 12 0,
mt 13 5,
oq 14 (.iaddr (.slice 1) (.t 12) (.t 13)),
oq 15 (ld 14),
oq 16 (bi .eql (.t 11) (.t 15))])
(.cond (.t 16) (.seq (.reg [mt 17 5,
mt 4 17])
.ret) .skip))))
(.reg [oq 18 (bi .add (.t 8) (ci 1)),
mt 8 18])))))))
(.seq (.reg [oq 4 (.mv (.c (.int .i64 (.negSucc 0))))])
.ret)))⟩
theorem row181 : Row Go.Proofs.Try.prog (181, a181) := ⟨Go.Proofs.Try.f181, Go.Proofs.Try.func181, by kernel_rfl⟩
noncomputable def a182 : eJ :=
⟨17,[(.t 4)],(.seq (.reg [oq 4 (.mv (.c (.bool false)))])
(.seq (.reg [mt 5 0,
oc 6 185 [(.t 5)] 0,
mt 7 6,
og 8 7 true 0 (.mv (.t 1)),
⟨(some 9),(.x (.call (.c (.fn 185 [] [])) [(.t 8)])),(some (7,true)),0⟩,
og 10 7 true 0 (.un .not (.t 9)),
oq 11 (.pick (.t 7) (.t 10) (.c (.bool false))),
mt 12 11,
og 13 12 false 0 (.mv (.t 0)),
og 14 12 false 0 (.mv (.t 1)),
og 15 12 false 0 (bi .lss (.t 13) (.t 14)),
oq 16 (.pick (.t 12) (.c (.bool true)) (.t 15)),
mt 4 16])
.ret))⟩
theorem row182 : Row Go.Proofs.Try.prog (182, a182) := ⟨Go.Proofs.Try.f182, Go.Proofs.Try.func182, by kernel_rfl⟩
noncomputable def a183 : eJ :=
⟨9,[(.t 4)],(.seq (.reg [oq 4 (.mv (.c (.bool false)))])
(.seq (.reg [mt 5 0,
mt 6 1,
oc 7 186 [(.t 5),(.t 6)] 0,
oq 8 (bi .geq (.t 7) (ci 0)),
mt 4 8])
.ret))⟩
theorem row183 : Row Go.Proofs.Try.prog (183, a183) := ⟨Go.Proofs.Try.f183, Go.Proofs.Try.func183, by kernel_rfl⟩
noncomputable def a184 : eJ :=
⟨13,[(.t 4)],(.seq (.reg [oq 4 (.mv (.c (.bool false)))])
(.seq (.reg [mt 5 0,
oq 6 (ld 1),
oq 7 (bi .lss (.t 5) (.t 6)),
mt 8 7,
og 9 8 false 0 (.mv (.t 0)),
og 10 8 false 0 (ld 2),
og 11 8 false 0 (bi .gtr (.t 9) (.t 10)),
oq 12 (.pick (.t 8) (.c (.bool true)) (.t 11)),
mt 4 12])
.ret))⟩
theorem row184 : Row Go.Proofs.Try.prog (184, a184) := ⟨Go.Proofs.Try.f184, Go.Proofs.Try.func184, by kernel_rfl⟩
noncomputable def a185 : eJ :=
⟨6,[(.t 2)],(.seq (.reg [oq 2 (.mv (.c (.bool false)))])
(.seq (.reg [mt 3 0,
mt 4 0,
oq 5 (bi .neq (.t 3) (.t 4)),
mt 2 5])
.ret))⟩
theorem row185 : Row Go.Proofs.Try.prog (185, a185) := ⟨Go.Proofs.Try.f185, Go.Proofs.Try.func185, by kernel_rfl⟩
noncomputable def a186 : eJ :=
⟨19,[(.t 4)],(.seq (.reg [oq 4 (.mv (ci 0))])
(.seq (.seq (.reg [mt 6 0,
oq 7 (.lenSl (.t 6)),
oq 8 (.mv (ci 0))])
(.block 0 (.loop (.seq (.reg [oq 9 (bi .lss (.t 8) (.t 7))])
(.seq (.cond (.t 9) .skip (.exit 0))
(.seq (.block 1 (.seq (.reg [mt 10 8,
mt 5 10])
(.seq (.reg [mt 11 1,
mt 12 0,
mt 13 5,
oq 14 (.iaddr (.slice 1) (.t 12) (.t 13)),
oq 15 (ld 14),
⟨(some 16),(.x (.call (.t 11) [(.t 15)])),none,0⟩])
(.cond (.t 16) (.seq (.reg [mt 17 5,
mt 4 17])
.ret) .skip))))
(.reg [oq 18 (bi .add (.t 8) (ci 1)),
mt 8 18])))))))
(.seq (.reg [oq 4 (.mv (.c (.int .i64 (.negSucc 0))))])
.ret)))⟩
theorem row186 : Row Go.Proofs.Try.prog (186, a186) := ⟨Go.Proofs.Try.f186, Go.Proofs.Try.func186, by kernel_rfl⟩
end Go.Ev.Gl
