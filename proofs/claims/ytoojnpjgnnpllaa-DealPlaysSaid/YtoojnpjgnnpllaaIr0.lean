/- Functions of the program as data of the evaluator, written by program; each is shown to be the compiler's result on the loaded function. -/
import Derived.Test.YtoojnpjgnnpllaaProg
import Derived.Test.YtoojnpjgnnpllaaEv8
import Derived.KernelRfl
namespace Go.Ev.Gl
set_option maxRecDepth 100000
noncomputable def a9 : AFn :=
⟨89,[(.t 6)],(.seq (.reg [⟨(some 3),(.a (.box 28 (.t 0))),none,0⟩,
oq 6 (.mv (.c (.bool false)))])
(.seq (.seq (.reg [oq 17 (.ld true 3 (.t 3)),
oc 18 31 [(.t 17)] 0,
mt 19 18,
og 20 19 false 0 (.mv (.t 1)),
og 21 19 false 0 (.lenSl (.t 20)),
og 22 19 false 0 (bi .gtr (.t 21) (ci 300)),
oq 23 (.pick (.t 19) (.c (.bool true)) (.t 22))])
(.cond (.t 23) (.seq (.reg [oc 24 32 [] 0,
mt 6 24])
.ret) .skip))
(.seq (.reg [oq 25 (.ld true 3 (.t 3)),
oc 26 41 [(.t 25)] 0,
⟨(some 27),(.a (.bslice 3 1 0 [(.int .i64 (.ofNat 0))] [])),none,0⟩,
mt 28 1,
⟨(some 29),(.x (.app 3 1 8 (.t 27) (.t 28))),none,0⟩,
⟨(some 7),(.a (.alloc 28 [(.int .i64 (.ofNat 0)),.nilsl,.nilsl])),none,0⟩,
⟨none,(.x (.st 3 (.t 7) (.t 26))),none,0⟩,
mt 8 29])
(.seq (.reg [oq 31 (.ld true 3 (.t 7)),
mt 32 8,
mt 33 2,
oc 34 42 [(.t 31),(.t 32),(.t 33)] 0,
mt 30 34,
oq 35 (.extract (.t 30) 0),
oq 36 (.extract (.t 30) 1),
mt 9 35,
mt 10 36])
(.seq (.reg [oq 38 (.ld true 3 (.t 3)),
mt 39 1,
mt 40 2,
oc 41 43 [(.t 38),(.t 39),(.t 40)] 0,
mt 37 41,
oq 42 (.extract (.t 37) 0),
oq 43 (.extract (.t 37) 1),
mt 11 42,
mt 12 43])
(.seq (.reg [oq 45 (.ld true 3 (.t 7)),
mt 46 8,
mt 47 2,
oc 48 44 [(.t 45),(.t 46),(.t 47)] 0,
mt 44 48,
oq 49 (.extract (.t 44) 0),
oq 50 (.extract (.t 44) 1),
mt 13 49,
mt 14 50])
(.seq (.reg [oq 52 (.ld true 3 (.t 3)),
mt 53 1,
mt 54 2,
oc 55 45 [(.t 52),(.t 53),(.t 54)] 0,
mt 51 55,
oq 56 (.extract (.t 51) 0),
oq 57 (.extract (.t 51) 1),
mt 15 56,
mt 16 57])
(.seq (.reg [mt 58 9,
mt 59 11,
oc 60 19 [(.t 58),(.t 59)] 0,
mt 61 60,
og 62 61 true 0 (.mv (.t 10)),
og 63 61 true 0 (.mv (.t 12)),
og 64 61 true 0 (bi .eql (.t 62) (.t 63)),
oq 65 (.pick (.t 61) (.t 64) (.c (.bool false))),
mt 66 65,
og 67 66 true 0 (.mv (.t 13)),
og 68 66 true 0 (.mv (.t 15)),
⟨(some 69),(.x (.call (.c (.fn 19 [] [])) [(.t 67),(.t 68)])),(some (66,true)),0⟩,
oq 70 (.pick (.t 66) (.t 69) (.c (.bool false))),
mt 71 70,
og 72 71 true 0 (.mv (.t 14)),
og 73 71 true 0 (.mv (.t 16)),
og 74 71 true 0 (bi .eql (.t 72) (.t 73)),
oq 75 (.pick (.t 71) (.t 74) (.c (.bool false))),
mt 76 75,
og 77 76 true 0 (.ld true 3 (.t 7)),
og 78 76 true 0 (.ld true 3 (.t 3)),
⟨(some 79),(.x (.call (.c (.fn 46 [] [])) [(.t 77),(.t 78)])),(some (76,true)),0⟩,
oq 80 (.pick (.t 76) (.t 79) (.c (.bool false))),
mt 81 80,
og 82 81 true 0 (.mv (.t 8)),
og 83 81 true 0 (.mv (.t 1)),
⟨(some 84),(.x (.call (.c (.fn 19 [] [])) [(.t 82),(.t 83)])),(some (81,true)),0⟩,
oq 85 (.pick (.t 81) (.t 84) (.c (.bool false))),
mt 86 85,
⟨(some 87),(.x (.call (.c (.fn 32 [] [])) [])),(some (86,true)),0⟩,
oq 88 (.pick (.t 86) (.t 87) (.c (.bool false))),
mt 6 88])
.ret))))))))⟩
theorem row9 : Row Go.Proofs.Try.prog (9, a9) := ⟨Go.Proofs.Try.f9, Go.Proofs.Try.func9, by kernel_rfl⟩
noncomputable def a19 : AFn :=
⟨26,[(.t 4)],(.seq (.reg [oq 4 (.mv (.c (.bool false)))])
(.seq (.seq (.reg [mt 6 0,
oq 7 (.lenSl (.t 6)),
mt 8 1,
oq 9 (.lenSl (.t 8)),
oq 10 (bi .neq (.t 7) (.t 9))])
(.cond (.t 10) (.seq (.reg [oq 4 (.mv (.c (.bool false)))])
.ret) .skip))
(.seq (.seq (.reg [oq 5 (.mv (ci 0))])
(.block 0 (.loop (.seq (.seq (.reg [mt 11 5,
mt 12 0,
oq 13 (.lenSl (.t 12)),
oq 14 (bi .lss (.t 11) (.t 13))])
(.cond (.t 14) .skip (.exit 0)))
(.seq (.block 1 (.seq (.drw [mt 17 0,
mt 18 5,
om 19 3 (.iaddr (.slice 1) (.t 17) (.t 18)),
om 20 7 (ld 19),
mt 21 1,
mt 22 5,
om 23 48 (.iaddr (.slice 1) (.t 21) (.t 22)),
om 24 112 (ld 23),
om 25 255 (bi .neq (.t 20) (.t 24))])
(.cond (.t 25) (.seq (.reg [oq 4 (.mv (.c (.bool false)))])
.ret) .skip)))
(.reg [mt 15 5,
oq 16 (bi .add (.t 15) (ci 1)),
mt 5 16]))))))
(.seq (.reg [oq 4 (.mv (.c (.bool true)))])
.ret))))⟩
theorem row19 : Row Go.Proofs.Try.prog (19, a19) := ⟨Go.Proofs.Try.f19, Go.Proofs.Try.func19, by kernel_rfl⟩
noncomputable def a31 : AFn :=
⟨19,[(.t 2)],(.seq (.reg [⟨(some 1),(.a (.box 28 (.t 0))),none,0⟩,
oq 2 (.mv (.c (.bool false)))])
(.seq (.reg [oq 3 (.faddr 1 (.t 1)),
oq 4 (ld 3),
oq 5 (.lenSl (.t 4)),
oq 6 (bi .gtr (.t 5) (ci 60)),
mt 7 6,
og 8 7 true 0 (.faddr 1 (.t 1)),
og 9 7 true 0 (ld 8),
og 10 7 true 0 (.lenSl (.t 9)),
og 11 7 true 0 (bi .leq (.t 10) (ci 2000)),
oq 12 (.pick (.t 7) (.t 11) (.c (.bool false))),
mt 13 12,
og 14 13 false 0 (.faddr 1 (.t 1)),
og 15 13 false 0 (ld 14),
og 16 13 false 0 (.lenSl (.t 15)),
og 17 13 false 0 (bi .gtr (.t 16) (ci 2010)),
oq 18 (.pick (.t 13) (.c (.bool true)) (.t 17)),
mt 2 18])
.ret))⟩
theorem row31 : Row Go.Proofs.Try.prog (31, a31) := ⟨Go.Proofs.Try.f31, Go.Proofs.Try.func31, by kernel_rfl⟩
noncomputable def a39 : AFn :=
⟨24,[(.t 2),(.t 3)],(.seq (.reg [⟨(some 1),(.a (.box 28 (.t 0))),none,0⟩,
oq 2 (.mv (ci 0)),
oq 3 (.mv (ci 0))])
(.seq (.seq (.reg [oq 6 (.ld true 3 (.t 1)),
oc 7 87 [(.t 6)] 0,
mt 4 7])
(.seq (.reg [mt 8 4,
oq 9 (bi .neq (.t 8) (ci 0))])
(.cond (.t 9) (.seq (.reg [mt 10 4,
oq 2 (.mv (ci 0)),
mt 3 10])
.ret) .skip)))
(.seq (.reg [oq 11 (.ld true 3 (.t 1)),
oq 12 (.build [(.int .i64 (.ofNat 0)),.nilsl,.nilsl,(.int .i64 (.ofNat 0)),(.bool false)] [(0,3,(.t 11)),(3,1,(ci 1))]),
⟨(some 13),(.a (.box 135 (.t 12))),none,0⟩,
mt 5 13])
(.seq (.seq (.reg [mt 14 5,
oc 15 88 [(.t 14),(ci 0),(ci 1)] 0])
(.seq (.reg [mt 16 5,
oq 17 (.nilchk (.t 16)),
oq 18 (.faddr 4 (.t 17)),
oq 19 (ld 18)])
(.cond (.t 19) (.seq (.reg [oq 2 (.mv (ci 0)),
oq 3 (.mv (ci 5))])
.ret) .skip)))
(.seq (.reg [mt 20 5,
oq 21 (.nilchk (.t 20)),
oq 22 (.faddr 3 (.t 21)),
oq 23 (ld 22),
mt 2 23,
oq 3 (.mv (ci 0))])
.ret)))))⟩
theorem row39 : Row Go.Proofs.Try.prog (39, a39) := ⟨Go.Proofs.Try.f39, Go.Proofs.Try.func39, by kernel_rfl⟩
noncomputable def a41 : AFn :=
⟨47,[(.cell 2 true 3)],(.seq (.reg [⟨(some 1),(.a (.box 28 (.t 0))),none,0⟩,
⟨(some 2),(.a (.alloc 28 [(.int .i64 (.ofNat 0)),.nilsl,.nilsl])),none,0⟩])
(.seq (.drw [oq 6 (.faddr 0 (.t 1)),
om 7 1 (ld 6),
⟨(some 8),(.a (.bslice 48 2 0 [(.int .i64 (.ofNat 0)),(.int .i64 (.ofNat 0))] [])),none,0⟩,
oq 9 (.faddr 2 (.t 1)),
om 10 8 (ld 9),
⟨(some 11),(.x (.app 48 2 16 (.t 8) (.t 10))),none,28⟩,
om 12 63 (.build [(.int .i64 (.ofNat 0)),.nilsl,.nilsl] [(0,1,(.t 7)),(2,1,(.t 11))]),
⟨(some 3),(.a (.alloc 28 [(.int .i64 (.ofNat 0)),.nilsl,.nilsl])),none,0⟩,
⟨none,(.x (.st 3 (.t 3) (.t 12))),none,255⟩])
(.seq (.seq (.reg [oq 4 (.mv (ci 0))])
(.block 0 (.loop (.seq (.seq (.reg [mt 13 4,
oq 14 (.faddr 1 (.t 1)),
oq 15 (ld 14),
oq 16 (.lenSl (.t 15)),
oq 17 (bi .lss (.t 13) (.t 16))])
(.cond (.t 17) .skip (.exit 0)))
(.seq (.block 1 (.seq (.reg [oq 20 (.faddr 1 (.t 1)),
oq 21 (ld 20),
mt 22 4,
oq 23 (.iaddr (.slice 6) (.t 21) (.t 22)),
oq 24 (.ld true 6 (.t 23)),
⟨(some 5),(.a (.alloc 64 [(.int .i64 (.ofNat 0)),(.int .i64 (.ofNat 0)),(.int .i64 (.ofNat 0)),.nilsl,.nilsl,.nilsl])),none,0⟩,
⟨none,(.x (.st 6 (.t 5) (.t 24))),none,0⟩])
(.seq (.drw [⟨(some 25),(.a (.bslice 3 1 0 [(.int .i64 (.ofNat 0))] [])),none,0⟩,
oq 26 (.faddr 3 (.t 5)),
om 27 2 (ld 26),
⟨(some 28),(.x (.app 3 1 8 (.t 25) (.t 27))),none,7⟩,
⟨(some 29),(.a (.bslice 3 1 0 [(.int .i64 (.ofNat 0))] [])),none,0⟩,
oq 30 (.faddr 4 (.t 5)),
om 31 32 (ld 30),
⟨(some 32),(.x (.app 3 1 8 (.t 29) (.t 31))),none,127⟩,
⟨(some 33),(.a (.bslice 3 1 0 [(.int .i64 (.ofNat 0))] [])),none,0⟩,
oq 34 (.faddr 5 (.t 5)),
om 35 512 (ld 34),
⟨(some 36),(.x (.app 3 1 8 (.t 33) (.t 35))),none,2047⟩,
om 37 1647 (.faddr 3 (.t 5)),
⟨none,(.x (.st 1 (.t 37) (.t 28))),none,8191⟩,
om 38 16383 (.faddr 4 (.t 5)),
⟨none,(.x (.st 1 (.t 38) (.t 32))),none,32767⟩,
om 39 65535 (.faddr 5 (.t 5)),
⟨none,(.x (.st 1 (.t 39) (.t 36))),none,131071⟩])
(.reg [oq 40 (.faddr 1 (.t 3)),
oq 41 (ld 40),
oq 42 (.ld true 6 (.t 5)),
⟨(some 43),(.a (.bslice 64 6 1 [(.int .i64 (.ofNat 0)),(.int .i64 (.ofNat 0)),(.int .i64 (.ofNat 0)),.nilsl,.nilsl,.nilsl] [(0,(.t 42))])),none,0⟩,
⟨(some 44),(.x (.app 64 6 96 (.t 41) (.t 43))),none,0⟩,
oq 45 (.faddr 1 (.t 3)),
⟨none,(.x (.st 1 (.t 45) (.t 44))),none,0⟩]))))
(.reg [mt 18 4,
oq 19 (bi .add (.t 18) (ci 1)),
mt 4 19]))))))
(.seq (.reg [oq 46 (.ld true 3 (.t 3)),
⟨none,(.x (.st 3 (.t 2) (.t 46))),none,0⟩])
.ret))))⟩
theorem row41 : Row Go.Proofs.Try.prog (41, a41) := ⟨Go.Proofs.Try.f41, Go.Proofs.Try.func41, by kernel_rfl⟩
noncomputable def a42 : AFn :=
⟨31,[(.t 6),(.t 7)],(.seq (.reg [⟨(some 3),(.a (.box 28 (.t 0))),none,0⟩,
oq 6 (.mv (.c .nilsl)),
oq 7 (.mv (ci 0))])
(.seq (.reg [oq 11 (.ld true 3 (.t 3)),
mt 12 1,
oc 13 89 [(.t 11),(.t 12)] 0,
mt 10 13,
oq 14 (.extract (.t 10) 0),
oq 15 (.extract (.t 10) 1),
mt 8 14,
mt 9 15])
(.seq (.seq (.reg [mt 16 9,
oq 17 (bi .neq (.t 16) (ci 0))])
(.cond (.t 17) (.seq (.reg [mt 18 9,
oq 6 (.mv (.c .nilsl)),
mt 7 18])
.ret) .skip))
(.seq (.seq (.reg [mt 19 2,
oq 20 (bi .lss (.t 19) (ci 0)),
mt 21 20,
og 22 21 false 0 (.mv (.t 2)),
og 23 21 false 0 (.mv (.t 8)),
og 24 21 false 0 (bi .geq (.t 22) (.t 23)),
oq 25 (.pick (.t 21) (.c (.bool true)) (.t 24))])
(.cond (.t 25) (.seq (.reg [oq 6 (.mv (.c .nilsl)),
oq 7 (.mv (ci 2))])
.ret) .skip))
(.seq (.reg [oq 26 (.ld true 3 (.t 3)),
mt 27 1,
oq 28 (.mkIface 139 (.t 27)),
mt 29 2,
oc 30 84 [(.t 26),(.t 28),(.t 29)] 0,
mt 6 30,
oq 7 (.mv (ci 0))])
.ret)))))⟩
theorem row42 : Row Go.Proofs.Try.prog (42, a42) := ⟨Go.Proofs.Try.f42, Go.Proofs.Try.func42, by kernel_rfl⟩
noncomputable def a43 : AFn :=
⟨76,[(.t 6),(.t 7)],(.seq (.reg [⟨(some 3),(.a (.box 28 (.t 0))),none,0⟩,
oq 6 (.mv (.c .nilsl)),
oq 7 (.mv (ci 0))])
(.seq (.reg [oq 15 (.ld true 3 (.t 3)),
mt 16 1,
oc 17 91 [(.t 15),(.t 16)] 0,
mt 14 17,
oq 18 (.extract (.t 14) 0),
oq 19 (.extract (.t 14) 1),
mt 8 18,
mt 9 19])
(.seq (.seq (.reg [mt 20 9,
oq 21 (bi .neq (.t 20) (ci 0))])
(.cond (.t 21) (.seq (.reg [mt 22 9,
oq 6 (.mv (.c .nilsl)),
mt 7 22])
.ret) .skip))
(.seq (.seq (.reg [mt 23 2,
oq 24 (bi .lss (.t 23) (ci 0)),
mt 25 24,
og 26 25 false 0 (.mv (.t 2)),
og 27 25 false 0 (.mv (.t 8)),
og 28 25 false 0 (bi .geq (.t 26) (.t 27)),
oq 29 (.pick (.t 25) (.c (.bool true)) (.t 28))])
(.cond (.t 29) (.seq (.reg [oq 6 (.mv (.c .nilsl)),
oq 7 (.mv (ci 2))])
.ret) .skip))
(.seq (.reg [oq 10 (.mv (ci 0))])
(.seq (.reg [⟨(some 30),(.a (.bslice 3 1 1 [(.int .i64 (.ofNat 0))] [(0,(ci 0))])),none,0⟩,
mt 11 30])
(.seq (.block 0 (.loop (.seq (.seq (.reg [oq 31 (.faddr 1 (.t 3)),
oq 32 (ld 31),
mt 33 10,
oq 34 (.iaddr (.slice 6) (.t 32) (.t 33)),
oq 35 (.faddr 0 (.t 34)),
oq 36 (ld 35),
oq 37 (bi .neq (.t 36) (ci 3))])
(.cond (.t 37) .skip (.exit 0)))
(.block 1 (.seq (.reg [oq 38 (.faddr 1 (.t 3)),
oq 39 (ld 38),
mt 40 10,
oq 41 (.iaddr (.slice 6) (.t 39) (.t 40)),
oq 42 (.ld true 6 (.t 41)),
⟨(some 12),(.a (.alloc 64 [(.int .i64 (.ofNat 0)),(.int .i64 (.ofNat 0)),(.int .i64 (.ofNat 0)),.nilsl,.nilsl,.nilsl])),none,0⟩,
⟨none,(.x (.st 6 (.t 12) (.t 42))),none,0⟩])
(.seq (.seq (.reg [oq 43 (.faddr 0 (.t 12)),
oq 44 (ld 43),
oq 45 (bi .eql (.t 44) (ci 2))])
(.cond (.t 45) (.drw [oq 46 (.faddr 3 (.t 12)),
om 47 1 (ld 46),
mt 48 1,
oq 49 (.faddr 2 (.t 12)),
om 50 8 (ld 49),
om 51 28 (.iaddr (.slice 1) (.t 48) (.t 50)),
om 52 60 (ld 51),
om 53 127 (.iaddr (.slice 1) (.t 47) (.t 52)),
om 54 255 (ld 53),
om 10 511 (.mv (.t 54))]) (.seq (.reg [oq 55 (.faddr 4 (.t 12)),
oq 56 (ld 55),
oc 57 82 [(.t 56)] 0,
mt 13 57])
(.seq (.drw [oq 58 (.faddr 3 (.t 12)),
om 59 1 (ld 58),
oq 60 (.faddr 4 (.t 12)),
om 61 4 (ld 60),
mt 62 2,
mt 63 13,
om 64 48 (bi .rem (.t 62) (.t 63)),
oc 65 85 [(.t 61),(.t 64)] 124,
om 66 255 (.iaddr (.slice 1) (.t 59) (.t 65)),
om 67 511 (ld 66),
om 10 1023 (.mv (.t 67))])
(.reg [mt 68 2,
mt 69 13,
oq 70 (bi .quo (.t 68) (.t 69)),
mt 2 70])))))
(.reg [mt 71 11,
mt 72 10,
⟨(some 73),(.a (.bslice 3 1 1 [(.int .i64 (.ofNat 0))] [(0,(.t 72))])),none,0⟩,
⟨(some 74),(.x (.app 3 1 8 (.t 71) (.t 73))),none,0⟩,
mt 11 74])))))))
(.seq (.reg [mt 75 11,
mt 6 75,
oq 7 (.mv (ci 0))])
.ret))))))))⟩
theorem row43 : Row Go.Proofs.Try.prog (43, a43) := ⟨Go.Proofs.Try.f43, Go.Proofs.Try.func43, by kernel_rfl⟩
noncomputable def a44 : AFn :=
⟨32,[(.t 6),(.t 7)],(.seq (.reg [⟨(some 3),(.a (.box 28 (.t 0))),none,0⟩,
oq 6 (.mv (.c .nilsl)),
oq 7 (.mv (ci 0))])
(.seq (.reg [oq 11 (.ld true 3 (.t 3)),
mt 12 1,
mt 13 2,
oc 14 42 [(.t 11),(.t 12),(.t 13)] 0,
mt 10 14,
oq 15 (.extract (.t 10) 0),
oq 16 (.extract (.t 10) 1),
mt 8 15,
mt 9 16])
(.seq (.seq (.reg [mt 17 9,
oq 18 (bi .neq (.t 17) (ci 0))])
(.cond (.t 18) (.seq (.reg [mt 19 9,
oq 6 (.mv (.c .nilsl)),
mt 7 19])
.ret) .skip))
(.seq (.drw [oq 20 (.faddr 1 (.t 3)),
om 21 1 (ld 20),
mt 22 8,
mt 23 8,
om 24 8 (.lenSl (.t 23)),
om 25 24 (bi .sub (.t 24) (ci 1)),
om 26 60 (.iaddr (.slice 1) (.t 22) (.t 25)),
om 27 124 (ld 26),
om 28 255 (.iaddr (.slice 6) (.t 21) (.t 27)),
om 29 511 (.faddr 5 (.t 28)),
om 30 1023 (ld 29),
oc 31 92 [(.t 30)] 2047,
om 6 4095 (.mv (.t 31)),
om 7 8191 (.mv (ci 0))])
.ret))))⟩
theorem row44 : Row Go.Proofs.Try.prog (44, a44) := ⟨Go.Proofs.Try.f44, Go.Proofs.Try.func44, by kernel_rfl⟩
noncomputable def a45 : AFn :=
⟨33,[(.t 6),(.t 7)],(.seq (.reg [⟨(some 3),(.a (.box 28 (.t 0))),none,0⟩,
oq 6 (.mv (.c .nilsl)),
oq 7 (.mv (ci 0))])
(.seq (.reg [oq 11 (.ld true 3 (.t 3)),
mt 12 1,
mt 13 2,
oc 14 43 [(.t 11),(.t 12),(.t 13)] 0,
mt 10 14,
oq 15 (.extract (.t 10) 0),
oq 16 (.extract (.t 10) 1),
mt 8 15,
mt 9 16])
(.seq (.seq (.reg [mt 17 9,
oq 18 (bi .neq (.t 17) (ci 0))])
(.cond (.t 18) (.seq (.reg [mt 19 9,
oq 6 (.mv (.c .nilsl)),
mt 7 19])
.ret) .skip))
(.seq (.drw [⟨(some 20),(.a (.bslice 3 1 0 [(.int .i64 (.ofNat 0))] [])),none,0⟩,
oq 21 (.faddr 1 (.t 3)),
om 22 2 (ld 21),
mt 23 8,
mt 24 8,
om 25 16 (.lenSl (.t 24)),
om 26 48 (bi .sub (.t 25) (ci 1)),
om 27 120 (.iaddr (.slice 1) (.t 23) (.t 26)),
om 28 248 (ld 27),
om 29 510 (.iaddr (.slice 6) (.t 22) (.t 28)),
om 30 1022 (.faddr 5 (.t 29)),
om 31 2046 (ld 30),
⟨(some 32),(.x (.app 3 1 8 (.t 20) (.t 31))),none,4095⟩,
om 6 8191 (.mv (.t 32)),
om 7 16383 (.mv (ci 0))])
.ret))))⟩
theorem row45 : Row Go.Proofs.Try.prog (45, a45) := ⟨Go.Proofs.Try.f45, Go.Proofs.Try.func45, by kernel_rfl⟩
noncomputable def a46 : AFn :=
⟨47,[(.t 4)],(.seq (.reg [⟨(some 2),(.a (.box 28 (.t 0))),none,0⟩,
⟨(some 3),(.a (.box 28 (.t 1))),none,0⟩,
oq 4 (.mv (.c (.bool false)))])
(.seq (.seq (.reg [oq 6 (.faddr 0 (.t 2)),
oq 7 (ld 6),
oq 8 (.faddr 0 (.t 3)),
oq 9 (ld 8),
oq 10 (bi .neq (.t 7) (.t 9)),
mt 11 10,
og 12 11 false 0 (.faddr 1 (.t 2)),
og 13 11 false 0 (ld 12),
og 14 11 false 0 (.lenSl (.t 13)),
og 15 11 false 0 (.faddr 1 (.t 3)),
og 16 11 false 0 (ld 15),
og 17 11 false 0 (.lenSl (.t 16)),
og 18 11 false 0 (bi .neq (.t 14) (.t 17)),
oq 19 (.pick (.t 11) (.c (.bool true)) (.t 18)),
mt 20 19,
og 21 20 false 0 (.faddr 2 (.t 2)),
og 22 20 false 0 (ld 21),
og 23 20 false 0 (.faddr 2 (.t 3)),
og 24 20 false 0 (ld 23),
⟨(some 25),(.x (.call (.c (.fn 93 [] [])) [(.t 22),(.t 24)])),(some (20,false)),0⟩,
og 26 20 false 0 (.un .not (.t 25)),
oq 27 (.pick (.t 20) (.c (.bool true)) (.t 26))])
(.cond (.t 27) (.seq (.reg [oq 4 (.mv (.c (.bool false)))])
.ret) .skip))
(.seq (.seq (.reg [oq 5 (.mv (ci 0))])
(.block 0 (.loop (.seq (.seq (.reg [mt 28 5,
oq 29 (.faddr 1 (.t 2)),
oq 30 (ld 29),
oq 31 (.lenSl (.t 30)),
oq 32 (bi .lss (.t 28) (.t 31))])
(.cond (.t 32) .skip (.exit 0)))
(.seq (.block 1 (.seq (.drw [oq 35 (.faddr 1 (.t 2)),
om 36 1 (ld 35),
mt 37 5,
om 38 7 (.iaddr (.slice 6) (.t 36) (.t 37)),
om 39 15 (.ld true 6 (.t 38)),
oq 40 (.faddr 1 (.t 3)),
om 41 32 (ld 40),
mt 42 5,
om 43 224 (.iaddr (.slice 6) (.t 41) (.t 42)),
om 44 480 (.ld true 6 (.t 43)),
oc 45 94 [(.t 39),(.t 44)] 1023,
om 46 2047 (.un .not (.t 45))])
(.cond (.t 46) (.seq (.reg [oq 4 (.mv (.c (.bool false)))])
.ret) .skip)))
(.reg [mt 33 5,
oq 34 (bi .add (.t 33) (ci 1)),
mt 5 34]))))))
(.seq (.reg [oq 4 (.mv (.c (.bool true)))])
.ret))))⟩
theorem row46 : Row Go.Proofs.Try.prog (46, a46) := ⟨Go.Proofs.Try.f46, Go.Proofs.Try.func46, by kernel_rfl⟩
noncomputable def a53 : AFn :=
⟨136,[(.t 2)],(.seq (.reg [⟨(some 1),(.a (.box 28 (.t 0))),none,0⟩,
oq 2 (.mv (ci 0))])
(.seq (.seq (.reg [oq 11 (.faddr 0 (.t 1)),
oq 12 (ld 11),
oq 13 (bi .lss (.t 12) (ci 1)),
mt 14 13,
og 15 14 false 0 (.faddr 0 (.t 1)),
og 16 14 false 0 (ld 15),
og 17 14 false 0 (bi .gtr (.t 16) (ci 4)),
oq 18 (.pick (.t 14) (.c (.bool true)) (.t 17)),
mt 19 18,
og 20 19 false 0 (.faddr 1 (.t 1)),
og 21 19 false 0 (ld 20),
og 22 19 false 0 (.lenSl (.t 21)),
og 23 19 false 0 (bi .lss (.t 22) (ci 1)),
oq 24 (.pick (.t 19) (.c (.bool true)) (.t 23)),
mt 25 24,
og 26 25 false 0 (.faddr 1 (.t 1)),
og 27 25 false 0 (ld 26),
og 28 25 false 0 (.lenSl (.t 27)),
og 29 25 false 0 (bi .gtr (.t 28) (ci 2000)),
oq 30 (.pick (.t 25) (.c (.bool true)) (.t 29)),
mt 31 30,
og 32 31 false 0 (.faddr 2 (.t 1)),
og 33 31 false 0 (ld 32),
og 34 31 false 0 (.lenSl (.t 33)),
og 35 31 false 0 (bi .gtr (.t 34) (ci 200)),
oq 36 (.pick (.t 31) (.c (.bool true)) (.t 35))])
(.cond (.t 36) (.seq (.reg [oq 2 (.mv (ci 2))])
.ret) .skip))
(.seq (.seq (.reg [oq 3 (.mv (ci 0))])
(.block 0 (.loop (.seq (.seq (.reg [mt 37 3,
oq 38 (.faddr 1 (.t 1)),
oq 39 (ld 38),
oq 40 (.lenSl (.t 39)),
oq 41 (bi .lss (.t 37) (.t 40))])
(.cond (.t 41) .skip (.exit 0)))
(.seq (.block 1 (.seq (.drw [oq 44 (.ld true 3 (.t 1)),
oq 45 (.faddr 1 (.t 1)),
om 46 2 (ld 45),
mt 47 3,
om 48 14 (.iaddr (.slice 6) (.t 46) (.t 47)),
om 49 30 (.ld true 6 (.t 48)),
oc 50 102 [(.t 44),(.t 49)] 63,
om 4 127 (.mv (.t 50))])
(.seq (.reg [mt 51 4,
oq 52 (bi .neq (.t 51) (ci 0))])
(.cond (.t 52) (.seq (.reg [mt 53 4,
mt 2 53])
.ret) .skip))))
(.reg [mt 42 3,
oq 43 (bi .add (.t 42) (ci 1)),
mt 3 43]))))))
(.seq (.reg [⟨(some 5),(.a (.alloc 3 [(.int .i64 (.ofNat 0))])),none,0⟩,
⟨none,(.x (.st 1 (.t 5) (ci 0))),none,0⟩])
(.seq (.seq (.drw [oq 54 (.ld true 3 (.t 1)),
oc 55 103 [(.t 54),(ci 0),(ci 0),(.t 5)] 1,
oq 56 (.faddr 1 (.t 1)),
om 57 4 (ld 56),
om 58 12 (.lenSl (.t 57)),
om 59 31 (bi .neq (.t 55) (.t 58))])
(.cond (.t 59) (.seq (.reg [oq 2 (.mv (ci 9))])
.ret) .skip))
(.seq (.seq (.reg [oq 60 (ld 5),
oq 61 (bi .gtr (.t 60) (ci 40))])
(.cond (.t 61) (.seq (.reg [oq 2 (.mv (ci 5))])
.ret) .skip))
(.seq (.seq (.reg [oq 6 (.mv (ci 0))])
(.block 2 (.loop (.seq (.seq (.reg [mt 62 6,
oq 63 (.faddr 1 (.t 1)),
oq 64 (ld 63),
oq 65 (.lenSl (.t 64)),
oq 66 (bi .lss (.t 62) (.t 65))])
(.cond (.t 66) .skip (.exit 2)))
(.seq (.block 3 (.seq (.reg [oq 69 (.faddr 1 (.t 1)),
oq 70 (ld 69),
mt 71 6,
oq 72 (.iaddr (.slice 6) (.t 70) (.t 71)),
oq 73 (.ld true 6 (.t 72)),
⟨(some 7),(.a (.alloc 64 [(.int .i64 (.ofNat 0)),(.int .i64 (.ofNat 0)),(.int .i64 (.ofNat 0)),.nilsl,.nilsl,.nilsl])),none,0⟩,
⟨none,(.x (.st 6 (.t 7) (.t 73))),none,0⟩])
(.seq (.drw [oq 74 (.faddr 0 (.t 7)),
om 75 1 (ld 74),
om 76 3 (bi .eql (.t 75) (ci 2)),
om 77 7 (.mv (.t 76)),
og 78 77 true 15 (.faddr 2 (.t 1)),
og 79 77 true 31 (ld 78),
og 80 77 true 15 (.faddr 2 (.t 7)),
og 81 77 true 79 (ld 80),
og 82 77 true 255 (.iaddr (.slice 2) (.t 79) (.t 81)),
og 83 77 true 511 (.faddr 0 (.t 82)),
og 84 77 true 1023 (ld 83),
og 85 77 true 15 (.faddr 1 (.t 7)),
og 86 77 true 2063 (ld 85),
og 87 77 true 8191 (bi .neq (.t 84) (.t 86)),
og 88 77 true 16383 (.mv (.t 87)),
og 89 88 false 32767 (.faddr 2 (.t 1)),
og 90 88 false 65535 (ld 89),
og 91 88 false 32767 (.faddr 2 (.t 7)),
og 92 88 false 163839 (ld 91),
og 93 88 false 524287 (.iaddr (.slice 2) (.t 90) (.t 92)),
og 94 88 false 1048575 (.faddr 1 (.t 93)),
og 95 88 false 2097151 (ld 94),
og 96 88 false 32767 (.faddr 3 (.t 7)),
og 97 88 false 4227071 (ld 96),
og 98 88 false 12615679 (.lenSl (.t 97)),
og 99 88 false 33554431 (bi .neq (.t 95) (.t 98)),
og 100 77 true 67108863 (.pick (.t 88) (.c (.bool true)) (.t 99)),
om 101 134217727 (.pick (.t 77) (.t 100) (.c (.bool false)))])
(.cond (.t 101) (.seq (.reg [oq 2 (.mv (ci 10))])
.ret) .skip))))
(.reg [mt 67 6,
oq 68 (bi .add (.t 67) (ci 1)),
mt 6 68]))))))
(.seq (.reg [oq 102 (.ld true 3 (.t 1)),
oc 103 104 [(.t 102)] 0,
mt 8 103])
(.seq (.seq (.reg [oq 9 (.mv (ci 0))])
(.block 4 (.loop (.seq (.seq (.reg [mt 104 9,
mt 105 8,
oq 106 (.lenSl (.t 105)),
oq 107 (bi .lss (.t 104) (.t 106))])
(.cond (.t 107) .skip (.exit 4)))
(.seq (.block 5 (.seq (.reg [mt 110 8,
mt 111 9,
oq 112 (.iaddr (.slice 1) (.t 110) (.t 111)),
oq 113 (ld 112),
oq 114 (.lenSl (.t 113)),
oq 115 (bi .eql (.t 114) (ci 0))])
(.cond (.t 115) (.seq (.reg [oq 2 (.mv (ci 18))])
.ret) .skip)))
(.reg [mt 108 9,
oq 109 (bi .add (.t 108) (ci 1)),
mt 9 109]))))))
(.seq (.seq (.reg [oq 10 (.mv (ci 1))])
(.block 6 (.loop (.seq (.seq (.reg [mt 116 10,
mt 117 8,
oq 118 (.lenSl (.t 117)),
oq 119 (bi .lss (.t 116) (.t 118))])
(.cond (.t 119) .skip (.exit 6)))
(.seq (.block 7 (.seq (.drw [mt 122 8,
mt 123 10,
om 124 3 (.iaddr (.slice 1) (.t 122) (.t 123)),
om 125 7 (ld 124),
om 126 15 (.iaddr (.slice 1) (.t 125) (ci 0)),
om 127 31 (ld 126),
mt 128 8,
mt 129 10,
om 130 128 (bi .sub (.t 129) (ci 1)),
om 131 448 (.iaddr (.slice 1) (.t 128) (.t 130)),
om 132 960 (ld 131),
om 133 1984 (.iaddr (.slice 1) (.t 132) (ci 0)),
om 134 4032 (ld 133),
om 135 8191 (bi .lss (.t 127) (.t 134))])
(.cond (.t 135) (.seq (.reg [oq 2 (.mv (ci 9))])
.ret) .skip)))
(.reg [mt 120 10,
oq 121 (bi .add (.t 120) (ci 1)),
mt 10 121]))))))
(.seq (.reg [oq 2 (.mv (ci 0))])
.ret)))))))))))⟩
theorem row53 : Row Go.Proofs.Try.prog (53, a53) := ⟨Go.Proofs.Try.f53, Go.Proofs.Try.func53, by kernel_rfl⟩
end Go.Ev.Gl
