/- Functions of the program as data of the evaluator, written by program; each is shown to be the compiler's result on the loaded function. -/
import Derived.Test.YtoojnpjgnnpllaaProg
import Derived.Test.YtoojnpjgnnpllaaEv8
import Derived.KernelRfl
namespace Go.Ev.Gl
set_option maxRecDepth 100000
noncomputable def a6 : AFn :=
⟨117,[(.t 6)],(.seq (.reg [⟨(some 3),(.a (.box 28 (.t 0))),none,0⟩,
⟨(some 4),(.a (.box 55 (.t 1))),none,0⟩,
oq 6 (.mv (.c (.bool false)))])
(.seq (.seq (.reg [oq 17 (.ld true 3 (.t 3)),
oc 18 31 [(.t 17)] 0,
mt 19 18,
og 20 19 false 0 (.faddr 1 (.t 4)),
og 21 19 false 0 (ld 20),
og 22 19 false 0 (.lenSl (.t 21)),
og 23 19 false 0 (bi .gtr (.t 22) (ci 300)),
oq 24 (.pick (.t 19) (.c (.bool true)) (.t 23))])
(.cond (.t 24) (.seq (.reg [oc 25 32 [] 0,
mt 6 25])
.ret) .skip))
(.seq (.reg [oq 26 (.faddr 0 (.t 4)),
oq 27 (ld 26),
oq 28 (.build [(.int .i64 (.ofNat 0)),.nilsl] [(0,1,(.t 27))]),
⟨(some 7),(.a (.alloc 55 [(.int .i64 (.ofNat 0)),.nilsl])),none,0⟩,
⟨none,(.x (.st 2 (.t 7) (.t 28))),none,0⟩])
(.seq (.seq (.reg [oq 8 (.mv (ci 0))])
(.block 0 (.loop (.seq (.seq (.reg [mt 29 8,
oq 30 (.faddr 1 (.t 4)),
oq 31 (ld 30),
oq 32 (.lenSl (.t 31)),
oq 33 (bi .lss (.t 29) (.t 32))])
(.cond (.t 33) .skip (.exit 0)))
(.seq (.block 1 (.seq (.seq (.reg [oq 36 (.faddr 1 (.t 4)),
oq 37 (ld 36),
mt 38 8,
oq 39 (.iaddr (.slice 1) (.t 37) (.t 38)),
oq 40 (ld 39),
oq 41 (.lenSl (.t 40)),
oq 42 (bi .gtr (.t 41) (ci 20))])
(.cond (.t 42) (.seq (.reg [oc 43 32 [] 0,
mt 6 43])
.ret) .skip))
(.drw [oq 44 (.faddr 1 (.t 7)),
om 45 1 (ld 44),
⟨(some 46),(.a (.bslice 3 1 0 [(.int .i64 (.ofNat 0))] [])),none,0⟩,
oq 47 (.faddr 1 (.t 4)),
om 48 8 (ld 47),
mt 49 8,
om 50 56 (.iaddr (.slice 1) (.t 48) (.t 49)),
om 51 120 (ld 50),
⟨(some 52),(.x (.app 3 1 8 (.t 46) (.t 51))),none,252⟩,
⟨(some 53),(.a (.bslice 22 1 1 [.nilsl] [(0,(.t 52))])),none,508⟩,
⟨(some 54),(.x (.app 22 1 24 (.t 45) (.t 53))),none,1023⟩,
om 55 2047 (.faddr 1 (.t 7)),
⟨none,(.x (.st 1 (.t 55) (.t 54))),none,4095⟩])))
(.reg [mt 34 8,
oq 35 (bi .add (.t 34) (ci 1)),
mt 8 35]))))))
(.seq (.reg [oq 57 (.ld true 3 (.t 3)),
oq 58 (.ld true 2 (.t 7)),
oc 59 33 [(.t 57),(.t 58)] 0,
mt 56 59,
oq 60 (.extract (.t 56) 0),
oq 61 (.extract (.t 56) 1),
mt 9 60,
mt 10 61])
(.seq (.reg [oq 63 (.ld true 3 (.t 3)),
oq 64 (.ld true 2 (.t 4)),
oc 65 34 [(.t 63),(.t 64)] 0,
mt 62 65,
oq 66 (.extract (.t 62) 0),
oq 67 (.extract (.t 62) 1),
mt 11 66,
mt 12 67])
(.seq (.reg [oq 69 (.ld true 3 (.t 3)),
oq 70 (.ld true 2 (.t 7)),
mt 71 2,
oc 72 35 [(.t 69),(.t 70),(.t 71)] 0,
mt 68 72,
oq 73 (.extract (.t 68) 0),
oq 74 (.extract (.t 68) 1),
mt 13 73,
mt 14 74])
(.seq (.reg [oq 76 (.ld true 3 (.t 3)),
oq 77 (.ld true 2 (.t 4)),
mt 78 2,
oc 79 36 [(.t 76),(.t 77),(.t 78)] 0,
mt 75 79,
oq 80 (.extract (.t 75) 0),
oq 81 (.extract (.t 75) 1),
mt 15 80,
mt 16 81])
(.seq (.reg [mt 82 9,
mt 83 11,
oq 84 (bi .eql (.t 82) (.t 83)),
mt 85 84,
og 86 85 true 0 (.mv (.t 10)),
og 87 85 true 0 (.mv (.t 12)),
og 88 85 true 0 (bi .eql (.t 86) (.t 87)),
oq 89 (.pick (.t 85) (.t 88) (.c (.bool false))),
mt 90 89,
og 91 90 true 0 (.mv (.t 13)),
og 92 90 true 0 (.mv (.t 15)),
⟨(some 93),(.x (.call (.c (.fn 19 [] [])) [(.t 91),(.t 92)])),(some (90,true)),0⟩,
oq 94 (.pick (.t 90) (.t 93) (.c (.bool false))),
mt 95 94,
og 96 95 true 0 (.mv (.t 14)),
og 97 95 true 0 (.mv (.t 16)),
og 98 95 true 0 (bi .eql (.t 96) (.t 97)),
oq 99 (.pick (.t 95) (.t 98) (.c (.bool false))),
mt 100 99,
og 101 100 true 0 (.faddr 0 (.t 7)),
og 102 100 true 0 (ld 101),
og 103 100 true 0 (.faddr 0 (.t 4)),
og 104 100 true 0 (ld 103),
og 105 100 true 0 (bi .eql (.t 102) (.t 104)),
oq 106 (.pick (.t 100) (.t 105) (.c (.bool false))),
mt 107 106,
og 108 107 true 0 (.faddr 1 (.t 7)),
og 109 107 true 0 (ld 108),
og 110 107 true 0 (.faddr 1 (.t 4)),
og 111 107 true 0 (ld 110),
⟨(some 112),(.x (.call (.c (.fn 30 [] [])) [(.t 109),(.t 111)])),(some (107,true)),0⟩,
oq 113 (.pick (.t 107) (.t 112) (.c (.bool false))),
mt 114 113,
⟨(some 115),(.x (.call (.c (.fn 32 [] [])) [])),(some (114,true)),0⟩,
oq 116 (.pick (.t 114) (.t 115) (.c (.bool false))),
mt 6 116])
.ret)))))))))⟩
theorem row6 : Row Go.Proofs.Try.prog (6, a6) := ⟨Go.Proofs.Try.f6, Go.Proofs.Try.func6, by kernel_rfl⟩
noncomputable def a19 : AFn :=
⟨26,[(.t 4)],(.seq (.reg [oq 4 (.mv (.c (.bool false)))])
(.seq (.seq (.reg [mt 6 0,
oq 7 (.lenSl (.t 6)),
mt 8 1,
oq 9 (.lenSl (.t 8)),
oq 10 (bi .neq (.t 7) (.t 9))])
(.cond (.t 10) (.seq (.reg [oq 4 (.mv (.c (.bool false)))])
.ret) .skip))
(.seq (.seq (.reg [oq 5 (.mv (ci 0))])
(.block 0 (.loop (.seq (.seq (.reg [mt 11 5,
mt 12 0,
oq 13 (.lenSl (.t 12)),
oq 14 (bi .lss (.t 11) (.t 13))])
(.cond (.t 14) .skip (.exit 0)))
(.seq (.block 1 (.seq (.drw [mt 17 0,
mt 18 5,
om 19 3 (.iaddr (.slice 1) (.t 17) (.t 18)),
om 20 7 (ld 19),
mt 21 1,
mt 22 5,
om 23 48 (.iaddr (.slice 1) (.t 21) (.t 22)),
om 24 112 (ld 23),
om 25 255 (bi .neq (.t 20) (.t 24))])
(.cond (.t 25) (.seq (.reg [oq 4 (.mv (.c (.bool false)))])
.ret) .skip)))
(.reg [mt 15 5,
oq 16 (bi .add (.t 15) (ci 1)),
mt 5 16]))))))
(.seq (.reg [oq 4 (.mv (.c (.bool true)))])
.ret))))⟩
theorem row19 : Row Go.Proofs.Try.prog (19, a19) := ⟨Go.Proofs.Try.f19, Go.Proofs.Try.func19, by kernel_rfl⟩
noncomputable def a30 : AFn :=
⟨27,[(.t 4)],(.seq (.reg [oq 4 (.mv (.c (.bool false)))])
(.seq (.seq (.reg [mt 6 0,
oq 7 (.lenSl (.t 6)),
mt 8 1,
oq 9 (.lenSl (.t 8)),
oq 10 (bi .neq (.t 7) (.t 9))])
(.cond (.t 10) (.seq (.reg [oq 4 (.mv (.c (.bool false)))])
.ret) .skip))
(.seq (.seq (.reg [oq 5 (.mv (ci 0))])
(.block 0 (.loop (.seq (.seq (.reg [mt 11 5,
mt 12 0,
oq 13 (.lenSl (.t 12)),
oq 14 (bi .lss (.t 11) (.t 13))])
(.cond (.t 14) .skip (.exit 0)))
(.seq (.block 1 (.seq (.drw [mt 17 0,
mt 18 5,
om 19 3 (.iaddr (.slice 1) (.t 17) (.t 18)),
om 20 7 (ld 19),
mt 21 1,
mt 22 5,
om 23 48 (.iaddr (.slice 1) (.t 21) (.t 22)),
om 24 112 (ld 23),
oc 25 19 [(.t 20),(.t 24)] 255,
om 26 511 (.un .not (.t 25))])
(.cond (.t 26) (.seq (.reg [oq 4 (.mv (.c (.bool false)))])
.ret) .skip)))
(.reg [mt 15 5,
oq 16 (bi .add (.t 15) (ci 1)),
mt 5 16]))))))
(.seq (.reg [oq 4 (.mv (.c (.bool true)))])
.ret))))⟩
theorem row30 : Row Go.Proofs.Try.prog (30, a30) := ⟨Go.Proofs.Try.f30, Go.Proofs.Try.func30, by kernel_rfl⟩
noncomputable def a31 : AFn :=
⟨19,[(.t 2)],(.seq (.reg [⟨(some 1),(.a (.box 28 (.t 0))),none,0⟩,
oq 2 (.mv (.c (.bool false)))])
(.seq (.reg [oq 3 (.faddr 1 (.t 1)),
oq 4 (ld 3),
oq 5 (.lenSl (.t 4)),
oq 6 (bi .gtr (.t 5) (ci 60)),
mt 7 6,
og 8 7 true 0 (.faddr 1 (.t 1)),
og 9 7 true 0 (ld 8),
og 10 7 true 0 (.lenSl (.t 9)),
og 11 7 true 0 (bi .leq (.t 10) (ci 2000)),
oq 12 (.pick (.t 7) (.t 11) (.c (.bool false))),
mt 13 12,
og 14 13 false 0 (.faddr 1 (.t 1)),
og 15 13 false 0 (ld 14),
og 16 13 false 0 (.lenSl (.t 15)),
og 17 13 false 0 (bi .gtr (.t 16) (ci 2010)),
oq 18 (.pick (.t 13) (.c (.bool true)) (.t 17)),
mt 2 18])
.ret))⟩
theorem row31 : Row Go.Proofs.Try.prog (31, a31) := ⟨Go.Proofs.Try.f31, Go.Proofs.Try.func31, by kernel_rfl⟩
noncomputable def a33 : AFn :=
⟨19,[(.t 4),(.t 5)],(.seq (.reg [⟨(some 2),(.a (.box 28 (.t 0))),none,0⟩,
⟨(some 3),(.a (.box 55 (.t 1))),none,0⟩,
oq 4 (.mv (ci 0)),
oq 5 (.mv (ci 0))])
(.seq (.seq (.reg [oq 7 (.ld true 3 (.t 2)),
oq 8 (.ld true 2 (.t 3)),
oc 9 79 [(.t 7),(.t 8)] 0,
mt 6 9])
(.seq (.reg [mt 10 6,
oq 11 (bi .neq (.t 10) (ci 0))])
(.cond (.t 11) (.seq (.reg [mt 12 6,
oq 4 (.mv (ci 0)),
mt 5 12])
.ret) .skip)))
(.seq (.reg [oq 13 (.ld true 3 (.t 2)),
oq 14 (.ld true 2 (.t 3)),
oq 15 (.mkIface 119 (.t 14)),
oc 16 80 [(.t 13),(.t 15)] 0,
oq 17 (.extract (.t 16) 0),
oq 18 (.extract (.t 16) 1),
mt 4 17,
mt 5 18])
.ret)))⟩
theorem row33 : Row Go.Proofs.Try.prog (33, a33) := ⟨Go.Proofs.Try.f33, Go.Proofs.Try.func33, by kernel_rfl⟩
noncomputable def a34 : AFn :=
⟨94,[(.t 4),(.t 5)],(.seq (.reg [⟨(some 2),(.a (.box 28 (.t 0))),none,0⟩,
⟨(some 3),(.a (.box 55 (.t 1))),none,0⟩,
oq 4 (.mv (ci 0)),
oq 5 (.mv (ci 0))])
(.seq (.seq (.reg [oq 15 (.ld true 3 (.t 2)),
oq 16 (.ld true 2 (.t 3)),
oc 17 81 [(.t 15),(.t 16)] 0,
mt 6 17])
(.seq (.reg [mt 18 6,
oq 19 (bi .neq (.t 18) (ci 0))])
(.cond (.t 19) (.seq (.reg [mt 20 6,
oq 4 (.mv (ci 0)),
mt 5 20])
.ret) .skip)))
(.seq (.reg [oq 21 (.faddr 1 (.t 2)),
oq 22 (ld 21),
oq 23 (.lenSl (.t 22)),
⟨(some 24),(.a (.mkSlice 3 1 8 [(.int .i64 (.ofNat 0))] (.t 23) (.t 23))),none,0⟩,
mt 7 24])
(.seq (.reg [mt 25 7,
oq 26 (.iaddr (.slice 1) (.t 25) (ci 0)),
⟨none,(.x (.st 1 (.t 26) (ci 1))),none,0⟩])
(.seq (.reg [oq 8 (.mv (ci 1))])
(.seq (.seq (.reg [oq 9 (.mv (ci 0))])
(.block 0 (.loop (.seq (.seq (.reg [mt 27 9,
oq 28 (.faddr 1 (.t 2)),
oq 29 (ld 28),
oq 30 (.lenSl (.t 29)),
oq 31 (bi .lss (.t 27) (.t 30))])
(.cond (.t 31) .skip (.exit 0)))
(.seq (.block 1 (.seq (.reg [oq 34 (.faddr 1 (.t 2)),
oq 35 (ld 34),
mt 36 9,
oq 37 (.iaddr (.slice 6) (.t 35) (.t 36)),
oq 38 (.ld true 6 (.t 37)),
⟨(some 10),(.a (.alloc 64 [(.int .i64 (.ofNat 0)),(.int .i64 (.ofNat 0)),(.int .i64 (.ofNat 0)),.nilsl,.nilsl,.nilsl])),none,0⟩,
⟨none,(.x (.st 6 (.t 10) (.t 38))),none,0⟩])
(.seq (.reg [oq 11 (.mv (ci 1))])
(.seq (.seq (.reg [oq 39 (.faddr 0 (.t 10)),
oq 40 (ld 39),
oq 41 (bi .eql (.t 40) (ci 1))])
(.cond (.t 41) (.reg [oq 42 (.faddr 4 (.t 10)),
oq 43 (ld 42),
oc 44 82 [(.t 43)] 0,
mt 11 44]) .skip))
(.seq (.seq (.reg [oq 45 (.faddr 0 (.t 10)),
oq 46 (ld 45),
oq 47 (bi .eql (.t 46) (ci 2))])
(.cond (.t 47) (.reg [oq 48 (.faddr 0 (.t 3)),
oq 49 (ld 48),
oq 50 (bi .shl (ci 1) (.t 49)),
mt 11 50]) .skip))
(.seq (.seq (.drw [mt 51 7,
mt 52 9,
om 53 3 (.iaddr (.slice 1) (.t 51) (.t 52)),
om 54 7 (ld 53),
mt 55 11,
om 56 16 (bi .quo (ci 1000000000000000) (.t 55)),
om 57 63 (bi .gtr (.t 54) (.t 56))])
(.cond (.t 57) (.seq (.reg [oq 4 (.mv (ci 0)),
oq 5 (.mv (ci 5))])
.ret) .skip))
(.seq (.seq (.reg [oq 12 (.mv (ci 0))])
(.block 2 (.loop (.seq (.seq (.reg [mt 58 12,
oq 59 (.faddr 3 (.t 10)),
oq 60 (ld 59),
oq 61 (.lenSl (.t 60)),
oq 62 (bi .lss (.t 58) (.t 61))])
(.cond (.t 62) .skip (.exit 2)))
(.seq (.block 3 (.drw [mt 65 7,
oq 66 (.faddr 3 (.t 10)),
om 67 2 (ld 66),
mt 68 12,
om 69 14 (.iaddr (.slice 1) (.t 67) (.t 68)),
om 70 30 (ld 69),
mt 71 7,
mt 72 9,
om 73 192 (.iaddr (.slice 1) (.t 71) (.t 72)),
om 74 448 (ld 73),
mt 75 11,
om 76 1984 (bi .mul (.t 74) (.t 75)),
om 77 4095 (.iaddr (.slice 1) (.t 65) (.t 70)),
⟨none,(.x (.st 1 (.t 77) (.t 76))),none,8191⟩]))
(.reg [mt 63 12,
oq 64 (bi .add (.t 63) (ci 1)),
mt 12 64]))))))
(.seq (.reg [oq 78 (.faddr 0 (.t 10)),
oq 79 (ld 78),
oq 80 (bi .eql (.t 79) (ci 3))])
(.cond (.t 80) (.seq (.reg [mt 82 8,
mt 83 7,
mt 84 9,
oq 85 (.iaddr (.slice 1) (.t 83) (.t 84)),
oq 86 (ld 85),
oc 87 83 [(.t 82),(.t 86)] 0,
mt 81 87,
oq 88 (.extract (.t 81) 0),
oq 89 (.extract (.t 81) 1),
mt 13 88,
mt 14 89])
(.seq (.seq (.reg [mt 90 14,
oq 91 (.un .not (.t 90))])
(.cond (.t 91) (.seq (.reg [oq 4 (.mv (ci 0)),
oq 5 (.mv (ci 5))])
.ret) .skip))
(.reg [mt 92 13,
mt 8 92]))) .skip)))))))))
(.reg [mt 32 9,
oq 33 (bi .add (.t 32) (ci 1)),
mt 9 33]))))))
(.seq (.reg [mt 93 8,
mt 4 93,
oq 5 (.mv (ci 0))])
.ret)))))))⟩
theorem row34 : Row Go.Proofs.Try.prog (34, a34) := ⟨Go.Proofs.Try.f34, Go.Proofs.Try.func34, by kernel_rfl⟩
noncomputable def a35 : AFn :=
⟨31,[(.t 6),(.t 7)],(.seq (.reg [⟨(some 3),(.a (.box 28 (.t 0))),none,0⟩,
⟨(some 4),(.a (.box 55 (.t 1))),none,0⟩,
oq 6 (.mv (.c .nilsl)),
oq 7 (.mv (ci 0))])
(.seq (.reg [oq 11 (.ld true 3 (.t 3)),
oq 12 (.ld true 2 (.t 4)),
oc 13 33 [(.t 11),(.t 12)] 0,
mt 10 13,
oq 14 (.extract (.t 10) 0),
oq 15 (.extract (.t 10) 1),
mt 8 14,
mt 9 15])
(.seq (.seq (.reg [mt 16 9,
oq 17 (bi .neq (.t 16) (ci 0))])
(.cond (.t 17) (.seq (.reg [mt 18 9,
oq 6 (.mv (.c .nilsl)),
mt 7 18])
.ret) .skip))
(.seq (.seq (.reg [mt 19 2,
oq 20 (bi .lss (.t 19) (ci 0)),
mt 21 20,
og 22 21 false 0 (.mv (.t 2)),
og 23 21 false 0 (.mv (.t 8)),
og 24 21 false 0 (bi .geq (.t 22) (.t 23)),
oq 25 (.pick (.t 21) (.c (.bool true)) (.t 24))])
(.cond (.t 25) (.seq (.reg [oq 6 (.mv (.c .nilsl)),
oq 7 (.mv (ci 2))])
.ret) .skip))
(.seq (.reg [oq 26 (.ld true 3 (.t 3)),
oq 27 (.ld true 2 (.t 4)),
oq 28 (.mkIface 119 (.t 27)),
mt 29 2,
oc 30 84 [(.t 26),(.t 28),(.t 29)] 0,
mt 6 30,
oq 7 (.mv (ci 0))])
.ret)))))⟩
theorem row35 : Row Go.Proofs.Try.prog (35, a35) := ⟨Go.Proofs.Try.f35, Go.Proofs.Try.func35, by kernel_rfl⟩
noncomputable def a36 : AFn :=
⟨74,[(.t 6),(.t 7)],(.seq (.reg [⟨(some 3),(.a (.box 28 (.t 0))),none,0⟩,
⟨(some 4),(.a (.box 55 (.t 1))),none,0⟩,
oq 6 (.mv (.c .nilsl)),
oq 7 (.mv (ci 0))])
(.seq (.reg [oq 16 (.ld true 3 (.t 3)),
oq 17 (.ld true 2 (.t 4)),
oc 18 34 [(.t 16),(.t 17)] 0,
mt 15 18,
oq 19 (.extract (.t 15) 0),
oq 20 (.extract (.t 15) 1),
mt 8 19,
mt 9 20])
(.seq (.seq (.reg [mt 21 9,
oq 22 (bi .neq (.t 21) (ci 0))])
(.cond (.t 22) (.seq (.reg [mt 23 9,
oq 6 (.mv (.c .nilsl)),
mt 7 23])
.ret) .skip))
(.seq (.seq (.reg [mt 24 2,
oq 25 (bi .lss (.t 24) (ci 0)),
mt 26 25,
og 27 26 false 0 (.mv (.t 2)),
og 28 26 false 0 (.mv (.t 8)),
og 29 26 false 0 (bi .geq (.t 27) (.t 28)),
oq 30 (.pick (.t 26) (.c (.bool true)) (.t 29))])
(.cond (.t 30) (.seq (.reg [oq 6 (.mv (.c .nilsl)),
oq 7 (.mv (ci 2))])
.ret) .skip))
(.seq (.reg [oq 10 (.mv (ci 0))])
(.seq (.reg [⟨(some 31),(.a (.bslice 3 1 1 [(.int .i64 (.ofNat 0))] [(0,(ci 0))])),none,0⟩,
mt 11 31])
(.seq (.block 0 (.loop (.seq (.seq (.reg [oq 32 (.faddr 1 (.t 3)),
oq 33 (ld 32),
mt 34 10,
oq 35 (.iaddr (.slice 6) (.t 33) (.t 34)),
oq 36 (.faddr 0 (.t 35)),
oq 37 (ld 36),
oq 38 (bi .neq (.t 37) (ci 3))])
(.cond (.t 38) .skip (.exit 0)))
(.block 1 (.seq (.reg [oq 39 (.faddr 1 (.t 3)),
oq 40 (ld 39),
mt 41 10,
oq 42 (.iaddr (.slice 6) (.t 40) (.t 41)),
oq 43 (.ld true 6 (.t 42)),
⟨(some 12),(.a (.alloc 64 [(.int .i64 (.ofNat 0)),(.int .i64 (.ofNat 0)),(.int .i64 (.ofNat 0)),.nilsl,.nilsl,.nilsl])),none,0⟩,
⟨none,(.x (.st 6 (.t 12) (.t 43))),none,0⟩])
(.seq (.reg [oq 44 (.faddr 4 (.t 12)),
oq 45 (ld 44),
mt 13 45])
(.seq (.seq (.reg [oq 46 (.faddr 0 (.t 12)),
oq 47 (ld 46),
oq 48 (bi .eql (.t 47) (ci 2))])
(.cond (.t 48) (.reg [oq 49 (.faddr 1 (.t 4)),
oq 50 (ld 49),
oq 51 (.faddr 2 (.t 12)),
oq 52 (ld 51),
oq 53 (.iaddr (.slice 1) (.t 50) (.t 52)),
oq 54 (ld 53),
mt 13 54]) .skip))
(.seq (.reg [mt 55 13,
oc 56 82 [(.t 55)] 0,
mt 14 56])
(.seq (.drw [oq 57 (.faddr 3 (.t 12)),
om 58 1 (ld 57),
mt 59 13,
mt 60 2,
mt 61 14,
om 62 24 (bi .rem (.t 60) (.t 61)),
oc 63 85 [(.t 59),(.t 62)] 60,
om 64 127 (.iaddr (.slice 1) (.t 58) (.t 63)),
om 65 255 (ld 64),
om 10 511 (.mv (.t 65))])
(.seq (.reg [mt 66 2,
mt 67 14,
oq 68 (bi .quo (.t 66) (.t 67)),
mt 2 68])
(.reg [mt 69 11,
mt 70 10,
⟨(some 71),(.a (.bslice 3 1 1 [(.int .i64 (.ofNat 0))] [(0,(.t 70))])),none,0⟩,
⟨(some 72),(.x (.app 3 1 8 (.t 69) (.t 71))),none,0⟩,
mt 11 72])))))))))))
(.seq (.reg [mt 73 11,
mt 6 73,
oq 7 (.mv (ci 0))])
.ret))))))))⟩
theorem row36 : Row Go.Proofs.Try.prog (36, a36) := ⟨Go.Proofs.Try.f36, Go.Proofs.Try.func36, by kernel_rfl⟩
noncomputable def a53 : AFn :=
⟨136,[(.t 2)],(.seq (.reg [⟨(some 1),(.a (.box 28 (.t 0))),none,0⟩,
oq 2 (.mv (ci 0))])
(.seq (.seq (.reg [oq 11 (.faddr 0 (.t 1)),
oq 12 (ld 11),
oq 13 (bi .lss (.t 12) (ci 1)),
mt 14 13,
og 15 14 false 0 (.faddr 0 (.t 1)),
og 16 14 false 0 (ld 15),
og 17 14 false 0 (bi .gtr (.t 16) (ci 4)),
oq 18 (.pick (.t 14) (.c (.bool true)) (.t 17)),
mt 19 18,
og 20 19 false 0 (.faddr 1 (.t 1)),
og 21 19 false 0 (ld 20),
og 22 19 false 0 (.lenSl (.t 21)),
og 23 19 false 0 (bi .lss (.t 22) (ci 1)),
oq 24 (.pick (.t 19) (.c (.bool true)) (.t 23)),
mt 25 24,
og 26 25 false 0 (.faddr 1 (.t 1)),
og 27 25 false 0 (ld 26),
og 28 25 false 0 (.lenSl (.t 27)),
og 29 25 false 0 (bi .gtr (.t 28) (ci 2000)),
oq 30 (.pick (.t 25) (.c (.bool true)) (.t 29)),
mt 31 30,
og 32 31 false 0 (.faddr 2 (.t 1)),
og 33 31 false 0 (ld 32),
og 34 31 false 0 (.lenSl (.t 33)),
og 35 31 false 0 (bi .gtr (.t 34) (ci 200)),
oq 36 (.pick (.t 31) (.c (.bool true)) (.t 35))])
(.cond (.t 36) (.seq (.reg [oq 2 (.mv (ci 2))])
.ret) .skip))
(.seq (.seq (.reg [oq 3 (.mv (ci 0))])
(.block 0 (.loop (.seq (.seq (.reg [mt 37 3,
oq 38 (.faddr 1 (.t 1)),
oq 39 (ld 38),
oq 40 (.lenSl (.t 39)),
oq 41 (bi .lss (.t 37) (.t 40))])
(.cond (.t 41) .skip (.exit 0)))
(.seq (.block 1 (.seq (.drw [oq 44 (.ld true 3 (.t 1)),
oq 45 (.faddr 1 (.t 1)),
om 46 2 (ld 45),
mt 47 3,
om 48 14 (.iaddr (.slice 6) (.t 46) (.t 47)),
om 49 30 (.ld true 6 (.t 48)),
oc 50 102 [(.t 44),(.t 49)] 63,
om 4 127 (.mv (.t 50))])
(.seq (.reg [mt 51 4,
oq 52 (bi .neq (.t 51) (ci 0))])
(.cond (.t 52) (.seq (.reg [mt 53 4,
mt 2 53])
.ret) .skip))))
(.reg [mt 42 3,
oq 43 (bi .add (.t 42) (ci 1)),
mt 3 43]))))))
(.seq (.reg [⟨(some 5),(.a (.alloc 3 [(.int .i64 (.ofNat 0))])),none,0⟩,
⟨none,(.x (.st 1 (.t 5) (ci 0))),none,0⟩])
(.seq (.seq (.drw [oq 54 (.ld true 3 (.t 1)),
oc 55 103 [(.t 54),(ci 0),(ci 0),(.t 5)] 1,
oq 56 (.faddr 1 (.t 1)),
om 57 4 (ld 56),
om 58 12 (.lenSl (.t 57)),
om 59 31 (bi .neq (.t 55) (.t 58))])
(.cond (.t 59) (.seq (.reg [oq 2 (.mv (ci 9))])
.ret) .skip))
(.seq (.seq (.reg [oq 60 (ld 5),
oq 61 (bi .gtr (.t 60) (ci 40))])
(.cond (.t 61) (.seq (.reg [oq 2 (.mv (ci 5))])
.ret) .skip))
(.seq (.seq (.reg [oq 6 (.mv (ci 0))])
(.block 2 (.loop (.seq (.seq (.reg [mt 62 6,
oq 63 (.faddr 1 (.t 1)),
oq 64 (ld 63),
oq 65 (.lenSl (.t 64)),
oq 66 (bi .lss (.t 62) (.t 65))])
(.cond (.t 66) .skip (.exit 2)))
(.seq (.block 3 (.seq (.reg [oq 69 (.faddr 1 (.t 1)),
oq 70 (ld 69),
mt 71 6,
oq 72 (.iaddr (.slice 6) (.t 70) (.t 71)),
oq 73 (.ld true 6 (.t 72)),
⟨(some 7),(.a (.alloc 64 [(.int .i64 (.ofNat 0)),(.int .i64 (.ofNat 0)),(.int .i64 (.ofNat 0)),.nilsl,.nilsl,.nilsl])),none,0⟩,
⟨none,(.x (.st 6 (.t 7) (.t 73))),none,0⟩])
(.seq (.drw [oq 74 (.faddr 0 (.t 7)),
om 75 1 (ld 74),
om 76 3 (bi .eql (.t 75) (ci 2)),
om 77 7 (.mv (.t 76)),
og 78 77 true 15 (.faddr 2 (.t 1)),
og 79 77 true 31 (ld 78),
og 80 77 true 15 (.faddr 2 (.t 7)),
og 81 77 true 79 (ld 80),
og 82 77 true 255 (.iaddr (.slice 2) (.t 79) (.t 81)),
og 83 77 true 511 (.faddr 0 (.t 82)),
og 84 77 true 1023 (ld 83),
og 85 77 true 15 (.faddr 1 (.t 7)),
og 86 77 true 2063 (ld 85),
og 87 77 true 8191 (bi .neq (.t 84) (.t 86)),
og 88 77 true 16383 (.mv (.t 87)),
og 89 88 false 32767 (.faddr 2 (.t 1)),
og 90 88 false 65535 (ld 89),
og 91 88 false 32767 (.faddr 2 (.t 7)),
og 92 88 false 163839 (ld 91),
og 93 88 false 524287 (.iaddr (.slice 2) (.t 90) (.t 92)),
og 94 88 false 1048575 (.faddr 1 (.t 93)),
og 95 88 false 2097151 (ld 94),
og 96 88 false 32767 (.faddr 3 (.t 7)),
og 97 88 false 4227071 (ld 96),
og 98 88 false 12615679 (.lenSl (.t 97)),
og 99 88 false 33554431 (bi .neq (.t 95) (.t 98)),
og 100 77 true 67108863 (.pick (.t 88) (.c (.bool true)) (.t 99)),
om 101 134217727 (.pick (.t 77) (.t 100) (.c (.bool false)))])
(.cond (.t 101) (.seq (.reg [oq 2 (.mv (ci 10))])
.ret) .skip))))
(.reg [mt 67 6,
oq 68 (bi .add (.t 67) (ci 1)),
mt 6 68]))))))
(.seq (.reg [oq 102 (.ld true 3 (.t 1)),
oc 103 104 [(.t 102)] 0,
mt 8 103])
(.seq (.seq (.reg [oq 9 (.mv (ci 0))])
(.block 4 (.loop (.seq (.seq (.reg [mt 104 9,
mt 105 8,
oq 106 (.lenSl (.t 105)),
oq 107 (bi .lss (.t 104) (.t 106))])
(.cond (.t 107) .skip (.exit 4)))
(.seq (.block 5 (.seq (.reg [mt 110 8,
mt 111 9,
oq 112 (.iaddr (.slice 1) (.t 110) (.t 111)),
oq 113 (ld 112),
oq 114 (.lenSl (.t 113)),
oq 115 (bi .eql (.t 114) (ci 0))])
(.cond (.t 115) (.seq (.reg [oq 2 (.mv (ci 18))])
.ret) .skip)))
(.reg [mt 108 9,
oq 109 (bi .add (.t 108) (ci 1)),
mt 9 109]))))))
(.seq (.seq (.reg [oq 10 (.mv (ci 1))])
(.block 6 (.loop (.seq (.seq (.reg [mt 116 10,
mt 117 8,
oq 118 (.lenSl (.t 117)),
oq 119 (bi .lss (.t 116) (.t 118))])
(.cond (.t 119) .skip (.exit 6)))
(.seq (.block 7 (.seq (.drw [mt 122 8,
mt 123 10,
om 124 3 (.iaddr (.slice 1) (.t 122) (.t 123)),
om 125 7 (ld 124),
om 126 15 (.iaddr (.slice 1) (.t 125) (ci 0)),
om 127 31 (ld 126),
mt 128 8,
mt 129 10,
om 130 128 (bi .sub (.t 129) (ci 1)),
om 131 448 (.iaddr (.slice 1) (.t 128) (.t 130)),
om 132 960 (ld 131),
om 133 1984 (.iaddr (.slice 1) (.t 132) (ci 0)),
om 134 4032 (ld 133),
om 135 8191 (bi .lss (.t 127) (.t 134))])
(.cond (.t 135) (.seq (.reg [oq 2 (.mv (ci 9))])
.ret) .skip)))
(.reg [mt 120 10,
oq 121 (bi .add (.t 120) (ci 1)),
mt 10 121]))))))
(.seq (.reg [oq 2 (.mv (ci 0))])
.ret)))))))))))⟩
theorem row53 : Row Go.Proofs.Try.prog (53, a53) := ⟨Go.Proofs.Try.f53, Go.Proofs.Try.func53, by kernel_rfl⟩
end Go.Ev.Gl
