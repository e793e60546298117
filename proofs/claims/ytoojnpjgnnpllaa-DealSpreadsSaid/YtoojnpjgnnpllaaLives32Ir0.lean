/- The functions that Lives32 reaches, as data of the evaluator (part 0), written by program; each is shown to be the compiler's result on the loaded function. -/
import Derived.Test.YtoojnpjgnnpllaaProg
import Derived.Test.YtoojnpjgnnpllaaEv8
import Derived.KernelRfl
namespace Go.Ev.Gl
end Go.Ev.Gl
namespace Go.Proofs.Ytoojnpjgnnpllaa.lives32
open Go.Ev Go.Ev.Gl
set_option maxRecDepth 100000
noncomputable def a39 : AFn :=
⟨24,[(.t 2),(.t 3)],(.seq (.reg [⟨(some 1),(.a (.box 28 (.t 0))),none,0⟩,
oq 2 (.mv (ci 0)),
oq 3 (.mv (ci 0))])
(.seq (.seq (.reg [oq 6 (.ld true 3 (.t 1)),
oc 7 87 [(.t 6)] 0,
mt 4 7])
(.seq (.reg [mt 8 4,
oq 9 (bi .neq (.t 8) (ci 0))])
(.cond (.t 9) (.seq (.reg [mt 10 4,
oq 2 (.mv (ci 0)),
mt 3 10])
.ret) .skip)))
(.seq (.reg [oq 11 (.ld true 3 (.t 1)),
oq 12 (.build [(.int .i64 (.ofNat 0)),.nilsl,.nilsl,(.int .i64 (.ofNat 0)),(.bool false)] [(0,3,(.t 11)),(3,1,(ci 1))]),
⟨(some 13),(.a (.box 135 (.t 12))),none,0⟩,
mt 5 13])
(.seq (.seq (.reg [mt 14 5,
oc 15 88 [(.t 14),(ci 0),(ci 1)] 0])
(.seq (.reg [mt 16 5,
oq 17 (.nilchk (.t 16)),
oq 18 (.faddr 4 (.t 17)),
oq 19 (ld 18)])
(.cond (.t 19) (.seq (.reg [oq 2 (.mv (ci 0)),
oq 3 (.mv (ci 5))])
.ret) .skip)))
(.seq (.reg [mt 20 5,
oq 21 (.nilchk (.t 20)),
oq 22 (.faddr 3 (.t 21)),
oq 23 (ld 22),
mt 2 23,
oq 3 (.mv (ci 0))])
.ret)))))⟩
theorem row39 : Row Try.prog (39, a39) := ⟨Try.f39, Try.func39, by kernel_rfl⟩
noncomputable def a40 : AFn :=
⟨35,[(.t 6),(.t 7)],(.seq (.reg [⟨(some 3),(.a (.box 28 (.t 0))),none,0⟩,
oq 6 (.mv (ci 0)),
oq 7 (.mv (ci 0))])
(.seq (.reg [oq 11 (.ld true 3 (.t 3)),
mt 12 1,
oc 13 89 [(.t 11),(.t 12)] 0,
mt 10 13,
oq 14 (.extract (.t 10) 0),
oq 15 (.extract (.t 10) 1),
mt 8 14,
mt 9 15])
(.seq (.seq (.reg [mt 16 9,
oq 17 (bi .neq (.t 16) (ci 0))])
(.cond (.t 17) (.seq (.reg [mt 18 9,
oq 6 (.mv (ci 0)),
mt 7 18])
.ret) .skip))
(.seq (.seq (.reg [mt 19 2,
oq 20 (bi .lss (.t 19) (ci 0)),
mt 21 20,
og 22 21 false 0 (.mv (.t 2)),
og 23 21 false 0 (.faddr 1 (.t 3)),
og 24 21 false 0 (ld 23),
og 25 21 false 0 (.lenSl (.t 24)),
og 26 21 false 0 (bi .geq (.t 22) (.t 25)),
oq 27 (.pick (.t 21) (.c (.bool true)) (.t 26))])
(.cond (.t 27) (.seq (.reg [oq 6 (.mv (ci 0)),
oq 7 (.mv (ci 2))])
.ret) .skip))
(.seq (.reg [oq 28 (.ld true 3 (.t 3)),
mt 29 1,
mt 30 8,
oc 31 90 [(.t 28),(.t 29),(.t 30)] 0,
mt 32 2,
oq 33 (.iaddr (.slice 1) (.t 31) (.t 32)),
oq 34 (ld 33),
mt 6 34,
oq 7 (.mv (ci 0))])
.ret)))))⟩
theorem row40 : Row Try.prog (40, a40) := ⟨Try.f40, Try.func40, by kernel_rfl⟩
noncomputable def a42 : AFn :=
⟨31,[(.t 6),(.t 7)],(.seq (.reg [⟨(some 3),(.a (.box 28 (.t 0))),none,0⟩,
oq 6 (.mv (.c .nilsl)),
oq 7 (.mv (ci 0))])
(.seq (.reg [oq 11 (.ld true 3 (.t 3)),
mt 12 1,
oc 13 89 [(.t 11),(.t 12)] 0,
mt 10 13,
oq 14 (.extract (.t 10) 0),
oq 15 (.extract (.t 10) 1),
mt 8 14,
mt 9 15])
(.seq (.seq (.reg [mt 16 9,
oq 17 (bi .neq (.t 16) (ci 0))])
(.cond (.t 17) (.seq (.reg [mt 18 9,
oq 6 (.mv (.c .nilsl)),
mt 7 18])
.ret) .skip))
(.seq (.seq (.reg [mt 19 2,
oq 20 (bi .lss (.t 19) (ci 0)),
mt 21 20,
og 22 21 false 0 (.mv (.t 2)),
og 23 21 false 0 (.mv (.t 8)),
og 24 21 false 0 (bi .geq (.t 22) (.t 23)),
oq 25 (.pick (.t 21) (.c (.bool true)) (.t 24))])
(.cond (.t 25) (.seq (.reg [oq 6 (.mv (.c .nilsl)),
oq 7 (.mv (ci 2))])
.ret) .skip))
(.seq (.reg [oq 26 (.ld true 3 (.t 3)),
mt 27 1,
oq 28 (.mkIface 139 (.t 27)),
mt 29 2,
oc 30 84 [(.t 26),(.t 28),(.t 29)] 0,
mt 6 30,
oq 7 (.mv (ci 0))])
.ret)))))⟩
theorem row42 : Row Try.prog (42, a42) := ⟨Try.f42, Try.func42, by kernel_rfl⟩
noncomputable def a75 : AFn :=
⟨17,[(.cell 0 true 3)],(.seq (.reg [⟨(some 0),(.a (.alloc 28 [(.int .i64 (.ofNat 0)),.nilsl,.nilsl])),none,0⟩])
(.seq (.reg [⟨(some 1),(.a (.bslice 3 1 2 [(.int .i64 (.ofNat 0))] [(0,(ci 1)),(1,(ci 2))])),none,0⟩,
⟨(some 2),(.a (.bslice 3 1 2 [(.int .i64 (.ofNat 0))] [(0,(ci 1)),(1,(ci 2))])),none,0⟩,
oq 3 (.build [(.int .i64 (.ofNat 0)),(.int .i64 (.ofNat 0)),(.int .i64 (.ofNat 0)),.nilsl,.nilsl,.nilsl] [(0,1,(ci 1)),(3,1,(.t 1)),(4,1,(.t 2))]),
oc 4 121 [(ci 1)] 0,
⟨(some 5),(.a (.bslice 3 1 2 [(.int .i64 (.ofNat 0))] [(0,(ci 3)),(1,(ci 4))])),none,0⟩,
oq 6 (.build [(.int .i64 (.ofNat 0)),(.int .i64 (.ofNat 0)),(.int .i64 (.ofNat 0)),.nilsl,.nilsl,.nilsl] [(0,1,(ci 2)),(3,1,(.t 5))]),
oc 7 121 [(ci 5)] 0,
⟨(some 8),(.a (.bslice 3 1 2 [(.int .i64 (.ofNat 0))] [(0,(ci 5)),(1,(ci 6))])),none,0⟩,
⟨(some 9),(.a (.bslice 3 1 2 [(.int .i64 (.ofNat 0))] [(0,(ci 1)),(1,(ci 1))])),none,0⟩,
oq 10 (.build [(.int .i64 (.ofNat 0)),(.int .i64 (.ofNat 0)),(.int .i64 (.ofNat 0)),.nilsl,.nilsl,.nilsl] [(0,1,(ci 1)),(3,1,(.t 8)),(4,1,(.t 9))]),
oc 11 121 [(ci 2)] 0,
oc 12 121 [(ci 4)] 0,
⟨(some 13),(.a (.bslice 64 6 7 [(.int .i64 (.ofNat 0)),(.int .i64 (.ofNat 0)),(.int .i64 (.ofNat 0)),.nilsl,.nilsl,.nilsl] [(0,(.t 3)),(1,(.t 4)),(2,(.t 6)),(3,(.t 7)),(4,(.t 10)),(5,(.t 11)),(6,(.t 12))])),none,0⟩,
oq 14 (.build [(.int .i64 (.ofNat 0)),(.int .i64 (.ofNat 0))] [(1,1,(ci 2))]),
⟨(some 15),(.a (.bslice 48 2 1 [(.int .i64 (.ofNat 0)),(.int .i64 (.ofNat 0))] [(0,(.t 14))])),none,0⟩,
oq 16 (.build [(.int .i64 (.ofNat 0)),.nilsl,.nilsl] [(0,1,(ci 1)),(1,1,(.t 13)),(2,1,(.t 15))]),
⟨none,(.x (.st 3 (.t 0) (.t 16))),none,0⟩])
.ret))⟩
theorem row75 : Row Try.prog (75, a75) := ⟨Try.f75, Try.func75, by kernel_rfl⟩
noncomputable def a76 : AFn :=
⟨4,[(.cell 0 true 2)],(.seq (.reg [⟨(some 0),(.a (.alloc 55 [(.int .i64 (.ofNat 0)),.nilsl])),none,0⟩])
(.seq (.reg [⟨(some 1),(.a (.bslice 3 1 2 [(.int .i64 (.ofNat 0))] [(0,(ci 1)),(1,(ci 1))])),none,0⟩,
⟨(some 2),(.a (.bslice 22 1 1 [.nilsl] [(0,(.t 1))])),none,0⟩,
oq 3 (.build [(.int .i64 (.ofNat 0)),.nilsl] [(0,1,(ci 1)),(1,1,(.t 2))]),
⟨none,(.x (.st 2 (.t 0) (.t 3))),none,0⟩])
.ret))⟩
theorem row76 : Row Try.prog (76, a76) := ⟨Try.f76, Try.func76, by kernel_rfl⟩
noncomputable def a77 : AFn :=
⟨24,[(.t 6)],(.seq (.reg [oq 6 (.mv (.c (.bool false)))])
(.seq (.reg [oc 10 75 [] 0,
mt 11 0,
⟨(some 12),(.a (.bslice 3 1 1 [(.int .i64 (.ofNat 0))] [(0,(.t 11))])),none,0⟩,
mt 13 1,
oc 14 42 [(.t 10),(.t 12),(.t 13)] 0,
mt 9 14,
oq 15 (.extract (.t 9) 0),
oq 16 (.extract (.t 9) 1),
mt 7 15,
mt 8 16])
(.seq (.reg [mt 17 8,
oq 18 (bi .eql (.t 17) (ci 0)),
mt 19 18,
og 20 19 true 0 (.mv (.t 7)),
og 21 19 true 0 (.mv (.t 2)),
⟨(some 22),(.x (.call (.c (.fn 19 [] [])) [(.t 20),(.t 21)])),(some (19,true)),0⟩,
oq 23 (.pick (.t 19) (.t 22) (.c (.bool false))),
mt 6 23])
.ret)))⟩
theorem row77 : Row Try.prog (77, a77) := ⟨Try.f77, Try.func77, by kernel_rfl⟩
noncomputable def a78 : AFn :=
⟨21,[(.t 4)],(.seq (.reg [oq 4 (.mv (.c (.bool false)))])
(.seq (.reg [oc 8 75 [] 0,
oc 9 76 [] 0,
mt 10 0,
oc 11 35 [(.t 8),(.t 9),(.t 10)] 0,
mt 7 11,
oq 12 (.extract (.t 7) 0),
oq 13 (.extract (.t 7) 1),
mt 5 12,
mt 6 13])
(.seq (.reg [mt 14 6,
oq 15 (bi .eql (.t 14) (ci 0)),
mt 16 15,
og 17 16 true 0 (.mv (.t 5)),
og 18 16 true 0 (.mv (.t 1)),
⟨(some 19),(.x (.call (.c (.fn 19 [] [])) [(.t 17),(.t 18)])),(some (16,true)),0⟩,
oq 20 (.pick (.t 16) (.t 19) (.c (.bool false))),
mt 4 20])
.ret)))⟩
theorem row78 : Row Try.prog (78, a78) := ⟨Try.f78, Try.func78, by kernel_rfl⟩
noncomputable def a88 : AFn :=
⟨56,[],(.seq (.reg [mt 10 0,
oq 11 (.nilchk (.t 10)),
oq 12 (.faddr 0 (.t 11)),
oq 13 (.faddr 1 (.t 12)),
oq 14 (ld 13),
mt 15 1,
oq 16 (.iaddr (.slice 6) (.t 14) (.t 15)),
oq 17 (.ld true 6 (.t 16)),
⟨(some 6),(.a (.alloc 64 [(.int .i64 (.ofNat 0)),(.int .i64 (.ofNat 0)),(.int .i64 (.ofNat 0)),.nilsl,.nilsl,.nilsl])),none,0⟩,
⟨none,(.x (.st 6 (.t 6) (.t 17))),none,0⟩])
(.seq (.seq (.reg [oq 18 (.faddr 0 (.t 6)),
oq 19 (ld 18)])
(.block 0 (.seq (.reg [oq 21 (bi .eql (.t 19) (ci 3)),
mt 20 21])
(.cond (.t 20) (.seq (.reg [mt 22 0,
mt 23 2,
oc 24 132 [(.t 22),(.t 23)] 0])
.ret) (.seq (.reg [oq 26 (bi .eql (.t 19) (ci 1)),
mt 25 26])
(.cond (.t 25) (.seq (.reg [oq 27 (.faddr 4 (.t 6)),
oq 28 (ld 27),
oc 29 133 [(.t 28)] 0,
mt 7 29])
(.seq (.seq (.reg [mt 30 2,
mt 31 7,
oq 32 (bi .quo (ci 1000000000000000) (.t 31)),
oq 33 (bi .gtr (.t 30) (.t 32))])
(.cond (.t 33) (.seq (.reg [mt 34 0,
oq 35 (.nilchk (.t 34)),
oq 36 (.faddr 4 (.t 35)),
⟨none,(.x (.st 1 (.t 36) (.c (.bool true)))),none,0⟩])
.ret) .skip))
(.reg [mt 37 2,
mt 38 7,
oq 39 (bi .mul (.t 37) (.t 38)),
mt 2 39]))) .skip))))))
(.seq (.reg [oq 40 (.faddr 3 (.t 6)),
oq 41 (ld 40),
oq 42 (.lenSl (.t 41)),
oq 43 (.mv (ci 0))])
(.block 1 (.loop (.seq (.reg [oq 44 (bi .lss (.t 43) (.t 42))])
(.seq (.cond (.t 44) .skip (.exit 1))
(.seq (.block 2 (.seq (.reg [oq 45 (.iaddr (.slice 1) (.t 41) (.t 43)),
oq 46 (ld 45),
mt 9 46])
(.seq (.seq (.reg [mt 47 0,
oq 48 (.nilchk (.t 47)),
oq 49 (.faddr 4 (.t 48)),
oq 50 (ld 49)])
(.cond (.t 50) .ret .skip))
(.reg [mt 51 0,
mt 52 9,
mt 53 2,
oc 54 88 [(.t 51),(.t 52),(.t 53)] 0]))))
(.reg [oq 55 (bi .add (.t 43) (ci 1)),
mt 43 55])))))))))⟩
theorem row88 : Row Try.prog (88, a88) := ⟨Try.f88, Try.func88, by kernel_rfl⟩
noncomputable def a89 : AFn :=
⟨44,[(.t 4),(.t 5)],(.seq (.reg [⟨(some 2),(.a (.box 28 (.t 0))),none,0⟩,
oq 4 (.mv (ci 0)),
oq 5 (.mv (ci 0))])
(.seq (.seq (.reg [oq 9 (.ld true 3 (.t 2)),
oc 10 87 [(.t 9)] 0,
mt 6 10])
(.seq (.reg [mt 11 6,
oq 12 (bi .neq (.t 11) (ci 0))])
(.cond (.t 12) (.seq (.reg [mt 13 6,
oq 4 (.mv (ci 0)),
mt 5 13])
.ret) .skip)))
(.seq (.seq (.reg [mt 14 1,
oq 15 (.lenSl (.t 14)),
oq 16 (.faddr 2 (.t 2)),
oq 17 (ld 16),
oq 18 (.lenSl (.t 17)),
oq 19 (bi .neq (.t 15) (.t 18))])
(.cond (.t 19) (.seq (.reg [oq 4 (.mv (ci 0)),
oq 5 (.mv (ci 10))])
.ret) .skip))
(.seq (.seq (.reg [mt 20 1,
oq 21 (.lenSl (.t 20)),
oq 22 (.mv (ci 0))])
(.block 0 (.loop (.seq (.reg [oq 23 (bi .lss (.t 22) (.t 21))])
(.seq (.cond (.t 23) .skip (.exit 0))
(.seq (.block 1 (.seq (.reg [mt 24 22,
oq 25 (.iaddr (.slice 1) (.t 20) (.t 22)),
oq 26 (ld 25),
mt 7 24,
mt 8 26])
(.seq (.reg [mt 27 8,
oq 28 (bi .lss (.t 27) (ci 0)),
mt 29 28,
og 30 29 false 0 (.mv (.t 8)),
og 31 29 false 0 (.faddr 2 (.t 2)),
og 32 29 false 0 (ld 31),
og 33 29 false 0 (.mv (.t 7)),
og 34 29 false 0 (.iaddr (.slice 2) (.t 32) (.t 33)),
og 35 29 false 0 (.faddr 1 (.t 34)),
og 36 29 false 0 (ld 35),
og 37 29 false 0 (bi .geq (.t 30) (.t 36)),
oq 38 (.pick (.t 29) (.c (.bool true)) (.t 37))])
(.cond (.t 38) (.seq (.reg [oq 4 (.mv (ci 0)),
oq 5 (.mv (ci 2))])
.ret) .skip))))
(.reg [oq 39 (bi .add (.t 22) (ci 1)),
mt 22 39])))))))
(.seq (.reg [oq 40 (.ld true 3 (.t 2)),
oc 41 39 [(.t 40)] 0,
oq 42 (.extract (.t 41) 0),
oq 43 (.extract (.t 41) 1),
mt 4 42,
mt 5 43])
.ret)))))⟩
theorem row89 : Row Try.prog (89, a89) := ⟨Try.f89, Try.func89, by kernel_rfl⟩
noncomputable def a90 : AFn :=
⟨78,[(.t 6)],(.seq (.reg [⟨(some 3),(.a (.box 28 (.t 0))),none,0⟩,
oq 6 (.mv (.c .nilsl))])
(.seq (.reg [oq 13 (.faddr 1 (.t 3)),
oq 14 (ld 13),
oq 15 (.lenSl (.t 14)),
⟨(some 16),(.a (.mkSlice 3 1 8 [(.int .i64 (.ofNat 0))] (.t 15) (.t 15))),none,0⟩,
mt 7 16])
(.seq (.reg [mt 17 7,
mt 18 2,
oq 19 (.iaddr (.slice 1) (.t 17) (ci 0)),
⟨none,(.x (.st 1 (.t 19) (.t 18))),none,0⟩])
(.seq (.seq (.reg [oq 20 (.faddr 1 (.t 3)),
oq 21 (ld 20),
oq 22 (.lenSl (.t 21)),
oq 23 (.mv (ci 0))])
(.block 0 (.loop (.seq (.reg [oq 24 (bi .lss (.t 23) (.t 22))])
(.seq (.cond (.t 24) .skip (.exit 0))
(.seq (.block 1 (.seq (.reg [mt 25 23,
oq 26 (.iaddr (.slice 6) (.t 21) (.t 23)),
oq 27 (.ld true 6 (.t 26)),
⟨(some 9),(.a (.alloc 64 [(.int .i64 (.ofNat 0)),(.int .i64 (.ofNat 0)),(.int .i64 (.ofNat 0)),.nilsl,.nilsl,.nilsl])),none,0⟩,
mt 8 25,
⟨none,(.x (.st 6 (.t 9) (.t 27))),none,0⟩])
(.seq (.reg [oq 28 (.faddr 0 (.t 9)),
oq 29 (ld 28)])
(.block 2 (.seq (.reg [oq 31 (bi .eql (.t 29) (ci 1)),
mt 30 31])
(.cond (.t 30) (.seq (.drw [mt 32 7,
mt 33 8,
om 34 3 (.iaddr (.slice 1) (.t 32) (.t 33)),
om 35 7 (ld 34),
oq 36 (.build [] []),
oq 37 (.ld true 6 (.t 9)),
oc 38 134 [(.t 36),(.t 37)] 48,
om 39 127 (bi .quo (.t 35) (.t 38)),
om 10 255 (.mv (.t 39))])
(.seq (.reg [oq 40 (.faddr 3 (.t 9)),
oq 41 (ld 40),
oq 42 (.lenSl (.t 41)),
oq 43 (.mv (ci 0))])
(.block 3 (.loop (.seq (.reg [oq 44 (bi .lss (.t 43) (.t 42))])
(.seq (.cond (.t 44) .skip (.exit 3))
(.seq (.block 4 (.seq (.reg [mt 45 43,
oq 46 (.iaddr (.slice 1) (.t 41) (.t 43)),
oq 47 (ld 46),
mt 11 45,
mt 12 47])
(.reg [mt 48 7,
mt 49 12,
mt 50 10,
oq 51 (.faddr 4 (.t 9)),
oq 52 (ld 51),
mt 53 11,
oq 54 (.iaddr (.slice 1) (.t 52) (.t 53)),
oq 55 (ld 54),
oq 56 (bi .mul (.t 50) (.t 55)),
oq 57 (.iaddr (.slice 1) (.t 48) (.t 49)),
⟨none,(.x (.st 1 (.t 57) (.t 56))),none,0⟩])))
(.reg [oq 58 (bi .add (.t 43) (ci 1)),
mt 43 58])))))))) (.seq (.reg [oq 60 (bi .eql (.t 29) (ci 2)),
mt 59 60])
(.cond (.t 59) (.drw [mt 61 7,
oq 62 (.faddr 3 (.t 9)),
om 63 2 (ld 62),
mt 64 1,
oq 65 (.faddr 2 (.t 9)),
om 66 16 (ld 65),
om 67 56 (.iaddr (.slice 1) (.t 64) (.t 66)),
om 68 120 (ld 67),
om 69 254 (.iaddr (.slice 1) (.t 63) (.t 68)),
om 70 510 (ld 69),
mt 71 7,
mt 72 8,
om 73 3072 (.iaddr (.slice 1) (.t 71) (.t 72)),
om 74 7168 (ld 73),
om 75 16383 (.iaddr (.slice 1) (.t 61) (.t 70)),
⟨none,(.x (.st 1 (.t 75) (.t 74))),none,32767⟩]) .skip))))))))
(.reg [oq 76 (bi .add (.t 23) (ci 1)),
mt 23 76])))))))
(.seq (.reg [mt 77 7,
mt 6 77])
.ret)))))⟩
theorem row90 : Row Try.prog (90, a90) := ⟨Try.f90, Try.func90, by kernel_rfl⟩
noncomputable def a121 : AFn :=
⟨6,[(.cell 2 true 6)],(.seq (.reg [⟨(some 2),(.a (.alloc 64 [(.int .i64 (.ofNat 0)),(.int .i64 (.ofNat 0)),(.int .i64 (.ofNat 0)),.nilsl,.nilsl,.nilsl])),none,0⟩])
(.seq (.reg [mt 3 0,
⟨(some 4),(.a (.bslice 3 1 1 [(.int .i64 (.ofNat 0))] [(0,(.t 3))])),none,0⟩,
oq 5 (.build [(.int .i64 (.ofNat 0)),(.int .i64 (.ofNat 0)),(.int .i64 (.ofNat 0)),.nilsl,.nilsl,.nilsl] [(0,1,(ci 3)),(5,1,(.t 4))]),
⟨none,(.x (.st 6 (.t 2) (.t 5))),none,0⟩])
.ret))⟩
theorem row121 : Row Try.prog (121, a121) := ⟨Try.f121, Try.func121, by kernel_rfl⟩
noncomputable def a132 : AFn :=
⟨39,[],(.seq (.reg [mt 7 0,
oq 8 (.nilchk (.t 7)),
oq 9 (.faddr 3 (.t 8)),
oq 10 (ld 9),
mt 11 1,
mt 4 10,
mt 5 11])
(.seq (.block 0 (.loop (.seq (.seq (.reg [mt 12 5,
oq 13 (bi .neq (.t 12) (ci 0))])
(.cond (.t 13) .skip (.exit 0)))
(.block 1 (.drw [mt 14 5,
mt 15 4,
mt 16 5,
om 17 6 (bi .rem (.t 15) (.t 16)),
om 4 3 (.mv (.t 14)),
om 5 31 (.mv (.t 17))])))))
(.seq (.reg [mt 18 1,
mt 19 4,
oq 20 (bi .quo (.t 18) (.t 19)),
mt 6 20])
(.seq (.seq (.drw [mt 21 0,
om 22 1 (.nilchk (.t 21)),
om 23 3 (.faddr 3 (.t 22)),
om 24 7 (ld 23),
mt 25 6,
om 26 16 (bi .quo (ci 1000000000000000) (.t 25)),
om 27 63 (bi .gtr (.t 24) (.t 26))])
(.cond (.t 27) (.seq (.reg [mt 28 0,
oq 29 (.nilchk (.t 28)),
oq 30 (.faddr 4 (.t 29)),
⟨none,(.x (.st 1 (.t 30) (.c (.bool true)))),none,0⟩])
.ret) .skip))
(.reg [mt 31 0,
oq 32 (.nilchk (.t 31)),
oq 33 (.faddr 3 (.t 32)),
oq 34 (ld 33),
mt 35 6,
oq 36 (bi .mul (.t 34) (.t 35)),
oq 37 (.nilchk (.t 31)),
oq 38 (.faddr 3 (.t 37)),
⟨none,(.x (.st 1 (.t 38) (.t 36))),none,0⟩])))))⟩
theorem row132 : Row Try.prog (132, a132) := ⟨Try.f132, Try.func132, by kernel_rfl⟩
noncomputable def a133 : AFn :=
⟨17,[(.t 2)],(.seq (.reg [oq 2 (.mv (ci 0))])
(.seq (.reg [oq 3 (.mv (ci 0))])
(.seq (.seq (.reg [mt 6 0,
oq 7 (.lenSl (.t 6)),
oq 8 (.mv (ci 0))])
(.block 0 (.loop (.seq (.reg [oq 9 (bi .lss (.t 8) (.t 7))])
(.seq (.cond (.t 9) .skip (.exit 0))
(.seq (.block 1 (.seq (.reg [oq 10 (.iaddr (.slice 1) (.t 6) (.t 8)),
oq 11 (ld 10),
mt 5 11])
(.reg [mt 12 3,
mt 13 5,
oq 14 (bi .add (.t 12) (.t 13)),
mt 3 14])))
(.reg [oq 15 (bi .add (.t 8) (ci 1)),
mt 8 15])))))))
(.seq (.reg [mt 16 3,
mt 2 16])
.ret))))⟩
theorem row133 : Row Try.prog (133, a133) := ⟨Try.f133, Try.func133, by kernel_rfl⟩
end Go.Proofs.Ytoojnpjgnnpllaa.lives32
