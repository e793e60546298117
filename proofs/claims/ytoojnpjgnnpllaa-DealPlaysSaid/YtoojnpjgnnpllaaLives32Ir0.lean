/- The functions that Lives32 reaches, as data of the evaluator (part 0), written by program; each is shown to be the compiler's result on the loaded function. -/
import Derived.Test.YtoojnpjgnnpllaaProg
import Derived.Test.YtoojnpjgnnpllaaEv8
import Derived.KernelRfl
namespace Go.Ev.Gl
end Go.Ev.Gl
namespace Go.Proofs.Ytoojnpjgnnpllaa.lives32
open Go.Ev Go.Ev.Gl
set_option maxRecDepth 100000
noncomputable def a33 : AFn :=
⟨19,[(.t 4),(.t 5)],(.seq (.reg [⟨(some 2),(.a (.box 28 (.t 0))),none,0⟩,
⟨(some 3),(.a (.box 55 (.t 1))),none,0⟩,
oq 4 (.mv (ci 0)),
oq 5 (.mv (ci 0))])
(.seq (.seq (.reg [oq 7 (.ld true 3 (.t 2)),
oq 8 (.ld true 2 (.t 3)),
oc 9 79 [(.t 7),(.t 8)] 0,
mt 6 9])
(.seq (.reg [mt 10 6,
oq 11 (bi .neq (.t 10) (ci 0))])
(.cond (.t 11) (.seq (.reg [mt 12 6,
oq 4 (.mv (ci 0)),
mt 5 12])
.ret) .skip)))
(.seq (.reg [oq 13 (.ld true 3 (.t 2)),
oq 14 (.ld true 2 (.t 3)),
oq 15 (.mkIface 119 (.t 14)),
oc 16 80 [(.t 13),(.t 15)] 0,
oq 17 (.extract (.t 16) 0),
oq 18 (.extract (.t 16) 1),
mt 4 17,
mt 5 18])
.ret)))⟩
theorem row33 : Row Try.prog (33, a33) := ⟨Try.f33, Try.func33, by kernel_rfl⟩
noncomputable def a35 : AFn :=
⟨31,[(.t 6),(.t 7)],(.seq (.reg [⟨(some 3),(.a (.box 28 (.t 0))),none,0⟩,
⟨(some 4),(.a (.box 55 (.t 1))),none,0⟩,
oq 6 (.mv (.c .nilsl)),
oq 7 (.mv (ci 0))])
(.seq (.reg [oq 11 (.ld true 3 (.t 3)),
oq 12 (.ld true 2 (.t 4)),
oc 13 33 [(.t 11),(.t 12)] 0,
mt 10 13,
oq 14 (.extract (.t 10) 0),
oq 15 (.extract (.t 10) 1),
mt 8 14,
mt 9 15])
(.seq (.seq (.reg [mt 16 9,
oq 17 (bi .neq (.t 16) (ci 0))])
(.cond (.t 17) (.seq (.reg [mt 18 9,
oq 6 (.mv (.c .nilsl)),
mt 7 18])
.ret) .skip))
(.seq (.seq (.reg [mt 19 2,
oq 20 (bi .lss (.t 19) (ci 0)),
mt 21 20,
og 22 21 false 0 (.mv (.t 2)),
og 23 21 false 0 (.mv (.t 8)),
og 24 21 false 0 (bi .geq (.t 22) (.t 23)),
oq 25 (.pick (.t 21) (.c (.bool true)) (.t 24))])
(.cond (.t 25) (.seq (.reg [oq 6 (.mv (.c .nilsl)),
oq 7 (.mv (ci 2))])
.ret) .skip))
(.seq (.reg [oq 26 (.ld true 3 (.t 3)),
oq 27 (.ld true 2 (.t 4)),
oq 28 (.mkIface 119 (.t 27)),
mt 29 2,
oc 30 84 [(.t 26),(.t 28),(.t 29)] 0,
mt 6 30,
oq 7 (.mv (ci 0))])
.ret)))))⟩
theorem row35 : Row Try.prog (35, a35) := ⟨Try.f35, Try.func35, by kernel_rfl⟩
noncomputable def a40 : AFn :=
⟨35,[(.t 6),(.t 7)],(.seq (.reg [⟨(some 3),(.a (.box 28 (.t 0))),none,0⟩,
oq 6 (.mv (ci 0)),
oq 7 (.mv (ci 0))])
(.seq (.reg [oq 11 (.ld true 3 (.t 3)),
mt 12 1,
oc 13 89 [(.t 11),(.t 12)] 0,
mt 10 13,
oq 14 (.extract (.t 10) 0),
oq 15 (.extract (.t 10) 1),
mt 8 14,
mt 9 15])
(.seq (.seq (.reg [mt 16 9,
oq 17 (bi .neq (.t 16) (ci 0))])
(.cond (.t 17) (.seq (.reg [mt 18 9,
oq 6 (.mv (ci 0)),
mt 7 18])
.ret) .skip))
(.seq (.seq (.reg [mt 19 2,
oq 20 (bi .lss (.t 19) (ci 0)),
mt 21 20,
og 22 21 false 0 (.mv (.t 2)),
og 23 21 false 0 (.faddr 1 (.t 3)),
og 24 21 false 0 (ld 23),
og 25 21 false 0 (.lenSl (.t 24)),
og 26 21 false 0 (bi .geq (.t 22) (.t 25)),
oq 27 (.pick (.t 21) (.c (.bool true)) (.t 26))])
(.cond (.t 27) (.seq (.reg [oq 6 (.mv (ci 0)),
oq 7 (.mv (ci 2))])
.ret) .skip))
(.seq (.reg [oq 28 (.ld true 3 (.t 3)),
mt 29 1,
mt 30 8,
oc 31 90 [(.t 28),(.t 29),(.t 30)] 0,
mt 32 2,
oq 33 (.iaddr (.slice 1) (.t 31) (.t 32)),
oq 34 (ld 33),
mt 6 34,
oq 7 (.mv (ci 0))])
.ret)))))⟩
theorem row40 : Row Try.prog (40, a40) := ⟨Try.f40, Try.func40, by kernel_rfl⟩
noncomputable def a75 : AFn :=
⟨17,[(.cell 0 true 3)],(.seq (.reg [⟨(some 0),(.a (.alloc 28 [(.int .i64 (.ofNat 0)),.nilsl,.nilsl])),none,0⟩])
(.seq (.reg [⟨(some 1),(.a (.bslice 3 1 2 [(.int .i64 (.ofNat 0))] [(0,(ci 1)),(1,(ci 2))])),none,0⟩,
⟨(some 2),(.a (.bslice 3 1 2 [(.int .i64 (.ofNat 0))] [(0,(ci 1)),(1,(ci 2))])),none,0⟩,
oq 3 (.build [(.int .i64 (.ofNat 0)),(.int .i64 (.ofNat 0)),(.int .i64 (.ofNat 0)),.nilsl,.nilsl,.nilsl] [(0,1,(ci 1)),(3,1,(.t 1)),(4,1,(.t 2))]),
oc 4 121 [(ci 1)] 0,
⟨(some 5),(.a (.bslice 3 1 2 [(.int .i64 (.ofNat 0))] [(0,(ci 3)),(1,(ci 4))])),none,0⟩,
oq 6 (.build [(.int .i64 (.ofNat 0)),(.int .i64 (.ofNat 0)),(.int .i64 (.ofNat 0)),.nilsl,.nilsl,.nilsl] [(0,1,(ci 2)),(3,1,(.t 5))]),
oc 7 121 [(ci 5)] 0,
⟨(some 8),(.a (.bslice 3 1 2 [(.int .i64 (.ofNat 0))] [(0,(ci 5)),(1,(ci 6))])),none,0⟩,
⟨(some 9),(.a (.bslice 3 1 2 [(.int .i64 (.ofNat 0))] [(0,(ci 1)),(1,(ci 1))])),none,0⟩,
oq 10 (.build [(.int .i64 (.ofNat 0)),(.int .i64 (.ofNat 0)),(.int .i64 (.ofNat 0)),.nilsl,.nilsl,.nilsl] [(0,1,(ci 1)),(3,1,(.t 8)),(4,1,(.t 9))]),
oc 11 121 [(ci 2)] 0,
oc 12 121 [(ci 4)] 0,
⟨(some 13),(.a (.bslice 64 6 7 [(.int .i64 (.ofNat 0)),(.int .i64 (.ofNat 0)),(.int .i64 (.ofNat 0)),.nilsl,.nilsl,.nilsl] [(0,(.t 3)),(1,(.t 4)),(2,(.t 6)),(3,(.t 7)),(4,(.t 10)),(5,(.t 11)),(6,(.t 12))])),none,0⟩,
oq 14 (.build [(.int .i64 (.ofNat 0)),(.int .i64 (.ofNat 0))] [(1,1,(ci 2))]),
⟨(some 15),(.a (.bslice 48 2 1 [(.int .i64 (.ofNat 0)),(.int .i64 (.ofNat 0))] [(0,(.t 14))])),none,0⟩,
oq 16 (.build [(.int .i64 (.ofNat 0)),.nilsl,.nilsl] [(0,1,(ci 1)),(1,1,(.t 13)),(2,1,(.t 15))]),
⟨none,(.x (.st 3 (.t 0) (.t 16))),none,0⟩])
.ret))⟩
theorem row75 : Row Try.prog (75, a75) := ⟨Try.f75, Try.func75, by kernel_rfl⟩
noncomputable def a76 : AFn :=
⟨4,[(.cell 0 true 2)],(.seq (.reg [⟨(some 0),(.a (.alloc 55 [(.int .i64 (.ofNat 0)),.nilsl])),none,0⟩])
(.seq (.reg [⟨(some 1),(.a (.bslice 3 1 2 [(.int .i64 (.ofNat 0))] [(0,(ci 1)),(1,(ci 1))])),none,0⟩,
⟨(some 2),(.a (.bslice 22 1 1 [.nilsl] [(0,(.t 1))])),none,0⟩,
oq 3 (.build [(.int .i64 (.ofNat 0)),.nilsl] [(0,1,(ci 1)),(1,1,(.t 2))]),
⟨none,(.x (.st 2 (.t 0) (.t 3))),none,0⟩])
.ret))⟩
theorem row76 : Row Try.prog (76, a76) := ⟨Try.f76, Try.func76, by kernel_rfl⟩
noncomputable def a77 : AFn :=
⟨24,[(.t 6)],(.seq (.reg [oq 6 (.mv (.c (.bool false)))])
(.seq (.reg [oc 10 75 [] 0,
mt 11 0,
⟨(some 12),(.a (.bslice 3 1 1 [(.int .i64 (.ofNat 0))] [(0,(.t 11))])),none,0⟩,
mt 13 1,
oc 14 42 [(.t 10),(.t 12),(.t 13)] 0,
mt 9 14,
oq 15 (.extract (.t 9) 0),
oq 16 (.extract (.t 9) 1),
mt 7 15,
mt 8 16])
(.seq (.reg [mt 17 8,
oq 18 (bi .eql (.t 17) (ci 0)),
mt 19 18,
og 20 19 true 0 (.mv (.t 7)),
og 21 19 true 0 (.mv (.t 2)),
⟨(some 22),(.x (.call (.c (.fn 19 [] [])) [(.t 20),(.t 21)])),(some (19,true)),0⟩,
oq 23 (.pick (.t 19) (.t 22) (.c (.bool false))),
mt 6 23])
.ret)))⟩
theorem row77 : Row Try.prog (77, a77) := ⟨Try.f77, Try.func77, by kernel_rfl⟩
noncomputable def a78 : AFn :=
⟨21,[(.t 4)],(.seq (.reg [oq 4 (.mv (.c (.bool false)))])
(.seq (.reg [oc 8 75 [] 0,
oc 9 76 [] 0,
mt 10 0,
oc 11 35 [(.t 8),(.t 9),(.t 10)] 0,
mt 7 11,
oq 12 (.extract (.t 7) 0),
oq 13 (.extract (.t 7) 1),
mt 5 12,
mt 6 13])
(.seq (.reg [mt 14 6,
oq 15 (bi .eql (.t 14) (ci 0)),
mt 16 15,
og 17 16 true 0 (.mv (.t 5)),
og 18 16 true 0 (.mv (.t 1)),
⟨(some 19),(.x (.call (.c (.fn 19 [] [])) [(.t 17),(.t 18)])),(some (16,true)),0⟩,
oq 20 (.pick (.t 16) (.t 19) (.c (.bool false))),
mt 4 20])
.ret)))⟩
theorem row78 : Row Try.prog (78, a78) := ⟨Try.f78, Try.func78, by kernel_rfl⟩
noncomputable def a79 : AFn :=
⟨44,[(.t 4)],(.seq (.reg [⟨(some 2),(.a (.box 28 (.t 0))),none,0⟩,
⟨(some 3),(.a (.box 55 (.t 1))),none,0⟩,
oq 4 (.mv (ci 0))])
(.seq (.seq (.reg [oq 9 (.ld true 3 (.t 2)),
oc 10 87 [(.t 9)] 0,
mt 5 10])
(.seq (.reg [mt 11 5,
oq 12 (bi .neq (.t 11) (ci 0))])
(.cond (.t 12) (.seq (.reg [mt 13 5,
mt 4 13])
.ret) .skip)))
(.seq (.seq (.reg [oq 14 (.ld true 2 (.t 3)),
oc 15 122 [(.t 14)] 0,
mt 6 15])
(.seq (.reg [mt 16 6,
oq 17 (bi .neq (.t 16) (ci 0))])
(.cond (.t 17) (.seq (.reg [mt 18 6,
mt 4 18])
.ret) .skip)))
(.seq (.seq (.reg [oq 19 (.faddr 1 (.t 3)),
oq 20 (ld 19),
oq 21 (.lenSl (.t 20)),
oq 22 (.faddr 2 (.t 2)),
oq 23 (ld 22),
oq 24 (.lenSl (.t 23)),
oq 25 (bi .neq (.t 21) (.t 24))])
(.cond (.t 25) (.seq (.reg [oq 4 (.mv (ci 10))])
.ret) .skip))
(.seq (.seq (.reg [oq 26 (.faddr 1 (.t 3)),
oq 27 (ld 26),
oq 28 (.lenSl (.t 27)),
oq 29 (.mv (ci 0))])
(.block 0 (.loop (.seq (.reg [oq 30 (bi .lss (.t 29) (.t 28))])
(.seq (.cond (.t 30) .skip (.exit 0))
(.seq (.block 1 (.seq (.reg [mt 31 29,
oq 32 (.iaddr (.slice 1) (.t 27) (.t 29)),
oq 33 (ld 32),
mt 7 31,
mt 8 33])
(.seq (.reg [mt 34 8,
oq 35 (.lenSl (.t 34)),
oq 36 (.faddr 2 (.t 2)),
oq 37 (ld 36),
mt 38 7,
oq 39 (.iaddr (.slice 2) (.t 37) (.t 38)),
oq 40 (.faddr 1 (.t 39)),
oq 41 (ld 40),
oq 42 (bi .neq (.t 35) (.t 41))])
(.cond (.t 42) (.seq (.reg [oq 4 (.mv (ci 10))])
.ret) .skip))))
(.reg [oq 43 (bi .add (.t 29) (ci 1)),
mt 29 43])))))))
(.seq (.reg [oq 4 (.mv (ci 0))])
.ret))))))⟩
theorem row79 : Row Try.prog (79, a79) := ⟨Try.f79, Try.func79, by kernel_rfl⟩
noncomputable def a80 : AFn :=
⟨83,[(.t 4),(.t 5)],(.seq (.reg [⟨(some 2),(.a (.box 28 (.t 0))),none,0⟩,
oq 4 (.mv (ci 0)),
oq 5 (.mv (ci 0))])
(.seq (.reg [oq 14 (.faddr 1 (.t 2)),
oq 15 (ld 14),
oq 16 (.lenSl (.t 15)),
⟨(some 17),(.a (.mkSlice 3 1 8 [(.int .i64 (.ofNat 0))] (.t 16) (.t 16))),none,0⟩,
mt 6 17])
(.seq (.reg [mt 18 6,
oq 19 (.iaddr (.slice 1) (.t 18) (ci 0)),
⟨none,(.x (.st 1 (.t 19) (ci 1))),none,0⟩])
(.seq (.reg [oq 7 (.mv (ci 1))])
(.seq (.seq (.reg [oq 20 (.faddr 1 (.t 2)),
oq 21 (ld 20),
oq 22 (.lenSl (.t 21)),
oq 23 (.mv (ci 0))])
(.block 0 (.loop (.seq (.reg [oq 24 (bi .lss (.t 23) (.t 22))])
(.seq (.cond (.t 24) .skip (.exit 0))
(.seq (.block 1 (.seq (.reg [mt 25 23,
oq 26 (.iaddr (.slice 6) (.t 21) (.t 23)),
oq 27 (.ld true 6 (.t 26)),
⟨(some 9),(.a (.alloc 64 [(.int .i64 (.ofNat 0)),(.int .i64 (.ofNat 0)),(.int .i64 (.ofNat 0)),.nilsl,.nilsl,.nilsl])),none,0⟩,
mt 8 25,
⟨none,(.x (.st 6 (.t 9) (.t 27))),none,0⟩])
(.seq (.seq (.reg [oq 28 (.faddr 0 (.t 9)),
oq 29 (ld 28),
oq 30 (bi .eql (.t 29) (ci 3))])
(.cond (.t 30) (.seq (.reg [mt 31 7,
mt 32 7,
mt 33 6,
mt 34 8,
oq 35 (.iaddr (.slice 1) (.t 33) (.t 34)),
oq 36 (ld 35),
oc 37 123 [(.t 32),(.t 36)] 0,
oq 38 (bi .quo (.t 31) (.t 37)),
mt 10 38])
(.seq (.seq (.reg [mt 39 10,
mt 40 6,
mt 41 8,
oq 42 (.iaddr (.slice 1) (.t 40) (.t 41)),
oq 43 (ld 42),
oq 44 (bi .quo (ci 1000000000000000) (.t 43)),
oq 45 (bi .gtr (.t 39) (.t 44))])
(.cond (.t 45) (.seq (.reg [oq 4 (.mv (ci 0)),
oq 5 (.mv (ci 5))])
.ret) .skip))
(.seq (.reg [mt 46 10,
mt 47 6,
mt 48 8,
oq 49 (.iaddr (.slice 1) (.t 47) (.t 48)),
oq 50 (ld 49),
oq 51 (bi .mul (.t 46) (.t 50)),
mt 7 51])
(.exit 1)))) .skip))
(.seq (.drw [oq 52 (.ld true 6 (.t 9)),
mt 53 1,
oc 54 124 [(.t 52),(.t 53)] 3,
oq 55 (.ld true 6 (.t 9)),
⟨(some 56),(.x (.inv [(119,204,none),(139,207,none),(191,134,none)] (.t 54) [(.t 55)])),none,15⟩,
om 11 31 (.mv (.t 56))])
(.seq (.seq (.reg [mt 57 11,
mt 58 6,
mt 59 8,
oq 60 (.iaddr (.slice 1) (.t 58) (.t 59)),
oq 61 (ld 60),
oq 62 (bi .quo (ci 1000000000000000) (.t 61)),
oq 63 (bi .gtr (.t 57) (.t 62))])
(.cond (.t 63) (.seq (.reg [oq 4 (.mv (ci 0)),
oq 5 (.mv (ci 5))])
.ret) .skip))
(.seq (.reg [oq 64 (.faddr 3 (.t 9)),
oq 65 (ld 64),
oq 66 (.lenSl (.t 65)),
oq 67 (.mv (ci 0))])
(.block 2 (.loop (.seq (.reg [oq 68 (bi .lss (.t 67) (.t 66))])
(.seq (.cond (.t 68) .skip (.exit 2))
(.seq (.block 3 (.seq (.reg [oq 69 (.iaddr (.slice 1) (.t 65) (.t 67)),
oq 70 (ld 69),
mt 13 70])
(.reg [mt 71 6,
mt 72 13,
mt 73 6,
mt 74 8,
oq 75 (.iaddr (.slice 1) (.t 73) (.t 74)),
oq 76 (ld 75),
mt 77 11,
oq 78 (bi .mul (.t 76) (.t 77)),
oq 79 (.iaddr (.slice 1) (.t 71) (.t 72)),
⟨none,(.x (.st 1 (.t 79) (.t 78))),none,0⟩])))
(.reg [oq 80 (bi .add (.t 67) (ci 1)),
mt 67 80]))))))))))))
(.reg [oq 81 (bi .add (.t 23) (ci 1)),
mt 23 81])))))))
(.seq (.reg [mt 82 7,
mt 4 82,
oq 5 (.mv (ci 0))])
.ret))))))⟩
theorem row80 : Row Try.prog (80, a80) := ⟨Try.f80, Try.func80, by kernel_rfl⟩
noncomputable def a90 : AFn :=
⟨78,[(.t 6)],(.seq (.reg [⟨(some 3),(.a (.box 28 (.t 0))),none,0⟩,
oq 6 (.mv (.c .nilsl))])
(.seq (.reg [oq 13 (.faddr 1 (.t 3)),
oq 14 (ld 13),
oq 15 (.lenSl (.t 14)),
⟨(some 16),(.a (.mkSlice 3 1 8 [(.int .i64 (.ofNat 0))] (.t 15) (.t 15))),none,0⟩,
mt 7 16])
(.seq (.reg [mt 17 7,
mt 18 2,
oq 19 (.iaddr (.slice 1) (.t 17) (ci 0)),
⟨none,(.x (.st 1 (.t 19) (.t 18))),none,0⟩])
(.seq (.seq (.reg [oq 20 (.faddr 1 (.t 3)),
oq 21 (ld 20),
oq 22 (.lenSl (.t 21)),
oq 23 (.mv (ci 0))])
(.block 0 (.loop (.seq (.reg [oq 24 (bi .lss (.t 23) (.t 22))])
(.seq (.cond (.t 24) .skip (.exit 0))
(.seq (.block 1 (.seq (.reg [mt 25 23,
oq 26 (.iaddr (.slice 6) (.t 21) (.t 23)),
oq 27 (.ld true 6 (.t 26)),
⟨(some 9),(.a (.alloc 64 [(.int .i64 (.ofNat 0)),(.int .i64 (.ofNat 0)),(.int .i64 (.ofNat 0)),.nilsl,.nilsl,.nilsl])),none,0⟩,
mt 8 25,
⟨none,(.x (.st 6 (.t 9) (.t 27))),none,0⟩])
(.seq (.reg [oq 28 (.faddr 0 (.t 9)),
oq 29 (ld 28)])
(.block 2 (.seq (.reg [oq 31 (bi .eql (.t 29) (ci 1)),
mt 30 31])
(.cond (.t 30) (.seq (.drw [mt 32 7,
mt 33 8,
om 34 3 (.iaddr (.slice 1) (.t 32) (.t 33)),
om 35 7 (ld 34),
oq 36 (.build [] []),
oq 37 (.ld true 6 (.t 9)),
oc 38 134 [(.t 36),(.t 37)] 48,
om 39 127 (bi .quo (.t 35) (.t 38)),
om 10 255 (.mv (.t 39))])
(.seq (.reg [oq 40 (.faddr 3 (.t 9)),
oq 41 (ld 40),
oq 42 (.lenSl (.t 41)),
oq 43 (.mv (ci 0))])
(.block 3 (.loop (.seq (.reg [oq 44 (bi .lss (.t 43) (.t 42))])
(.seq (.cond (.t 44) .skip (.exit 3))
(.seq (.block 4 (.seq (.reg [mt 45 43,
oq 46 (.iaddr (.slice 1) (.t 41) (.t 43)),
oq 47 (ld 46),
mt 11 45,
mt 12 47])
(.reg [mt 48 7,
mt 49 12,
mt 50 10,
oq 51 (.faddr 4 (.t 9)),
oq 52 (ld 51),
mt 53 11,
oq 54 (.iaddr (.slice 1) (.t 52) (.t 53)),
oq 55 (ld 54),
oq 56 (bi .mul (.t 50) (.t 55)),
oq 57 (.iaddr (.slice 1) (.t 48) (.t 49)),
⟨none,(.x (.st 1 (.t 57) (.t 56))),none,0⟩])))
(.reg [oq 58 (bi .add (.t 43) (ci 1)),
mt 43 58])))))))) (.seq (.reg [oq 60 (bi .eql (.t 29) (ci 2)),
mt 59 60])
(.cond (.t 59) (.drw [mt 61 7,
oq 62 (.faddr 3 (.t 9)),
om 63 2 (ld 62),
mt 64 1,
oq 65 (.faddr 2 (.t 9)),
om 66 16 (ld 65),
om 67 56 (.iaddr (.slice 1) (.t 64) (.t 66)),
om 68 120 (ld 67),
om 69 254 (.iaddr (.slice 1) (.t 63) (.t 68)),
om 70 510 (ld 69),
mt 71 7,
mt 72 8,
om 73 3072 (.iaddr (.slice 1) (.t 71) (.t 72)),
om 74 7168 (ld 73),
om 75 16383 (.iaddr (.slice 1) (.t 61) (.t 70)),
⟨none,(.x (.st 1 (.t 75) (.t 74))),none,32767⟩]) .skip))))))))
(.reg [oq 76 (bi .add (.t 23) (ci 1)),
mt 23 76])))))))
(.seq (.reg [mt 77 7,
mt 6 77])
.ret)))))⟩
theorem row90 : Row Try.prog (90, a90) := ⟨Try.f90, Try.func90, by kernel_rfl⟩
noncomputable def a121 : AFn :=
⟨6,[(.cell 2 true 6)],(.seq (.reg [⟨(some 2),(.a (.alloc 64 [(.int .i64 (.ofNat 0)),(.int .i64 (.ofNat 0)),(.int .i64 (.ofNat 0)),.nilsl,.nilsl,.nilsl])),none,0⟩])
(.seq (.reg [mt 3 0,
⟨(some 4),(.a (.bslice 3 1 1 [(.int .i64 (.ofNat 0))] [(0,(.t 3))])),none,0⟩,
oq 5 (.build [(.int .i64 (.ofNat 0)),(.int .i64 (.ofNat 0)),(.int .i64 (.ofNat 0)),.nilsl,.nilsl,.nilsl] [(0,1,(ci 3)),(5,1,(.t 4))]),
⟨none,(.x (.st 6 (.t 2) (.t 5))),none,0⟩])
.ret))⟩
theorem row121 : Row Try.prog (121, a121) := ⟨Try.f121, Try.func121, by kernel_rfl⟩
noncomputable def a122 : AFn :=
⟨55,[(.cell 2 false 1)],(.seq (.reg [⟨(some 1),(.a (.box 55 (.t 0))),none,0⟩,
⟨(some 2),(.a (.alloc 33 [(.int .i64 (.ofNat 0))])),none,0⟩])
(.seq (.seq (.reg [oq 7 (.faddr 0 (.t 1)),
oq 8 (ld 7),
oq 9 (bi .lss (.t 8) (ci 1)),
mt 10 9,
og 11 10 false 0 (.faddr 0 (.t 1)),
og 12 10 false 0 (ld 11),
og 13 10 false 0 (bi .gtr (.t 12) (ci 30)),
oq 14 (.pick (.t 10) (.c (.bool true)) (.t 13))])
(.cond (.t 14) (.seq (.reg [⟨none,(.x (.st 1 (.t 2) (ci 2))),none,0⟩])
.ret) .skip))
(.seq (.seq (.reg [oq 15 (.faddr 1 (.t 1)),
oq 16 (ld 15),
oq 17 (.lenSl (.t 16)),
oq 18 (bi .gtr (.t 17) (ci 200))])
(.cond (.t 18) (.seq (.reg [⟨none,(.x (.st 1 (.t 2) (ci 4))),none,0⟩])
.ret) .skip))
(.seq (.seq (.reg [oq 19 (.faddr 1 (.t 1)),
oq 20 (ld 19),
oc 21 160 [(.t 20)] 0])
(.block 0 (.rng (.t 21) [22] (.reg [mt 3 22]) (.block 1 (.seq (.seq (.reg [mt 23 3,
oq 24 (.lenSl (.t 23)),
oq 25 (bi .lss (.t 24) (ci 1)),
mt 26 25,
og 27 26 false 0 (.mv (.t 3)),
og 28 26 false 0 (.lenSl (.t 27)),
og 29 26 false 0 (bi .gtr (.t 28) (ci 10)),
oq 30 (.pick (.t 26) (.c (.bool true)) (.t 29))])
(.cond (.t 30) (.seq (.reg [⟨none,(.x (.st 1 (.t 2) (ci 3))),none,0⟩])
.ret) .skip))
(.seq (.reg [oq 4 (.mv (ci 0))])
(.seq (.seq (.reg [mt 31 3,
oq 32 (.lenSl (.t 31)),
oq 33 (.mv (ci 0))])
(.block 2 (.loop (.seq (.reg [oq 34 (bi .lss (.t 33) (.t 32))])
(.seq (.cond (.t 34) .skip (.exit 2))
(.seq (.block 3 (.seq (.reg [oq 35 (.iaddr (.slice 1) (.t 31) (.t 33)),
oq 36 (ld 35),
mt 6 36])
(.seq (.seq (.reg [mt 37 6,
oq 38 (bi .lss (.t 37) (ci 0)),
mt 39 38,
og 40 39 false 0 (.mv (.t 6)),
og 41 39 false 0 (.faddr 0 (.t 1)),
og 42 39 false 0 (ld 41),
og 43 39 false 0 (bi .shl (ci 1) (.t 42)),
og 44 39 false 0 (bi .gtr (.t 40) (.t 43)),
oq 45 (.pick (.t 39) (.c (.bool true)) (.t 44))])
(.cond (.t 45) (.seq (.reg [⟨none,(.x (.st 1 (.t 2) (ci 2))),none,0⟩])
.ret) .skip))
(.reg [mt 46 4,
mt 47 6,
oq 48 (bi .add (.t 46) (.t 47)),
mt 4 48]))))
(.reg [oq 49 (bi .add (.t 33) (ci 1)),
mt 33 49])))))))
(.seq (.reg [mt 50 4,
oq 51 (.faddr 0 (.t 1)),
oq 52 (ld 51),
oq 53 (bi .shl (ci 1) (.t 52)),
oq 54 (bi .neq (.t 50) (.t 53))])
(.cond (.t 54) (.seq (.reg [⟨none,(.x (.st 1 (.t 2) (ci 14))),none,0⟩])
.ret) .skip)))))))))
(.seq (.reg [⟨none,(.x (.st 1 (.t 2) (ci 0))),none,0⟩])
.ret)))))⟩
theorem row122 : Row Try.prog (122, a122) := ⟨Try.f122, Try.func122, by kernel_rfl⟩
noncomputable def a123 : AFn :=
⟨12,[(.t 4)],(.seq (.reg [oq 4 (.mv (ci 0))])
(.seq (.block 0 (.loop (.seq (.seq (.reg [mt 5 1,
oq 6 (bi .neq (.t 5) (ci 0))])
(.cond (.t 6) .skip (.exit 0)))
(.block 1 (.drw [mt 7 1,
mt 8 0,
mt 9 1,
om 10 6 (bi .rem (.t 8) (.t 9)),
om 0 3 (.mv (.t 7)),
om 1 31 (.mv (.t 10))])))))
(.seq (.reg [mt 11 0,
mt 4 11])
.ret)))⟩
theorem row123 : Row Try.prog (123, a123) := ⟨Try.f123, Try.func123, by kernel_rfl⟩
noncomputable def a160 : AFn :=
⟨4,[(.t 2)],(.seq (.reg [⟨(some 1),(.a (.box 29 (.t 0))),none,0⟩,
oq 2 (.mv (.c .nilfn))])
(.seq (.reg [oq 3 (.mkFunc 172 [] [(.t 1)]),
mt 2 3])
.ret))⟩
theorem row160 : Row Try.prog (160, a160) := ⟨Try.f160, Try.func160, by kernel_rfl⟩
noncomputable def a172 : AFn :=
⟨16,[],(.seq (.reg [oq 5 (ld 1),
oq 6 (.lenSl (.t 5)),
oq 7 (.mv (ci 0))])
(.block 0 (.loop (.seq (.reg [oq 8 (bi .lss (.t 7) (.t 6))])
(.seq (.cond (.t 8) .skip (.exit 0))
(.seq (.block 1 (.seq (.reg [oq 9 (.iaddr (.slice 1) (.t 5) (.t 7)),
oq 10 (ld 9),
mt 4 10])
(.seq (.reg [mt 11 0,
mt 12 4,
⟨(some 13),(.x (.call (.t 11) [(.t 12)])),none,0⟩,
oq 14 (.un .not (.t 13))])
(.cond (.t 14) .ret .skip))))
(.reg [oq 15 (bi .add (.t 7) (ci 1)),
mt 7 15])))))))⟩
theorem row172 : Row Try.prog (172, a172) := ⟨Try.f172, Try.func172, by kernel_rfl⟩
end Go.Proofs.Ytoojnpjgnnpllaa.lives32
