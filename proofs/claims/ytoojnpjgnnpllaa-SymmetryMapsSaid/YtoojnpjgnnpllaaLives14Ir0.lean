/- The functions that Lives14 reaches, as data of the evaluator (part 0), written by program; each is shown to be the compiler's result on the loaded function. -/
import Derived.Test.YtoojnpjgnnpllaaProg
import Derived.Test.YtoojnpjgnnpllaaEv8
import Derived.KernelRfl
namespace Go.Ev.Gl
end Go.Ev.Gl
namespace Go.Proofs.Ytoojnpjgnnpllaa.lives14
open Go.Ev Go.Ev.Gl
set_option maxRecDepth 100000
noncomputable def a63 : AFn :=
⟨94,[(.t 2),(.t 3)],(.seq (.reg [⟨(some 1),(.a (.box 28 (.t 0))),none,0⟩,
oq 2 (.mv (.c .nilsl)),
oq 3 (.mv (ci 0))])
(.seq (.reg [oq 16 (.ld true 3 (.t 1)),
oc 17 68 [(.t 16)] 0,
mt 15 17,
oq 18 (.extract (.t 15) 0),
oq 19 (.extract (.t 15) 1),
mt 4 18,
mt 5 19])
(.seq (.seq (.reg [mt 20 5,
oq 21 (bi .neq (.t 20) (ci 0))])
(.cond (.t 21) (.seq (.reg [mt 22 5,
oq 2 (.mv (.c .nilsl)),
mt 3 22])
.ret) .skip))
(.seq (.reg [oq 6 (.mv (.c .nilsl))])
(.seq (.seq (.reg [oq 23 (.faddr 1 (.t 1)),
oq 24 (ld 23),
oq 25 (.lenSl (.t 24)),
oq 26 (.mv (ci 0))])
(.block 0 (.loop (.seq (.reg [oq 27 (bi .lss (.t 26) (.t 25))])
(.seq (.cond (.t 27) .skip (.exit 0))
(.seq (.block 1 (.seq (.reg [oq 28 (.iaddr (.slice 6) (.t 24) (.t 26)),
oq 29 (.ld true 6 (.t 28)),
⟨(some 8),(.a (.alloc 64 [(.int .i64 (.ofNat 0)),(.int .i64 (.ofNat 0)),(.int .i64 (.ofNat 0)),.nilsl,.nilsl,.nilsl])),none,0⟩,
⟨none,(.x (.st 6 (.t 8) (.t 29))),none,0⟩])
(.seq (.seq (.reg [oq 30 (.faddr 0 (.t 8)),
oq 31 (ld 30),
oq 32 (bi .neq (.t 31) (ci 1))])
(.cond (.t 32) (.exit 1) .skip))
(.seq (.reg [oq 33 (.faddr 3 (.t 8)),
oq 34 (ld 33),
oq 35 (.lenSl (.t 34)),
oq 36 (.mv (ci 0))])
(.block 2 (.loop (.seq (.reg [oq 37 (bi .lss (.t 36) (.t 35))])
(.seq (.cond (.t 37) .skip (.exit 2))
(.seq (.block 3 (.seq (.reg [mt 38 36,
oq 39 (.iaddr (.slice 1) (.t 34) (.t 36)),
oq 40 (ld 39),
mt 9 38,
mt 10 40])
(.seq (.reg [mt 41 9,
oq 42 (bi .add (.t 41) (ci 1)),
mt 11 42])
(.block 4 (.loop (.seq (.seq (.reg [mt 43 11,
oq 44 (.faddr 3 (.t 8)),
oq 45 (ld 44),
oq 46 (.lenSl (.t 45)),
oq 47 (bi .lss (.t 43) (.t 46))])
(.cond (.t 47) .skip (.exit 4)))
(.seq (.block 5 (.seq (.seq (.drw [oq 50 (.faddr 4 (.t 8)),
om 51 1 (ld 50),
mt 52 9,
om 53 7 (.iaddr (.slice 1) (.t 51) (.t 52)),
om 54 15 (ld 53),
oq 55 (.faddr 4 (.t 8)),
om 56 32 (ld 55),
mt 57 11,
om 58 224 (.iaddr (.slice 1) (.t 56) (.t 57)),
om 59 480 (ld 58),
om 60 1023 (bi .neq (.t 54) (.t 59)),
om 61 2047 (.mv (.t 60)),
og 62 61 false 4095 (.mv (.t 4)),
og 63 61 false 4095 (.mv (.t 10)),
og 64 61 false 4095 (.faddr 3 (.t 8)),
og 65 61 false 20479 (ld 64),
og 66 61 false 4095 (.mv (.t 11)),
og 67 61 false 118783 (.iaddr (.slice 1) (.t 65) (.t 66)),
og 68 61 false 249855 (ld 67),
⟨(some 69),(.x (.call (.c (.fn 114 [] [])) [(.t 62),(.t 63),(.t 68)])),(some (61,false)),524287⟩,
og 70 61 false 1048575 (.un .not (.t 69)),
om 71 2097151 (.pick (.t 61) (.c (.bool true)) (.t 70))])
(.cond (.t 71) (.exit 5) .skip))
(.seq (.reg [mt 72 4,
mt 73 10,
oq 74 (.faddr 3 (.t 8)),
oq 75 (ld 74),
mt 76 11,
oq 77 (.iaddr (.slice 1) (.t 75) (.t 76)),
oq 78 (ld 77),
oc 79 115 [(.t 72),(.t 73),(.t 78)] 0,
mt 12 79])
(.seq (.reg [mt 81 4,
mt 82 12,
oc 83 116 [(.t 81),(.t 82)] 0,
mt 80 83,
oq 84 (.extract (.t 80) 0),
oq 85 (.extract (.t 80) 1),
⟨(some 13),(.a (.alloc 108 [.nilsl,.nilsl])),none,0⟩,
⟨none,(.x (.st 2 (.t 13) (.t 84))),none,0⟩,
mt 14 85])
(.seq (.reg [mt 86 14])
(.cond (.t 86) (.reg [mt 87 6,
mt 88 12,
⟨(some 89),(.a (.bslice 22 1 1 [.nilsl] [(0,(.t 88))])),none,0⟩,
⟨(some 90),(.x (.app 22 1 24 (.t 87) (.t 89))),none,0⟩,
mt 6 90]) .skip))))))
(.reg [mt 48 11,
oq 49 (bi .add (.t 48) (ci 1)),
mt 11 49]))))))))
(.reg [oq 91 (bi .add (.t 36) (ci 1)),
mt 36 91]))))))))))
(.reg [oq 92 (bi .add (.t 26) (ci 1)),
mt 26 92])))))))
(.seq (.reg [mt 93 6,
mt 2 93,
oq 3 (.mv (ci 0))])
.ret))))))⟩
theorem row63 : Row Try.prog (63, a63) := ⟨Try.f63, Try.func63, by kernel_rfl⟩
noncomputable def a64 : AFn :=
⟨19,[(.cell 0 true 3)],(.seq (.reg [⟨(some 0),(.a (.alloc 28 [(.int .i64 (.ofNat 0)),.nilsl,.nilsl])),none,0⟩])
(.seq (.reg [⟨(some 2),(.a (.bslice 3 1 2 [(.int .i64 (.ofNat 0))] [(0,(ci 1)),(1,(ci 2))])),none,0⟩,
mt 1 2])
(.seq (.reg [⟨(some 3),(.a (.bslice 3 1 3 [(.int .i64 (.ofNat 0))] [(0,(ci 1)),(1,(ci 1)),(2,(ci 2))])),none,0⟩,
⟨(some 4),(.a (.bslice 3 1 3 [(.int .i64 (.ofNat 0))] [(0,(ci 1)),(1,(ci 4)),(2,(ci 7))])),none,0⟩,
oc 5 117 [(.t 3),(.t 4)] 0,
mt 6 1,
⟨(some 7),(.a (.bslice 3 1 2 [(.int .i64 (.ofNat 0))] [(0,(ci 2)),(1,(ci 3))])),none,0⟩,
oc 8 117 [(.t 6),(.t 7)] 0,
oc 9 118 [(ci 1)] 0,
oc 10 118 [(ci 2)] 0,
mt 11 1,
⟨(some 12),(.a (.bslice 3 1 2 [(.int .i64 (.ofNat 0))] [(0,(ci 5)),(1,(ci 6))])),none,0⟩,
oc 13 117 [(.t 11),(.t 12)] 0,
oc 14 118 [(ci 1)] 0,
oc 15 118 [(ci 2)] 0,
oc 16 118 [(ci 9)] 0,
⟨(some 17),(.a (.bslice 64 6 8 [(.int .i64 (.ofNat 0)),(.int .i64 (.ofNat 0)),(.int .i64 (.ofNat 0)),.nilsl,.nilsl,.nilsl] [(0,(.t 5)),(1,(.t 8)),(2,(.t 9)),(3,(.t 10)),(4,(.t 13)),(5,(.t 14)),(6,(.t 15)),(7,(.t 16))])),none,0⟩,
oq 18 (.build [(.int .i64 (.ofNat 0)),.nilsl,.nilsl] [(0,1,(ci 1)),(1,1,(.t 17))]),
⟨none,(.x (.st 3 (.t 0) (.t 18))),none,0⟩])
.ret)))⟩
theorem row64 : Row Try.prog (64, a64) := ⟨Try.f64, Try.func64, by kernel_rfl⟩
noncomputable def a65 : AFn :=
⟨2,[(.t 0)],(.seq (.reg [oq 0 (.mv (.c .nilsl))])
(.seq (.reg [⟨(some 1),(.a (.bslice 3 1 8 [(.int .i64 (.ofNat 0))] [(0,(ci 0)),(1,(ci 4)),(2,(ci 5)),(3,(ci 6)),(4,(ci 1)),(5,(ci 2)),(6,(ci 3)),(7,(ci 7))])),none,0⟩,
mt 0 1])
.ret))⟩
theorem row65 : Row Try.prog (65, a65) := ⟨Try.f65, Try.func65, by kernel_rfl⟩
noncomputable def a66 : AFn :=
⟨9,[(.cell 0 true 3)],(.seq (.reg [⟨(some 0),(.a (.alloc 28 [(.int .i64 (.ofNat 0)),.nilsl,.nilsl])),none,0⟩])
(.seq (.reg [⟨(some 1),(.a (.bslice 3 1 3 [(.int .i64 (.ofNat 0))] [(0,(ci 1)),(1,(ci 1)),(2,(ci 1))])),none,0⟩,
⟨(some 2),(.a (.bslice 3 1 3 [(.int .i64 (.ofNat 0))] [(0,(ci 1)),(1,(ci 2)),(2,(ci 3))])),none,0⟩,
oc 3 117 [(.t 1),(.t 2)] 0,
oc 4 118 [(ci 5)] 0,
oc 5 118 [(ci 7)] 0,
oc 6 118 [(ci 5)] 0,
⟨(some 7),(.a (.bslice 64 6 4 [(.int .i64 (.ofNat 0)),(.int .i64 (.ofNat 0)),(.int .i64 (.ofNat 0)),.nilsl,.nilsl,.nilsl] [(0,(.t 3)),(1,(.t 4)),(2,(.t 5)),(3,(.t 6))])),none,0⟩,
oq 8 (.build [(.int .i64 (.ofNat 0)),.nilsl,.nilsl] [(0,1,(ci 1)),(1,1,(.t 7))]),
⟨none,(.x (.st 3 (.t 0) (.t 8))),none,0⟩])
.ret))⟩
theorem row66 : Row Try.prog (66, a66) := ⟨Try.f66, Try.func66, by kernel_rfl⟩
noncomputable def a114 : AFn :=
⟨95,[(.t 6)],(.seq (.reg [⟨(some 4),(.a (.box 3 (.t 1))),none,0⟩,
⟨(some 5),(.a (.box 3 (.t 2))),none,0⟩,
oq 6 (.mv (.c (.bool false)))])
(.seq (.seq (.drw [mt 11 0,
om 12 1 (.nilchk (.t 11)),
om 13 3 (.faddr 5 (.t 12)),
om 14 7 (ld 13),
oq 15 (ld 4),
om 16 31 (.iaddr (.slice 1) (.t 14) (.t 15)),
om 17 63 (ld 16),
mt 18 0,
om 19 128 (.nilchk (.t 18)),
om 20 384 (.faddr 5 (.t 19)),
om 21 896 (ld 20),
oq 22 (ld 5),
om 23 3968 (.iaddr (.slice 1) (.t 21) (.t 22)),
om 24 8064 (ld 23),
om 25 16383 (bi .neq (.t 17) (.t 24))])
(.cond (.t 25) (.seq (.reg [oq 6 (.mv (.c (.bool false)))])
.ret) .skip))
(.seq (.reg [oq 26 (.mkFunc 151 [] [(.t 4),(.t 5)]),
mt 7 26])
(.seq (.seq (.drw [mt 27 0,
om 28 1 (.nilchk (.t 27)),
om 29 3 (.faddr 5 (.t 28)),
om 30 7 (ld 29),
oq 31 (ld 4),
om 32 31 (.iaddr (.slice 1) (.t 30) (.t 31)),
om 33 63 (ld 32),
oq 34 (.mv (ci 0))])
(.block 0 (.loop (.seq (.reg [oq 35 (bi .lss (.t 34) (.t 33))])
(.seq (.cond (.t 35) .skip (.exit 0))
(.seq (.block 1 (.seq (.reg [mt 36 34,
mt 8 36])
(.seq (.drw [mt 37 0,
om 38 1 (.nilchk (.t 37)),
om 39 3 (.faddr 0 (.t 38)),
om 40 7 (.faddr 1 (.t 39)),
om 41 15 (ld 40),
oq 42 (ld 4),
mt 43 8,
om 44 96 (bi .add (.t 42) (.t 43)),
om 45 255 (.iaddr (.slice 6) (.t 41) (.t 44)),
om 46 511 (.ld true 6 (.t 45)),
mt 47 0,
om 48 1024 (.nilchk (.t 47)),
om 49 3072 (.faddr 0 (.t 48)),
om 50 7168 (.faddr 1 (.t 49)),
om 51 15360 (ld 50),
oq 52 (ld 5),
mt 53 8,
om 54 98304 (bi .add (.t 52) (.t 53)),
om 55 261120 (.iaddr (.slice 6) (.t 51) (.t 54)),
om 56 523264 (.ld true 6 (.t 55)),
⟨(some 9),(.a (.alloc 64 [(.int .i64 (.ofNat 0)),(.int .i64 (.ofNat 0)),(.int .i64 (.ofNat 0)),.nilsl,.nilsl,.nilsl])),none,0⟩,
⟨(some 10),(.a (.alloc 64 [(.int .i64 (.ofNat 0)),(.int .i64 (.ofNat 0)),(.int .i64 (.ofNat 0)),.nilsl,.nilsl,.nilsl])),none,0⟩,
⟨none,(.x (.st 6 (.t 9) (.t 46))),none,3146751⟩,
⟨none,(.x (.st 6 (.t 10) (.t 56))),none,8388607⟩])
(.seq (.reg [oq 57 (.faddr 0 (.t 9)),
oq 58 (ld 57),
oq 59 (.faddr 0 (.t 10)),
oq 60 (ld 59),
oq 61 (bi .neq (.t 58) (.t 60)),
mt 62 61,
og 63 62 false 0 (.faddr 1 (.t 9)),
og 64 62 false 0 (ld 63),
og 65 62 false 0 (.faddr 1 (.t 10)),
og 66 62 false 0 (ld 65),
og 67 62 false 0 (bi .neq (.t 64) (.t 66)),
oq 68 (.pick (.t 62) (.c (.bool true)) (.t 67)),
mt 69 68,
og 70 69 false 0 (.faddr 5 (.t 9)),
og 71 69 false 0 (ld 70),
og 72 69 false 0 (.faddr 5 (.t 10)),
og 73 69 false 0 (ld 72),
⟨(some 74),(.x (.call (.c (.fn 152 [] [])) [(.t 71),(.t 73)])),(some (69,false)),0⟩,
og 75 69 false 0 (.un .not (.t 74)),
oq 76 (.pick (.t 69) (.c (.bool true)) (.t 75)),
mt 77 76,
og 78 77 false 0 (.faddr 4 (.t 9)),
og 79 77 false 0 (ld 78),
og 80 77 false 0 (.faddr 4 (.t 10)),
og 81 77 false 0 (ld 80),
⟨(some 82),(.x (.call (.c (.fn 152 [] [])) [(.t 79),(.t 81)])),(some (77,false)),0⟩,
og 83 77 false 0 (.un .not (.t 82)),
oq 84 (.pick (.t 77) (.c (.bool true)) (.t 83)),
mt 85 84,
og 86 85 false 0 (.faddr 3 (.t 9)),
og 87 85 false 0 (ld 86),
og 88 85 false 0 (.faddr 3 (.t 10)),
og 89 85 false 0 (ld 88),
og 90 85 false 0 (.mv (.t 7)),
⟨(some 91),(.x (.call (.c (.fn 153 [] [])) [(.t 87),(.t 89),(.t 90)])),(some (85,false)),0⟩,
og 92 85 false 0 (.un .not (.t 91)),
oq 93 (.pick (.t 85) (.c (.bool true)) (.t 92))])
(.cond (.t 93) (.seq (.reg [oq 6 (.mv (.c (.bool false)))])
.ret) .skip)))))
(.reg [oq 94 (bi .add (.t 34) (ci 1)),
mt 34 94])))))))
(.seq (.reg [oq 6 (.mv (.c (.bool true)))])
.ret)))))⟩
theorem row114 : Row Try.prog (114, a114) := ⟨Try.f114, Try.func114, by kernel_rfl⟩
noncomputable def a115 : AFn :=
⟨39,[(.t 6)],(.seq (.reg [oq 6 (.mv (.c .nilsl))])
(.seq (.reg [mt 9 0,
oc 10 154 [(.t 9)] 0,
mt 7 10])
(.seq (.seq (.reg [mt 11 0,
oq 12 (.nilchk (.t 11)),
oq 13 (.faddr 5 (.t 12)),
oq 14 (ld 13),
mt 15 1,
oq 16 (.iaddr (.slice 1) (.t 14) (.t 15)),
oq 17 (ld 16),
oq 18 (.mv (ci 0))])
(.block 0 (.loop (.seq (.reg [oq 19 (bi .lss (.t 18) (.t 17))])
(.seq (.cond (.t 19) .skip (.exit 0))
(.seq (.block 1 (.seq (.reg [mt 20 18,
mt 8 20])
(.reg [mt 21 7,
mt 22 1,
mt 23 8,
oq 24 (bi .add (.t 22) (.t 23)),
mt 25 7,
mt 26 2,
mt 27 8,
oq 28 (bi .add (.t 26) (.t 27)),
mt 29 2,
mt 30 8,
oq 31 (bi .add (.t 29) (.t 30)),
mt 32 1,
mt 33 8,
oq 34 (bi .add (.t 32) (.t 33)),
oq 35 (.iaddr (.slice 1) (.t 21) (.t 24)),
⟨none,(.x (.st 1 (.t 35) (.t 31))),none,0⟩,
oq 36 (.iaddr (.slice 1) (.t 25) (.t 28)),
⟨none,(.x (.st 1 (.t 36) (.t 34))),none,0⟩])))
(.reg [oq 37 (bi .add (.t 18) (ci 1)),
mt 18 37])))))))
(.seq (.reg [mt 38 7,
mt 6 38])
.ret))))⟩
theorem row115 : Row Try.prog (115, a115) := ⟨Try.f115, Try.func115, by kernel_rfl⟩
noncomputable def a117 : AFn :=
⟨8,[(.cell 4 true 6)],(.seq (.reg [⟨(some 4),(.a (.alloc 64 [(.int .i64 (.ofNat 0)),(.int .i64 (.ofNat 0)),(.int .i64 (.ofNat 0)),.nilsl,.nilsl,.nilsl])),none,0⟩])
(.seq (.reg [mt 5 0,
mt 6 1,
oq 7 (.build [(.int .i64 (.ofNat 0)),(.int .i64 (.ofNat 0)),(.int .i64 (.ofNat 0)),.nilsl,.nilsl,.nilsl] [(0,1,(ci 1)),(4,1,(.t 5)),(3,1,(.t 6))]),
⟨none,(.x (.st 6 (.t 4) (.t 7))),none,0⟩])
.ret))⟩
theorem row117 : Row Try.prog (117, a117) := ⟨Try.f117, Try.func117, by kernel_rfl⟩
noncomputable def a118 : AFn :=
⟨6,[(.cell 2 true 6)],(.seq (.reg [⟨(some 2),(.a (.alloc 64 [(.int .i64 (.ofNat 0)),(.int .i64 (.ofNat 0)),(.int .i64 (.ofNat 0)),.nilsl,.nilsl,.nilsl])),none,0⟩])
(.seq (.reg [mt 3 0,
⟨(some 4),(.a (.bslice 3 1 1 [(.int .i64 (.ofNat 0))] [(0,(.t 3))])),none,0⟩,
oq 5 (.build [(.int .i64 (.ofNat 0)),(.int .i64 (.ofNat 0)),(.int .i64 (.ofNat 0)),.nilsl,.nilsl,.nilsl] [(0,1,(ci 3)),(5,1,(.t 4))]),
⟨none,(.x (.st 6 (.t 2) (.t 5))),none,0⟩])
.ret))⟩
theorem row118 : Row Try.prog (118, a118) := ⟨Try.f118, Try.func118, by kernel_rfl⟩
noncomputable def a151 : AFn :=
⟨14,[(.t 6)],(.seq (.reg [oq 6 (.mv (.c (.bool false)))])
(.seq (.reg [mt 7 0,
oq 8 (ld 2),
oq 9 (bi .sub (.t 7) (.t 8)),
mt 10 1,
oq 11 (ld 3),
oq 12 (bi .sub (.t 10) (.t 11)),
oq 13 (bi .eql (.t 9) (.t 12)),
mt 6 13])
.ret))⟩
theorem row151 : Row Try.prog (151, a151) := ⟨Try.f151, Try.func151, by kernel_rfl⟩
noncomputable def a153 : AFn :=
⟨32,[(.t 6)],(.seq (.reg [oq 6 (.mv (.c (.bool false)))])
(.seq (.seq (.reg [mt 10 0,
oq 11 (.lenSl (.t 10)),
mt 12 1,
oq 13 (.lenSl (.t 12)),
oq 14 (bi .neq (.t 11) (.t 13))])
(.cond (.t 14) (.seq (.reg [oq 6 (.mv (.c (.bool false)))])
.ret) .skip))
(.seq (.seq (.reg [mt 15 0,
oq 16 (.lenSl (.t 15)),
oq 17 (.mv (ci 0))])
(.block 0 (.loop (.seq (.reg [oq 18 (bi .lss (.t 17) (.t 16))])
(.seq (.cond (.t 18) .skip (.exit 0))
(.seq (.block 1 (.seq (.reg [mt 19 17,
oq 20 (.iaddr (.slice 1) (.t 15) (.t 17)),
oq 21 (ld 20),
mt 7 19,
mt 8 21])
(.seq (.reg [mt 22 1,
mt 23 7,
oq 24 (.iaddr (.slice 1) (.t 22) (.t 23)),
oq 25 (ld 24),
mt 9 25])
(.seq (.reg [mt 26 2,
mt 27 8,
mt 28 9,
⟨(some 29),(.x (.call (.t 26) [(.t 27),(.t 28)])),none,0⟩,
oq 30 (.un .not (.t 29))])
(.cond (.t 30) (.seq (.reg [oq 6 (.mv (.c (.bool false)))])
.ret) .skip)))))
(.reg [oq 31 (bi .add (.t 17) (ci 1)),
mt 17 31])))))))
(.seq (.reg [oq 6 (.mv (.c (.bool true)))])
.ret))))⟩
theorem row153 : Row Try.prog (153, a153) := ⟨Try.f153, Try.func153, by kernel_rfl⟩
noncomputable def a154 : AFn :=
⟨23,[(.t 2)],(.seq (.reg [oq 2 (.mv (.c .nilsl))])
(.seq (.reg [mt 5 0,
oq 6 (.nilchk (.t 5)),
oq 7 (.faddr 0 (.t 6)),
oq 8 (.faddr 1 (.t 7)),
oq 9 (ld 8),
oq 10 (.lenSl (.t 9)),
⟨(some 11),(.a (.mkSlice 3 1 8 [(.int .i64 (.ofNat 0))] (.t 10) (.t 10))),none,0⟩,
mt 3 11])
(.seq (.seq (.reg [mt 12 3,
oq 13 (.lenSl (.t 12)),
oq 14 (.mv (ci 0))])
(.block 0 (.loop (.seq (.reg [oq 15 (bi .lss (.t 14) (.t 13))])
(.seq (.cond (.t 15) .skip (.exit 0))
(.seq (.block 1 (.seq (.reg [mt 16 14,
mt 4 16])
(.reg [mt 17 3,
mt 18 4,
mt 19 4,
oq 20 (.iaddr (.slice 1) (.t 17) (.t 18)),
⟨none,(.x (.st 1 (.t 20) (.t 19))),none,0⟩])))
(.reg [oq 21 (bi .add (.t 14) (ci 1)),
mt 14 21])))))))
(.seq (.reg [mt 22 3,
mt 2 22])
.ret))))⟩
theorem row154 : Row Try.prog (154, a154) := ⟨Try.f154, Try.func154, by kernel_rfl⟩
end Go.Proofs.Ytoojnpjgnnpllaa.lives14
