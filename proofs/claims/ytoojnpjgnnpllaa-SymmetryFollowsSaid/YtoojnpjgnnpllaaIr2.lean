import Derived.Test.YtoojnpjgnnpllaaProg
import Derived.Test.YtoojnpjgnnpllaaEv8
import Derived.KernelRfl
namespace Go.Ev.Gl
set_option maxRecDepth 100000
noncomputable def a114 : eJ :=
⟨95,[(.t 6)],(.seq (.reg [⟨(some 4),(.a (.box 3 (.t 1))),none,0⟩,
⟨(some 5),(.a (.box 3 (.t 2))),none,0⟩,
oq 6 (.mv (.c (.bool false)))])
(.seq (.seq (.drw [mt 11 0,
om 12 1 (.nilchk (.t 11)),
om 13 3 (.faddr 5 (.t 12)),
om 14 7 (ld 13),
oq 15 (ld 4),
om 16 31 (.iaddr (.slice 1) (.t 14) (.t 15)),
om 17 63 (ld 16),
mt 18 0,
om 19 128 (.nilchk (.t 18)),
om 20 384 (.faddr 5 (.t 19)),
om 21 896 (ld 20),
oq 22 (ld 5),
om 23 3968 (.iaddr (.slice 1) (.t 21) (.t 22)),
om 24 8064 (ld 23),
om 25 16383 (bi .neq (.t 17) (.t 24))])
(.cond (.t 25) (.seq (.reg [oq 6 (.mv (.c (.bool false)))])
.ret) .skip))
(.seq (.reg [oq 26 (.mkFunc 151 [] [(.t 4),(.t 5)]),
mt 7 26])
(.seq (.seq (.drw [mt 27 0,
om 28 1 (.nilchk (.t 27)),
om 29 3 (.faddr 5 (.t 28)),
om 30 7 (ld 29),
oq 31 (ld 4),
om 32 31 (.iaddr (.slice 1) (.t 30) (.t 31)),
om 33 63 (ld 32),
oq 34 (.mv (ci 0))])
(.block 0 (.loop (.seq (.reg [oq 35 (bi .lss (.t 34) (.t 33))])
(.seq (.cond (.t 35) .skip (.exit 0))
(.seq (.block 1 (.seq (.reg [mt 36 34,
mt 8 36])
(.seq (.drw [mt 37 0,
om 38 1 (.nilchk (.t 37)),
om 39 3 (.faddr 0 (.t 38)),
om 40 7 (.faddr 1 (.t 39)),
om 41 15 (ld 40),
oq 42 (ld 4),
mt 43 8,
om 44 96 (bi .add (.t 42) (.t 43)),
om 45 255 (.iaddr (.slice 6) (.t 41) (.t 44)),
om 46 511 (.ld true 6 (.t 45)),
mt 47 0,
om 48 1024 (.nilchk (.t 47)),
om 49 3072 (.faddr 0 (.t 48)),
om 50 7168 (.faddr 1 (.t 49)),
om 51 15360 (ld 50),
oq 52 (ld 5),
mt 53 8,
om 54 98304 (bi .add (.t 52) (.t 53)),
om 55 261120 (.iaddr (.slice 6) (.t 51) (.t 54)),
om 56 523264 (.ld true 6 (.t 55)),
⟨(some 9),(.a (.alloc 64 [(.int .i64 (.ofNat 0)),(.int .i64 (.ofNat 0)),(.int .i64 (.ofNat 0)),.nilsl,.nilsl,.nilsl])),none,0⟩,
⟨(some 10),(.a (.alloc 64 [(.int .i64 (.ofNat 0)),(.int .i64 (.ofNat 0)),(.int .i64 (.ofNat 0)),.nilsl,.nilsl,.nilsl])),none,0⟩,
⟨none,(.x (.st 6 (.t 9) (.t 46))),none,3146751⟩,
⟨none,(.x (.st 6 (.t 10) (.t 56))),none,8388607⟩])
(.seq (.reg [oq 57 (.faddr 0 (.t 9)),
oq 58 (ld 57),
oq 59 (.faddr 0 (.t 10)),
oq 60 (ld 59),
oq 61 (bi .neq (.t 58) (.t 60)),
mt 62 61,
og 63 62 false 0 (.faddr 1 (.t 9)),
og 64 62 false 0 (ld 63),
og 65 62 false 0 (.faddr 1 (.t 10)),
og 66 62 false 0 (ld 65),
og 67 62 false 0 (bi .neq (.t 64) (.t 66)),
oq 68 (.pick (.t 62) (.c (.bool true)) (.t 67)),
mt 69 68,
og 70 69 false 0 (.faddr 5 (.t 9)),
og 71 69 false 0 (ld 70),
og 72 69 false 0 (.faddr 5 (.t 10)),
og 73 69 false 0 (ld 72),
⟨(some 74),(.x (.call (.c (.fn 152 [] [])) [(.t 71),(.t 73)])),(some (69,false)),0⟩,
og 75 69 false 0 (.un .not (.t 74)),
oq 76 (.pick (.t 69) (.c (.bool true)) (.t 75)),
mt 77 76,
og 78 77 false 0 (.faddr 4 (.t 9)),
og 79 77 false 0 (ld 78),
og 80 77 false 0 (.faddr 4 (.t 10)),
og 81 77 false 0 (ld 80),
⟨(some 82),(.x (.call (.c (.fn 152 [] [])) [(.t 79),(.t 81)])),(some (77,false)),0⟩,
og 83 77 false 0 (.un .not (.t 82)),
oq 84 (.pick (.t 77) (.c (.bool true)) (.t 83)),
mt 85 84,
og 86 85 false 0 (.faddr 3 (.t 9)),
og 87 85 false 0 (ld 86),
og 88 85 false 0 (.faddr 3 (.t 10)),
og 89 85 false 0 (ld 88),
og 90 85 false 0 (.mv (.t 7)),
⟨(some 91),(.x (.call (.c (.fn 153 [] [])) [(.t 87),(.t 89),(.t 90)])),(some (85,false)),0⟩,
og 92 85 false 0 (.un .not (.t 91)),
oq 93 (.pick (.t 85) (.c (.bool true)) (.t 92))])
(.cond (.t 93) (.seq (.reg [oq 6 (.mv (.c (.bool false)))])
.ret) .skip)))))
(.reg [oq 94 (bi .add (.t 34) (ci 1)),
mt 34 94])))))))
(.seq (.reg [oq 6 (.mv (.c (.bool true)))])
.ret)))))⟩
theorem row114 : Row Go.Proofs.Try.prog (114, a114) := ⟨Go.Proofs.Try.f114, Go.Proofs.Try.func114, by kernel_rfl⟩
noncomputable def a115 : eJ :=
⟨39,[(.t 6)],(.seq (.reg [oq 6 (.mv (.c .nilsl))])
(.seq (.reg [mt 9 0,
oc 10 154 [(.t 9)] 0,
mt 7 10])
(.seq (.seq (.reg [mt 11 0,
oq 12 (.nilchk (.t 11)),
oq 13 (.faddr 5 (.t 12)),
oq 14 (ld 13),
mt 15 1,
oq 16 (.iaddr (.slice 1) (.t 14) (.t 15)),
oq 17 (ld 16),
oq 18 (.mv (ci 0))])
(.block 0 (.loop (.seq (.reg [oq 19 (bi .lss (.t 18) (.t 17))])
(.seq (.cond (.t 19) .skip (.exit 0))
(.seq (.block 1 (.seq (.reg [mt 20 18,
mt 8 20])
(.reg [mt 21 7,
mt 22 1,
mt 23 8,
oq 24 (bi .add (.t 22) (.t 23)),
mt 25 7,
mt 26 2,
mt 27 8,
oq 28 (bi .add (.t 26) (.t 27)),
mt 29 2,
mt 30 8,
oq 31 (bi .add (.t 29) (.t 30)),
mt 32 1,
mt 33 8,
oq 34 (bi .add (.t 32) (.t 33)),
oq 35 (.iaddr (.slice 1) (.t 21) (.t 24)),
⟨none,(.x (.st 1 (.t 35) (.t 31))),none,0⟩,
oq 36 (.iaddr (.slice 1) (.t 25) (.t 28)),
⟨none,(.x (.st 1 (.t 36) (.t 34))),none,0⟩])))
(.reg [oq 37 (bi .add (.t 18) (ci 1)),
mt 18 37])))))))
(.seq (.reg [mt 38 7,
mt 6 38])
.ret))))⟩
theorem row115 : Row Go.Proofs.Try.prog (115, a115) := ⟨Go.Proofs.Try.f115, Go.Proofs.Try.func115, by kernel_rfl⟩
noncomputable def a116 : eJ :=
⟨64,[(.cell 4 true 2),(.t 5)],(.seq (.reg [⟨(some 2),(.a (.box 104 (.t 0))),none,0⟩,
⟨(some 3),(.a (.box 22 (.t 1))),none,0⟩,
⟨(some 4),(.a (.alloc 108 [.nilsl,.nilsl])),none,0⟩,
oq 5 (.mv (.c (.bool false)))])
(.seq (.drw [oq 11 (ld 2),
om 12 1 (.nilchk (.t 11)),
om 13 3 (.faddr 0 (.t 12)),
om 14 7 (.faddr 2 (.t 13)),
om 15 15 (ld 14),
om 16 31 (.lenSl (.t 15)),
oc 17 155 [(.t 16)] 63,
oq 18 (ld 2),
om 19 128 (.nilchk (.t 18)),
om 20 384 (.faddr 0 (.t 19)),
om 21 896 (.faddr 2 (.t 20)),
om 22 1920 (ld 21),
om 23 3968 (.lenSl (.t 22)),
⟨(some 24),(.a (.mkSlice 22 1 24 [.nilsl] (.t 23) (.t 23))),none,8064⟩,
om 25 16383 (.build [.nilsl,.nilsl] [(0,1,(.t 17)),(1,1,(.t 24))]),
⟨(some 6),(.a (.alloc 108 [.nilsl,.nilsl])),none,0⟩,
⟨none,(.x (.st 2 (.t 6) (.t 25))),none,65535⟩])
(.seq (.reg [oq 26 (ld 2),
oq 27 (.nilchk (.t 26)),
oq 28 (.faddr 0 (.t 27)),
oq 29 (.faddr 2 (.t 28)),
oq 30 (ld 29),
oq 31 (.lenSl (.t 30)),
oc 32 155 [(.t 31)] 0,
⟨(some 7),(.a (.alloc 22 [.nilsl])),none,0⟩,
⟨none,(.x (.st 1 (.t 7) (.t 32))),none,0⟩])
(.seq (.seq (.reg [oq 33 (ld 2),
oq 34 (.nilchk (.t 33)),
oq 35 (.faddr 0 (.t 34)),
oq 36 (.faddr 2 (.t 35)),
oq 37 (ld 36),
oq 38 (.lenSl (.t 37)),
oq 39 (.mv (ci 0))])
(.block 0 (.loop (.seq (.reg [oq 40 (bi .lss (.t 39) (.t 38))])
(.seq (.cond (.t 40) .skip (.exit 0))
(.seq (.block 1 (.seq (.reg [mt 41 39,
oq 42 (.iaddr (.slice 2) (.t 37) (.t 39)),
oq 43 (.ld true 2 (.t 42)),
⟨(some 9),(.a (.alloc 48 [(.int .i64 (.ofNat 0)),(.int .i64 (.ofNat 0))])),none,0⟩,
mt 8 41,
⟨none,(.x (.st 2 (.t 9) (.t 43))),none,0⟩])
(.drw [oq 44 (.faddr 1 (.t 6)),
om 45 1 (ld 44),
mt 46 8,
oq 47 (.faddr 1 (.t 9)),
om 48 8 (ld 47),
oc 49 155 [(.t 48)] 24,
om 50 63 (.iaddr (.slice 1) (.t 45) (.t 46)),
⟨none,(.x (.st 1 (.t 50) (.t 49))),none,127⟩])))
(.reg [oq 51 (bi .add (.t 39) (ci 1)),
mt 39 51])))))))
(.seq (.reg [⟨(some 10),(.a (.alloc 166 [.nilfn])),none,0⟩])
(.seq (.reg [oq 52 (.mkFunc 156 [] [(.t 2),(.t 6),(.t 7),(.t 3),(.t 10)]),
⟨none,(.x (.st 1 (.t 10) (.t 52))),none,0⟩])
(.seq (.seq (.reg [oq 53 (ld 3),
oq 54 (.iaddr (.slice 1) (.t 53) (ci 0)),
oq 55 (ld 54),
oq 56 (bi .neq (.t 55) (ci 0)),
mt 57 56,
og 58 57 false 0 (ld 10),
⟨(some 59),(.x (.call (.t 58) [(ci 0),(ci 0)])),(some (57,false)),0⟩,
og 60 57 false 0 (.un .not (.t 59)),
oq 61 (.pick (.t 57) (.c (.bool true)) (.t 60))])
(.cond (.t 61) (.seq (.reg [oq 62 (.build [.nilsl,.nilsl] []),
⟨none,(.x (.st 2 (.t 4) (.t 62))),none,0⟩,
oq 5 (.mv (.c (.bool false)))])
.ret) .skip))
(.seq (.reg [oq 63 (.ld true 2 (.t 6)),
⟨none,(.x (.st 2 (.t 4) (.t 63))),none,0⟩,
oq 5 (.mv (.c (.bool true)))])
.ret))))))))⟩
theorem row116 : Row Go.Proofs.Try.prog (116, a116) := ⟨Go.Proofs.Try.f116, Go.Proofs.Try.func116, by kernel_rfl⟩
noncomputable def a119 : eJ :=
⟨8,[(.t 2),(.t 3)],(.seq (.reg [⟨(some 1),(.a (.box 28 (.t 0))),none,0⟩,
oq 2 (.mv (.c .nilsl)),
oq 3 (.mv (ci 0))])
(.seq (.reg [oq 4 (.ld true 3 (.t 1)),
oc 5 158 [(.t 4),(.c (.fn 159 [] []))] 0,
oq 6 (.extract (.t 5) 0),
oq 7 (.extract (.t 5) 1),
mt 2 6,
mt 3 7])
.ret))⟩
theorem row119 : Row Go.Proofs.Try.prog (119, a119) := ⟨Go.Proofs.Try.f119, Go.Proofs.Try.func119, by kernel_rfl⟩
noncomputable def a128 : eJ :=
⟨55,[],(.seq (.reg [oq 6 (.build [(.int .i64 (.ofNat 0)),(.int .i64 (.ofNat 0)),(.int .i64 (.ofNat 0)),.nilsl,.nilsl,.nilsl] [(0,1,(ci 3))]),
⟨(some 4),(.a (.alloc 64 [(.int .i64 (.ofNat 0)),(.int .i64 (.ofNat 0)),(.int .i64 (.ofNat 0)),.nilsl,.nilsl,.nilsl])),none,0⟩,
⟨none,(.x (.st 6 (.t 4) (.t 6))),none,0⟩])
(.seq (.seq (.reg [oq 5 (.mv (ci 0))])
(.block 0 (.loop (.seq (.seq (.reg [mt 7 5,
mt 8 0,
oq 9 (.nilchk (.t 8)),
oq 10 (.faddr 7 (.t 9)),
oq 11 (.faddr 0 (.t 10)),
oq 12 (ld 11),
oq 13 (bi .lss (.t 7) (.t 12))])
(.cond (.t 13) .skip (.exit 0)))
(.seq (.block 1 (.drw [oq 16 (.faddr 5 (.t 4)),
om 17 1 (ld 16),
mt 18 0,
om 19 4 (.nilchk (.t 18)),
om 20 12 (.faddr 0 (.t 19)),
om 21 28 (ld 20),
oc 22 38 [(.t 21),(ci 7)] 60,
om 23 124 (bi .sub (.t 22) (ci 3)),
⟨(some 24),(.a (.bslice 3 1 1 [(.int .i64 (.ofNat 0))] [(0,(.t 23))])),none,252⟩,
⟨(some 25),(.x (.app 3 1 8 (.t 17) (.t 24))),none,511⟩,
om 26 1023 (.faddr 5 (.t 4)),
⟨none,(.x (.st 1 (.t 26) (.t 25))),none,2047⟩]))
(.reg [mt 14 5,
oq 15 (bi .add (.t 14) (ci 1)),
mt 5 15]))))))
(.seq (.seq (.reg [mt 27 0,
oq 28 (.nilchk (.t 27)),
oq 29 (.faddr 5 (.t 28)),
oq 30 (ld 29),
mt 31 30,
og 32 31 true 0 (.mv (.t 0)),
og 33 31 true 0 (.nilchk (.t 32)),
og 34 31 true 0 (.faddr 7 (.t 33)),
og 35 31 true 0 (.faddr 0 (.t 34)),
og 36 31 true 0 (ld 35),
og 37 31 true 0 (bi .eql (.t 36) (ci 2)),
oq 38 (.pick (.t 31) (.t 37) (.c (.bool false)))])
(.cond (.t 38) (.drw [oq 39 (.faddr 5 (.t 4)),
om 40 1 (ld 39),
oq 41 (.faddr 5 (.t 4)),
om 42 4 (ld 41),
om 43 12 (.iaddr (.slice 1) (.t 42) (ci 0)),
om 44 28 (ld 43),
om 45 60 (.un .neg (.t 44)),
om 46 127 (.iaddr (.slice 1) (.t 40) (ci 1)),
⟨none,(.x (.st 1 (.t 46) (.t 45))),none,255⟩]) .skip))
(.drw [mt 47 0,
om 48 1 (.nilchk (.t 47)),
om 49 3 (.faddr 7 (.t 48)),
om 50 7 (.faddr 1 (.t 49)),
om 51 15 (ld 50),
mt 52 1,
oq 53 (.ld true 6 (.t 4)),
om 54 127 (.iaddr (.slice 6) (.t 51) (.t 52)),
⟨none,(.x (.st 6 (.t 54) (.t 53))),none,255⟩]))))⟩
theorem row128 : Row Go.Proofs.Try.prog (128, a128) := ⟨Go.Proofs.Try.f128, Go.Proofs.Try.func128, by kernel_rfl⟩
noncomputable def a129 : eJ :=
⟨90,[(.t 8)],(.seq (.reg [oq 8 (.mv (ci 0))])
(.seq (.seq (.reg [oq 9 (.mv (ci 0))])
(.block 0 (.loop (.seq (.seq (.reg [mt 11 9,
mt 12 0,
oq 13 (.nilchk (.t 12)),
oq 14 (.faddr 2 (.t 13)),
oq 15 (ld 14),
oq 16 (.lenSl (.t 15)),
oq 17 (bi .lss (.t 11) (.t 16))])
(.cond (.t 17) .skip (.exit 0)))
(.seq (.block 1 (.seq (.reg [mt 20 0,
oq 21 (.nilchk (.t 20)),
oq 22 (.faddr 2 (.t 21)),
oq 23 (ld 22),
mt 24 9,
oq 25 (.iaddr (.slice 4) (.t 23) (.t 24)),
oq 26 (.ld true 4 (.t 25)),
⟨(some 10),(.a (.alloc 227 [(.int .i64 (.ofNat 0)),(.int .i64 (.ofNat 0)),.nilsl,(.int .i64 (.ofNat 0))])),none,0⟩,
⟨none,(.x (.st 4 (.t 10) (.t 26))),none,0⟩])
(.seq (.reg [oq 27 (.faddr 0 (.t 10)),
oq 28 (ld 27),
mt 29 1,
oq 30 (bi .eql (.t 28) (.t 29)),
mt 31 30,
og 32 31 true 0 (.faddr 1 (.t 10)),
og 33 31 true 0 (ld 32),
og 34 31 true 0 (.mv (.t 2)),
og 35 31 true 0 (bi .eql (.t 33) (.t 34)),
oq 36 (.pick (.t 31) (.t 35) (.c (.bool false))),
mt 37 36,
og 38 37 true 0 (.faddr 2 (.t 10)),
og 39 37 true 0 (ld 38),
og 40 37 true 0 (.mv (.t 3)),
⟨(some 41),(.x (.call (.c (.fn 19 [] [])) [(.t 39),(.t 40)])),(some (37,true)),0⟩,
oq 42 (.pick (.t 37) (.t 41) (.c (.bool false)))])
(.cond (.t 42) (.seq (.reg [oq 43 (.faddr 3 (.t 10)),
oq 44 (ld 43),
mt 8 44])
.ret) .skip))))
(.reg [mt 18 9,
oq 19 (bi .add (.t 18) (ci 1)),
mt 9 19]))))))
(.seq (.drw [mt 45 0,
mt 46 0,
om 47 2 (.nilchk (.t 46)),
om 48 6 (.faddr 2 (.t 47)),
om 49 14 (ld 48),
mt 50 1,
mt 51 2,
mt 52 3,
mt 53 0,
om 54 256 (.nilchk (.t 53)),
om 55 768 (.faddr 7 (.t 54)),
om 56 1792 (.faddr 2 (.t 55)),
om 57 3840 (ld 56),
om 58 7936 (.lenSl (.t 57)),
om 59 16352 (.build [(.int .i64 (.ofNat 0)),(.int .i64 (.ofNat 0)),.nilsl,(.int .i64 (.ofNat 0))] [(0,1,(.t 50)),(1,1,(.t 51)),(2,1,(.t 52)),(3,1,(.t 58))]),
⟨(some 60),(.a (.bslice 227 4 1 [(.int .i64 (.ofNat 0)),(.int .i64 (.ofNat 0)),.nilsl,(.int .i64 (.ofNat 0))] [(0,(.t 59))])),none,32736⟩,
⟨(some 61),(.x (.app 227 4 48 (.t 49) (.t 60))),none,65534⟩,
om 62 131071 (.nilchk (.t 45)),
om 63 262143 (.faddr 2 (.t 62)),
⟨none,(.x (.st 1 (.t 63) (.t 61))),none,524287⟩])
(.seq (.drw [mt 64 0,
mt 65 0,
om 66 2 (.nilchk (.t 65)),
om 67 6 (.faddr 7 (.t 66)),
om 68 14 (.faddr 2 (.t 67)),
om 69 30 (ld 68),
mt 70 1,
mt 71 0,
om 72 128 (.nilchk (.t 71)),
om 73 384 (.faddr 0 (.t 72)),
om 74 896 (ld 73),
oc 75 38 [(.t 74),(ci 3)] 1920,
om 76 3968 (bi .add (ci 1) (.t 75)),
om 77 8128 (.build [(.int .i64 (.ofNat 0)),(.int .i64 (.ofNat 0))] [(0,1,(.t 70)),(1,1,(.t 76))]),
⟨(some 78),(.a (.bslice 48 2 1 [(.int .i64 (.ofNat 0)),(.int .i64 (.ofNat 0))] [(0,(.t 77))])),none,16320⟩,
⟨(some 79),(.x (.app 48 2 16 (.t 69) (.t 78))),none,32766⟩,
om 80 65535 (.nilchk (.t 64)),
om 81 131071 (.faddr 7 (.t 80)),
om 82 262143 (.faddr 2 (.t 81)),
⟨none,(.x (.st 1 (.t 82) (.t 79))),none,524287⟩])
(.seq (.reg [mt 83 0,
oq 84 (.nilchk (.t 83)),
oq 85 (.faddr 7 (.t 84)),
oq 86 (.faddr 2 (.t 85)),
oq 87 (ld 86),
oq 88 (.lenSl (.t 87)),
oq 89 (bi .sub (.t 88) (ci 1)),
mt 8 89])
.ret)))))⟩
theorem row129 : Row Go.Proofs.Try.prog (129, a129) := ⟨Go.Proofs.Try.f129, Go.Proofs.Try.func129, by kernel_rfl⟩
noncomputable def a130 : eJ :=
⟨78,[],(.seq (.seq (.reg [mt 7 2,
oq 8 (bi .lss (.t 7) (ci 0)),
mt 9 8,
og 10 9 false 0 (.mv (.t 1)),
og 11 9 false 0 (.mv (.t 0)),
og 12 9 false 0 (.nilchk (.t 11)),
og 13 9 false 0 (.faddr 7 (.t 12)),
og 14 9 false 0 (.faddr 2 (.t 13)),
og 15 9 false 0 (ld 14),
og 16 9 false 0 (.lenSl (.t 15)),
og 17 9 false 0 (bi .sub (.t 16) (ci 1)),
og 18 9 false 0 (bi .neq (.t 10) (.t 17)),
oq 19 (.pick (.t 9) (.c (.bool true)) (.t 18))])
(.cond (.t 19) .ret .skip))
(.seq (.seq (.reg [oq 6 (.mv (ci 0))])
(.block 0 (.loop (.seq (.seq (.reg [mt 20 6,
mt 21 0,
oq 22 (.nilchk (.t 21)),
oq 23 (.faddr 7 (.t 22)),
oq 24 (.faddr 1 (.t 23)),
oq 25 (ld 24),
oq 26 (.lenSl (.t 25)),
oq 27 (bi .lss (.t 20) (.t 26))])
(.cond (.t 27) .skip (.exit 0)))
(.seq (.block 1 (.seq (.reg [mt 30 0,
oq 31 (.nilchk (.t 30)),
oq 32 (.faddr 7 (.t 31)),
oq 33 (.faddr 1 (.t 32)),
oq 34 (ld 33),
mt 35 6,
oq 36 (.iaddr (.slice 6) (.t 34) (.t 35)),
oq 37 (.faddr 0 (.t 36)),
oq 38 (ld 37),
oq 39 (bi .eql (.t 38) (ci 2)),
mt 40 39,
og 41 40 true 0 (.mv (.t 0)),
og 42 40 true 0 (.nilchk (.t 41)),
og 43 40 true 0 (.faddr 7 (.t 42)),
og 44 40 true 0 (.faddr 1 (.t 43)),
og 45 40 true 0 (ld 44),
og 46 40 true 0 (.mv (.t 6)),
og 47 40 true 0 (.iaddr (.slice 6) (.t 45) (.t 46)),
og 48 40 true 0 (.faddr 2 (.t 47)),
og 49 40 true 0 (ld 48),
og 50 40 true 0 (.mv (.t 1)),
og 51 40 true 0 (bi .eql (.t 49) (.t 50)),
oq 52 (.pick (.t 40) (.t 51) (.c (.bool false)))])
(.cond (.t 52) .ret .skip)))
(.reg [mt 28 6,
oq 29 (bi .add (.t 28) (ci 1)),
mt 6 29]))))))
(.seq (.reg [mt 53 0,
mt 54 0,
oq 55 (.nilchk (.t 54)),
oq 56 (.faddr 7 (.t 55)),
oq 57 (.faddr 2 (.t 56)),
oq 58 (ld 57),
mt 59 1,
oq 60 (.slc (.slice 2) (.t 58) none (some (.t 59)) none),
oq 61 (.nilchk (.t 53)),
oq 62 (.faddr 7 (.t 61)),
oq 63 (.faddr 2 (.t 62)),
⟨none,(.x (.st 1 (.t 63) (.t 60))),none,0⟩])
(.drw [mt 64 0,
mt 65 0,
om 66 2 (.nilchk (.t 65)),
om 67 6 (.faddr 2 (.t 66)),
om 68 14 (ld 67),
mt 69 0,
om 70 32 (.nilchk (.t 69)),
om 71 96 (.faddr 2 (.t 70)),
om 72 224 (ld 71),
om 73 480 (.lenSl (.t 72)),
om 74 992 (bi .sub (.t 73) (ci 1)),
om 75 2046 (.slc (.slice 4) (.t 68) none (some (.t 74)) none),
om 76 4095 (.nilchk (.t 64)),
om 77 8191 (.faddr 2 (.t 76)),
⟨none,(.x (.st 1 (.t 77) (.t 75))),none,16383⟩]))))⟩
theorem row130 : Row Go.Proofs.Try.prog (130, a130) := ⟨Go.Proofs.Try.f130, Go.Proofs.Try.func130, by kernel_rfl⟩
noncomputable def a131 : eJ :=
⟨97,[(.t 2),(.t 3)],(.seq (.reg [⟨(some 1),(.a (.box 28 (.t 0))),none,0⟩,
oq 2 (.mv (.c .nilp)),
oq 3 (.mv (ci 0))])
(.seq (.seq (.reg [oq 10 (.faddr 0 (.t 1)),
oq 11 (ld 10),
oq 12 (bi .lss (.t 11) (ci 1)),
mt 13 12,
og 14 13 false 0 (.faddr 0 (.t 1)),
og 15 13 false 0 (ld 14),
og 16 13 false 0 (bi .gtr (.t 15) (ci 4)),
oq 17 (.pick (.t 13) (.c (.bool true)) (.t 16)),
mt 18 17,
og 19 18 false 0 (.faddr 1 (.t 1)),
og 20 18 false 0 (ld 19),
og 21 18 false 0 (.lenSl (.t 20)),
og 22 18 false 0 (bi .lss (.t 21) (ci 1)),
oq 23 (.pick (.t 18) (.c (.bool true)) (.t 22)),
mt 24 23,
og 25 24 false 0 (.faddr 1 (.t 1)),
og 26 24 false 0 (ld 25),
og 27 24 false 0 (.lenSl (.t 26)),
og 28 24 false 0 (bi .gtr (.t 27) (ci 2000)),
oq 29 (.pick (.t 24) (.c (.bool true)) (.t 28)),
mt 30 29,
og 31 30 false 0 (.faddr 2 (.t 1)),
og 32 30 false 0 (ld 31),
og 33 30 false 0 (.lenSl (.t 32)),
og 34 30 false 0 (bi .gtr (.t 33) (ci 200)),
oq 35 (.pick (.t 30) (.c (.bool true)) (.t 34))])
(.cond (.t 35) (.seq (.reg [oq 2 (.mv (.c .nilp)),
oq 3 (.mv (ci 2))])
.ret) .skip))
(.seq (.reg [oq 36 (.ld true 3 (.t 1)),
oq 37 (.build [(.int .i64 (.ofNat 0)),.nilsl,.nilsl,.nilsl,.nilsl,.nilsl] [(0,3,(.t 36))]),
⟨(some 38),(.a (.box 220 (.t 37))),none,0⟩,
mt 4 38])
(.seq (.seq (.reg [oq 39 (.faddr 1 (.t 1)),
oq 40 (ld 39),
oq 41 (.lenSl (.t 40)),
oq 42 (.mv (ci 0))])
(.block 0 (.loop (.seq (.reg [oq 43 (bi .lss (.t 42) (.t 41))])
(.seq (.cond (.t 43) .skip (.exit 0))
(.seq (.block 1 (.seq (.reg [oq 44 (.iaddr (.slice 6) (.t 40) (.t 42)),
oq 45 (.ld true 6 (.t 44)),
⟨(some 6),(.a (.alloc 64 [(.int .i64 (.ofNat 0)),(.int .i64 (.ofNat 0)),(.int .i64 (.ofNat 0)),.nilsl,.nilsl,.nilsl])),none,0⟩,
⟨none,(.x (.st 6 (.t 6) (.t 45))),none,0⟩])
(.seq (.reg [mt 46 4,
oq 47 (.ld true 6 (.t 6)),
oc 48 162 [(.t 46),(.t 47)] 0,
mt 7 48])
(.seq (.reg [mt 49 7,
oq 50 (bi .neq (.t 49) (ci 0))])
(.cond (.t 50) (.seq (.reg [mt 51 7,
oq 2 (.mv (.c .nilp)),
mt 3 51])
.ret) .skip)))))
(.reg [oq 52 (bi .add (.t 42) (ci 1)),
mt 42 52])))))))
(.seq (.drw [mt 53 4,
mt 54 4,
mt 55 4,
oq 56 (.faddr 1 (.t 1)),
om 57 8 (ld 56),
om 58 24 (.lenSl (.t 57)),
⟨(some 59),(.a (.mkSlice 3 1 8 [(.int .i64 (.ofNat 0))] (.t 58) (.t 58))),none,56⟩,
oq 60 (.faddr 1 (.t 1)),
om 61 128 (ld 60),
om 62 384 (.lenSl (.t 61)),
⟨(some 63),(.a (.mkSlice 3 1 8 [(.int .i64 (.ofNat 0))] (.t 62) (.t 62))),none,896⟩,
oq 64 (.faddr 1 (.t 1)),
om 65 2048 (ld 64),
om 66 6144 (.lenSl (.t 65)),
⟨(some 67),(.a (.mkSlice 3 1 8 [(.int .i64 (.ofNat 0))] (.t 66) (.t 66))),none,14336⟩,
om 68 121 (.nilchk (.t 53)),
om 69 32889 (.faddr 3 (.t 68)),
⟨none,(.x (.st 1 (.t 69) (.t 59))),none,98425⟩,
om 70 231419 (.nilchk (.t 54)),
om 71 493563 (.faddr 4 (.t 70)),
⟨none,(.x (.st 1 (.t 71) (.t 63))),none,1017851⟩,
om 72 2097151 (.nilchk (.t 55)),
om 73 4194303 (.faddr 5 (.t 72)),
⟨none,(.x (.st 1 (.t 73) (.t 67))),none,8388607⟩])
(.seq (.seq (.reg [mt 75 4,
oq 76 (.faddr 1 (.t 1)),
oq 77 (ld 76),
oc 78 163 [(.t 75),(.c (.int .i64 (.negSucc 0))),(ci 0),(.t 77)] 0,
mt 74 78,
oq 79 (.extract (.t 74) 0),
oq 80 (.extract (.t 74) 1),
mt 8 79,
mt 9 80])
(.seq (.reg [mt 81 9,
oq 82 (.un .not (.t 81)),
mt 83 82,
og 84 83 false 0 (.mv (.t 8)),
og 85 83 false 0 (.lenSl (.t 84)),
og 86 83 false 0 (bi .gtr (.t 85) (ci 0)),
oq 87 (.pick (.t 83) (.c (.bool true)) (.t 86))])
(.cond (.t 87) (.seq (.reg [oq 2 (.mv (.c .nilp)),
oq 3 (.mv (ci 9))])
.ret) .skip)))
(.seq (.seq (.reg [mt 88 4,
oq 89 (.nilchk (.t 88)),
oq 90 (.faddr 4 (.t 89)),
oq 91 (ld 90),
oc 92 164 [(.t 91)] 0,
oq 93 (bi .gtr (.t 92) (ci 40))])
(.cond (.t 93) (.seq (.reg [oq 2 (.mv (.c .nilp)),
oq 3 (.mv (ci 5))])
.ret) .skip))
(.seq (.reg [mt 94 4,
mt 95 4,
oc 96 165 [(.t 95)] 0,
mt 2 94,
mt 3 96])
.ret))))))))⟩
theorem row131 : Row Go.Proofs.Try.prog (131, a131) := ⟨Go.Proofs.Try.f131, Go.Proofs.Try.func131, by kernel_rfl⟩
noncomputable def a151 : eJ :=
⟨14,[(.t 6)],(.seq (.reg [oq 6 (.mv (.c (.bool false)))])
(.seq (.reg [mt 7 0,
oq 8 (ld 2),
oq 9 (bi .sub (.t 7) (.t 8)),
mt 10 1,
oq 11 (ld 3),
oq 12 (bi .sub (.t 10) (.t 11)),
oq 13 (bi .eql (.t 9) (.t 12)),
mt 6 13])
.ret))⟩
theorem row151 : Row Go.Proofs.Try.prog (151, a151) := ⟨Go.Proofs.Try.f151, Go.Proofs.Try.func151, by kernel_rfl⟩
noncomputable def a152 : eJ :=
⟨26,[(.t 4)],(.seq (.reg [oq 4 (.mv (.c (.bool false)))])
(.seq (.seq (.reg [mt 6 0,
oq 7 (.lenSl (.t 6)),
mt 8 1,
oq 9 (.lenSl (.t 8)),
oq 10 (bi .neq (.t 7) (.t 9))])
(.cond (.t 10) (.seq (.reg [oq 4 (.mv (.c (.bool false)))])
.ret) .skip))
(.seq (.seq (.reg [mt 11 0,
oq 12 (.lenSl (.t 11)),
oq 13 (.mv (ci 0))])
(.block 0 (.loop (.seq (.reg [oq 14 (bi .lss (.t 13) (.t 12))])
(.seq (.cond (.t 14) .skip (.exit 0))
(.seq (.block 1 (.seq (.reg [mt 15 13,
mt 5 15])
(.seq (.drw [mt 16 0,
mt 17 5,
om 18 3 (.iaddr (.slice 1) (.t 16) (.t 17)),
om 19 7 (ld 18),
mt 20 1,
mt 21 5,
om 22 48 (.iaddr (.slice 1) (.t 20) (.t 21)),
om 23 112 (ld 22),
om 24 255 (bi .neq (.t 19) (.t 23))])
(.cond (.t 24) (.seq (.reg [oq 4 (.mv (.c (.bool false)))])
.ret) .skip))))
(.reg [oq 25 (bi .add (.t 13) (ci 1)),
mt 13 25])))))))
(.seq (.reg [oq 4 (.mv (.c (.bool true)))])
.ret))))⟩
theorem row152 : Row Go.Proofs.Try.prog (152, a152) := ⟨Go.Proofs.Try.f152, Go.Proofs.Try.func152, by kernel_rfl⟩
noncomputable def a153 : eJ :=
⟨32,[(.t 6)],(.seq (.reg [oq 6 (.mv (.c (.bool false)))])
(.seq (.seq (.reg [mt 10 0,
oq 11 (.lenSl (.t 10)),
mt 12 1,
oq 13 (.lenSl (.t 12)),
oq 14 (bi .neq (.t 11) (.t 13))])
(.cond (.t 14) (.seq (.reg [oq 6 (.mv (.c (.bool false)))])
.ret) .skip))
(.seq (.seq (.reg [mt 15 0,
oq 16 (.lenSl (.t 15)),
oq 17 (.mv (ci 0))])
(.block 0 (.loop (.seq (.reg [oq 18 (bi .lss (.t 17) (.t 16))])
(.seq (.cond (.t 18) .skip (.exit 0))
(.seq (.block 1 (.seq (.reg [mt 19 17,
oq 20 (.iaddr (.slice 1) (.t 15) (.t 17)),
oq 21 (ld 20),
mt 7 19,
mt 8 21])
(.seq (.reg [mt 22 1,
mt 23 7,
oq 24 (.iaddr (.slice 1) (.t 22) (.t 23)),
oq 25 (ld 24),
mt 9 25])
(.seq (.reg [mt 26 2,
mt 27 8,
mt 28 9,
⟨(some 29),(.x (.call (.t 26) [(.t 27),(.t 28)])),none,0⟩,
oq 30 (.un .not (.t 29))])
(.cond (.t 30) (.seq (.reg [oq 6 (.mv (.c (.bool false)))])
.ret) .skip)))))
(.reg [oq 31 (bi .add (.t 17) (ci 1)),
mt 17 31])))))))
(.seq (.reg [oq 6 (.mv (.c (.bool true)))])
.ret))))⟩
theorem row153 : Row Go.Proofs.Try.prog (153, a153) := ⟨Go.Proofs.Try.f153, Go.Proofs.Try.func153, by kernel_rfl⟩
noncomputable def a154 : eJ :=
⟨23,[(.t 2)],(.seq (.reg [oq 2 (.mv (.c .nilsl))])
(.seq (.reg [mt 5 0,
oq 6 (.nilchk (.t 5)),
oq 7 (.faddr 0 (.t 6)),
oq 8 (.faddr 1 (.t 7)),
oq 9 (ld 8),
oq 10 (.lenSl (.t 9)),
⟨(some 11),(.a (.mkSlice 3 1 8 [(.int .i64 (.ofNat 0))] (.t 10) (.t 10))),none,0⟩,
mt 3 11])
(.seq (.seq (.reg [mt 12 3,
oq 13 (.lenSl (.t 12)),
oq 14 (.mv (ci 0))])
(.block 0 (.loop (.seq (.reg [oq 15 (bi .lss (.t 14) (.t 13))])
(.seq (.cond (.t 15) .skip (.exit 0))
(.seq (.block 1 (.seq (.reg [mt 16 14,
mt 4 16])
(.reg [mt 17 3,
mt 18 4,
mt 19 4,
oq 20 (.iaddr (.slice 1) (.t 17) (.t 18)),
⟨none,(.x (.st 1 (.t 20) (.t 19))),none,0⟩])))
(.reg [oq 21 (bi .add (.t 14) (ci 1)),
mt 14 21])))))))
(.seq (.reg [mt 22 3,
mt 2 22])
.ret))))⟩
theorem row154 : Row Go.Proofs.Try.prog (154, a154) := ⟨Go.Proofs.Try.f154, Go.Proofs.Try.func154, by kernel_rfl⟩
noncomputable def a155 : eJ :=
⟨17,[(.t 2)],(.seq (.reg [oq 2 (.mv (.c .nilsl))])
(.seq (.reg [mt 5 0,
⟨(some 6),(.a (.mkSlice 3 1 8 [(.int .i64 (.ofNat 0))] (.t 5) (.t 5))),none,0⟩,
mt 3 6])
(.seq (.seq (.reg [mt 7 3,
oq 8 (.lenSl (.t 7)),
oq 9 (.mv (ci 0))])
(.block 0 (.loop (.seq (.reg [oq 10 (bi .lss (.t 9) (.t 8))])
(.seq (.cond (.t 10) .skip (.exit 0))
(.seq (.block 1 (.seq (.reg [mt 11 9,
mt 4 11])
(.reg [mt 12 3,
mt 13 4,
oq 14 (.iaddr (.slice 1) (.t 12) (.t 13)),
⟨none,(.x (.st 1 (.t 14) (.c (.int .i64 (.negSucc 0))))),none,0⟩])))
(.reg [oq 15 (bi .add (.t 9) (ci 1)),
mt 9 15])))))))
(.seq (.reg [mt 16 3,
mt 2 16])
.ret))))⟩
theorem row155 : Row Go.Proofs.Try.prog (155, a155) := ⟨Go.Proofs.Try.f155, Go.Proofs.Try.func155, by kernel_rfl⟩
noncomputable def a156 : eJ :=
⟨155,[(.t 9)],(.seq (.reg [oq 9 (.mv (.c (.bool false)))])
(.seq (.drw [oq 16 (ld 2),
om 17 1 (.nilchk (.t 16)),
om 18 3 (.faddr 0 (.t 17)),
om 19 7 (.faddr 1 (.t 18)),
om 20 15 (ld 19),
mt 21 0,
om 22 63 (.iaddr (.slice 6) (.t 20) (.t 21)),
om 23 127 (.ld true 6 (.t 22)),
oq 24 (ld 2),
om 25 256 (.nilchk (.t 24)),
om 26 768 (.faddr 0 (.t 25)),
om 27 1792 (.faddr 1 (.t 26)),
om 28 3840 (ld 27),
mt 29 1,
om 30 16128 (.iaddr (.slice 6) (.t 28) (.t 29)),
om 31 32512 (.ld true 6 (.t 30)),
⟨(some 10),(.a (.alloc 64 [(.int .i64 (.ofNat 0)),(.int .i64 (.ofNat 0)),(.int .i64 (.ofNat 0)),.nilsl,.nilsl,.nilsl])),none,0⟩,
⟨(some 11),(.a (.alloc 64 [(.int .i64 (.ofNat 0)),(.int .i64 (.ofNat 0)),(.int .i64 (.ofNat 0)),.nilsl,.nilsl,.nilsl])),none,0⟩,
⟨none,(.x (.st 6 (.t 10) (.t 23))),none,196863⟩,
⟨none,(.x (.st 6 (.t 11) (.t 31))),none,524287⟩])
(.seq (.seq (.reg [oq 32 (.faddr 0 (.t 10)),
oq 33 (ld 32),
oq 34 (.faddr 0 (.t 11)),
oq 35 (ld 34),
oq 36 (bi .neq (.t 33) (.t 35)),
mt 37 36,
og 38 37 false 0 (.faddr 1 (.t 10)),
og 39 37 false 0 (ld 38),
og 40 37 false 0 (.faddr 1 (.t 11)),
og 41 37 false 0 (ld 40),
og 42 37 false 0 (bi .neq (.t 39) (.t 41)),
oq 43 (.pick (.t 37) (.c (.bool true)) (.t 42)),
mt 44 43,
og 45 44 false 0 (.faddr 3 (.t 10)),
og 46 44 false 0 (ld 45),
og 47 44 false 0 (.lenSl (.t 46)),
og 48 44 false 0 (.faddr 3 (.t 11)),
og 49 44 false 0 (ld 48),
og 50 44 false 0 (.lenSl (.t 49)),
og 51 44 false 0 (bi .neq (.t 47) (.t 50)),
oq 52 (.pick (.t 44) (.c (.bool true)) (.t 51)),
mt 53 52,
og 54 53 false 0 (.faddr 5 (.t 10)),
og 55 53 false 0 (ld 54),
og 56 53 false 0 (.faddr 5 (.t 11)),
og 57 53 false 0 (ld 56),
⟨(some 58),(.x (.call (.c (.fn 152 [] [])) [(.t 55),(.t 57)])),(some (53,false)),0⟩,
og 59 53 false 0 (.un .not (.t 58)),
oq 60 (.pick (.t 53) (.c (.bool true)) (.t 59))])
(.cond (.t 60) (.seq (.reg [oq 9 (.mv (.c (.bool false)))])
.ret) .skip))
(.seq (.reg [oq 61 (.faddr 0 (.t 10)),
oq 62 (ld 61),
oq 63 (bi .eql (.t 62) (ci 2)),
mt 12 63])
(.seq (.seq (.reg [mt 64 12,
mt 65 64,
og 66 65 true 0 (.faddr 0 (.t 3)),
og 67 65 true 0 (ld 66),
og 68 65 true 0 (.faddr 2 (.t 10)),
og 69 65 true 0 (ld 68),
og 70 65 true 0 (.faddr 2 (.t 11)),
og 71 65 true 0 (ld 70),
⟨(some 72),(.x (.call (.c (.fn 157 [] [])) [(.t 67),(.t 69),(.t 71)])),(some (65,true)),0⟩,
og 73 65 true 0 (.un .not (.t 72)),
oq 74 (.pick (.t 65) (.t 73) (.c (.bool false))),
mt 75 74,
og 76 75 false 0 (.mv (.t 12)),
og 77 75 false 0 (.mv (.t 76)),
og 78 77 true 0 (ld 4),
og 79 77 true 0 (.faddr 2 (.t 11)),
og 80 77 true 0 (ld 79),
og 81 77 true 0 (.faddr 2 (.t 10)),
og 82 77 true 0 (ld 81),
⟨(some 83),(.x (.call (.c (.fn 157 [] [])) [(.t 78),(.t 80),(.t 82)])),(some (77,true)),0⟩,
og 84 77 true 0 (.un .not (.t 83)),
og 85 75 false 0 (.pick (.t 77) (.t 84) (.c (.bool false))),
oq 86 (.pick (.t 75) (.c (.bool true)) (.t 85))])
(.cond (.t 86) (.seq (.reg [oq 9 (.mv (.c (.bool false)))])
.ret) .skip))
(.seq (.seq (.reg [oq 87 (.faddr 3 (.t 10)),
oq 88 (ld 87),
oq 89 (.lenSl (.t 88)),
oq 90 (.mv (ci 0))])
(.block 0 (.loop (.seq (.reg [oq 91 (bi .lss (.t 90) (.t 89))])
(.seq (.cond (.t 91) .skip (.exit 0))
(.seq (.block 1 (.seq (.reg [mt 92 90,
oq 93 (.iaddr (.slice 1) (.t 88) (.t 90)),
oq 94 (ld 93),
mt 13 92,
mt 14 94])
(.seq (.reg [oq 95 (ld 5),
mt 96 14,
oq 97 (.iaddr (.slice 1) (.t 95) (.t 96)),
oq 98 (ld 97),
mt 15 98])
(.seq (.seq (.reg [oq 99 (ld 2),
oq 100 (.nilchk (.t 99)),
oq 101 (.faddr 3 (.t 100)),
oq 102 (ld 101),
mt 103 15,
oq 104 (.iaddr (.slice 1) (.t 102) (.t 103)),
oq 105 (ld 104),
mt 106 1,
oq 107 (bi .neq (.t 105) (.t 106))])
(.cond (.t 107) (.seq (.reg [oq 9 (.mv (.c (.bool false)))])
.ret) .skip))
(.seq (.seq (.drw [oq 108 (.faddr 0 (.t 10)),
om 109 1 (ld 108),
om 110 3 (bi .eql (.t 109) (ci 1)),
om 111 7 (.mv (.t 110)),
og 112 111 true 15 (.faddr 4 (.t 10)),
og 113 111 true 31 (ld 112),
og 114 111 true 15 (.mv (.t 13)),
og 115 111 true 127 (.iaddr (.slice 1) (.t 113) (.t 114)),
og 116 111 true 255 (ld 115),
og 117 111 true 15 (.faddr 4 (.t 11)),
og 118 111 true 527 (ld 117),
og 119 111 true 15 (ld 2),
og 120 111 true 2063 (.nilchk (.t 119)),
og 121 111 true 6159 (.faddr 4 (.t 120)),
og 122 111 true 14351 (ld 121),
og 123 111 true 15 (.mv (.t 15)),
og 124 111 true 63503 (.iaddr (.slice 1) (.t 122) (.t 123)),
og 125 111 true 129039 (ld 124),
og 126 111 true 261647 (.iaddr (.slice 1) (.t 118) (.t 125)),
og 127 111 true 523791 (ld 126),
og 128 111 true 1048575 (bi .neq (.t 116) (.t 127)),
om 129 2097151 (.pick (.t 111) (.t 128) (.c (.bool false)))])
(.cond (.t 129) (.seq (.reg [oq 9 (.mv (.c (.bool false)))])
.ret) .skip))
(.seq (.seq (.drw [mt 130 12,
om 131 1 (.mv (.t 130)),
og 132 131 true 3 (.faddr 1 (.t 3)),
og 133 131 true 7 (ld 132),
og 134 131 true 3 (.faddr 2 (.t 10)),
og 135 131 true 19 (ld 134),
og 136 131 true 63 (.iaddr (.slice 1) (.t 133) (.t 135)),
og 137 131 true 127 (ld 136),
og 138 131 true 3 (.mv (.t 13)),
og 139 131 true 3 (ld 2),
og 140 131 true 515 (.nilchk (.t 139)),
og 141 131 true 1539 (.faddr 4 (.t 140)),
og 142 131 true 3587 (ld 141),
og 143 131 true 3 (.mv (.t 15)),
og 144 131 true 15875 (.iaddr (.slice 1) (.t 142) (.t 143)),
og 145 131 true 32259 (ld 144),
⟨(some 146),(.x (.call (.c (.fn 157 [] [])) [(.t 137),(.t 138),(.t 145)])),(some (131,true)),65535⟩,
og 147 131 true 131071 (.un .not (.t 146)),
om 148 262143 (.pick (.t 131) (.t 147) (.c (.bool false)))])
(.cond (.t 148) (.seq (.reg [oq 9 (.mv (.c (.bool false)))])
.ret) .skip))
(.seq (.reg [oq 149 (ld 6),
mt 150 14,
mt 151 15,
⟨(some 152),(.x (.call (.t 149) [(.t 150),(.t 151)])),none,0⟩,
oq 153 (.un .not (.t 152))])
(.cond (.t 153) (.seq (.reg [oq 9 (.mv (.c (.bool false)))])
.ret) .skip))))))))
(.reg [oq 154 (bi .add (.t 90) (ci 1)),
mt 90 154])))))))
(.seq (.reg [oq 9 (.mv (.c (.bool true)))])
.ret)))))))⟩
theorem row156 : Row Go.Proofs.Try.prog (156, a156) := ⟨Go.Proofs.Try.f156, Go.Proofs.Try.func156, by kernel_rfl⟩
end Go.Ev.Gl
