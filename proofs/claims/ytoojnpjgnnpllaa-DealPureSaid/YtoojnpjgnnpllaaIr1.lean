/- Functions of the program as data of the evaluator, written by program; each is shown to be the compiler's result on the loaded function. -/
import Derived.Test.YtoojnpjgnnpllaaProg
import Derived.Test.YtoojnpjgnnpllaaEv8
import Derived.KernelRfl
namespace Go.Ev.Gl
set_option maxRecDepth 100000
noncomputable def a84 : AFn :=
⟨19,[(.t 6)],(.seq (.reg [⟨(some 3),(.a (.box 28 (.t 0))),none,0⟩,
oq 6 (.mv (.c .nilsl))])
(.seq (.reg [⟨(some 7),(.a (.alloc 22 [.nilsl])),none,0⟩])
(.seq (.seq (.reg [oq 9 (.ld true 3 (.t 3)),
mt 10 1,
mt 11 2,
oc 12 127 [(.t 9),(.t 10),(.t 11)] 0])
(.block 0 (.rng (.t 12) [13] (.reg [mt 8 13]) (.block 1 (.reg [oq 14 (ld 7),
mt 15 8,
⟨(some 16),(.a (.bslice 3 1 1 [(.int .i64 (.ofNat 0))] [(0,(.t 15))])),none,0⟩,
⟨(some 17),(.x (.app 3 1 8 (.t 14) (.t 16))),none,0⟩,
⟨none,(.x (.st 1 (.t 7) (.t 17))),none,0⟩])))))
(.seq (.reg [oq 18 (ld 7),
mt 6 18])
.ret))))⟩
theorem row84 : Row Go.Proofs.Try.prog (84, a84) := ⟨Go.Proofs.Try.f84, Go.Proofs.Try.func84, by kernel_rfl⟩
noncomputable def a86 : AFn :=
⟨204,[(.t 6)],(.seq (.reg [oq 6 (.mv (ci 0))])
(.seq (.reg [mt 16 0,
oq 17 (.nilchk (.t 16)),
oq 18 (.faddr 7 (.t 17)),
oq 19 (.faddr 1 (.t 18)),
oq 20 (ld 19),
oq 21 (.lenSl (.t 20)),
mt 7 21])
(.seq (.reg [mt 22 0,
oq 23 (.nilchk (.t 22)),
oq 24 (.faddr 4 (.t 23)),
oq 25 (ld 24),
oq 26 (bi .sub (.t 25) (ci 1)),
oq 27 (.nilchk (.t 22)),
oq 28 (.faddr 4 (.t 27)),
⟨none,(.x (.st 1 (.t 28) (.t 26))),none,0⟩])
(.seq (.reg [mt 29 0,
mt 30 0,
oq 31 (.nilchk (.t 30)),
oq 32 (.faddr 7 (.t 31)),
oq 33 (.faddr 1 (.t 32)),
oq 34 (ld 33),
oq 35 (.build [(.int .i64 (.ofNat 0)),(.int .i64 (.ofNat 0)),(.int .i64 (.ofNat 0)),.nilsl,.nilsl,.nilsl] []),
⟨(some 36),(.a (.bslice 64 6 1 [(.int .i64 (.ofNat 0)),(.int .i64 (.ofNat 0)),(.int .i64 (.ofNat 0)),.nilsl,.nilsl,.nilsl] [(0,(.t 35))])),none,0⟩,
⟨(some 37),(.x (.app 64 6 96 (.t 34) (.t 36))),none,0⟩,
oq 38 (.nilchk (.t 29)),
oq 39 (.faddr 7 (.t 38)),
oq 40 (.faddr 1 (.t 39)),
⟨none,(.x (.st 1 (.t 40) (.t 37))),none,0⟩])
(.seq (.seq (.reg [mt 41 1,
mt 42 0,
oq 43 (.nilchk (.t 42)),
oq 44 (.faddr 1 (.t 43)),
oq 45 (ld 44),
oq 46 (.lenSl (.t 45)),
oq 47 (bi .eql (.t 41) (.t 46)),
mt 48 47,
og 49 48 false 0 (.mv (.t 0)),
og 50 48 false 0 (.nilchk (.t 49)),
og 51 48 false 0 (.faddr 0 (.t 50)),
og 52 48 false 0 (ld 51),
⟨(some 53),(.x (.call (.c (.fn 38 [] [])) [(.t 52),(ci 8)])),(some (48,false)),0⟩,
og 54 48 false 0 (bi .eql (.t 53) (ci 1)),
oq 55 (.pick (.t 48) (.c (.bool true)) (.t 54))])
(.cond (.t 55) (.seq (.reg [mt 56 0,
mt 57 7,
oc 58 128 [(.t 56),(.t 57)] 0])
(.seq (.reg [mt 59 7,
mt 6 59])
.ret)) .skip))
(.seq (.reg [mt 60 0,
oq 61 (.nilchk (.t 60)),
oq 62 (.faddr 1 (.t 61)),
oq 63 (ld 62),
mt 64 1,
oq 65 (.iaddr (.slice 3) (.t 63) (.t 64)),
oq 66 (.ld true 3 (.t 65)),
⟨(some 8),(.a (.alloc 131 [(.int .i64 (.ofNat 0)),(.int .i64 (.ofNat 0)),(.int .i64 (.ofNat 0))])),none,0⟩,
⟨none,(.x (.st 3 (.t 8) (.t 66))),none,0⟩])
(.seq (.reg [oq 67 (.faddr 1 (.t 8)),
oq 68 (ld 67),
mt 9 68,
oq 10 (.mv (ci 0))])
(.seq (.seq (.reg [oq 69 (.faddr 0 (.t 8)),
oq 70 (ld 69),
oq 71 (bi .geq (.t 70) (ci 0))])
(.cond (.t 71) (.seq (.drw [mt 72 0,
oq 73 (.faddr 0 (.t 8)),
om 74 2 (ld 73),
mt 75 1,
mt 76 2,
oq 77 (.faddr 0 (.t 8)),
om 78 32 (ld 77),
om 79 112 (.iaddr (.slice 1) (.t 76) (.t 78)),
om 80 240 (ld 79),
oc 81 129 [(.t 72),(.t 74),(.t 75),(.t 80)] 511,
om 10 1023 (.mv (.t 81))])
(.reg [mt 82 0,
oq 83 (.nilchk (.t 82)),
oq 84 (.faddr 7 (.t 83)),
oq 85 (.faddr 2 (.t 84)),
oq 86 (ld 85),
mt 87 10,
oq 88 (.iaddr (.slice 2) (.t 86) (.t 87)),
oq 89 (.faddr 1 (.t 88)),
oq 90 (ld 89),
mt 9 90])) .skip))
(.seq (.seq (.drw [mt 91 7,
om 92 1 (bi .add (.t 91) (ci 1)),
mt 93 0,
om 94 4 (.nilchk (.t 93)),
om 95 12 (.faddr 4 (.t 94)),
om 96 28 (ld 95),
om 97 63 (bi .add (.t 92) (.t 96)),
mt 98 9,
om 99 255 (bi .add (.t 97) (.t 98)),
mt 100 0,
om 101 512 (.nilchk (.t 100)),
om 102 1536 (.faddr 3 (.t 101)),
om 103 3584 (ld 102),
om 104 8191 (bi .gtr (.t 99) (.t 103))])
(.cond (.t 104) (.seq (.reg [mt 105 0,
mt 106 10,
oq 107 (.faddr 0 (.t 8)),
oq 108 (ld 107),
oc 109 130 [(.t 105),(.t 106),(.t 108)] 0])
(.seq (.reg [mt 110 0,
mt 111 7,
oc 112 128 [(.t 110),(.t 111)] 0])
(.seq (.reg [mt 113 7,
mt 6 113])
.ret))) .skip))
(.seq (.reg [mt 114 0,
mt 115 0,
oq 116 (.nilchk (.t 115)),
oq 117 (.faddr 4 (.t 116)),
oq 118 (ld 117),
mt 119 9,
oq 120 (bi .add (.t 118) (.t 119)),
oq 121 (.nilchk (.t 114)),
oq 122 (.faddr 4 (.t 121)),
⟨none,(.x (.st 1 (.t 122) (.t 120))),none,0⟩])
(.seq (.reg [oq 123 (.build [(.int .i64 (.ofNat 0)),(.int .i64 (.ofNat 0)),(.int .i64 (.ofNat 0)),.nilsl,.nilsl,.nilsl] [(0,1,(ci 1))]),
⟨(some 11),(.a (.alloc 64 [(.int .i64 (.ofNat 0)),(.int .i64 (.ofNat 0)),(.int .i64 (.ofNat 0)),.nilsl,.nilsl,.nilsl])),none,0⟩,
⟨none,(.x (.st 6 (.t 11) (.t 123))),none,0⟩])
(.seq (.seq (.reg [oq 124 (.faddr 0 (.t 8)),
oq 125 (ld 124),
oq 126 (bi .geq (.t 125) (ci 0))])
(.cond (.t 126) (.reg [oq 127 (.faddr 0 (.t 8)),
oq 128 (ld 127),
mt 129 10,
oq 130 (.build [(.int .i64 (.ofNat 0)),(.int .i64 (.ofNat 0)),(.int .i64 (.ofNat 0)),.nilsl,.nilsl,.nilsl] [(0,1,(ci 2)),(1,1,(.t 128)),(2,1,(.t 129))]),
⟨none,(.x (.st 6 (.t 11) (.t 130))),none,0⟩]) .skip))
(.seq (.seq (.reg [oq 12 (.mv (ci 0))])
(.block 0 (.loop (.seq (.seq (.reg [mt 131 12,
mt 132 9,
oq 133 (bi .lss (.t 131) (.t 132))])
(.cond (.t 133) .skip (.exit 0)))
(.seq (.block 1 (.seq (.seq (.reg [oq 136 (.faddr 0 (.t 8)),
oq 137 (ld 136),
oq 138 (bi .lss (.t 137) (ci 0))])
(.cond (.t 138) (.drw [oq 139 (.faddr 4 (.t 11)),
om 140 1 (ld 139),
mt 141 0,
om 142 4 (.nilchk (.t 141)),
om 143 12 (.faddr 0 (.t 142)),
om 144 28 (ld 143),
oc 145 38 [(.t 144),(ci 3)] 60,
om 146 124 (bi .add (ci 1) (.t 145)),
⟨(some 147),(.a (.bslice 3 1 1 [(.int .i64 (.ofNat 0))] [(0,(.t 146))])),none,252⟩,
⟨(some 148),(.x (.app 3 1 8 (.t 140) (.t 147))),none,511⟩,
om 149 1023 (.faddr 4 (.t 11)),
⟨none,(.x (.st 1 (.t 149) (.t 148))),none,2047⟩]) .skip))
(.seq (.reg [oq 13 (.mv (.c .nilsl))])
(.seq (.seq (.reg [oq 14 (.mv (ci 0))])
(.block 2 (.loop (.seq (.seq (.reg [mt 150 14,
mt 151 2,
oq 152 (.lenSl (.t 151)),
oq 153 (bi .lss (.t 150) (.t 152))])
(.cond (.t 153) .skip (.exit 2)))
(.seq (.block 3 (.seq (.reg [⟨(some 156),(.a (.bslice 3 1 0 [(.int .i64 (.ofNat 0))] [])),none,0⟩,
mt 157 2,
mt 158 14,
oq 159 (.iaddr (.slice 1) (.t 157) (.t 158)),
oq 160 (ld 159),
⟨(some 161),(.x (.app 3 1 8 (.t 156) (.t 160))),none,0⟩,
mt 15 161])
(.seq (.seq (.reg [mt 162 14,
oq 163 (.faddr 0 (.t 8)),
oq 164 (ld 163),
oq 165 (bi .eql (.t 162) (.t 164)),
mt 166 165,
og 167 166 false 0 (.faddr 2 (.t 8)),
og 168 166 false 0 (ld 167),
og 169 166 false 0 (.mv (.t 14)),
og 170 166 false 0 (bi .shr (.t 168) (.t 169)),
og 171 166 false 0 (bi .and (.t 170) (ci 1)),
og 172 166 false 0 (bi .eql (.t 171) (ci 1)),
oq 173 (.pick (.t 166) (.c (.bool true)) (.t 172))])
(.cond (.t 173) (.reg [mt 174 15,
mt 175 12,
⟨(some 176),(.a (.bslice 3 1 1 [(.int .i64 (.ofNat 0))] [(0,(.t 175))])),none,0⟩,
⟨(some 177),(.x (.app 3 1 8 (.t 174) (.t 176))),none,0⟩,
mt 15 177]) (.reg [mt 178 15,
⟨(some 179),(.a (.bslice 3 1 1 [(.int .i64 (.ofNat 0))] [(0,(.c (.int .i64 (.negSucc 0))))])),none,0⟩,
⟨(some 180),(.x (.app 3 1 8 (.t 178) (.t 179))),none,0⟩,
mt 15 180])))
(.reg [mt 181 13,
mt 182 15,
⟨(some 183),(.a (.bslice 22 1 1 [.nilsl] [(0,(.t 182))])),none,0⟩,
⟨(some 184),(.x (.app 22 1 24 (.t 181) (.t 183))),none,0⟩,
mt 13 184]))))
(.reg [mt 154 14,
oq 155 (bi .add (.t 154) (ci 1)),
mt 14 155]))))))
(.drw [oq 185 (.faddr 3 (.t 11)),
om 186 1 (ld 185),
mt 187 0,
mt 188 1,
om 189 8 (bi .add (.t 188) (ci 1)),
mt 190 13,
oc 191 86 [(.t 187),(.t 189),(.t 190)] 60,
⟨(some 192),(.a (.bslice 3 1 1 [(.int .i64 (.ofNat 0))] [(0,(.t 191))])),none,124⟩,
⟨(some 193),(.x (.app 3 1 8 (.t 186) (.t 192))),none,255⟩,
om 194 511 (.faddr 3 (.t 11)),
⟨none,(.x (.st 1 (.t 194) (.t 193))),none,1023⟩])))))
(.reg [mt 134 12,
oq 135 (bi .add (.t 134) (ci 1)),
mt 12 135]))))))
(.seq (.drw [mt 195 0,
om 196 1 (.nilchk (.t 195)),
om 197 3 (.faddr 7 (.t 196)),
om 198 7 (.faddr 1 (.t 197)),
om 199 15 (ld 198),
mt 200 7,
oq 201 (.ld true 6 (.t 11)),
om 202 127 (.iaddr (.slice 6) (.t 199) (.t 200)),
⟨none,(.x (.st 6 (.t 202) (.t 201))),none,255⟩])
(.seq (.reg [mt 203 7,
mt 6 203])
.ret)))))))))))))))⟩
theorem row86 : Row Go.Proofs.Try.prog (86, a86) := ⟨Go.Proofs.Try.f86, Go.Proofs.Try.func86, by kernel_rfl⟩
noncomputable def a87 : AFn :=
⟨11,[(.t 2)],(.seq (.reg [⟨(some 1),(.a (.box 28 (.t 0))),none,0⟩,
oq 2 (.mv (ci 0))])
(.seq (.reg [oq 6 (.ld true 3 (.t 1)),
oc 7 131 [(.t 6)] 0,
mt 5 7,
oq 8 (.extract (.t 5) 0),
oq 9 (.extract (.t 5) 1),
mt 3 8,
mt 4 9])
(.seq (.reg [mt 10 4,
mt 2 10])
.ret)))⟩
theorem row87 : Row Go.Proofs.Try.prog (87, a87) := ⟨Go.Proofs.Try.f87, Go.Proofs.Try.func87, by kernel_rfl⟩
noncomputable def a88 : AFn :=
⟨56,[],(.seq (.reg [mt 10 0,
oq 11 (.nilchk (.t 10)),
oq 12 (.faddr 0 (.t 11)),
oq 13 (.faddr 1 (.t 12)),
oq 14 (ld 13),
mt 15 1,
oq 16 (.iaddr (.slice 6) (.t 14) (.t 15)),
oq 17 (.ld true 6 (.t 16)),
⟨(some 6),(.a (.alloc 64 [(.int .i64 (.ofNat 0)),(.int .i64 (.ofNat 0)),(.int .i64 (.ofNat 0)),.nilsl,.nilsl,.nilsl])),none,0⟩,
⟨none,(.x (.st 6 (.t 6) (.t 17))),none,0⟩])
(.seq (.seq (.reg [oq 18 (.faddr 0 (.t 6)),
oq 19 (ld 18)])
(.block 0 (.seq (.reg [oq 21 (bi .eql (.t 19) (ci 3)),
mt 20 21])
(.cond (.t 20) (.seq (.reg [mt 22 0,
mt 23 2,
oc 24 132 [(.t 22),(.t 23)] 0])
.ret) (.seq (.reg [oq 26 (bi .eql (.t 19) (ci 1)),
mt 25 26])
(.cond (.t 25) (.seq (.reg [oq 27 (.faddr 4 (.t 6)),
oq 28 (ld 27),
oc 29 133 [(.t 28)] 0,
mt 7 29])
(.seq (.seq (.reg [mt 30 2,
mt 31 7,
oq 32 (bi .quo (ci 1000000000000000) (.t 31)),
oq 33 (bi .gtr (.t 30) (.t 32))])
(.cond (.t 33) (.seq (.reg [mt 34 0,
oq 35 (.nilchk (.t 34)),
oq 36 (.faddr 4 (.t 35)),
⟨none,(.x (.st 1 (.t 36) (.c (.bool true)))),none,0⟩])
.ret) .skip))
(.reg [mt 37 2,
mt 38 7,
oq 39 (bi .mul (.t 37) (.t 38)),
mt 2 39]))) .skip))))))
(.seq (.reg [oq 40 (.faddr 3 (.t 6)),
oq 41 (ld 40),
oq 42 (.lenSl (.t 41)),
oq 43 (.mv (ci 0))])
(.block 1 (.loop (.seq (.reg [oq 44 (bi .lss (.t 43) (.t 42))])
(.seq (.cond (.t 44) .skip (.exit 1))
(.seq (.block 2 (.seq (.reg [oq 45 (.iaddr (.slice 1) (.t 41) (.t 43)),
oq 46 (ld 45),
mt 9 46])
(.seq (.seq (.reg [mt 47 0,
oq 48 (.nilchk (.t 47)),
oq 49 (.faddr 4 (.t 48)),
oq 50 (ld 49)])
(.cond (.t 50) .ret .skip))
(.reg [mt 51 0,
mt 52 9,
mt 53 2,
oc 54 88 [(.t 51),(.t 52),(.t 53)] 0]))))
(.reg [oq 55 (bi .add (.t 43) (ci 1)),
mt 43 55])))))))))⟩
theorem row88 : Row Go.Proofs.Try.prog (88, a88) := ⟨Go.Proofs.Try.f88, Go.Proofs.Try.func88, by kernel_rfl⟩
noncomputable def a89 : AFn :=
⟨44,[(.t 4),(.t 5)],(.seq (.reg [⟨(some 2),(.a (.box 28 (.t 0))),none,0⟩,
oq 4 (.mv (ci 0)),
oq 5 (.mv (ci 0))])
(.seq (.seq (.reg [oq 9 (.ld true 3 (.t 2)),
oc 10 87 [(.t 9)] 0,
mt 6 10])
(.seq (.reg [mt 11 6,
oq 12 (bi .neq (.t 11) (ci 0))])
(.cond (.t 12) (.seq (.reg [mt 13 6,
oq 4 (.mv (ci 0)),
mt 5 13])
.ret) .skip)))
(.seq (.seq (.reg [mt 14 1,
oq 15 (.lenSl (.t 14)),
oq 16 (.faddr 2 (.t 2)),
oq 17 (ld 16),
oq 18 (.lenSl (.t 17)),
oq 19 (bi .neq (.t 15) (.t 18))])
(.cond (.t 19) (.seq (.reg [oq 4 (.mv (ci 0)),
oq 5 (.mv (ci 10))])
.ret) .skip))
(.seq (.seq (.reg [mt 20 1,
oq 21 (.lenSl (.t 20)),
oq 22 (.mv (ci 0))])
(.block 0 (.loop (.seq (.reg [oq 23 (bi .lss (.t 22) (.t 21))])
(.seq (.cond (.t 23) .skip (.exit 0))
(.seq (.block 1 (.seq (.reg [mt 24 22,
oq 25 (.iaddr (.slice 1) (.t 20) (.t 22)),
oq 26 (ld 25),
mt 7 24,
mt 8 26])
(.seq (.reg [mt 27 8,
oq 28 (bi .lss (.t 27) (ci 0)),
mt 29 28,
og 30 29 false 0 (.mv (.t 8)),
og 31 29 false 0 (.faddr 2 (.t 2)),
og 32 29 false 0 (ld 31),
og 33 29 false 0 (.mv (.t 7)),
og 34 29 false 0 (.iaddr (.slice 2) (.t 32) (.t 33)),
og 35 29 false 0 (.faddr 1 (.t 34)),
og 36 29 false 0 (ld 35),
og 37 29 false 0 (bi .geq (.t 30) (.t 36)),
oq 38 (.pick (.t 29) (.c (.bool true)) (.t 37))])
(.cond (.t 38) (.seq (.reg [oq 4 (.mv (ci 0)),
oq 5 (.mv (ci 2))])
.ret) .skip))))
(.reg [oq 39 (bi .add (.t 22) (ci 1)),
mt 22 39])))))))
(.seq (.reg [oq 40 (.ld true 3 (.t 2)),
oc 41 39 [(.t 40)] 0,
oq 42 (.extract (.t 41) 0),
oq 43 (.extract (.t 41) 1),
mt 4 42,
mt 5 43])
.ret)))))⟩
theorem row89 : Row Go.Proofs.Try.prog (89, a89) := ⟨Go.Proofs.Try.f89, Go.Proofs.Try.func89, by kernel_rfl⟩
noncomputable def a90 : AFn :=
⟨78,[(.t 6)],(.seq (.reg [⟨(some 3),(.a (.box 28 (.t 0))),none,0⟩,
oq 6 (.mv (.c .nilsl))])
(.seq (.reg [oq 13 (.faddr 1 (.t 3)),
oq 14 (ld 13),
oq 15 (.lenSl (.t 14)),
⟨(some 16),(.a (.mkSlice 3 1 8 [(.int .i64 (.ofNat 0))] (.t 15) (.t 15))),none,0⟩,
mt 7 16])
(.seq (.reg [mt 17 7,
mt 18 2,
oq 19 (.iaddr (.slice 1) (.t 17) (ci 0)),
⟨none,(.x (.st 1 (.t 19) (.t 18))),none,0⟩])
(.seq (.seq (.reg [oq 20 (.faddr 1 (.t 3)),
oq 21 (ld 20),
oq 22 (.lenSl (.t 21)),
oq 23 (.mv (ci 0))])
(.block 0 (.loop (.seq (.reg [oq 24 (bi .lss (.t 23) (.t 22))])
(.seq (.cond (.t 24) .skip (.exit 0))
(.seq (.block 1 (.seq (.reg [mt 25 23,
oq 26 (.iaddr (.slice 6) (.t 21) (.t 23)),
oq 27 (.ld true 6 (.t 26)),
⟨(some 9),(.a (.alloc 64 [(.int .i64 (.ofNat 0)),(.int .i64 (.ofNat 0)),(.int .i64 (.ofNat 0)),.nilsl,.nilsl,.nilsl])),none,0⟩,
mt 8 25,
⟨none,(.x (.st 6 (.t 9) (.t 27))),none,0⟩])
(.seq (.reg [oq 28 (.faddr 0 (.t 9)),
oq 29 (ld 28)])
(.block 2 (.seq (.reg [oq 31 (bi .eql (.t 29) (ci 1)),
mt 30 31])
(.cond (.t 30) (.seq (.drw [mt 32 7,
mt 33 8,
om 34 3 (.iaddr (.slice 1) (.t 32) (.t 33)),
om 35 7 (ld 34),
oq 36 (.build [] []),
oq 37 (.ld true 6 (.t 9)),
oc 38 134 [(.t 36),(.t 37)] 48,
om 39 127 (bi .quo (.t 35) (.t 38)),
om 10 255 (.mv (.t 39))])
(.seq (.reg [oq 40 (.faddr 3 (.t 9)),
oq 41 (ld 40),
oq 42 (.lenSl (.t 41)),
oq 43 (.mv (ci 0))])
(.block 3 (.loop (.seq (.reg [oq 44 (bi .lss (.t 43) (.t 42))])
(.seq (.cond (.t 44) .skip (.exit 3))
(.seq (.block 4 (.seq (.reg [mt 45 43,
oq 46 (.iaddr (.slice 1) (.t 41) (.t 43)),
oq 47 (ld 46),
mt 11 45,
mt 12 47])
(.reg [mt 48 7,
mt 49 12,
mt 50 10,
oq 51 (.faddr 4 (.t 9)),
oq 52 (ld 51),
mt 53 11,
oq 54 (.iaddr (.slice 1) (.t 52) (.t 53)),
oq 55 (ld 54),
oq 56 (bi .mul (.t 50) (.t 55)),
oq 57 (.iaddr (.slice 1) (.t 48) (.t 49)),
⟨none,(.x (.st 1 (.t 57) (.t 56))),none,0⟩])))
(.reg [oq 58 (bi .add (.t 43) (ci 1)),
mt 43 58])))))))) (.seq (.reg [oq 60 (bi .eql (.t 29) (ci 2)),
mt 59 60])
(.cond (.t 59) (.drw [mt 61 7,
oq 62 (.faddr 3 (.t 9)),
om 63 2 (ld 62),
mt 64 1,
oq 65 (.faddr 2 (.t 9)),
om 66 16 (ld 65),
om 67 56 (.iaddr (.slice 1) (.t 64) (.t 66)),
om 68 120 (ld 67),
om 69 254 (.iaddr (.slice 1) (.t 63) (.t 68)),
om 70 510 (ld 69),
mt 71 7,
mt 72 8,
om 73 3072 (.iaddr (.slice 1) (.t 71) (.t 72)),
om 74 7168 (ld 73),
om 75 16383 (.iaddr (.slice 1) (.t 61) (.t 70)),
⟨none,(.x (.st 1 (.t 75) (.t 74))),none,32767⟩]) .skip))))))))
(.reg [oq 76 (bi .add (.t 23) (ci 1)),
mt 23 76])))))))
(.seq (.reg [mt 77 7,
mt 6 77])
.ret)))))⟩
theorem row90 : Row Go.Proofs.Try.prog (90, a90) := ⟨Go.Proofs.Try.f90, Go.Proofs.Try.func90, by kernel_rfl⟩
noncomputable def a122 : AFn :=
⟨55,[(.cell 2 false 1)],(.seq (.reg [⟨(some 1),(.a (.box 55 (.t 0))),none,0⟩,
⟨(some 2),(.a (.alloc 33 [(.int .i64 (.ofNat 0))])),none,0⟩])
(.seq (.seq (.reg [oq 7 (.faddr 0 (.t 1)),
oq 8 (ld 7),
oq 9 (bi .lss (.t 8) (ci 1)),
mt 10 9,
og 11 10 false 0 (.faddr 0 (.t 1)),
og 12 10 false 0 (ld 11),
og 13 10 false 0 (bi .gtr (.t 12) (ci 30)),
oq 14 (.pick (.t 10) (.c (.bool true)) (.t 13))])
(.cond (.t 14) (.seq (.reg [⟨none,(.x (.st 1 (.t 2) (ci 2))),none,0⟩])
.ret) .skip))
(.seq (.seq (.reg [oq 15 (.faddr 1 (.t 1)),
oq 16 (ld 15),
oq 17 (.lenSl (.t 16)),
oq 18 (bi .gtr (.t 17) (ci 200))])
(.cond (.t 18) (.seq (.reg [⟨none,(.x (.st 1 (.t 2) (ci 4))),none,0⟩])
.ret) .skip))
(.seq (.seq (.reg [oq 19 (.faddr 1 (.t 1)),
oq 20 (ld 19),
oc 21 160 [(.t 20)] 0])
(.block 0 (.rng (.t 21) [22] (.reg [mt 3 22]) (.block 1 (.seq (.seq (.reg [mt 23 3,
oq 24 (.lenSl (.t 23)),
oq 25 (bi .lss (.t 24) (ci 1)),
mt 26 25,
og 27 26 false 0 (.mv (.t 3)),
og 28 26 false 0 (.lenSl (.t 27)),
og 29 26 false 0 (bi .gtr (.t 28) (ci 10)),
oq 30 (.pick (.t 26) (.c (.bool true)) (.t 29))])
(.cond (.t 30) (.seq (.reg [⟨none,(.x (.st 1 (.t 2) (ci 3))),none,0⟩])
.ret) .skip))
(.seq (.reg [oq 4 (.mv (ci 0))])
(.seq (.seq (.reg [mt 31 3,
oq 32 (.lenSl (.t 31)),
oq 33 (.mv (ci 0))])
(.block 2 (.loop (.seq (.reg [oq 34 (bi .lss (.t 33) (.t 32))])
(.seq (.cond (.t 34) .skip (.exit 2))
(.seq (.block 3 (.seq (.reg [oq 35 (.iaddr (.slice 1) (.t 31) (.t 33)),
oq 36 (ld 35),
mt 6 36])
(.seq (.seq (.reg [mt 37 6,
oq 38 (bi .lss (.t 37) (ci 0)),
mt 39 38,
og 40 39 false 0 (.mv (.t 6)),
og 41 39 false 0 (.faddr 0 (.t 1)),
og 42 39 false 0 (ld 41),
og 43 39 false 0 (bi .shl (ci 1) (.t 42)),
og 44 39 false 0 (bi .gtr (.t 40) (.t 43)),
oq 45 (.pick (.t 39) (.c (.bool true)) (.t 44))])
(.cond (.t 45) (.seq (.reg [⟨none,(.x (.st 1 (.t 2) (ci 2))),none,0⟩])
.ret) .skip))
(.reg [mt 46 4,
mt 47 6,
oq 48 (bi .add (.t 46) (.t 47)),
mt 4 48]))))
(.reg [oq 49 (bi .add (.t 33) (ci 1)),
mt 33 49])))))))
(.seq (.reg [mt 50 4,
oq 51 (.faddr 0 (.t 1)),
oq 52 (ld 51),
oq 53 (bi .shl (ci 1) (.t 52)),
oq 54 (bi .neq (.t 50) (.t 53))])
(.cond (.t 54) (.seq (.reg [⟨none,(.x (.st 1 (.t 2) (ci 14))),none,0⟩])
.ret) .skip)))))))))
(.seq (.reg [⟨none,(.x (.st 1 (.t 2) (ci 0))),none,0⟩])
.ret)))))⟩
theorem row122 : Row Go.Proofs.Try.prog (122, a122) := ⟨Go.Proofs.Try.f122, Go.Proofs.Try.func122, by kernel_rfl⟩
noncomputable def a123 : AFn :=
⟨12,[(.t 4)],(.seq (.reg [oq 4 (.mv (ci 0))])
(.seq (.block 0 (.loop (.seq (.seq (.reg [mt 5 1,
oq 6 (bi .neq (.t 5) (ci 0))])
(.cond (.t 6) .skip (.exit 0)))
(.block 1 (.drw [mt 7 1,
mt 8 0,
mt 9 1,
om 10 6 (bi .rem (.t 8) (.t 9)),
om 0 3 (.mv (.t 7)),
om 1 31 (.mv (.t 10))])))))
(.seq (.reg [mt 11 0,
mt 4 11])
.ret)))⟩
theorem row123 : Row Go.Proofs.Try.prog (123, a123) := ⟨Go.Proofs.Try.f123, Go.Proofs.Try.func123, by kernel_rfl⟩
noncomputable def a124 : AFn :=
⟨11,[(.t 4)],(.seq (.reg [⟨(some 2),(.a (.box 64 (.t 0))),none,0⟩,
oq 4 (.mv (.c .niliface))])
(.seq (.seq (.reg [oq 5 (.faddr 0 (.t 2)),
oq 6 (ld 5),
oq 7 (bi .eql (.t 6) (ci 1))])
(.cond (.t 7) (.seq (.reg [oq 8 (.build [] []),
oq 9 (.mkIface 191 (.t 8)),
mt 4 9])
.ret) .skip))
(.seq (.reg [mt 10 1,
mt 4 10])
.ret)))⟩
theorem row124 : Row Go.Proofs.Try.prog (124, a124) := ⟨Go.Proofs.Try.f124, Go.Proofs.Try.func124, by kernel_rfl⟩
noncomputable def a127 : AFn :=
⟨8,[(.t 6)],(.seq (.reg [⟨(some 3),(.a (.box 28 (.t 0))),none,0⟩,
⟨(some 4),(.a (.box 179 (.t 1))),none,0⟩,
⟨(some 5),(.a (.box 3 (.t 2))),none,0⟩,
oq 6 (.mv (.c .nilfn))])
(.seq (.reg [oq 7 (.mkFunc 161 [] [(.t 5),(.t 3),(.t 4)]),
mt 6 7])
.ret))⟩
theorem row127 : Row Go.Proofs.Try.prog (127, a127) := ⟨Go.Proofs.Try.f127, Go.Proofs.Try.func127, by kernel_rfl⟩
noncomputable def a128 : AFn :=
⟨55,[],(.seq (.reg [oq 6 (.build [(.int .i64 (.ofNat 0)),(.int .i64 (.ofNat 0)),(.int .i64 (.ofNat 0)),.nilsl,.nilsl,.nilsl] [(0,1,(ci 3))]),
⟨(some 4),(.a (.alloc 64 [(.int .i64 (.ofNat 0)),(.int .i64 (.ofNat 0)),(.int .i64 (.ofNat 0)),.nilsl,.nilsl,.nilsl])),none,0⟩,
⟨none,(.x (.st 6 (.t 4) (.t 6))),none,0⟩])
(.seq (.seq (.reg [oq 5 (.mv (ci 0))])
(.block 0 (.loop (.seq (.seq (.reg [mt 7 5,
mt 8 0,
oq 9 (.nilchk (.t 8)),
oq 10 (.faddr 7 (.t 9)),
oq 11 (.faddr 0 (.t 10)),
oq 12 (ld 11),
oq 13 (bi .lss (.t 7) (.t 12))])
(.cond (.t 13) .skip (.exit 0)))
(.seq (.block 1 (.drw [oq 16 (.faddr 5 (.t 4)),
om 17 1 (ld 16),
mt 18 0,
om 19 4 (.nilchk (.t 18)),
om 20 12 (.faddr 0 (.t 19)),
om 21 28 (ld 20),
oc 22 38 [(.t 21),(ci 7)] 60,
om 23 124 (bi .sub (.t 22) (ci 3)),
⟨(some 24),(.a (.bslice 3 1 1 [(.int .i64 (.ofNat 0))] [(0,(.t 23))])),none,252⟩,
⟨(some 25),(.x (.app 3 1 8 (.t 17) (.t 24))),none,511⟩,
om 26 1023 (.faddr 5 (.t 4)),
⟨none,(.x (.st 1 (.t 26) (.t 25))),none,2047⟩]))
(.reg [mt 14 5,
oq 15 (bi .add (.t 14) (ci 1)),
mt 5 15]))))))
(.seq (.seq (.reg [mt 27 0,
oq 28 (.nilchk (.t 27)),
oq 29 (.faddr 5 (.t 28)),
oq 30 (ld 29),
mt 31 30,
og 32 31 true 0 (.mv (.t 0)),
og 33 31 true 0 (.nilchk (.t 32)),
og 34 31 true 0 (.faddr 7 (.t 33)),
og 35 31 true 0 (.faddr 0 (.t 34)),
og 36 31 true 0 (ld 35),
og 37 31 true 0 (bi .eql (.t 36) (ci 2)),
oq 38 (.pick (.t 31) (.t 37) (.c (.bool false)))])
(.cond (.t 38) (.drw [oq 39 (.faddr 5 (.t 4)),
om 40 1 (ld 39),
oq 41 (.faddr 5 (.t 4)),
om 42 4 (ld 41),
om 43 12 (.iaddr (.slice 1) (.t 42) (ci 0)),
om 44 28 (ld 43),
om 45 60 (.un .neg (.t 44)),
om 46 127 (.iaddr (.slice 1) (.t 40) (ci 1)),
⟨none,(.x (.st 1 (.t 46) (.t 45))),none,255⟩]) .skip))
(.drw [mt 47 0,
om 48 1 (.nilchk (.t 47)),
om 49 3 (.faddr 7 (.t 48)),
om 50 7 (.faddr 1 (.t 49)),
om 51 15 (ld 50),
mt 52 1,
oq 53 (.ld true 6 (.t 4)),
om 54 127 (.iaddr (.slice 6) (.t 51) (.t 52)),
⟨none,(.x (.st 6 (.t 54) (.t 53))),none,255⟩]))))⟩
theorem row128 : Row Go.Proofs.Try.prog (128, a128) := ⟨Go.Proofs.Try.f128, Go.Proofs.Try.func128, by kernel_rfl⟩
end Go.Ev.Gl
