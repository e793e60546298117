/- Functions of the program as data of the evaluator, written by program; each is shown to be the compiler's result on the loaded function. -/
import Derived.Test.YtoojnpjgnnpllaaProg
import Derived.Test.YtoojnpjgnnpllaaEv8
import Derived.KernelRfl
namespace Go.Ev.Gl
set_option maxRecDepth 100000
noncomputable def a7 : AFn :=
⟨222,[(.t 6)],(.seq (.reg [oq 6 (.mv (.c (.bool false)))])
(.seq (.reg [mt 27 1,
oq 28 (.build [.nilsl,(.int .i64 (.ofNat 0))] [(0,1,(.t 27))]),
⟨(some 29),(.a (.box 46 (.t 28))),none,0⟩,
mt 7 29])
(.seq (.reg [mt 30 0,
mt 31 2,
oc 32 16 [(.t 31),(ci 3)] 0,
oq 33 (bi .add (ci 1) (.t 32)),
oc 34 37 [(.t 30),(.t 33),(ci 15),(.c (.bool false))] 0,
⟨(some 8),(.a (.alloc 28 [(.int .i64 (.ofNat 0)),.nilsl,.nilsl])),none,0⟩,
⟨none,(.x (.st 3 (.t 8) (.t 34))),none,0⟩])
(.seq (.reg [mt 35 7,
oc 36 38 [(.t 35),(ci 2)] 0,
oq 37 (bi .add (ci 1) (.t 36)),
oq 38 (.build [(.int .i64 (.ofNat 0)),.nilsl] [(0,1,(.t 37))]),
⟨(some 9),(.a (.alloc 55 [(.int .i64 (.ofNat 0)),.nilsl])),none,0⟩,
⟨none,(.x (.st 2 (.t 9) (.t 38))),none,0⟩])
(.seq (.seq (.reg [oq 10 (.mv (ci 0))])
(.block 0 (.loop (.seq (.seq (.reg [mt 39 10,
oq 40 (.faddr 2 (.t 8)),
oq 41 (ld 40),
oq 42 (.lenSl (.t 41)),
oq 43 (bi .lss (.t 39) (.t 42))])
(.cond (.t 43) .skip (.exit 0)))
(.seq (.block 1 (.seq (.reg [oq 46 (.faddr 2 (.t 8)),
oq 47 (ld 46),
mt 48 10,
oq 49 (.iaddr (.slice 2) (.t 47) (.t 48)),
oq 50 (.faddr 1 (.t 49)),
oq 51 (ld 50),
⟨(some 52),(.a (.mkSlice 3 1 8 [(.int .i64 (.ofNat 0))] (.t 51) (.t 51))),none,0⟩,
mt 11 52])
(.seq (.seq (.reg [oq 12 (.mv (ci 0))])
(.block 2 (.loop (.seq (.seq (.reg [mt 53 12,
oq 54 (.faddr 0 (.t 9)),
oq 55 (ld 54),
oq 56 (bi .shl (ci 1) (.t 55)),
oq 57 (bi .lss (.t 53) (.t 56))])
(.cond (.t 57) .skip (.exit 2)))
(.seq (.block 3 (.reg [mt 60 11,
mt 61 7,
mt 62 11,
oq 63 (.lenSl (.t 62)),
oc 64 38 [(.t 61),(.t 63)] 0,
oq 65 (.iaddr (.slice 1) (.t 60) (.t 64)),
oq 66 (ld 65),
oq 67 (bi .add (.t 66) (ci 1)),
oq 68 (.iaddr (.slice 1) (.t 60) (.t 64)),
⟨none,(.x (.st 1 (.t 68) (.t 67))),none,0⟩]))
(.reg [mt 58 12,
oq 59 (bi .add (.t 58) (ci 1)),
mt 12 59]))))))
(.reg [oq 69 (.faddr 1 (.t 9)),
oq 70 (ld 69),
mt 71 11,
⟨(some 72),(.a (.bslice 22 1 1 [.nilsl] [(0,(.t 71))])),none,0⟩,
⟨(some 73),(.x (.app 22 1 24 (.t 70) (.t 72))),none,0⟩,
oq 74 (.faddr 1 (.t 9)),
⟨none,(.x (.st 1 (.t 74) (.t 73))),none,0⟩]))))
(.reg [mt 44 10,
oq 45 (bi .add (.t 44) (ci 1)),
mt 10 45]))))))
(.seq (.reg [oq 76 (.ld true 3 (.t 8)),
oq 77 (.ld true 2 (.t 9)),
oc 78 33 [(.t 76),(.t 77)] 0,
mt 75 78,
oq 79 (.extract (.t 75) 0),
oq 80 (.extract (.t 75) 1),
mt 13 79,
mt 14 80])
(.seq (.seq (.reg [mt 81 14,
oq 82 (bi .neq (.t 81) (ci 0)),
mt 83 82,
og 84 83 false 0 (.mv (.t 13)),
og 85 83 false 0 (bi .lss (.t 84) (ci 1)),
oq 86 (.pick (.t 83) (.c (.bool true)) (.t 85))])
(.cond (.t 86) (.seq (.reg [oq 6 (.mv (.c (.bool false)))])
.ret) .skip))
(.seq (.seq (.reg [mt 87 13,
oq 88 (bi .gtr (.t 87) (ci 3000))])
(.cond (.t 88) (.seq (.reg [oc 89 32 [] 0,
mt 6 89])
.ret) .skip))
(.seq (.reg [oq 90 (.faddr 1 (.t 8)),
oq 91 (ld 90),
oq 92 (.lenSl (.t 91)),
⟨(some 93),(.a (.mkSlice 3 1 8 [(.int .i64 (.ofNat 0))] (.t 92) (.t 92))),none,0⟩,
mt 15 93])
(.seq (.reg [mt 94 15,
mt 95 13,
oq 96 (.iaddr (.slice 1) (.t 94) (ci 0)),
⟨none,(.x (.st 1 (.t 96) (.t 95))),none,0⟩])
(.seq (.seq (.reg [oq 16 (.mv (ci 0))])
(.block 4 (.loop (.seq (.seq (.reg [mt 97 16,
oq 98 (.faddr 1 (.t 8)),
oq 99 (ld 98),
oq 100 (.lenSl (.t 99)),
oq 101 (bi .lss (.t 97) (.t 100))])
(.cond (.t 101) .skip (.exit 4)))
(.seq (.block 5 (.seq (.reg [oq 104 (.faddr 1 (.t 8)),
oq 105 (ld 104),
mt 106 16,
oq 107 (.iaddr (.slice 6) (.t 105) (.t 106)),
oq 108 (.ld true 6 (.t 107)),
⟨(some 17),(.a (.alloc 64 [(.int .i64 (.ofNat 0)),(.int .i64 (.ofNat 0)),(.int .i64 (.ofNat 0)),.nilsl,.nilsl,.nilsl])),none,0⟩,
⟨none,(.x (.st 6 (.t 17) (.t 108))),none,0⟩])
(.seq (.reg [oq 109 (.faddr 4 (.t 17)),
oq 110 (ld 109),
mt 18 110])
(.seq (.seq (.reg [oq 111 (.faddr 0 (.t 17)),
oq 112 (ld 111),
oq 113 (bi .eql (.t 112) (ci 2))])
(.cond (.t 113) (.reg [oq 114 (.faddr 1 (.t 9)),
oq 115 (ld 114),
oq 116 (.faddr 2 (.t 17)),
oq 117 (ld 116),
oq 118 (.iaddr (.slice 1) (.t 115) (.t 117)),
oq 119 (ld 118),
mt 18 119]) .skip))
(.seq (.reg [oq 19 (.mv (ci 0))])
(.seq (.seq (.reg [oq 20 (.mv (ci 0))])
(.block 6 (.loop (.seq (.seq (.reg [mt 120 20,
mt 121 18,
oq 122 (.lenSl (.t 121)),
oq 123 (bi .lss (.t 120) (.t 122))])
(.cond (.t 123) .skip (.exit 6)))
(.seq (.block 7 (.reg [mt 126 19,
mt 127 18,
mt 128 20,
oq 129 (.iaddr (.slice 1) (.t 127) (.t 128)),
oq 130 (ld 129),
oq 131 (bi .add (.t 126) (.t 130)),
mt 19 131]))
(.reg [mt 124 20,
oq 125 (bi .add (.t 124) (ci 1)),
mt 20 125]))))))
(.seq (.reg [oq 21 (.mv (ci 0))])
(.block 8 (.loop (.seq (.seq (.reg [mt 132 21,
oq 133 (.faddr 3 (.t 17)),
oq 134 (ld 133),
oq 135 (.lenSl (.t 134)),
oq 136 (bi .lss (.t 132) (.t 135))])
(.cond (.t 136) .skip (.exit 8)))
(.seq (.block 9 (.seq (.seq (.reg [mt 139 15,
mt 140 16,
oq 141 (.iaddr (.slice 1) (.t 139) (.t 140)),
oq 142 (ld 141),
mt 143 19,
oq 144 (bi .rem (.t 142) (.t 143)),
oq 145 (bi .neq (.t 144) (ci 0))])
(.cond (.t 145) (.seq (.reg [oq 6 (.mv (.c (.bool false)))])
.ret) .skip))
(.drw [mt 146 15,
oq 147 (.faddr 3 (.t 17)),
om 148 2 (ld 147),
mt 149 21,
om 150 14 (.iaddr (.slice 1) (.t 148) (.t 149)),
om 151 30 (ld 150),
mt 152 15,
mt 153 16,
om 154 192 (.iaddr (.slice 1) (.t 152) (.t 153)),
om 155 448 (ld 154),
mt 156 19,
om 157 1984 (bi .quo (.t 155) (.t 156)),
mt 158 18,
mt 159 21,
om 160 12288 (.iaddr (.slice 1) (.t 158) (.t 159)),
om 161 28672 (ld 160),
om 162 65472 (bi .mul (.t 157) (.t 161)),
om 163 131071 (.iaddr (.slice 1) (.t 146) (.t 151)),
⟨none,(.x (.st 1 (.t 163) (.t 162))),none,262143⟩])))
(.reg [mt 137 21,
oq 138 (bi .add (.t 137) (ci 1)),
mt 21 138]))))))))))))
(.reg [mt 102 16,
oq 103 (bi .add (.t 102) (ci 1)),
mt 16 103]))))))
(.seq (.reg [oq 164 (.faddr 1 (.t 8)),
oq 165 (ld 164),
oq 166 (.lenSl (.t 165)),
⟨(some 167),(.a (.mkSlice 3 1 8 [(.int .i64 (.ofNat 0))] (.t 166) (.t 166))),none,0⟩,
mt 22 167])
(.seq (.seq (.reg [oq 23 (.mv (ci 0))])
(.block 10 (.loop (.seq (.seq (.reg [mt 168 23,
mt 169 13,
oq 170 (bi .lss (.t 168) (.t 169))])
(.cond (.t 170) .skip (.exit 10)))
(.seq (.block 11 (.seq (.reg [oq 174 (.ld true 3 (.t 8)),
oq 175 (.ld true 2 (.t 9)),
mt 176 23,
oc 177 35 [(.t 174),(.t 175),(.t 176)] 0,
mt 173 177,
oq 178 (.extract (.t 173) 0),
oq 179 (.extract (.t 173) 1),
mt 24 178,
mt 25 179])
(.seq (.seq (.reg [mt 180 25,
oq 181 (bi .neq (.t 180) (ci 0)),
mt 182 181,
og 183 182 false 0 (.mv (.t 24)),
og 184 182 false 0 (.lenSl (.t 183)),
og 185 182 false 0 (bi .eql (.t 184) (ci 0)),
oq 186 (.pick (.t 182) (.c (.bool true)) (.t 185))])
(.cond (.t 186) (.seq (.reg [oq 6 (.mv (.c (.bool false)))])
.ret) .skip))
(.seq (.reg [oq 26 (.mv (ci 0))])
(.block 12 (.loop (.seq (.seq (.reg [mt 187 26,
mt 188 24,
oq 189 (.lenSl (.t 188)),
oq 190 (bi .lss (.t 187) (.t 189))])
(.cond (.t 190) .skip (.exit 12)))
(.seq (.block 13 (.seq (.seq (.reg [mt 193 24,
mt 194 26,
oq 195 (.iaddr (.slice 1) (.t 193) (.t 194)),
oq 196 (ld 195),
oq 197 (bi .lss (.t 196) (ci 0)),
mt 198 197,
og 199 198 false 0 (.mv (.t 24)),
og 200 198 false 0 (.mv (.t 26)),
og 201 198 false 0 (.iaddr (.slice 1) (.t 199) (.t 200)),
og 202 198 false 0 (ld 201),
og 203 198 false 0 (.mv (.t 22)),
og 204 198 false 0 (.lenSl (.t 203)),
og 205 198 false 0 (bi .geq (.t 202) (.t 204)),
oq 206 (.pick (.t 198) (.c (.bool true)) (.t 205))])
(.cond (.t 206) (.seq (.reg [oq 6 (.mv (.c (.bool false)))])
.ret) .skip))
(.reg [mt 207 22,
mt 208 24,
mt 209 26,
oq 210 (.iaddr (.slice 1) (.t 208) (.t 209)),
oq 211 (ld 210),
oq 212 (.iaddr (.slice 1) (.t 207) (.t 211)),
oq 213 (ld 212),
oq 214 (bi .add (.t 213) (ci 1)),
oq 215 (.iaddr (.slice 1) (.t 207) (.t 211)),
⟨none,(.x (.st 1 (.t 215) (.t 214))),none,0⟩])))
(.reg [mt 191 26,
oq 192 (bi .add (.t 191) (ci 1)),
mt 26 192])))))))))
(.reg [mt 171 23,
oq 172 (bi .add (.t 171) (ci 1)),
mt 23 172]))))))
(.seq (.reg [mt 216 22,
mt 217 15,
oc 218 19 [(.t 216),(.t 217)] 0,
mt 219 218,
⟨(some 220),(.x (.call (.c (.fn 32 [] [])) [])),(some (219,true)),0⟩,
oq 221 (.pick (.t 219) (.t 220) (.c (.bool false))),
mt 6 221])
.ret))))))))))))))⟩
theorem row7 : Row Go.Proofs.Try.prog (7, a7) := ⟨Go.Proofs.Try.f7, Go.Proofs.Try.func7, by kernel_rfl⟩
noncomputable def a16 : AFn :=
⟨14,[(.t 4)],(.seq (.reg [oq 4 (.mv (ci 0))])
(.seq (.reg [mt 5 0,
mt 6 1,
oq 7 (bi .rem (.t 5) (.t 6)),
mt 0 7])
(.seq (.seq (.reg [mt 8 0,
oq 9 (bi .lss (.t 8) (ci 0))])
(.cond (.t 9) (.reg [mt 10 0,
mt 11 1,
oq 12 (bi .add (.t 10) (.t 11)),
mt 0 12]) .skip))
(.seq (.reg [mt 13 0,
mt 4 13])
.ret))))⟩
theorem row16 : Row Go.Proofs.Try.prog (16, a16) := ⟨Go.Proofs.Try.f16, Go.Proofs.Try.func16, by kernel_rfl⟩
noncomputable def a19 : AFn :=
⟨26,[(.t 4)],(.seq (.reg [oq 4 (.mv (.c (.bool false)))])
(.seq (.seq (.reg [mt 6 0,
oq 7 (.lenSl (.t 6)),
mt 8 1,
oq 9 (.lenSl (.t 8)),
oq 10 (bi .neq (.t 7) (.t 9))])
(.cond (.t 10) (.seq (.reg [oq 4 (.mv (.c (.bool false)))])
.ret) .skip))
(.seq (.seq (.reg [oq 5 (.mv (ci 0))])
(.block 0 (.loop (.seq (.seq (.reg [mt 11 5,
mt 12 0,
oq 13 (.lenSl (.t 12)),
oq 14 (bi .lss (.t 11) (.t 13))])
(.cond (.t 14) .skip (.exit 0)))
(.seq (.block 1 (.seq (.drw [mt 17 0,
mt 18 5,
om 19 3 (.iaddr (.slice 1) (.t 17) (.t 18)),
om 20 7 (ld 19),
mt 21 1,
mt 22 5,
om 23 48 (.iaddr (.slice 1) (.t 21) (.t 22)),
om 24 112 (ld 23),
om 25 255 (bi .neq (.t 20) (.t 24))])
(.cond (.t 25) (.seq (.reg [oq 4 (.mv (.c (.bool false)))])
.ret) .skip)))
(.reg [mt 15 5,
oq 16 (bi .add (.t 15) (ci 1)),
mt 5 16]))))))
(.seq (.reg [oq 4 (.mv (.c (.bool true)))])
.ret))))⟩
theorem row19 : Row Go.Proofs.Try.prog (19, a19) := ⟨Go.Proofs.Try.f19, Go.Proofs.Try.func19, by kernel_rfl⟩
noncomputable def a33 : AFn :=
⟨19,[(.t 4),(.t 5)],(.seq (.reg [⟨(some 2),(.a (.box 28 (.t 0))),none,0⟩,
⟨(some 3),(.a (.box 55 (.t 1))),none,0⟩,
oq 4 (.mv (ci 0)),
oq 5 (.mv (ci 0))])
(.seq (.seq (.reg [oq 7 (.ld true 3 (.t 2)),
oq 8 (.ld true 2 (.t 3)),
oc 9 79 [(.t 7),(.t 8)] 0,
mt 6 9])
(.seq (.reg [mt 10 6,
oq 11 (bi .neq (.t 10) (ci 0))])
(.cond (.t 11) (.seq (.reg [mt 12 6,
oq 4 (.mv (ci 0)),
mt 5 12])
.ret) .skip)))
(.seq (.reg [oq 13 (.ld true 3 (.t 2)),
oq 14 (.ld true 2 (.t 3)),
oq 15 (.mkIface 119 (.t 14)),
oc 16 80 [(.t 13),(.t 15)] 0,
oq 17 (.extract (.t 16) 0),
oq 18 (.extract (.t 16) 1),
mt 4 17,
mt 5 18])
.ret)))⟩
theorem row33 : Row Go.Proofs.Try.prog (33, a33) := ⟨Go.Proofs.Try.f33, Go.Proofs.Try.func33, by kernel_rfl⟩
noncomputable def a35 : AFn :=
⟨31,[(.t 6),(.t 7)],(.seq (.reg [⟨(some 3),(.a (.box 28 (.t 0))),none,0⟩,
⟨(some 4),(.a (.box 55 (.t 1))),none,0⟩,
oq 6 (.mv (.c .nilsl)),
oq 7 (.mv (ci 0))])
(.seq (.reg [oq 11 (.ld true 3 (.t 3)),
oq 12 (.ld true 2 (.t 4)),
oc 13 33 [(.t 11),(.t 12)] 0,
mt 10 13,
oq 14 (.extract (.t 10) 0),
oq 15 (.extract (.t 10) 1),
mt 8 14,
mt 9 15])
(.seq (.seq (.reg [mt 16 9,
oq 17 (bi .neq (.t 16) (ci 0))])
(.cond (.t 17) (.seq (.reg [mt 18 9,
oq 6 (.mv (.c .nilsl)),
mt 7 18])
.ret) .skip))
(.seq (.seq (.reg [mt 19 2,
oq 20 (bi .lss (.t 19) (ci 0)),
mt 21 20,
og 22 21 false 0 (.mv (.t 2)),
og 23 21 false 0 (.mv (.t 8)),
og 24 21 false 0 (bi .geq (.t 22) (.t 23)),
oq 25 (.pick (.t 21) (.c (.bool true)) (.t 24))])
(.cond (.t 25) (.seq (.reg [oq 6 (.mv (.c .nilsl)),
oq 7 (.mv (ci 2))])
.ret) .skip))
(.seq (.reg [oq 26 (.ld true 3 (.t 3)),
oq 27 (.ld true 2 (.t 4)),
oq 28 (.mkIface 119 (.t 27)),
mt 29 2,
oc 30 84 [(.t 26),(.t 28),(.t 29)] 0,
mt 6 30,
oq 7 (.mv (ci 0))])
.ret)))))⟩
theorem row35 : Row Go.Proofs.Try.prog (35, a35) := ⟨Go.Proofs.Try.f35, Go.Proofs.Try.func35, by kernel_rfl⟩
noncomputable def a37 : AFn :=
⟨70,[(.cell 8 true 3)],(.seq (.reg [⟨(some 8),(.a (.alloc 28 [(.int .i64 (.ofNat 0)),.nilsl,.nilsl])),none,0⟩])
(.seq (.reg [mt 11 0,
oq 12 (.build [.nilsl,(.int .i64 (.ofNat 0))] [(0,1,(.t 11))]),
⟨(some 13),(.a (.box 46 (.t 12))),none,0⟩,
mt 14 2,
mt 15 3,
oq 16 (.build [.nilp,.nilsl,.nilsl,(.int .i64 (.ofNat 0)),(.int .i64 (.ofNat 0)),(.bool false),(.bool false),(.int .i64 (.ofNat 0)),.nilsl,.nilsl] [(0,1,(.t 13)),(3,1,(.t 14)),(4,1,(ci 1)),(5,1,(.t 15))]),
⟨(some 17),(.a (.box 129 (.t 16))),none,0⟩,
mt 9 17])
(.seq (.reg [mt 18 9,
mt 19 1,
oq 20 (.nilchk (.t 18)),
oq 21 (.faddr 7 (.t 20)),
oq 22 (.faddr 0 (.t 21)),
⟨none,(.x (.st 1 (.t 22) (.t 19))),none,0⟩])
(.seq (.seq (.reg [mt 23 9,
oq 24 (.nilchk (.t 23)),
oq 25 (.faddr 0 (.t 24)),
oq 26 (ld 25),
oc 27 38 [(.t 26),(ci 5)] 0,
oq 28 (bi .add (ci 1) (.t 27)),
mt 10 28])
(.block 0 (.loop (.seq (.seq (.reg [mt 29 10,
oq 30 (bi .gtr (.t 29) (ci 0))])
(.cond (.t 30) .skip (.exit 0)))
(.seq (.block 1 (.drw [mt 33 9,
mt 34 9,
om 35 2 (.nilchk (.t 34)),
om 36 6 (.faddr 1 (.t 35)),
om 37 14 (ld 36),
mt 38 9,
om 39 32 (.nilchk (.t 38)),
om 40 96 (.faddr 0 (.t 39)),
om 41 224 (ld 40),
mt 42 1,
om 43 512 (bi .add (.t 42) (ci 1)),
oc 44 38 [(.t 41),(.t 43)] 2016,
om 45 4064 (bi .sub (.t 44) (ci 1)),
mt 46 9,
om 47 8192 (.nilchk (.t 46)),
om 48 24576 (.faddr 0 (.t 47)),
om 49 57344 (ld 48),
oc 50 38 [(.t 49),(ci 2)] 126944,
om 51 258016 (bi .add (ci 2) (.t 50)),
mt 52 9,
om 53 524288 (.nilchk (.t 52)),
om 54 1572864 (.faddr 0 (.t 53)),
om 55 3670016 (ld 54),
oc 56 38 [(.t 55),(ci 16)] 8122336,
om 57 16777184 (.build [(.int .i64 (.ofNat 0)),(.int .i64 (.ofNat 0)),(.int .i64 (.ofNat 0))] [(0,1,(.t 45)),(1,1,(.t 51)),(2,1,(.t 56))]),
⟨(some 58),(.a (.bslice 131 3 1 [(.int .i64 (.ofNat 0)),(.int .i64 (.ofNat 0)),(.int .i64 (.ofNat 0))] [(0,(.t 57))])),none,33554400⟩,
⟨(some 59),(.x (.app 131 3 24 (.t 37) (.t 58))),none,67108862⟩,
om 60 134217727 (.nilchk (.t 33)),
om 61 268435455 (.faddr 1 (.t 60)),
⟨none,(.x (.st 1 (.t 61) (.t 59))),none,536870911⟩]))
(.reg [mt 31 10,
oq 32 (bi .sub (.t 31) (ci 1)),
mt 10 32]))))))
(.seq (.reg [mt 62 9,
mt 63 1,
⟨(some 64),(.a (.mkSlice 22 1 24 [.nilsl] (.t 63) (.t 63))),none,0⟩,
oc 65 86 [(.t 62),(ci 0),(.t 64)] 0])
(.seq (.reg [mt 66 9,
oq 67 (.nilchk (.t 66)),
oq 68 (.faddr 7 (.t 67)),
oq 69 (.ld true 3 (.t 68)),
⟨none,(.x (.st 3 (.t 8) (.t 69))),none,0⟩])
.ret))))))⟩
theorem row37 : Row Go.Proofs.Try.prog (37, a37) := ⟨Go.Proofs.Try.f37, Go.Proofs.Try.func37, by kernel_rfl⟩
noncomputable def a38 : AFn :=
⟨39,[(.t 4)],(.seq (.reg [oq 4 (.mv (ci 0))])
(.seq (.seq (.drw [mt 5 0,
om 6 1 (.nilchk (.t 5)),
om 7 3 (.faddr 1 (.t 6)),
om 8 7 (ld 7),
mt 9 0,
om 10 16 (.nilchk (.t 9)),
om 11 48 (.faddr 0 (.t 10)),
om 12 112 (ld 11),
om 13 240 (.lenSl (.t 12)),
om 14 511 (bi .geq (.t 8) (.t 13)),
om 15 1023 (.mv (.t 14)),
og 16 15 false 2047 (.mv (.t 1)),
og 17 15 false 4095 (bi .lss (.t 16) (ci 1)),
om 18 8191 (.pick (.t 15) (.c (.bool true)) (.t 17))])
(.cond (.t 18) (.seq (.reg [oq 4 (.mv (ci 0))])
.ret) .skip))
(.seq (.reg [mt 19 0,
oq 20 (.nilchk (.t 19)),
oq 21 (.faddr 1 (.t 20)),
oq 22 (ld 21),
oq 23 (bi .add (.t 22) (ci 1)),
oq 24 (.nilchk (.t 19)),
oq 25 (.faddr 1 (.t 24)),
⟨none,(.x (.st 1 (.t 25) (.t 23))),none,0⟩])
(.seq (.drw [mt 26 0,
om 27 1 (.nilchk (.t 26)),
om 28 3 (.faddr 0 (.t 27)),
om 29 7 (ld 28),
mt 30 0,
om 31 16 (.nilchk (.t 30)),
om 32 48 (.faddr 1 (.t 31)),
om 33 112 (ld 32),
om 34 240 (bi .sub (.t 33) (ci 1)),
om 35 511 (.iaddr (.slice 1) (.t 29) (.t 34)),
om 36 1023 (ld 35),
mt 37 1,
oc 38 16 [(.t 36),(.t 37)] 4095,
om 4 8191 (.mv (.t 38))])
.ret))))⟩
theorem row38 : Row Go.Proofs.Try.prog (38, a38) := ⟨Go.Proofs.Try.f38, Go.Proofs.Try.func38, by kernel_rfl⟩
noncomputable def a79 : AFn :=
⟨44,[(.t 4)],(.seq (.reg [⟨(some 2),(.a (.box 28 (.t 0))),none,0⟩,
⟨(some 3),(.a (.box 55 (.t 1))),none,0⟩,
oq 4 (.mv (ci 0))])
(.seq (.seq (.reg [oq 9 (.ld true 3 (.t 2)),
oc 10 87 [(.t 9)] 0,
mt 5 10])
(.seq (.reg [mt 11 5,
oq 12 (bi .neq (.t 11) (ci 0))])
(.cond (.t 12) (.seq (.reg [mt 13 5,
mt 4 13])
.ret) .skip)))
(.seq (.seq (.reg [oq 14 (.ld true 2 (.t 3)),
oc 15 122 [(.t 14)] 0,
mt 6 15])
(.seq (.reg [mt 16 6,
oq 17 (bi .neq (.t 16) (ci 0))])
(.cond (.t 17) (.seq (.reg [mt 18 6,
mt 4 18])
.ret) .skip)))
(.seq (.seq (.reg [oq 19 (.faddr 1 (.t 3)),
oq 20 (ld 19),
oq 21 (.lenSl (.t 20)),
oq 22 (.faddr 2 (.t 2)),
oq 23 (ld 22),
oq 24 (.lenSl (.t 23)),
oq 25 (bi .neq (.t 21) (.t 24))])
(.cond (.t 25) (.seq (.reg [oq 4 (.mv (ci 10))])
.ret) .skip))
(.seq (.seq (.reg [oq 26 (.faddr 1 (.t 3)),
oq 27 (ld 26),
oq 28 (.lenSl (.t 27)),
oq 29 (.mv (ci 0))])
(.block 0 (.loop (.seq (.reg [oq 30 (bi .lss (.t 29) (.t 28))])
(.seq (.cond (.t 30) .skip (.exit 0))
(.seq (.block 1 (.seq (.reg [mt 31 29,
oq 32 (.iaddr (.slice 1) (.t 27) (.t 29)),
oq 33 (ld 32),
mt 7 31,
mt 8 33])
(.seq (.reg [mt 34 8,
oq 35 (.lenSl (.t 34)),
oq 36 (.faddr 2 (.t 2)),
oq 37 (ld 36),
mt 38 7,
oq 39 (.iaddr (.slice 2) (.t 37) (.t 38)),
oq 40 (.faddr 1 (.t 39)),
oq 41 (ld 40),
oq 42 (bi .neq (.t 35) (.t 41))])
(.cond (.t 42) (.seq (.reg [oq 4 (.mv (ci 10))])
.ret) .skip))))
(.reg [oq 43 (bi .add (.t 29) (ci 1)),
mt 29 43])))))))
(.seq (.reg [oq 4 (.mv (ci 0))])
.ret))))))⟩
theorem row79 : Row Go.Proofs.Try.prog (79, a79) := ⟨Go.Proofs.Try.f79, Go.Proofs.Try.func79, by kernel_rfl⟩
end Go.Ev.Gl
