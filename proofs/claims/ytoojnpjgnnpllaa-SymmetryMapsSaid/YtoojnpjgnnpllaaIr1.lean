/- Functions of the program as data of the evaluator, written by program; each is shown to be the compiler's result on the loaded function. -/
import Derived.Test.YtoojnpjgnnpllaaProg
import Derived.Test.YtoojnpjgnnpllaaEv8
import Derived.KernelRfl
namespace Go.Ev.Gl
set_option maxRecDepth 100000
noncomputable def a68 : AFn :=
⟨87,[(.t 2),(.t 3)],(.seq (.reg [⟨(some 1),(.a (.box 28 (.t 0))),none,0⟩,
oq 2 (.mv (.c .nilp)),
oq 3 (.mv (ci 0))])
(.seq (.reg [oq 12 (.ld true 3 (.t 1)),
oc 13 119 [(.t 12)] 0,
mt 11 13,
oq 14 (.extract (.t 11) 0),
oq 15 (.extract (.t 11) 1),
mt 4 14,
mt 5 15])
(.seq (.seq (.reg [mt 16 5,
oq 17 (bi .neq (.t 16) (ci 0))])
(.cond (.t 17) (.seq (.reg [mt 18 5,
oq 2 (.mv (.c .nilp)),
mt 3 18])
.ret) .skip))
(.seq (.reg [oq 19 (.faddr 1 (.t 1)),
oq 20 (ld 19),
oq 21 (.lenSl (.t 20)),
mt 6 21])
(.seq (.drw [oq 22 (.ld true 3 (.t 1)),
mt 23 4,
mt 24 6,
⟨(some 25),(.a (.mkSlice 3 1 8 [(.int .i64 (.ofNat 0))] (.t 24) (.t 24))),none,4⟩,
mt 26 6,
⟨(some 27),(.a (.mkSlice 3 1 8 [(.int .i64 (.ofNat 0))] (.t 26) (.t 26))),none,16⟩,
om 28 63 (.build [(.int .i64 (.ofNat 0)),.nilsl,.nilsl,.nilsl,.nilsl,.nilsl] [(0,3,(.t 22)),(3,1,(.t 23)),(4,1,(.t 25)),(5,1,(.t 27))]),
⟨(some 29),(.a (.box 174 (.t 28))),none,127⟩,
om 7 255 (.mv (.t 29))])
(.seq (.seq (.reg [mt 30 6,
oq 31 (bi .sub (.t 30) (ci 1)),
mt 8 31])
(.block 0 (.loop (.seq (.seq (.reg [mt 32 8,
oq 33 (bi .geq (.t 32) (ci 0))])
(.cond (.t 33) .skip (.exit 0)))
(.seq (.block 1 (.seq (.reg [mt 36 7,
oq 37 (.nilchk (.t 36)),
oq 38 (.faddr 5 (.t 37)),
oq 39 (ld 38),
mt 40 8,
oq 41 (.iaddr (.slice 1) (.t 39) (.t 40)),
oq 42 (ld 41),
oq 43 (bi .add (.t 42) (ci 1)),
oq 44 (.iaddr (.slice 1) (.t 39) (.t 40)),
⟨none,(.x (.st 1 (.t 44) (.t 43))),none,0⟩])
(.seq (.seq (.reg [mt 45 8,
oq 46 (bi .gtr (.t 45) (ci 0))])
(.cond (.t 46) (.drw [mt 47 7,
om 48 1 (.nilchk (.t 47)),
om 49 3 (.faddr 5 (.t 48)),
om 50 7 (ld 49),
mt 51 4,
mt 52 8,
om 53 48 (.iaddr (.slice 1) (.t 51) (.t 52)),
om 54 112 (ld 53),
om 55 255 (.iaddr (.slice 1) (.t 50) (.t 54)),
om 56 511 (ld 55),
mt 57 7,
om 58 1024 (.nilchk (.t 57)),
om 59 3072 (.faddr 5 (.t 58)),
om 60 7168 (ld 59),
mt 61 8,
om 62 31744 (.iaddr (.slice 1) (.t 60) (.t 61)),
om 63 64512 (ld 62),
om 64 131071 (bi .add (.t 56) (.t 63)),
om 65 262143 (.iaddr (.slice 1) (.t 50) (.t 54)),
⟨none,(.x (.st 1 (.t 65) (.t 64))),none,524287⟩]) .skip))
(.seq (.reg [oq 66 (.faddr 1 (.t 1)),
oq 67 (ld 66),
mt 68 8,
oq 69 (.iaddr (.slice 6) (.t 67) (.t 68)),
oq 70 (.faddr 3 (.t 69)),
oq 71 (ld 70),
oq 72 (.lenSl (.t 71)),
oq 73 (.mv (ci 0))])
(.block 2 (.loop (.seq (.reg [oq 74 (bi .lss (.t 73) (.t 72))])
(.seq (.cond (.t 74) .skip (.exit 2))
(.seq (.block 3 (.seq (.reg [mt 75 73,
oq 76 (.iaddr (.slice 1) (.t 71) (.t 73)),
oq 77 (ld 76),
mt 9 75,
mt 10 77])
(.reg [mt 78 7,
oq 79 (.nilchk (.t 78)),
oq 80 (.faddr 4 (.t 79)),
oq 81 (ld 80),
mt 82 10,
mt 83 9,
oq 84 (.iaddr (.slice 1) (.t 81) (.t 82)),
⟨none,(.x (.st 1 (.t 84) (.t 83))),none,0⟩])))
(.reg [oq 85 (bi .add (.t 73) (ci 1)),
mt 73 85]))))))))))
(.reg [mt 34 8,
oq 35 (bi .sub (.t 34) (ci 1)),
mt 8 35]))))))
(.seq (.reg [mt 86 7,
mt 2 86,
oq 3 (.mv (ci 0))])
.ret)))))))⟩
theorem row68 : Row Go.Proofs.Try.prog (68, a68) := ⟨Go.Proofs.Try.f68, Go.Proofs.Try.func68, by kernel_rfl⟩
noncomputable def a69 : AFn :=
⟨66,[(.cell 4 true 2),(.t 5)],(.seq (.reg [⟨(some 4),(.a (.alloc 108 [.nilsl,.nilsl])),none,0⟩,
oq 5 (.mv (ci 0))])
(.seq (.reg [mt 14 0,
oq 15 (.nilchk (.t 14)),
oq 16 (.faddr 0 (.t 15)),
oq 17 (.faddr 1 (.t 16)),
oq 18 (ld 17),
oq 19 (.lenSl (.t 18)),
mt 6 19])
(.seq (.seq (.reg [mt 20 1,
oq 21 (.lenSl (.t 20)),
mt 22 6,
oq 23 (bi .neq (.t 21) (.t 22))])
(.cond (.t 23) (.seq (.reg [oq 24 (.build [.nilsl,.nilsl] []),
⟨none,(.x (.st 2 (.t 4) (.t 24))),none,0⟩,
oq 5 (.mv (ci 10))])
.ret) .skip))
(.seq (.seq (.reg [mt 25 1,
oq 26 (.lenSl (.t 25)),
oq 27 (.mv (ci 0))])
(.block 0 (.loop (.seq (.reg [oq 28 (bi .lss (.t 27) (.t 26))])
(.seq (.cond (.t 28) .skip (.exit 0))
(.seq (.block 1 (.seq (.reg [oq 29 (.iaddr (.slice 1) (.t 25) (.t 27)),
oq 30 (ld 29),
mt 8 30])
(.seq (.reg [mt 31 8,
oq 32 (bi .lss (.t 31) (ci 0)),
mt 33 32,
og 34 33 false 0 (.mv (.t 8)),
og 35 33 false 0 (.mv (.t 6)),
og 36 33 false 0 (bi .geq (.t 34) (.t 35)),
oq 37 (.pick (.t 33) (.c (.bool true)) (.t 36))])
(.cond (.t 37) (.seq (.reg [oq 38 (.build [.nilsl,.nilsl] []),
⟨none,(.x (.st 2 (.t 4) (.t 38))),none,0⟩,
oq 5 (.mv (ci 2))])
.ret) .skip))))
(.reg [oq 39 (bi .add (.t 27) (ci 1)),
mt 27 39])))))))
(.seq (.reg [mt 40 6,
⟨(some 41),(.a (.mkSlice 4 1 1 [(.bool false)] (.t 40) (.t 40))),none,0⟩,
mt 9 41])
(.seq (.seq (.reg [mt 42 1,
oq 43 (.lenSl (.t 42)),
oq 44 (.mv (ci 0))])
(.block 2 (.loop (.seq (.reg [oq 45 (bi .lss (.t 44) (.t 43))])
(.seq (.cond (.t 45) .skip (.exit 2))
(.seq (.block 3 (.seq (.reg [oq 46 (.iaddr (.slice 1) (.t 42) (.t 44)),
oq 47 (ld 46),
mt 11 47])
(.seq (.seq (.reg [mt 48 9,
mt 49 11,
oq 50 (.iaddr (.slice 1) (.t 48) (.t 49)),
oq 51 (ld 50)])
(.cond (.t 51) (.seq (.reg [oq 52 (.build [.nilsl,.nilsl] []),
⟨none,(.x (.st 2 (.t 4) (.t 52))),none,0⟩,
oq 5 (.mv (ci 8))])
.ret) .skip))
(.reg [mt 53 9,
mt 54 11,
oq 55 (.iaddr (.slice 1) (.t 53) (.t 54)),
⟨none,(.x (.st 1 (.t 55) (.c (.bool true)))),none,0⟩]))))
(.reg [oq 56 (bi .add (.t 44) (ci 1)),
mt 44 56])))))))
(.seq (.seq (.reg [mt 58 0,
mt 59 1,
oc 60 116 [(.t 58),(.t 59)] 0,
mt 57 60,
oq 61 (.extract (.t 57) 0),
oq 62 (.extract (.t 57) 1),
⟨(some 12),(.a (.alloc 108 [.nilsl,.nilsl])),none,0⟩,
⟨none,(.x (.st 2 (.t 12) (.t 61))),none,0⟩,
mt 13 62])
(.seq (.reg [mt 63 13])
(.cond (.t 63) (.seq (.reg [oq 64 (.ld true 2 (.t 12)),
⟨none,(.x (.st 2 (.t 4) (.t 64))),none,0⟩,
oq 5 (.mv (ci 0))])
.ret) .skip)))
(.seq (.reg [oq 65 (.build [.nilsl,.nilsl] []),
⟨none,(.x (.st 2 (.t 4) (.t 65))),none,0⟩,
oq 5 (.mv (ci 3))])
.ret))))))))⟩
theorem row69 : Row Go.Proofs.Try.prog (69, a69) := ⟨Go.Proofs.Try.f69, Go.Proofs.Try.func69, by kernel_rfl⟩
noncomputable def a70 : AFn :=
⟨27,[(.t 4)],(.seq (.reg [oq 4 (.mv (.c .nilsl))])
(.seq (.reg [mt 8 0,
oq 9 (.lenSl (.t 8)),
⟨(some 10),(.a (.mkSlice 3 1 8 [(.int .i64 (.ofNat 0))] (.t 9) (.t 9))),none,0⟩,
mt 5 10])
(.seq (.seq (.reg [mt 11 0,
oq 12 (.lenSl (.t 11)),
oq 13 (.mv (ci 0))])
(.block 0 (.loop (.seq (.reg [oq 14 (bi .lss (.t 13) (.t 12))])
(.seq (.cond (.t 14) .skip (.exit 0))
(.seq (.block 1 (.seq (.reg [mt 15 13,
oq 16 (.iaddr (.slice 1) (.t 11) (.t 13)),
oq 17 (ld 16),
mt 6 15,
mt 7 17])
(.reg [mt 18 5,
mt 19 6,
mt 20 1,
mt 21 7,
oq 22 (.iaddr (.slice 1) (.t 20) (.t 21)),
oq 23 (ld 22),
oq 24 (.iaddr (.slice 1) (.t 18) (.t 19)),
⟨none,(.x (.st 1 (.t 24) (.t 23))),none,0⟩])))
(.reg [oq 25 (bi .add (.t 13) (ci 1)),
mt 13 25])))))))
(.seq (.reg [mt 26 5,
mt 4 26])
.ret))))⟩
theorem row70 : Row Go.Proofs.Try.prog (70, a70) := ⟨Go.Proofs.Try.f70, Go.Proofs.Try.func70, by kernel_rfl⟩
noncomputable def a72 : AFn :=
⟨199,[(.t 4),(.t 5),(.t 6)],(.seq (.reg [⟨(some 2),(.a (.box 28 (.t 0))),none,0⟩,
oq 4 (.mv (.c .nilsl)),
oq 5 (.mv (.c .nilsl)),
oq 6 (.mv (.c (.bool false)))])
(.seq (.seq (.reg [mt 16 1,
oq 17 (.iaddr (.slice 1) (.t 16) (ci 0)),
oq 18 (ld 17),
oq 19 (bi .neq (.t 18) (ci 0))])
(.cond (.t 19) (.seq (.reg [oq 4 (.mv (.c .nilsl)),
oq 5 (.mv (.c .nilsl)),
oq 6 (.mv (.c (.bool false)))])
.ret) .skip))
(.seq (.seq (.reg [oq 7 (.mv (ci 0))])
(.block 0 (.loop (.seq (.seq (.reg [mt 20 7,
oq 21 (.faddr 2 (.t 2)),
oq 22 (ld 21),
oq 23 (.lenSl (.t 22)),
oq 24 (bi .lss (.t 20) (.t 23))])
(.cond (.t 24) .skip (.exit 0)))
(.seq (.block 1 (.drw [mt 27 4,
⟨(some 28),(.a (.bslice 3 1 1 [(.int .i64 (.ofNat 0))] [(0,(.c (.int .i64 (.negSucc 0))))])),none,0⟩,
⟨(some 29),(.x (.app 3 1 8 (.t 27) (.t 28))),none,3⟩,
mt 30 5,
oq 31 (.faddr 2 (.t 2)),
om 32 16 (ld 31),
mt 33 7,
om 34 112 (.iaddr (.slice 2) (.t 32) (.t 33)),
om 35 240 (.faddr 1 (.t 34)),
om 36 496 (ld 35),
⟨(some 37),(.a (.mkSlice 3 1 8 [(.int .i64 (.ofNat 0))] (.t 36) (.t 36))),none,1008⟩,
⟨(some 38),(.a (.bslice 22 1 1 [.nilsl] [(0,(.t 37))])),none,2032⟩,
⟨(some 39),(.x (.app 22 1 24 (.t 30) (.t 38))),none,4095⟩,
om 4 8191 (.mv (.t 29)),
om 5 16383 (.mv (.t 39))]))
(.reg [mt 25 7,
oq 26 (bi .add (.t 25) (ci 1)),
mt 7 26]))))))
(.seq (.seq (.reg [oq 8 (.mv (ci 0))])
(.block 2 (.loop (.seq (.seq (.reg [mt 40 8,
mt 41 1,
oq 42 (.lenSl (.t 41)),
oq 43 (bi .lss (.t 40) (.t 42))])
(.cond (.t 43) .skip (.exit 2)))
(.seq (.block 3 (.seq (.drw [oq 46 (.faddr 1 (.t 2)),
om 47 1 (ld 46),
mt 48 8,
om 49 7 (.iaddr (.slice 6) (.t 47) (.t 48)),
om 50 15 (.ld true 6 (.t 49)),
oq 51 (.faddr 1 (.t 2)),
om 52 32 (ld 51),
mt 53 1,
mt 54 8,
om 55 384 (.iaddr (.slice 1) (.t 53) (.t 54)),
om 56 896 (ld 55),
om 57 2016 (.iaddr (.slice 6) (.t 52) (.t 56)),
om 58 4064 (.ld true 6 (.t 57)),
⟨(some 9),(.a (.alloc 64 [(.int .i64 (.ofNat 0)),(.int .i64 (.ofNat 0)),(.int .i64 (.ofNat 0)),.nilsl,.nilsl,.nilsl])),none,0⟩,
⟨(some 10),(.a (.alloc 64 [(.int .i64 (.ofNat 0)),(.int .i64 (.ofNat 0)),(.int .i64 (.ofNat 0)),.nilsl,.nilsl,.nilsl])),none,0⟩,
⟨none,(.x (.st 6 (.t 9) (.t 50))),none,24607⟩,
⟨none,(.x (.st 6 (.t 10) (.t 58))),none,65535⟩])
(.seq (.seq (.reg [oq 59 (.faddr 0 (.t 9)),
oq 60 (ld 59),
oq 61 (.faddr 0 (.t 10)),
oq 62 (ld 61),
oq 63 (bi .neq (.t 60) (.t 62)),
mt 64 63,
og 65 64 false 0 (.faddr 3 (.t 9)),
og 66 64 false 0 (ld 65),
og 67 64 false 0 (.lenSl (.t 66)),
og 68 64 false 0 (.faddr 3 (.t 10)),
og 69 64 false 0 (ld 68),
og 70 64 false 0 (.lenSl (.t 69)),
og 71 64 false 0 (bi .neq (.t 67) (.t 70)),
oq 72 (.pick (.t 64) (.c (.bool true)) (.t 71)),
mt 73 72,
og 74 73 false 0 (.faddr 5 (.t 9)),
og 75 73 false 0 (ld 74),
og 76 73 false 0 (.faddr 5 (.t 10)),
og 77 73 false 0 (ld 76),
⟨(some 78),(.x (.call (.c (.fn 19 [] [])) [(.t 75),(.t 77)])),(some (73,false)),0⟩,
og 79 73 false 0 (.un .not (.t 78)),
oq 80 (.pick (.t 73) (.c (.bool true)) (.t 79)),
mt 81 80,
og 82 81 false 0 (.faddr 1 (.t 9)),
og 83 81 false 0 (ld 82),
og 84 81 false 0 (.faddr 1 (.t 10)),
og 85 81 false 0 (ld 84),
og 86 81 false 0 (bi .neq (.t 83) (.t 85)),
oq 87 (.pick (.t 81) (.c (.bool true)) (.t 86))])
(.cond (.t 87) (.seq (.reg [oq 4 (.mv (.c .nilsl)),
oq 5 (.mv (.c .nilsl)),
oq 6 (.mv (.c (.bool false)))])
.ret) .skip))
(.seq (.reg [oq 11 (.mv (.c (.bool false)))])
(.seq (.seq (.reg [oq 88 (.faddr 0 (.t 9)),
oq 89 (ld 88),
oq 90 (bi .eql (.t 89) (ci 2))])
(.cond (.t 90) (.seq (.reg [mt 91 4,
oq 92 (.faddr 2 (.t 9)),
oq 93 (ld 92),
oq 94 (.iaddr (.slice 1) (.t 91) (.t 93)),
oq 95 (ld 94),
oq 96 (bi .geq (.t 95) (ci 0)),
mt 11 96])
(.seq (.seq (.drw [mt 97 11,
om 98 1 (.mv (.t 97)),
og 99 98 true 3 (.mv (.t 4)),
og 100 98 true 3 (.faddr 2 (.t 9)),
og 101 98 true 11 (ld 100),
og 102 98 true 31 (.iaddr (.slice 1) (.t 99) (.t 101)),
og 103 98 true 63 (ld 102),
og 104 98 true 3 (.faddr 2 (.t 10)),
og 105 98 true 131 (ld 104),
og 106 98 true 511 (bi .neq (.t 103) (.t 105)),
om 107 1023 (.pick (.t 98) (.t 106) (.c (.bool false)))])
(.cond (.t 107) (.seq (.reg [oq 4 (.mv (.c .nilsl)),
oq 5 (.mv (.c .nilsl)),
oq 6 (.mv (.c (.bool false)))])
.ret) .skip))
(.reg [mt 108 4,
oq 109 (.faddr 2 (.t 9)),
oq 110 (ld 109),
oq 111 (.faddr 2 (.t 10)),
oq 112 (ld 111),
oq 113 (.iaddr (.slice 1) (.t 108) (.t 110)),
⟨none,(.x (.st 1 (.t 113) (.t 112))),none,0⟩]))) .skip))
(.seq (.reg [oq 12 (.mv (ci 0))])
(.block 4 (.loop (.seq (.seq (.reg [mt 114 12,
oq 115 (.faddr 3 (.t 9)),
oq 116 (ld 115),
oq 117 (.lenSl (.t 116)),
oq 118 (bi .lss (.t 114) (.t 117))])
(.cond (.t 118) .skip (.exit 4)))
(.seq (.block 5 (.seq (.drw [oq 121 (.ld true 6 (.t 10)),
mt 122 1,
oq 123 (.faddr 3 (.t 9)),
om 124 4 (ld 123),
mt 125 12,
om 126 28 (.iaddr (.slice 1) (.t 124) (.t 125)),
om 127 60 (ld 126),
om 128 126 (.iaddr (.slice 1) (.t 122) (.t 127)),
om 129 254 (ld 128),
oc 130 120 [(.t 121),(.t 129)] 511,
om 13 1023 (.mv (.t 130))])
(.seq (.seq (.drw [mt 131 13,
om 132 1 (bi .lss (.t 131) (ci 0)),
om 133 3 (.mv (.t 132)),
og 134 133 false 7 (.faddr 0 (.t 9)),
og 135 133 false 15 (ld 134),
og 136 133 false 31 (bi .eql (.t 135) (ci 1)),
og 137 133 false 63 (.mv (.t 136)),
og 138 137 true 127 (.faddr 4 (.t 9)),
og 139 137 true 255 (ld 138),
og 140 137 true 127 (.mv (.t 12)),
og 141 137 true 1023 (.iaddr (.slice 1) (.t 139) (.t 140)),
og 142 137 true 2047 (ld 141),
og 143 137 true 127 (.faddr 4 (.t 10)),
og 144 137 true 4223 (ld 143),
og 145 137 true 127 (.mv (.t 13)),
og 146 137 true 28799 (.iaddr (.slice 1) (.t 144) (.t 145)),
og 147 137 true 61567 (ld 146),
og 148 137 true 131071 (bi .neq (.t 142) (.t 147)),
og 149 133 false 262143 (.pick (.t 137) (.t 148) (.c (.bool false))),
om 150 524287 (.pick (.t 133) (.c (.bool true)) (.t 149)),
om 151 1048575 (.mv (.t 150)),
og 152 151 false 2097151 (.mv (.t 11)),
og 153 151 false 4194303 (.mv (.t 152)),
og 154 153 true 8388607 (.mv (.t 5)),
og 155 153 true 8388607 (.faddr 2 (.t 9)),
og 156 153 true 25165823 (ld 155),
og 157 153 true 67108863 (.iaddr (.slice 1) (.t 154) (.t 156)),
og 158 153 true 134217727 (ld 157),
og 159 153 true 8388607 (.mv (.t 12)),
og 160 153 true 536870911 (.iaddr (.slice 1) (.t 158) (.t 159)),
og 161 153 true 1073741823 (ld 160),
og 162 153 true 8388607 (.mv (.t 13)),
og 163 153 true 4294967295 (bi .neq (.t 161) (.t 162)),
og 164 151 false 8589934591 (.pick (.t 153) (.t 163) (.c (.bool false))),
om 165 17179869183 (.pick (.t 151) (.c (.bool true)) (.t 164))])
(.cond (.t 165) (.seq (.reg [oq 4 (.mv (.c .nilsl)),
oq 5 (.mv (.c .nilsl)),
oq 6 (.mv (.c (.bool false)))])
.ret) .skip))
(.seq (.reg [oq 166 (.faddr 0 (.t 9)),
oq 167 (ld 166),
oq 168 (bi .eql (.t 167) (ci 2))])
(.cond (.t 168) (.reg [mt 169 5,
oq 170 (.faddr 2 (.t 9)),
oq 171 (ld 170),
oq 172 (.iaddr (.slice 1) (.t 169) (.t 171)),
oq 173 (ld 172),
mt 174 12,
mt 175 13,
oq 176 (.iaddr (.slice 1) (.t 173) (.t 174)),
⟨none,(.x (.st 1 (.t 176) (.t 175))),none,0⟩]) .skip)))))
(.reg [mt 119 12,
oq 120 (bi .add (.t 119) (ci 1)),
mt 12 120])))))))))))
(.reg [mt 44 8,
oq 45 (bi .add (.t 44) (ci 1)),
mt 8 45]))))))
(.seq (.seq (.reg [oq 14 (.mv (ci 0))])
(.block 6 (.loop (.seq (.seq (.reg [mt 177 14,
mt 178 4,
oq 179 (.lenSl (.t 178)),
oq 180 (bi .lss (.t 177) (.t 179))])
(.cond (.t 180) .skip (.exit 6)))
(.seq (.block 7 (.seq (.reg [oq 15 (.mv (ci 0))])
(.block 8 (.loop (.seq (.seq (.reg [mt 183 15,
mt 184 14,
oq 185 (bi .lss (.t 183) (.t 184))])
(.cond (.t 185) .skip (.exit 8)))
(.seq (.block 9 (.seq (.drw [mt 188 4,
mt 189 14,
om 190 3 (.iaddr (.slice 1) (.t 188) (.t 189)),
om 191 7 (ld 190),
mt 192 4,
mt 193 15,
om 194 48 (.iaddr (.slice 1) (.t 192) (.t 193)),
om 195 112 (ld 194),
om 196 255 (bi .eql (.t 191) (.t 195))])
(.cond (.t 196) (.seq (.reg [oq 4 (.mv (.c .nilsl)),
oq 5 (.mv (.c .nilsl)),
oq 6 (.mv (.c (.bool false)))])
.ret) .skip)))
(.reg [mt 186 15,
oq 187 (bi .add (.t 186) (ci 1)),
mt 15 187])))))))
(.reg [mt 181 14,
oq 182 (bi .add (.t 181) (ci 1)),
mt 14 182]))))))
(.seq (.reg [mt 197 4,
mt 198 5,
mt 4 197,
mt 5 198,
oq 6 (.mv (.c (.bool true)))])
.ret))))))⟩
theorem row72 : Row Go.Proofs.Try.prog (72, a72) := ⟨Go.Proofs.Try.f72, Go.Proofs.Try.func72, by kernel_rfl⟩
noncomputable def a73 : AFn :=
⟨65,[(.t 4)],(.seq (.reg [⟨(some 2),(.a (.box 28 (.t 0))),none,0⟩,
oq 4 (.mv (ci 0))])
(.seq (.reg [oq 12 (.faddr 1 (.t 2)),
oq 13 (ld 12),
oq 14 (.lenSl (.t 13)),
mt 5 14])
(.seq (.seq (.reg [mt 15 1,
oq 16 (.lenSl (.t 15)),
mt 17 5,
oq 18 (bi .neq (.t 16) (.t 17))])
(.cond (.t 18) (.seq (.reg [oq 4 (.mv (ci 10))])
.ret) .skip))
(.seq (.seq (.reg [oq 6 (.mv (ci 0))])
(.block 0 (.loop (.seq (.seq (.reg [mt 19 6,
mt 20 5,
oq 21 (bi .lss (.t 19) (.t 20))])
(.cond (.t 21) .skip (.exit 0)))
(.seq (.block 1 (.seq (.reg [mt 24 1,
mt 25 6,
oq 26 (.iaddr (.slice 1) (.t 24) (.t 25)),
oq 27 (ld 26),
oq 28 (bi .lss (.t 27) (ci 0)),
mt 29 28,
og 30 29 false 0 (.mv (.t 1)),
og 31 29 false 0 (.mv (.t 6)),
og 32 29 false 0 (.iaddr (.slice 1) (.t 30) (.t 31)),
og 33 29 false 0 (ld 32),
og 34 29 false 0 (.mv (.t 5)),
og 35 29 false 0 (bi .geq (.t 33) (.t 34)),
oq 36 (.pick (.t 29) (.c (.bool true)) (.t 35))])
(.cond (.t 36) (.seq (.reg [oq 4 (.mv (ci 2))])
.ret) .skip)))
(.reg [mt 22 6,
oq 23 (bi .add (.t 22) (ci 1)),
mt 6 23]))))))
(.seq (.seq (.reg [oq 7 (.mv (ci 0))])
(.block 2 (.loop (.seq (.seq (.reg [mt 37 7,
mt 38 5,
oq 39 (bi .lss (.t 37) (.t 38))])
(.cond (.t 39) .skip (.exit 2)))
(.seq (.block 3 (.seq (.reg [oq 8 (.mv (ci 0))])
(.block 4 (.loop (.seq (.seq (.reg [mt 42 8,
mt 43 7,
oq 44 (bi .lss (.t 42) (.t 43))])
(.cond (.t 44) .skip (.exit 4)))
(.seq (.block 5 (.seq (.drw [mt 47 1,
mt 48 7,
om 49 3 (.iaddr (.slice 1) (.t 47) (.t 48)),
om 50 7 (ld 49),
mt 51 1,
mt 52 8,
om 53 48 (.iaddr (.slice 1) (.t 51) (.t 52)),
om 54 112 (ld 53),
om 55 255 (bi .eql (.t 50) (.t 54))])
(.cond (.t 55) (.seq (.reg [oq 4 (.mv (ci 8))])
.ret) .skip)))
(.reg [mt 45 8,
oq 46 (bi .add (.t 45) (ci 1)),
mt 8 46])))))))
(.reg [mt 40 7,
oq 41 (bi .add (.t 40) (ci 1)),
mt 7 41]))))))
(.seq (.seq (.reg [oq 57 (.ld true 3 (.t 2)),
mt 58 1,
oc 59 72 [(.t 57),(.t 58)] 0,
mt 56 59,
oq 60 (.extract (.t 56) 0),
oq 61 (.extract (.t 56) 1),
oq 62 (.extract (.t 56) 2),
mt 9 60,
mt 10 61,
mt 11 62])
(.seq (.reg [mt 63 11,
oq 64 (.un .not (.t 63))])
(.cond (.t 64) (.seq (.reg [oq 4 (.mv (ci 3))])
.ret) .skip)))
(.seq (.reg [oq 4 (.mv (ci 0))])
.ret)))))))⟩
theorem row73 : Row Go.Proofs.Try.prog (73, a73) := ⟨Go.Proofs.Try.f73, Go.Proofs.Try.func73, by kernel_rfl⟩
noncomputable def a74 : AFn :=
⟨27,[(.t 4)],(.seq (.reg [oq 4 (.mv (.c .nilsl))])
(.seq (.reg [mt 7 0,
oq 8 (.lenSl (.t 7)),
⟨(some 9),(.a (.mkSlice 3 1 8 [(.int .i64 (.ofNat 0))] (.t 8) (.t 8))),none,0⟩,
mt 5 9])
(.seq (.seq (.reg [oq 6 (.mv (ci 0))])
(.block 0 (.loop (.seq (.seq (.reg [mt 10 6,
mt 11 0,
oq 12 (.lenSl (.t 11)),
oq 13 (bi .lss (.t 10) (.t 12))])
(.cond (.t 13) .skip (.exit 0)))
(.seq (.block 1 (.reg [mt 16 5,
mt 17 6,
mt 18 1,
mt 19 0,
mt 20 6,
oq 21 (.iaddr (.slice 1) (.t 19) (.t 20)),
oq 22 (ld 21),
oq 23 (.iaddr (.slice 1) (.t 18) (.t 22)),
oq 24 (ld 23),
oq 25 (.iaddr (.slice 1) (.t 16) (.t 17)),
⟨none,(.x (.st 1 (.t 25) (.t 24))),none,0⟩]))
(.reg [mt 14 6,
oq 15 (bi .add (.t 14) (ci 1)),
mt 6 15]))))))
(.seq (.reg [mt 26 5,
mt 4 26])
.ret))))⟩
theorem row74 : Row Go.Proofs.Try.prog (74, a74) := ⟨Go.Proofs.Try.f74, Go.Proofs.Try.func74, by kernel_rfl⟩
noncomputable def a102 : AFn :=
⟨165,[(.t 4)],(.seq (.reg [⟨(some 2),(.a (.box 28 (.t 0))),none,0⟩,
⟨(some 3),(.a (.box 64 (.t 1))),none,0⟩,
oq 4 (.mv (ci 0))])
(.seq (.seq (.reg [oq 7 (.faddr 0 (.t 3)),
oq 8 (ld 7)])
(.block 0 (.seq (.reg [oq 10 (bi .eql (.t 8) (ci 1)),
mt 9 10])
(.cond (.t 9) (.seq (.seq (.reg [oq 11 (.faddr 1 (.t 3)),
oq 12 (ld 11),
oq 13 (bi .neq (.t 12) (ci 0)),
mt 14 13,
og 15 14 false 0 (.faddr 2 (.t 3)),
og 16 14 false 0 (ld 15),
og 17 14 false 0 (bi .neq (.t 16) (ci 0)),
oq 18 (.pick (.t 14) (.c (.bool true)) (.t 17)),
mt 19 18,
og 20 19 false 0 (.faddr 5 (.t 3)),
og 21 19 false 0 (ld 20),
og 22 19 false 0 (.lenSl (.t 21)),
og 23 19 false 0 (bi .gtr (.t 22) (ci 0)),
oq 24 (.pick (.t 19) (.c (.bool true)) (.t 23)),
mt 25 24,
og 26 25 false 0 (.faddr 3 (.t 3)),
og 27 25 false 0 (ld 26),
og 28 25 false 0 (.lenSl (.t 27)),
og 29 25 false 0 (bi .lss (.t 28) (ci 1)),
oq 30 (.pick (.t 25) (.c (.bool true)) (.t 29)),
mt 31 30,
og 32 31 false 0 (.faddr 3 (.t 3)),
og 33 31 false 0 (ld 32),
og 34 31 false 0 (.lenSl (.t 33)),
og 35 31 false 0 (bi .gtr (.t 34) (ci 60)),
oq 36 (.pick (.t 31) (.c (.bool true)) (.t 35)),
mt 37 36,
og 38 37 false 0 (.faddr 4 (.t 3)),
og 39 37 false 0 (ld 38),
og 40 37 false 0 (.lenSl (.t 39)),
og 41 37 false 0 (.faddr 3 (.t 3)),
og 42 37 false 0 (ld 41),
og 43 37 false 0 (.lenSl (.t 42)),
og 44 37 false 0 (bi .neq (.t 40) (.t 43)),
oq 45 (.pick (.t 37) (.c (.bool true)) (.t 44))])
(.cond (.t 45) (.seq (.reg [oq 4 (.mv (ci 3))])
.ret) .skip))
(.seq (.reg [oq 5 (.mv (ci 0))])
(.block 1 (.loop (.seq (.seq (.reg [mt 46 5,
oq 47 (.faddr 4 (.t 3)),
oq 48 (ld 47),
oq 49 (.lenSl (.t 48)),
oq 50 (bi .lss (.t 46) (.t 49))])
(.cond (.t 50) .skip (.exit 1)))
(.seq (.block 2 (.seq (.reg [oq 53 (.faddr 4 (.t 3)),
oq 54 (ld 53),
mt 55 5,
oq 56 (.iaddr (.slice 1) (.t 54) (.t 55)),
oq 57 (ld 56),
oq 58 (bi .lss (.t 57) (ci 1)),
mt 59 58,
og 60 59 false 0 (.faddr 4 (.t 3)),
og 61 59 false 0 (ld 60),
og 62 59 false 0 (.mv (.t 5)),
og 63 59 false 0 (.iaddr (.slice 1) (.t 61) (.t 62)),
og 64 59 false 0 (ld 63),
og 65 59 false 0 (bi .gtr (.t 64) (ci 1000)),
oq 66 (.pick (.t 59) (.c (.bool true)) (.t 65))])
(.cond (.t 66) (.seq (.reg [oq 4 (.mv (ci 2))])
.ret) .skip)))
(.reg [mt 51 5,
oq 52 (bi .add (.t 51) (ci 1)),
mt 5 52]))))))) (.seq (.reg [oq 68 (bi .eql (.t 8) (ci 2)),
mt 67 68])
(.cond (.t 67) (.seq (.seq (.reg [oq 69 (.faddr 5 (.t 3)),
oq 70 (ld 69),
oq 71 (.lenSl (.t 70)),
oq 72 (bi .gtr (.t 71) (ci 0)),
mt 73 72,
og 74 73 false 0 (.faddr 4 (.t 3)),
og 75 73 false 0 (ld 74),
og 76 73 false 0 (.lenSl (.t 75)),
og 77 73 false 0 (bi .gtr (.t 76) (ci 0)),
oq 78 (.pick (.t 73) (.c (.bool true)) (.t 77)),
mt 79 78,
og 80 79 false 0 (.faddr 3 (.t 3)),
og 81 79 false 0 (ld 80),
og 82 79 false 0 (.lenSl (.t 81)),
og 83 79 false 0 (bi .lss (.t 82) (ci 1)),
oq 84 (.pick (.t 79) (.c (.bool true)) (.t 83)),
mt 85 84,
og 86 85 false 0 (.faddr 3 (.t 3)),
og 87 85 false 0 (ld 86),
og 88 85 false 0 (.lenSl (.t 87)),
og 89 85 false 0 (bi .gtr (.t 88) (ci 10)),
oq 90 (.pick (.t 85) (.c (.bool true)) (.t 89))])
(.cond (.t 90) (.seq (.reg [oq 4 (.mv (ci 3))])
.ret) .skip))
(.seq (.reg [oq 91 (.faddr 1 (.t 3)),
oq 92 (ld 91),
oq 93 (bi .lss (.t 92) (ci 0)),
mt 94 93,
og 95 94 false 0 (.faddr 1 (.t 3)),
og 96 94 false 0 (ld 95),
og 97 94 false 0 (.faddr 0 (.t 2)),
og 98 94 false 0 (ld 97),
og 99 94 false 0 (bi .geq (.t 96) (.t 98)),
oq 100 (.pick (.t 94) (.c (.bool true)) (.t 99)),
mt 101 100,
og 102 101 false 0 (.faddr 2 (.t 3)),
og 103 101 false 0 (ld 102),
og 104 101 false 0 (bi .lss (.t 103) (ci 0)),
oq 105 (.pick (.t 101) (.c (.bool true)) (.t 104)),
mt 106 105,
og 107 106 false 0 (.faddr 2 (.t 3)),
og 108 106 false 0 (ld 107),
og 109 106 false 0 (.faddr 2 (.t 2)),
og 110 106 false 0 (ld 109),
og 111 106 false 0 (.lenSl (.t 110)),
og 112 106 false 0 (bi .geq (.t 108) (.t 111)),
oq 113 (.pick (.t 106) (.c (.bool true)) (.t 112))])
(.cond (.t 113) (.seq (.reg [oq 4 (.mv (ci 2))])
.ret) .skip))) (.seq (.reg [oq 115 (bi .eql (.t 8) (ci 3)),
mt 114 115])
(.cond (.t 114) (.seq (.seq (.reg [oq 116 (.faddr 1 (.t 3)),
oq 117 (ld 116),
oq 118 (bi .neq (.t 117) (ci 0)),
mt 119 118,
og 120 119 false 0 (.faddr 2 (.t 3)),
og 121 119 false 0 (ld 120),
og 122 119 false 0 (bi .neq (.t 121) (ci 0)),
oq 123 (.pick (.t 119) (.c (.bool true)) (.t 122)),
mt 124 123,
og 125 124 false 0 (.faddr 3 (.t 3)),
og 126 124 false 0 (ld 125),
og 127 124 false 0 (.lenSl (.t 126)),
og 128 124 false 0 (bi .gtr (.t 127) (ci 0)),
oq 129 (.pick (.t 124) (.c (.bool true)) (.t 128)),
mt 130 129,
og 131 130 false 0 (.faddr 4 (.t 3)),
og 132 130 false 0 (ld 131),
og 133 130 false 0 (.lenSl (.t 132)),
og 134 130 false 0 (bi .gtr (.t 133) (ci 0)),
oq 135 (.pick (.t 130) (.c (.bool true)) (.t 134)),
mt 136 135,
og 137 136 false 0 (.faddr 5 (.t 3)),
og 138 136 false 0 (ld 137),
og 139 136 false 0 (.lenSl (.t 138)),
og 140 136 false 0 (.faddr 0 (.t 2)),
og 141 136 false 0 (ld 140),
og 142 136 false 0 (bi .neq (.t 139) (.t 141)),
oq 143 (.pick (.t 136) (.c (.bool true)) (.t 142))])
(.cond (.t 143) (.seq (.reg [oq 4 (.mv (ci 3))])
.ret) .skip))
(.seq (.reg [oq 6 (.mv (ci 0))])
(.block 3 (.loop (.seq (.seq (.reg [mt 144 6,
oq 145 (.faddr 5 (.t 3)),
oq 146 (ld 145),
oq 147 (.lenSl (.t 146)),
oq 148 (bi .lss (.t 144) (.t 147))])
(.cond (.t 148) .skip (.exit 3)))
(.seq (.block 4 (.seq (.reg [oq 151 (.faddr 5 (.t 3)),
oq 152 (ld 151),
mt 153 6,
oq 154 (.iaddr (.slice 1) (.t 152) (.t 153)),
oq 155 (ld 154),
oq 156 (bi .lss (.t 155) (.c (.int .i64 (.negSucc 999999)))),
mt 157 156,
og 158 157 false 0 (.faddr 5 (.t 3)),
og 159 157 false 0 (ld 158),
og 160 157 false 0 (.mv (.t 6)),
og 161 157 false 0 (.iaddr (.slice 1) (.t 159) (.t 160)),
og 162 157 false 0 (ld 161),
og 163 157 false 0 (bi .gtr (.t 162) (ci 1000000)),
oq 164 (.pick (.t 157) (.c (.bool true)) (.t 163))])
(.cond (.t 164) (.seq (.reg [oq 4 (.mv (ci 2))])
.ret) .skip)))
(.reg [mt 149 6,
oq 150 (bi .add (.t 149) (ci 1)),
mt 6 150]))))))) (.seq (.reg [oq 4 (.mv (ci 3))])
.ret)))))))))
(.seq (.reg [oq 4 (.mv (ci 0))])
.ret)))⟩
theorem row102 : Row Go.Proofs.Try.prog (102, a102) := ⟨Go.Proofs.Try.f102, Go.Proofs.Try.func102, by kernel_rfl⟩
end Go.Ev.Gl
