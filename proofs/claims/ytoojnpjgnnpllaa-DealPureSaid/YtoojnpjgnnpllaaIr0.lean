/- Functions of the program as data of the evaluator, written by program; each is shown to be the compiler's result on the loaded function. -/
import Derived.Test.YtoojnpjgnnpllaaProg
import Derived.Test.YtoojnpjgnnpllaaEv8
import Derived.KernelRfl
namespace Go.Ev.Gl
set_option maxRecDepth 100000
noncomputable def a8 : AFn :=
⟨172,[(.t 6)],(.seq (.reg [oq 6 (.mv (.c (.bool false)))])
(.seq (.reg [mt 25 1,
oq 26 (.build [.nilsl,(.int .i64 (.ofNat 0))] [(0,1,(.t 25))]),
⟨(some 27),(.a (.box 46 (.t 26))),none,0⟩,
mt 7 27])
(.seq (.reg [mt 28 0,
mt 29 2,
oc 30 16 [(.t 29),(ci 3)] 0,
oq 31 (bi .add (ci 1) (.t 30)),
oc 32 37 [(.t 28),(.t 31),(ci 15),(.c (.bool false))] 0,
⟨(some 8),(.a (.alloc 28 [(.int .i64 (.ofNat 0)),.nilsl,.nilsl])),none,0⟩,
⟨none,(.x (.st 3 (.t 8) (.t 32))),none,0⟩])
(.seq (.reg [mt 33 7,
oq 34 (.ld true 3 (.t 8)),
oc 35 23 [(.t 33),(.t 34)] 0,
mt 9 35])
(.seq (.reg [oq 36 (.build [(.int .i64 (.ofNat 0)),.nilsl] [(0,1,(ci 1))]),
⟨(some 10),(.a (.alloc 55 [(.int .i64 (.ofNat 0)),.nilsl])),none,0⟩,
⟨none,(.x (.st 2 (.t 10) (.t 36))),none,0⟩])
(.seq (.seq (.reg [oq 11 (.mv (ci 0))])
(.block 0 (.loop (.seq (.seq (.reg [mt 37 11,
oq 38 (.faddr 2 (.t 8)),
oq 39 (ld 38),
oq 40 (.lenSl (.t 39)),
oq 41 (bi .lss (.t 37) (.t 40))])
(.cond (.t 41) .skip (.exit 0)))
(.seq (.block 1 (.seq (.reg [oq 44 (.faddr 2 (.t 8)),
oq 45 (ld 44),
mt 46 11,
oq 47 (.iaddr (.slice 2) (.t 45) (.t 46)),
oq 48 (.faddr 1 (.t 47)),
oq 49 (ld 48),
⟨(some 50),(.a (.mkSlice 3 1 8 [(.int .i64 (.ofNat 0))] (.t 49) (.t 49))),none,0⟩,
mt 12 50])
(.seq (.reg [mt 51 12,
mt 52 9,
mt 53 11,
oq 54 (.iaddr (.slice 1) (.t 52) (.t 53)),
oq 55 (ld 54),
oq 56 (.iaddr (.slice 1) (.t 51) (.t 55)),
⟨none,(.x (.st 1 (.t 56) (ci 2))),none,0⟩])
(.reg [oq 57 (.faddr 1 (.t 10)),
oq 58 (ld 57),
mt 59 12,
⟨(some 60),(.a (.bslice 22 1 1 [.nilsl] [(0,(.t 59))])),none,0⟩,
⟨(some 61),(.x (.app 22 1 24 (.t 58) (.t 60))),none,0⟩,
oq 62 (.faddr 1 (.t 10)),
⟨none,(.x (.st 1 (.t 62) (.t 61))),none,0⟩]))))
(.reg [mt 42 11,
oq 43 (bi .add (.t 42) (ci 1)),
mt 11 43]))))))
(.seq (.reg [oq 64 (.ld true 3 (.t 8)),
oc 65 39 [(.t 64)] 0,
mt 63 65,
oq 66 (.extract (.t 63) 0),
oq 67 (.extract (.t 63) 1),
mt 13 66,
mt 14 67])
(.seq (.reg [oq 69 (.ld true 3 (.t 8)),
oq 70 (.ld true 2 (.t 10)),
oc 71 33 [(.t 69),(.t 70)] 0,
mt 68 71,
oq 72 (.extract (.t 68) 0),
oq 73 (.extract (.t 68) 1),
mt 15 72,
mt 16 73])
(.seq (.seq (.reg [mt 74 14,
oq 75 (bi .neq (.t 74) (ci 0)),
mt 76 75,
og 77 76 false 0 (.mv (.t 16)),
og 78 76 false 0 (bi .neq (.t 77) (ci 0)),
oq 79 (.pick (.t 76) (.c (.bool true)) (.t 78)),
mt 80 79,
og 81 80 false 0 (.mv (.t 13)),
og 82 80 false 0 (bi .lss (.t 81) (ci 1)),
oq 83 (.pick (.t 80) (.c (.bool true)) (.t 82)),
mt 84 83,
og 85 84 false 0 (.mv (.t 15)),
og 86 84 false 0 (.mv (.t 13)),
og 87 84 false 0 (bi .rem (.t 85) (.t 86)),
og 88 84 false 0 (bi .neq (.t 87) (ci 0)),
oq 89 (.pick (.t 84) (.c (.bool true)) (.t 88))])
(.cond (.t 89) (.seq (.reg [oq 6 (.mv (.c (.bool false)))])
.ret) .skip))
(.seq (.seq (.reg [mt 90 15,
oq 91 (bi .gtr (.t 90) (ci 2000))])
(.cond (.t 91) (.seq (.reg [oc 92 32 [] 0,
mt 6 92])
.ret) .skip))
(.seq (.reg [oq 93 (.faddr 1 (.t 8)),
oq 94 (ld 93),
oq 95 (.lenSl (.t 94)),
⟨(some 96),(.a (.mkSlice 3 1 8 [(.int .i64 (.ofNat 0))] (.t 95) (.t 95))),none,0⟩,
mt 17 96])
(.seq (.seq (.reg [oq 18 (.mv (ci 0))])
(.block 2 (.loop (.seq (.seq (.reg [mt 97 18,
mt 98 15,
oq 99 (bi .lss (.t 97) (.t 98))])
(.cond (.t 99) .skip (.exit 2)))
(.seq (.block 3 (.seq (.reg [oq 103 (.ld true 3 (.t 8)),
oq 104 (.ld true 2 (.t 10)),
mt 105 18,
oc 106 35 [(.t 103),(.t 104),(.t 105)] 0,
mt 102 106,
oq 107 (.extract (.t 102) 0),
oq 108 (.extract (.t 102) 1),
mt 19 107,
mt 20 108])
(.seq (.seq (.reg [mt 109 20,
oq 110 (bi .neq (.t 109) (ci 0)),
mt 111 110,
og 112 111 false 0 (.mv (.t 19)),
og 113 111 false 0 (.lenSl (.t 112)),
og 114 111 false 0 (bi .eql (.t 113) (ci 0)),
oq 115 (.pick (.t 111) (.c (.bool true)) (.t 114))])
(.cond (.t 115) (.seq (.reg [oq 6 (.mv (.c (.bool false)))])
.ret) .skip))
(.seq (.reg [mt 116 19,
mt 117 19,
oq 118 (.lenSl (.t 117)),
oq 119 (bi .sub (.t 118) (ci 1)),
oq 120 (.iaddr (.slice 1) (.t 116) (.t 119)),
oq 121 (ld 120),
mt 21 121])
(.seq (.seq (.reg [mt 122 21,
oq 123 (bi .lss (.t 122) (ci 0)),
mt 124 123,
og 125 124 false 0 (.mv (.t 21)),
og 126 124 false 0 (.mv (.t 17)),
og 127 124 false 0 (.lenSl (.t 126)),
og 128 124 false 0 (bi .geq (.t 125) (.t 127)),
oq 129 (.pick (.t 124) (.c (.bool true)) (.t 128))])
(.cond (.t 129) (.seq (.reg [oq 6 (.mv (.c (.bool false)))])
.ret) .skip))
(.reg [mt 130 17,
mt 131 21,
oq 132 (.iaddr (.slice 1) (.t 130) (.t 131)),
oq 133 (ld 132),
oq 134 (bi .add (.t 133) (ci 1)),
oq 135 (.iaddr (.slice 1) (.t 130) (.t 131)),
⟨none,(.x (.st 1 (.t 135) (.t 134))),none,0⟩]))))))
(.reg [mt 100 18,
oq 101 (bi .add (.t 100) (ci 1)),
mt 18 101]))))))
(.seq (.seq (.reg [oq 22 (.mv (ci 0))])
(.block 4 (.loop (.seq (.seq (.reg [mt 136 22,
oq 137 (.faddr 1 (.t 8)),
oq 138 (ld 137),
oq 139 (.lenSl (.t 138)),
oq 140 (bi .lss (.t 136) (.t 139))])
(.cond (.t 140) .skip (.exit 4)))
(.seq (.block 5 (.seq (.seq (.reg [oq 143 (.faddr 1 (.t 8)),
oq 144 (ld 143),
mt 145 22,
oq 146 (.iaddr (.slice 6) (.t 144) (.t 145)),
oq 147 (.faddr 0 (.t 146)),
oq 148 (ld 147),
oq 149 (bi .neq (.t 148) (ci 3))])
(.cond (.t 149) (.exit 5) .skip))
(.seq (.reg [oq 151 (.ld true 3 (.t 8)),
mt 152 9,
mt 153 22,
oc 154 40 [(.t 151),(.t 152),(.t 153)] 0,
mt 150 154,
oq 155 (.extract (.t 150) 0),
oq 156 (.extract (.t 150) 1),
mt 23 155,
mt 24 156])
(.seq (.drw [mt 157 24,
om 158 1 (bi .neq (.t 157) (ci 0)),
om 159 3 (.mv (.t 158)),
og 160 159 false 7 (.mv (.t 23)),
og 161 159 false 7 (.mv (.t 15)),
og 162 159 false 7 (.mv (.t 13)),
og 163 159 false 55 (bi .quo (.t 161) (.t 162)),
og 164 159 false 127 (bi .mul (.t 160) (.t 163)),
og 165 159 false 7 (.mv (.t 17)),
og 166 159 false 7 (.mv (.t 22)),
og 167 159 false 775 (.iaddr (.slice 1) (.t 165) (.t 166)),
og 168 159 false 1799 (ld 167),
og 169 159 false 4095 (bi .neq (.t 164) (.t 168)),
om 170 8191 (.pick (.t 159) (.c (.bool true)) (.t 169))])
(.cond (.t 170) (.seq (.reg [oq 6 (.mv (.c (.bool false)))])
.ret) .skip)))))
(.reg [mt 141 22,
oq 142 (bi .add (.t 141) (ci 1)),
mt 22 142]))))))
(.seq (.reg [oc 171 32 [] 0,
mt 6 171])
.ret))))))))))))))⟩
theorem row8 : Row Go.Proofs.Try.prog (8, a8) := ⟨Go.Proofs.Try.f8, Go.Proofs.Try.func8, by kernel_rfl⟩
noncomputable def a16 : AFn :=
⟨14,[(.t 4)],(.seq (.reg [oq 4 (.mv (ci 0))])
(.seq (.reg [mt 5 0,
mt 6 1,
oq 7 (bi .rem (.t 5) (.t 6)),
mt 0 7])
(.seq (.seq (.reg [mt 8 0,
oq 9 (bi .lss (.t 8) (ci 0))])
(.cond (.t 9) (.reg [mt 10 0,
mt 11 1,
oq 12 (bi .add (.t 10) (.t 11)),
mt 0 12]) .skip))
(.seq (.reg [mt 13 0,
mt 4 13])
.ret))))⟩
theorem row16 : Row Go.Proofs.Try.prog (16, a16) := ⟨Go.Proofs.Try.f16, Go.Proofs.Try.func16, by kernel_rfl⟩
noncomputable def a19 : AFn :=
⟨26,[(.t 4)],(.seq (.reg [oq 4 (.mv (.c (.bool false)))])
(.seq (.seq (.reg [mt 6 0,
oq 7 (.lenSl (.t 6)),
mt 8 1,
oq 9 (.lenSl (.t 8)),
oq 10 (bi .neq (.t 7) (.t 9))])
(.cond (.t 10) (.seq (.reg [oq 4 (.mv (.c (.bool false)))])
.ret) .skip))
(.seq (.seq (.reg [oq 5 (.mv (ci 0))])
(.block 0 (.loop (.seq (.seq (.reg [mt 11 5,
mt 12 0,
oq 13 (.lenSl (.t 12)),
oq 14 (bi .lss (.t 11) (.t 13))])
(.cond (.t 14) .skip (.exit 0)))
(.seq (.block 1 (.seq (.drw [mt 17 0,
mt 18 5,
om 19 3 (.iaddr (.slice 1) (.t 17) (.t 18)),
om 20 7 (ld 19),
mt 21 1,
mt 22 5,
om 23 48 (.iaddr (.slice 1) (.t 21) (.t 22)),
om 24 112 (ld 23),
om 25 255 (bi .neq (.t 20) (.t 24))])
(.cond (.t 25) (.seq (.reg [oq 4 (.mv (.c (.bool false)))])
.ret) .skip)))
(.reg [mt 15 5,
oq 16 (bi .add (.t 15) (ci 1)),
mt 5 16]))))))
(.seq (.reg [oq 4 (.mv (.c (.bool true)))])
.ret))))⟩
theorem row19 : Row Go.Proofs.Try.prog (19, a19) := ⟨Go.Proofs.Try.f19, Go.Proofs.Try.func19, by kernel_rfl⟩
noncomputable def a23 : AFn :=
⟨26,[(.t 4)],(.seq (.reg [⟨(some 3),(.a (.box 28 (.t 1))),none,0⟩,
oq 4 (.mv (.c .nilsl))])
(.seq (.reg [oq 5 (.mv (.c .nilsl))])
(.seq (.seq (.reg [oq 6 (.mv (ci 0))])
(.block 0 (.loop (.seq (.seq (.reg [mt 7 6,
oq 8 (.faddr 2 (.t 3)),
oq 9 (ld 8),
oq 10 (.lenSl (.t 9)),
oq 11 (bi .lss (.t 7) (.t 10))])
(.cond (.t 11) .skip (.exit 0)))
(.seq (.block 1 (.reg [mt 14 5,
mt 15 0,
oq 16 (.faddr 2 (.t 3)),
oq 17 (ld 16),
mt 18 6,
oq 19 (.iaddr (.slice 2) (.t 17) (.t 18)),
oq 20 (.faddr 1 (.t 19)),
oq 21 (ld 20),
oc 22 38 [(.t 15),(.t 21)] 0,
⟨(some 23),(.a (.bslice 3 1 1 [(.int .i64 (.ofNat 0))] [(0,(.t 22))])),none,0⟩,
⟨(some 24),(.x (.app 3 1 8 (.t 14) (.t 23))),none,0⟩,
mt 5 24]))
(.reg [mt 12 6,
oq 13 (bi .add (.t 12) (ci 1)),
mt 6 13]))))))
(.seq (.reg [mt 25 5,
mt 4 25])
.ret))))⟩
theorem row23 : Row Go.Proofs.Try.prog (23, a23) := ⟨Go.Proofs.Try.f23, Go.Proofs.Try.func23, by kernel_rfl⟩
noncomputable def a33 : AFn :=
⟨19,[(.t 4),(.t 5)],(.seq (.reg [⟨(some 2),(.a (.box 28 (.t 0))),none,0⟩,
⟨(some 3),(.a (.box 55 (.t 1))),none,0⟩,
oq 4 (.mv (ci 0)),
oq 5 (.mv (ci 0))])
(.seq (.seq (.reg [oq 7 (.ld true 3 (.t 2)),
oq 8 (.ld true 2 (.t 3)),
oc 9 79 [(.t 7),(.t 8)] 0,
mt 6 9])
(.seq (.reg [mt 10 6,
oq 11 (bi .neq (.t 10) (ci 0))])
(.cond (.t 11) (.seq (.reg [mt 12 6,
oq 4 (.mv (ci 0)),
mt 5 12])
.ret) .skip)))
(.seq (.reg [oq 13 (.ld true 3 (.t 2)),
oq 14 (.ld true 2 (.t 3)),
oq 15 (.mkIface 119 (.t 14)),
oc 16 80 [(.t 13),(.t 15)] 0,
oq 17 (.extract (.t 16) 0),
oq 18 (.extract (.t 16) 1),
mt 4 17,
mt 5 18])
.ret)))⟩
theorem row33 : Row Go.Proofs.Try.prog (33, a33) := ⟨Go.Proofs.Try.f33, Go.Proofs.Try.func33, by kernel_rfl⟩
noncomputable def a35 : AFn :=
⟨31,[(.t 6),(.t 7)],(.seq (.reg [⟨(some 3),(.a (.box 28 (.t 0))),none,0⟩,
⟨(some 4),(.a (.box 55 (.t 1))),none,0⟩,
oq 6 (.mv (.c .nilsl)),
oq 7 (.mv (ci 0))])
(.seq (.reg [oq 11 (.ld true 3 (.t 3)),
oq 12 (.ld true 2 (.t 4)),
oc 13 33 [(.t 11),(.t 12)] 0,
mt 10 13,
oq 14 (.extract (.t 10) 0),
oq 15 (.extract (.t 10) 1),
mt 8 14,
mt 9 15])
(.seq (.seq (.reg [mt 16 9,
oq 17 (bi .neq (.t 16) (ci 0))])
(.cond (.t 17) (.seq (.reg [mt 18 9,
oq 6 (.mv (.c .nilsl)),
mt 7 18])
.ret) .skip))
(.seq (.seq (.reg [mt 19 2,
oq 20 (bi .lss (.t 19) (ci 0)),
mt 21 20,
og 22 21 false 0 (.mv (.t 2)),
og 23 21 false 0 (.mv (.t 8)),
og 24 21 false 0 (bi .geq (.t 22) (.t 23)),
oq 25 (.pick (.t 21) (.c (.bool true)) (.t 24))])
(.cond (.t 25) (.seq (.reg [oq 6 (.mv (.c .nilsl)),
oq 7 (.mv (ci 2))])
.ret) .skip))
(.seq (.reg [oq 26 (.ld true 3 (.t 3)),
oq 27 (.ld true 2 (.t 4)),
oq 28 (.mkIface 119 (.t 27)),
mt 29 2,
oc 30 84 [(.t 26),(.t 28),(.t 29)] 0,
mt 6 30,
oq 7 (.mv (ci 0))])
.ret)))))⟩
theorem row35 : Row Go.Proofs.Try.prog (35, a35) := ⟨Go.Proofs.Try.f35, Go.Proofs.Try.func35, by kernel_rfl⟩
noncomputable def a37 : AFn :=
⟨70,[(.cell 8 true 3)],(.seq (.reg [⟨(some 8),(.a (.alloc 28 [(.int .i64 (.ofNat 0)),.nilsl,.nilsl])),none,0⟩])
(.seq (.reg [mt 11 0,
oq 12 (.build [.nilsl,(.int .i64 (.ofNat 0))] [(0,1,(.t 11))]),
⟨(some 13),(.a (.box 46 (.t 12))),none,0⟩,
mt 14 2,
mt 15 3,
oq 16 (.build [.nilp,.nilsl,.nilsl,(.int .i64 (.ofNat 0)),(.int .i64 (.ofNat 0)),(.bool false),(.bool false),(.int .i64 (.ofNat 0)),.nilsl,.nilsl] [(0,1,(.t 13)),(3,1,(.t 14)),(4,1,(ci 1)),(5,1,(.t 15))]),
⟨(some 17),(.a (.box 129 (.t 16))),none,0⟩,
mt 9 17])
(.seq (.reg [mt 18 9,
mt 19 1,
oq 20 (.nilchk (.t 18)),
oq 21 (.faddr 7 (.t 20)),
oq 22 (.faddr 0 (.t 21)),
⟨none,(.x (.st 1 (.t 22) (.t 19))),none,0⟩])
(.seq (.seq (.reg [mt 23 9,
oq 24 (.nilchk (.t 23)),
oq 25 (.faddr 0 (.t 24)),
oq 26 (ld 25),
oc 27 38 [(.t 26),(ci 5)] 0,
oq 28 (bi .add (ci 1) (.t 27)),
mt 10 28])
(.block 0 (.loop (.seq (.seq (.reg [mt 29 10,
oq 30 (bi .gtr (.t 29) (ci 0))])
(.cond (.t 30) .skip (.exit 0)))
(.seq (.block 1 (.drw [mt 33 9,
mt 34 9,
om 35 2 (.nilchk (.t 34)),
om 36 6 (.faddr 1 (.t 35)),
om 37 14 (ld 36),
mt 38 9,
om 39 32 (.nilchk (.t 38)),
om 40 96 (.faddr 0 (.t 39)),
om 41 224 (ld 40),
mt 42 1,
om 43 512 (bi .add (.t 42) (ci 1)),
oc 44 38 [(.t 41),(.t 43)] 2016,
om 45 4064 (bi .sub (.t 44) (ci 1)),
mt 46 9,
om 47 8192 (.nilchk (.t 46)),
om 48 24576 (.faddr 0 (.t 47)),
om 49 57344 (ld 48),
oc 50 38 [(.t 49),(ci 2)] 126944,
om 51 258016 (bi .add (ci 2) (.t 50)),
mt 52 9,
om 53 524288 (.nilchk (.t 52)),
om 54 1572864 (.faddr 0 (.t 53)),
om 55 3670016 (ld 54),
oc 56 38 [(.t 55),(ci 16)] 8122336,
om 57 16777184 (.build [(.int .i64 (.ofNat 0)),(.int .i64 (.ofNat 0)),(.int .i64 (.ofNat 0))] [(0,1,(.t 45)),(1,1,(.t 51)),(2,1,(.t 56))]),
⟨(some 58),(.a (.bslice 131 3 1 [(.int .i64 (.ofNat 0)),(.int .i64 (.ofNat 0)),(.int .i64 (.ofNat 0))] [(0,(.t 57))])),none,33554400⟩,
⟨(some 59),(.x (.app 131 3 24 (.t 37) (.t 58))),none,67108862⟩,
om 60 134217727 (.nilchk (.t 33)),
om 61 268435455 (.faddr 1 (.t 60)),
⟨none,(.x (.st 1 (.t 61) (.t 59))),none,536870911⟩]))
(.reg [mt 31 10,
oq 32 (bi .sub (.t 31) (ci 1)),
mt 10 32]))))))
(.seq (.reg [mt 62 9,
mt 63 1,
⟨(some 64),(.a (.mkSlice 22 1 24 [.nilsl] (.t 63) (.t 63))),none,0⟩,
oc 65 86 [(.t 62),(ci 0),(.t 64)] 0])
(.seq (.reg [mt 66 9,
oq 67 (.nilchk (.t 66)),
oq 68 (.faddr 7 (.t 67)),
oq 69 (.ld true 3 (.t 68)),
⟨none,(.x (.st 3 (.t 8) (.t 69))),none,0⟩])
.ret))))))⟩
theorem row37 : Row Go.Proofs.Try.prog (37, a37) := ⟨Go.Proofs.Try.f37, Go.Proofs.Try.func37, by kernel_rfl⟩
noncomputable def a38 : AFn :=
⟨39,[(.t 4)],(.seq (.reg [oq 4 (.mv (ci 0))])
(.seq (.seq (.drw [mt 5 0,
om 6 1 (.nilchk (.t 5)),
om 7 3 (.faddr 1 (.t 6)),
om 8 7 (ld 7),
mt 9 0,
om 10 16 (.nilchk (.t 9)),
om 11 48 (.faddr 0 (.t 10)),
om 12 112 (ld 11),
om 13 240 (.lenSl (.t 12)),
om 14 511 (bi .geq (.t 8) (.t 13)),
om 15 1023 (.mv (.t 14)),
og 16 15 false 2047 (.mv (.t 1)),
og 17 15 false 4095 (bi .lss (.t 16) (ci 1)),
om 18 8191 (.pick (.t 15) (.c (.bool true)) (.t 17))])
(.cond (.t 18) (.seq (.reg [oq 4 (.mv (ci 0))])
.ret) .skip))
(.seq (.reg [mt 19 0,
oq 20 (.nilchk (.t 19)),
oq 21 (.faddr 1 (.t 20)),
oq 22 (ld 21),
oq 23 (bi .add (.t 22) (ci 1)),
oq 24 (.nilchk (.t 19)),
oq 25 (.faddr 1 (.t 24)),
⟨none,(.x (.st 1 (.t 25) (.t 23))),none,0⟩])
(.seq (.drw [mt 26 0,
om 27 1 (.nilchk (.t 26)),
om 28 3 (.faddr 0 (.t 27)),
om 29 7 (ld 28),
mt 30 0,
om 31 16 (.nilchk (.t 30)),
om 32 48 (.faddr 1 (.t 31)),
om 33 112 (ld 32),
om 34 240 (bi .sub (.t 33) (ci 1)),
om 35 511 (.iaddr (.slice 1) (.t 29) (.t 34)),
om 36 1023 (ld 35),
mt 37 1,
oc 38 16 [(.t 36),(.t 37)] 4095,
om 4 8191 (.mv (.t 38))])
.ret))))⟩
theorem row38 : Row Go.Proofs.Try.prog (38, a38) := ⟨Go.Proofs.Try.f38, Go.Proofs.Try.func38, by kernel_rfl⟩
noncomputable def a39 : AFn :=
⟨24,[(.t 2),(.t 3)],(.seq (.reg [⟨(some 1),(.a (.box 28 (.t 0))),none,0⟩,
oq 2 (.mv (ci 0)),
oq 3 (.mv (ci 0))])
(.seq (.seq (.reg [oq 6 (.ld true 3 (.t 1)),
oc 7 87 [(.t 6)] 0,
mt 4 7])
(.seq (.reg [mt 8 4,
oq 9 (bi .neq (.t 8) (ci 0))])
(.cond (.t 9) (.seq (.reg [mt 10 4,
oq 2 (.mv (ci 0)),
mt 3 10])
.ret) .skip)))
(.seq (.reg [oq 11 (.ld true 3 (.t 1)),
oq 12 (.build [(.int .i64 (.ofNat 0)),.nilsl,.nilsl,(.int .i64 (.ofNat 0)),(.bool false)] [(0,3,(.t 11)),(3,1,(ci 1))]),
⟨(some 13),(.a (.box 135 (.t 12))),none,0⟩,
mt 5 13])
(.seq (.seq (.reg [mt 14 5,
oc 15 88 [(.t 14),(ci 0),(ci 1)] 0])
(.seq (.reg [mt 16 5,
oq 17 (.nilchk (.t 16)),
oq 18 (.faddr 4 (.t 17)),
oq 19 (ld 18)])
(.cond (.t 19) (.seq (.reg [oq 2 (.mv (ci 0)),
oq 3 (.mv (ci 5))])
.ret) .skip)))
(.seq (.reg [mt 20 5,
oq 21 (.nilchk (.t 20)),
oq 22 (.faddr 3 (.t 21)),
oq 23 (ld 22),
mt 2 23,
oq 3 (.mv (ci 0))])
.ret)))))⟩
theorem row39 : Row Go.Proofs.Try.prog (39, a39) := ⟨Go.Proofs.Try.f39, Go.Proofs.Try.func39, by kernel_rfl⟩
noncomputable def a40 : AFn :=
⟨35,[(.t 6),(.t 7)],(.seq (.reg [⟨(some 3),(.a (.box 28 (.t 0))),none,0⟩,
oq 6 (.mv (ci 0)),
oq 7 (.mv (ci 0))])
(.seq (.reg [oq 11 (.ld true 3 (.t 3)),
mt 12 1,
oc 13 89 [(.t 11),(.t 12)] 0,
mt 10 13,
oq 14 (.extract (.t 10) 0),
oq 15 (.extract (.t 10) 1),
mt 8 14,
mt 9 15])
(.seq (.seq (.reg [mt 16 9,
oq 17 (bi .neq (.t 16) (ci 0))])
(.cond (.t 17) (.seq (.reg [mt 18 9,
oq 6 (.mv (ci 0)),
mt 7 18])
.ret) .skip))
(.seq (.seq (.reg [mt 19 2,
oq 20 (bi .lss (.t 19) (ci 0)),
mt 21 20,
og 22 21 false 0 (.mv (.t 2)),
og 23 21 false 0 (.faddr 1 (.t 3)),
og 24 21 false 0 (ld 23),
og 25 21 false 0 (.lenSl (.t 24)),
og 26 21 false 0 (bi .geq (.t 22) (.t 25)),
oq 27 (.pick (.t 21) (.c (.bool true)) (.t 26))])
(.cond (.t 27) (.seq (.reg [oq 6 (.mv (ci 0)),
oq 7 (.mv (ci 2))])
.ret) .skip))
(.seq (.reg [oq 28 (.ld true 3 (.t 3)),
mt 29 1,
mt 30 8,
oc 31 90 [(.t 28),(.t 29),(.t 30)] 0,
mt 32 2,
oq 33 (.iaddr (.slice 1) (.t 31) (.t 32)),
oq 34 (ld 33),
mt 6 34,
oq 7 (.mv (ci 0))])
.ret)))))⟩
theorem row40 : Row Go.Proofs.Try.prog (40, a40) := ⟨Go.Proofs.Try.f40, Go.Proofs.Try.func40, by kernel_rfl⟩
noncomputable def a79 : AFn :=
⟨44,[(.t 4)],(.seq (.reg [⟨(some 2),(.a (.box 28 (.t 0))),none,0⟩,
⟨(some 3),(.a (.box 55 (.t 1))),none,0⟩,
oq 4 (.mv (ci 0))])
(.seq (.seq (.reg [oq 9 (.ld true 3 (.t 2)),
oc 10 87 [(.t 9)] 0,
mt 5 10])
(.seq (.reg [mt 11 5,
oq 12 (bi .neq (.t 11) (ci 0))])
(.cond (.t 12) (.seq (.reg [mt 13 5,
mt 4 13])
.ret) .skip)))
(.seq (.seq (.reg [oq 14 (.ld true 2 (.t 3)),
oc 15 122 [(.t 14)] 0,
mt 6 15])
(.seq (.reg [mt 16 6,
oq 17 (bi .neq (.t 16) (ci 0))])
(.cond (.t 17) (.seq (.reg [mt 18 6,
mt 4 18])
.ret) .skip)))
(.seq (.seq (.reg [oq 19 (.faddr 1 (.t 3)),
oq 20 (ld 19),
oq 21 (.lenSl (.t 20)),
oq 22 (.faddr 2 (.t 2)),
oq 23 (ld 22),
oq 24 (.lenSl (.t 23)),
oq 25 (bi .neq (.t 21) (.t 24))])
(.cond (.t 25) (.seq (.reg [oq 4 (.mv (ci 10))])
.ret) .skip))
(.seq (.seq (.reg [oq 26 (.faddr 1 (.t 3)),
oq 27 (ld 26),
oq 28 (.lenSl (.t 27)),
oq 29 (.mv (ci 0))])
(.block 0 (.loop (.seq (.reg [oq 30 (bi .lss (.t 29) (.t 28))])
(.seq (.cond (.t 30) .skip (.exit 0))
(.seq (.block 1 (.seq (.reg [mt 31 29,
oq 32 (.iaddr (.slice 1) (.t 27) (.t 29)),
oq 33 (ld 32),
mt 7 31,
mt 8 33])
(.seq (.reg [mt 34 8,
oq 35 (.lenSl (.t 34)),
oq 36 (.faddr 2 (.t 2)),
oq 37 (ld 36),
mt 38 7,
oq 39 (.iaddr (.slice 2) (.t 37) (.t 38)),
oq 40 (.faddr 1 (.t 39)),
oq 41 (ld 40),
oq 42 (bi .neq (.t 35) (.t 41))])
(.cond (.t 42) (.seq (.reg [oq 4 (.mv (ci 10))])
.ret) .skip))))
(.reg [oq 43 (bi .add (.t 29) (ci 1)),
mt 29 43])))))))
(.seq (.reg [oq 4 (.mv (ci 0))])
.ret))))))⟩
theorem row79 : Row Go.Proofs.Try.prog (79, a79) := ⟨Go.Proofs.Try.f79, Go.Proofs.Try.func79, by kernel_rfl⟩
noncomputable def a80 : AFn :=
⟨83,[(.t 4),(.t 5)],(.seq (.reg [⟨(some 2),(.a (.box 28 (.t 0))),none,0⟩,
oq 4 (.mv (ci 0)),
oq 5 (.mv (ci 0))])
(.seq (.reg [oq 14 (.faddr 1 (.t 2)),
oq 15 (ld 14),
oq 16 (.lenSl (.t 15)),
⟨(some 17),(.a (.mkSlice 3 1 8 [(.int .i64 (.ofNat 0))] (.t 16) (.t 16))),none,0⟩,
mt 6 17])
(.seq (.reg [mt 18 6,
oq 19 (.iaddr (.slice 1) (.t 18) (ci 0)),
⟨none,(.x (.st 1 (.t 19) (ci 1))),none,0⟩])
(.seq (.reg [oq 7 (.mv (ci 1))])
(.seq (.seq (.reg [oq 20 (.faddr 1 (.t 2)),
oq 21 (ld 20),
oq 22 (.lenSl (.t 21)),
oq 23 (.mv (ci 0))])
(.block 0 (.loop (.seq (.reg [oq 24 (bi .lss (.t 23) (.t 22))])
(.seq (.cond (.t 24) .skip (.exit 0))
(.seq (.block 1 (.seq (.reg [mt 25 23,
oq 26 (.iaddr (.slice 6) (.t 21) (.t 23)),
oq 27 (.ld true 6 (.t 26)),
⟨(some 9),(.a (.alloc 64 [(.int .i64 (.ofNat 0)),(.int .i64 (.ofNat 0)),(.int .i64 (.ofNat 0)),.nilsl,.nilsl,.nilsl])),none,0⟩,
mt 8 25,
⟨none,(.x (.st 6 (.t 9) (.t 27))),none,0⟩])
(.seq (.seq (.reg [oq 28 (.faddr 0 (.t 9)),
oq 29 (ld 28),
oq 30 (bi .eql (.t 29) (ci 3))])
(.cond (.t 30) (.seq (.reg [mt 31 7,
mt 32 7,
mt 33 6,
mt 34 8,
oq 35 (.iaddr (.slice 1) (.t 33) (.t 34)),
oq 36 (ld 35),
oc 37 123 [(.t 32),(.t 36)] 0,
oq 38 (bi .quo (.t 31) (.t 37)),
mt 10 38])
(.seq (.seq (.reg [mt 39 10,
mt 40 6,
mt 41 8,
oq 42 (.iaddr (.slice 1) (.t 40) (.t 41)),
oq 43 (ld 42),
oq 44 (bi .quo (ci 1000000000000000) (.t 43)),
oq 45 (bi .gtr (.t 39) (.t 44))])
(.cond (.t 45) (.seq (.reg [oq 4 (.mv (ci 0)),
oq 5 (.mv (ci 5))])
.ret) .skip))
(.seq (.reg [mt 46 10,
mt 47 6,
mt 48 8,
oq 49 (.iaddr (.slice 1) (.t 47) (.t 48)),
oq 50 (ld 49),
oq 51 (bi .mul (.t 46) (.t 50)),
mt 7 51])
(.exit 1)))) .skip))
(.seq (.drw [oq 52 (.ld true 6 (.t 9)),
mt 53 1,
oc 54 124 [(.t 52),(.t 53)] 3,
oq 55 (.ld true 6 (.t 9)),
⟨(some 56),(.x (.inv [(119,204,none),(139,207,none),(191,134,none)] (.t 54) [(.t 55)])),none,15⟩,
om 11 31 (.mv (.t 56))])
(.seq (.seq (.reg [mt 57 11,
mt 58 6,
mt 59 8,
oq 60 (.iaddr (.slice 1) (.t 58) (.t 59)),
oq 61 (ld 60),
oq 62 (bi .quo (ci 1000000000000000) (.t 61)),
oq 63 (bi .gtr (.t 57) (.t 62))])
(.cond (.t 63) (.seq (.reg [oq 4 (.mv (ci 0)),
oq 5 (.mv (ci 5))])
.ret) .skip))
(.seq (.reg [oq 64 (.faddr 3 (.t 9)),
oq 65 (ld 64),
oq 66 (.lenSl (.t 65)),
oq 67 (.mv (ci 0))])
(.block 2 (.loop (.seq (.reg [oq 68 (bi .lss (.t 67) (.t 66))])
(.seq (.cond (.t 68) .skip (.exit 2))
(.seq (.block 3 (.seq (.reg [oq 69 (.iaddr (.slice 1) (.t 65) (.t 67)),
oq 70 (ld 69),
mt 13 70])
(.reg [mt 71 6,
mt 72 13,
mt 73 6,
mt 74 8,
oq 75 (.iaddr (.slice 1) (.t 73) (.t 74)),
oq 76 (ld 75),
mt 77 11,
oq 78 (bi .mul (.t 76) (.t 77)),
oq 79 (.iaddr (.slice 1) (.t 71) (.t 72)),
⟨none,(.x (.st 1 (.t 79) (.t 78))),none,0⟩])))
(.reg [oq 80 (bi .add (.t 67) (ci 1)),
mt 67 80]))))))))))))
(.reg [oq 81 (bi .add (.t 23) (ci 1)),
mt 23 81])))))))
(.seq (.reg [mt 82 7,
mt 4 82,
oq 5 (.mv (ci 0))])
.ret))))))⟩
theorem row80 : Row Go.Proofs.Try.prog (80, a80) := ⟨Go.Proofs.Try.f80, Go.Proofs.Try.func80, by kernel_rfl⟩
end Go.Ev.Gl
