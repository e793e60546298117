import Derived.Test.YtoojnpjgnnpllaaProg
import Derived.Test.YtoojnpjgnnpllaaEv8
import Derived.KernelRfl
namespace Go.Ev.Gl
set_option maxRecDepth 100000
noncomputable def a3 : cA :=
⟨179,[(.t 10)],(.seq (.reg [⟨(some 9),(.a (.box 23 (.t 4))),none,0⟩,
oq 10 (.mv (.c (.bool false)))])
(.seq (.seq (.reg [oc 32 14 [] 0,
oq 33 (.un .not (.t 32))])
(.cond (.t 33) (.seq (.reg [oq 10 (.mv (.c (.bool false)))])
.ret) .skip))
(.seq (.seq (.reg [mt 34 0,
oq 35 (.lenSl (.t 34)),
oq 36 (bi .gtr (.t 35) (ci 80))])
(.cond (.t 36) (.seq (.reg [oq 10 (.mv (.c (.bool true)))])
.ret) .skip))
(.seq (.reg [mt 38 0,
mt 39 1,
mt 40 2,
mt 41 3,
oc 42 15 [(.t 38),(.t 39),(.t 40),(.t 41)] 0,
mt 37 42,
oq 43 (.extract (.t 37) 0),
oq 44 (.extract (.t 37) 1),
oq 45 (.extract (.t 37) 2),
⟨(some 11),(.a (.alloc 28 [(.int .i64 (.ofNat 0)),.nilsl,.nilsl])),none,0⟩,
⟨none,(.x (.st 3 (.t 11) (.t 43))),none,0⟩,
mt 12 44,
mt 13 45])
(.seq (.seq (.reg [mt 46 13,
oq 47 (.un .not (.t 46))])
(.cond (.t 47) (.seq (.reg [oq 10 (.mv (.c (.bool false)))])
.ret) .skip))
(.seq (.drw [mt 48 12,
oq 49 (.iaddr (.arr 3 1) (.t 9) (ci 0)),
om 50 2 (ld 49),
mt 51 12,
om 52 8 (.lenSl (.t 51)),
oc 53 16 [(.t 50),(.t 52)] 30,
om 54 63 (.iaddr (.slice 1) (.t 48) (.t 53)),
om 55 127 (ld 54),
mt 56 12,
oq 57 (.iaddr (.arr 3 1) (.t 9) (ci 1)),
om 58 512 (ld 57),
mt 59 12,
om 60 2048 (.lenSl (.t 59)),
oc 61 16 [(.t 58),(.t 60)] 7742,
om 62 16190 (.iaddr (.slice 1) (.t 56) (.t 61)),
om 63 32574 (ld 62),
mt 64 12,
oq 65 (.iaddr (.arr 3 1) (.t 9) (ci 2)),
om 66 131072 (ld 65),
mt 67 12,
om 68 524288 (.lenSl (.t 67)),
oc 69 16 [(.t 66),(.t 68)] 1982014,
om 70 4144702 (.iaddr (.slice 1) (.t 64) (.t 69)),
om 71 8339006 (ld 70),
om 14 4079359 (.mv (.t 55)),
om 15 20905983 (.mv (.t 63)),
om 16 67108863 (.mv (.t 71))])
(.seq (.reg [oq 73 (.ld true 3 (.t 11)),
mt 74 14,
mt 75 15,
oc 76 17 [(.t 73),(.t 74),(.t 75)] 0,
mt 72 76,
oq 77 (.extract (.t 72) 0),
oq 78 (.extract (.t 72) 1),
mt 17 77,
mt 18 78])
(.seq (.reg [oq 80 (.ld true 3 (.t 11)),
mt 81 15,
mt 82 16,
oc 83 17 [(.t 80),(.t 81),(.t 82)] 0,
mt 79 83,
oq 84 (.extract (.t 79) 0),
oq 85 (.extract (.t 79) 1),
mt 19 84,
mt 20 85])
(.seq (.reg [oq 87 (.ld true 3 (.t 11)),
mt 88 17,
mt 89 16,
oc 90 17 [(.t 87),(.t 88),(.t 89)] 0,
mt 86 90,
oq 91 (.extract (.t 86) 0),
oq 92 (.extract (.t 86) 1),
mt 21 91,
mt 22 92])
(.seq (.reg [oq 94 (.ld true 3 (.t 11)),
mt 95 14,
mt 96 19,
oc 97 17 [(.t 94),(.t 95),(.t 96)] 0,
mt 93 97,
oq 98 (.extract (.t 93) 0),
oq 99 (.extract (.t 93) 1),
mt 23 98,
mt 24 99])
(.seq (.reg [oq 101 (.ld true 3 (.t 11)),
mt 102 17,
oc 103 18 [(.t 101),(.t 102)] 0,
mt 100 103,
oq 104 (.extract (.t 100) 0),
oq 105 (.extract (.t 100) 1),
mt 25 104,
mt 26 105])
(.seq (.reg [oq 107 (.ld true 3 (.t 11)),
mt 108 17,
mt 109 25,
oc 110 17 [(.t 107),(.t 108),(.t 109)] 0,
mt 106 110,
oq 111 (.extract (.t 106) 0),
oq 112 (.extract (.t 106) 1),
mt 27 111,
mt 28 112])
(.seq (.reg [oq 114 (.ld true 3 (.t 11)),
mt 115 14,
oc 116 18 [(.t 114),(.t 115)] 0,
mt 113 116,
oq 117 (.extract (.t 113) 0),
oq 118 (.extract (.t 113) 1),
mt 29 117,
mt 30 118])
(.seq (.seq (.reg [mt 119 18,
oq 120 (bi .neq (.t 119) (ci 0)),
mt 121 120,
og 122 121 false 0 (.mv (.t 20)),
og 123 121 false 0 (bi .neq (.t 122) (ci 0)),
oq 124 (.pick (.t 121) (.c (.bool true)) (.t 123)),
mt 125 124,
og 126 125 false 0 (.mv (.t 22)),
og 127 125 false 0 (bi .neq (.t 126) (ci 0)),
oq 128 (.pick (.t 125) (.c (.bool true)) (.t 127)),
mt 129 128,
og 130 129 false 0 (.mv (.t 24)),
og 131 129 false 0 (bi .neq (.t 130) (ci 0)),
oq 132 (.pick (.t 129) (.c (.bool true)) (.t 131)),
mt 133 132,
og 134 133 false 0 (.mv (.t 26)),
og 135 133 false 0 (bi .neq (.t 134) (ci 0)),
oq 136 (.pick (.t 133) (.c (.bool true)) (.t 135)),
mt 137 136,
og 138 137 false 0 (.mv (.t 28)),
og 139 137 false 0 (bi .neq (.t 138) (ci 0)),
oq 140 (.pick (.t 137) (.c (.bool true)) (.t 139)),
mt 141 140,
og 142 141 false 0 (.mv (.t 30)),
og 143 141 false 0 (bi .neq (.t 142) (ci 0)),
oq 144 (.pick (.t 141) (.c (.bool true)) (.t 143)),
mt 145 144,
og 146 145 false 0 (.mv (.t 27)),
og 147 145 false 0 (.lenSl (.t 146)),
og 148 145 false 0 (.faddr 1 (.t 11)),
og 149 145 false 0 (ld 148),
og 150 145 false 0 (.lenSl (.t 149)),
og 151 145 false 0 (bi .neq (.t 147) (.t 150)),
oq 152 (.pick (.t 145) (.c (.bool true)) (.t 151))])
(.cond (.t 152) (.seq (.reg [oq 10 (.mv (.c (.bool false)))])
.ret) .skip))
(.seq (.seq (.reg [oq 31 (.mv (ci 0))])
(.block 0 (.loop (.seq (.seq (.reg [mt 153 31,
mt 154 27,
oq 155 (.lenSl (.t 154)),
oq 156 (bi .lss (.t 153) (.t 155))])
(.cond (.t 156) .skip (.exit 0)))
(.seq (.block 1 (.seq (.reg [mt 159 27,
mt 160 31,
oq 161 (.iaddr (.slice 1) (.t 159) (.t 160)),
oq 162 (ld 161),
mt 163 31,
oq 164 (bi .neq (.t 162) (.t 163))])
(.cond (.t 164) (.seq (.reg [oq 10 (.mv (.c (.bool false)))])
.ret) .skip)))
(.reg [mt 157 31,
oq 158 (bi .add (.t 157) (ci 1)),
mt 31 158]))))))
(.seq (.reg [mt 165 21,
mt 166 23,
oc 167 19 [(.t 165),(.t 166)] 0,
mt 168 167,
og 169 168 true 0 (.mv (.t 29)),
og 170 168 true 0 (.mv (.t 14)),
⟨(some 171),(.x (.call (.c (.fn 19 [] [])) [(.t 169),(.t 170)])),(some (168,true)),0⟩,
oq 172 (.pick (.t 168) (.t 171) (.c (.bool false))),
mt 173 172,
og 174 173 true 0 (.ld true 3 (.t 11)),
og 175 173 true 0 (.mv (.t 21)),
⟨(some 176),(.x (.call (.c (.fn 20 [] [])) [(.t 174),(.t 175)])),(some (173,true)),0⟩,
og 177 173 true 0 (bi .eql (.t 176) (ci 0)),
oq 178 (.pick (.t 173) (.t 177) (.c (.bool false))),
mt 10 178])
.ret))))))))))))))))⟩
theorem row3 : Row Go.Proofs.Try.prog (3, a3) := ⟨Go.Proofs.Try.f3, Go.Proofs.Try.func3, by kernel_rfl⟩
noncomputable def a15 : cA :=
⟨43,[(.cell 8 true 3),(.t 9),(.t 10)],(.seq (.reg [⟨(some 8),(.a (.alloc 28 [(.int .i64 (.ofNat 0)),.nilsl,.nilsl])),none,0⟩,
oq 9 (.mv (.c .nilsl)),
oq 10 (.mv (.c (.bool false)))])
(.seq (.reg [mt 14 0,
mt 15 1,
oc 16 16 [(.t 15),(ci 3)] 0,
oq 17 (bi .add (ci 1) (.t 16)),
mt 18 2,
oc 19 16 [(.t 18),(ci 2)] 0,
oq 20 (bi .add (ci 2) (.t 19)),
mt 21 3,
oc 22 67 [(.t 14),(.t 17),(ci 30),(.t 20),(.t 21),(.c (.bool false))] 0,
⟨(some 11),(.a (.alloc 28 [(.int .i64 (.ofNat 0)),.nilsl,.nilsl])),none,0⟩,
⟨none,(.x (.st 3 (.t 11) (.t 22))),none,0⟩])
(.seq (.reg [oq 24 (.ld true 3 (.t 11)),
oc 25 63 [(.t 24)] 0,
mt 23 25,
oq 26 (.extract (.t 23) 0),
oq 27 (.extract (.t 23) 1),
mt 12 26,
mt 13 27])
(.seq (.seq (.reg [mt 28 13,
oq 29 (bi .neq (.t 28) (ci 0)),
mt 30 29,
og 31 30 false 0 (.mv (.t 12)),
og 32 30 false 0 (.lenSl (.t 31)),
og 33 30 false 0 (bi .lss (.t 32) (ci 1)),
oq 34 (.pick (.t 30) (.c (.bool true)) (.t 33))])
(.cond (.t 34) (.seq (.reg [oq 35 (.ld true 3 (.t 11)),
⟨none,(.x (.st 3 (.t 8) (.t 35))),none,0⟩,
oq 9 (.mv (.c .nilsl)),
oq 10 (.mv (.c (.bool false)))])
.ret) .skip))
(.seq (.seq (.reg [mt 36 12,
oq 37 (.lenSl (.t 36)),
oq 38 (bi .gtr (.t 37) (ci 5))])
(.cond (.t 38) (.reg [mt 39 12,
oq 40 (.slc (.slice 1) (.t 39) none (some (ci 5)) none),
mt 12 40]) .skip))
(.seq (.reg [oq 41 (.ld true 3 (.t 11)),
mt 42 12,
⟨none,(.x (.st 3 (.t 8) (.t 41))),none,0⟩,
mt 9 42,
oq 10 (.mv (.c (.bool true)))])
.ret))))))⟩
theorem row15 : Row Go.Proofs.Try.prog (15, a15) := ⟨Go.Proofs.Try.f15, Go.Proofs.Try.func15, by kernel_rfl⟩
noncomputable def a16 : cA :=
⟨14,[(.t 4)],(.seq (.reg [oq 4 (.mv (ci 0))])
(.seq (.reg [mt 5 0,
mt 6 1,
oq 7 (bi .rem (.t 5) (.t 6)),
mt 0 7])
(.seq (.seq (.reg [mt 8 0,
oq 9 (bi .lss (.t 8) (ci 0))])
(.cond (.t 9) (.reg [mt 10 0,
mt 11 1,
oq 12 (bi .add (.t 10) (.t 11)),
mt 0 12]) .skip))
(.seq (.reg [mt 13 0,
mt 4 13])
.ret))))⟩
theorem row16 : Row Go.Proofs.Try.prog (16, a16) := ⟨Go.Proofs.Try.f16, Go.Proofs.Try.func16, by kernel_rfl⟩
noncomputable def a17 : cA :=
⟨39,[(.t 6),(.t 7)],(.seq (.reg [⟨(some 3),(.a (.box 28 (.t 0))),none,0⟩,
oq 6 (.mv (.c .nilsl)),
oq 7 (.mv (ci 0))])
(.seq (.reg [oq 11 (.ld true 3 (.t 3)),
oc 12 68 [(.t 11)] 0,
mt 10 12,
oq 13 (.extract (.t 10) 0),
oq 14 (.extract (.t 10) 1),
mt 8 13,
mt 9 14])
(.seq (.seq (.reg [mt 15 9,
oq 16 (bi .neq (.t 15) (ci 0))])
(.cond (.t 16) (.seq (.reg [mt 17 9,
oq 6 (.mv (.c .nilsl)),
mt 7 17])
.ret) .skip))
(.seq (.seq (.reg [mt 19 8,
mt 20 1,
oc 21 69 [(.t 19),(.t 20)] 0,
mt 18 21,
oq 22 (.extract (.t 18) 0),
oq 23 (.extract (.t 18) 1),
mt 9 23])
(.seq (.reg [mt 24 9,
oq 25 (bi .neq (.t 24) (ci 0))])
(.cond (.t 25) (.seq (.reg [mt 26 9,
oq 6 (.mv (.c .nilsl)),
mt 7 26])
.ret) .skip)))
(.seq (.seq (.reg [mt 28 8,
mt 29 2,
oc 30 69 [(.t 28),(.t 29)] 0,
mt 27 30,
oq 31 (.extract (.t 27) 0),
oq 32 (.extract (.t 27) 1),
mt 9 32])
(.seq (.reg [mt 33 9,
oq 34 (bi .neq (.t 33) (ci 0))])
(.cond (.t 34) (.seq (.reg [mt 35 9,
oq 6 (.mv (.c .nilsl)),
mt 7 35])
.ret) .skip)))
(.seq (.reg [mt 36 1,
mt 37 2,
oc 38 70 [(.t 36),(.t 37)] 0,
mt 6 38,
oq 7 (.mv (ci 0))])
.ret))))))⟩
theorem row17 : Row Go.Proofs.Try.prog (17, a17) := ⟨Go.Proofs.Try.f17, Go.Proofs.Try.func17, by kernel_rfl⟩
noncomputable def a18 : cA :=
⟨44,[(.t 4),(.t 5)],(.seq (.reg [⟨(some 2),(.a (.box 28 (.t 0))),none,0⟩,
oq 4 (.mv (.c .nilsl)),
oq 5 (.mv (ci 0))])
(.seq (.reg [oq 12 (.ld true 3 (.t 2)),
oc 13 68 [(.t 12)] 0,
mt 11 13,
oq 14 (.extract (.t 11) 0),
oq 15 (.extract (.t 11) 1),
mt 6 14,
mt 7 15])
(.seq (.seq (.reg [mt 16 7,
oq 17 (bi .neq (.t 16) (ci 0))])
(.cond (.t 17) (.seq (.reg [mt 18 7,
oq 4 (.mv (.c .nilsl)),
mt 5 18])
.ret) .skip))
(.seq (.seq (.reg [mt 20 6,
mt 21 1,
oc 22 69 [(.t 20),(.t 21)] 0,
mt 19 22,
oq 23 (.extract (.t 19) 0),
oq 24 (.extract (.t 19) 1),
mt 7 24])
(.seq (.reg [mt 25 7,
oq 26 (bi .neq (.t 25) (ci 0))])
(.cond (.t 26) (.seq (.reg [mt 27 7,
oq 4 (.mv (.c .nilsl)),
mt 5 27])
.ret) .skip)))
(.seq (.reg [mt 28 1,
oq 29 (.lenSl (.t 28)),
⟨(some 30),(.a (.mkSlice 3 1 8 [(.int .i64 (.ofNat 0))] (.t 29) (.t 29))),none,0⟩,
mt 8 30])
(.seq (.seq (.reg [mt 31 1,
oq 32 (.lenSl (.t 31)),
oq 33 (.mv (ci 0))])
(.block 0 (.loop (.seq (.reg [oq 34 (bi .lss (.t 33) (.t 32))])
(.seq (.cond (.t 34) .skip (.exit 0))
(.seq (.block 1 (.seq (.reg [mt 35 33,
oq 36 (.iaddr (.slice 1) (.t 31) (.t 33)),
oq 37 (ld 36),
mt 9 35,
mt 10 37])
(.reg [mt 38 8,
mt 39 10,
mt 40 9,
oq 41 (.iaddr (.slice 1) (.t 38) (.t 39)),
⟨none,(.x (.st 1 (.t 41) (.t 40))),none,0⟩])))
(.reg [oq 42 (bi .add (.t 33) (ci 1)),
mt 33 42])))))))
(.seq (.reg [mt 43 8,
mt 4 43,
oq 5 (.mv (ci 0))])
.ret)))))))⟩
theorem row18 : Row Go.Proofs.Try.prog (18, a18) := ⟨Go.Proofs.Try.f18, Go.Proofs.Try.func18, by kernel_rfl⟩
noncomputable def a19 : cA :=
⟨26,[(.t 4)],(.seq (.reg [oq 4 (.mv (.c (.bool false)))])
(.seq (.seq (.reg [mt 6 0,
oq 7 (.lenSl (.t 6)),
mt 8 1,
oq 9 (.lenSl (.t 8)),
oq 10 (bi .neq (.t 7) (.t 9))])
(.cond (.t 10) (.seq (.reg [oq 4 (.mv (.c (.bool false)))])
.ret) .skip))
(.seq (.seq (.reg [oq 5 (.mv (ci 0))])
(.block 0 (.loop (.seq (.seq (.reg [mt 11 5,
mt 12 0,
oq 13 (.lenSl (.t 12)),
oq 14 (bi .lss (.t 11) (.t 13))])
(.cond (.t 14) .skip (.exit 0)))
(.seq (.block 1 (.seq (.drw [mt 17 0,
mt 18 5,
om 19 3 (.iaddr (.slice 1) (.t 17) (.t 18)),
om 20 7 (ld 19),
mt 21 1,
mt 22 5,
om 23 48 (.iaddr (.slice 1) (.t 21) (.t 22)),
om 24 112 (ld 23),
om 25 255 (bi .neq (.t 20) (.t 24))])
(.cond (.t 25) (.seq (.reg [oq 4 (.mv (.c (.bool false)))])
.ret) .skip)))
(.reg [mt 15 5,
oq 16 (bi .add (.t 15) (ci 1)),
mt 5 16]))))))
(.seq (.reg [oq 4 (.mv (.c (.bool true)))])
.ret))))⟩
theorem row19 : Row Go.Proofs.Try.prog (19, a19) := ⟨Go.Proofs.Try.f19, Go.Proofs.Try.func19, by kernel_rfl⟩
noncomputable def a20 : cA :=
⟨22,[(.t 4)],(.seq (.reg [⟨(some 2),(.a (.box 28 (.t 0))),none,0⟩,
oq 4 (.mv (ci 0))])
(.seq (.reg [oq 8 (.ld true 3 (.t 2)),
oc 9 68 [(.t 8)] 0,
mt 7 9,
oq 10 (.extract (.t 7) 0),
oq 11 (.extract (.t 7) 1),
mt 5 10,
mt 6 11])
(.seq (.seq (.reg [mt 12 6,
oq 13 (bi .neq (.t 12) (ci 0))])
(.cond (.t 13) (.seq (.reg [mt 14 6,
mt 4 14])
.ret) .skip))
(.seq (.reg [mt 16 5,
mt 17 1,
oc 18 69 [(.t 16),(.t 17)] 0,
mt 15 18,
oq 19 (.extract (.t 15) 0),
oq 20 (.extract (.t 15) 1),
mt 6 20])
(.seq (.reg [mt 21 6,
mt 4 21])
.ret)))))⟩
theorem row20 : Row Go.Proofs.Try.prog (20, a20) := ⟨Go.Proofs.Try.f20, Go.Proofs.Try.func20, by kernel_rfl⟩
noncomputable def a37 : cA :=
⟨70,[(.cell 8 true 3)],(.seq (.reg [⟨(some 8),(.a (.alloc 28 [(.int .i64 (.ofNat 0)),.nilsl,.nilsl])),none,0⟩])
(.seq (.reg [mt 11 0,
oq 12 (.build [.nilsl,(.int .i64 (.ofNat 0))] [(0,1,(.t 11))]),
⟨(some 13),(.a (.box 46 (.t 12))),none,0⟩,
mt 14 2,
mt 15 3,
oq 16 (.build [.nilp,.nilsl,.nilsl,(.int .i64 (.ofNat 0)),(.int .i64 (.ofNat 0)),(.bool false),(.bool false),(.int .i64 (.ofNat 0)),.nilsl,.nilsl] [(0,1,(.t 13)),(3,1,(.t 14)),(4,1,(ci 1)),(5,1,(.t 15))]),
⟨(some 17),(.a (.box 129 (.t 16))),none,0⟩,
mt 9 17])
(.seq (.reg [mt 18 9,
mt 19 1,
oq 20 (.nilchk (.t 18)),
oq 21 (.faddr 7 (.t 20)),
oq 22 (.faddr 0 (.t 21)),
⟨none,(.x (.st 1 (.t 22) (.t 19))),none,0⟩])
(.seq (.seq (.reg [mt 23 9,
oq 24 (.nilchk (.t 23)),
oq 25 (.faddr 0 (.t 24)),
oq 26 (ld 25),
oc 27 38 [(.t 26),(ci 5)] 0,
oq 28 (bi .add (ci 1) (.t 27)),
mt 10 28])
(.block 0 (.loop (.seq (.seq (.reg [mt 29 10,
oq 30 (bi .gtr (.t 29) (ci 0))])
(.cond (.t 30) .skip (.exit 0)))
(.seq (.block 1 (.drw [mt 33 9,
mt 34 9,
om 35 2 (.nilchk (.t 34)),
om 36 6 (.faddr 1 (.t 35)),
om 37 14 (ld 36),
mt 38 9,
om 39 32 (.nilchk (.t 38)),
om 40 96 (.faddr 0 (.t 39)),
om 41 224 (ld 40),
mt 42 1,
om 43 512 (bi .add (.t 42) (ci 1)),
oc 44 38 [(.t 41),(.t 43)] 2016,
om 45 4064 (bi .sub (.t 44) (ci 1)),
mt 46 9,
om 47 8192 (.nilchk (.t 46)),
om 48 24576 (.faddr 0 (.t 47)),
om 49 57344 (ld 48),
oc 50 38 [(.t 49),(ci 2)] 126944,
om 51 258016 (bi .add (ci 2) (.t 50)),
mt 52 9,
om 53 524288 (.nilchk (.t 52)),
om 54 1572864 (.faddr 0 (.t 53)),
om 55 3670016 (ld 54),
oc 56 38 [(.t 55),(ci 16)] 8122336,
om 57 16777184 (.build [(.int .i64 (.ofNat 0)),(.int .i64 (.ofNat 0)),(.int .i64 (.ofNat 0))] [(0,1,(.t 45)),(1,1,(.t 51)),(2,1,(.t 56))]),
⟨(some 58),(.a (.bslice 131 3 1 [(.int .i64 (.ofNat 0)),(.int .i64 (.ofNat 0)),(.int .i64 (.ofNat 0))] [(0,(.t 57))])),none,33554400⟩,
⟨(some 59),(.x (.app 131 3 24 (.t 37) (.t 58))),none,67108862⟩,
om 60 134217727 (.nilchk (.t 33)),
om 61 268435455 (.faddr 1 (.t 60)),
⟨none,(.x (.st 1 (.t 61) (.t 59))),none,536870911⟩]))
(.reg [mt 31 10,
oq 32 (bi .sub (.t 31) (ci 1)),
mt 10 32]))))))
(.seq (.reg [mt 62 9,
mt 63 1,
⟨(some 64),(.a (.mkSlice 22 1 24 [.nilsl] (.t 63) (.t 63))),none,0⟩,
oc 65 86 [(.t 62),(ci 0),(.t 64)] 0])
(.seq (.reg [mt 66 9,
oq 67 (.nilchk (.t 66)),
oq 68 (.faddr 7 (.t 67)),
oq 69 (.ld true 3 (.t 68)),
⟨none,(.x (.st 3 (.t 8) (.t 69))),none,0⟩])
.ret))))))⟩
theorem row37 : Row Go.Proofs.Try.prog (37, a37) := ⟨Go.Proofs.Try.f37, Go.Proofs.Try.func37, by kernel_rfl⟩
noncomputable def a38 : cA :=
⟨39,[(.t 4)],(.seq (.reg [oq 4 (.mv (ci 0))])
(.seq (.seq (.drw [mt 5 0,
om 6 1 (.nilchk (.t 5)),
om 7 3 (.faddr 1 (.t 6)),
om 8 7 (ld 7),
mt 9 0,
om 10 16 (.nilchk (.t 9)),
om 11 48 (.faddr 0 (.t 10)),
om 12 112 (ld 11),
om 13 240 (.lenSl (.t 12)),
om 14 511 (bi .geq (.t 8) (.t 13)),
om 15 1023 (.mv (.t 14)),
og 16 15 false 2047 (.mv (.t 1)),
og 17 15 false 4095 (bi .lss (.t 16) (ci 1)),
om 18 8191 (.pick (.t 15) (.c (.bool true)) (.t 17))])
(.cond (.t 18) (.seq (.reg [oq 4 (.mv (ci 0))])
.ret) .skip))
(.seq (.reg [mt 19 0,
oq 20 (.nilchk (.t 19)),
oq 21 (.faddr 1 (.t 20)),
oq 22 (ld 21),
oq 23 (bi .add (.t 22) (ci 1)),
oq 24 (.nilchk (.t 19)),
oq 25 (.faddr 1 (.t 24)),
⟨none,(.x (.st 1 (.t 25) (.t 23))),none,0⟩])
(.seq (.drw [mt 26 0,
om 27 1 (.nilchk (.t 26)),
om 28 3 (.faddr 0 (.t 27)),
om 29 7 (ld 28),
mt 30 0,
om 31 16 (.nilchk (.t 30)),
om 32 48 (.faddr 1 (.t 31)),
om 33 112 (ld 32),
om 34 240 (bi .sub (.t 33) (ci 1)),
om 35 511 (.iaddr (.slice 1) (.t 29) (.t 34)),
om 36 1023 (ld 35),
mt 37 1,
oc 38 16 [(.t 36),(.t 37)] 4095,
om 4 8191 (.mv (.t 38))])
.ret))))⟩
theorem row38 : Row Go.Proofs.Try.prog (38, a38) := ⟨Go.Proofs.Try.f38, Go.Proofs.Try.func38, by kernel_rfl⟩
noncomputable def a41 : cA :=
⟨47,[(.cell 2 true 3)],(.seq (.reg [⟨(some 1),(.a (.box 28 (.t 0))),none,0⟩,
⟨(some 2),(.a (.alloc 28 [(.int .i64 (.ofNat 0)),.nilsl,.nilsl])),none,0⟩])
(.seq (.drw [oq 6 (.faddr 0 (.t 1)),
om 7 1 (ld 6),
⟨(some 8),(.a (.bslice 48 2 0 [(.int .i64 (.ofNat 0)),(.int .i64 (.ofNat 0))] [])),none,0⟩,
oq 9 (.faddr 2 (.t 1)),
om 10 8 (ld 9),
⟨(some 11),(.x (.app 48 2 16 (.t 8) (.t 10))),none,28⟩,
om 12 63 (.build [(.int .i64 (.ofNat 0)),.nilsl,.nilsl] [(0,1,(.t 7)),(2,1,(.t 11))]),
⟨(some 3),(.a (.alloc 28 [(.int .i64 (.ofNat 0)),.nilsl,.nilsl])),none,0⟩,
⟨none,(.x (.st 3 (.t 3) (.t 12))),none,255⟩])
(.seq (.seq (.reg [oq 4 (.mv (ci 0))])
(.block 0 (.loop (.seq (.seq (.reg [mt 13 4,
oq 14 (.faddr 1 (.t 1)),
oq 15 (ld 14),
oq 16 (.lenSl (.t 15)),
oq 17 (bi .lss (.t 13) (.t 16))])
(.cond (.t 17) .skip (.exit 0)))
(.seq (.block 1 (.seq (.reg [oq 20 (.faddr 1 (.t 1)),
oq 21 (ld 20),
mt 22 4,
oq 23 (.iaddr (.slice 6) (.t 21) (.t 22)),
oq 24 (.ld true 6 (.t 23)),
⟨(some 5),(.a (.alloc 64 [(.int .i64 (.ofNat 0)),(.int .i64 (.ofNat 0)),(.int .i64 (.ofNat 0)),.nilsl,.nilsl,.nilsl])),none,0⟩,
⟨none,(.x (.st 6 (.t 5) (.t 24))),none,0⟩])
(.seq (.drw [⟨(some 25),(.a (.bslice 3 1 0 [(.int .i64 (.ofNat 0))] [])),none,0⟩,
oq 26 (.faddr 3 (.t 5)),
om 27 2 (ld 26),
⟨(some 28),(.x (.app 3 1 8 (.t 25) (.t 27))),none,7⟩,
⟨(some 29),(.a (.bslice 3 1 0 [(.int .i64 (.ofNat 0))] [])),none,0⟩,
oq 30 (.faddr 4 (.t 5)),
om 31 32 (ld 30),
⟨(some 32),(.x (.app 3 1 8 (.t 29) (.t 31))),none,127⟩,
⟨(some 33),(.a (.bslice 3 1 0 [(.int .i64 (.ofNat 0))] [])),none,0⟩,
oq 34 (.faddr 5 (.t 5)),
om 35 512 (ld 34),
⟨(some 36),(.x (.app 3 1 8 (.t 33) (.t 35))),none,2047⟩,
om 37 1647 (.faddr 3 (.t 5)),
⟨none,(.x (.st 1 (.t 37) (.t 28))),none,8191⟩,
om 38 16383 (.faddr 4 (.t 5)),
⟨none,(.x (.st 1 (.t 38) (.t 32))),none,32767⟩,
om 39 65535 (.faddr 5 (.t 5)),
⟨none,(.x (.st 1 (.t 39) (.t 36))),none,131071⟩])
(.reg [oq 40 (.faddr 1 (.t 3)),
oq 41 (ld 40),
oq 42 (.ld true 6 (.t 5)),
⟨(some 43),(.a (.bslice 64 6 1 [(.int .i64 (.ofNat 0)),(.int .i64 (.ofNat 0)),(.int .i64 (.ofNat 0)),.nilsl,.nilsl,.nilsl] [(0,(.t 42))])),none,0⟩,
⟨(some 44),(.x (.app 64 6 96 (.t 41) (.t 43))),none,0⟩,
oq 45 (.faddr 1 (.t 3)),
⟨none,(.x (.st 1 (.t 45) (.t 44))),none,0⟩]))))
(.reg [mt 18 4,
oq 19 (bi .add (.t 18) (ci 1)),
mt 4 19]))))))
(.seq (.reg [oq 46 (.ld true 3 (.t 3)),
⟨none,(.x (.st 3 (.t 2) (.t 46))),none,0⟩])
.ret))))⟩
theorem row41 : Row Go.Proofs.Try.prog (41, a41) := ⟨Go.Proofs.Try.f41, Go.Proofs.Try.func41, by kernel_rfl⟩
noncomputable def a63 : cA :=
⟨94,[(.t 2),(.t 3)],(.seq (.reg [⟨(some 1),(.a (.box 28 (.t 0))),none,0⟩,
oq 2 (.mv (.c .nilsl)),
oq 3 (.mv (ci 0))])
(.seq (.reg [oq 16 (.ld true 3 (.t 1)),
oc 17 68 [(.t 16)] 0,
mt 15 17,
oq 18 (.extract (.t 15) 0),
oq 19 (.extract (.t 15) 1),
mt 4 18,
mt 5 19])
(.seq (.seq (.reg [mt 20 5,
oq 21 (bi .neq (.t 20) (ci 0))])
(.cond (.t 21) (.seq (.reg [mt 22 5,
oq 2 (.mv (.c .nilsl)),
mt 3 22])
.ret) .skip))
(.seq (.reg [oq 6 (.mv (.c .nilsl))])
(.seq (.seq (.reg [oq 23 (.faddr 1 (.t 1)),
oq 24 (ld 23),
oq 25 (.lenSl (.t 24)),
oq 26 (.mv (ci 0))])
(.block 0 (.loop (.seq (.reg [oq 27 (bi .lss (.t 26) (.t 25))])
(.seq (.cond (.t 27) .skip (.exit 0))
(.seq (.block 1 (.seq (.reg [oq 28 (.iaddr (.slice 6) (.t 24) (.t 26)),
oq 29 (.ld true 6 (.t 28)),
⟨(some 8),(.a (.alloc 64 [(.int .i64 (.ofNat 0)),(.int .i64 (.ofNat 0)),(.int .i64 (.ofNat 0)),.nilsl,.nilsl,.nilsl])),none,0⟩,
⟨none,(.x (.st 6 (.t 8) (.t 29))),none,0⟩])
(.seq (.seq (.reg [oq 30 (.faddr 0 (.t 8)),
oq 31 (ld 30),
oq 32 (bi .neq (.t 31) (ci 1))])
(.cond (.t 32) (.exit 1) .skip))
(.seq (.reg [oq 33 (.faddr 3 (.t 8)),
oq 34 (ld 33),
oq 35 (.lenSl (.t 34)),
oq 36 (.mv (ci 0))])
(.block 2 (.loop (.seq (.reg [oq 37 (bi .lss (.t 36) (.t 35))])
(.seq (.cond (.t 37) .skip (.exit 2))
(.seq (.block 3 (.seq (.reg [mt 38 36,
oq 39 (.iaddr (.slice 1) (.t 34) (.t 36)),
oq 40 (ld 39),
mt 9 38,
mt 10 40])
(.seq (.reg [mt 41 9,
oq 42 (bi .add (.t 41) (ci 1)),
mt 11 42])
(.block 4 (.loop (.seq (.seq (.reg [mt 43 11,
oq 44 (.faddr 3 (.t 8)),
oq 45 (ld 44),
oq 46 (.lenSl (.t 45)),
oq 47 (bi .lss (.t 43) (.t 46))])
(.cond (.t 47) .skip (.exit 4)))
(.seq (.block 5 (.seq (.seq (.drw [oq 50 (.faddr 4 (.t 8)),
om 51 1 (ld 50),
mt 52 9,
om 53 7 (.iaddr (.slice 1) (.t 51) (.t 52)),
om 54 15 (ld 53),
oq 55 (.faddr 4 (.t 8)),
om 56 32 (ld 55),
mt 57 11,
om 58 224 (.iaddr (.slice 1) (.t 56) (.t 57)),
om 59 480 (ld 58),
om 60 1023 (bi .neq (.t 54) (.t 59)),
om 61 2047 (.mv (.t 60)),
og 62 61 false 4095 (.mv (.t 4)),
og 63 61 false 4095 (.mv (.t 10)),
og 64 61 false 4095 (.faddr 3 (.t 8)),
og 65 61 false 20479 (ld 64),
og 66 61 false 4095 (.mv (.t 11)),
og 67 61 false 118783 (.iaddr (.slice 1) (.t 65) (.t 66)),
og 68 61 false 249855 (ld 67),
⟨(some 69),(.x (.call (.c (.fn 114 [] [])) [(.t 62),(.t 63),(.t 68)])),(some (61,false)),524287⟩,
og 70 61 false 1048575 (.un .not (.t 69)),
om 71 2097151 (.pick (.t 61) (.c (.bool true)) (.t 70))])
(.cond (.t 71) (.exit 5) .skip))
(.seq (.reg [mt 72 4,
mt 73 10,
oq 74 (.faddr 3 (.t 8)),
oq 75 (ld 74),
mt 76 11,
oq 77 (.iaddr (.slice 1) (.t 75) (.t 76)),
oq 78 (ld 77),
oc 79 115 [(.t 72),(.t 73),(.t 78)] 0,
mt 12 79])
(.seq (.reg [mt 81 4,
mt 82 12,
oc 83 116 [(.t 81),(.t 82)] 0,
mt 80 83,
oq 84 (.extract (.t 80) 0),
oq 85 (.extract (.t 80) 1),
⟨(some 13),(.a (.alloc 108 [.nilsl,.nilsl])),none,0⟩,
⟨none,(.x (.st 2 (.t 13) (.t 84))),none,0⟩,
mt 14 85])
(.seq (.reg [mt 86 14])
(.cond (.t 86) (.reg [mt 87 6,
mt 88 12,
⟨(some 89),(.a (.bslice 22 1 1 [.nilsl] [(0,(.t 88))])),none,0⟩,
⟨(some 90),(.x (.app 22 1 24 (.t 87) (.t 89))),none,0⟩,
mt 6 90]) .skip))))))
(.reg [mt 48 11,
oq 49 (bi .add (.t 48) (ci 1)),
mt 11 49]))))))))
(.reg [oq 91 (bi .add (.t 36) (ci 1)),
mt 36 91]))))))))))
(.reg [oq 92 (bi .add (.t 26) (ci 1)),
mt 26 92])))))))
(.seq (.reg [mt 93 6,
mt 2 93,
oq 3 (.mv (ci 0))])
.ret))))))⟩
theorem row63 : Row Go.Proofs.Try.prog (63, a63) := ⟨Go.Proofs.Try.f63, Go.Proofs.Try.func63, by kernel_rfl⟩
end Go.Ev.Gl
