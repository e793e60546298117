/- Functions of the program as data of the evaluator, written by program; each is shown to be the compiler's result on the loaded function. -/
import Derived.Test.YtmbmidkdinllgaaDoorProg
import Derived.Test.YtmbmidkdinllgaaDoorEv8
import Derived.KernelRfl
namespace Go.Ev.Gl
set_option maxRecDepth 100000
noncomputable def a5 : AFn :=
⟨151,[(.t 4)],(.seq (.reg [⟨(some 2),(.a (.box 25 (.t 0))),none,0⟩,
⟨(some 3),(.a (.box 25 (.t 1))),none,0⟩,
oq 4 (.mv (.c (.bool false)))])
(.seq (.seq (.reg [oq 15 (.ld true 3 (.t 2)),
oc 16 10 [(.t 15)] 0,
mt 17 16,
og 18 17 false 0 (.ld true 3 (.t 3)),
⟨(some 19),(.x (.call (.c (.fn 10 [] [])) [(.t 18)])),(some (17,false)),0⟩,
oq 20 (.pick (.t 17) (.c (.bool true)) (.t 19))])
(.cond (.t 20) (.seq (.reg [oc 21 11 [] 0,
mt 4 21])
.ret) .skip))
(.seq (.drw [oq 22 (.ld true 3 (.t 2)),
oc 23 21 [(.t 22)] 1,
oq 24 (.ld true 3 (.t 3)),
oc 25 21 [(.t 24)] 7,
⟨(some 5),(.a (.alloc 25 [(.bool false),.nilsl,.nilsl])),none,0⟩,
⟨(some 6),(.a (.alloc 25 [(.bool false),.nilsl,.nilsl])),none,0⟩,
⟨none,(.x (.st 3 (.t 5) (.t 23))),none,63⟩,
⟨none,(.x (.st 3 (.t 6) (.t 25))),none,127⟩])
(.seq (.reg [oq 27 (.ld true 3 (.t 5)),
oq 28 (.ld true 3 (.t 6)),
oc 29 22 [(.t 27),(.t 28)] 0,
mt 26 29,
oq 30 (.extract (.t 26) 0),
oq 31 (.extract (.t 26) 1),
⟨(some 7),(.a (.alloc 25 [(.bool false),.nilsl,.nilsl])),none,0⟩,
⟨none,(.x (.st 3 (.t 7) (.t 30))),none,0⟩,
mt 8 31])
(.seq (.reg [oq 33 (.ld true 3 (.t 2)),
oq 34 (.ld true 3 (.t 3)),
oc 35 23 [(.t 33),(.t 34)] 0,
mt 32 35,
oq 36 (.extract (.t 32) 0),
oq 37 (.extract (.t 32) 1),
⟨(some 9),(.a (.alloc 25 [(.bool false),.nilsl,.nilsl])),none,0⟩,
⟨none,(.x (.st 3 (.t 9) (.t 36))),none,0⟩,
mt 10 37])
(.seq (.seq (.reg [oq 38 (.ld true 3 (.t 7)),
oq 39 (.ld true 3 (.t 9)),
oc 40 14 [(.t 38),(.t 39)] 0,
oq 41 (.un .not (.t 40)),
mt 42 41,
og 43 42 false 0 (.mv (.t 8)),
og 44 42 false 0 (.mv (.t 10)),
og 45 42 false 0 (bi .neq (.t 43) (.t 44)),
oq 46 (.pick (.t 42) (.c (.bool true)) (.t 45))])
(.cond (.t 46) (.seq (.reg [oq 4 (.mv (.c (.bool false)))])
.ret) .skip))
(.seq (.reg [oq 48 (.ld true 3 (.t 5)),
oq 49 (.ld true 3 (.t 6)),
oc 50 24 [(.t 48),(.t 49)] 0,
mt 47 50,
oq 51 (.extract (.t 47) 0),
oq 52 (.extract (.t 47) 1),
⟨none,(.x (.st 3 (.t 7) (.t 51))),none,0⟩,
mt 8 52])
(.seq (.reg [oq 54 (.ld true 3 (.t 2)),
oq 55 (.ld true 3 (.t 3)),
oc 56 25 [(.t 54),(.t 55)] 0,
mt 53 56,
oq 57 (.extract (.t 53) 0),
oq 58 (.extract (.t 53) 1),
⟨none,(.x (.st 3 (.t 9) (.t 57))),none,0⟩,
mt 10 58])
(.seq (.seq (.reg [oq 59 (.ld true 3 (.t 7)),
oq 60 (.ld true 3 (.t 9)),
oc 61 14 [(.t 59),(.t 60)] 0,
oq 62 (.un .not (.t 61)),
mt 63 62,
og 64 63 false 0 (.mv (.t 8)),
og 65 63 false 0 (.mv (.t 10)),
og 66 63 false 0 (bi .neq (.t 64) (.t 65)),
oq 67 (.pick (.t 63) (.c (.bool true)) (.t 66))])
(.cond (.t 67) (.seq (.reg [oq 4 (.mv (.c (.bool false)))])
.ret) .skip))
(.seq (.reg [oq 69 (.ld true 3 (.t 5)),
oq 70 (.ld true 3 (.t 6)),
oc 71 26 [(.t 69),(.t 70)] 0,
mt 68 71,
oq 72 (.extract (.t 68) 0),
oq 73 (.extract (.t 68) 1),
⟨none,(.x (.st 3 (.t 7) (.t 72))),none,0⟩,
mt 8 73])
(.seq (.reg [oq 75 (.ld true 3 (.t 2)),
oq 76 (.ld true 3 (.t 3)),
oc 77 27 [(.t 75),(.t 76)] 0,
mt 74 77,
oq 78 (.extract (.t 74) 0),
oq 79 (.extract (.t 74) 1),
⟨none,(.x (.st 3 (.t 9) (.t 78))),none,0⟩,
mt 10 79])
(.seq (.seq (.reg [oq 80 (.ld true 3 (.t 7)),
oq 81 (.ld true 3 (.t 9)),
oc 82 14 [(.t 80),(.t 81)] 0,
oq 83 (.un .not (.t 82)),
mt 84 83,
og 85 84 false 0 (.mv (.t 8)),
og 86 84 false 0 (.mv (.t 10)),
og 87 84 false 0 (bi .neq (.t 85) (.t 86)),
oq 88 (.pick (.t 84) (.c (.bool true)) (.t 87))])
(.cond (.t 88) (.seq (.reg [oq 4 (.mv (.c (.bool false)))])
.ret) .skip))
(.seq (.reg [oq 90 (.ld true 3 (.t 5)),
oq 91 (.ld true 3 (.t 6)),
oc 92 28 [(.t 90),(.t 91)] 0,
mt 89 92,
oq 93 (.extract (.t 89) 0),
oq 94 (.extract (.t 89) 1),
⟨none,(.x (.st 3 (.t 7) (.t 93))),none,0⟩,
mt 8 94])
(.seq (.reg [oq 96 (.ld true 3 (.t 2)),
oq 97 (.ld true 3 (.t 3)),
oc 98 29 [(.t 96),(.t 97)] 0,
mt 95 98,
oq 99 (.extract (.t 95) 0),
oq 100 (.extract (.t 95) 1),
⟨none,(.x (.st 3 (.t 9) (.t 99))),none,0⟩,
mt 10 100])
(.seq (.reg [oq 102 (.ld true 3 (.t 5)),
oq 103 (.ld true 3 (.t 6)),
oc 104 18 [(.t 102),(.t 103)] 0,
mt 101 104,
oq 105 (.extract (.t 101) 0),
oq 106 (.extract (.t 101) 1),
mt 11 105,
mt 12 106])
(.seq (.reg [oq 108 (.ld true 3 (.t 2)),
oq 109 (.ld true 3 (.t 3)),
oc 110 30 [(.t 108),(.t 109)] 0,
mt 107 110,
oq 111 (.extract (.t 107) 0),
oq 112 (.extract (.t 107) 1),
mt 13 111,
mt 14 112])
(.seq (.drw [oq 113 (.ld true 3 (.t 7)),
oq 114 (.ld true 3 (.t 9)),
oc 115 14 [(.t 113),(.t 114)] 3,
om 116 7 (.mv (.t 115)),
og 117 116 true 15 (.mv (.t 8)),
og 118 116 true 15 (.mv (.t 10)),
og 119 116 true 63 (bi .eql (.t 117) (.t 118)),
om 120 127 (.pick (.t 116) (.t 119) (.c (.bool false))),
om 121 255 (.mv (.t 120)),
og 122 121 true 511 (.mv (.t 11)),
og 123 121 true 511 (.mv (.t 13)),
og 124 121 true 2047 (bi .eql (.t 122) (.t 123)),
om 125 4095 (.pick (.t 121) (.t 124) (.c (.bool false))),
om 126 8191 (.mv (.t 125)),
og 127 126 true 16383 (.mv (.t 12)),
og 128 126 true 16383 (.mv (.t 14)),
og 129 126 true 65535 (bi .eql (.t 127) (.t 128)),
om 130 131071 (.pick (.t 126) (.t 129) (.c (.bool false))),
om 131 262143 (.mv (.t 130)),
og 132 131 true 524287 (.ld true 3 (.t 5)),
⟨(some 133),(.x (.call (.c (.fn 31 [] [])) [(.t 132)])),(some (131,true)),1048575⟩,
og 134 131 true 524287 (.ld true 3 (.t 2)),
⟨(some 135),(.x (.call (.c (.fn 32 [] [])) [(.t 134)])),(some (131,true)),4194303⟩,
og 136 131 true 8388607 (bi .eql (.t 133) (.t 135)),
om 137 16777215 (.pick (.t 131) (.t 136) (.c (.bool false))),
om 138 33554431 (.mv (.t 137)),
og 139 138 true 67108863 (.ld true 3 (.t 5)),
og 140 138 true 67108863 (.ld true 3 (.t 2)),
⟨(some 141),(.x (.call (.c (.fn 14 [] [])) [(.t 139),(.t 140)])),(some (138,true)),268435455⟩,
om 142 536870911 (.pick (.t 138) (.t 141) (.c (.bool false))),
om 143 1073741823 (.mv (.t 142)),
og 144 143 true 2147483647 (.ld true 3 (.t 6)),
og 145 143 true 2147483647 (.ld true 3 (.t 3)),
⟨(some 146),(.x (.call (.c (.fn 14 [] [])) [(.t 144),(.t 145)])),(some (143,true)),8589934591⟩,
om 147 17179869183 (.pick (.t 143) (.t 146) (.c (.bool false))),
om 148 34359738367 (.mv (.t 147)),
⟨(some 149),(.x (.call (.c (.fn 11 [] [])) [])),(some (148,true)),68719476735⟩,
om 150 137438953471 (.pick (.t 148) (.t 149) (.c (.bool false))),
om 4 274877906943 (.mv (.t 150))])
.ret)))))))))))))))))⟩
theorem row5 : Row Go.Proofs.Tryd.prog (5, a5) := ⟨Go.Proofs.Tryd.f5, Go.Proofs.Tryd.func5, by kernel_rfl⟩
noncomputable def a10 : AFn :=
⟨37,[(.t 2)],(.seq (.reg [⟨(some 1),(.a (.box 25 (.t 0))),none,0⟩,
oq 2 (.mv (.c (.bool false)))])
(.seq (.reg [oq 3 (.faddr 1 (.t 1)),
oq 4 (ld 3),
oq 5 (.lenSl (.t 4)),
oq 6 (bi .gtr (.t 5) (ci 30)),
mt 7 6,
og 8 7 true 0 (.faddr 1 (.t 1)),
og 9 7 true 0 (ld 8),
og 10 7 true 0 (.lenSl (.t 9)),
og 11 7 true 0 (bi .leq (.t 10) (ci 1024)),
oq 12 (.pick (.t 7) (.t 11) (.c (.bool false))),
mt 13 12,
og 14 13 false 0 (.faddr 2 (.t 1)),
og 15 13 false 0 (ld 14),
og 16 13 false 0 (.lenSl (.t 15)),
og 17 13 false 0 (bi .gtr (.t 16) (ci 30)),
og 18 13 false 0 (.mv (.t 17)),
og 19 18 true 0 (.faddr 2 (.t 1)),
og 20 18 true 0 (ld 19),
og 21 18 true 0 (.lenSl (.t 20)),
og 22 18 true 0 (bi .leq (.t 21) (ci 1024)),
og 23 13 false 0 (.pick (.t 18) (.t 22) (.c (.bool false))),
oq 24 (.pick (.t 13) (.c (.bool true)) (.t 23)),
mt 25 24,
og 26 25 false 0 (.faddr 1 (.t 1)),
og 27 25 false 0 (ld 26),
og 28 25 false 0 (.lenSl (.t 27)),
og 29 25 false 0 (bi .gtr (.t 28) (ci 1100)),
oq 30 (.pick (.t 25) (.c (.bool true)) (.t 29)),
mt 31 30,
og 32 31 false 0 (.faddr 2 (.t 1)),
og 33 31 false 0 (ld 32),
og 34 31 false 0 (.lenSl (.t 33)),
og 35 31 false 0 (bi .gtr (.t 34) (ci 1100)),
oq 36 (.pick (.t 31) (.c (.bool true)) (.t 35)),
mt 2 36])
.ret))⟩
theorem row10 : Row Go.Proofs.Tryd.prog (10, a10) := ⟨Go.Proofs.Tryd.f10, Go.Proofs.Tryd.func10, by kernel_rfl⟩
noncomputable def a14 : AFn :=
⟨24,[(.t 4)],(.seq (.reg [⟨(some 2),(.a (.box 25 (.t 0))),none,0⟩,
⟨(some 3),(.a (.box 25 (.t 1))),none,0⟩,
oq 4 (.mv (.c (.bool false)))])
(.seq (.reg [oq 5 (.faddr 0 (.t 2)),
oq 6 (ld 5),
oq 7 (.faddr 0 (.t 3)),
oq 8 (ld 7),
oq 9 (.bin .eql (.p .bool) (.t 6) (.t 8)),
mt 10 9,
og 11 10 true 0 (.faddr 1 (.t 2)),
og 12 10 true 0 (ld 11),
og 13 10 true 0 (.faddr 1 (.t 3)),
og 14 10 true 0 (ld 13),
⟨(some 15),(.x (.call (.c (.fn 38 [] [])) [(.t 12),(.t 14)])),(some (10,true)),0⟩,
oq 16 (.pick (.t 10) (.t 15) (.c (.bool false))),
mt 17 16,
og 18 17 true 0 (.faddr 2 (.t 2)),
og 19 17 true 0 (ld 18),
og 20 17 true 0 (.faddr 2 (.t 3)),
og 21 17 true 0 (ld 20),
⟨(some 22),(.x (.call (.c (.fn 38 [] [])) [(.t 19),(.t 21)])),(some (17,true)),0⟩,
oq 23 (.pick (.t 17) (.t 22) (.c (.bool false))),
mt 4 23])
.ret))⟩
theorem row14 : Row Go.Proofs.Tryd.prog (14, a14) := ⟨Go.Proofs.Tryd.f14, Go.Proofs.Tryd.func14, by kernel_rfl⟩
noncomputable def a18 : AFn :=
⟨46,[(.t 4),(.t 5)],(.seq (.reg [⟨(some 2),(.a (.box 25 (.t 0))),none,0⟩,
⟨(some 3),(.a (.box 25 (.t 1))),none,0⟩,
oq 4 (.mv (ci 0)),
oq 5 (.mv (ci 0))])
(.seq (.seq (.reg [oq 9 (.ld true 3 (.t 2)),
oq 10 (.ld true 3 (.t 3)),
oc 11 62 [(.t 9),(.t 10)] 0,
mt 6 11])
(.seq (.reg [mt 12 6,
oq 13 (bi .neq (.t 12) (ci 0))])
(.cond (.t 13) (.seq (.reg [mt 14 6,
oq 4 (.mv (ci 0)),
mt 5 14])
.ret) .skip)))
(.seq (.drw [oq 15 (.ld true 3 (.t 2)),
oc 16 51 [(.t 15)] 1,
oq 17 (.ld true 3 (.t 3)),
oc 18 51 [(.t 17)] 7,
om 7 15 (.mv (.t 16)),
om 8 31 (.mv (.t 18))])
(.seq (.block 0 (.seq (.reg [mt 20 7,
mt 21 8,
oq 22 (bi .lss (.t 20) (.t 21)),
mt 19 22])
(.cond (.t 19) (.seq (.reg [oq 23 (.iaddr (.arr 3 1) (.c (.ptr 0 0)) (ci 0)),
oq 24 (ld 23),
mt 4 24,
oq 5 (.mv (ci 0))])
.ret) (.seq (.reg [mt 26 7,
mt 27 8,
oq 28 (bi .gtr (.t 26) (.t 27)),
mt 25 28])
(.cond (.t 25) (.seq (.reg [oq 29 (.iaddr (.arr 3 1) (.c (.ptr 0 0)) (ci 2)),
oq 30 (ld 29),
mt 4 30,
oq 5 (.mv (ci 0))])
.ret) .skip)))))
(.seq (.drw [mt 31 7,
om 32 1 (.iaddr (.arr 3 1) (.c (.ptr 0 0)) (.t 31)),
om 33 3 (ld 32),
oq 34 (.faddr 1 (.t 2)),
om 35 8 (ld 34),
oq 36 (.faddr 2 (.t 3)),
om 37 32 (ld 36),
oc 38 64 [(.t 35),(.t 37)] 120,
oq 39 (.faddr 1 (.t 3)),
om 40 256 (ld 39),
oq 41 (.faddr 2 (.t 2)),
om 42 1024 (ld 41),
oc 43 64 [(.t 40),(.t 42)] 4088,
oc 44 63 [(.t 38),(.t 43)] 8184,
om 45 16383 (bi .mul (.t 33) (.t 44)),
om 4 32767 (.mv (.t 45)),
om 5 65535 (.mv (ci 0))])
.ret)))))⟩
theorem row18 : Row Go.Proofs.Tryd.prog (18, a18) := ⟨Go.Proofs.Tryd.f18, Go.Proofs.Tryd.func18, by kernel_rfl⟩
noncomputable def a21 : AFn :=
⟨14,[(.cell 2 true 3)],(.seq (.reg [⟨(some 1),(.a (.box 25 (.t 0))),none,0⟩,
⟨(some 2),(.a (.alloc 25 [(.bool false),.nilsl,.nilsl])),none,0⟩])
(.seq (.drw [oq 3 (.faddr 0 (.t 1)),
om 4 1 (ld 3),
⟨(some 5),(.a (.bslice 41 1 0 [(.int .u32 (.ofNat 0))] [])),none,0⟩,
oq 6 (.faddr 1 (.t 1)),
om 7 8 (ld 6),
⟨(some 8),(.x (.app 41 1 4 (.t 5) (.t 7))),none,28⟩,
⟨(some 9),(.a (.bslice 41 1 0 [(.int .u32 (.ofNat 0))] [])),none,0⟩,
oq 10 (.faddr 2 (.t 1)),
om 11 128 (ld 10),
⟨(some 12),(.x (.app 41 1 4 (.t 9) (.t 11))),none,508⟩,
om 13 1023 (.build [(.bool false),.nilsl,.nilsl] [(0,1,(.t 4)),(1,1,(.t 8)),(2,1,(.t 12))]),
⟨none,(.x (.st 3 (.t 2) (.t 13))),none,2047⟩])
.ret))⟩
theorem row21 : Row Go.Proofs.Tryd.prog (21, a21) := ⟨Go.Proofs.Tryd.f21, Go.Proofs.Tryd.func21, by kernel_rfl⟩
noncomputable def a22 : AFn :=
⟨27,[(.cell 4 true 3),(.t 5)],(.seq (.reg [⟨(some 2),(.a (.box 25 (.t 0))),none,0⟩,
⟨(some 3),(.a (.box 25 (.t 1))),none,0⟩,
⟨(some 4),(.a (.alloc 25 [(.bool false),.nilsl,.nilsl])),none,0⟩,
oq 5 (.mv (ci 0))])
(.seq (.seq (.reg [oq 8 (.ld true 3 (.t 2)),
oq 9 (.ld true 3 (.t 3)),
oc 10 62 [(.t 8),(.t 9)] 0,
mt 6 10])
(.seq (.reg [mt 11 6,
oq 12 (bi .neq (.t 11) (ci 0))])
(.cond (.t 12) (.seq (.reg [oq 13 (.build [(.bool false),.nilsl,.nilsl] []),
mt 14 6,
⟨none,(.x (.st 3 (.t 4) (.t 13))),none,0⟩,
mt 5 14])
.ret) .skip)))
(.seq (.reg [oc 15 66 [] 0,
oc 16 65 [(.c (.bool false)),(.t 15)] 0,
⟨(some 7),(.a (.alloc 25 [(.bool false),.nilsl,.nilsl])),none,0⟩,
⟨none,(.x (.st 3 (.t 7) (.t 16))),none,0⟩])
(.seq (.reg [oq 17 (.ld true 3 (.t 2)),
oq 18 (.ld true 3 (.t 7)),
oq 19 (.build [(.bool false),.nilsl,.nilsl,(.bool false),.nilsl,.nilsl] [(0,3,(.t 17)),(3,3,(.t 18))]),
oq 20 (.ld true 3 (.t 3)),
oq 21 (.ld true 3 (.t 7)),
oq 22 (.build [(.bool false),.nilsl,.nilsl,(.bool false),.nilsl,.nilsl] [(0,3,(.t 20)),(3,3,(.t 21))]),
⟨(some 23),(.a (.bslice 80 6 2 [(.bool false),.nilsl,.nilsl,(.bool false),.nilsl,.nilsl] [(0,(.t 19)),(1,(.t 22))])),none,0⟩,
oc 24 67 [(.t 23)] 0,
oq 25 (.extract (.t 24) 0),
oq 26 (.extract (.t 24) 1),
⟨none,(.x (.st 3 (.t 4) (.t 25))),none,0⟩,
mt 5 26])
.ret))))⟩
theorem row22 : Row Go.Proofs.Tryd.prog (22, a22) := ⟨Go.Proofs.Tryd.f22, Go.Proofs.Tryd.func22, by kernel_rfl⟩
noncomputable def a23 : AFn :=
⟨20,[(.cell 4 true 3),(.t 5)],(.seq (.reg [⟨(some 2),(.a (.box 25 (.t 0))),none,0⟩,
⟨(some 3),(.a (.box 25 (.t 1))),none,0⟩,
⟨(some 4),(.a (.alloc 25 [(.bool false),.nilsl,.nilsl])),none,0⟩,
oq 5 (.mv (ci 0))])
(.seq (.seq (.reg [oq 7 (.ld true 3 (.t 2)),
oq 8 (.ld true 3 (.t 3)),
oc 9 56 [(.t 7),(.t 8)] 0,
mt 6 9])
(.seq (.reg [mt 10 6,
oq 11 (bi .neq (.t 10) (ci 0))])
(.cond (.t 11) (.seq (.reg [oq 12 (.build [(.bool false),.nilsl,.nilsl] []),
mt 13 6,
⟨none,(.x (.st 3 (.t 4) (.t 12))),none,0⟩,
mt 5 13])
.ret) .skip)))
(.seq (.reg [oq 14 (.ld true 3 (.t 2)),
oq 15 (.ld true 3 (.t 3)),
oc 16 68 [(.t 14),(.t 15)] 0,
oc 17 58 [(.t 16)] 0,
oq 18 (.extract (.t 17) 0),
oq 19 (.extract (.t 17) 1),
⟨none,(.x (.st 3 (.t 4) (.t 18))),none,0⟩,
mt 5 19])
.ret)))⟩
theorem row23 : Row Go.Proofs.Tryd.prog (23, a23) := ⟨Go.Proofs.Tryd.f23, Go.Proofs.Tryd.func23, by kernel_rfl⟩
noncomputable def a24 : AFn :=
⟨28,[(.cell 4 true 3),(.t 5)],(.seq (.reg [⟨(some 2),(.a (.box 25 (.t 0))),none,0⟩,
⟨(some 3),(.a (.box 25 (.t 1))),none,0⟩,
⟨(some 4),(.a (.alloc 25 [(.bool false),.nilsl,.nilsl])),none,0⟩,
oq 5 (.mv (ci 0))])
(.seq (.seq (.reg [oq 8 (.ld true 3 (.t 2)),
oq 9 (.ld true 3 (.t 3)),
oc 10 62 [(.t 8),(.t 9)] 0,
mt 6 10])
(.seq (.reg [mt 11 6,
oq 12 (bi .neq (.t 11) (ci 0))])
(.cond (.t 12) (.seq (.reg [oq 13 (.build [(.bool false),.nilsl,.nilsl] []),
mt 14 6,
⟨none,(.x (.st 3 (.t 4) (.t 13))),none,0⟩,
mt 5 14])
.ret) .skip)))
(.seq (.reg [oc 15 66 [] 0,
oc 16 65 [(.c (.bool false)),(.t 15)] 0,
⟨(some 7),(.a (.alloc 25 [(.bool false),.nilsl,.nilsl])),none,0⟩,
⟨none,(.x (.st 3 (.t 7) (.t 16))),none,0⟩])
(.seq (.drw [oq 17 (.ld true 3 (.t 2)),
oq 18 (.ld true 3 (.t 7)),
om 19 3 (.build [(.bool false),.nilsl,.nilsl,(.bool false),.nilsl,.nilsl] [(0,3,(.t 17)),(3,3,(.t 18))]),
oq 20 (.ld true 3 (.t 3)),
oc 21 54 [(.t 20)] 8,
oq 22 (.ld true 3 (.t 7)),
om 23 56 (.build [(.bool false),.nilsl,.nilsl,(.bool false),.nilsl,.nilsl] [(0,3,(.t 21)),(3,3,(.t 22))]),
⟨(some 24),(.a (.bslice 80 6 2 [(.bool false),.nilsl,.nilsl,(.bool false),.nilsl,.nilsl] [(0,(.t 19)),(1,(.t 23))])),none,127⟩,
oc 25 67 [(.t 24)] 255,
om 26 511 (.extract (.t 25) 0),
om 27 511 (.extract (.t 25) 1),
⟨none,(.x (.st 3 (.t 4) (.t 26))),none,2047⟩,
om 5 4095 (.mv (.t 27))])
.ret))))⟩
theorem row24 : Row Go.Proofs.Tryd.prog (24, a24) := ⟨Go.Proofs.Tryd.f24, Go.Proofs.Tryd.func24, by kernel_rfl⟩
noncomputable def a25 : AFn :=
⟨21,[(.cell 4 true 3),(.t 5)],(.seq (.reg [⟨(some 2),(.a (.box 25 (.t 0))),none,0⟩,
⟨(some 3),(.a (.box 25 (.t 1))),none,0⟩,
⟨(some 4),(.a (.alloc 25 [(.bool false),.nilsl,.nilsl])),none,0⟩,
oq 5 (.mv (ci 0))])
(.seq (.seq (.reg [oq 7 (.ld true 3 (.t 2)),
oq 8 (.ld true 3 (.t 3)),
oc 9 56 [(.t 7),(.t 8)] 0,
mt 6 9])
(.seq (.reg [mt 10 6,
oq 11 (bi .neq (.t 10) (ci 0))])
(.cond (.t 11) (.seq (.reg [oq 12 (.build [(.bool false),.nilsl,.nilsl] []),
mt 13 6,
⟨none,(.x (.st 3 (.t 4) (.t 12))),none,0⟩,
mt 5 13])
.ret) .skip)))
(.seq (.drw [oq 14 (.ld true 3 (.t 2)),
oq 15 (.ld true 3 (.t 3)),
oc 16 69 [(.t 15)] 2,
oc 17 68 [(.t 14),(.t 16)] 7,
oc 18 58 [(.t 17)] 15,
om 19 31 (.extract (.t 18) 0),
om 20 31 (.extract (.t 18) 1),
⟨none,(.x (.st 3 (.t 4) (.t 19))),none,127⟩,
om 5 255 (.mv (.t 20))])
.ret)))⟩
theorem row25 : Row Go.Proofs.Tryd.prog (25, a25) := ⟨Go.Proofs.Tryd.f25, Go.Proofs.Tryd.func25, by kernel_rfl⟩
noncomputable def a26 : AFn :=
⟨21,[(.cell 4 true 3),(.t 5)],(.seq (.reg [⟨(some 2),(.a (.box 25 (.t 0))),none,0⟩,
⟨(some 3),(.a (.box 25 (.t 1))),none,0⟩,
⟨(some 4),(.a (.alloc 25 [(.bool false),.nilsl,.nilsl])),none,0⟩,
oq 5 (.mv (ci 0))])
(.seq (.seq (.reg [oq 7 (.ld true 3 (.t 2)),
oq 8 (.ld true 3 (.t 3)),
oc 9 62 [(.t 7),(.t 8)] 0,
mt 6 9])
(.seq (.reg [mt 10 6,
oq 11 (bi .neq (.t 10) (ci 0))])
(.cond (.t 11) (.seq (.reg [oq 12 (.build [(.bool false),.nilsl,.nilsl] []),
mt 13 6,
⟨none,(.x (.st 3 (.t 4) (.t 12))),none,0⟩,
mt 5 13])
.ret) .skip)))
(.seq (.reg [oq 14 (.ld true 3 (.t 2)),
oq 15 (.ld true 3 (.t 3)),
oq 16 (.build [(.bool false),.nilsl,.nilsl,(.bool false),.nilsl,.nilsl] [(0,3,(.t 14)),(3,3,(.t 15))]),
⟨(some 17),(.a (.bslice 80 6 1 [(.bool false),.nilsl,.nilsl,(.bool false),.nilsl,.nilsl] [(0,(.t 16))])),none,0⟩,
oc 18 67 [(.t 17)] 0,
oq 19 (.extract (.t 18) 0),
oq 20 (.extract (.t 18) 1),
⟨none,(.x (.st 3 (.t 4) (.t 19))),none,0⟩,
mt 5 20])
.ret)))⟩
theorem row26 : Row Go.Proofs.Tryd.prog (26, a26) := ⟨Go.Proofs.Tryd.f26, Go.Proofs.Tryd.func26, by kernel_rfl⟩
noncomputable def a27 : AFn :=
⟨20,[(.cell 4 true 3),(.t 5)],(.seq (.reg [⟨(some 2),(.a (.box 25 (.t 0))),none,0⟩,
⟨(some 3),(.a (.box 25 (.t 1))),none,0⟩,
⟨(some 4),(.a (.alloc 25 [(.bool false),.nilsl,.nilsl])),none,0⟩,
oq 5 (.mv (ci 0))])
(.seq (.seq (.reg [oq 7 (.ld true 3 (.t 2)),
oq 8 (.ld true 3 (.t 3)),
oc 9 56 [(.t 7),(.t 8)] 0,
mt 6 9])
(.seq (.reg [mt 10 6,
oq 11 (bi .neq (.t 10) (ci 0))])
(.cond (.t 11) (.seq (.reg [oq 12 (.build [(.bool false),.nilsl,.nilsl] []),
mt 13 6,
⟨none,(.x (.st 3 (.t 4) (.t 12))),none,0⟩,
mt 5 13])
.ret) .skip)))
(.seq (.reg [oq 14 (.ld true 3 (.t 2)),
oq 15 (.ld true 3 (.t 3)),
oc 16 70 [(.t 14),(.t 15)] 0,
oc 17 58 [(.t 16)] 0,
oq 18 (.extract (.t 17) 0),
oq 19 (.extract (.t 17) 1),
⟨none,(.x (.st 3 (.t 4) (.t 18))),none,0⟩,
mt 5 19])
.ret)))⟩
theorem row27 : Row Go.Proofs.Tryd.prog (27, a27) := ⟨Go.Proofs.Tryd.f27, Go.Proofs.Tryd.func27, by kernel_rfl⟩
noncomputable def a28 : AFn :=
⟨26,[(.cell 4 true 3),(.t 5)],(.seq (.reg [⟨(some 2),(.a (.box 25 (.t 0))),none,0⟩,
⟨(some 3),(.a (.box 25 (.t 1))),none,0⟩,
⟨(some 4),(.a (.alloc 25 [(.bool false),.nilsl,.nilsl])),none,0⟩,
oq 5 (.mv (ci 0))])
(.seq (.seq (.reg [oq 7 (.ld true 3 (.t 2)),
oq 8 (.ld true 3 (.t 3)),
oc 9 62 [(.t 7),(.t 8)] 0,
mt 6 9])
(.seq (.reg [mt 10 6,
oq 11 (bi .neq (.t 10) (ci 0))])
(.cond (.t 11) (.seq (.reg [oq 12 (.build [(.bool false),.nilsl,.nilsl] []),
mt 13 6,
⟨none,(.x (.st 3 (.t 4) (.t 12))),none,0⟩,
mt 5 13])
.ret) .skip)))
(.seq (.seq (.reg [oq 14 (.ld true 3 (.t 3)),
oc 15 51 [(.t 14)] 0,
oq 16 (bi .eql (.t 15) (ci 1))])
(.cond (.t 16) (.seq (.reg [oq 17 (.build [(.bool false),.nilsl,.nilsl] []),
⟨none,(.x (.st 3 (.t 4) (.t 17))),none,0⟩,
oq 5 (.mv (ci 6))])
.ret) .skip))
(.seq (.drw [oq 18 (.ld true 3 (.t 2)),
oq 19 (.ld true 3 (.t 3)),
oc 20 71 [(.t 19)] 2,
om 21 7 (.build [(.bool false),.nilsl,.nilsl,(.bool false),.nilsl,.nilsl] [(0,3,(.t 18)),(3,3,(.t 20))]),
⟨(some 22),(.a (.bslice 80 6 1 [(.bool false),.nilsl,.nilsl,(.bool false),.nilsl,.nilsl] [(0,(.t 21))])),none,15⟩,
oc 23 67 [(.t 22)] 31,
om 24 63 (.extract (.t 23) 0),
om 25 63 (.extract (.t 23) 1),
⟨none,(.x (.st 3 (.t 4) (.t 24))),none,255⟩,
om 5 511 (.mv (.t 25))])
.ret))))⟩
theorem row28 : Row Go.Proofs.Tryd.prog (28, a28) := ⟨Go.Proofs.Tryd.f28, Go.Proofs.Tryd.func28, by kernel_rfl⟩
noncomputable def a29 : AFn :=
⟨23,[(.cell 4 true 3),(.t 5)],(.seq (.reg [⟨(some 2),(.a (.box 25 (.t 0))),none,0⟩,
⟨(some 3),(.a (.box 25 (.t 1))),none,0⟩,
⟨(some 4),(.a (.alloc 25 [(.bool false),.nilsl,.nilsl])),none,0⟩,
oq 5 (.mv (ci 0))])
(.seq (.seq (.reg [oq 7 (.ld true 3 (.t 2)),
oq 8 (.ld true 3 (.t 3)),
oc 9 56 [(.t 7),(.t 8)] 0,
mt 6 9])
(.seq (.reg [mt 10 6,
oq 11 (bi .neq (.t 10) (ci 0))])
(.cond (.t 11) (.seq (.reg [oq 12 (.build [(.bool false),.nilsl,.nilsl] []),
mt 13 6,
⟨none,(.x (.st 3 (.t 4) (.t 12))),none,0⟩,
mt 5 13])
.ret) .skip)))
(.seq (.seq (.reg [oq 14 (.ld true 3 (.t 3)),
oc 15 72 [(.t 14)] 0])
(.cond (.t 15) (.seq (.reg [oq 16 (.build [(.bool false),.nilsl,.nilsl] []),
⟨none,(.x (.st 3 (.t 4) (.t 16))),none,0⟩,
oq 5 (.mv (ci 6))])
.ret) .skip))
(.seq (.reg [oq 17 (.ld true 3 (.t 2)),
oq 18 (.ld true 3 (.t 3)),
oc 19 73 [(.t 17),(.t 18)] 0,
oc 20 58 [(.t 19)] 0,
oq 21 (.extract (.t 20) 0),
oq 22 (.extract (.t 20) 1),
⟨none,(.x (.st 3 (.t 4) (.t 21))),none,0⟩,
mt 5 22])
.ret))))⟩
theorem row29 : Row Go.Proofs.Tryd.prog (29, a29) := ⟨Go.Proofs.Tryd.f29, Go.Proofs.Tryd.func29, by kernel_rfl⟩
noncomputable def a30 : AFn :=
⟨16,[(.t 4),(.t 5)],(.seq (.reg [⟨(some 2),(.a (.box 25 (.t 0))),none,0⟩,
⟨(some 3),(.a (.box 25 (.t 1))),none,0⟩,
oq 4 (.mv (ci 0)),
oq 5 (.mv (ci 0))])
(.seq (.seq (.reg [oq 7 (.ld true 3 (.t 2)),
oq 8 (.ld true 3 (.t 3)),
oc 9 56 [(.t 7),(.t 8)] 0,
mt 6 9])
(.seq (.reg [mt 10 6,
oq 11 (bi .neq (.t 10) (ci 0))])
(.cond (.t 11) (.seq (.reg [mt 12 6,
oq 4 (.mv (ci 0)),
mt 5 12])
.ret) .skip)))
(.seq (.reg [oq 13 (.ld true 3 (.t 2)),
oq 14 (.ld true 3 (.t 3)),
oc 15 57 [(.t 13),(.t 14)] 0,
mt 4 15,
oq 5 (.mv (ci 0))])
.ret)))⟩
theorem row30 : Row Go.Proofs.Tryd.prog (30, a30) := ⟨Go.Proofs.Tryd.f30, Go.Proofs.Tryd.func30, by kernel_rfl⟩
noncomputable def a31 : AFn :=
⟨28,[(.t 2)],(.seq (.reg [⟨(some 1),(.a (.box 25 (.t 0))),none,0⟩,
oq 2 (.mv (ci 0))])
(.seq (.seq (.reg [oq 4 (.faddr 1 (.t 1)),
oq 5 (ld 4),
oq 6 (.faddr 2 (.t 1)),
oq 7 (ld 6),
oc 8 74 [(.t 5),(.t 7)] 0,
mt 3 8])
(.seq (.reg [mt 9 3,
oq 10 (bi .neq (.t 9) (ci 0))])
(.cond (.t 10) (.seq (.reg [mt 11 3,
mt 2 11])
.ret) .skip)))
(.seq (.seq (.reg [oq 12 (.faddr 1 (.t 1)),
oq 13 (ld 12),
oq 14 (.lenSl (.t 13)),
oq 15 (bi .eql (.t 14) (ci 0)),
mt 16 15,
og 17 16 true 0 (.faddr 0 (.t 1)),
og 18 16 true 0 (ld 17),
oq 19 (.pick (.t 16) (.t 18) (.c (.bool false))),
mt 20 19,
og 21 20 false 0 (.faddr 1 (.t 1)),
og 22 20 false 0 (ld 21),
og 23 20 false 0 (.faddr 2 (.t 1)),
og 24 20 false 0 (ld 23),
⟨(some 25),(.x (.call (.c (.fn 75 [] [])) [(.t 22),(.t 24)])),(some (20,false)),0⟩,
og 26 20 false 0 (.un .not (.t 25)),
oq 27 (.pick (.t 20) (.c (.bool true)) (.t 26))])
(.cond (.t 27) (.seq (.reg [oq 2 (.mv (ci 3))])
.ret) .skip))
(.seq (.reg [oq 2 (.mv (ci 0))])
.ret))))⟩
theorem row31 : Row Go.Proofs.Tryd.prog (31, a31) := ⟨Go.Proofs.Tryd.f31, Go.Proofs.Tryd.func31, by kernel_rfl⟩
noncomputable def a32 : AFn :=
⟨39,[(.t 2)],(.seq (.reg [⟨(some 1),(.a (.box 25 (.t 0))),none,0⟩,
oq 2 (.mv (ci 0))])
(.seq (.seq (.reg [oq 4 (.faddr 1 (.t 1)),
oq 5 (ld 4),
oq 6 (.faddr 2 (.t 1)),
oq 7 (ld 6),
oc 8 76 [(.t 5),(.t 7)] 0,
mt 3 8])
(.seq (.reg [mt 9 3,
oq 10 (bi .neq (.t 9) (ci 0))])
(.cond (.t 10) (.seq (.reg [mt 11 3,
mt 2 11])
.ret) .skip)))
(.seq (.seq (.reg [oq 12 (.faddr 1 (.t 1)),
oq 13 (ld 12),
oq 14 (.faddr 2 (.t 1)),
oq 15 (ld 14),
oc 16 77 [(.t 13),(.t 15)] 0,
oq 17 (.lenSl (.t 16)),
oq 18 (bi .neq (.t 17) (ci 1)),
mt 19 18,
og 20 19 false 0 (.faddr 1 (.t 1)),
og 21 19 false 0 (ld 20),
og 22 19 false 0 (.faddr 2 (.t 1)),
og 23 19 false 0 (ld 22),
⟨(some 24),(.x (.call (.c (.fn 77 [] [])) [(.t 21),(.t 23)])),(some (19,false)),0⟩,
og 25 19 false 0 (.iaddr (.slice 1) (.t 24) (ci 0)),
og 26 19 false 0 (ld 25),
og 27 19 false 0 (bi .neq (.t 26) (.c (.int .u32 (.ofNat 1)))),
oq 28 (.pick (.t 19) (.c (.bool true)) (.t 27)),
mt 29 28,
og 30 29 false 0 (.faddr 0 (.t 1)),
og 31 29 false 0 (ld 30),
og 32 29 false 0 (.mv (.t 31)),
og 33 32 true 0 (.faddr 1 (.t 1)),
og 34 32 true 0 (ld 33),
og 35 32 true 0 (.lenSl (.t 34)),
og 36 32 true 0 (bi .eql (.t 35) (ci 0)),
og 37 29 false 0 (.pick (.t 32) (.t 36) (.c (.bool false))),
oq 38 (.pick (.t 29) (.c (.bool true)) (.t 37))])
(.cond (.t 38) (.seq (.reg [oq 2 (.mv (ci 3))])
.ret) .skip))
(.seq (.reg [oq 2 (.mv (ci 0))])
.ret))))⟩
theorem row32 : Row Go.Proofs.Tryd.prog (32, a32) := ⟨Go.Proofs.Tryd.f32, Go.Proofs.Tryd.func32, by kernel_rfl⟩
noncomputable def a38 : AFn :=
⟨26,[(.t 4)],(.seq (.reg [oq 4 (.mv (.c (.bool false)))])
(.seq (.seq (.reg [mt 6 0,
oq 7 (.lenSl (.t 6)),
mt 8 1,
oq 9 (.lenSl (.t 8)),
oq 10 (bi .neq (.t 7) (.t 9))])
(.cond (.t 10) (.seq (.reg [oq 4 (.mv (.c (.bool false)))])
.ret) .skip))
(.seq (.seq (.reg [oq 5 (.mv (ci 0))])
(.block 0 (.loop (.seq (.seq (.reg [mt 11 5,
mt 12 0,
oq 13 (.lenSl (.t 12)),
oq 14 (bi .lss (.t 11) (.t 13))])
(.cond (.t 14) .skip (.exit 0)))
(.seq (.block 1 (.seq (.drw [mt 17 0,
mt 18 5,
om 19 3 (.iaddr (.slice 1) (.t 17) (.t 18)),
om 20 7 (ld 19),
mt 21 1,
mt 22 5,
om 23 48 (.iaddr (.slice 1) (.t 21) (.t 22)),
om 24 112 (ld 23),
om 25 255 (bi .neq (.t 20) (.t 24))])
(.cond (.t 25) (.seq (.reg [oq 4 (.mv (.c (.bool false)))])
.ret) .skip)))
(.reg [mt 15 5,
oq 16 (bi .add (.t 15) (ci 1)),
mt 5 16]))))))
(.seq (.reg [oq 4 (.mv (.c (.bool true)))])
.ret))))⟩
theorem row38 : Row Go.Proofs.Tryd.prog (38, a38) := ⟨Go.Proofs.Tryd.f38, Go.Proofs.Tryd.func38, by kernel_rfl⟩
noncomputable def a50 : AFn :=
⟨12,[(.cell 2 true 3)],(.seq (.reg [⟨(some 1),(.a (.box 25 (.t 0))),none,0⟩,
⟨(some 2),(.a (.alloc 25 [(.bool false),.nilsl,.nilsl])),none,0⟩])
(.seq (.drw [oq 3 (.faddr 0 (.t 1)),
om 4 1 (ld 3),
oq 5 (.faddr 1 (.t 1)),
om 6 4 (ld 5),
oc 7 96 [(.t 6)] 12,
oq 8 (.faddr 2 (.t 1)),
om 9 32 (ld 8),
oc 10 96 [(.t 9)] 124,
om 11 255 (.build [(.bool false),.nilsl,.nilsl] [(0,1,(.t 4)),(1,1,(.t 7)),(2,1,(.t 10))]),
⟨none,(.x (.st 3 (.t 2) (.t 11))),none,511⟩])
.ret))⟩
theorem row50 : Row Go.Proofs.Tryd.prog (50, a50) := ⟨Go.Proofs.Tryd.f50, Go.Proofs.Tryd.func50, by kernel_rfl⟩
noncomputable def a51 : AFn :=
⟨11,[(.t 2)],(.seq (.reg [⟨(some 1),(.a (.box 25 (.t 0))),none,0⟩,
oq 2 (.mv (ci 0))])
(.seq (.block 0 (.seq (.reg [oq 4 (.faddr 1 (.t 1)),
oq 5 (ld 4),
oq 6 (.lenSl (.t 5)),
oq 7 (bi .eql (.t 6) (ci 0)),
mt 3 7])
(.cond (.t 3) (.seq (.reg [oq 2 (.mv (ci 1))])
.ret) (.seq (.reg [oq 9 (.faddr 0 (.t 1)),
oq 10 (ld 9),
mt 8 10])
(.cond (.t 8) (.seq (.reg [oq 2 (.mv (ci 0))])
.ret) .skip)))))
(.seq (.reg [oq 2 (.mv (ci 2))])
.ret)))⟩
theorem row51 : Row Go.Proofs.Tryd.prog (51, a51) := ⟨Go.Proofs.Tryd.f51, Go.Proofs.Tryd.func51, by kernel_rfl⟩
noncomputable def a52 : AFn :=
⟨9,[(.cell 2 true 3),(.t 3)],(.seq (.reg [⟨(some 1),(.a (.box 25 (.t 0))),none,0⟩,
⟨(some 2),(.a (.alloc 25 [(.bool false),.nilsl,.nilsl])),none,0⟩,
oq 3 (.mv (ci 0))])
(.seq (.seq (.reg [oq 4 (.ld true 3 (.t 1)),
oc 5 97 [(.t 4)] 0,
oq 6 (.un .not (.t 5))])
(.cond (.t 6) (.seq (.reg [oq 7 (.build [(.bool false),.nilsl,.nilsl] []),
⟨none,(.x (.st 3 (.t 2) (.t 7))),none,0⟩,
oq 3 (.mv (ci 5))])
.ret) .skip))
(.seq (.reg [oq 8 (.ld true 3 (.t 1)),
⟨none,(.x (.st 3 (.t 2) (.t 8))),none,0⟩,
oq 3 (.mv (ci 0))])
.ret)))⟩
theorem row52 : Row Go.Proofs.Tryd.prog (52, a52) := ⟨Go.Proofs.Tryd.f52, Go.Proofs.Tryd.func52, by kernel_rfl⟩
noncomputable def a54 : AFn :=
⟨6,[(.cell 2 true 3)],(.seq (.reg [⟨(some 1),(.a (.box 25 (.t 0))),none,0⟩,
⟨(some 2),(.a (.alloc 25 [(.bool false),.nilsl,.nilsl])),none,0⟩])
(.seq (.reg [oq 3 (.ld true 3 (.t 1)),
oc 4 101 [(.t 3)] 0,
oc 5 50 [(.t 4)] 0,
⟨none,(.x (.st 3 (.t 2) (.t 5))),none,0⟩])
.ret))⟩
theorem row54 : Row Go.Proofs.Tryd.prog (54, a54) := ⟨Go.Proofs.Tryd.f54, Go.Proofs.Tryd.func54, by kernel_rfl⟩
noncomputable def a55 : AFn :=
⟨3,[(.cell 0 true 3)],(.seq (.reg [⟨(some 0),(.a (.alloc 25 [(.bool false),.nilsl,.nilsl])),none,0⟩])
(.seq (.reg [oc 1 66 [] 0,
oq 2 (.build [(.bool false),.nilsl,.nilsl] [(2,1,(.t 1))]),
⟨none,(.x (.st 3 (.t 0) (.t 2))),none,0⟩])
.ret))⟩
theorem row55 : Row Go.Proofs.Tryd.prog (55, a55) := ⟨Go.Proofs.Tryd.f55, Go.Proofs.Tryd.func55, by kernel_rfl⟩
noncomputable def a56 : AFn :=
⟨13,[(.t 4)],(.seq (.reg [⟨(some 2),(.a (.box 25 (.t 0))),none,0⟩,
⟨(some 3),(.a (.box 25 (.t 1))),none,0⟩,
oq 4 (.mv (ci 0))])
(.seq (.seq (.reg [oq 6 (.ld true 3 (.t 2)),
oc 7 32 [(.t 6)] 0,
mt 5 7])
(.seq (.reg [mt 8 5,
oq 9 (bi .neq (.t 8) (ci 0))])
(.cond (.t 9) (.seq (.reg [mt 10 5,
mt 4 10])
.ret) .skip)))
(.seq (.reg [oq 11 (.ld true 3 (.t 3)),
oc 12 32 [(.t 11)] 0,
mt 4 12])
.ret)))⟩
theorem row56 : Row Go.Proofs.Tryd.prog (56, a56) := ⟨Go.Proofs.Tryd.f56, Go.Proofs.Tryd.func56, by kernel_rfl⟩
noncomputable def a57 : AFn :=
⟨18,[(.t 4)],(.seq (.reg [⟨(some 2),(.a (.box 25 (.t 0))),none,0⟩,
⟨(some 3),(.a (.box 25 (.t 1))),none,0⟩,
oq 4 (.mv (ci 0))])
(.seq (.drw [oq 6 (.ld true 3 (.t 2)),
oq 7 (.ld true 3 (.t 3)),
oc 8 69 [(.t 7)] 2,
oc 9 68 [(.t 6),(.t 8)] 7,
⟨(some 5),(.a (.alloc 25 [(.bool false),.nilsl,.nilsl])),none,0⟩,
⟨none,(.x (.st 3 (.t 5) (.t 9))),none,31⟩])
(.seq (.block 0 (.seq (.reg [oq 11 (.faddr 1 (.t 5)),
oq 12 (ld 11),
oq 13 (.lenSl (.t 12)),
oq 14 (bi .eql (.t 13) (ci 0)),
mt 10 14])
(.cond (.t 10) (.seq (.reg [oq 4 (.mv (ci 0))])
.ret) (.seq (.reg [oq 16 (.faddr 0 (.t 5)),
oq 17 (ld 16),
mt 15 17])
(.cond (.t 15) (.seq (.reg [oq 4 (.mv (.c (.int .i64 (.negSucc 0))))])
.ret) .skip)))))
(.seq (.reg [oq 4 (.mv (ci 1))])
.ret))))⟩
theorem row57 : Row Go.Proofs.Tryd.prog (57, a57) := ⟨Go.Proofs.Tryd.f57, Go.Proofs.Tryd.func57, by kernel_rfl⟩
noncomputable def a58 : AFn :=
⟨32,[(.cell 2 true 3),(.t 3)],(.seq (.reg [⟨(some 1),(.a (.box 25 (.t 0))),none,0⟩,
⟨(some 2),(.a (.alloc 25 [(.bool false),.nilsl,.nilsl])),none,0⟩,
oq 3 (.mv (ci 0))])
(.seq (.reg [oq 9 (.faddr 1 (.t 1)),
oq 10 (ld 9),
oc 11 102 [(.t 10)] 0,
mt 8 11,
oq 12 (.extract (.t 8) 0),
oq 13 (.extract (.t 8) 1),
mt 4 12,
mt 5 13])
(.seq (.reg [oq 15 (.faddr 2 (.t 1)),
oq 16 (ld 15),
oc 17 102 [(.t 16)] 0,
mt 14 17,
oq 18 (.extract (.t 14) 0),
oq 19 (.extract (.t 14) 1),
mt 6 18,
mt 7 19])
(.seq (.seq (.reg [mt 20 5,
oq 21 (bi .neq (.t 20) (ci 0)),
mt 22 21,
og 23 22 false 0 (.mv (.t 7)),
og 24 22 false 0 (bi .neq (.t 23) (ci 0)),
oq 25 (.pick (.t 22) (.c (.bool true)) (.t 24))])
(.cond (.t 25) (.seq (.reg [oq 26 (.build [(.bool false),.nilsl,.nilsl] []),
⟨none,(.x (.st 3 (.t 2) (.t 26))),none,0⟩,
oq 3 (.mv (ci 5))])
.ret) .skip))
(.seq (.reg [oq 27 (.faddr 0 (.t 1)),
oq 28 (ld 27),
mt 29 4,
mt 30 6,
oq 31 (.build [(.bool false),.nilsl,.nilsl] [(0,1,(.t 28)),(1,1,(.t 29)),(2,1,(.t 30))]),
⟨none,(.x (.st 3 (.t 2) (.t 31))),none,0⟩,
oq 3 (.mv (ci 0))])
.ret)))))⟩
theorem row58 : Row Go.Proofs.Tryd.prog (58, a58) := ⟨Go.Proofs.Tryd.f58, Go.Proofs.Tryd.func58, by kernel_rfl⟩
end Go.Ev.Gl
