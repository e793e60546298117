import Derived.Test.YtoojnpjgnnpllaaProg
import Derived.Test.YtoojnpjgnnpllaaEv8
import Derived.KernelRfl
namespace Go.Ev.Gl
set_option maxRecDepth 100000
noncomputable def a37 : eJ :=
⟨70,[(.cell 8 true 3)],(.seq (.reg [⟨(some 8),(.a (.alloc 28 [(.int .i64 (.ofNat 0)),.nilsl,.nilsl])),none,0⟩])
(.seq (.reg [mt 11 0,
oq 12 (.build [.nilsl,(.int .i64 (.ofNat 0))] [(0,1,(.t 11))]),
⟨(some 13),(.a (.box 46 (.t 12))),none,0⟩,
mt 14 2,
mt 15 3,
oq 16 (.build [.nilp,.nilsl,.nilsl,(.int .i64 (.ofNat 0)),(.int .i64 (.ofNat 0)),(.bool false),(.bool false),(.int .i64 (.ofNat 0)),.nilsl,.nilsl] [(0,1,(.t 13)),(3,1,(.t 14)),(4,1,(ci 1)),(5,1,(.t 15))]),
⟨(some 17),(.a (.box 129 (.t 16))),none,0⟩,
mt 9 17])
(.seq (.reg [mt 18 9,
mt 19 1,
oq 20 (.nilchk (.t 18)),
oq 21 (.faddr 7 (.t 20)),
oq 22 (.faddr 0 (.t 21)),
⟨none,(.x (.st 1 (.t 22) (.t 19))),none,0⟩])
(.seq (.seq (.reg [mt 23 9,
oq 24 (.nilchk (.t 23)),
oq 25 (.faddr 0 (.t 24)),
oq 26 (ld 25),
oc 27 38 [(.t 26),(ci 5)] 0,
oq 28 (bi .add (ci 1) (.t 27)),
mt 10 28])
(.block 0 (.loop (.seq (.seq (.reg [mt 29 10,
oq 30 (bi .gtr (.t 29) (ci 0))])
(.cond (.t 30) .skip (.exit 0)))
(.seq (.block 1 (.drw [mt 33 9,
mt 34 9,
om 35 2 (.nilchk (.t 34)),
om 36 6 (.faddr 1 (.t 35)),
om 37 14 (ld 36),
mt 38 9,
om 39 32 (.nilchk (.t 38)),
om 40 96 (.faddr 0 (.t 39)),
om 41 224 (ld 40),
mt 42 1,
om 43 512 (bi .add (.t 42) (ci 1)),
oc 44 38 [(.t 41),(.t 43)] 2016,
om 45 4064 (bi .sub (.t 44) (ci 1)),
mt 46 9,
om 47 8192 (.nilchk (.t 46)),
om 48 24576 (.faddr 0 (.t 47)),
om 49 57344 (ld 48),
oc 50 38 [(.t 49),(ci 2)] 126944,
om 51 258016 (bi .add (ci 2) (.t 50)),
mt 52 9,
om 53 524288 (.nilchk (.t 52)),
om 54 1572864 (.faddr 0 (.t 53)),
om 55 3670016 (ld 54),
oc 56 38 [(.t 55),(ci 16)] 8122336,
om 57 16777184 (.build [(.int .i64 (.ofNat 0)),(.int .i64 (.ofNat 0)),(.int .i64 (.ofNat 0))] [(0,1,(.t 45)),(1,1,(.t 51)),(2,1,(.t 56))]),
⟨(some 58),(.a (.bslice 131 3 1 [(.int .i64 (.ofNat 0)),(.int .i64 (.ofNat 0)),(.int .i64 (.ofNat 0))] [(0,(.t 57))])),none,33554400⟩,
⟨(some 59),(.x (.app 131 3 24 (.t 37) (.t 58))),none,67108862⟩,
om 60 134217727 (.nilchk (.t 33)),
om 61 268435455 (.faddr 1 (.t 60)),
⟨none,(.x (.st 1 (.t 61) (.t 59))),none,536870911⟩]))
(.reg [mt 31 10,
oq 32 (bi .sub (.t 31) (ci 1)),
mt 10 32]))))))
(.seq (.reg [mt 62 9,
mt 63 1,
⟨(some 64),(.a (.mkSlice 22 1 24 [.nilsl] (.t 63) (.t 63))),none,0⟩,
oc 65 86 [(.t 62),(ci 0),(.t 64)] 0])
(.seq (.reg [mt 66 9,
oq 67 (.nilchk (.t 66)),
oq 68 (.faddr 7 (.t 67)),
oq 69 (.ld true 3 (.t 68)),
⟨none,(.x (.st 3 (.t 8) (.t 69))),none,0⟩])
.ret))))))⟩
theorem row37 : Row Go.Proofs.Try.prog (37, a37) := ⟨Go.Proofs.Try.f37, Go.Proofs.Try.func37, by kernel_rfl⟩
noncomputable def a38 : eJ :=
⟨39,[(.t 4)],(.seq (.reg [oq 4 (.mv (ci 0))])
(.seq (.seq (.drw [mt 5 0,
om 6 1 (.nilchk (.t 5)),
om 7 3 (.faddr 1 (.t 6)),
om 8 7 (ld 7),
mt 9 0,
om 10 16 (.nilchk (.t 9)),
om 11 48 (.faddr 0 (.t 10)),
om 12 112 (ld 11),
om 13 240 (.lenSl (.t 12)),
om 14 511 (bi .geq (.t 8) (.t 13)),
om 15 1023 (.mv (.t 14)),
og 16 15 false 2047 (.mv (.t 1)),
og 17 15 false 4095 (bi .lss (.t 16) (ci 1)),
om 18 8191 (.pick (.t 15) (.c (.bool true)) (.t 17))])
(.cond (.t 18) (.seq (.reg [oq 4 (.mv (ci 0))])
.ret) .skip))
(.seq (.reg [mt 19 0,
oq 20 (.nilchk (.t 19)),
oq 21 (.faddr 1 (.t 20)),
oq 22 (ld 21),
oq 23 (bi .add (.t 22) (ci 1)),
oq 24 (.nilchk (.t 19)),
oq 25 (.faddr 1 (.t 24)),
⟨none,(.x (.st 1 (.t 25) (.t 23))),none,0⟩])
(.seq (.drw [mt 26 0,
om 27 1 (.nilchk (.t 26)),
om 28 3 (.faddr 0 (.t 27)),
om 29 7 (ld 28),
mt 30 0,
om 31 16 (.nilchk (.t 30)),
om 32 48 (.faddr 1 (.t 31)),
om 33 112 (ld 32),
om 34 240 (bi .sub (.t 33) (ci 1)),
om 35 511 (.iaddr (.slice 1) (.t 29) (.t 34)),
om 36 1023 (ld 35),
mt 37 1,
oc 38 16 [(.t 36),(.t 37)] 4095,
om 4 8191 (.mv (.t 38))])
.ret))))⟩
theorem row38 : Row Go.Proofs.Try.prog (38, a38) := ⟨Go.Proofs.Try.f38, Go.Proofs.Try.func38, by kernel_rfl⟩
noncomputable def a41 : eJ :=
⟨47,[(.cell 2 true 3)],(.seq (.reg [⟨(some 1),(.a (.box 28 (.t 0))),none,0⟩,
⟨(some 2),(.a (.alloc 28 [(.int .i64 (.ofNat 0)),.nilsl,.nilsl])),none,0⟩])
(.seq (.drw [oq 6 (.faddr 0 (.t 1)),
om 7 1 (ld 6),
⟨(some 8),(.a (.bslice 48 2 0 [(.int .i64 (.ofNat 0)),(.int .i64 (.ofNat 0))] [])),none,0⟩,
oq 9 (.faddr 2 (.t 1)),
om 10 8 (ld 9),
⟨(some 11),(.x (.app 48 2 16 (.t 8) (.t 10))),none,28⟩,
om 12 63 (.build [(.int .i64 (.ofNat 0)),.nilsl,.nilsl] [(0,1,(.t 7)),(2,1,(.t 11))]),
⟨(some 3),(.a (.alloc 28 [(.int .i64 (.ofNat 0)),.nilsl,.nilsl])),none,0⟩,
⟨none,(.x (.st 3 (.t 3) (.t 12))),none,255⟩])
(.seq (.seq (.reg [oq 4 (.mv (ci 0))])
(.block 0 (.loop (.seq (.seq (.reg [mt 13 4,
oq 14 (.faddr 1 (.t 1)),
oq 15 (ld 14),
oq 16 (.lenSl (.t 15)),
oq 17 (bi .lss (.t 13) (.t 16))])
(.cond (.t 17) .skip (.exit 0)))
(.seq (.block 1 (.seq (.reg [oq 20 (.faddr 1 (.t 1)),
oq 21 (ld 20),
mt 22 4,
oq 23 (.iaddr (.slice 6) (.t 21) (.t 22)),
oq 24 (.ld true 6 (.t 23)),
⟨(some 5),(.a (.alloc 64 [(.int .i64 (.ofNat 0)),(.int .i64 (.ofNat 0)),(.int .i64 (.ofNat 0)),.nilsl,.nilsl,.nilsl])),none,0⟩,
⟨none,(.x (.st 6 (.t 5) (.t 24))),none,0⟩])
(.seq (.drw [⟨(some 25),(.a (.bslice 3 1 0 [(.int .i64 (.ofNat 0))] [])),none,0⟩,
oq 26 (.faddr 3 (.t 5)),
om 27 2 (ld 26),
⟨(some 28),(.x (.app 3 1 8 (.t 25) (.t 27))),none,7⟩,
⟨(some 29),(.a (.bslice 3 1 0 [(.int .i64 (.ofNat 0))] [])),none,0⟩,
oq 30 (.faddr 4 (.t 5)),
om 31 32 (ld 30),
⟨(some 32),(.x (.app 3 1 8 (.t 29) (.t 31))),none,127⟩,
⟨(some 33),(.a (.bslice 3 1 0 [(.int .i64 (.ofNat 0))] [])),none,0⟩,
oq 34 (.faddr 5 (.t 5)),
om 35 512 (ld 34),
⟨(some 36),(.x (.app 3 1 8 (.t 33) (.t 35))),none,2047⟩,
om 37 1647 (.faddr 3 (.t 5)),
⟨none,(.x (.st 1 (.t 37) (.t 28))),none,8191⟩,
om 38 16383 (.faddr 4 (.t 5)),
⟨none,(.x (.st 1 (.t 38) (.t 32))),none,32767⟩,
om 39 65535 (.faddr 5 (.t 5)),
⟨none,(.x (.st 1 (.t 39) (.t 36))),none,131071⟩])
(.reg [oq 40 (.faddr 1 (.t 3)),
oq 41 (ld 40),
oq 42 (.ld true 6 (.t 5)),
⟨(some 43),(.a (.bslice 64 6 1 [(.int .i64 (.ofNat 0)),(.int .i64 (.ofNat 0)),(.int .i64 (.ofNat 0)),.nilsl,.nilsl,.nilsl] [(0,(.t 42))])),none,0⟩,
⟨(some 44),(.x (.app 64 6 96 (.t 41) (.t 43))),none,0⟩,
oq 45 (.faddr 1 (.t 3)),
⟨none,(.x (.st 1 (.t 45) (.t 44))),none,0⟩]))))
(.reg [mt 18 4,
oq 19 (bi .add (.t 18) (ci 1)),
mt 4 19]))))))
(.seq (.reg [oq 46 (.ld true 3 (.t 3)),
⟨none,(.x (.st 3 (.t 2) (.t 46))),none,0⟩])
.ret))))⟩
theorem row41 : Row Go.Proofs.Try.prog (41, a41) := ⟨Go.Proofs.Try.f41, Go.Proofs.Try.func41, by kernel_rfl⟩
noncomputable def a63 : eJ :=
⟨94,[(.t 2),(.t 3)],(.seq (.reg [⟨(some 1),(.a (.box 28 (.t 0))),none,0⟩,
oq 2 (.mv (.c .nilsl)),
oq 3 (.mv (ci 0))])
(.seq (.reg [oq 16 (.ld true 3 (.t 1)),
oc 17 68 [(.t 16)] 0,
mt 15 17,
oq 18 (.extract (.t 15) 0),
oq 19 (.extract (.t 15) 1),
mt 4 18,
mt 5 19])
(.seq (.seq (.reg [mt 20 5,
oq 21 (bi .neq (.t 20) (ci 0))])
(.cond (.t 21) (.seq (.reg [mt 22 5,
oq 2 (.mv (.c .nilsl)),
mt 3 22])
.ret) .skip))
(.seq (.reg [oq 6 (.mv (.c .nilsl))])
(.seq (.seq (.reg [oq 23 (.faddr 1 (.t 1)),
oq 24 (ld 23),
oq 25 (.lenSl (.t 24)),
oq 26 (.mv (ci 0))])
(.block 0 (.loop (.seq (.reg [oq 27 (bi .lss (.t 26) (.t 25))])
(.seq (.cond (.t 27) .skip (.exit 0))
(.seq (.block 1 (.seq (.reg [oq 28 (.iaddr (.slice 6) (.t 24) (.t 26)),
oq 29 (.ld true 6 (.t 28)),
⟨(some 8),(.a (.alloc 64 [(.int .i64 (.ofNat 0)),(.int .i64 (.ofNat 0)),(.int .i64 (.ofNat 0)),.nilsl,.nilsl,.nilsl])),none,0⟩,
⟨none,(.x (.st 6 (.t 8) (.t 29))),none,0⟩])
(.seq (.seq (.reg [oq 30 (.faddr 0 (.t 8)),
oq 31 (ld 30),
oq 32 (bi .neq (.t 31) (ci 1))])
(.cond (.t 32) (.exit 1) .skip))
(.seq (.reg [oq 33 (.faddr 3 (.t 8)),
oq 34 (ld 33),
oq 35 (.lenSl (.t 34)),
oq 36 (.mv (ci 0))])
(.block 2 (.loop (.seq (.reg [oq 37 (bi .lss (.t 36) (.t 35))])
(.seq (.cond (.t 37) .skip (.exit 2))
(.seq (.block 3 (.seq (.reg [mt 38 36,
oq 39 (.iaddr (.slice 1) (.t 34) (.t 36)),
oq 40 (ld 39),
mt 9 38,
mt 10 40])
(.seq (.reg [mt 41 9,
oq 42 (bi .add (.t 41) (ci 1)),
mt 11 42])
(.block 4 (.loop (.seq (.seq (.reg [mt 43 11,
oq 44 (.faddr 3 (.t 8)),
oq 45 (ld 44),
oq 46 (.lenSl (.t 45)),
oq 47 (bi .lss (.t 43) (.t 46))])
(.cond (.t 47) .skip (.exit 4)))
(.seq (.block 5 (.seq (.seq (.drw [oq 50 (.faddr 4 (.t 8)),
om 51 1 (ld 50),
mt 52 9,
om 53 7 (.iaddr (.slice 1) (.t 51) (.t 52)),
om 54 15 (ld 53),
oq 55 (.faddr 4 (.t 8)),
om 56 32 (ld 55),
mt 57 11,
om 58 224 (.iaddr (.slice 1) (.t 56) (.t 57)),
om 59 480 (ld 58),
om 60 1023 (bi .neq (.t 54) (.t 59)),
om 61 2047 (.mv (.t 60)),
og 62 61 false 4095 (.mv (.t 4)),
og 63 61 false 4095 (.mv (.t 10)),
og 64 61 false 4095 (.faddr 3 (.t 8)),
og 65 61 false 20479 (ld 64),
og 66 61 false 4095 (.mv (.t 11)),
og 67 61 false 118783 (.iaddr (.slice 1) (.t 65) (.t 66)),
og 68 61 false 249855 (ld 67),
⟨(some 69),(.x (.call (.c (.fn 114 [] [])) [(.t 62),(.t 63),(.t 68)])),(some (61,false)),524287⟩,
og 70 61 false 1048575 (.un .not (.t 69)),
om 71 2097151 (.pick (.t 61) (.c (.bool true)) (.t 70))])
(.cond (.t 71) (.exit 5) .skip))
(.seq (.reg [mt 72 4,
mt 73 10,
oq 74 (.faddr 3 (.t 8)),
oq 75 (ld 74),
mt 76 11,
oq 77 (.iaddr (.slice 1) (.t 75) (.t 76)),
oq 78 (ld 77),
oc 79 115 [(.t 72),(.t 73),(.t 78)] 0,
mt 12 79])
(.seq (.reg [mt 81 4,
mt 82 12,
oc 83 116 [(.t 81),(.t 82)] 0,
mt 80 83,
oq 84 (.extract (.t 80) 0),
oq 85 (.extract (.t 80) 1),
⟨(some 13),(.a (.alloc 108 [.nilsl,.nilsl])),none,0⟩,
⟨none,(.x (.st 2 (.t 13) (.t 84))),none,0⟩,
mt 14 85])
(.seq (.reg [mt 86 14])
(.cond (.t 86) (.reg [mt 87 6,
mt 88 12,
⟨(some 89),(.a (.bslice 22 1 1 [.nilsl] [(0,(.t 88))])),none,0⟩,
⟨(some 90),(.x (.app 22 1 24 (.t 87) (.t 89))),none,0⟩,
mt 6 90]) .skip))))))
(.reg [mt 48 11,
oq 49 (bi .add (.t 48) (ci 1)),
mt 11 49]))))))))
(.reg [oq 91 (bi .add (.t 36) (ci 1)),
mt 36 91]))))))))))
(.reg [oq 92 (bi .add (.t 26) (ci 1)),
mt 26 92])))))))
(.seq (.reg [mt 93 6,
mt 2 93,
oq 3 (.mv (ci 0))])
.ret))))))⟩
theorem row63 : Row Go.Proofs.Try.prog (63, a63) := ⟨Go.Proofs.Try.f63, Go.Proofs.Try.func63, by kernel_rfl⟩
noncomputable def a67 : eJ :=
⟨133,[(.cell 12 true 3)],(.seq (.reg [⟨(some 12),(.a (.alloc 28 [(.int .i64 (.ofNat 0)),.nilsl,.nilsl])),none,0⟩])
(.seq (.reg [mt 22 0,
mt 23 1,
mt 24 2,
oq 25 (bi .sub (.t 24) (ci 1)),
mt 26 3,
oq 27 (bi .quo (.t 25) (.t 26)),
oq 28 (.minmax true [(ci 1),(.t 27)]),
mt 29 5,
oc 30 37 [(.t 22),(.t 23),(.t 28),(.t 29)] 0,
⟨(some 13),(.a (.alloc 28 [(.int .i64 (.ofNat 0)),.nilsl,.nilsl])),none,0⟩,
⟨none,(.x (.st 3 (.t 13) (.t 30))),none,0⟩])
(.seq (.drw [oq 31 (.faddr 1 (.t 13)),
om 32 1 (ld 31),
om 33 3 (.lenSl (.t 32)),
oq 34 (.faddr 2 (.t 13)),
om 35 8 (ld 34),
om 36 24 (.lenSl (.t 35)),
om 14 7 (.mv (.t 33)),
om 15 127 (.mv (.t 36))])
(.seq (.reg [mt 37 1,
oq 38 (.build [(.int .i64 (.ofNat 0)),(.int .i64 (.ofNat 0)),(.int .i64 (.ofNat 0)),.nilsl,.nilsl,.nilsl] [(0,1,(ci 1))]),
⟨(some 39),(.a (.bslice 64 6 1 [(.int .i64 (.ofNat 0)),(.int .i64 (.ofNat 0)),(.int .i64 (.ofNat 0)),.nilsl,.nilsl,.nilsl] [(0,(.t 38))])),none,0⟩,
oq 40 (.build [(.int .i64 (.ofNat 0)),.nilsl,.nilsl] [(0,1,(.t 37)),(1,1,(.t 39))]),
⟨(some 16),(.a (.alloc 28 [(.int .i64 (.ofNat 0)),.nilsl,.nilsl])),none,0⟩,
⟨none,(.x (.st 3 (.t 16) (.t 40))),none,0⟩])
(.seq (.seq (.reg [oq 17 (.mv (ci 0))])
(.block 0 (.loop (.seq (.seq (.reg [mt 41 17,
mt 42 3,
oq 43 (bi .lss (.t 41) (.t 42))])
(.cond (.t 43) .skip (.exit 0)))
(.seq (.block 1 (.seq (.reg [mt 46 17,
mt 47 14,
oq 48 (bi .mul (.t 46) (.t 47)),
oq 49 (bi .add (ci 1) (.t 48)),
mt 18 49])
(.seq (.drw [oq 50 (.faddr 1 (.t 16)),
om 51 1 (ld 50),
oq 52 (.faddr 1 (.t 16)),
om 53 4 (ld 52),
oq 54 (.faddr 1 (.t 16)),
om 55 16 (ld 54),
om 56 48 (.iaddr (.slice 6) (.t 55) (ci 0)),
om 57 112 (.faddr 3 (.t 56)),
om 58 240 (ld 57),
mt 59 18,
⟨(some 60),(.a (.bslice 3 1 1 [(.int .i64 (.ofNat 0))] [(0,(.t 59))])),none,512⟩,
⟨(some 61),(.x (.app 3 1 8 (.t 58) (.t 60))),none,2032⟩,
oq 62 (.faddr 1 (.t 16)),
om 63 4096 (ld 62),
om 64 12288 (.iaddr (.slice 6) (.t 63) (ci 0)),
om 65 28672 (.faddr 4 (.t 64)),
om 66 61440 (ld 65),
⟨(some 67),(.a (.bslice 3 1 1 [(.int .i64 (.ofNat 0))] [(0,(ci 1))])),none,0⟩,
⟨(some 68),(.x (.app 3 1 8 (.t 66) (.t 67))),none,262128⟩,
om 69 524275 (.iaddr (.slice 6) (.t 51) (ci 0)),
om 70 1048563 (.faddr 3 (.t 69)),
⟨none,(.x (.st 1 (.t 70) (.t 61))),none,2097139⟩,
om 71 4194303 (.iaddr (.slice 6) (.t 53) (ci 0)),
om 72 8388607 (.faddr 4 (.t 71)),
⟨none,(.x (.st 1 (.t 72) (.t 68))),none,16777215⟩])
(.seq (.seq (.reg [mt 73 17,
oq 74 (bi .eql (.t 73) (ci 0)),
mt 75 74,
og 76 75 false 0 (.mv (.t 4)),
oq 77 (.pick (.t 75) (.c (.bool true)) (.t 76))])
(.cond (.t 77) (.reg [oq 78 (.faddr 2 (.t 16)),
oq 79 (ld 78),
oq 80 (.faddr 2 (.t 13)),
oq 81 (ld 80),
⟨(some 82),(.x (.app 48 2 16 (.t 79) (.t 81))),none,0⟩,
oq 83 (.faddr 2 (.t 16)),
⟨none,(.x (.st 1 (.t 83) (.t 82))),none,0⟩]) .skip))
(.seq (.reg [oq 19 (.mv (ci 0))])
(.block 2 (.loop (.seq (.seq (.reg [mt 84 19,
mt 85 14,
oq 86 (bi .lss (.t 84) (.t 85))])
(.cond (.t 86) .skip (.exit 2)))
(.seq (.block 3 (.seq (.reg [oq 89 (.ld true 3 (.t 13)),
oc 90 41 [(.t 89)] 0,
oq 91 (.fld false 1 1 (.t 90)),
mt 92 19,
oq 93 (.iaddr (.slice 6) (.t 91) (.t 92)),
oq 94 (.ld true 6 (.t 93)),
⟨(some 20),(.a (.alloc 64 [(.int .i64 (.ofNat 0)),(.int .i64 (.ofNat 0)),(.int .i64 (.ofNat 0)),.nilsl,.nilsl,.nilsl])),none,0⟩,
⟨none,(.x (.st 6 (.t 20) (.t 94))),none,0⟩])
(.seq (.seq (.reg [oq 21 (.mv (ci 0))])
(.block 4 (.loop (.seq (.seq (.reg [mt 95 21,
oq 96 (.faddr 3 (.t 20)),
oq 97 (ld 96),
oq 98 (.lenSl (.t 97)),
oq 99 (bi .lss (.t 95) (.t 98))])
(.cond (.t 99) .skip (.exit 4)))
(.seq (.block 5 (.drw [oq 102 (.faddr 3 (.t 20)),
om 103 1 (ld 102),
mt 104 21,
oq 105 (.faddr 3 (.t 20)),
om 106 8 (ld 105),
mt 107 21,
om 108 56 (.iaddr (.slice 1) (.t 106) (.t 107)),
om 109 120 (ld 108),
mt 110 18,
om 111 504 (bi .add (.t 109) (.t 110)),
om 112 1023 (.iaddr (.slice 1) (.t 103) (.t 104)),
⟨none,(.x (.st 1 (.t 112) (.t 111))),none,2047⟩]))
(.reg [mt 100 21,
oq 101 (bi .add (.t 100) (ci 1)),
mt 21 101]))))))
(.seq (.seq (.reg [oq 113 (.faddr 0 (.t 20)),
oq 114 (ld 113),
oq 115 (bi .eql (.t 114) (ci 2)),
mt 116 115,
og 117 116 true 0 (.mv (.t 4)),
oq 118 (.pick (.t 116) (.t 117) (.c (.bool false)))])
(.cond (.t 118) (.reg [oq 119 (.faddr 2 (.t 20)),
oq 120 (ld 119),
mt 121 17,
mt 122 15,
oq 123 (bi .mul (.t 121) (.t 122)),
oq 124 (bi .add (.t 120) (.t 123)),
oq 125 (.faddr 2 (.t 20)),
⟨none,(.x (.st 1 (.t 125) (.t 124))),none,0⟩]) .skip))
(.reg [oq 126 (.faddr 1 (.t 16)),
oq 127 (ld 126),
oq 128 (.ld true 6 (.t 20)),
⟨(some 129),(.a (.bslice 64 6 1 [(.int .i64 (.ofNat 0)),(.int .i64 (.ofNat 0)),(.int .i64 (.ofNat 0)),.nilsl,.nilsl,.nilsl] [(0,(.t 128))])),none,0⟩,
⟨(some 130),(.x (.app 64 6 96 (.t 127) (.t 129))),none,0⟩,
oq 131 (.faddr 1 (.t 16)),
⟨none,(.x (.st 1 (.t 131) (.t 130))),none,0⟩])))))
(.reg [mt 87 19,
oq 88 (bi .add (.t 87) (ci 1)),
mt 19 88]))))))))))
(.reg [mt 44 17,
oq 45 (bi .add (.t 44) (ci 1)),
mt 17 45]))))))
(.seq (.reg [oq 132 (.ld true 3 (.t 16)),
⟨none,(.x (.st 3 (.t 12) (.t 132))),none,0⟩])
.ret))))))⟩
theorem row67 : Row Go.Proofs.Try.prog (67, a67) := ⟨Go.Proofs.Try.f67, Go.Proofs.Try.func67, by kernel_rfl⟩
noncomputable def a68 : eJ :=
⟨87,[(.t 2),(.t 3)],(.seq (.reg [⟨(some 1),(.a (.box 28 (.t 0))),none,0⟩,
oq 2 (.mv (.c .nilp)),
oq 3 (.mv (ci 0))])
(.seq (.reg [oq 12 (.ld true 3 (.t 1)),
oc 13 119 [(.t 12)] 0,
mt 11 13,
oq 14 (.extract (.t 11) 0),
oq 15 (.extract (.t 11) 1),
mt 4 14,
mt 5 15])
(.seq (.seq (.reg [mt 16 5,
oq 17 (bi .neq (.t 16) (ci 0))])
(.cond (.t 17) (.seq (.reg [mt 18 5,
oq 2 (.mv (.c .nilp)),
mt 3 18])
.ret) .skip))
(.seq (.reg [oq 19 (.faddr 1 (.t 1)),
oq 20 (ld 19),
oq 21 (.lenSl (.t 20)),
mt 6 21])
(.seq (.drw [oq 22 (.ld true 3 (.t 1)),
mt 23 4,
mt 24 6,
⟨(some 25),(.a (.mkSlice 3 1 8 [(.int .i64 (.ofNat 0))] (.t 24) (.t 24))),none,4⟩,
mt 26 6,
⟨(some 27),(.a (.mkSlice 3 1 8 [(.int .i64 (.ofNat 0))] (.t 26) (.t 26))),none,16⟩,
om 28 63 (.build [(.int .i64 (.ofNat 0)),.nilsl,.nilsl,.nilsl,.nilsl,.nilsl] [(0,3,(.t 22)),(3,1,(.t 23)),(4,1,(.t 25)),(5,1,(.t 27))]),
⟨(some 29),(.a (.box 174 (.t 28))),none,127⟩,
om 7 255 (.mv (.t 29))])
(.seq (.seq (.reg [mt 30 6,
oq 31 (bi .sub (.t 30) (ci 1)),
mt 8 31])
(.block 0 (.loop (.seq (.seq (.reg [mt 32 8,
oq 33 (bi .geq (.t 32) (ci 0))])
(.cond (.t 33) .skip (.exit 0)))
(.seq (.block 1 (.seq (.reg [mt 36 7,
oq 37 (.nilchk (.t 36)),
oq 38 (.faddr 5 (.t 37)),
oq 39 (ld 38),
mt 40 8,
oq 41 (.iaddr (.slice 1) (.t 39) (.t 40)),
oq 42 (ld 41),
oq 43 (bi .add (.t 42) (ci 1)),
oq 44 (.iaddr (.slice 1) (.t 39) (.t 40)),
⟨none,(.x (.st 1 (.t 44) (.t 43))),none,0⟩])
(.seq (.seq (.reg [mt 45 8,
oq 46 (bi .gtr (.t 45) (ci 0))])
(.cond (.t 46) (.drw [mt 47 7,
om 48 1 (.nilchk (.t 47)),
om 49 3 (.faddr 5 (.t 48)),
om 50 7 (ld 49),
mt 51 4,
mt 52 8,
om 53 48 (.iaddr (.slice 1) (.t 51) (.t 52)),
om 54 112 (ld 53),
om 55 255 (.iaddr (.slice 1) (.t 50) (.t 54)),
om 56 511 (ld 55),
mt 57 7,
om 58 1024 (.nilchk (.t 57)),
om 59 3072 (.faddr 5 (.t 58)),
om 60 7168 (ld 59),
mt 61 8,
om 62 31744 (.iaddr (.slice 1) (.t 60) (.t 61)),
om 63 64512 (ld 62),
om 64 131071 (bi .add (.t 56) (.t 63)),
om 65 262143 (.iaddr (.slice 1) (.t 50) (.t 54)),
⟨none,(.x (.st 1 (.t 65) (.t 64))),none,524287⟩]) .skip))
(.seq (.reg [oq 66 (.faddr 1 (.t 1)),
oq 67 (ld 66),
mt 68 8,
oq 69 (.iaddr (.slice 6) (.t 67) (.t 68)),
oq 70 (.faddr 3 (.t 69)),
oq 71 (ld 70),
oq 72 (.lenSl (.t 71)),
oq 73 (.mv (ci 0))])
(.block 2 (.loop (.seq (.reg [oq 74 (bi .lss (.t 73) (.t 72))])
(.seq (.cond (.t 74) .skip (.exit 2))
(.seq (.block 3 (.seq (.reg [mt 75 73,
oq 76 (.iaddr (.slice 1) (.t 71) (.t 73)),
oq 77 (ld 76),
mt 9 75,
mt 10 77])
(.reg [mt 78 7,
oq 79 (.nilchk (.t 78)),
oq 80 (.faddr 4 (.t 79)),
oq 81 (ld 80),
mt 82 10,
mt 83 9,
oq 84 (.iaddr (.slice 1) (.t 81) (.t 82)),
⟨none,(.x (.st 1 (.t 84) (.t 83))),none,0⟩])))
(.reg [oq 85 (bi .add (.t 73) (ci 1)),
mt 73 85]))))))))))
(.reg [mt 34 8,
oq 35 (bi .sub (.t 34) (ci 1)),
mt 8 35]))))))
(.seq (.reg [mt 86 7,
mt 2 86,
oq 3 (.mv (ci 0))])
.ret)))))))⟩
theorem row68 : Row Go.Proofs.Try.prog (68, a68) := ⟨Go.Proofs.Try.f68, Go.Proofs.Try.func68, by kernel_rfl⟩
noncomputable def a69 : eJ :=
⟨66,[(.cell 4 true 2),(.t 5)],(.seq (.reg [⟨(some 4),(.a (.alloc 108 [.nilsl,.nilsl])),none,0⟩,
oq 5 (.mv (ci 0))])
(.seq (.reg [mt 14 0,
oq 15 (.nilchk (.t 14)),
oq 16 (.faddr 0 (.t 15)),
oq 17 (.faddr 1 (.t 16)),
oq 18 (ld 17),
oq 19 (.lenSl (.t 18)),
mt 6 19])
(.seq (.seq (.reg [mt 20 1,
oq 21 (.lenSl (.t 20)),
mt 22 6,
oq 23 (bi .neq (.t 21) (.t 22))])
(.cond (.t 23) (.seq (.reg [oq 24 (.build [.nilsl,.nilsl] []),
⟨none,(.x (.st 2 (.t 4) (.t 24))),none,0⟩,
oq 5 (.mv (ci 10))])
.ret) .skip))
(.seq (.seq (.reg [mt 25 1,
oq 26 (.lenSl (.t 25)),
oq 27 (.mv (ci 0))])
(.block 0 (.loop (.seq (.reg [oq 28 (bi .lss (.t 27) (.t 26))])
(.seq (.cond (.t 28) .skip (.exit 0))
(.seq (.block 1 (.seq (.reg [oq 29 (.iaddr (.slice 1) (.t 25) (.t 27)),
oq 30 (ld 29),
mt 8 30])
(.seq (.reg [mt 31 8,
oq 32 (bi .lss (.t 31) (ci 0)),
mt 33 32,
og 34 33 false 0 (.mv (.t 8)),
og 35 33 false 0 (.mv (.t 6)),
og 36 33 false 0 (bi .geq (.t 34) (.t 35)),
oq 37 (.pick (.t 33) (.c (.bool true)) (.t 36))])
(.cond (.t 37) (.seq (.reg [oq 38 (.build [.nilsl,.nilsl] []),
⟨none,(.x (.st 2 (.t 4) (.t 38))),none,0⟩,
oq 5 (.mv (ci 2))])
.ret) .skip))))
(.reg [oq 39 (bi .add (.t 27) (ci 1)),
mt 27 39])))))))
(.seq (.reg [mt 40 6,
⟨(some 41),(.a (.mkSlice 4 1 1 [(.bool false)] (.t 40) (.t 40))),none,0⟩,
mt 9 41])
(.seq (.seq (.reg [mt 42 1,
oq 43 (.lenSl (.t 42)),
oq 44 (.mv (ci 0))])
(.block 2 (.loop (.seq (.reg [oq 45 (bi .lss (.t 44) (.t 43))])
(.seq (.cond (.t 45) .skip (.exit 2))
(.seq (.block 3 (.seq (.reg [oq 46 (.iaddr (.slice 1) (.t 42) (.t 44)),
oq 47 (ld 46),
mt 11 47])
(.seq (.seq (.reg [mt 48 9,
mt 49 11,
oq 50 (.iaddr (.slice 1) (.t 48) (.t 49)),
oq 51 (ld 50)])
(.cond (.t 51) (.seq (.reg [oq 52 (.build [.nilsl,.nilsl] []),
⟨none,(.x (.st 2 (.t 4) (.t 52))),none,0⟩,
oq 5 (.mv (ci 8))])
.ret) .skip))
(.reg [mt 53 9,
mt 54 11,
oq 55 (.iaddr (.slice 1) (.t 53) (.t 54)),
⟨none,(.x (.st 1 (.t 55) (.c (.bool true)))),none,0⟩]))))
(.reg [oq 56 (bi .add (.t 44) (ci 1)),
mt 44 56])))))))
(.seq (.seq (.reg [mt 58 0,
mt 59 1,
oc 60 116 [(.t 58),(.t 59)] 0,
mt 57 60,
oq 61 (.extract (.t 57) 0),
oq 62 (.extract (.t 57) 1),
⟨(some 12),(.a (.alloc 108 [.nilsl,.nilsl])),none,0⟩,
⟨none,(.x (.st 2 (.t 12) (.t 61))),none,0⟩,
mt 13 62])
(.seq (.reg [mt 63 13])
(.cond (.t 63) (.seq (.reg [oq 64 (.ld true 2 (.t 12)),
⟨none,(.x (.st 2 (.t 4) (.t 64))),none,0⟩,
oq 5 (.mv (ci 0))])
.ret) .skip)))
(.seq (.reg [oq 65 (.build [.nilsl,.nilsl] []),
⟨none,(.x (.st 2 (.t 4) (.t 65))),none,0⟩,
oq 5 (.mv (ci 3))])
.ret))))))))⟩
theorem row69 : Row Go.Proofs.Try.prog (69, a69) := ⟨Go.Proofs.Try.f69, Go.Proofs.Try.func69, by kernel_rfl⟩
noncomputable def a70 : eJ :=
⟨27,[(.t 4)],(.seq (.reg [oq 4 (.mv (.c .nilsl))])
(.seq (.reg [mt 8 0,
oq 9 (.lenSl (.t 8)),
⟨(some 10),(.a (.mkSlice 3 1 8 [(.int .i64 (.ofNat 0))] (.t 9) (.t 9))),none,0⟩,
mt 5 10])
(.seq (.seq (.reg [mt 11 0,
oq 12 (.lenSl (.t 11)),
oq 13 (.mv (ci 0))])
(.block 0 (.loop (.seq (.reg [oq 14 (bi .lss (.t 13) (.t 12))])
(.seq (.cond (.t 14) .skip (.exit 0))
(.seq (.block 1 (.seq (.reg [mt 15 13,
oq 16 (.iaddr (.slice 1) (.t 11) (.t 13)),
oq 17 (ld 16),
mt 6 15,
mt 7 17])
(.reg [mt 18 5,
mt 19 6,
mt 20 1,
mt 21 7,
oq 22 (.iaddr (.slice 1) (.t 20) (.t 21)),
oq 23 (ld 22),
oq 24 (.iaddr (.slice 1) (.t 18) (.t 19)),
⟨none,(.x (.st 1 (.t 24) (.t 23))),none,0⟩])))
(.reg [oq 25 (bi .add (.t 13) (ci 1)),
mt 13 25])))))))
(.seq (.reg [mt 26 5,
mt 4 26])
.ret))))⟩
theorem row70 : Row Go.Proofs.Try.prog (70, a70) := ⟨Go.Proofs.Try.f70, Go.Proofs.Try.func70, by kernel_rfl⟩
noncomputable def a71 : eJ :=
⟨15,[(.t 4)],(.seq (.reg [oq 4 (.mv (ci 0))])
(.seq (.block 0 (.loop (.seq (.seq (.reg [mt 5 1,
oq 6 (bi .neq (.t 5) (ci 0))])
(.cond (.t 6) .skip (.exit 0)))
(.block 1 (.drw [mt 7 1,
mt 8 0,
mt 9 1,
om 10 6 (bi .rem (.t 8) (.t 9)),
om 0 3 (.mv (.t 7)),
om 1 31 (.mv (.t 10))])))))
(.seq (.reg [mt 11 0,
mt 12 0,
oq 13 (.un .neg (.t 12)),
oq 14 (.minmax true [(.t 11),(.t 13)]),
mt 4 14])
.ret)))⟩
theorem row71 : Row Go.Proofs.Try.prog (71, a71) := ⟨Go.Proofs.Try.f71, Go.Proofs.Try.func71, by kernel_rfl⟩
noncomputable def a86 : eJ :=
⟨204,[(.t 6)],(.seq (.reg [oq 6 (.mv (ci 0))])
(.seq (.reg [mt 16 0,
oq 17 (.nilchk (.t 16)),
oq 18 (.faddr 7 (.t 17)),
oq 19 (.faddr 1 (.t 18)),
oq 20 (ld 19),
oq 21 (.lenSl (.t 20)),
mt 7 21])
(.seq (.reg [mt 22 0,
oq 23 (.nilchk (.t 22)),
oq 24 (.faddr 4 (.t 23)),
oq 25 (ld 24),
oq 26 (bi .sub (.t 25) (ci 1)),
oq 27 (.nilchk (.t 22)),
oq 28 (.faddr 4 (.t 27)),
⟨none,(.x (.st 1 (.t 28) (.t 26))),none,0⟩])
(.seq (.reg [mt 29 0,
mt 30 0,
oq 31 (.nilchk (.t 30)),
oq 32 (.faddr 7 (.t 31)),
oq 33 (.faddr 1 (.t 32)),
oq 34 (ld 33),
oq 35 (.build [(.int .i64 (.ofNat 0)),(.int .i64 (.ofNat 0)),(.int .i64 (.ofNat 0)),.nilsl,.nilsl,.nilsl] []),
⟨(some 36),(.a (.bslice 64 6 1 [(.int .i64 (.ofNat 0)),(.int .i64 (.ofNat 0)),(.int .i64 (.ofNat 0)),.nilsl,.nilsl,.nilsl] [(0,(.t 35))])),none,0⟩,
⟨(some 37),(.x (.app 64 6 96 (.t 34) (.t 36))),none,0⟩,
oq 38 (.nilchk (.t 29)),
oq 39 (.faddr 7 (.t 38)),
oq 40 (.faddr 1 (.t 39)),
⟨none,(.x (.st 1 (.t 40) (.t 37))),none,0⟩])
(.seq (.seq (.reg [mt 41 1,
mt 42 0,
oq 43 (.nilchk (.t 42)),
oq 44 (.faddr 1 (.t 43)),
oq 45 (ld 44),
oq 46 (.lenSl (.t 45)),
oq 47 (bi .eql (.t 41) (.t 46)),
mt 48 47,
og 49 48 false 0 (.mv (.t 0)),
og 50 48 false 0 (.nilchk (.t 49)),
og 51 48 false 0 (.faddr 0 (.t 50)),
og 52 48 false 0 (ld 51),
⟨(some 53),(.x (.call (.c (.fn 38 [] [])) [(.t 52),(ci 8)])),(some (48,false)),0⟩,
og 54 48 false 0 (bi .eql (.t 53) (ci 1)),
oq 55 (.pick (.t 48) (.c (.bool true)) (.t 54))])
(.cond (.t 55) (.seq (.reg [mt 56 0,
mt 57 7,
oc 58 128 [(.t 56),(.t 57)] 0])
(.seq (.reg [mt 59 7,
mt 6 59])
.ret)) .skip))
(.seq (.reg [mt 60 0,
oq 61 (.nilchk (.t 60)),
oq 62 (.faddr 1 (.t 61)),
oq 63 (ld 62),
mt 64 1,
oq 65 (.iaddr (.slice 3) (.t 63) (.t 64)),
oq 66 (.ld true 3 (.t 65)),
⟨(some 8),(.a (.alloc 131 [(.int .i64 (.ofNat 0)),(.int .i64 (.ofNat 0)),(.int .i64 (.ofNat 0))])),none,0⟩,
⟨none,(.x (.st 3 (.t 8) (.t 66))),none,0⟩])
(.seq (.reg [oq 67 (.faddr 1 (.t 8)),
oq 68 (ld 67),
mt 9 68,
oq 10 (.mv (ci 0))])
(.seq (.seq (.reg [oq 69 (.faddr 0 (.t 8)),
oq 70 (ld 69),
oq 71 (bi .geq (.t 70) (ci 0))])
(.cond (.t 71) (.seq (.drw [mt 72 0,
oq 73 (.faddr 0 (.t 8)),
om 74 2 (ld 73),
mt 75 1,
mt 76 2,
oq 77 (.faddr 0 (.t 8)),
om 78 32 (ld 77),
om 79 112 (.iaddr (.slice 1) (.t 76) (.t 78)),
om 80 240 (ld 79),
oc 81 129 [(.t 72),(.t 74),(.t 75),(.t 80)] 511,
om 10 1023 (.mv (.t 81))])
(.reg [mt 82 0,
oq 83 (.nilchk (.t 82)),
oq 84 (.faddr 7 (.t 83)),
oq 85 (.faddr 2 (.t 84)),
oq 86 (ld 85),
mt 87 10,
oq 88 (.iaddr (.slice 2) (.t 86) (.t 87)),
oq 89 (.faddr 1 (.t 88)),
oq 90 (ld 89),
mt 9 90])) .skip))
(.seq (.seq (.drw [mt 91 7,
om 92 1 (bi .add (.t 91) (ci 1)),
mt 93 0,
om 94 4 (.nilchk (.t 93)),
om 95 12 (.faddr 4 (.t 94)),
om 96 28 (ld 95),
om 97 63 (bi .add (.t 92) (.t 96)),
mt 98 9,
om 99 255 (bi .add (.t 97) (.t 98)),
mt 100 0,
om 101 512 (.nilchk (.t 100)),
om 102 1536 (.faddr 3 (.t 101)),
om 103 3584 (ld 102),
om 104 8191 (bi .gtr (.t 99) (.t 103))])
(.cond (.t 104) (.seq (.reg [mt 105 0,
mt 106 10,
oq 107 (.faddr 0 (.t 8)),
oq 108 (ld 107),
oc 109 130 [(.t 105),(.t 106),(.t 108)] 0])
(.seq (.reg [mt 110 0,
mt 111 7,
oc 112 128 [(.t 110),(.t 111)] 0])
(.seq (.reg [mt 113 7,
mt 6 113])
.ret))) .skip))
(.seq (.reg [mt 114 0,
mt 115 0,
oq 116 (.nilchk (.t 115)),
oq 117 (.faddr 4 (.t 116)),
oq 118 (ld 117),
mt 119 9,
oq 120 (bi .add (.t 118) (.t 119)),
oq 121 (.nilchk (.t 114)),
oq 122 (.faddr 4 (.t 121)),
⟨none,(.x (.st 1 (.t 122) (.t 120))),none,0⟩])
(.seq (.reg [oq 123 (.build [(.int .i64 (.ofNat 0)),(.int .i64 (.ofNat 0)),(.int .i64 (.ofNat 0)),.nilsl,.nilsl,.nilsl] [(0,1,(ci 1))]),
⟨(some 11),(.a (.alloc 64 [(.int .i64 (.ofNat 0)),(.int .i64 (.ofNat 0)),(.int .i64 (.ofNat 0)),.nilsl,.nilsl,.nilsl])),none,0⟩,
⟨none,(.x (.st 6 (.t 11) (.t 123))),none,0⟩])
(.seq (.seq (.reg [oq 124 (.faddr 0 (.t 8)),
oq 125 (ld 124),
oq 126 (bi .geq (.t 125) (ci 0))])
(.cond (.t 126) (.reg [oq 127 (.faddr 0 (.t 8)),
oq 128 (ld 127),
mt 129 10,
oq 130 (.build [(.int .i64 (.ofNat 0)),(.int .i64 (.ofNat 0)),(.int .i64 (.ofNat 0)),.nilsl,.nilsl,.nilsl] [(0,1,(ci 2)),(1,1,(.t 128)),(2,1,(.t 129))]),
⟨none,(.x (.st 6 (.t 11) (.t 130))),none,0⟩]) .skip))
(.seq (.seq (.reg [oq 12 (.mv (ci 0))])
(.block 0 (.loop (.seq (.seq (.reg [mt 131 12,
mt 132 9,
oq 133 (bi .lss (.t 131) (.t 132))])
(.cond (.t 133) .skip (.exit 0)))
(.seq (.block 1 (.seq (.seq (.reg [oq 136 (.faddr 0 (.t 8)),
oq 137 (ld 136),
oq 138 (bi .lss (.t 137) (ci 0))])
(.cond (.t 138) (.drw [oq 139 (.faddr 4 (.t 11)),
om 140 1 (ld 139),
mt 141 0,
om 142 4 (.nilchk (.t 141)),
om 143 12 (.faddr 0 (.t 142)),
om 144 28 (ld 143),
oc 145 38 [(.t 144),(ci 3)] 60,
om 146 124 (bi .add (ci 1) (.t 145)),
⟨(some 147),(.a (.bslice 3 1 1 [(.int .i64 (.ofNat 0))] [(0,(.t 146))])),none,252⟩,
⟨(some 148),(.x (.app 3 1 8 (.t 140) (.t 147))),none,511⟩,
om 149 1023 (.faddr 4 (.t 11)),
⟨none,(.x (.st 1 (.t 149) (.t 148))),none,2047⟩]) .skip))
(.seq (.reg [oq 13 (.mv (.c .nilsl))])
(.seq (.seq (.reg [oq 14 (.mv (ci 0))])
(.block 2 (.loop (.seq (.seq (.reg [mt 150 14,
mt 151 2,
oq 152 (.lenSl (.t 151)),
oq 153 (bi .lss (.t 150) (.t 152))])
(.cond (.t 153) .skip (.exit 2)))
(.seq (.block 3 (.seq (.reg [⟨(some 156),(.a (.bslice 3 1 0 [(.int .i64 (.ofNat 0))] [])),none,0⟩,
mt 157 2,
mt 158 14,
oq 159 (.iaddr (.slice 1) (.t 157) (.t 158)),
oq 160 (ld 159),
⟨(some 161),(.x (.app 3 1 8 (.t 156) (.t 160))),none,0⟩,
mt 15 161])
(.seq (.seq (.reg [mt 162 14,
oq 163 (.faddr 0 (.t 8)),
oq 164 (ld 163),
oq 165 (bi .eql (.t 162) (.t 164)),
mt 166 165,
og 167 166 false 0 (.faddr 2 (.t 8)),
og 168 166 false 0 (ld 167),
og 169 166 false 0 (.mv (.t 14)),
og 170 166 false 0 (bi .shr (.t 168) (.t 169)),
og 171 166 false 0 (bi .and (.t 170) (ci 1)),
og 172 166 false 0 (bi .eql (.t 171) (ci 1)),
oq 173 (.pick (.t 166) (.c (.bool true)) (.t 172))])
(.cond (.t 173) (.reg [mt 174 15,
mt 175 12,
⟨(some 176),(.a (.bslice 3 1 1 [(.int .i64 (.ofNat 0))] [(0,(.t 175))])),none,0⟩,
⟨(some 177),(.x (.app 3 1 8 (.t 174) (.t 176))),none,0⟩,
mt 15 177]) (.reg [mt 178 15,
⟨(some 179),(.a (.bslice 3 1 1 [(.int .i64 (.ofNat 0))] [(0,(.c (.int .i64 (.negSucc 0))))])),none,0⟩,
⟨(some 180),(.x (.app 3 1 8 (.t 178) (.t 179))),none,0⟩,
mt 15 180])))
(.reg [mt 181 13,
mt 182 15,
⟨(some 183),(.a (.bslice 22 1 1 [.nilsl] [(0,(.t 182))])),none,0⟩,
⟨(some 184),(.x (.app 22 1 24 (.t 181) (.t 183))),none,0⟩,
mt 13 184]))))
(.reg [mt 154 14,
oq 155 (bi .add (.t 154) (ci 1)),
mt 14 155]))))))
(.drw [oq 185 (.faddr 3 (.t 11)),
om 186 1 (ld 185),
mt 187 0,
mt 188 1,
om 189 8 (bi .add (.t 188) (ci 1)),
mt 190 13,
oc 191 86 [(.t 187),(.t 189),(.t 190)] 60,
⟨(some 192),(.a (.bslice 3 1 1 [(.int .i64 (.ofNat 0))] [(0,(.t 191))])),none,124⟩,
⟨(some 193),(.x (.app 3 1 8 (.t 186) (.t 192))),none,255⟩,
om 194 511 (.faddr 3 (.t 11)),
⟨none,(.x (.st 1 (.t 194) (.t 193))),none,1023⟩])))))
(.reg [mt 134 12,
oq 135 (bi .add (.t 134) (ci 1)),
mt 12 135]))))))
(.seq (.drw [mt 195 0,
om 196 1 (.nilchk (.t 195)),
om 197 3 (.faddr 7 (.t 196)),
om 198 7 (.faddr 1 (.t 197)),
om 199 15 (ld 198),
mt 200 7,
oq 201 (.ld true 6 (.t 11)),
om 202 127 (.iaddr (.slice 6) (.t 199) (.t 200)),
⟨none,(.x (.st 6 (.t 202) (.t 201))),none,255⟩])
(.seq (.reg [mt 203 7,
mt 6 203])
.ret)))))))))))))))⟩
theorem row86 : Row Go.Proofs.Try.prog (86, a86) := ⟨Go.Proofs.Try.f86, Go.Proofs.Try.func86, by kernel_rfl⟩
end Go.Ev.Gl
