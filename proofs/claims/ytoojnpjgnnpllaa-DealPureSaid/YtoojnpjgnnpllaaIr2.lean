/- Functions of the program as data of the evaluator, written by program; each is shown to be the compiler's result on the loaded function. -/
import Derived.Test.YtoojnpjgnnpllaaProg
import Derived.Test.YtoojnpjgnnpllaaEv8
import Derived.KernelRfl
namespace Go.Ev.Gl
set_option maxRecDepth 100000
noncomputable def a129 : AFn :=
⟨90,[(.t 8)],(.seq (.reg [oq 8 (.mv (ci 0))])
(.seq (.seq (.reg [oq 9 (.mv (ci 0))])
(.block 0 (.loop (.seq (.seq (.reg [mt 11 9,
mt 12 0,
oq 13 (.nilchk (.t 12)),
oq 14 (.faddr 2 (.t 13)),
oq 15 (ld 14),
oq 16 (.lenSl (.t 15)),
oq 17 (bi .lss (.t 11) (.t 16))])
(.cond (.t 17) .skip (.exit 0)))
(.seq (.block 1 (.seq (.reg [mt 20 0,
oq 21 (.nilchk (.t 20)),
oq 22 (.faddr 2 (.t 21)),
oq 23 (ld 22),
mt 24 9,
oq 25 (.iaddr (.slice 4) (.t 23) (.t 24)),
oq 26 (.ld true 4 (.t 25)),
⟨(some 10),(.a (.alloc 227 [(.int .i64 (.ofNat 0)),(.int .i64 (.ofNat 0)),.nilsl,(.int .i64 (.ofNat 0))])),none,0⟩,
⟨none,(.x (.st 4 (.t 10) (.t 26))),none,0⟩])
(.seq (.reg [oq 27 (.faddr 0 (.t 10)),
oq 28 (ld 27),
mt 29 1,
oq 30 (bi .eql (.t 28) (.t 29)),
mt 31 30,
og 32 31 true 0 (.faddr 1 (.t 10)),
og 33 31 true 0 (ld 32),
og 34 31 true 0 (.mv (.t 2)),
og 35 31 true 0 (bi .eql (.t 33) (.t 34)),
oq 36 (.pick (.t 31) (.t 35) (.c (.bool false))),
mt 37 36,
og 38 37 true 0 (.faddr 2 (.t 10)),
og 39 37 true 0 (ld 38),
og 40 37 true 0 (.mv (.t 3)),
⟨(some 41),(.x (.call (.c (.fn 19 [] [])) [(.t 39),(.t 40)])),(some (37,true)),0⟩,
oq 42 (.pick (.t 37) (.t 41) (.c (.bool false)))])
(.cond (.t 42) (.seq (.reg [oq 43 (.faddr 3 (.t 10)),
oq 44 (ld 43),
mt 8 44])
.ret) .skip))))
(.reg [mt 18 9,
oq 19 (bi .add (.t 18) (ci 1)),
mt 9 19]))))))
(.seq (.drw [mt 45 0,
mt 46 0,
om 47 2 (.nilchk (.t 46)),
om 48 6 (.faddr 2 (.t 47)),
om 49 14 (ld 48),
mt 50 1,
mt 51 2,
mt 52 3,
mt 53 0,
om 54 256 (.nilchk (.t 53)),
om 55 768 (.faddr 7 (.t 54)),
om 56 1792 (.faddr 2 (.t 55)),
om 57 3840 (ld 56),
om 58 7936 (.lenSl (.t 57)),
om 59 16352 (.build [(.int .i64 (.ofNat 0)),(.int .i64 (.ofNat 0)),.nilsl,(.int .i64 (.ofNat 0))] [(0,1,(.t 50)),(1,1,(.t 51)),(2,1,(.t 52)),(3,1,(.t 58))]),
⟨(some 60),(.a (.bslice 227 4 1 [(.int .i64 (.ofNat 0)),(.int .i64 (.ofNat 0)),.nilsl,(.int .i64 (.ofNat 0))] [(0,(.t 59))])),none,32736⟩,
⟨(some 61),(.x (.app 227 4 48 (.t 49) (.t 60))),none,65534⟩,
om 62 131071 (.nilchk (.t 45)),
om 63 262143 (.faddr 2 (.t 62)),
⟨none,(.x (.st 1 (.t 63) (.t 61))),none,524287⟩])
(.seq (.drw [mt 64 0,
mt 65 0,
om 66 2 (.nilchk (.t 65)),
om 67 6 (.faddr 7 (.t 66)),
om 68 14 (.faddr 2 (.t 67)),
om 69 30 (ld 68),
mt 70 1,
mt 71 0,
om 72 128 (.nilchk (.t 71)),
om 73 384 (.faddr 0 (.t 72)),
om 74 896 (ld 73),
oc 75 38 [(.t 74),(ci 3)] 1920,
om 76 3968 (bi .add (ci 1) (.t 75)),
om 77 8128 (.build [(.int .i64 (.ofNat 0)),(.int .i64 (.ofNat 0))] [(0,1,(.t 70)),(1,1,(.t 76))]),
⟨(some 78),(.a (.bslice 48 2 1 [(.int .i64 (.ofNat 0)),(.int .i64 (.ofNat 0))] [(0,(.t 77))])),none,16320⟩,
⟨(some 79),(.x (.app 48 2 16 (.t 69) (.t 78))),none,32766⟩,
om 80 65535 (.nilchk (.t 64)),
om 81 131071 (.faddr 7 (.t 80)),
om 82 262143 (.faddr 2 (.t 81)),
⟨none,(.x (.st 1 (.t 82) (.t 79))),none,524287⟩])
(.seq (.reg [mt 83 0,
oq 84 (.nilchk (.t 83)),
oq 85 (.faddr 7 (.t 84)),
oq 86 (.faddr 2 (.t 85)),
oq 87 (ld 86),
oq 88 (.lenSl (.t 87)),
oq 89 (bi .sub (.t 88) (ci 1)),
mt 8 89])
.ret)))))⟩
theorem row129 : Row Go.Proofs.Try.prog (129, a129) := ⟨Go.Proofs.Try.f129, Go.Proofs.Try.func129, by kernel_rfl⟩
noncomputable def a130 : AFn :=
⟨78,[],(.seq (.seq (.reg [mt 7 2,
oq 8 (bi .lss (.t 7) (ci 0)),
mt 9 8,
og 10 9 false 0 (.mv (.t 1)),
og 11 9 false 0 (.mv (.t 0)),
og 12 9 false 0 (.nilchk (.t 11)),
og 13 9 false 0 (.faddr 7 (.t 12)),
og 14 9 false 0 (.faddr 2 (.t 13)),
og 15 9 false 0 (ld 14),
og 16 9 false 0 (.lenSl (.t 15)),
og 17 9 false 0 (bi .sub (.t 16) (ci 1)),
og 18 9 false 0 (bi .neq (.t 10) (.t 17)),
oq 19 (.pick (.t 9) (.c (.bool true)) (.t 18))])
(.cond (.t 19) .ret .skip))
(.seq (.seq (.reg [oq 6 (.mv (ci 0))])
(.block 0 (.loop (.seq (.seq (.reg [mt 20 6,
mt 21 0,
oq 22 (.nilchk (.t 21)),
oq 23 (.faddr 7 (.t 22)),
oq 24 (.faddr 1 (.t 23)),
oq 25 (ld 24),
oq 26 (.lenSl (.t 25)),
oq 27 (bi .lss (.t 20) (.t 26))])
(.cond (.t 27) .skip (.exit 0)))
(.seq (.block 1 (.seq (.reg [mt 30 0,
oq 31 (.nilchk (.t 30)),
oq 32 (.faddr 7 (.t 31)),
oq 33 (.faddr 1 (.t 32)),
oq 34 (ld 33),
mt 35 6,
oq 36 (.iaddr (.slice 6) (.t 34) (.t 35)),
oq 37 (.faddr 0 (.t 36)),
oq 38 (ld 37),
oq 39 (bi .eql (.t 38) (ci 2)),
mt 40 39,
og 41 40 true 0 (.mv (.t 0)),
og 42 40 true 0 (.nilchk (.t 41)),
og 43 40 true 0 (.faddr 7 (.t 42)),
og 44 40 true 0 (.faddr 1 (.t 43)),
og 45 40 true 0 (ld 44),
og 46 40 true 0 (.mv (.t 6)),
og 47 40 true 0 (.iaddr (.slice 6) (.t 45) (.t 46)),
og 48 40 true 0 (.faddr 2 (.t 47)),
og 49 40 true 0 (ld 48),
og 50 40 true 0 (.mv (.t 1)),
og 51 40 true 0 (bi .eql (.t 49) (.t 50)),
oq 52 (.pick (.t 40) (.t 51) (.c (.bool false)))])
(.cond (.t 52) .ret .skip)))
(.reg [mt 28 6,
oq 29 (bi .add (.t 28) (ci 1)),
mt 6 29]))))))
(.seq (.reg [mt 53 0,
mt 54 0,
oq 55 (.nilchk (.t 54)),
oq 56 (.faddr 7 (.t 55)),
oq 57 (.faddr 2 (.t 56)),
oq 58 (ld 57),
mt 59 1,
oq 60 (.slc (.slice 2) (.t 58) none (some (.t 59)) none),
oq 61 (.nilchk (.t 53)),
oq 62 (.faddr 7 (.t 61)),
oq 63 (.faddr 2 (.t 62)),
⟨none,(.x (.st 1 (.t 63) (.t 60))),none,0⟩])
(.drw [mt 64 0,
mt 65 0,
om 66 2 (.nilchk (.t 65)),
om 67 6 (.faddr 2 (.t 66)),
om 68 14 (ld 67),
mt 69 0,
om 70 32 (.nilchk (.t 69)),
om 71 96 (.faddr 2 (.t 70)),
om 72 224 (ld 71),
om 73 480 (.lenSl (.t 72)),
om 74 992 (bi .sub (.t 73) (ci 1)),
om 75 2046 (.slc (.slice 4) (.t 68) none (some (.t 74)) none),
om 76 4095 (.nilchk (.t 64)),
om 77 8191 (.faddr 2 (.t 76)),
⟨none,(.x (.st 1 (.t 77) (.t 75))),none,16383⟩]))))⟩
theorem row130 : Row Go.Proofs.Try.prog (130, a130) := ⟨Go.Proofs.Try.f130, Go.Proofs.Try.func130, by kernel_rfl⟩
noncomputable def a131 : AFn :=
⟨97,[(.t 2),(.t 3)],(.seq (.reg [⟨(some 1),(.a (.box 28 (.t 0))),none,0⟩,
oq 2 (.mv (.c .nilp)),
oq 3 (.mv (ci 0))])
(.seq (.seq (.reg [oq 10 (.faddr 0 (.t 1)),
oq 11 (ld 10),
oq 12 (bi .lss (.t 11) (ci 1)),
mt 13 12,
og 14 13 false 0 (.faddr 0 (.t 1)),
og 15 13 false 0 (ld 14),
og 16 13 false 0 (bi .gtr (.t 15) (ci 4)),
oq 17 (.pick (.t 13) (.c (.bool true)) (.t 16)),
mt 18 17,
og 19 18 false 0 (.faddr 1 (.t 1)),
og 20 18 false 0 (ld 19),
og 21 18 false 0 (.lenSl (.t 20)),
og 22 18 false 0 (bi .lss (.t 21) (ci 1)),
oq 23 (.pick (.t 18) (.c (.bool true)) (.t 22)),
mt 24 23,
og 25 24 false 0 (.faddr 1 (.t 1)),
og 26 24 false 0 (ld 25),
og 27 24 false 0 (.lenSl (.t 26)),
og 28 24 false 0 (bi .gtr (.t 27) (ci 2000)),
oq 29 (.pick (.t 24) (.c (.bool true)) (.t 28)),
mt 30 29,
og 31 30 false 0 (.faddr 2 (.t 1)),
og 32 30 false 0 (ld 31),
og 33 30 false 0 (.lenSl (.t 32)),
og 34 30 false 0 (bi .gtr (.t 33) (ci 200)),
oq 35 (.pick (.t 30) (.c (.bool true)) (.t 34))])
(.cond (.t 35) (.seq (.reg [oq 2 (.mv (.c .nilp)),
oq 3 (.mv (ci 2))])
.ret) .skip))
(.seq (.reg [oq 36 (.ld true 3 (.t 1)),
oq 37 (.build [(.int .i64 (.ofNat 0)),.nilsl,.nilsl,.nilsl,.nilsl,.nilsl] [(0,3,(.t 36))]),
⟨(some 38),(.a (.box 220 (.t 37))),none,0⟩,
mt 4 38])
(.seq (.seq (.reg [oq 39 (.faddr 1 (.t 1)),
oq 40 (ld 39),
oq 41 (.lenSl (.t 40)),
oq 42 (.mv (ci 0))])
(.block 0 (.loop (.seq (.reg [oq 43 (bi .lss (.t 42) (.t 41))])
(.seq (.cond (.t 43) .skip (.exit 0))
(.seq (.block 1 (.seq (.reg [oq 44 (.iaddr (.slice 6) (.t 40) (.t 42)),
oq 45 (.ld true 6 (.t 44)),
⟨(some 6),(.a (.alloc 64 [(.int .i64 (.ofNat 0)),(.int .i64 (.ofNat 0)),(.int .i64 (.ofNat 0)),.nilsl,.nilsl,.nilsl])),none,0⟩,
⟨none,(.x (.st 6 (.t 6) (.t 45))),none,0⟩])
(.seq (.reg [mt 46 4,
oq 47 (.ld true 6 (.t 6)),
oc 48 162 [(.t 46),(.t 47)] 0,
mt 7 48])
(.seq (.reg [mt 49 7,
oq 50 (bi .neq (.t 49) (ci 0))])
(.cond (.t 50) (.seq (.reg [mt 51 7,
oq 2 (.mv (.c .nilp)),
mt 3 51])
.ret) .skip)))))
(.reg [oq 52 (bi .add (.t 42) (ci 1)),
mt 42 52])))))))
(.seq (.drw [mt 53 4,
mt 54 4,
mt 55 4,
oq 56 (.faddr 1 (.t 1)),
om 57 8 (ld 56),
om 58 24 (.lenSl (.t 57)),
⟨(some 59),(.a (.mkSlice 3 1 8 [(.int .i64 (.ofNat 0))] (.t 58) (.t 58))),none,56⟩,
oq 60 (.faddr 1 (.t 1)),
om 61 128 (ld 60),
om 62 384 (.lenSl (.t 61)),
⟨(some 63),(.a (.mkSlice 3 1 8 [(.int .i64 (.ofNat 0))] (.t 62) (.t 62))),none,896⟩,
oq 64 (.faddr 1 (.t 1)),
om 65 2048 (ld 64),
om 66 6144 (.lenSl (.t 65)),
⟨(some 67),(.a (.mkSlice 3 1 8 [(.int .i64 (.ofNat 0))] (.t 66) (.t 66))),none,14336⟩,
om 68 121 (.nilchk (.t 53)),
om 69 32889 (.faddr 3 (.t 68)),
⟨none,(.x (.st 1 (.t 69) (.t 59))),none,98425⟩,
om 70 231419 (.nilchk (.t 54)),
om 71 493563 (.faddr 4 (.t 70)),
⟨none,(.x (.st 1 (.t 71) (.t 63))),none,1017851⟩,
om 72 2097151 (.nilchk (.t 55)),
om 73 4194303 (.faddr 5 (.t 72)),
⟨none,(.x (.st 1 (.t 73) (.t 67))),none,8388607⟩])
(.seq (.seq (.reg [mt 75 4,
oq 76 (.faddr 1 (.t 1)),
oq 77 (ld 76),
oc 78 163 [(.t 75),(.c (.int .i64 (.negSucc 0))),(ci 0),(.t 77)] 0,
mt 74 78,
oq 79 (.extract (.t 74) 0),
oq 80 (.extract (.t 74) 1),
mt 8 79,
mt 9 80])
(.seq (.reg [mt 81 9,
oq 82 (.un .not (.t 81)),
mt 83 82,
og 84 83 false 0 (.mv (.t 8)),
og 85 83 false 0 (.lenSl (.t 84)),
og 86 83 false 0 (bi .gtr (.t 85) (ci 0)),
oq 87 (.pick (.t 83) (.c (.bool true)) (.t 86))])
(.cond (.t 87) (.seq (.reg [oq 2 (.mv (.c .nilp)),
oq 3 (.mv (ci 9))])
.ret) .skip)))
(.seq (.seq (.reg [mt 88 4,
oq 89 (.nilchk (.t 88)),
oq 90 (.faddr 4 (.t 89)),
oq 91 (ld 90),
oc 92 164 [(.t 91)] 0,
oq 93 (bi .gtr (.t 92) (ci 40))])
(.cond (.t 93) (.seq (.reg [oq 2 (.mv (.c .nilp)),
oq 3 (.mv (ci 5))])
.ret) .skip))
(.seq (.reg [mt 94 4,
mt 95 4,
oc 96 165 [(.t 95)] 0,
mt 2 94,
mt 3 96])
.ret))))))))⟩
theorem row131 : Row Go.Proofs.Try.prog (131, a131) := ⟨Go.Proofs.Try.f131, Go.Proofs.Try.func131, by kernel_rfl⟩
noncomputable def a132 : AFn :=
⟨39,[],(.seq (.reg [mt 7 0,
oq 8 (.nilchk (.t 7)),
oq 9 (.faddr 3 (.t 8)),
oq 10 (ld 9),
mt 11 1,
mt 4 10,
mt 5 11])
(.seq (.block 0 (.loop (.seq (.seq (.reg [mt 12 5,
oq 13 (bi .neq (.t 12) (ci 0))])
(.cond (.t 13) .skip (.exit 0)))
(.block 1 (.drw [mt 14 5,
mt 15 4,
mt 16 5,
om 17 6 (bi .rem (.t 15) (.t 16)),
om 4 3 (.mv (.t 14)),
om 5 31 (.mv (.t 17))])))))
(.seq (.reg [mt 18 1,
mt 19 4,
oq 20 (bi .quo (.t 18) (.t 19)),
mt 6 20])
(.seq (.seq (.drw [mt 21 0,
om 22 1 (.nilchk (.t 21)),
om 23 3 (.faddr 3 (.t 22)),
om 24 7 (ld 23),
mt 25 6,
om 26 16 (bi .quo (ci 1000000000000000) (.t 25)),
om 27 63 (bi .gtr (.t 24) (.t 26))])
(.cond (.t 27) (.seq (.reg [mt 28 0,
oq 29 (.nilchk (.t 28)),
oq 30 (.faddr 4 (.t 29)),
⟨none,(.x (.st 1 (.t 30) (.c (.bool true)))),none,0⟩])
.ret) .skip))
(.reg [mt 31 0,
oq 32 (.nilchk (.t 31)),
oq 33 (.faddr 3 (.t 32)),
oq 34 (ld 33),
mt 35 6,
oq 36 (bi .mul (.t 34) (.t 35)),
oq 37 (.nilchk (.t 31)),
oq 38 (.faddr 3 (.t 37)),
⟨none,(.x (.st 1 (.t 38) (.t 36))),none,0⟩])))))⟩
theorem row132 : Row Go.Proofs.Try.prog (132, a132) := ⟨Go.Proofs.Try.f132, Go.Proofs.Try.func132, by kernel_rfl⟩
noncomputable def a133 : AFn :=
⟨17,[(.t 2)],(.seq (.reg [oq 2 (.mv (ci 0))])
(.seq (.reg [oq 3 (.mv (ci 0))])
(.seq (.seq (.reg [mt 6 0,
oq 7 (.lenSl (.t 6)),
oq 8 (.mv (ci 0))])
(.block 0 (.loop (.seq (.reg [oq 9 (bi .lss (.t 8) (.t 7))])
(.seq (.cond (.t 9) .skip (.exit 0))
(.seq (.block 1 (.seq (.reg [oq 10 (.iaddr (.slice 1) (.t 6) (.t 8)),
oq 11 (ld 10),
mt 5 11])
(.reg [mt 12 3,
mt 13 5,
oq 14 (bi .add (.t 12) (.t 13)),
mt 3 14])))
(.reg [oq 15 (bi .add (.t 8) (ci 1)),
mt 8 15])))))))
(.seq (.reg [mt 16 3,
mt 2 16])
.ret))))⟩
theorem row133 : Row Go.Proofs.Try.prog (133, a133) := ⟨Go.Proofs.Try.f133, Go.Proofs.Try.func133, by kernel_rfl⟩
noncomputable def a134 : AFn :=
⟨20,[(.t 4)],(.seq (.reg [⟨(some 2),(.a (.box 191 (.t 0))),none,0⟩,
⟨(some 3),(.a (.box 64 (.t 1))),none,0⟩,
oq 4 (.mv (ci 0))])
(.seq (.reg [oq 5 (.mv (ci 0))])
(.seq (.seq (.reg [oq 8 (.faddr 4 (.t 3)),
oq 9 (ld 8),
oq 10 (.lenSl (.t 9)),
oq 11 (.mv (ci 0))])
(.block 0 (.loop (.seq (.reg [oq 12 (bi .lss (.t 11) (.t 10))])
(.seq (.cond (.t 12) .skip (.exit 0))
(.seq (.block 1 (.seq (.reg [oq 13 (.iaddr (.slice 1) (.t 9) (.t 11)),
oq 14 (ld 13),
mt 7 14])
(.reg [mt 15 5,
mt 16 7,
oq 17 (bi .add (.t 15) (.t 16)),
mt 5 17])))
(.reg [oq 18 (bi .add (.t 11) (ci 1)),
mt 11 18])))))))
(.seq (.reg [mt 19 5,
mt 4 19])
.ret))))⟩
theorem row134 : Row Go.Proofs.Try.prog (134, a134) := ⟨Go.Proofs.Try.f134, Go.Proofs.Try.func134, by kernel_rfl⟩
noncomputable def a160 : AFn :=
⟨4,[(.t 2)],(.seq (.reg [⟨(some 1),(.a (.box 29 (.t 0))),none,0⟩,
oq 2 (.mv (.c .nilfn))])
(.seq (.reg [oq 3 (.mkFunc 172 [] [(.t 1)]),
mt 2 3])
.ret))⟩
theorem row160 : Row Go.Proofs.Try.prog (160, a160) := ⟨Go.Proofs.Try.f160, Go.Proofs.Try.func160, by kernel_rfl⟩
noncomputable def a161 : AFn :=
⟨44,[],(.seq (.reg [oq 10 (ld 1),
mt 5 10,
oq 6 (.mv (ci 0))])
(.block 0 (.loop (.seq (.seq (.reg [mt 11 0,
mt 12 6,
⟨(some 13),(.x (.call (.t 11) [(.t 12)])),none,0⟩])
(.cond (.t 13) .skip (.exit 0)))
(.block 1 (.seq (.reg [oq 14 (.faddr 1 (.t 2)),
oq 15 (ld 14),
mt 16 6,
oq 17 (.iaddr (.slice 6) (.t 15) (.t 16)),
oq 18 (.ld true 6 (.t 17)),
⟨(some 7),(.a (.alloc 64 [(.int .i64 (.ofNat 0)),(.int .i64 (.ofNat 0)),(.int .i64 (.ofNat 0)),.nilsl,.nilsl,.nilsl])),none,0⟩,
⟨none,(.x (.st 6 (.t 7) (.t 18))),none,0⟩])
(.seq (.seq (.reg [oq 19 (.faddr 0 (.t 7)),
oq 20 (ld 19),
oq 21 (bi .eql (.t 20) (ci 3))])
(.cond (.t 21) .ret .skip))
(.seq (.reg [oq 22 (.ld true 6 (.t 7)),
oq 23 (ld 3),
oc 24 124 [(.t 22),(.t 23)] 0,
mt 8 24])
(.seq (.reg [mt 25 8,
oq 26 (.ld true 6 (.t 7)),
⟨(some 27),(.x (.inv [(119,204,none),(139,207,none),(191,134,none)] (.t 25) [(.t 26)])),none,0⟩,
mt 9 27])
(.seq (.drw [oq 28 (.faddr 3 (.t 7)),
om 29 1 (ld 28),
mt 30 8,
oq 31 (.ld true 6 (.t 7)),
mt 32 5,
mt 33 9,
om 34 48 (bi .rem (.t 32) (.t 33)),
om 35 4 (.mkMeth "parlour/deal.choose" [(119,203,none),(139,206,none),(191,209,none)] (.t 30)),
om 36 132 (.nilchk (.t 35)),
om 37 388 (.mv (.t 30)),
⟨(some 38),(.x (.inv [(119,203,none),(139,206,none),(191,209,none)] (.t 37) [(.t 31),(.t 34)])),none,1020⟩,
om 39 2047 (.iaddr (.slice 1) (.t 29) (.t 38)),
om 40 4095 (ld 39),
om 6 8191 (.mv (.t 40))])
(.reg [mt 41 5,
mt 42 9,
oq 43 (bi .quo (.t 41) (.t 42)),
mt 5 43])))))))))))⟩
theorem row161 : Row Go.Proofs.Try.prog (161, a161) := ⟨Go.Proofs.Try.f161, Go.Proofs.Try.func161, by kernel_rfl⟩
noncomputable def a162 : AFn :=
⟨22,[(.t 4)],(.seq (.reg [⟨(some 3),(.a (.box 64 (.t 1))),none,0⟩,
oq 4 (.mv (ci 0))])
(.seq (.reg [oq 6 (.build [.nilfn,.nilfn,.nilfn,.nilfn] [(1,1,(.c (.fn 173 [] []))),(2,1,(.c (.fn 174 [] []))),(3,1,(.c (.fn 175 [] [])))]),
⟨(some 5),(.a (.alloc 243 [.nilfn,.nilfn,.nilfn,.nilfn])),none,0⟩,
⟨none,(.x (.st 4 (.t 5) (.t 6))),none,0⟩])
(.seq (.seq (.reg [oq 7 (.faddr 0 (.t 3)),
oq 8 (ld 7),
oq 9 (bi .lss (.t 8) (ci 1)),
mt 10 9,
og 11 10 false 0 (.faddr 0 (.t 3)),
og 12 10 false 0 (ld 11),
og 13 10 false 0 (bi .gtr (.t 12) (ci 3)),
oq 14 (.pick (.t 10) (.c (.bool true)) (.t 13))])
(.cond (.t 14) (.seq (.reg [oq 4 (.mv (ci 3))])
.ret) .skip))
(.seq (.drw [oq 15 (.faddr 0 (.t 3)),
om 16 1 (ld 15),
om 17 3 (.iaddr (.arr 4 1) (.t 5) (.t 16)),
om 18 7 (ld 17),
mt 19 0,
oq 20 (.ld true 6 (.t 3)),
⟨(some 21),(.x (.call (.t 18) [(.t 19),(.t 20)])),none,63⟩,
om 4 127 (.mv (.t 21))])
.ret))))⟩
theorem row162 : Row Go.Proofs.Try.prog (162, a162) := ⟨Go.Proofs.Try.f162, Go.Proofs.Try.func162, by kernel_rfl⟩
noncomputable def a163 : AFn :=
⟨92,[(.t 8),(.t 9)],(.seq (.reg [oq 8 (.mv (.c .nilsl)),
oq 9 (.mv (.c (.bool false)))])
(.seq (.seq (.reg [mt 15 3,
oq 16 (.lenSl (.t 15)),
oq 17 (bi .eql (.t 16) (ci 0))])
(.cond (.t 17) (.seq (.reg [oq 8 (.mv (.c .nilsl)),
oq 9 (.mv (.c (.bool false)))])
.ret) .skip))
(.seq (.reg [mt 18 0,
oq 19 (.nilchk (.t 18)),
oq 20 (.faddr 0 (.t 19)),
oq 21 (.faddr 1 (.t 20)),
oq 22 (ld 21),
oq 23 (.lenSl (.t 22)),
mt 24 3,
oq 25 (.lenSl (.t 24)),
oq 26 (bi .sub (.t 23) (.t 25)),
mt 10 26])
(.seq (.drw [mt 27 0,
om 28 1 (.nilchk (.t 27)),
om 29 3 (.faddr 3 (.t 28)),
om 30 7 (ld 29),
mt 31 10,
mt 32 0,
om 33 32 (.nilchk (.t 32)),
om 34 96 (.faddr 4 (.t 33)),
om 35 224 (ld 34),
mt 36 10,
mt 37 1,
mt 38 2,
om 39 1535 (.iaddr (.slice 1) (.t 30) (.t 31)),
⟨none,(.x (.st 1 (.t 39) (.t 37))),none,5631⟩,
om 40 16383 (.iaddr (.slice 1) (.t 35) (.t 36)),
⟨none,(.x (.st 1 (.t 40) (.t 38))),none,32767⟩])
(.seq (.reg [mt 41 3,
oq 42 (.slc (.slice 6) (.t 41) (some (ci 1)) none none),
mt 11 42,
oq 12 (.mv (.c (.bool true)))])
(.seq (.seq (.reg [mt 43 3,
oq 44 (.iaddr (.slice 6) (.t 43) (ci 0)),
oq 45 (.faddr 3 (.t 44)),
oq 46 (ld 45),
oq 47 (.lenSl (.t 46)),
oq 48 (.mv (ci 0))])
(.block 0 (.loop (.seq (.reg [oq 49 (bi .lss (.t 48) (.t 47))])
(.seq (.cond (.t 49) .skip (.exit 0))
(.seq (.block 1 (.seq (.reg [oq 50 (.iaddr (.slice 1) (.t 46) (.t 48)),
oq 51 (ld 50),
mt 14 51])
(.seq (.seq (.reg [mt 52 14,
mt 53 0,
oq 54 (.nilchk (.t 53)),
oq 55 (.faddr 0 (.t 54)),
oq 56 (.faddr 1 (.t 55)),
oq 57 (ld 56),
oq 58 (.lenSl (.t 57)),
mt 59 11,
oq 60 (.lenSl (.t 59)),
oq 61 (bi .sub (.t 58) (.t 60)),
oq 62 (bi .neq (.t 52) (.t 61))])
(.cond (.t 62) (.seq (.reg [oq 8 (.mv (.c .nilsl)),
oq 9 (.mv (.c (.bool false)))])
.ret) .skip))
(.seq (.reg [mt 64 0,
mt 65 10,
mt 66 2,
oq 67 (bi .add (.t 66) (ci 1)),
mt 68 11,
oc 69 163 [(.t 64),(.t 65),(.t 67),(.t 68)] 0,
mt 63 69,
oq 70 (.extract (.t 63) 0),
oq 71 (.extract (.t 63) 1),
mt 11 70,
mt 12 71])
(.seq (.reg [mt 72 12,
oq 73 (.un .not (.t 72))])
(.cond (.t 73) (.seq (.reg [oq 8 (.mv (.c .nilsl)),
oq 9 (.mv (.c (.bool false)))])
.ret) .skip))))))
(.reg [oq 74 (bi .add (.t 48) (ci 1)),
mt 48 74])))))))
(.seq (.drw [mt 75 0,
om 76 1 (.nilchk (.t 75)),
om 77 3 (.faddr 5 (.t 76)),
om 78 7 (ld 77),
mt 79 10,
mt 80 0,
om 81 32 (.nilchk (.t 80)),
om 82 96 (.faddr 0 (.t 81)),
om 83 224 (.faddr 1 (.t 82)),
om 84 480 (ld 83),
om 85 992 (.lenSl (.t 84)),
mt 86 11,
om 87 2048 (.lenSl (.t 86)),
om 88 8160 (bi .sub (.t 85) (.t 87)),
om 89 16352 (bi .sub (.t 88) (ci 1)),
om 90 32767 (.iaddr (.slice 1) (.t 78) (.t 79)),
⟨none,(.x (.st 1 (.t 90) (.t 89))),none,65535⟩])
(.seq (.reg [mt 91 11,
mt 8 91,
oq 9 (.mv (.c (.bool true)))])
.ret))))))))⟩
theorem row163 : Row Go.Proofs.Try.prog (163, a163) := ⟨Go.Proofs.Try.f163, Go.Proofs.Try.func163, by kernel_rfl⟩
noncomputable def a164 : AFn :=
⟨25,[(.t 2)],(.seq (.reg [oq 2 (.mv (ci 0))])
(.seq (.seq (.reg [mt 5 0,
oq 6 (.lenSl (.t 5)),
oq 7 (bi .lss (.t 6) (ci 1))])
(.cond (.t 7) (.reg [oq 8 (.mkIface 9 (.c (.str [115,108,105,99,101,115,46,77,97,120,58,32,101,109,112,116,121,32,108,105,115,116]))),
⟨none,(.x (.bad)),none,0⟩]) .skip))
(.seq (.reg [mt 9 0,
oq 10 (.iaddr (.slice 1) (.t 9) (ci 0)),
oq 11 (ld 10),
mt 3 11])
(.seq (.seq (.reg [oq 4 (.mv (ci 1))])
(.block 0 (.loop (.seq (.seq (.reg [mt 12 4,
mt 13 0,
oq 14 (.lenSl (.t 13)),
oq 15 (bi .lss (.t 12) (.t 14))])
(.cond (.t 15) .skip (.exit 0)))
(.seq (.block 1 (.reg [mt 18 3,
mt 19 0,
mt 20 4,
oq 21 (.iaddr (.slice 1) (.t 19) (.t 20)),
oq 22 (ld 21),
oq 23 (.minmax true [(.t 18),(.t 22)]),
mt 3 23]))
(.reg [mt 16 4,
oq 17 (bi .add (.t 16) (ci 1)),
mt 4 17]))))))
(.seq (.reg [mt 24 3,
mt 2 24])
.ret)))))⟩
theorem row164 : Row Go.Proofs.Try.prog (164, a164) := ⟨Go.Proofs.Try.f164, Go.Proofs.Try.func164, by kernel_rfl⟩
noncomputable def a165 : AFn :=
⟨80,[(.t 2)],(.seq (.reg [oq 2 (.mv (ci 0))])
(.seq (.reg [mt 8 0,
oq 9 (.nilchk (.t 8)),
oq 10 (.faddr 0 (.t 9)),
oq 11 (.faddr 2 (.t 10)),
oq 12 (ld 11),
oq 13 (.lenSl (.t 12)),
⟨(some 14),(.a (.mkSlice 3 1 8 [(.int .i64 (.ofNat 0))] (.t 13) (.t 13))),none,0⟩,
mt 3 14])
(.seq (.seq (.reg [mt 15 0,
oq 16 (.nilchk (.t 15)),
oq 17 (.faddr 0 (.t 16)),
oq 18 (.faddr 1 (.t 17)),
oq 19 (ld 18),
oq 20 (.lenSl (.t 19)),
oq 21 (bi .sub (.t 20) (ci 1)),
mt 4 21])
(.block 0 (.loop (.seq (.seq (.reg [mt 22 4,
oq 23 (bi .geq (.t 22) (ci 0))])
(.cond (.t 23) .skip (.exit 0)))
(.seq (.block 1 (.seq (.reg [mt 26 0,
oq 27 (.nilchk (.t 26)),
oq 28 (.faddr 0 (.t 27)),
oq 29 (.faddr 1 (.t 28)),
oq 30 (ld 29),
mt 31 4,
oq 32 (.iaddr (.slice 6) (.t 30) (.t 31)),
oq 33 (.ld true 6 (.t 32)),
⟨(some 5),(.a (.alloc 64 [(.int .i64 (.ofNat 0)),(.int .i64 (.ofNat 0)),(.int .i64 (.ofNat 0)),.nilsl,.nilsl,.nilsl])),none,0⟩,
⟨none,(.x (.st 6 (.t 5) (.t 33))),none,0⟩])
(.seq (.reg [oq 34 (.faddr 0 (.t 5)),
oq 35 (ld 34),
oq 36 (bi .eql (.t 35) (ci 2))])
(.cond (.t 36) (.reg [mt 37 3,
oq 38 (.faddr 2 (.t 5)),
oq 39 (ld 38),
mt 40 4,
oq 41 (bi .add (.t 40) (ci 1)),
oq 42 (.iaddr (.slice 1) (.t 37) (.t 39)),
⟨none,(.x (.st 1 (.t 42) (.t 41))),none,0⟩]) .skip))))
(.reg [mt 24 4,
oq 25 (bi .sub (.t 24) (ci 1)),
mt 4 25]))))))
(.seq (.seq (.reg [mt 43 0,
oq 44 (.nilchk (.t 43)),
oq 45 (.faddr 0 (.t 44)),
oq 46 (.faddr 1 (.t 45)),
oq 47 (ld 46),
oq 48 (.lenSl (.t 47)),
oq 49 (.mv (ci 0))])
(.block 2 (.loop (.seq (.reg [oq 50 (bi .lss (.t 49) (.t 48))])
(.seq (.cond (.t 50) .skip (.exit 2))
(.seq (.block 3 (.seq (.reg [oq 51 (.iaddr (.slice 6) (.t 47) (.t 49)),
oq 52 (.ld true 6 (.t 51)),
⟨(some 7),(.a (.alloc 64 [(.int .i64 (.ofNat 0)),(.int .i64 (.ofNat 0)),(.int .i64 (.ofNat 0)),.nilsl,.nilsl,.nilsl])),none,0⟩,
⟨none,(.x (.st 6 (.t 7) (.t 52))),none,0⟩])
(.seq (.drw [oq 53 (.faddr 0 (.t 7)),
om 54 1 (ld 53),
om 55 3 (bi .eql (.t 54) (ci 2)),
om 56 7 (.mv (.t 55)),
og 57 56 true 15 (.mv (.t 0)),
og 58 56 true 31 (.nilchk (.t 57)),
og 59 56 true 63 (.faddr 0 (.t 58)),
og 60 56 true 127 (.faddr 2 (.t 59)),
og 61 56 true 255 (ld 60),
og 62 56 true 15 (.faddr 2 (.t 7)),
og 63 56 true 527 (ld 62),
og 64 56 true 2047 (.iaddr (.slice 2) (.t 61) (.t 63)),
og 65 56 true 4095 (.ld true 2 (.t 64)),
og 66 56 true 15 (.faddr 1 (.t 7)),
og 67 56 true 8207 (ld 66),
og 68 56 true 15 (.faddr 3 (.t 7)),
og 69 56 true 32783 (ld 68),
og 70 56 true 98319 (.lenSl (.t 69)),
og 71 56 true 253967 (.build [(.int .i64 (.ofNat 0)),(.int .i64 (.ofNat 0))] [(0,1,(.t 67)),(1,1,(.t 70))]),
og 72 56 true 524287 (.bin .neq (.struct [(0,.int),(1,.int)]) (.t 65) (.t 71)),
om 73 1048575 (.pick (.t 56) (.t 72) (.c (.bool false)))])
(.cond (.t 73) (.seq (.reg [oq 2 (.mv (ci 10))])
.ret) .skip))))
(.reg [oq 74 (bi .add (.t 49) (ci 1)),
mt 49 74])))))))
(.seq (.seq (.reg [mt 75 3,
oc 76 176 [(.t 75),(ci 0)] 0])
(.cond (.t 76) (.seq (.reg [oq 2 (.mv (ci 18))])
.ret) .skip))
(.seq (.seq (.reg [mt 77 3,
oc 78 177 [(.t 77)] 0,
oq 79 (.un .not (.t 78))])
(.cond (.t 79) (.seq (.reg [oq 2 (.mv (ci 9))])
.ret) .skip))
(.seq (.reg [oq 2 (.mv (ci 0))])
.ret)))))))⟩
theorem row165 : Row Go.Proofs.Try.prog (165, a165) := ⟨Go.Proofs.Try.f165, Go.Proofs.Try.func165, by kernel_rfl⟩
end Go.Ev.Gl
