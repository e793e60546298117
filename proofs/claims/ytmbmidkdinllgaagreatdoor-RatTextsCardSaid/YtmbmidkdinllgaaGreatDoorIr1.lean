/- Functions of the program as data of the evaluator, written by program; each is shown to be the compiler's result on the loaded function. -/
import Derived.Test.YtmbmidkdinllgaaGreatDoorProg
import Derived.Test.YtmbmidkdinllgaaGreatDoorEv8
import Derived.KernelRfl
namespace Go.Ev.Gl
set_option maxRecDepth 100000
noncomputable def a22 : AFn :=
⟨41,[(.t 4)],(.seq (.reg [oq 4 (.mv (ci 0))])
(.seq (.seq (.reg [mt 6 0,
oq 7 (.lenSl (.t 6)),
mt 8 1,
oq 9 (.lenSl (.t 8)),
oq 10 (bi .neq (.t 7) (.t 9))])
(.cond (.t 10) (.seq (.seq (.reg [mt 11 0,
oq 12 (.lenSl (.t 11)),
mt 13 1,
oq 14 (.lenSl (.t 13)),
oq 15 (bi .lss (.t 12) (.t 14))])
(.cond (.t 15) (.seq (.reg [oq 4 (.mv (.c (.int .i64 (.negSucc 0))))])
.ret) .skip))
(.seq (.reg [oq 4 (.mv (ci 1))])
.ret)) .skip))
(.seq (.seq (.reg [mt 16 0,
oq 17 (.lenSl (.t 16)),
oq 18 (bi .sub (.t 17) (ci 1)),
mt 5 18])
(.block 0 (.loop (.seq (.seq (.reg [mt 19 5,
oq 20 (bi .geq (.t 19) (ci 0))])
(.cond (.t 20) .skip (.exit 0)))
(.seq (.block 1 (.seq (.seq (.drw [mt 23 0,
mt 24 5,
om 25 3 (.iaddr (.slice 1) (.t 23) (.t 24)),
om 26 7 (ld 25),
mt 27 1,
mt 28 5,
om 29 48 (.iaddr (.slice 1) (.t 27) (.t 28)),
om 30 112 (ld 29),
om 31 255 (bi .lss (.t 26) (.t 30))])
(.cond (.t 31) (.seq (.reg [oq 4 (.mv (.c (.int .i64 (.negSucc 0))))])
.ret) .skip))
(.seq (.drw [mt 32 0,
mt 33 5,
om 34 3 (.iaddr (.slice 1) (.t 32) (.t 33)),
om 35 7 (ld 34),
mt 36 1,
mt 37 5,
om 38 48 (.iaddr (.slice 1) (.t 36) (.t 37)),
om 39 112 (ld 38),
om 40 255 (bi .gtr (.t 35) (.t 39))])
(.cond (.t 40) (.seq (.reg [oq 4 (.mv (ci 1))])
.ret) .skip))))
(.reg [mt 21 5,
oq 22 (bi .sub (.t 21) (ci 1)),
mt 5 22]))))))
(.seq (.reg [oq 4 (.mv (ci 0))])
.ret))))⟩
theorem row22 : Row Go.Proofs.Tryz.prog (22, a22) := ⟨Go.Proofs.Tryz.f22, Go.Proofs.Tryz.func22, by kernel_rfl⟩
noncomputable def a23 : AFn :=
⟨54,[(.cell 2 true 2)],(.seq (.reg [⟨(some 2),(.a (.alloc 32 [(.int .i64 (.ofNat 0)),(.int .i64 (.ofNat 0))])),none,0⟩])
(.seq (.seq (.reg [mt 6 0,
oq 7 (.lenStr (.t 6)),
oq 8 (.mv (ci 0))])
(.block 0 (.loop (.seq (.reg [oq 9 (bi .lss (.t 8) (.t 7))])
(.seq (.cond (.t 9) .skip (.exit 0))
(.seq (.block 1 (.seq (.reg [mt 10 8,
mt 3 10])
(.seq (.reg [mt 11 0,
mt 12 3,
mt 13 3,
oq 14 (bi .add (.t 13) (ci 1)),
oq 15 (.slc .str (.t 11) (some (.t 12)) (some (.t 14)) none),
oc 16 54 [(.c (.str [48,49,50,51,52,53,54,55,56,57,45,47])),(.t 15)] 0,
oq 17 (.un .not (.t 16))])
(.cond (.t 17) (.seq (.reg [mt 18 3,
oq 19 (.build [(.int .i64 (.ofNat 0)),(.int .i64 (.ofNat 0))] [(0,1,(ci 11)),(1,1,(.t 18))]),
⟨none,(.x (.st 2 (.t 2) (.t 19))),none,0⟩])
.ret) .skip))))
(.reg [oq 20 (bi .add (.t 8) (ci 1)),
mt 8 20])))))))
(.seq (.reg [oq 4 (.mv (ci 0))])
(.seq (.seq (.reg [mt 21 0,
oq 22 (.lenStr (.t 21)),
oq 23 (.mv (ci 0))])
(.block 2 (.loop (.seq (.reg [oq 24 (bi .lss (.t 23) (.t 22))])
(.seq (.cond (.t 24) .skip (.exit 2))
(.seq (.block 3 (.seq (.reg [mt 25 23,
mt 5 25])
(.seq (.seq (.reg [mt 26 0,
mt 27 5,
oq 28 (.idxStr (.t 26) (.t 27)),
oq 29 (bi .eql (.t 28) (.c (.int .u8 (.ofNat 47))))])
(.cond (.t 29) (.reg [mt 30 4,
oq 31 (bi .add (.t 30) (ci 1)),
mt 4 31]) .skip))
(.seq (.reg [mt 32 0,
mt 33 5,
oq 34 (.idxStr (.t 32) (.t 33)),
oq 35 (bi .eql (.t 34) (.c (.int .u8 (.ofNat 45)))),
mt 36 35,
og 37 36 true 0 (.mv (.t 5)),
og 38 36 true 0 (bi .gtr (.t 37) (ci 0)),
oq 39 (.pick (.t 36) (.t 38) (.c (.bool false))),
mt 40 39,
og 41 40 false 0 (.mv (.t 0)),
og 42 40 false 0 (.mv (.t 5)),
og 43 40 false 0 (.idxStr (.t 41) (.t 42)),
og 44 40 false 0 (bi .eql (.t 43) (.c (.int .u8 (.ofNat 47)))),
og 45 40 false 0 (.mv (.t 44)),
og 46 45 true 0 (.mv (.t 4)),
og 47 45 true 0 (bi .gtr (.t 46) (ci 1)),
og 48 40 false 0 (.pick (.t 45) (.t 47) (.c (.bool false))),
oq 49 (.pick (.t 40) (.c (.bool true)) (.t 48))])
(.cond (.t 49) (.seq (.reg [mt 50 5,
oq 51 (.build [(.int .i64 (.ofNat 0)),(.int .i64 (.ofNat 0))] [(0,1,(ci 11)),(1,1,(.t 50))]),
⟨none,(.x (.st 2 (.t 2) (.t 51))),none,0⟩])
.ret) .skip)))))
(.reg [oq 52 (bi .add (.t 23) (ci 1)),
mt 23 52])))))))
(.seq (.reg [oq 53 (.build [(.int .i64 (.ofNat 0)),(.int .i64 (.ofNat 0))] []),
⟨none,(.x (.st 2 (.t 2) (.t 53))),none,0⟩])
.ret)))))⟩
theorem row23 : Row Go.Proofs.Tryz.prog (23, a23) := ⟨Go.Proofs.Tryz.f23, Go.Proofs.Tryz.func23, by kernel_rfl⟩
noncomputable def a24 : AFn :=
⟨13,[(.t 4),(.t 5),(.t 6)],(.seq (.reg [oq 4 (.mv (.c (.str []))),
oq 5 (.mv (.c (.str []))),
oq 6 (.mv (.c (.bool false)))])
(.seq (.reg [mt 7 0,
mt 8 1,
oc 9 55 [(.t 7),(.t 8)] 0,
oq 10 (.extract (.t 9) 0),
oq 11 (.extract (.t 9) 1),
oq 12 (.extract (.t 9) 2),
mt 4 10,
mt 5 11,
mt 6 12])
.ret))⟩
theorem row24 : Row Go.Proofs.Tryz.prog (24, a24) := ⟨Go.Proofs.Tryz.f24, Go.Proofs.Tryz.func24, by kernel_rfl⟩
noncomputable def a25 : AFn :=
⟨11,[(.t 4),(.t 5)],(.seq (.reg [oq 4 (.mv (.c (.str []))),
oq 5 (.mv (.c (.bool false)))])
(.seq (.reg [mt 6 0,
mt 7 1,
oc 8 56 [(.t 6),(.t 7)] 0,
oq 9 (.extract (.t 8) 0),
oq 10 (.extract (.t 8) 1),
mt 4 9,
mt 5 10])
.ret))⟩
theorem row25 : Row Go.Proofs.Tryz.prog (25, a25) := ⟨Go.Proofs.Tryz.f25, Go.Proofs.Tryz.func25, by kernel_rfl⟩
noncomputable def a26 : AFn :=
⟨80,[(.t 2),(.cell 3 true 2)],(.seq (.reg [oq 2 (.mv (.c .nilsl)),
⟨(some 3),(.a (.alloc 32 [(.int .i64 (.ofNat 0)),(.int .i64 (.ofNat 0))])),none,0⟩])
(.seq (.seq (.reg [mt 10 0,
oq 11 (.lenStr (.t 10)),
oq 12 (bi .gtr (.t 11) (ci 9216))])
(.cond (.t 12) (.seq (.reg [oq 13 (.build [(.int .i64 (.ofNat 0)),(.int .i64 (.ofNat 0))] [(0,1,(ci 4)),(1,1,(ci 9216))]),
oq 2 (.mv (.c .nilsl)),
⟨none,(.x (.st 2 (.t 3) (.t 13))),none,0⟩])
.ret) .skip))
(.seq (.seq (.reg [mt 14 0,
oq 15 (.lenStr (.t 14)),
oq 16 (.mv (ci 0))])
(.block 0 (.loop (.seq (.reg [oq 17 (bi .lss (.t 16) (.t 15))])
(.seq (.cond (.t 17) .skip (.exit 0))
(.seq (.block 1 (.seq (.reg [mt 18 16,
mt 4 18])
(.seq (.reg [mt 19 0,
mt 20 4,
oq 21 (.idxStr (.t 19) (.t 20)),
oq 22 (bi .lss (.t 21) (.c (.int .u8 (.ofNat 48)))),
mt 23 22,
og 24 23 false 0 (.mv (.t 0)),
og 25 23 false 0 (.mv (.t 4)),
og 26 23 false 0 (.idxStr (.t 24) (.t 25)),
og 27 23 false 0 (bi .gtr (.t 26) (.c (.int .u8 (.ofNat 57)))),
oq 28 (.pick (.t 23) (.c (.bool true)) (.t 27))])
(.cond (.t 28) (.seq (.reg [mt 29 4,
oq 30 (.build [(.int .i64 (.ofNat 0)),(.int .i64 (.ofNat 0))] [(0,1,(ci 11)),(1,1,(.t 29))]),
oq 2 (.mv (.c .nilsl)),
⟨none,(.x (.st 2 (.t 3) (.t 30))),none,0⟩])
.ret) .skip))))
(.reg [oq 31 (bi .add (.t 16) (ci 1)),
mt 16 31])))))))
(.seq (.seq (.reg [mt 32 0,
oq 33 (.lenStr (.t 32)),
oq 34 (bi .eql (.t 33) (ci 0)),
mt 35 34,
og 36 35 false 0 (.mv (.t 0)),
og 37 35 false 0 (.lenStr (.t 36)),
og 38 35 false 0 (bi .gtr (.t 37) (ci 1)),
og 39 35 false 0 (.mv (.t 38)),
og 40 39 true 0 (.mv (.t 0)),
og 41 39 true 0 (.idxStr (.t 40) (ci 0)),
og 42 39 true 0 (bi .eql (.t 41) (.c (.int .u8 (.ofNat 48)))),
og 43 35 false 0 (.pick (.t 39) (.t 42) (.c (.bool false))),
oq 44 (.pick (.t 35) (.c (.bool true)) (.t 43))])
(.cond (.t 44) (.seq (.reg [oq 45 (.build [(.int .i64 (.ofNat 0)),(.int .i64 (.ofNat 0))] [(0,1,(ci 11))]),
oq 2 (.mv (.c .nilsl)),
⟨none,(.x (.st 2 (.t 3) (.t 45))),none,0⟩])
.ret) .skip))
(.seq (.reg [oq 5 (.mv (.c .nilsl))])
(.seq (.seq (.reg [mt 46 0,
oq 47 (.lenStr (.t 46)),
mt 6 47])
(.block 2 (.loop (.seq (.seq (.reg [mt 48 6,
oq 49 (bi .gtr (.t 48) (ci 0))])
(.cond (.t 49) .skip (.exit 2)))
(.seq (.block 3 (.seq (.reg [oq 7 (.mv (.c (.int .u32 (.ofNat 0))))])
(.seq (.seq (.reg [mt 52 0,
mt 53 6,
oq 54 (bi .sub (.t 53) (ci 9)),
oq 55 (.minmax true [(ci 0),(.t 54)]),
mt 56 6,
oq 57 (.slc .str (.t 52) (some (.t 55)) (some (.t 56)) none),
⟨(some 58),(.a (.strBytes 5 (.t 57))),none,0⟩,
oq 59 (.lenSl (.t 58)),
oq 60 (.mv (ci 0))])
(.block 4 (.loop (.seq (.reg [oq 61 (bi .lss (.t 60) (.t 59))])
(.seq (.cond (.t 61) .skip (.exit 4))
(.seq (.block 5 (.seq (.reg [oq 62 (.iaddr (.slice 1) (.t 58) (.t 60)),
oq 63 (ld 62),
mt 9 63])
(.reg [mt 64 7,
oq 65 (bi .mul (.c (.int .u32 (.ofNat 10))) (.t 64)),
mt 66 9,
oq 67 (bi .sub (.t 66) (.c (.int .u8 (.ofNat 48)))),
oq 68 (.conv (.int .u32) (.t 67)),
oq 69 (bi .add (.t 65) (.t 68)),
mt 7 69])))
(.reg [oq 70 (bi .add (.t 60) (ci 1)),
mt 60 70])))))))
(.reg [mt 71 5,
mt 72 7,
⟨(some 73),(.a (.bslice 47 1 1 [(.int .u32 (.ofNat 0))] [(0,(.t 72))])),none,0⟩,
⟨(some 74),(.x (.app 47 1 4 (.t 71) (.t 73))),none,0⟩,
mt 5 74]))))
(.reg [mt 50 6,
oq 51 (bi .sub (.t 50) (ci 9)),
mt 6 51]))))))
(.seq (.seq (.reg [mt 75 0,
oq 76 (.bin .eql (.p .str) (.t 75) (.c (.str [48])))])
(.cond (.t 76) (.seq (.reg [oq 77 (.build [(.int .i64 (.ofNat 0)),(.int .i64 (.ofNat 0))] []),
oq 2 (.mv (.c .nilsl)),
⟨none,(.x (.st 2 (.t 3) (.t 77))),none,0⟩])
.ret) .skip))
(.seq (.reg [mt 78 5,
oq 79 (.build [(.int .i64 (.ofNat 0)),(.int .i64 (.ofNat 0))] []),
mt 2 78,
⟨none,(.x (.st 2 (.t 3) (.t 79))),none,0⟩])
.ret))))))))⟩
theorem row26 : Row Go.Proofs.Tryz.prog (26, a26) := ⟨Go.Proofs.Tryz.f26, Go.Proofs.Tryz.func26, by kernel_rfl⟩
noncomputable def a27 : AFn :=
⟨2,[(.t 0)],(.seq (.reg [oq 0 (.mv (.c .nilsl))])
(.seq (.reg [⟨(some 1),(.a (.bslice 47 1 1 [(.int .u32 (.ofNat 0))] [(0,(.c (.int .u32 (.ofNat 1))))])),none,0⟩,
mt 0 1])
.ret))⟩
theorem row27 : Row Go.Proofs.Tryz.prog (27, a27) := ⟨Go.Proofs.Tryz.f27, Go.Proofs.Tryz.func27, by kernel_rfl⟩
noncomputable def a28 : AFn :=
⟨39,[(.cell 6 true 3)],(.seq (.reg [⟨(some 6),(.a (.alloc 25 [(.bool false),.nilsl,.nilsl])),none,0⟩])
(.seq (.seq (.reg [mt 8 1,
oq 9 (.lenSl (.t 8)),
oq 10 (bi .eql (.t 9) (ci 0))])
(.cond (.t 10) (.seq (.reg [oc 11 42 [] 0,
⟨none,(.x (.st 3 (.t 6) (.t 11))),none,0⟩])
.ret) .skip))
(.seq (.seq (.reg [mt 12 1,
oq 13 (.lenSl (.t 12)),
oq 14 (bi .leq (.t 13) (ci 2)),
mt 15 14,
og 16 15 true 0 (.mv (.t 2)),
og 17 15 true 0 (.lenSl (.t 16)),
og 18 15 true 0 (bi .leq (.t 17) (ci 2)),
oq 19 (.pick (.t 15) (.t 18) (.c (.bool false)))])
(.cond (.t 19) (.seq (.reg [mt 20 0,
mt 21 1,
oc 22 58 [(.t 21)] 0,
mt 23 2,
oc 24 58 [(.t 23)] 0,
oc 25 57 [(.t 20),(.t 22),(.t 24)] 0,
⟨none,(.x (.st 3 (.t 6) (.t 25))),none,0⟩])
.ret) .skip))
(.seq (.reg [mt 26 1,
mt 27 2,
oc 28 59 [(.t 26),(.t 27)] 0,
mt 7 28])
(.seq (.reg [mt 29 0,
mt 30 1,
mt 31 7,
oc 32 61 [(.t 30),(.t 31)] 0,
oc 33 60 [(.t 32)] 0,
mt 34 2,
mt 35 7,
oc 36 61 [(.t 34),(.t 35)] 0,
oc 37 60 [(.t 36)] 0,
oq 38 (.build [(.bool false),.nilsl,.nilsl] [(0,1,(.t 29)),(1,1,(.t 33)),(2,1,(.t 37))]),
⟨none,(.x (.st 3 (.t 6) (.t 38))),none,0⟩])
.ret)))))⟩
theorem row28 : Row Go.Proofs.Tryz.prog (28, a28) := ⟨Go.Proofs.Tryz.f28, Go.Proofs.Tryz.func28, by kernel_rfl⟩
noncomputable def a29 : AFn :=
⟨74,[(.t 2),(.cell 3 true 2)],(.seq (.reg [oq 2 (.mv (.c .nilsl)),
⟨(some 3),(.a (.alloc 32 [(.int .i64 (.ofNat 0)),(.int .i64 (.ofNat 0))])),none,0⟩])
(.seq (.seq (.reg [mt 9 0,
oq 10 (.lenStr (.t 9)),
oq 11 (bi .gtr (.t 10) (ci 9216))])
(.cond (.t 11) (.seq (.reg [oq 12 (.build [(.int .i64 (.ofNat 0)),(.int .i64 (.ofNat 0))] [(0,1,(ci 4)),(1,1,(ci 9216))]),
oq 2 (.mv (.c .nilsl)),
⟨none,(.x (.st 2 (.t 3) (.t 12))),none,0⟩])
.ret) .skip))
(.seq (.seq (.reg [oq 4 (.mv (ci 0))])
(.block 0 (.loop (.seq (.seq (.reg [mt 13 4,
mt 14 0,
oq 15 (.lenStr (.t 14)),
oq 16 (bi .lss (.t 13) (.t 15))])
(.cond (.t 16) .skip (.exit 0)))
(.seq (.block 1 (.seq (.reg [mt 19 0,
mt 20 4,
oq 21 (.idxStr (.t 19) (.t 20)),
oq 22 (bi .lss (.t 21) (.c (.int .u8 (.ofNat 48)))),
mt 23 22,
og 24 23 false 0 (.mv (.t 0)),
og 25 23 false 0 (.mv (.t 4)),
og 26 23 false 0 (.idxStr (.t 24) (.t 25)),
og 27 23 false 0 (bi .gtr (.t 26) (.c (.int .u8 (.ofNat 57)))),
oq 28 (.pick (.t 23) (.c (.bool true)) (.t 27))])
(.cond (.t 28) (.seq (.reg [mt 29 4,
oq 30 (.build [(.int .i64 (.ofNat 0)),(.int .i64 (.ofNat 0))] [(0,1,(ci 11)),(1,1,(.t 29))]),
oq 2 (.mv (.c .nilsl)),
⟨none,(.x (.st 2 (.t 3) (.t 30))),none,0⟩])
.ret) .skip)))
(.reg [mt 17 4,
oq 18 (bi .add (.t 17) (ci 1)),
mt 4 18]))))))
(.seq (.seq (.reg [mt 31 0,
oq 32 (.lenStr (.t 31)),
oq 33 (bi .eql (.t 32) (ci 0)),
mt 34 33,
og 35 34 false 0 (.mv (.t 0)),
og 36 34 false 0 (.lenStr (.t 35)),
og 37 34 false 0 (bi .gtr (.t 36) (ci 1)),
og 38 34 false 0 (.mv (.t 37)),
og 39 38 true 0 (.mv (.t 0)),
og 40 38 true 0 (.idxStr (.t 39) (ci 0)),
og 41 38 true 0 (bi .eql (.t 40) (.c (.int .u8 (.ofNat 48)))),
og 42 34 false 0 (.pick (.t 38) (.t 41) (.c (.bool false))),
oq 43 (.pick (.t 34) (.c (.bool true)) (.t 42))])
(.cond (.t 43) (.seq (.reg [oq 44 (.build [(.int .i64 (.ofNat 0)),(.int .i64 (.ofNat 0))] [(0,1,(ci 11))]),
oq 2 (.mv (.c .nilsl)),
⟨none,(.x (.st 2 (.t 3) (.t 44))),none,0⟩])
.ret) .skip))
(.seq (.reg [oq 5 (.mv (.c .nilsl))])
(.seq (.seq (.reg [mt 45 0,
oq 46 (.lenStr (.t 45)),
mt 6 46])
(.block 2 (.loop (.seq (.seq (.reg [mt 47 6,
oq 48 (bi .gtr (.t 47) (ci 0))])
(.cond (.t 48) .skip (.exit 2)))
(.seq (.block 3 (.seq (.reg [oq 7 (.mv (.c (.int .u32 (.ofNat 0))))])
(.seq (.seq (.reg [mt 51 6,
oq 52 (bi .sub (.t 51) (ci 9)),
oq 53 (.minmax true [(ci 0),(.t 52)]),
mt 8 53])
(.block 4 (.loop (.seq (.seq (.reg [mt 54 8,
mt 55 6,
oq 56 (bi .lss (.t 54) (.t 55))])
(.cond (.t 56) .skip (.exit 4)))
(.seq (.block 5 (.reg [mt 59 7,
oq 60 (bi .mul (.c (.int .u32 (.ofNat 10))) (.t 59)),
mt 61 0,
mt 62 8,
oq 63 (.idxStr (.t 61) (.t 62)),
oq 64 (bi .sub (.t 63) (.c (.int .u8 (.ofNat 48)))),
oq 65 (.conv (.int .u32) (.t 64)),
oq 66 (bi .add (.t 60) (.t 65)),
mt 7 66]))
(.reg [mt 57 8,
oq 58 (bi .add (.t 57) (ci 1)),
mt 8 58]))))))
(.reg [mt 67 5,
mt 68 7,
⟨(some 69),(.a (.bslice 47 1 1 [(.int .u32 (.ofNat 0))] [(0,(.t 68))])),none,0⟩,
⟨(some 70),(.x (.app 47 1 4 (.t 67) (.t 69))),none,0⟩,
mt 5 70]))))
(.reg [mt 49 6,
oq 50 (bi .sub (.t 49) (ci 9)),
mt 6 50]))))))
(.seq (.reg [mt 71 5,
oc 72 62 [(.t 71)] 0,
oq 73 (.build [(.int .i64 (.ofNat 0)),(.int .i64 (.ofNat 0))] []),
mt 2 72,
⟨none,(.x (.st 2 (.t 3) (.t 73))),none,0⟩])
.ret)))))))⟩
theorem row29 : Row Go.Proofs.Tryz.prog (29, a29) := ⟨Go.Proofs.Tryz.f29, Go.Proofs.Tryz.func29, by kernel_rfl⟩
noncomputable def a30 : AFn :=
⟨32,[(.cell 6 true 3)],(.seq (.reg [⟨(some 6),(.a (.alloc 25 [(.bool false),.nilsl,.nilsl])),none,0⟩])
(.seq (.seq (.reg [mt 8 1,
oq 9 (.lenSl (.t 8)),
oq 10 (bi .eql (.t 9) (ci 0))])
(.cond (.t 10) (.seq (.reg [⟨(some 11),(.a (.bslice 47 1 1 [(.int .u32 (.ofNat 0))] [(0,(.c (.int .u32 (.ofNat 1))))])),none,0⟩,
oq 12 (.build [(.bool false),.nilsl,.nilsl] [(2,1,(.t 11))]),
⟨none,(.x (.st 3 (.t 6) (.t 12))),none,0⟩])
.ret) .skip))
(.seq (.reg [mt 13 1,
mt 14 2,
oc 15 52 [(.t 13),(.t 14)] 0,
mt 7 15])
(.seq (.reg [mt 17 1,
mt 18 7,
oc 19 63 [(.t 17),(.t 18)] 0,
mt 16 19,
oq 20 (.extract (.t 16) 0),
oq 21 (.extract (.t 16) 1),
mt 1 20])
(.seq (.reg [mt 23 2,
mt 24 7,
oc 25 63 [(.t 23),(.t 24)] 0,
mt 22 25,
oq 26 (.extract (.t 22) 0),
oq 27 (.extract (.t 22) 1),
mt 2 26])
(.seq (.reg [mt 28 0,
mt 29 1,
mt 30 2,
oq 31 (.build [(.bool false),.nilsl,.nilsl] [(0,1,(.t 28)),(1,1,(.t 29)),(2,1,(.t 30))]),
⟨none,(.x (.st 3 (.t 6) (.t 31))),none,0⟩])
.ret))))))⟩
theorem row30 : Row Go.Proofs.Tryz.prog (30, a30) := ⟨Go.Proofs.Tryz.f30, Go.Proofs.Tryz.func30, by kernel_rfl⟩
noncomputable def a31 : AFn :=
⟨26,[(.t 4)],(.seq (.reg [oq 4 (.mv (.c (.bool false)))])
(.seq (.seq (.reg [mt 6 0,
oq 7 (.lenSl (.t 6)),
mt 8 1,
oq 9 (.lenSl (.t 8)),
oq 10 (bi .neq (.t 7) (.t 9))])
(.cond (.t 10) (.seq (.reg [oq 4 (.mv (.c (.bool false)))])
.ret) .skip))
(.seq (.seq (.reg [oq 5 (.mv (ci 0))])
(.block 0 (.loop (.seq (.seq (.reg [mt 11 5,
mt 12 0,
oq 13 (.lenSl (.t 12)),
oq 14 (bi .lss (.t 11) (.t 13))])
(.cond (.t 14) .skip (.exit 0)))
(.seq (.block 1 (.seq (.drw [mt 17 0,
mt 18 5,
om 19 3 (.iaddr (.slice 1) (.t 17) (.t 18)),
om 20 7 (ld 19),
mt 21 1,
mt 22 5,
om 23 48 (.iaddr (.slice 1) (.t 21) (.t 22)),
om 24 112 (ld 23),
om 25 255 (bi .neq (.t 20) (.t 24))])
(.cond (.t 25) (.seq (.reg [oq 4 (.mv (.c (.bool false)))])
.ret) .skip)))
(.reg [mt 15 5,
oq 16 (bi .add (.t 15) (ci 1)),
mt 5 16]))))))
(.seq (.reg [oq 4 (.mv (.c (.bool true)))])
.ret))))⟩
theorem row31 : Row Go.Proofs.Tryz.prog (31, a31) := ⟨Go.Proofs.Tryz.f31, Go.Proofs.Tryz.func31, by kernel_rfl⟩
noncomputable def a42 : AFn :=
⟨3,[(.cell 0 true 3)],(.seq (.reg [⟨(some 0),(.a (.alloc 25 [(.bool false),.nilsl,.nilsl])),none,0⟩])
(.seq (.reg [oc 1 27 [] 0,
oq 2 (.build [(.bool false),.nilsl,.nilsl] [(2,1,(.t 1))]),
⟨none,(.x (.st 3 (.t 0) (.t 2))),none,0⟩])
.ret))⟩
theorem row42 : Row Go.Proofs.Tryz.prog (42, a42) := ⟨Go.Proofs.Tryz.f42, Go.Proofs.Tryz.func42, by kernel_rfl⟩
noncomputable def a45 : AFn :=
⟨15,[(.t 2)],(.seq (.reg [oq 2 (.mv (.c .nilsl))])
(.seq (.reg [oq 3 (.mv (.c .nilsl))])
(.seq (.block 0 (.loop (.seq (.seq (.reg [mt 4 0,
oq 5 (bi .gtr (.t 4) (.c (.int .u64 (.ofNat 0))))])
(.cond (.t 5) .skip (.exit 0)))
(.block 1 (.seq (.reg [mt 6 3,
mt 7 0,
oq 8 (bi .rem (.t 7) (.c (.int .u64 (.ofNat 1000000000)))),
oq 9 (.conv (.int .u32) (.t 8)),
⟨(some 10),(.a (.bslice 47 1 1 [(.int .u32 (.ofNat 0))] [(0,(.t 9))])),none,0⟩,
⟨(some 11),(.x (.app 47 1 4 (.t 6) (.t 10))),none,0⟩,
mt 3 11])
(.reg [mt 12 0,
oq 13 (bi .quo (.t 12) (.c (.int .u64 (.ofNat 1000000000)))),
mt 0 13]))))))
(.seq (.reg [mt 14 3,
mt 2 14])
.ret))))⟩
theorem row45 : Row Go.Proofs.Tryz.prog (45, a45) := ⟨Go.Proofs.Tryz.f45, Go.Proofs.Tryz.func45, by kernel_rfl⟩
noncomputable def a48 : AFn :=
⟨20,[(.t 4)],(.seq (.reg [oq 4 (.mv (ci 0))])
(.seq (.seq (.reg [mt 7 0,
oc 8 50 [(.t 7)] 0,
mt 5 8])
(.seq (.reg [mt 9 5,
oq 10 (bi .neq (.t 9) (ci 0))])
(.cond (.t 10) (.seq (.reg [mt 11 5,
mt 4 11])
.ret) .skip)))
(.seq (.seq (.reg [mt 12 1,
oc 13 50 [(.t 12)] 0,
mt 6 13])
(.seq (.reg [mt 14 6,
oq 15 (bi .neq (.t 14) (ci 0))])
(.cond (.t 15) (.seq (.reg [mt 16 6,
mt 4 16])
.ret) .skip)))
(.seq (.seq (.reg [mt 17 1,
oq 18 (.lenSl (.t 17)),
oq 19 (bi .eql (.t 18) (ci 0))])
(.cond (.t 19) (.seq (.reg [oq 4 (.mv (ci 6))])
.ret) .skip))
(.seq (.reg [oq 4 (.mv (ci 0))])
.ret)))))⟩
theorem row48 : Row Go.Proofs.Tryz.prog (48, a48) := ⟨Go.Proofs.Tryz.f48, Go.Proofs.Tryz.func48, by kernel_rfl⟩
noncomputable def a49 : AFn :=
⟨23,[(.t 4)],(.seq (.reg [oq 4 (.mv (.c (.bool false)))])
(.seq (.seq (.reg [mt 5 0,
oq 6 (.lenSl (.t 5)),
oq 7 (bi .leq (.t 6) (ci 2)),
mt 8 7,
og 9 8 true 0 (.mv (.t 1)),
og 10 8 true 0 (.lenSl (.t 9)),
og 11 8 true 0 (bi .leq (.t 10) (ci 2)),
oq 12 (.pick (.t 8) (.t 11) (.c (.bool false)))])
(.cond (.t 12) (.seq (.reg [mt 13 0,
oc 14 58 [(.t 13)] 0,
mt 15 1,
oc 16 58 [(.t 15)] 0,
oc 17 80 [(.t 14),(.t 16)] 0,
oq 18 (bi .eql (.t 17) (.c (.int .u64 (.ofNat 1)))),
mt 4 18])
.ret) .skip))
(.seq (.reg [mt 19 0,
mt 20 1,
oc 21 59 [(.t 19),(.t 20)] 0,
oc 22 19 [(.t 21)] 0,
mt 4 22])
.ret)))⟩
theorem row49 : Row Go.Proofs.Tryz.prog (49, a49) := ⟨Go.Proofs.Tryz.f49, Go.Proofs.Tryz.func49, by kernel_rfl⟩
noncomputable def a50 : AFn :=
⟨29,[(.t 2)],(.seq (.reg [oq 2 (.mv (ci 0))])
(.seq (.seq (.reg [mt 5 0,
oq 6 (.lenSl (.t 5)),
oq 7 (bi .gtr (.t 6) (ci 1024))])
(.cond (.t 7) (.seq (.reg [oq 2 (.mv (ci 4))])
.ret) .skip))
(.seq (.seq (.reg [mt 8 0,
oq 9 (.lenSl (.t 8)),
oq 10 (.mv (ci 0))])
(.block 0 (.loop (.seq (.reg [oq 11 (bi .lss (.t 10) (.t 9))])
(.seq (.cond (.t 11) .skip (.exit 0))
(.seq (.block 1 (.seq (.reg [oq 12 (.iaddr (.slice 1) (.t 8) (.t 10)),
oq 13 (ld 12),
mt 4 13])
(.seq (.reg [mt 14 4,
oq 15 (bi .geq (.t 14) (.c (.int .u32 (.ofNat 1000000000))))])
(.cond (.t 15) (.seq (.reg [oq 2 (.mv (ci 3))])
.ret) .skip))))
(.reg [oq 16 (bi .add (.t 10) (ci 1)),
mt 10 16])))))))
(.seq (.seq (.reg [mt 17 0,
oq 18 (.lenSl (.t 17)),
oq 19 (bi .gtr (.t 18) (ci 0)),
mt 20 19,
og 21 20 true 0 (.mv (.t 0)),
og 22 20 true 0 (.mv (.t 0)),
og 23 20 true 0 (.lenSl (.t 22)),
og 24 20 true 0 (bi .sub (.t 23) (ci 1)),
og 25 20 true 0 (.iaddr (.slice 1) (.t 21) (.t 24)),
og 26 20 true 0 (ld 25),
og 27 20 true 0 (bi .eql (.t 26) (.c (.int .u32 (.ofNat 0)))),
oq 28 (.pick (.t 20) (.t 27) (.c (.bool false)))])
(.cond (.t 28) (.seq (.reg [oq 2 (.mv (ci 3))])
.ret) .skip))
(.seq (.reg [oq 2 (.mv (ci 0))])
.ret)))))⟩
theorem row50 : Row Go.Proofs.Tryz.prog (50, a50) := ⟨Go.Proofs.Tryz.f50, Go.Proofs.Tryz.func50, by kernel_rfl⟩
noncomputable def a51 : AFn :=
⟨20,[(.t 4)],(.seq (.reg [oq 4 (.mv (ci 0))])
(.seq (.seq (.reg [mt 7 0,
oc 8 53 [(.t 7)] 0,
mt 5 8])
(.seq (.reg [mt 9 5,
oq 10 (bi .neq (.t 9) (ci 0))])
(.cond (.t 10) (.seq (.reg [mt 11 5,
mt 4 11])
.ret) .skip)))
(.seq (.seq (.reg [mt 12 1,
oc 13 53 [(.t 12)] 0,
mt 6 13])
(.seq (.reg [mt 14 6,
oq 15 (bi .neq (.t 14) (ci 0))])
(.cond (.t 15) (.seq (.reg [mt 16 6,
mt 4 16])
.ret) .skip)))
(.seq (.seq (.reg [mt 17 1,
oq 18 (.lenSl (.t 17)),
oq 19 (bi .eql (.t 18) (ci 0))])
(.cond (.t 19) (.seq (.reg [oq 4 (.mv (ci 6))])
.ret) .skip))
(.seq (.reg [oq 4 (.mv (ci 0))])
.ret)))))⟩
theorem row51 : Row Go.Proofs.Tryz.prog (51, a51) := ⟨Go.Proofs.Tryz.f51, Go.Proofs.Tryz.func51, by kernel_rfl⟩
noncomputable def a52 : AFn :=
⟨19,[(.t 4)],(.seq (.reg [oq 4 (.mv (.c .nilsl))])
(.seq (.block 0 (.loop (.seq (.seq (.reg [mt 7 1,
oq 8 (.lenSl (.t 7)),
oq 9 (bi .gtr (.t 8) (ci 0))])
(.cond (.t 9) .skip (.exit 0)))
(.block 1 (.seq (.reg [mt 11 0,
mt 12 1,
oc 13 63 [(.t 11),(.t 12)] 0,
mt 10 13,
oq 14 (.extract (.t 10) 0),
oq 15 (.extract (.t 10) 1),
mt 5 14,
mt 6 15])
(.reg [mt 16 1,
mt 17 6,
mt 0 16,
mt 1 17]))))))
(.seq (.reg [mt 18 0,
mt 4 18])
.ret)))⟩
theorem row52 : Row Go.Proofs.Tryz.prog (52, a52) := ⟨Go.Proofs.Tryz.f52, Go.Proofs.Tryz.func52, by kernel_rfl⟩
noncomputable def a53 : AFn :=
⟨30,[(.t 2)],(.seq (.reg [oq 2 (.mv (ci 0))])
(.seq (.seq (.reg [mt 4 0,
oq 5 (.lenSl (.t 4)),
oq 6 (bi .gtr (.t 5) (ci 1024))])
(.cond (.t 6) (.seq (.reg [oq 2 (.mv (ci 4))])
.ret) .skip))
(.seq (.seq (.reg [oq 3 (.mv (ci 0))])
(.block 0 (.loop (.seq (.seq (.reg [mt 7 3,
mt 8 0,
oq 9 (.lenSl (.t 8)),
oq 10 (bi .lss (.t 7) (.t 9))])
(.cond (.t 10) .skip (.exit 0)))
(.seq (.block 1 (.seq (.reg [mt 13 0,
mt 14 3,
oq 15 (.iaddr (.slice 1) (.t 13) (.t 14)),
oq 16 (ld 15),
oq 17 (bi .geq (.t 16) (.c (.int .u32 (.ofNat 1000000000))))])
(.cond (.t 17) (.seq (.reg [oq 2 (.mv (ci 3))])
.ret) .skip)))
(.reg [mt 11 3,
oq 12 (bi .add (.t 11) (ci 1)),
mt 3 12]))))))
(.seq (.seq (.reg [mt 18 0,
oq 19 (.lenSl (.t 18)),
oq 20 (bi .gtr (.t 19) (ci 0)),
mt 21 20,
og 22 21 true 0 (.mv (.t 0)),
og 23 21 true 0 (.mv (.t 0)),
og 24 21 true 0 (.lenSl (.t 23)),
og 25 21 true 0 (bi .sub (.t 24) (ci 1)),
og 26 21 true 0 (.iaddr (.slice 1) (.t 22) (.t 25)),
og 27 21 true 0 (ld 26),
og 28 21 true 0 (bi .eql (.t 27) (.c (.int .u32 (.ofNat 0)))),
oq 29 (.pick (.t 21) (.t 28) (.c (.bool false)))])
(.cond (.t 29) (.seq (.reg [oq 2 (.mv (ci 3))])
.ret) .skip))
(.seq (.reg [oq 2 (.mv (ci 0))])
.ret)))))⟩
theorem row53 : Row Go.Proofs.Tryz.prog (53, a53) := ⟨Go.Proofs.Tryz.f53, Go.Proofs.Tryz.func53, by kernel_rfl⟩
noncomputable def a54 : AFn :=
⟨9,[(.t 4)],(.seq (.reg [oq 4 (.mv (.c (.bool false)))])
(.seq (.reg [mt 5 0,
mt 6 1,
oc 7 81 [(.t 5),(.t 6)] 0,
oq 8 (bi .geq (.t 7) (ci 0)),
mt 4 8])
.ret))⟩
theorem row54 : Row Go.Proofs.Tryz.prog (54, a54) := ⟨Go.Proofs.Tryz.f54, Go.Proofs.Tryz.func54, by kernel_rfl⟩
noncomputable def a55 : AFn :=
⟨23,[(.t 4),(.t 5),(.t 6)],(.seq (.reg [oq 4 (.mv (.c (.str []))),
oq 5 (.mv (.c (.str []))),
oq 6 (.mv (.c (.bool false)))])
(.seq (.seq (.reg [mt 8 0,
mt 9 1,
oc 10 82 [(.t 8),(.t 9)] 0,
mt 7 10])
(.seq (.reg [mt 11 7,
oq 12 (bi .geq (.t 11) (ci 0))])
(.cond (.t 12) (.seq (.drw [mt 13 0,
mt 14 7,
om 15 3 (.slc .str (.t 13) none (some (.t 14)) none),
mt 16 0,
mt 17 7,
mt 18 1,
om 19 32 (.lenStr (.t 18)),
om 20 112 (bi .add (.t 17) (.t 19)),
om 21 248 (.slc .str (.t 16) (some (.t 20)) none none),
om 4 7 (.mv (.t 15)),
om 5 1023 (.mv (.t 21)),
om 6 2047 (.mv (.c (.bool true)))])
.ret) .skip)))
(.seq (.reg [mt 22 0,
mt 4 22,
oq 5 (.mv (.c (.str []))),
oq 6 (.mv (.c (.bool false)))])
.ret)))⟩
theorem row55 : Row Go.Proofs.Tryz.prog (55, a55) := ⟨Go.Proofs.Tryz.f55, Go.Proofs.Tryz.func55, by kernel_rfl⟩
noncomputable def a56 : AFn :=
⟨15,[(.t 4),(.t 5)],(.seq (.reg [oq 4 (.mv (.c (.str []))),
oq 5 (.mv (.c (.bool false)))])
(.seq (.seq (.reg [mt 6 0,
mt 7 1,
oc 8 83 [(.t 6),(.t 7)] 0,
oq 9 (.un .not (.t 8))])
(.cond (.t 9) (.seq (.reg [mt 10 0,
mt 4 10,
oq 5 (.mv (.c (.bool false)))])
.ret) .skip))
(.seq (.reg [mt 11 0,
mt 12 1,
oq 13 (.lenStr (.t 12)),
oq 14 (.slc .str (.t 11) (some (.t 13)) none none),
mt 4 14,
oq 5 (.mv (.c (.bool true)))])
.ret)))⟩
theorem row56 : Row Go.Proofs.Tryz.prog (56, a56) := ⟨Go.Proofs.Tryz.f56, Go.Proofs.Tryz.func56, by kernel_rfl⟩
noncomputable def a57 : AFn :=
⟨21,[(.cell 6 true 3)],(.seq (.reg [⟨(some 6),(.a (.alloc 25 [(.bool false),.nilsl,.nilsl])),none,0⟩])
(.seq (.reg [mt 8 1,
mt 9 2,
oc 10 80 [(.t 8),(.t 9)] 0,
mt 7 10])
(.seq (.drw [mt 11 0,
mt 12 1,
mt 13 7,
om 14 6 (bi .quo (.t 12) (.t 13)),
oc 15 45 [(.t 14)] 14,
mt 16 2,
mt 17 7,
om 18 96 (bi .quo (.t 16) (.t 17)),
oc 19 45 [(.t 18)] 254,
om 20 511 (.build [(.bool false),.nilsl,.nilsl] [(0,1,(.t 11)),(1,1,(.t 15)),(2,1,(.t 19))]),
⟨none,(.x (.st 3 (.t 6) (.t 20))),none,1023⟩])
.ret)))⟩
theorem row57 : Row Go.Proofs.Tryz.prog (57, a57) := ⟨Go.Proofs.Tryz.f57, Go.Proofs.Tryz.func57, by kernel_rfl⟩
noncomputable def a58 : AFn :=
⟨21,[(.t 2)],(.seq (.reg [oq 2 (.mv (.c (.int .u64 (.ofNat 0))))])
(.seq (.reg [oq 3 (.mv (.c (.int .u64 (.ofNat 0))))])
(.seq (.seq (.reg [mt 5 0,
oq 6 (.lenSl (.t 5)),
oq 7 (bi .sub (.t 6) (ci 1)),
mt 4 7])
(.block 0 (.loop (.seq (.seq (.reg [mt 8 4,
oq 9 (bi .geq (.t 8) (ci 0))])
(.cond (.t 9) .skip (.exit 0)))
(.seq (.block 1 (.reg [mt 12 3,
oq 13 (bi .mul (.t 12) (.c (.int .u64 (.ofNat 1000000000)))),
mt 14 0,
mt 15 4,
oq 16 (.iaddr (.slice 1) (.t 14) (.t 15)),
oq 17 (ld 16),
oq 18 (.conv (.int .u64) (.t 17)),
oq 19 (bi .add (.t 13) (.t 18)),
mt 3 19]))
(.reg [mt 10 4,
oq 11 (bi .sub (.t 10) (ci 1)),
mt 4 11]))))))
(.seq (.reg [mt 20 3,
mt 2 20])
.ret))))⟩
theorem row58 : Row Go.Proofs.Tryz.prog (58, a58) := ⟨Go.Proofs.Tryz.f58, Go.Proofs.Tryz.func58, by kernel_rfl⟩
noncomputable def a59 : AFn :=
⟨91,[(.t 4)],(.seq (.reg [oq 4 (.mv (.c .nilsl))])
(.seq (.seq (.reg [mt 13 0,
oq 14 (.lenSl (.t 13)),
oq 15 (bi .leq (.t 14) (ci 2)),
mt 16 15,
og 17 16 true 0 (.mv (.t 1)),
og 18 16 true 0 (.lenSl (.t 17)),
og 19 16 true 0 (bi .leq (.t 18) (ci 2)),
oq 20 (.pick (.t 16) (.t 19) (.c (.bool false)))])
(.cond (.t 20) (.seq (.reg [mt 21 0,
oc 22 58 [(.t 21)] 0,
mt 23 1,
oc 24 58 [(.t 23)] 0,
oc 25 80 [(.t 22),(.t 24)] 0,
oc 26 45 [(.t 25)] 0,
mt 4 26])
.ret) .skip))
(.seq (.seq (.reg [mt 27 0,
oc 28 19 [(.t 27)] 0,
mt 29 28,
og 30 29 false 0 (.mv (.t 1)),
⟨(some 31),(.x (.call (.c (.fn 19 [] [])) [(.t 30)])),(some (29,false)),0⟩,
oq 32 (.pick (.t 29) (.c (.bool true)) (.t 31))])
(.cond (.t 32) (.seq (.reg [oc 33 27 [] 0,
mt 4 33])
.ret) .skip))
(.seq (.seq (.reg [mt 34 0,
mt 35 1,
oc 36 71 [(.t 34),(.t 35)] 0,
oq 37 (bi .lss (.t 36) (ci 0))])
(.cond (.t 37) (.reg [mt 38 1,
mt 39 0,
mt 0 38,
mt 1 39]) .skip))
(.seq (.block 0 (.loop (.seq (.seq (.reg [mt 40 1,
oq 41 (.lenSl (.t 40)),
oq 42 (bi .gtr (.t 41) (ci 2))])
(.cond (.t 42) .skip (.exit 0)))
(.block 1 (.seq (.reg [mt 44 0,
mt 45 1,
oc 46 85 [(.t 44),(.t 45)] 0,
oq 47 (.extract (.t 46) 0),
oq 48 (.extract (.t 46) 1),
oc 49 84 [(.t 47),(.t 48)] 0,
mt 43 49,
oq 50 (.extract (.t 43) 0),
oq 51 (.extract (.t 43) 1),
oq 52 (.extract (.t 43) 2),
oq 53 (.extract (.t 43) 3),
mt 5 50,
mt 6 51,
mt 7 52,
mt 8 53])
(.seq (.seq (.reg [mt 54 6,
oq 55 (bi .eql (.t 54) (ci 0))])
(.cond (.t 55) (.seq (.reg [mt 57 0,
mt 58 1,
oc 59 73 [(.t 57),(.t 58)] 0,
mt 56 59,
oq 60 (.extract (.t 56) 0),
oq 61 (.extract (.t 56) 1),
mt 9 60,
mt 10 61])
(.seq (.reg [mt 62 1,
mt 63 10,
mt 0 62,
mt 1 63])
(.exit 1))) .skip))
(.reg [mt 64 0,
mt 65 1,
mt 66 5,
mt 67 6,
oc 68 86 [(.t 64),(.t 65),(.t 66),(.t 67)] 0,
mt 69 0,
mt 70 1,
mt 71 7,
mt 72 8,
oc 73 86 [(.t 69),(.t 70),(.t 71),(.t 72)] 0,
mt 0 68,
mt 1 73])))))))
(.seq (.seq (.reg [mt 74 1,
oq 75 (.lenSl (.t 74)),
oq 76 (bi .eql (.t 75) (ci 0))])
(.cond (.t 76) (.seq (.reg [mt 77 0,
oc 78 60 [(.t 77)] 0,
mt 4 78])
.ret) .skip))
(.seq (.reg [mt 80 0,
mt 81 1,
oc 82 73 [(.t 80),(.t 81)] 0,
mt 79 82,
oq 83 (.extract (.t 79) 0),
oq 84 (.extract (.t 79) 1),
mt 11 83,
mt 12 84])
(.seq (.reg [mt 85 1,
oc 86 58 [(.t 85)] 0,
mt 87 12,
oc 88 58 [(.t 87)] 0,
oc 89 80 [(.t 86),(.t 88)] 0,
oc 90 45 [(.t 89)] 0,
mt 4 90])
.ret))))))))⟩
theorem row59 : Row Go.Proofs.Tryz.prog (59, a59) := ⟨Go.Proofs.Tryz.f59, Go.Proofs.Tryz.func59, by kernel_rfl⟩
end Go.Ev.Gl
