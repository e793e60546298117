/- The functions that Lives4 reaches, as data of the evaluator (part 0), written by program; each is shown to be the compiler's result on the loaded function. -/
import Derived.Test.YtlnjemhkijkaoaaProg
import Derived.Test.YtlnjemhkijkaoaaEv8
import Derived.KernelRfl
namespace Go.Ev.Gl
end Go.Ev.Gl
namespace Go.Proofs.Ytlnjemhkijkaoaa.lives4
open Go.Ev Go.Ev.Gl
set_option maxRecDepth 100000
noncomputable def a9 : AFn :=
⟨23,[(.t 6)],(.seq (.reg [⟨(some 3),(.a (.box 34 (.t 0))),none,0⟩,
⟨(some 4),(.a (.box 34 (.t 1))),none,0⟩,
oq 6 (.mv (.c (.bool false)))])
(.seq (.drw [oc 10 20 [] 0,
oq 11 (.ld true 2 (.t 3)),
oq 12 (.ld true 2 (.t 4)),
oc 13 19 [(.t 10),(.t 11),(.t 12),(ci 0)] 7,
om 9 15 (.mv (.t 13)),
om 14 31 (.extract (.t 9) 0),
om 15 31 (.extract (.t 9) 1),
om 7 63 (.mv (.t 14)),
om 8 255 (.mv (.t 15))])
(.seq (.reg [mt 16 7,
mt 17 2,
oq 18 (bi .eql (.t 16) (.t 17)),
mt 19 18,
og 20 19 true 0 (.mv (.t 8)),
og 21 19 true 0 (bi .eql (.t 20) (ci 0)),
oq 22 (.pick (.t 19) (.t 21) (.c (.bool false))),
mt 6 22])
.ret)))⟩
theorem row9 : Row Try.prog (9, a9) := ⟨Try.f9, Try.func9, by kernel_rfl⟩
noncomputable def a10 : AFn :=
⟨6,[(.cell 0 true 2)],(.seq (.reg [⟨(some 0),(.a (.alloc 34 [(.int .i64 (.ofNat 0)),.nilsl])),none,0⟩])
(.seq (.reg [⟨(some 1),(.a (.bslice 3 1 2 [(.int .i64 (.ofNat 0))] [(0,(ci 0)),(1,(ci 2))])),none,0⟩,
⟨(some 2),(.a (.bslice 3 1 2 [(.int .i64 (.ofNat 0))] [(0,(ci 2)),(1,(ci 0))])),none,0⟩,
⟨(some 3),(.a (.bslice 3 1 3 [(.int .i64 (.ofNat 0))] [(0,(ci 2)),(1,(ci 0)),(2,(ci 0))])),none,0⟩,
⟨(some 4),(.a (.bslice 24 1 3 [.nilsl] [(0,(.t 1)),(1,(.t 2)),(2,(.t 3))])),none,0⟩,
oq 5 (.build [(.int .i64 (.ofNat 0)),.nilsl] [(0,1,(ci 1)),(1,1,(.t 4))]),
⟨none,(.x (.st 2 (.t 0) (.t 5))),none,0⟩])
.ret))⟩
theorem row10 : Row Try.prog (10, a10) := ⟨Try.f10, Try.func10, by kernel_rfl⟩
noncomputable def a11 : AFn :=
⟨6,[(.cell 0 true 2)],(.seq (.reg [⟨(some 0),(.a (.alloc 34 [(.int .i64 (.ofNat 0)),.nilsl])),none,0⟩])
(.seq (.reg [⟨(some 1),(.a (.bslice 3 1 2 [(.int .i64 (.ofNat 0))] [(0,(ci 2)),(1,(ci 0))])),none,0⟩,
⟨(some 2),(.a (.bslice 3 1 2 [(.int .i64 (.ofNat 0))] [(0,(ci 0)),(1,(ci 2))])),none,0⟩,
⟨(some 3),(.a (.bslice 3 1 3 [(.int .i64 (.ofNat 0))] [(0,(ci 0)),(1,(ci 0)),(2,(ci 2))])),none,0⟩,
⟨(some 4),(.a (.bslice 24 1 3 [.nilsl] [(0,(.t 1)),(1,(.t 2)),(2,(.t 3))])),none,0⟩,
oq 5 (.build [(.int .i64 (.ofNat 0)),.nilsl] [(0,1,(ci 1)),(1,1,(.t 4))]),
⟨none,(.x (.st 2 (.t 0) (.t 5))),none,0⟩])
.ret))⟩
theorem row11 : Row Try.prog (11, a11) := ⟨Try.f11, Try.func11, by kernel_rfl⟩
noncomputable def a19 : AFn :=
⟨27,[(.t 8),(.t 9)],(.seq (.reg [⟨(some 4),(.a (.box 51 (.t 0))),none,0⟩,
⟨(some 5),(.a (.box 34 (.t 1))),none,0⟩,
⟨(some 6),(.a (.box 34 (.t 2))),none,0⟩,
oq 8 (.mv (ci 0)),
oq 9 (.mv (ci 0))])
(.seq (.reg [oq 13 (.ld true 3 (.t 4)),
oq 14 (.ld true 2 (.t 5)),
oq 15 (.ld true 2 (.t 6)),
mt 16 3,
⟨(some 17),(.a (.bslice 3 1 1 [(.int .i64 (.ofNat 0))] [(0,(.t 16))])),none,0⟩,
oc 18 24 [(.t 13),(.t 14),(.t 15),(.t 17)] 0,
mt 12 18,
oq 19 (.extract (.t 12) 0),
oq 20 (.extract (.t 12) 1),
mt 10 19,
mt 11 20])
(.seq (.seq (.reg [mt 21 11,
oq 22 (bi .neq (.t 21) (ci 0))])
(.cond (.t 22) (.seq (.reg [mt 23 11,
oq 8 (.mv (ci 0)),
mt 9 23])
.ret) .skip))
(.seq (.reg [mt 24 10,
oq 25 (.iaddr (.slice 1) (.t 24) (ci 0)),
oq 26 (ld 25),
mt 8 26,
oq 9 (.mv (ci 0))])
.ret))))⟩
theorem row19 : Row Try.prog (19, a19) := ⟨Try.f19, Try.func19, by kernel_rfl⟩
noncomputable def a20 : AFn :=
⟨23,[(.cell 0 true 3)],(.seq (.reg [⟨(some 0),(.a (.alloc 51 [(.int .i64 (.ofNat 0)),.nilsl,.nilsl])),none,0⟩])
(.seq (.reg [oq 1 (.build [(.int .i64 (.ofNat 0)),(.int .i64 (.ofNat 0))] [(0,1,(ci 0)),(1,1,(ci 2))]),
oq 2 (.build [(.int .i64 (.ofNat 0)),(.int .i64 (.ofNat 0))] [(0,1,(ci 1)),(1,1,(ci 2))]),
oq 3 (.build [(.int .i64 (.ofNat 0)),(.int .i64 (.ofNat 0))] [(0,1,(ci 0)),(1,1,(ci 3))]),
⟨(some 4),(.a (.bslice 60 2 3 [(.int .i64 (.ofNat 0)),(.int .i64 (.ofNat 0))] [(0,(.t 1)),(1,(.t 2)),(2,(.t 3))])),none,0⟩,
⟨(some 5),(.a (.bslice 3 1 2 [(.int .i64 (.ofNat 0))] [(0,(ci 1)),(1,(ci 2))])),none,0⟩,
oq 6 (.build [(.int .i64 (.ofNat 0)),(.int .i64 (.ofNat 0)),(.int .i64 (.ofNat 0)),.nilsl,.nilsl,.nilsl] [(0,1,(ci 2)),(3,1,(.t 5))]),
⟨(some 7),(.a (.bslice 3 1 2 [(.int .i64 (.ofNat 0))] [(0,(ci 1)),(1,(.c (.int .i64 (.negSucc 0))))])),none,0⟩,
oq 8 (.build [(.int .i64 (.ofNat 0)),(.int .i64 (.ofNat 0)),(.int .i64 (.ofNat 0)),.nilsl,.nilsl,.nilsl] [(0,1,(ci 3)),(5,1,(.t 7))]),
⟨(some 9),(.a (.bslice 3 1 2 [(.int .i64 (.ofNat 0))] [(0,(ci 3)),(1,(ci 4))])),none,0⟩,
oq 10 (.build [(.int .i64 (.ofNat 0)),(.int .i64 (.ofNat 0)),(.int .i64 (.ofNat 0)),.nilsl,.nilsl,.nilsl] [(0,1,(ci 2)),(1,1,(ci 1)),(2,1,(ci 1)),(3,1,(.t 9))]),
⟨(some 11),(.a (.bslice 3 1 2 [(.int .i64 (.ofNat 0))] [(0,(ci 0)),(1,(ci 0))])),none,0⟩,
oq 12 (.build [(.int .i64 (.ofNat 0)),(.int .i64 (.ofNat 0)),(.int .i64 (.ofNat 0)),.nilsl,.nilsl,.nilsl] [(0,1,(ci 3)),(5,1,(.t 11))]),
⟨(some 13),(.a (.bslice 3 1 3 [(.int .i64 (.ofNat 0))] [(0,(ci 5)),(1,(ci 6)),(2,(ci 7))])),none,0⟩,
oq 14 (.build [(.int .i64 (.ofNat 0)),(.int .i64 (.ofNat 0)),(.int .i64 (.ofNat 0)),.nilsl,.nilsl,.nilsl] [(0,1,(ci 2)),(2,1,(ci 2)),(3,1,(.t 13))]),
⟨(some 15),(.a (.bslice 3 1 2 [(.int .i64 (.ofNat 0))] [(0,(ci 2)),(1,(.c (.int .i64 (.negSucc 1))))])),none,0⟩,
oq 16 (.build [(.int .i64 (.ofNat 0)),(.int .i64 (.ofNat 0)),(.int .i64 (.ofNat 0)),.nilsl,.nilsl,.nilsl] [(0,1,(ci 3)),(5,1,(.t 15))]),
⟨(some 17),(.a (.bslice 3 1 2 [(.int .i64 (.ofNat 0))] [(0,(.c (.int .i64 (.negSucc 0)))),(1,(ci 1))])),none,0⟩,
oq 18 (.build [(.int .i64 (.ofNat 0)),(.int .i64 (.ofNat 0)),(.int .i64 (.ofNat 0)),.nilsl,.nilsl,.nilsl] [(0,1,(ci 3)),(5,1,(.t 17))]),
⟨(some 19),(.a (.bslice 3 1 2 [(.int .i64 (.ofNat 0))] [(0,(ci 3)),(1,(.c (.int .i64 (.negSucc 2))))])),none,0⟩,
oq 20 (.build [(.int .i64 (.ofNat 0)),(.int .i64 (.ofNat 0)),(.int .i64 (.ofNat 0)),.nilsl,.nilsl,.nilsl] [(0,1,(ci 3)),(5,1,(.t 19))]),
⟨(some 21),(.a (.bslice 62 6 8 [(.int .i64 (.ofNat 0)),(.int .i64 (.ofNat 0)),(.int .i64 (.ofNat 0)),.nilsl,.nilsl,.nilsl] [(0,(.t 6)),(1,(.t 8)),(2,(.t 10)),(3,(.t 12)),(4,(.t 14)),(5,(.t 16)),(6,(.t 18)),(7,(.t 20))])),none,0⟩,
oq 22 (.build [(.int .i64 (.ofNat 0)),.nilsl,.nilsl] [(0,1,(ci 2)),(2,1,(.t 4)),(1,1,(.t 21))]),
⟨none,(.x (.st 3 (.t 0) (.t 22))),none,0⟩])
.ret))⟩
theorem row20 : Row Try.prog (20, a20) := ⟨Try.f20, Try.func20, by kernel_rfl⟩
noncomputable def a24 : AFn :=
⟨40,[(.t 8),(.t 9)],(.seq (.reg [⟨(some 4),(.a (.box 51 (.t 0))),none,0⟩,
⟨(some 5),(.a (.box 34 (.t 1))),none,0⟩,
⟨(some 6),(.a (.box 34 (.t 2))),none,0⟩,
oq 8 (.mv (.c .nilsl)),
oq 9 (.mv (ci 0))])
(.seq (.seq (.reg [oq 14 (.ld true 3 (.t 4)),
oc 15 36 [(.t 14)] 0,
mt 10 15])
(.seq (.reg [mt 16 10,
oq 17 (bi .neq (.t 16) (ci 0))])
(.cond (.t 17) (.seq (.reg [mt 18 10,
oq 8 (.mv (.c .nilsl)),
mt 9 18])
.ret) .skip)))
(.seq (.seq (.reg [mt 19 3,
oq 20 (.lenSl (.t 19)),
oq 21 (bi .gtr (.t 20) (ci 10000))])
(.cond (.t 21) (.seq (.reg [oq 8 (.mv (.c .nilsl)),
oq 9 (.mv (ci 4))])
.ret) .skip))
(.seq (.reg [oq 23 (.ld true 3 (.t 4)),
oq 24 (.ld true 2 (.t 5)),
oq 25 (.ld true 2 (.t 6)),
oc 26 37 [(.t 23),(.t 24),(.t 25)] 0,
mt 22 26,
oq 27 (.extract (.t 22) 0),
oq 28 (.extract (.t 22) 1),
⟨(some 11),(.a (.alloc 80 [(.int .i64 (.ofNat 0)),.nilsl,(.int .i64 (.ofNat 0)),(.int .i64 (.ofNat 0)),.nilsl,(.int .i64 (.ofNat 0))])),none,0⟩,
⟨none,(.x (.st 6 (.t 11) (.t 27))),none,0⟩,
mt 12 28])
(.seq (.seq (.reg [mt 29 12,
oq 30 (bi .neq (.t 29) (ci 0))])
(.cond (.t 30) (.seq (.reg [mt 31 12,
oq 8 (.mv (.c .nilsl)),
mt 9 31])
.ret) .skip))
(.seq (.reg [⟨(some 13),(.a (.alloc 24 [.nilsl])),none,0⟩])
(.seq (.seq (.reg [oq 32 (.ld true 3 (.t 4)),
mt 33 3,
oq 34 (.mkFunc 39 [] [(.t 13)]),
oc 35 38 [(.t 11),(.t 32),(.t 33),(.t 34)] 0,
mt 12 35])
(.seq (.reg [mt 36 12,
oq 37 (bi .neq (.t 36) (ci 0))])
(.cond (.t 37) (.seq (.reg [mt 38 12,
oq 8 (.mv (.c .nilsl)),
mt 9 38])
.ret) .skip)))
(.seq (.reg [oq 39 (ld 13),
mt 8 39,
oq 9 (.mv (ci 0))])
.ret))))))))⟩
theorem row24 : Row Try.prog (24, a24) := ⟨Try.f24, Try.func24, by kernel_rfl⟩
noncomputable def a36 : AFn :=
⟨12,[(.t 2)],(.seq (.reg [⟨(some 1),(.a (.box 51 (.t 0))),none,0⟩,
oq 2 (.mv (ci 0))])
(.seq (.seq (.reg [oq 4 (.ld true 3 (.t 1)),
oc 5 45 [(.t 4)] 0,
mt 3 5])
(.seq (.reg [mt 6 3,
oq 7 (bi .neq (.t 6) (ci 0))])
(.cond (.t 7) (.seq (.reg [mt 8 3,
mt 2 8])
.ret) .skip)))
(.seq (.seq (.reg [oq 9 (.faddr 0 (.t 1)),
oq 10 (ld 9),
oq 11 (bi .neq (.t 10) (ci 2))])
(.cond (.t 11) (.seq (.reg [oq 2 (.mv (ci 10))])
.ret) .skip))
(.seq (.reg [oq 2 (.mv (ci 0))])
.ret))))⟩
theorem row36 : Row Try.prog (36, a36) := ⟨Try.f36, Try.func36, by kernel_rfl⟩
noncomputable def a37 : AFn :=
⟨41,[(.cell 6 true 6),(.t 7)],(.seq (.reg [⟨(some 3),(.a (.box 51 (.t 0))),none,0⟩,
⟨(some 4),(.a (.box 34 (.t 1))),none,0⟩,
⟨(some 5),(.a (.box 34 (.t 2))),none,0⟩,
⟨(some 6),(.a (.alloc 80 [(.int .i64 (.ofNat 0)),.nilsl,(.int .i64 (.ofNat 0)),(.int .i64 (.ofNat 0)),.nilsl,(.int .i64 (.ofNat 0))])),none,0⟩,
oq 7 (.mv (ci 0))])
(.seq (.reg [⟨(some 8),(.a (.alloc 80 [(.int .i64 (.ofNat 0)),.nilsl,(.int .i64 (.ofNat 0)),(.int .i64 (.ofNat 0)),.nilsl,(.int .i64 (.ofNat 0))])),none,0⟩])
(.seq (.seq (.reg [oq 13 (.ld true 2 (.t 4)),
oq 14 (.ld true 2 (.t 5)),
⟨(some 15),(.a (.bslice 34 2 2 [(.int .i64 (.ofNat 0)),.nilsl] [(0,(.t 13)),(1,(.t 14))])),none,0⟩,
oq 16 (.ld true 2 (.t 5)),
oq 17 (.ld true 2 (.t 4)),
⟨(some 18),(.a (.bslice 34 2 2 [(.int .i64 (.ofNat 0)),.nilsl] [(0,(.t 16)),(1,(.t 17))])),none,0⟩,
oq 19 (.build [.nilsl,.nilsl] [(0,1,(.t 15)),(1,1,(.t 18))]),
oq 20 (.mv (ci 0))])
(.block 0 (.loop (.seq (.reg [oq 21 (bi .lss (.t 20) (ci 2))])
(.seq (.cond (.t 21) .skip (.exit 0))
(.seq (.block 1 (.seq (.reg [mt 22 20,
oq 23 (.idxArr false 2 1 (.t 19) (.t 20)),
mt 9 22,
mt 10 23])
(.seq (.reg [oq 25 (.ld true 3 (.t 3)),
mt 26 10,
oc 27 46 [(.t 25),(.t 26)] 0,
mt 24 27,
oq 28 (.extract (.t 24) 0),
oq 29 (.extract (.t 24) 1),
⟨(some 11),(.a (.alloc 34 [(.int .i64 (.ofNat 0)),.nilsl])),none,0⟩,
⟨none,(.x (.st 2 (.t 11) (.t 28))),none,0⟩,
mt 12 29])
(.seq (.seq (.reg [mt 30 12,
oq 31 (bi .neq (.t 30) (ci 0))])
(.cond (.t 31) (.seq (.reg [oq 32 (.build [(.int .i64 (.ofNat 0)),.nilsl,(.int .i64 (.ofNat 0)),(.int .i64 (.ofNat 0)),.nilsl,(.int .i64 (.ofNat 0))] []),
mt 33 12,
⟨none,(.x (.st 6 (.t 6) (.t 32))),none,0⟩,
mt 7 33])
.ret) .skip))
(.reg [mt 34 9,
oq 35 (.ld true 2 (.t 11)),
mt 36 9,
oq 37 (.build [(.int .i64 (.ofNat 0)),.nilsl,(.int .i64 (.ofNat 0))] [(0,2,(.t 35)),(2,1,(.t 36))]),
oq 38 (.iaddr (.arr 2 3) (.t 8) (.t 34)),
⟨none,(.x (.st 3 (.t 38) (.t 37))),none,0⟩])))))
(.reg [oq 39 (bi .add (.t 20) (ci 1)),
mt 20 39])))))))
(.seq (.reg [oq 40 (.ld true 6 (.t 8)),
⟨none,(.x (.st 6 (.t 6) (.t 40))),none,0⟩,
oq 7 (.mv (ci 0))])
.ret))))⟩
theorem row37 : Row Try.prog (37, a37) := ⟨Try.f37, Try.func37, by kernel_rfl⟩
noncomputable def a38 : AFn :=
⟨51,[(.t 8)],(.seq (.reg [⟨(some 5),(.a (.box 51 (.t 1))),none,0⟩,
oq 8 (.mv (ci 0))])
(.seq (.seq (.reg [mt 13 2,
oq 14 (.lenSl (.t 13)),
oq 15 (bi .eql (.t 14) (ci 0))])
(.cond (.t 15) (.seq (.reg [oq 8 (.mv (ci 0))])
.ret) .skip))
(.seq (.drw [oq 17 (.ld true 3 (.t 5)),
mt 18 0,
om 19 2 (.nilchk (.t 18)),
om 20 6 (.iaddr (.arr 2 3) (.t 19) (ci 0)),
om 21 14 (.faddr 0 (.t 20)),
om 22 30 (.ld true 2 (.t 21)),
oc 23 47 [(.t 17),(.t 22)] 63,
om 16 127 (.mv (.t 23)),
om 24 255 (.extract (.t 16) 0),
om 25 255 (.extract (.t 16) 1),
om 9 511 (.mv (.t 24)),
om 10 2047 (.mv (.t 25))])
(.seq (.seq (.reg [mt 26 10,
oq 27 (bi .neq (.t 26) (ci 0))])
(.cond (.t 27) (.seq (.reg [mt 28 10,
mt 8 28])
.ret) .skip))
(.seq (.seq (.reg [mt 29 2,
oq 30 (.lenSl (.t 29)),
oq 31 (.mv (ci 0))])
(.block 0 (.loop (.seq (.reg [oq 32 (bi .lss (.t 31) (.t 30))])
(.seq (.cond (.t 32) .skip (.exit 0))
(.seq (.block 1 (.seq (.reg [oq 33 (.iaddr (.slice 1) (.t 29) (.t 31)),
oq 34 (ld 33),
mt 12 34])
(.seq (.seq (.reg [mt 35 12,
oq 36 (bi .lss (.t 35) (ci 0)),
mt 37 36,
og 38 37 false 0 (.mv (.t 12)),
og 39 37 false 0 (.mv (.t 9)),
og 40 37 false 0 (bi .geq (.t 38) (.t 39)),
oq 41 (.pick (.t 37) (.c (.bool true)) (.t 40))])
(.cond (.t 41) (.seq (.reg [oq 8 (.mv (ci 2))])
.ret) .skip))
(.reg [mt 42 3,
mt 43 0,
oq 44 (.ld true 3 (.t 5)),
mt 45 12,
oc 46 48 [(.t 43),(.t 44),(.t 45)] 0,
oq 47 (.extract (.t 46) 0),
oq 48 (.extract (.t 46) 1),
⟨(some 49),(.x (.call (.t 42) [(.t 47),(.t 48)])),none,0⟩]))))
(.reg [oq 50 (bi .add (.t 31) (ci 1)),
mt 31 50])))))))
(.seq (.reg [oq 8 (.mv (ci 0))])
.ret))))))⟩
theorem row38 : Row Try.prog (38, a38) := ⟨Try.f38, Try.func38, by kernel_rfl⟩
noncomputable def a39 : AFn :=
⟨9,[],(.reg [oq 5 (ld 2),
mt 6 0,
⟨(some 7),(.a (.bslice 3 1 1 [(.int .i64 (.ofNat 0))] [(0,(.t 6))])),none,0⟩,
⟨(some 8),(.x (.app 3 1 8 (.t 5) (.t 7))),none,0⟩,
⟨none,(.x (.st 1 (.t 2) (.t 8))),none,0⟩])⟩
theorem row39 : Row Try.prog (39, a39) := ⟨Try.f39, Try.func39, by kernel_rfl⟩
noncomputable def a45 : AFn :=
⟨11,[(.t 2)],(.seq (.reg [⟨(some 1),(.a (.box 51 (.t 0))),none,0⟩,
oq 2 (.mv (ci 0))])
(.seq (.reg [oq 6 (.ld true 3 (.t 1)),
oc 7 50 [(.t 6)] 0,
mt 5 7,
oq 8 (.extract (.t 5) 0),
oq 9 (.extract (.t 5) 1),
mt 3 8,
mt 4 9])
(.seq (.reg [mt 10 4,
mt 2 10])
.ret)))⟩
theorem row45 : Row Try.prog (45, a45) := ⟨Try.f45, Try.func45, by kernel_rfl⟩
noncomputable def a46 : AFn :=
⟨93,[(.cell 4 true 2),(.t 5)],(.seq (.reg [⟨(some 2),(.a (.box 51 (.t 0))),none,0⟩,
⟨(some 4),(.a (.alloc 34 [(.int .i64 (.ofNat 0)),.nilsl])),none,0⟩,
oq 5 (.mv (ci 0))])
(.seq (.seq (.reg [oq 15 (.ld true 3 (.t 2)),
oc 16 45 [(.t 15)] 0,
mt 6 16])
(.seq (.reg [mt 17 6,
oq 18 (bi .neq (.t 17) (ci 0))])
(.cond (.t 18) (.seq (.reg [oq 19 (.build [(.int .i64 (.ofNat 0)),.nilsl] []),
mt 20 6,
⟨none,(.x (.st 2 (.t 4) (.t 19))),none,0⟩,
mt 5 20])
.ret) .skip)))
(.seq (.seq (.reg [mt 21 1,
oq 22 (.lenSl (.t 21)),
oq 23 (.faddr 0 (.t 2)),
oq 24 (ld 23),
oq 25 (bi .neq (.t 22) (.t 24))])
(.cond (.t 25) (.seq (.reg [oq 26 (.build [(.int .i64 (.ofNat 0)),.nilsl] []),
⟨none,(.x (.st 2 (.t 4) (.t 26))),none,0⟩,
oq 5 (.mv (ci 10))])
.ret) .skip))
(.seq (.seq (.reg [mt 27 1,
oq 28 (.lenSl (.t 27)),
oq 29 (.mv (ci 0))])
(.block 0 (.loop (.seq (.reg [oq 30 (bi .lss (.t 29) (.t 28))])
(.seq (.cond (.t 30) .skip (.exit 0))
(.seq (.block 1 (.seq (.reg [oq 31 (.iaddr (.slice 2) (.t 27) (.t 29)),
oq 32 (.ld true 2 (.t 31)),
⟨(some 8),(.a (.alloc 34 [(.int .i64 (.ofNat 0)),.nilsl])),none,0⟩,
⟨none,(.x (.st 2 (.t 8) (.t 32))),none,0⟩])
(.seq (.seq (.reg [oq 33 (.ld true 2 (.t 8)),
oc 34 51 [(.t 33)] 0,
mt 9 34])
(.seq (.reg [mt 35 9,
oq 36 (bi .neq (.t 35) (ci 0))])
(.cond (.t 36) (.seq (.reg [oq 37 (.build [(.int .i64 (.ofNat 0)),.nilsl] []),
mt 38 9,
⟨none,(.x (.st 2 (.t 4) (.t 37))),none,0⟩,
mt 5 38])
.ret) .skip)))
(.seq (.reg [oq 39 (.ld true 3 (.t 2)),
oq 40 (.ld true 2 (.t 8)),
oc 41 52 [(.t 39),(.t 40)] 0,
oq 42 (.un .not (.t 41))])
(.cond (.t 42) (.seq (.reg [oq 43 (.build [(.int .i64 (.ofNat 0)),.nilsl] []),
⟨none,(.x (.st 2 (.t 4) (.t 43))),none,0⟩,
oq 5 (.mv (ci 10))])
.ret) .skip)))))
(.reg [oq 44 (bi .add (.t 29) (ci 1)),
mt 29 44])))))))
(.seq (.seq (.reg [mt 45 1,
oq 46 (.lenSl (.t 45)),
oq 47 (.mv (ci 0))])
(.block 2 (.loop (.seq (.reg [oq 48 (bi .lss (.t 47) (.t 46))])
(.seq (.cond (.t 48) .skip (.exit 2))
(.seq (.block 3 (.seq (.reg [oq 49 (.iaddr (.slice 2) (.t 45) (.t 47)),
oq 50 (.ld true 2 (.t 49)),
⟨(some 11),(.a (.alloc 34 [(.int .i64 (.ofNat 0)),.nilsl])),none,0⟩,
⟨none,(.x (.st 2 (.t 11) (.t 50))),none,0⟩])
(.seq (.drw [oq 51 (.faddr 0 (.t 11)),
om 52 1 (ld 51),
mt 53 1,
om 54 4 (.iaddr (.slice 2) (.t 53) (ci 0)),
om 55 12 (.faddr 0 (.t 54)),
om 56 28 (ld 55),
om 57 63 (bi .neq (.t 52) (.t 56))])
(.cond (.t 57) (.seq (.reg [oq 58 (.build [(.int .i64 (.ofNat 0)),.nilsl] []),
⟨none,(.x (.st 2 (.t 4) (.t 58))),none,0⟩,
oq 5 (.mv (ci 10))])
.ret) .skip))))
(.reg [oq 59 (bi .add (.t 47) (ci 1)),
mt 47 59])))))))
(.seq (.drw [mt 60 1,
om 61 1 (.iaddr (.slice 2) (.t 60) (ci 0)),
om 62 3 (.faddr 0 (.t 61)),
om 63 7 (ld 62),
oq 64 (.faddr 2 (.t 2)),
om 65 16 (ld 64),
om 66 48 (.lenSl (.t 65)),
⟨(some 67),(.a (.mkSlice 24 1 24 [.nilsl] (.t 66) (.t 66))),none,112⟩,
om 68 255 (.build [(.int .i64 (.ofNat 0)),.nilsl] [(0,1,(.t 63)),(1,1,(.t 67))]),
⟨(some 12),(.a (.alloc 34 [(.int .i64 (.ofNat 0)),.nilsl])),none,0⟩,
⟨none,(.x (.st 2 (.t 12) (.t 68))),none,1023⟩])
(.seq (.seq (.reg [oq 69 (.faddr 2 (.t 2)),
oq 70 (ld 69),
oq 71 (.lenSl (.t 70)),
oq 72 (.mv (ci 0))])
(.block 4 (.loop (.seq (.reg [oq 73 (bi .lss (.t 72) (.t 71))])
(.seq (.cond (.t 73) .skip (.exit 4))
(.seq (.block 5 (.seq (.reg [mt 74 72,
oq 75 (.iaddr (.slice 2) (.t 70) (.t 72)),
oq 76 (.ld true 2 (.t 75)),
⟨(some 14),(.a (.alloc 60 [(.int .i64 (.ofNat 0)),(.int .i64 (.ofNat 0))])),none,0⟩,
mt 13 74,
⟨none,(.x (.st 2 (.t 14) (.t 76))),none,0⟩])
(.drw [oq 77 (.faddr 1 (.t 12)),
om 78 1 (ld 77),
mt 79 13,
mt 80 1,
oq 81 (.faddr 0 (.t 14)),
om 82 16 (ld 81),
om 83 56 (.iaddr (.slice 2) (.t 80) (.t 82)),
om 84 120 (.faddr 1 (.t 83)),
om 85 248 (ld 84),
mt 86 13,
om 87 1016 (.iaddr (.slice 1) (.t 85) (.t 86)),
om 88 2040 (ld 87),
oc 89 53 [(.t 88)] 4088,
om 90 8191 (.iaddr (.slice 1) (.t 78) (.t 79)),
⟨none,(.x (.st 1 (.t 90) (.t 89))),none,16383⟩])))
(.reg [oq 91 (bi .add (.t 72) (ci 1)),
mt 72 91])))))))
(.seq (.reg [oq 92 (.ld true 2 (.t 12)),
⟨none,(.x (.st 2 (.t 4) (.t 92))),none,0⟩,
oq 5 (.mv (ci 0))])
.ret))))))))⟩
theorem row46 : Row Try.prog (46, a46) := ⟨Try.f46, Try.func46, by kernel_rfl⟩
noncomputable def a47 : AFn :=
⟨19,[(.t 4),(.t 5)],(.seq (.reg [⟨(some 2),(.a (.box 51 (.t 0))),none,0⟩,
⟨(some 3),(.a (.box 34 (.t 1))),none,0⟩,
oq 4 (.mv (ci 0)),
oq 5 (.mv (ci 0))])
(.seq (.seq (.reg [oq 7 (.ld true 3 (.t 2)),
oq 8 (.ld true 2 (.t 3)),
oc 9 54 [(.t 7),(.t 8)] 0,
mt 6 9])
(.seq (.reg [mt 10 6,
oq 11 (bi .neq (.t 10) (ci 0))])
(.cond (.t 11) (.seq (.reg [mt 12 6,
oq 4 (.mv (ci 0)),
mt 5 12])
.ret) .skip)))
(.seq (.reg [oq 13 (.ld true 3 (.t 2)),
oq 14 (.ld true 2 (.t 3)),
oq 15 (.mkIface 109 (.t 14)),
oc 16 55 [(.t 13),(.t 15)] 0,
oq 17 (.extract (.t 16) 0),
oq 18 (.extract (.t 16) 1),
mt 4 17,
mt 5 18])
.ret)))⟩
theorem row47 : Row Try.prog (47, a47) := ⟨Try.f47, Try.func47, by kernel_rfl⟩
noncomputable def a48 : AFn :=
⟨42,[(.t 6),(.t 7)],(.seq (.reg [⟨(some 4),(.a (.box 51 (.t 1))),none,0⟩,
oq 6 (.mv (ci 0)),
oq 7 (.mv (ci 0))])
(.seq (.seq (.reg [mt 11 0,
oq 12 (.nilchk (.t 11)),
oq 13 (.mv (ci 0))])
(.block 0 (.loop (.seq (.reg [oq 14 (bi .lss (.t 13) (ci 2))])
(.seq (.cond (.t 14) .skip (.exit 0))
(.seq (.block 1 (.seq (.reg [oq 15 (.nilchk (.t 11)),
oq 16 (.iaddr (.arr 2 3) (.t 15) (.t 13)),
oq 17 (.ld true 3 (.t 16)),
⟨(some 9),(.a (.alloc 78 [(.int .i64 (.ofNat 0)),.nilsl,(.int .i64 (.ofNat 0))])),none,0⟩,
⟨none,(.x (.st 3 (.t 9) (.t 17))),none,0⟩])
(.seq (.reg [oq 18 (.ld true 3 (.t 4)),
oq 19 (.faddr 0 (.t 9)),
oq 20 (.ld true 2 (.t 19)),
mt 21 2,
oc 22 56 [(.t 18),(.t 20),(.t 21)] 0,
oq 23 (.fld false 5 1 (.t 22)),
mt 10 23])
(.seq (.reg [mt 24 6,
mt 25 10,
oq 26 (.faddr 2 (.t 9)),
oq 27 (ld 26),
oq 28 (.iaddr (.slice 1) (.t 25) (.t 27)),
oq 29 (ld 28),
oq 30 (bi .add (.t 24) (.t 29)),
mt 6 30])
(.reg [mt 31 7,
mt 32 10,
oq 33 (.faddr 2 (.t 9)),
oq 34 (ld 33),
oq 35 (bi .sub (ci 1) (.t 34)),
oq 36 (.iaddr (.slice 1) (.t 32) (.t 35)),
oq 37 (ld 36),
oq 38 (bi .add (.t 31) (.t 37)),
mt 7 38])))))
(.reg [oq 39 (bi .add (.t 13) (ci 1)),
mt 13 39])))))))
(.seq (.reg [mt 40 6,
mt 41 7,
mt 6 40,
mt 7 41])
.ret)))⟩
theorem row48 : Row Try.prog (48, a48) := ⟨Try.f48, Try.func48, by kernel_rfl⟩
noncomputable def a50 : AFn :=
⟨97,[(.t 2),(.t 3)],(.seq (.reg [⟨(some 1),(.a (.box 51 (.t 0))),none,0⟩,
oq 2 (.mv (.c .nilp)),
oq 3 (.mv (ci 0))])
(.seq (.seq (.reg [oq 10 (.faddr 0 (.t 1)),
oq 11 (ld 10),
oq 12 (bi .lss (.t 11) (ci 1)),
mt 13 12,
og 14 13 false 0 (.faddr 0 (.t 1)),
og 15 13 false 0 (ld 14),
og 16 13 false 0 (bi .gtr (.t 15) (ci 4)),
oq 17 (.pick (.t 13) (.c (.bool true)) (.t 16)),
mt 18 17,
og 19 18 false 0 (.faddr 1 (.t 1)),
og 20 18 false 0 (ld 19),
og 21 18 false 0 (.lenSl (.t 20)),
og 22 18 false 0 (bi .lss (.t 21) (ci 1)),
oq 23 (.pick (.t 18) (.c (.bool true)) (.t 22)),
mt 24 23,
og 25 24 false 0 (.faddr 1 (.t 1)),
og 26 24 false 0 (ld 25),
og 27 24 false 0 (.lenSl (.t 26)),
og 28 24 false 0 (bi .gtr (.t 27) (ci 2000)),
oq 29 (.pick (.t 24) (.c (.bool true)) (.t 28)),
mt 30 29,
og 31 30 false 0 (.faddr 2 (.t 1)),
og 32 30 false 0 (ld 31),
og 33 30 false 0 (.lenSl (.t 32)),
og 34 30 false 0 (bi .gtr (.t 33) (ci 200)),
oq 35 (.pick (.t 30) (.c (.bool true)) (.t 34))])
(.cond (.t 35) (.seq (.reg [oq 2 (.mv (.c .nilp)),
oq 3 (.mv (ci 2))])
.ret) .skip))
(.seq (.reg [oq 36 (.ld true 3 (.t 1)),
oq 37 (.build [(.int .i64 (.ofNat 0)),.nilsl,.nilsl,.nilsl,.nilsl,.nilsl] [(0,3,(.t 36))]),
⟨(some 38),(.a (.box 112 (.t 37))),none,0⟩,
mt 4 38])
(.seq (.seq (.reg [oq 39 (.faddr 1 (.t 1)),
oq 40 (ld 39),
oq 41 (.lenSl (.t 40)),
oq 42 (.mv (ci 0))])
(.block 0 (.loop (.seq (.reg [oq 43 (bi .lss (.t 42) (.t 41))])
(.seq (.cond (.t 43) .skip (.exit 0))
(.seq (.block 1 (.seq (.reg [oq 44 (.iaddr (.slice 6) (.t 40) (.t 42)),
oq 45 (.ld true 6 (.t 44)),
⟨(some 6),(.a (.alloc 62 [(.int .i64 (.ofNat 0)),(.int .i64 (.ofNat 0)),(.int .i64 (.ofNat 0)),.nilsl,.nilsl,.nilsl])),none,0⟩,
⟨none,(.x (.st 6 (.t 6) (.t 45))),none,0⟩])
(.seq (.reg [mt 46 4,
oq 47 (.ld true 6 (.t 6)),
oc 48 57 [(.t 46),(.t 47)] 0,
mt 7 48])
(.seq (.reg [mt 49 7,
oq 50 (bi .neq (.t 49) (ci 0))])
(.cond (.t 50) (.seq (.reg [mt 51 7,
oq 2 (.mv (.c .nilp)),
mt 3 51])
.ret) .skip)))))
(.reg [oq 52 (bi .add (.t 42) (ci 1)),
mt 42 52])))))))
(.seq (.drw [mt 53 4,
mt 54 4,
mt 55 4,
oq 56 (.faddr 1 (.t 1)),
om 57 8 (ld 56),
om 58 24 (.lenSl (.t 57)),
⟨(some 59),(.a (.mkSlice 3 1 8 [(.int .i64 (.ofNat 0))] (.t 58) (.t 58))),none,56⟩,
oq 60 (.faddr 1 (.t 1)),
om 61 128 (ld 60),
om 62 384 (.lenSl (.t 61)),
⟨(some 63),(.a (.mkSlice 3 1 8 [(.int .i64 (.ofNat 0))] (.t 62) (.t 62))),none,896⟩,
oq 64 (.faddr 1 (.t 1)),
om 65 2048 (ld 64),
om 66 6144 (.lenSl (.t 65)),
⟨(some 67),(.a (.mkSlice 3 1 8 [(.int .i64 (.ofNat 0))] (.t 66) (.t 66))),none,14336⟩,
om 68 121 (.nilchk (.t 53)),
om 69 32889 (.faddr 3 (.t 68)),
⟨none,(.x (.st 1 (.t 69) (.t 59))),none,98425⟩,
om 70 231419 (.nilchk (.t 54)),
om 71 493563 (.faddr 4 (.t 70)),
⟨none,(.x (.st 1 (.t 71) (.t 63))),none,1017851⟩,
om 72 2097151 (.nilchk (.t 55)),
om 73 4194303 (.faddr 5 (.t 72)),
⟨none,(.x (.st 1 (.t 73) (.t 67))),none,8388607⟩])
(.seq (.seq (.reg [mt 75 4,
oq 76 (.faddr 1 (.t 1)),
oq 77 (ld 76),
oc 78 58 [(.t 75),(.c (.int .i64 (.negSucc 0))),(ci 0),(.t 77)] 0,
mt 74 78,
oq 79 (.extract (.t 74) 0),
oq 80 (.extract (.t 74) 1),
mt 8 79,
mt 9 80])
(.seq (.reg [mt 81 9,
oq 82 (.un .not (.t 81)),
mt 83 82,
og 84 83 false 0 (.mv (.t 8)),
og 85 83 false 0 (.lenSl (.t 84)),
og 86 83 false 0 (bi .gtr (.t 85) (ci 0)),
oq 87 (.pick (.t 83) (.c (.bool true)) (.t 86))])
(.cond (.t 87) (.seq (.reg [oq 2 (.mv (.c .nilp)),
oq 3 (.mv (ci 9))])
.ret) .skip)))
(.seq (.seq (.reg [mt 88 4,
oq 89 (.nilchk (.t 88)),
oq 90 (.faddr 4 (.t 89)),
oq 91 (ld 90),
oc 92 59 [(.t 91)] 0,
oq 93 (bi .gtr (.t 92) (ci 40))])
(.cond (.t 93) (.seq (.reg [oq 2 (.mv (.c .nilp)),
oq 3 (.mv (ci 5))])
.ret) .skip))
(.seq (.reg [mt 94 4,
mt 95 4,
oc 96 60 [(.t 95)] 0,
mt 2 94,
mt 3 96])
.ret))))))))⟩
theorem row50 : Row Try.prog (50, a50) := ⟨Try.f50, Try.func50, by kernel_rfl⟩
noncomputable def a51 : AFn :=
⟨55,[(.cell 2 false 1)],(.seq (.reg [⟨(some 1),(.a (.box 34 (.t 0))),none,0⟩,
⟨(some 2),(.a (.alloc 26 [(.int .i64 (.ofNat 0))])),none,0⟩])
(.seq (.seq (.reg [oq 7 (.faddr 0 (.t 1)),
oq 8 (ld 7),
oq 9 (bi .lss (.t 8) (ci 1)),
mt 10 9,
og 11 10 false 0 (.faddr 0 (.t 1)),
og 12 10 false 0 (ld 11),
og 13 10 false 0 (bi .gtr (.t 12) (ci 30)),
oq 14 (.pick (.t 10) (.c (.bool true)) (.t 13))])
(.cond (.t 14) (.seq (.reg [⟨none,(.x (.st 1 (.t 2) (ci 2))),none,0⟩])
.ret) .skip))
(.seq (.seq (.reg [oq 15 (.faddr 1 (.t 1)),
oq 16 (ld 15),
oq 17 (.lenSl (.t 16)),
oq 18 (bi .gtr (.t 17) (ci 200))])
(.cond (.t 18) (.seq (.reg [⟨none,(.x (.st 1 (.t 2) (ci 4))),none,0⟩])
.ret) .skip))
(.seq (.seq (.reg [oq 19 (.faddr 1 (.t 1)),
oq 20 (ld 19),
oc 21 61 [(.t 20)] 0])
(.block 0 (.rng (.t 21) [22] (.reg [mt 3 22]) (.block 1 (.seq (.seq (.reg [mt 23 3,
oq 24 (.lenSl (.t 23)),
oq 25 (bi .lss (.t 24) (ci 1)),
mt 26 25,
og 27 26 false 0 (.mv (.t 3)),
og 28 26 false 0 (.lenSl (.t 27)),
og 29 26 false 0 (bi .gtr (.t 28) (ci 10)),
oq 30 (.pick (.t 26) (.c (.bool true)) (.t 29))])
(.cond (.t 30) (.seq (.reg [⟨none,(.x (.st 1 (.t 2) (ci 3))),none,0⟩])
.ret) .skip))
(.seq (.reg [oq 4 (.mv (ci 0))])
(.seq (.seq (.reg [mt 31 3,
oq 32 (.lenSl (.t 31)),
oq 33 (.mv (ci 0))])
(.block 2 (.loop (.seq (.reg [oq 34 (bi .lss (.t 33) (.t 32))])
(.seq (.cond (.t 34) .skip (.exit 2))
(.seq (.block 3 (.seq (.reg [oq 35 (.iaddr (.slice 1) (.t 31) (.t 33)),
oq 36 (ld 35),
mt 6 36])
(.seq (.seq (.reg [mt 37 6,
oq 38 (bi .lss (.t 37) (ci 0)),
mt 39 38,
og 40 39 false 0 (.mv (.t 6)),
og 41 39 false 0 (.faddr 0 (.t 1)),
og 42 39 false 0 (ld 41),
og 43 39 false 0 (bi .shl (ci 1) (.t 42)),
og 44 39 false 0 (bi .gtr (.t 40) (.t 43)),
oq 45 (.pick (.t 39) (.c (.bool true)) (.t 44))])
(.cond (.t 45) (.seq (.reg [⟨none,(.x (.st 1 (.t 2) (ci 2))),none,0⟩])
.ret) .skip))
(.reg [mt 46 4,
mt 47 6,
oq 48 (bi .add (.t 46) (.t 47)),
mt 4 48]))))
(.reg [oq 49 (bi .add (.t 33) (ci 1)),
mt 33 49])))))))
(.seq (.reg [mt 50 4,
oq 51 (.faddr 0 (.t 1)),
oq 52 (ld 51),
oq 53 (bi .shl (ci 1) (.t 52)),
oq 54 (bi .neq (.t 50) (.t 53))])
(.cond (.t 54) (.seq (.reg [⟨none,(.x (.st 1 (.t 2) (ci 14))),none,0⟩])
.ret) .skip)))))))))
(.seq (.reg [⟨none,(.x (.st 1 (.t 2) (ci 0))),none,0⟩])
.ret)))))⟩
theorem row51 : Row Try.prog (51, a51) := ⟨Try.f51, Try.func51, by kernel_rfl⟩
noncomputable def a52 : AFn :=
⟨32,[(.t 4)],(.seq (.reg [⟨(some 2),(.a (.box 51 (.t 0))),none,0⟩,
⟨(some 3),(.a (.box 34 (.t 1))),none,0⟩,
oq 4 (.mv (.c (.bool false)))])
(.seq (.seq (.reg [oq 7 (.faddr 1 (.t 3)),
oq 8 (ld 7),
oq 9 (.lenSl (.t 8)),
oq 10 (.faddr 2 (.t 2)),
oq 11 (ld 10),
oq 12 (.lenSl (.t 11)),
oq 13 (bi .neq (.t 9) (.t 12))])
(.cond (.t 13) (.seq (.reg [oq 4 (.mv (.c (.bool false)))])
.ret) .skip))
(.seq (.seq (.reg [oq 14 (.faddr 1 (.t 3)),
oq 15 (ld 14),
oq 16 (.lenSl (.t 15)),
oq 17 (.mv (ci 0))])
(.block 0 (.loop (.seq (.reg [oq 18 (bi .lss (.t 17) (.t 16))])
(.seq (.cond (.t 18) .skip (.exit 0))
(.seq (.block 1 (.seq (.reg [mt 19 17,
oq 20 (.iaddr (.slice 1) (.t 15) (.t 17)),
oq 21 (ld 20),
mt 5 19,
mt 6 21])
(.seq (.reg [mt 22 6,
oq 23 (.lenSl (.t 22)),
oq 24 (.faddr 2 (.t 2)),
oq 25 (ld 24),
mt 26 5,
oq 27 (.iaddr (.slice 2) (.t 25) (.t 26)),
oq 28 (.faddr 1 (.t 27)),
oq 29 (ld 28),
oq 30 (bi .neq (.t 23) (.t 29))])
(.cond (.t 30) (.seq (.reg [oq 4 (.mv (.c (.bool false)))])
.ret) .skip))))
(.reg [oq 31 (bi .add (.t 17) (ci 1)),
mt 17 31])))))))
(.seq (.reg [oq 4 (.mv (.c (.bool true)))])
.ret))))⟩
theorem row52 : Row Try.prog (52, a52) := ⟨Try.f52, Try.func52, by kernel_rfl⟩
noncomputable def a53 : AFn :=
⟨8,[(.t 2)],(.seq (.reg [oq 2 (.mv (.c .nilsl))])
(.seq (.seq (.reg [mt 3 0,
oq 4 (.bin .eql (.p .slice) (.t 3) (.c .nilsl))])
(.cond (.t 4) (.seq (.reg [oq 2 (.mv (.c .nilsl))])
.ret) .skip))
(.seq (.reg [⟨(some 5),(.a (.bslice 3 1 0 [(.int .i64 (.ofNat 0))] [])),none,0⟩,
mt 6 0,
⟨(some 7),(.x (.app 3 1 8 (.t 5) (.t 6))),none,0⟩,
mt 2 7])
.ret)))⟩
theorem row53 : Row Try.prog (53, a53) := ⟨Try.f53, Try.func53, by kernel_rfl⟩
noncomputable def a54 : AFn :=
⟨44,[(.t 4)],(.seq (.reg [⟨(some 2),(.a (.box 51 (.t 0))),none,0⟩,
⟨(some 3),(.a (.box 34 (.t 1))),none,0⟩,
oq 4 (.mv (ci 0))])
(.seq (.seq (.reg [oq 9 (.ld true 3 (.t 2)),
oc 10 45 [(.t 9)] 0,
mt 5 10])
(.seq (.reg [mt 11 5,
oq 12 (bi .neq (.t 11) (ci 0))])
(.cond (.t 12) (.seq (.reg [mt 13 5,
mt 4 13])
.ret) .skip)))
(.seq (.seq (.reg [oq 14 (.ld true 2 (.t 3)),
oc 15 51 [(.t 14)] 0,
mt 6 15])
(.seq (.reg [mt 16 6,
oq 17 (bi .neq (.t 16) (ci 0))])
(.cond (.t 17) (.seq (.reg [mt 18 6,
mt 4 18])
.ret) .skip)))
(.seq (.seq (.reg [oq 19 (.faddr 1 (.t 3)),
oq 20 (ld 19),
oq 21 (.lenSl (.t 20)),
oq 22 (.faddr 2 (.t 2)),
oq 23 (ld 22),
oq 24 (.lenSl (.t 23)),
oq 25 (bi .neq (.t 21) (.t 24))])
(.cond (.t 25) (.seq (.reg [oq 4 (.mv (ci 10))])
.ret) .skip))
(.seq (.seq (.reg [oq 26 (.faddr 1 (.t 3)),
oq 27 (ld 26),
oq 28 (.lenSl (.t 27)),
oq 29 (.mv (ci 0))])
(.block 0 (.loop (.seq (.reg [oq 30 (bi .lss (.t 29) (.t 28))])
(.seq (.cond (.t 30) .skip (.exit 0))
(.seq (.block 1 (.seq (.reg [mt 31 29,
oq 32 (.iaddr (.slice 1) (.t 27) (.t 29)),
oq 33 (ld 32),
mt 7 31,
mt 8 33])
(.seq (.reg [mt 34 8,
oq 35 (.lenSl (.t 34)),
oq 36 (.faddr 2 (.t 2)),
oq 37 (ld 36),
mt 38 7,
oq 39 (.iaddr (.slice 2) (.t 37) (.t 38)),
oq 40 (.faddr 1 (.t 39)),
oq 41 (ld 40),
oq 42 (bi .neq (.t 35) (.t 41))])
(.cond (.t 42) (.seq (.reg [oq 4 (.mv (ci 10))])
.ret) .skip))))
(.reg [oq 43 (bi .add (.t 29) (ci 1)),
mt 29 43])))))))
(.seq (.reg [oq 4 (.mv (ci 0))])
.ret))))))⟩
theorem row54 : Row Try.prog (54, a54) := ⟨Try.f54, Try.func54, by kernel_rfl⟩
noncomputable def a55 : AFn :=
⟨83,[(.t 4),(.t 5)],(.seq (.reg [⟨(some 2),(.a (.box 51 (.t 0))),none,0⟩,
oq 4 (.mv (ci 0)),
oq 5 (.mv (ci 0))])
(.seq (.reg [oq 14 (.faddr 1 (.t 2)),
oq 15 (ld 14),
oq 16 (.lenSl (.t 15)),
⟨(some 17),(.a (.mkSlice 3 1 8 [(.int .i64 (.ofNat 0))] (.t 16) (.t 16))),none,0⟩,
mt 6 17])
(.seq (.reg [mt 18 6,
oq 19 (.iaddr (.slice 1) (.t 18) (ci 0)),
⟨none,(.x (.st 1 (.t 19) (ci 1))),none,0⟩])
(.seq (.reg [oq 7 (.mv (ci 1))])
(.seq (.seq (.reg [oq 20 (.faddr 1 (.t 2)),
oq 21 (ld 20),
oq 22 (.lenSl (.t 21)),
oq 23 (.mv (ci 0))])
(.block 0 (.loop (.seq (.reg [oq 24 (bi .lss (.t 23) (.t 22))])
(.seq (.cond (.t 24) .skip (.exit 0))
(.seq (.block 1 (.seq (.reg [mt 25 23,
oq 26 (.iaddr (.slice 6) (.t 21) (.t 23)),
oq 27 (.ld true 6 (.t 26)),
⟨(some 9),(.a (.alloc 62 [(.int .i64 (.ofNat 0)),(.int .i64 (.ofNat 0)),(.int .i64 (.ofNat 0)),.nilsl,.nilsl,.nilsl])),none,0⟩,
mt 8 25,
⟨none,(.x (.st 6 (.t 9) (.t 27))),none,0⟩])
(.seq (.seq (.reg [oq 28 (.faddr 0 (.t 9)),
oq 29 (ld 28),
oq 30 (bi .eql (.t 29) (ci 3))])
(.cond (.t 30) (.seq (.reg [mt 31 7,
mt 32 7,
mt 33 6,
mt 34 8,
oq 35 (.iaddr (.slice 1) (.t 33) (.t 34)),
oq 36 (ld 35),
oc 37 62 [(.t 32),(.t 36)] 0,
oq 38 (bi .quo (.t 31) (.t 37)),
mt 10 38])
(.seq (.seq (.reg [mt 39 10,
mt 40 6,
mt 41 8,
oq 42 (.iaddr (.slice 1) (.t 40) (.t 41)),
oq 43 (ld 42),
oq 44 (bi .quo (ci 1000000000000000) (.t 43)),
oq 45 (bi .gtr (.t 39) (.t 44))])
(.cond (.t 45) (.seq (.reg [oq 4 (.mv (ci 0)),
oq 5 (.mv (ci 5))])
.ret) .skip))
(.seq (.reg [mt 46 10,
mt 47 6,
mt 48 8,
oq 49 (.iaddr (.slice 1) (.t 47) (.t 48)),
oq 50 (ld 49),
oq 51 (bi .mul (.t 46) (.t 50)),
mt 7 51])
(.exit 1)))) .skip))
(.seq (.drw [oq 52 (.ld true 6 (.t 9)),
mt 53 1,
oc 54 63 [(.t 52),(.t 53)] 3,
oq 55 (.ld true 6 (.t 9)),
⟨(some 56),(.x (.inv [(109,94,none),(131,96,none)] (.t 54) [(.t 55)])),none,15⟩,
om 11 31 (.mv (.t 56))])
(.seq (.seq (.reg [mt 57 11,
mt 58 6,
mt 59 8,
oq 60 (.iaddr (.slice 1) (.t 58) (.t 59)),
oq 61 (ld 60),
oq 62 (bi .quo (ci 1000000000000000) (.t 61)),
oq 63 (bi .gtr (.t 57) (.t 62))])
(.cond (.t 63) (.seq (.reg [oq 4 (.mv (ci 0)),
oq 5 (.mv (ci 5))])
.ret) .skip))
(.seq (.reg [oq 64 (.faddr 3 (.t 9)),
oq 65 (ld 64),
oq 66 (.lenSl (.t 65)),
oq 67 (.mv (ci 0))])
(.block 2 (.loop (.seq (.reg [oq 68 (bi .lss (.t 67) (.t 66))])
(.seq (.cond (.t 68) .skip (.exit 2))
(.seq (.block 3 (.seq (.reg [oq 69 (.iaddr (.slice 1) (.t 65) (.t 67)),
oq 70 (ld 69),
mt 13 70])
(.reg [mt 71 6,
mt 72 13,
mt 73 6,
mt 74 8,
oq 75 (.iaddr (.slice 1) (.t 73) (.t 74)),
oq 76 (ld 75),
mt 77 11,
oq 78 (bi .mul (.t 76) (.t 77)),
oq 79 (.iaddr (.slice 1) (.t 71) (.t 72)),
⟨none,(.x (.st 1 (.t 79) (.t 78))),none,0⟩])))
(.reg [oq 80 (bi .add (.t 67) (ci 1)),
mt 67 80]))))))))))))
(.reg [oq 81 (bi .add (.t 23) (ci 1)),
mt 23 81])))))))
(.seq (.reg [mt 82 7,
mt 4 82,
oq 5 (.mv (ci 0))])
.ret))))))⟩
theorem row55 : Row Try.prog (55, a55) := ⟨Try.f55, Try.func55, by kernel_rfl⟩
noncomputable def a56 : AFn :=
⟨57,[(.cell 6 true 6)],(.seq (.reg [⟨(some 3),(.a (.box 51 (.t 0))),none,0⟩,
⟨(some 4),(.a (.box 34 (.t 1))),none,0⟩,
⟨(some 6),(.a (.alloc 62 [(.int .i64 (.ofNat 0)),(.int .i64 (.ofNat 0)),(.int .i64 (.ofNat 0)),.nilsl,.nilsl,.nilsl])),none,0⟩])
(.seq (.reg [oq 12 (.faddr 1 (.t 3)),
oq 13 (ld 12),
oq 14 (.iaddr (.slice 6) (.t 13) (ci 0)),
oq 15 (.ld true 6 (.t 14)),
⟨(some 7),(.a (.alloc 62 [(.int .i64 (.ofNat 0)),(.int .i64 (.ofNat 0)),(.int .i64 (.ofNat 0)),.nilsl,.nilsl,.nilsl])),none,0⟩,
⟨none,(.x (.st 6 (.t 7) (.t 15))),none,0⟩])
(.seq (.block 0 (.loop (.seq (.seq (.reg [oq 16 (.faddr 0 (.t 7)),
oq 17 (ld 16),
oq 18 (bi .neq (.t 17) (ci 3))])
(.cond (.t 18) .skip (.exit 0)))
(.block 1 (.seq (.reg [oq 19 (.faddr 4 (.t 7)),
oq 20 (ld 19),
mt 8 20])
(.seq (.seq (.reg [oq 21 (.faddr 0 (.t 7)),
oq 22 (ld 21),
oq 23 (bi .eql (.t 22) (ci 2))])
(.cond (.t 23) (.reg [oq 24 (.faddr 1 (.t 4)),
oq 25 (ld 24),
oq 26 (.faddr 2 (.t 7)),
oq 27 (ld 26),
oq 28 (.iaddr (.slice 1) (.t 25) (.t 27)),
oq 29 (ld 28),
mt 8 29]) .skip))
(.seq (.reg [oq 9 (.mv (ci 0))])
(.seq (.seq (.reg [mt 30 8,
oq 31 (.lenSl (.t 30)),
oq 32 (.mv (ci 0))])
(.block 2 (.loop (.seq (.reg [oq 33 (bi .lss (.t 32) (.t 31))])
(.seq (.cond (.t 33) .skip (.exit 2))
(.seq (.block 3 (.seq (.reg [oq 34 (.iaddr (.slice 1) (.t 30) (.t 32)),
oq 35 (ld 34),
mt 11 35])
(.reg [mt 36 9,
mt 37 11,
oq 38 (bi .add (.t 36) (.t 37)),
mt 9 38])))
(.reg [oq 39 (bi .add (.t 32) (ci 1)),
mt 32 39])))))))
(.seq (.drw [oq 40 (.faddr 1 (.t 3)),
om 41 1 (ld 40),
oq 42 (.faddr 3 (.t 7)),
om 43 4 (ld 42),
mt 44 8,
mt 45 2,
mt 46 9,
om 47 96 (bi .rem (.t 45) (.t 46)),
oc 48 64 [(.t 44),(.t 47)] 240,
om 49 508 (.iaddr (.slice 1) (.t 43) (.t 48)),
om 50 1020 (ld 49),
om 51 2047 (.iaddr (.slice 6) (.t 41) (.t 50)),
om 52 4095 (.ld true 6 (.t 51)),
⟨none,(.x (.st 6 (.t 7) (.t 52))),none,8191⟩])
(.reg [mt 53 2,
mt 54 9,
oq 55 (bi .quo (.t 53) (.t 54)),
mt 2 55]))))))))))
(.seq (.reg [oq 56 (.ld true 6 (.t 7)),
⟨none,(.x (.st 6 (.t 6) (.t 56))),none,0⟩])
.ret))))⟩
theorem row56 : Row Try.prog (56, a56) := ⟨Try.f56, Try.func56, by kernel_rfl⟩
noncomputable def a57 : AFn :=
⟨22,[(.t 4)],(.seq (.reg [⟨(some 3),(.a (.box 62 (.t 1))),none,0⟩,
oq 4 (.mv (ci 0))])
(.seq (.reg [oq 6 (.build [.nilfn,.nilfn,.nilfn,.nilfn] [(1,1,(.c (.fn 65 [] []))),(2,1,(.c (.fn 66 [] []))),(3,1,(.c (.fn 67 [] [])))]),
⟨(some 5),(.a (.alloc 127 [.nilfn,.nilfn,.nilfn,.nilfn])),none,0⟩,
⟨none,(.x (.st 4 (.t 5) (.t 6))),none,0⟩])
(.seq (.seq (.reg [oq 7 (.faddr 0 (.t 3)),
oq 8 (ld 7),
oq 9 (bi .lss (.t 8) (ci 1)),
mt 10 9,
og 11 10 false 0 (.faddr 0 (.t 3)),
og 12 10 false 0 (ld 11),
og 13 10 false 0 (bi .gtr (.t 12) (ci 3)),
oq 14 (.pick (.t 10) (.c (.bool true)) (.t 13))])
(.cond (.t 14) (.seq (.reg [oq 4 (.mv (ci 3))])
.ret) .skip))
(.seq (.drw [oq 15 (.faddr 0 (.t 3)),
om 16 1 (ld 15),
om 17 3 (.iaddr (.arr 4 1) (.t 5) (.t 16)),
om 18 7 (ld 17),
mt 19 0,
oq 20 (.ld true 6 (.t 3)),
⟨(some 21),(.x (.call (.t 18) [(.t 19),(.t 20)])),none,63⟩,
om 4 127 (.mv (.t 21))])
.ret))))⟩
theorem row57 : Row Try.prog (57, a57) := ⟨Try.f57, Try.func57, by kernel_rfl⟩
noncomputable def a58 : AFn :=
⟨92,[(.t 8),(.t 9)],(.seq (.reg [oq 8 (.mv (.c .nilsl)),
oq 9 (.mv (.c (.bool false)))])
(.seq (.seq (.reg [mt 15 3,
oq 16 (.lenSl (.t 15)),
oq 17 (bi .eql (.t 16) (ci 0))])
(.cond (.t 17) (.seq (.reg [oq 8 (.mv (.c .nilsl)),
oq 9 (.mv (.c (.bool false)))])
.ret) .skip))
(.seq (.reg [mt 18 0,
oq 19 (.nilchk (.t 18)),
oq 20 (.faddr 0 (.t 19)),
oq 21 (.faddr 1 (.t 20)),
oq 22 (ld 21),
oq 23 (.lenSl (.t 22)),
mt 24 3,
oq 25 (.lenSl (.t 24)),
oq 26 (bi .sub (.t 23) (.t 25)),
mt 10 26])
(.seq (.drw [mt 27 0,
om 28 1 (.nilchk (.t 27)),
om 29 3 (.faddr 3 (.t 28)),
om 30 7 (ld 29),
mt 31 10,
mt 32 0,
om 33 32 (.nilchk (.t 32)),
om 34 96 (.faddr 4 (.t 33)),
om 35 224 (ld 34),
mt 36 10,
mt 37 1,
mt 38 2,
om 39 1535 (.iaddr (.slice 1) (.t 30) (.t 31)),
⟨none,(.x (.st 1 (.t 39) (.t 37))),none,5631⟩,
om 40 16383 (.iaddr (.slice 1) (.t 35) (.t 36)),
⟨none,(.x (.st 1 (.t 40) (.t 38))),none,32767⟩])
(.seq (.reg [mt 41 3,
oq 42 (.slc (.slice 6) (.t 41) (some (ci 1)) none none),
mt 11 42,
oq 12 (.mv (.c (.bool true)))])
(.seq (.seq (.reg [mt 43 3,
oq 44 (.iaddr (.slice 6) (.t 43) (ci 0)),
oq 45 (.faddr 3 (.t 44)),
oq 46 (ld 45),
oq 47 (.lenSl (.t 46)),
oq 48 (.mv (ci 0))])
(.block 0 (.loop (.seq (.reg [oq 49 (bi .lss (.t 48) (.t 47))])
(.seq (.cond (.t 49) .skip (.exit 0))
(.seq (.block 1 (.seq (.reg [oq 50 (.iaddr (.slice 1) (.t 46) (.t 48)),
oq 51 (ld 50),
mt 14 51])
(.seq (.seq (.reg [mt 52 14,
mt 53 0,
oq 54 (.nilchk (.t 53)),
oq 55 (.faddr 0 (.t 54)),
oq 56 (.faddr 1 (.t 55)),
oq 57 (ld 56),
oq 58 (.lenSl (.t 57)),
mt 59 11,
oq 60 (.lenSl (.t 59)),
oq 61 (bi .sub (.t 58) (.t 60)),
oq 62 (bi .neq (.t 52) (.t 61))])
(.cond (.t 62) (.seq (.reg [oq 8 (.mv (.c .nilsl)),
oq 9 (.mv (.c (.bool false)))])
.ret) .skip))
(.seq (.reg [mt 64 0,
mt 65 10,
mt 66 2,
oq 67 (bi .add (.t 66) (ci 1)),
mt 68 11,
oc 69 58 [(.t 64),(.t 65),(.t 67),(.t 68)] 0,
mt 63 69,
oq 70 (.extract (.t 63) 0),
oq 71 (.extract (.t 63) 1),
mt 11 70,
mt 12 71])
(.seq (.reg [mt 72 12,
oq 73 (.un .not (.t 72))])
(.cond (.t 73) (.seq (.reg [oq 8 (.mv (.c .nilsl)),
oq 9 (.mv (.c (.bool false)))])
.ret) .skip))))))
(.reg [oq 74 (bi .add (.t 48) (ci 1)),
mt 48 74])))))))
(.seq (.drw [mt 75 0,
om 76 1 (.nilchk (.t 75)),
om 77 3 (.faddr 5 (.t 76)),
om 78 7 (ld 77),
mt 79 10,
mt 80 0,
om 81 32 (.nilchk (.t 80)),
om 82 96 (.faddr 0 (.t 81)),
om 83 224 (.faddr 1 (.t 82)),
om 84 480 (ld 83),
om 85 992 (.lenSl (.t 84)),
mt 86 11,
om 87 2048 (.lenSl (.t 86)),
om 88 8160 (bi .sub (.t 85) (.t 87)),
om 89 16352 (bi .sub (.t 88) (ci 1)),
om 90 32767 (.iaddr (.slice 1) (.t 78) (.t 79)),
⟨none,(.x (.st 1 (.t 90) (.t 89))),none,65535⟩])
(.seq (.reg [mt 91 11,
mt 8 91,
oq 9 (.mv (.c (.bool true)))])
.ret))))))))⟩
theorem row58 : Row Try.prog (58, a58) := ⟨Try.f58, Try.func58, by kernel_rfl⟩
noncomputable def a59 : AFn :=
⟨25,[(.t 2)],(.seq (.reg [oq 2 (.mv (ci 0))])
(.seq (.seq (.reg [mt 5 0,
oq 6 (.lenSl (.t 5)),
oq 7 (bi .lss (.t 6) (ci 1))])
(.cond (.t 7) (.reg [oq 8 (.mkIface 9 (.c (.str [115,108,105,99,101,115,46,77,97,120,58,32,101,109,112,116,121,32,108,105,115,116]))),
⟨none,(.x (.bad)),none,0⟩]) .skip))
(.seq (.reg [mt 9 0,
oq 10 (.iaddr (.slice 1) (.t 9) (ci 0)),
oq 11 (ld 10),
mt 3 11])
(.seq (.seq (.reg [oq 4 (.mv (ci 1))])
(.block 0 (.loop (.seq (.seq (.reg [mt 12 4,
mt 13 0,
oq 14 (.lenSl (.t 13)),
oq 15 (bi .lss (.t 12) (.t 14))])
(.cond (.t 15) .skip (.exit 0)))
(.seq (.block 1 (.reg [mt 18 3,
mt 19 0,
mt 20 4,
oq 21 (.iaddr (.slice 1) (.t 19) (.t 20)),
oq 22 (ld 21),
oq 23 (.minmax true [(.t 18),(.t 22)]),
mt 3 23]))
(.reg [mt 16 4,
oq 17 (bi .add (.t 16) (ci 1)),
mt 4 17]))))))
(.seq (.reg [mt 24 3,
mt 2 24])
.ret)))))⟩
theorem row59 : Row Try.prog (59, a59) := ⟨Try.f59, Try.func59, by kernel_rfl⟩
noncomputable def a60 : AFn :=
⟨80,[(.t 2)],(.seq (.reg [oq 2 (.mv (ci 0))])
(.seq (.reg [mt 8 0,
oq 9 (.nilchk (.t 8)),
oq 10 (.faddr 0 (.t 9)),
oq 11 (.faddr 2 (.t 10)),
oq 12 (ld 11),
oq 13 (.lenSl (.t 12)),
⟨(some 14),(.a (.mkSlice 3 1 8 [(.int .i64 (.ofNat 0))] (.t 13) (.t 13))),none,0⟩,
mt 3 14])
(.seq (.seq (.reg [mt 15 0,
oq 16 (.nilchk (.t 15)),
oq 17 (.faddr 0 (.t 16)),
oq 18 (.faddr 1 (.t 17)),
oq 19 (ld 18),
oq 20 (.lenSl (.t 19)),
oq 21 (bi .sub (.t 20) (ci 1)),
mt 4 21])
(.block 0 (.loop (.seq (.seq (.reg [mt 22 4,
oq 23 (bi .geq (.t 22) (ci 0))])
(.cond (.t 23) .skip (.exit 0)))
(.seq (.block 1 (.seq (.reg [mt 26 0,
oq 27 (.nilchk (.t 26)),
oq 28 (.faddr 0 (.t 27)),
oq 29 (.faddr 1 (.t 28)),
oq 30 (ld 29),
mt 31 4,
oq 32 (.iaddr (.slice 6) (.t 30) (.t 31)),
oq 33 (.ld true 6 (.t 32)),
⟨(some 5),(.a (.alloc 62 [(.int .i64 (.ofNat 0)),(.int .i64 (.ofNat 0)),(.int .i64 (.ofNat 0)),.nilsl,.nilsl,.nilsl])),none,0⟩,
⟨none,(.x (.st 6 (.t 5) (.t 33))),none,0⟩])
(.seq (.reg [oq 34 (.faddr 0 (.t 5)),
oq 35 (ld 34),
oq 36 (bi .eql (.t 35) (ci 2))])
(.cond (.t 36) (.reg [mt 37 3,
oq 38 (.faddr 2 (.t 5)),
oq 39 (ld 38),
mt 40 4,
oq 41 (bi .add (.t 40) (ci 1)),
oq 42 (.iaddr (.slice 1) (.t 37) (.t 39)),
⟨none,(.x (.st 1 (.t 42) (.t 41))),none,0⟩]) .skip))))
(.reg [mt 24 4,
oq 25 (bi .sub (.t 24) (ci 1)),
mt 4 25]))))))
(.seq (.seq (.reg [mt 43 0,
oq 44 (.nilchk (.t 43)),
oq 45 (.faddr 0 (.t 44)),
oq 46 (.faddr 1 (.t 45)),
oq 47 (ld 46),
oq 48 (.lenSl (.t 47)),
oq 49 (.mv (ci 0))])
(.block 2 (.loop (.seq (.reg [oq 50 (bi .lss (.t 49) (.t 48))])
(.seq (.cond (.t 50) .skip (.exit 2))
(.seq (.block 3 (.seq (.reg [oq 51 (.iaddr (.slice 6) (.t 47) (.t 49)),
oq 52 (.ld true 6 (.t 51)),
⟨(some 7),(.a (.alloc 62 [(.int .i64 (.ofNat 0)),(.int .i64 (.ofNat 0)),(.int .i64 (.ofNat 0)),.nilsl,.nilsl,.nilsl])),none,0⟩,
⟨none,(.x (.st 6 (.t 7) (.t 52))),none,0⟩])
(.seq (.drw [oq 53 (.faddr 0 (.t 7)),
om 54 1 (ld 53),
om 55 3 (bi .eql (.t 54) (ci 2)),
om 56 7 (.mv (.t 55)),
og 57 56 true 15 (.mv (.t 0)),
og 58 56 true 31 (.nilchk (.t 57)),
og 59 56 true 63 (.faddr 0 (.t 58)),
og 60 56 true 127 (.faddr 2 (.t 59)),
og 61 56 true 255 (ld 60),
og 62 56 true 15 (.faddr 2 (.t 7)),
og 63 56 true 527 (ld 62),
og 64 56 true 2047 (.iaddr (.slice 2) (.t 61) (.t 63)),
og 65 56 true 4095 (.ld true 2 (.t 64)),
og 66 56 true 15 (.faddr 1 (.t 7)),
og 67 56 true 8207 (ld 66),
og 68 56 true 15 (.faddr 3 (.t 7)),
og 69 56 true 32783 (ld 68),
og 70 56 true 98319 (.lenSl (.t 69)),
og 71 56 true 253967 (.build [(.int .i64 (.ofNat 0)),(.int .i64 (.ofNat 0))] [(0,1,(.t 67)),(1,1,(.t 70))]),
og 72 56 true 524287 (.bin .neq (.struct [(0,.int),(1,.int)]) (.t 65) (.t 71)),
om 73 1048575 (.pick (.t 56) (.t 72) (.c (.bool false)))])
(.cond (.t 73) (.seq (.reg [oq 2 (.mv (ci 10))])
.ret) .skip))))
(.reg [oq 74 (bi .add (.t 49) (ci 1)),
mt 49 74])))))))
(.seq (.seq (.reg [mt 75 3,
oc 76 68 [(.t 75),(ci 0)] 0])
(.cond (.t 76) (.seq (.reg [oq 2 (.mv (ci 18))])
.ret) .skip))
(.seq (.seq (.reg [mt 77 3,
oc 78 69 [(.t 77)] 0,
oq 79 (.un .not (.t 78))])
(.cond (.t 79) (.seq (.reg [oq 2 (.mv (ci 9))])
.ret) .skip))
(.seq (.reg [oq 2 (.mv (ci 0))])
.ret)))))))⟩
theorem row60 : Row Try.prog (60, a60) := ⟨Try.f60, Try.func60, by kernel_rfl⟩
noncomputable def a61 : AFn :=
⟨4,[(.t 2)],(.seq (.reg [⟨(some 1),(.a (.box 22 (.t 0))),none,0⟩,
oq 2 (.mv (.c .nilfn))])
(.seq (.reg [oq 3 (.mkFunc 70 [] [(.t 1)]),
mt 2 3])
.ret))⟩
theorem row61 : Row Try.prog (61, a61) := ⟨Try.f61, Try.func61, by kernel_rfl⟩
noncomputable def a62 : AFn :=
⟨12,[(.t 4)],(.seq (.reg [oq 4 (.mv (ci 0))])
(.seq (.block 0 (.loop (.seq (.seq (.reg [mt 5 1,
oq 6 (bi .neq (.t 5) (ci 0))])
(.cond (.t 6) .skip (.exit 0)))
(.block 1 (.drw [mt 7 1,
mt 8 0,
mt 9 1,
om 10 6 (bi .rem (.t 8) (.t 9)),
om 0 3 (.mv (.t 7)),
om 1 31 (.mv (.t 10))])))))
(.seq (.reg [mt 11 0,
mt 4 11])
.ret)))⟩
theorem row62 : Row Try.prog (62, a62) := ⟨Try.f62, Try.func62, by kernel_rfl⟩
noncomputable def a63 : AFn :=
⟨11,[(.t 4)],(.seq (.reg [⟨(some 2),(.a (.box 62 (.t 0))),none,0⟩,
oq 4 (.mv (.c .niliface))])
(.seq (.seq (.reg [oq 5 (.faddr 0 (.t 2)),
oq 6 (ld 5),
oq 7 (bi .eql (.t 6) (ci 1))])
(.cond (.t 7) (.seq (.reg [oq 8 (.build [] []),
oq 9 (.mkIface 131 (.t 8)),
mt 4 9])
.ret) .skip))
(.seq (.reg [mt 10 1,
mt 4 10])
.ret)))⟩
theorem row63 : Row Try.prog (63, a63) := ⟨Try.f63, Try.func63, by kernel_rfl⟩
noncomputable def a64 : AFn :=
⟨22,[(.t 4)],(.seq (.reg [oq 4 (.mv (ci 0))])
(.seq (.seq (.reg [mt 7 0,
oq 8 (.lenSl (.t 7)),
oq 9 (.mv (ci 0))])
(.block 0 (.loop (.seq (.reg [oq 10 (bi .lss (.t 9) (.t 8))])
(.seq (.cond (.t 10) .skip (.exit 0))
(.seq (.block 1 (.seq (.reg [mt 11 9,
oq 12 (.iaddr (.slice 1) (.t 7) (.t 9)),
oq 13 (ld 12),
mt 5 11,
mt 6 13])
(.seq (.seq (.reg [mt 14 1,
mt 15 6,
oq 16 (bi .lss (.t 14) (.t 15))])
(.cond (.t 16) (.seq (.reg [mt 17 5,
mt 4 17])
.ret) .skip))
(.reg [mt 18 1,
mt 19 6,
oq 20 (bi .sub (.t 18) (.t 19)),
mt 1 20]))))
(.reg [oq 21 (bi .add (.t 9) (ci 1)),
mt 9 21])))))))
(.seq (.reg [oq 4 (.mv (ci 0))])
.ret)))⟩
theorem row64 : Row Try.prog (64, a64) := ⟨Try.f64, Try.func64, by kernel_rfl⟩
noncomputable def a65 : AFn :=
⟨43,[(.t 4)],(.seq (.reg [⟨(some 3),(.a (.box 62 (.t 1))),none,0⟩,
oq 4 (.mv (ci 0))])
(.seq (.seq (.reg [oq 5 (.faddr 1 (.t 3)),
oq 6 (ld 5),
oq 7 (bi .neq (.t 6) (ci 0)),
mt 8 7,
og 9 8 false 0 (.faddr 2 (.t 3)),
og 10 8 false 0 (ld 9),
og 11 8 false 0 (bi .neq (.t 10) (ci 0)),
oq 12 (.pick (.t 8) (.c (.bool true)) (.t 11)),
mt 13 12,
og 14 13 false 0 (.faddr 5 (.t 3)),
og 15 13 false 0 (ld 14),
og 16 13 false 0 (.lenSl (.t 15)),
og 17 13 false 0 (bi .gtr (.t 16) (ci 0)),
oq 18 (.pick (.t 13) (.c (.bool true)) (.t 17)),
mt 19 18,
og 20 19 false 0 (.faddr 3 (.t 3)),
og 21 19 false 0 (ld 20),
og 22 19 false 0 (.lenSl (.t 21)),
og 23 19 false 0 (bi .lss (.t 22) (ci 1)),
oq 24 (.pick (.t 19) (.c (.bool true)) (.t 23)),
mt 25 24,
og 26 25 false 0 (.faddr 3 (.t 3)),
og 27 25 false 0 (ld 26),
og 28 25 false 0 (.lenSl (.t 27)),
og 29 25 false 0 (bi .gtr (.t 28) (ci 60)),
oq 30 (.pick (.t 25) (.c (.bool true)) (.t 29)),
mt 31 30,
og 32 31 false 0 (.faddr 4 (.t 3)),
og 33 31 false 0 (ld 32),
og 34 31 false 0 (.lenSl (.t 33)),
og 35 31 false 0 (.faddr 3 (.t 3)),
og 36 31 false 0 (ld 35),
og 37 31 false 0 (.lenSl (.t 36)),
og 38 31 false 0 (bi .neq (.t 34) (.t 37)),
oq 39 (.pick (.t 31) (.c (.bool true)) (.t 38))])
(.cond (.t 39) (.seq (.reg [oq 4 (.mv (ci 3))])
.ret) .skip))
(.seq (.reg [oq 40 (.faddr 4 (.t 3)),
oq 41 (ld 40),
oc 42 71 [(ci 1),(ci 1000),(.t 41)] 0,
mt 4 42])
.ret)))⟩
theorem row65 : Row Try.prog (65, a65) := ⟨Try.f65, Try.func65, by kernel_rfl⟩
noncomputable def a66 : AFn :=
⟨52,[(.t 4)],(.seq (.reg [⟨(some 3),(.a (.box 62 (.t 1))),none,0⟩,
oq 4 (.mv (ci 0))])
(.seq (.seq (.reg [oq 6 (.faddr 4 (.t 3)),
oq 7 (ld 6),
oq 8 (.lenSl (.t 7)),
oq 9 (bi .gtr (.t 8) (ci 0)),
mt 10 9,
og 11 10 false 0 (.faddr 5 (.t 3)),
og 12 10 false 0 (ld 11),
og 13 10 false 0 (.lenSl (.t 12)),
og 14 10 false 0 (bi .gtr (.t 13) (ci 0)),
oq 15 (.pick (.t 10) (.c (.bool true)) (.t 14)),
mt 16 15,
og 17 16 false 0 (.faddr 3 (.t 3)),
og 18 16 false 0 (ld 17),
og 19 16 false 0 (.lenSl (.t 18)),
og 20 16 false 0 (bi .lss (.t 19) (ci 1)),
oq 21 (.pick (.t 16) (.c (.bool true)) (.t 20)),
mt 22 21,
og 23 22 false 0 (.faddr 3 (.t 3)),
og 24 22 false 0 (ld 23),
og 25 22 false 0 (.lenSl (.t 24)),
og 26 22 false 0 (bi .gtr (.t 25) (ci 10)),
oq 27 (.pick (.t 22) (.c (.bool true)) (.t 26))])
(.cond (.t 27) (.seq (.reg [oq 4 (.mv (ci 3))])
.ret) .skip))
(.seq (.seq (.drw [mt 28 0,
om 29 1 (.nilchk (.t 28)),
om 30 3 (.faddr 0 (.t 29)),
om 31 7 (.faddr 0 (.t 30)),
om 32 15 (ld 31),
om 33 31 (bi .sub (.t 32) (ci 1)),
oq 34 (.faddr 1 (.t 3)),
om 35 64 (ld 34),
⟨(some 36),(.a (.bslice 3 1 1 [(.int .i64 (.ofNat 0))] [(0,(.t 35))])),none,192⟩,
oc 37 71 [(ci 0),(.t 33),(.t 36)] 511,
om 5 1023 (.mv (.t 37))])
(.seq (.reg [mt 38 5,
oq 39 (bi .neq (.t 38) (ci 0))])
(.cond (.t 39) (.seq (.reg [mt 40 5,
mt 4 40])
.ret) .skip)))
(.seq (.drw [mt 41 0,
om 42 1 (.nilchk (.t 41)),
om 43 3 (.faddr 0 (.t 42)),
om 44 7 (.faddr 2 (.t 43)),
om 45 15 (ld 44),
om 46 31 (.lenSl (.t 45)),
om 47 63 (bi .sub (.t 46) (ci 1)),
oq 48 (.faddr 2 (.t 3)),
om 49 128 (ld 48),
⟨(some 50),(.a (.bslice 3 1 1 [(.int .i64 (.ofNat 0))] [(0,(.t 49))])),none,384⟩,
oc 51 71 [(ci 0),(.t 47),(.t 50)] 1023,
om 4 2047 (.mv (.t 51))])
.ret))))⟩
theorem row66 : Row Try.prog (66, a66) := ⟨Try.f66, Try.func66, by kernel_rfl⟩
noncomputable def a67 : AFn :=
⟨39,[(.t 4)],(.seq (.reg [⟨(some 3),(.a (.box 62 (.t 1))),none,0⟩,
oq 4 (.mv (ci 0))])
(.seq (.seq (.drw [oq 5 (.faddr 1 (.t 3)),
om 6 1 (ld 5),
om 7 3 (bi .neq (.t 6) (ci 0)),
om 8 7 (.mv (.t 7)),
og 9 8 false 15 (.faddr 2 (.t 3)),
og 10 8 false 31 (ld 9),
og 11 8 false 63 (bi .neq (.t 10) (ci 0)),
om 12 127 (.pick (.t 8) (.c (.bool true)) (.t 11)),
om 13 255 (.mv (.t 12)),
og 14 13 false 511 (.faddr 3 (.t 3)),
og 15 13 false 1023 (ld 14),
og 16 13 false 2047 (.lenSl (.t 15)),
og 17 13 false 4095 (bi .gtr (.t 16) (ci 0)),
om 18 8191 (.pick (.t 13) (.c (.bool true)) (.t 17)),
om 19 16383 (.mv (.t 18)),
og 20 19 false 32767 (.faddr 4 (.t 3)),
og 21 19 false 65535 (ld 20),
og 22 19 false 131071 (.lenSl (.t 21)),
og 23 19 false 262143 (bi .gtr (.t 22) (ci 0)),
om 24 524287 (.pick (.t 19) (.c (.bool true)) (.t 23)),
om 25 1048575 (.mv (.t 24)),
og 26 25 false 2097151 (.faddr 5 (.t 3)),
og 27 25 false 4194303 (ld 26),
og 28 25 false 8388607 (.lenSl (.t 27)),
og 29 25 false 2097151 (.mv (.t 0)),
og 30 25 false 18874367 (.nilchk (.t 29)),
og 31 25 false 52428799 (.faddr 0 (.t 30)),
og 32 25 false 119537663 (.faddr 0 (.t 31)),
og 33 25 false 253755391 (ld 32),
og 34 25 false 536870911 (bi .neq (.t 28) (.t 33)),
om 35 1073741823 (.pick (.t 25) (.c (.bool true)) (.t 34))])
(.cond (.t 35) (.seq (.reg [oq 4 (.mv (ci 3))])
.ret) .skip))
(.seq (.reg [oq 36 (.faddr 5 (.t 3)),
oq 37 (ld 36),
oc 38 71 [(.c (.int .i64 (.negSucc 999999))),(ci 1000000),(.t 37)] 0,
mt 4 38])
.ret)))⟩
theorem row67 : Row Try.prog (67, a67) := ⟨Try.f67, Try.func67, by kernel_rfl⟩
noncomputable def a68 : AFn :=
⟨9,[(.t 4)],(.seq (.reg [oq 4 (.mv (.c (.bool false)))])
(.seq (.reg [mt 5 0,
mt 6 1,
oc 7 72 [(.t 5),(.t 6)] 0,
oq 8 (bi .geq (.t 7) (ci 0)),
mt 4 8])
.ret))⟩
theorem row68 : Row Try.prog (68, a68) := ⟨Try.f68, Try.func68, by kernel_rfl⟩
noncomputable def a69 : AFn :=
⟨21,[(.t 2)],(.seq (.reg [oq 2 (.mv (.c (.bool false)))])
(.seq (.seq (.reg [mt 4 0,
oq 5 (.lenSl (.t 4)),
oq 6 (bi .sub (.t 5) (ci 1)),
mt 3 6])
(.block 0 (.loop (.seq (.seq (.reg [mt 7 3,
oq 8 (bi .gtr (.t 7) (ci 0))])
(.cond (.t 8) .skip (.exit 0)))
(.seq (.block 1 (.seq (.drw [mt 11 0,
mt 12 3,
om 13 3 (.iaddr (.slice 1) (.t 11) (.t 12)),
om 14 7 (ld 13),
mt 15 0,
mt 16 3,
om 17 32 (bi .sub (.t 16) (ci 1)),
om 18 112 (.iaddr (.slice 1) (.t 15) (.t 17)),
om 19 240 (ld 18),
oc 20 73 [(.t 14),(.t 19)] 511])
(.cond (.t 20) (.seq (.reg [oq 2 (.mv (.c (.bool false)))])
.ret) .skip)))
(.reg [mt 9 3,
oq 10 (bi .sub (.t 9) (ci 1)),
mt 3 10]))))))
(.seq (.reg [oq 2 (.mv (.c (.bool true)))])
.ret)))⟩
theorem row69 : Row Try.prog (69, a69) := ⟨Try.f69, Try.func69, by kernel_rfl⟩
noncomputable def a70 : AFn :=
⟨16,[],(.seq (.reg [oq 5 (ld 1),
oq 6 (.lenSl (.t 5)),
oq 7 (.mv (ci 0))])
(.block 0 (.loop (.seq (.reg [oq 8 (bi .lss (.t 7) (.t 6))])
(.seq (.cond (.t 8) .skip (.exit 0))
(.seq (.block 1 (.seq (.reg [oq 9 (.iaddr (.slice 1) (.t 5) (.t 7)),
oq 10 (ld 9),
mt 4 10])
(.seq (.reg [mt 11 0,
mt 12 4,
⟨(some 13),(.x (.call (.t 11) [(.t 12)])),none,0⟩,
oq 14 (.un .not (.t 13))])
(.cond (.t 14) .ret .skip))))
(.reg [oq 15 (bi .add (.t 7) (ci 1)),
mt 7 15])))))))⟩
theorem row70 : Row Try.prog (70, a70) := ⟨Try.f70, Try.func70, by kernel_rfl⟩
noncomputable def a71 : AFn :=
⟨10,[(.t 6)],(.seq (.reg [⟨(some 3),(.a (.box 3 (.t 0))),none,0⟩,
⟨(some 4),(.a (.box 3 (.t 1))),none,0⟩,
oq 6 (.mv (ci 0))])
(.seq (.seq (.reg [mt 7 2,
oq 8 (.mkFunc 75 [] [(.t 3),(.t 4)]),
oc 9 74 [(.t 7),(.t 8)] 0])
(.cond (.t 9) (.seq (.reg [oq 6 (.mv (ci 2))])
.ret) .skip))
(.seq (.reg [oq 6 (.mv (ci 0))])
.ret)))⟩
theorem row71 : Row Try.prog (71, a71) := ⟨Try.f71, Try.func71, by kernel_rfl⟩
noncomputable def a72 : AFn :=
⟨19,[(.t 4)],(.seq (.reg [oq 4 (.mv (ci 0))])
(.seq (.seq (.reg [mt 6 0,
oq 7 (.lenSl (.t 6)),
oq 8 (.mv (ci 0))])
(.block 0 (.loop (.seq (.reg [oq 9 (bi .lss (.t 8) (.t 7))])
(.seq (.cond (.t 9) .skip (.exit 0))
(.seq (.block 1 (.seq (.reg [mt 10 8,
mt 5 10])
(.seq (.reg [mt 11 1,
mt 12 0,
mt 13 5,
oq 14 (.iaddr (.slice 1) (.t 12) (.t 13)),
oq 15 (ld 14),
oq 16 (bi .eql (.t 11) (.t 15))])
(.cond (.t 16) (.seq (.reg [mt 17 5,
mt 4 17])
.ret) .skip))))
(.reg [oq 18 (bi .add (.t 8) (ci 1)),
mt 8 18])))))))
(.seq (.reg [oq 4 (.mv (.c (.int .i64 (.negSucc 0))))])
.ret)))⟩
theorem row72 : Row Try.prog (72, a72) := ⟨Try.f72, Try.func72, by kernel_rfl⟩
noncomputable def a73 : AFn :=
⟨17,[(.t 4)],(.seq (.reg [oq 4 (.mv (.c (.bool false)))])
(.seq (.reg [mt 5 0,
oc 6 35 [(.t 5)] 0,
mt 7 6,
og 8 7 true 0 (.mv (.t 1)),
⟨(some 9),(.x (.call (.c (.fn 35 [] [])) [(.t 8)])),(some (7,true)),0⟩,
og 10 7 true 0 (.un .not (.t 9)),
oq 11 (.pick (.t 7) (.t 10) (.c (.bool false))),
mt 12 11,
og 13 12 false 0 (.mv (.t 0)),
og 14 12 false 0 (.mv (.t 1)),
og 15 12 false 0 (bi .lss (.t 13) (.t 14)),
oq 16 (.pick (.t 12) (.c (.bool true)) (.t 15)),
mt 4 16])
.ret))⟩
theorem row73 : Row Try.prog (73, a73) := ⟨Try.f73, Try.func73, by kernel_rfl⟩
noncomputable def a74 : AFn :=
⟨9,[(.t 4)],(.seq (.reg [oq 4 (.mv (.c (.bool false)))])
(.seq (.reg [mt 5 0,
mt 6 1,
oc 7 76 [(.t 5),(.t 6)] 0,
oq 8 (bi .geq (.t 7) (ci 0)),
mt 4 8])
.ret))⟩
theorem row74 : Row Try.prog (74, a74) := ⟨Try.f74, Try.func74, by kernel_rfl⟩
noncomputable def a75 : AFn :=
⟨13,[(.t 4)],(.seq (.reg [oq 4 (.mv (.c (.bool false)))])
(.seq (.reg [mt 5 0,
oq 6 (ld 1),
oq 7 (bi .lss (.t 5) (.t 6)),
mt 8 7,
og 9 8 false 0 (.mv (.t 0)),
og 10 8 false 0 (ld 2),
og 11 8 false 0 (bi .gtr (.t 9) (.t 10)),
oq 12 (.pick (.t 8) (.c (.bool true)) (.t 11)),
mt 4 12])
.ret))⟩
theorem row75 : Row Try.prog (75, a75) := ⟨Try.f75, Try.func75, by kernel_rfl⟩
noncomputable def a76 : AFn :=
⟨19,[(.t 4)],(.seq (.reg [oq 4 (.mv (ci 0))])
(.seq (.seq (.reg [mt 6 0,
oq 7 (.lenSl (.t 6)),
oq 8 (.mv (ci 0))])
(.block 0 (.loop (.seq (.reg [oq 9 (bi .lss (.t 8) (.t 7))])
(.seq (.cond (.t 9) .skip (.exit 0))
(.seq (.block 1 (.seq (.reg [mt 10 8,
mt 5 10])
(.seq (.reg [mt 11 1,
mt 12 0,
mt 13 5,
oq 14 (.iaddr (.slice 1) (.t 12) (.t 13)),
oq 15 (ld 14),
⟨(some 16),(.x (.call (.t 11) [(.t 15)])),none,0⟩])
(.cond (.t 16) (.seq (.reg [mt 17 5,
mt 4 17])
.ret) .skip))))
(.reg [oq 18 (bi .add (.t 8) (ci 1)),
mt 8 18])))))))
(.seq (.reg [oq 4 (.mv (.c (.int .i64 (.negSucc 0))))])
.ret)))⟩
theorem row76 : Row Try.prog (76, a76) := ⟨Try.f76, Try.func76, by kernel_rfl⟩
noncomputable def a94 : AFn :=
⟨8,[(.t 4)],(.seq (.reg [⟨(some 2),(.a (.box 109 (.t 0))),none,0⟩,
⟨(some 3),(.a (.box 62 (.t 1))),none,0⟩,
oq 4 (.mv (ci 0))])
(.seq (.reg [oq 5 (.faddr 0 (.t 2)),
oq 6 (ld 5),
oq 7 (bi .shl (ci 1) (.t 6)),
mt 4 7])
.ret))⟩
theorem row94 : Row Try.prog (94, a94) := ⟨Try.f94, Try.func94, by kernel_rfl⟩
noncomputable def a96 : AFn :=
⟨20,[(.t 4)],(.seq (.reg [⟨(some 2),(.a (.box 131 (.t 0))),none,0⟩,
⟨(some 3),(.a (.box 62 (.t 1))),none,0⟩,
oq 4 (.mv (ci 0))])
(.seq (.reg [oq 5 (.mv (ci 0))])
(.seq (.seq (.reg [oq 8 (.faddr 4 (.t 3)),
oq 9 (ld 8),
oq 10 (.lenSl (.t 9)),
oq 11 (.mv (ci 0))])
(.block 0 (.loop (.seq (.reg [oq 12 (bi .lss (.t 11) (.t 10))])
(.seq (.cond (.t 12) .skip (.exit 0))
(.seq (.block 1 (.seq (.reg [oq 13 (.iaddr (.slice 1) (.t 9) (.t 11)),
oq 14 (ld 13),
mt 7 14])
(.reg [mt 15 5,
mt 16 7,
oq 17 (bi .add (.t 15) (.t 16)),
mt 5 17])))
(.reg [oq 18 (bi .add (.t 11) (ci 1)),
mt 11 18])))))))
(.seq (.reg [mt 19 5,
mt 4 19])
.ret))))⟩
theorem row96 : Row Try.prog (96, a96) := ⟨Try.f96, Try.func96, by kernel_rfl⟩
end Go.Proofs.Ytlnjemhkijkaoaa.lives4
