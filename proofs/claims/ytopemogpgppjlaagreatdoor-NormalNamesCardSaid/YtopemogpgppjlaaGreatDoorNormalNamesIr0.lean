/- The functions that NormalNames reaches, as data of the evaluator (part 0), written by program; each is shown to be the compiler's result on the loaded function. -/
import Derived.Test.YtopemogpgppjlaaGreatDoorProg
import Derived.Test.YtopemogpgppjlaaGreatDoorEv7
import Derived.KernelRfl
namespace Go.Proofs.YtopemogpgppjlaaGreatDoor.normalNames
open Go.Ev
set_option maxRecDepth 100000
noncomputable def a14 : AFn :=
⟨26,[(.t 4)],(.seq (.reg [⟨(some 4),(.q (.mv (.c (.bool false)))),none,0⟩])
(.seq (.seq (.reg [⟨(some 6),(.q (.mv (.t 0))),none,0⟩,
⟨(some 7),(.q (.lenSl (.t 6))),none,0⟩,
⟨(some 8),(.q (.mv (.t 1))),none,0⟩,
⟨(some 9),(.q (.lenSl (.t 8))),none,0⟩,
⟨(some 10),(.q (.bin .neq (.p .int) (.t 7) (.t 9))),none,0⟩])
(.cond (.t 10) (.seq (.reg [⟨(some 4),(.q (.mv (.c (.bool false)))),none,0⟩])
.ret) .skip))
(.seq (.seq (.reg [⟨(some 5),(.q (.mv (.c (.int .i64 (.ofNat 0))))),none,0⟩])
(.block 0 (.loop (.seq (.seq (.reg [⟨(some 11),(.q (.mv (.t 5))),none,0⟩,
⟨(some 12),(.q (.mv (.t 0))),none,0⟩,
⟨(some 13),(.q (.lenSl (.t 12))),none,0⟩,
⟨(some 14),(.q (.bin .lss (.p .int) (.t 11) (.t 13))),none,0⟩])
(.cond (.t 14) .skip (.exit 0)))
(.seq (.block 1 (.seq (.drw [⟨(some 17),(.q (.mv (.t 0))),none,0⟩,
⟨(some 18),(.q (.mv (.t 5))),none,0⟩,
⟨(some 19),(.q (.iaddr (.slice 1) (.t 17) (.t 18))),none,3⟩,
⟨(some 20),(.q (.ld false 1 (.t 19))),none,7⟩,
⟨(some 21),(.q (.mv (.t 1))),none,0⟩,
⟨(some 22),(.q (.mv (.t 5))),none,0⟩,
⟨(some 23),(.q (.iaddr (.slice 1) (.t 21) (.t 22))),none,48⟩,
⟨(some 24),(.q (.ld false 1 (.t 23))),none,112⟩,
⟨(some 25),(.q (.bin .neq (.p .int) (.t 20) (.t 24))),none,255⟩])
(.cond (.t 25) (.seq (.reg [⟨(some 4),(.q (.mv (.c (.bool false)))),none,0⟩])
.ret) .skip)))
(.reg [⟨(some 15),(.q (.mv (.t 5))),none,0⟩,
⟨(some 16),(.q (.bin .add (.p .int) (.t 15) (.c (.int .i64 (.ofNat 1))))),none,0⟩,
⟨(some 5),(.q (.mv (.t 16))),none,0⟩]))))))
(.seq (.reg [⟨(some 4),(.q (.mv (.c (.bool true)))),none,0⟩])
.ret))))⟩
theorem row14 : Row Tryz.prog (14, a14) := ⟨Tryz.f14, Tryz.func14, by kernel_rfl⟩
noncomputable def a28 : AFn :=
⟨50,[(.t 0)],(.seq (.reg [⟨(some 0),(.q (.mv (.c (.bool false)))),none,0⟩])
(.seq (.reg [⟨(some 8),(.x (.call (.c (.fn 29 [] [])) [])),none,0⟩,
⟨(some 9),(.a (.bslice 3 1 2 [(.int .i64 (.ofNat 0))] [(0,(.c (.int .i64 (.ofNat 0)))),(1,(.c (.int .i64 (.ofNat 1))))])),none,0⟩,
⟨(some 10),(.x (.call (.c (.fn 34 [] [])) [(.t 8),(.t 9)])),none,0⟩,
⟨(some 7),(.q (.mv (.t 10))),none,0⟩,
⟨(some 11),(.q (.extract (.t 7) 0)),none,0⟩,
⟨(some 12),(.q (.extract (.t 7) 1)),none,0⟩,
⟨(some 1),(.q (.mv (.t 11))),none,0⟩,
⟨(some 2),(.q (.mv (.t 12))),none,0⟩])
(.seq (.reg [⟨(some 14),(.x (.call (.c (.fn 33 [] [])) [])),none,0⟩,
⟨(some 15),(.x (.call (.c (.fn 66 [] [])) [(.t 14),(.c (.int .i64 (.ofNat 0)))])),none,0⟩,
⟨(some 13),(.q (.mv (.t 15))),none,0⟩,
⟨(some 16),(.q (.extract (.t 13) 0)),none,0⟩,
⟨(some 17),(.q (.extract (.t 13) 1)),none,0⟩,
⟨(some 3),(.q (.mv (.t 16))),none,0⟩,
⟨(some 4),(.q (.mv (.t 17))),none,0⟩])
(.seq (.reg [⟨(some 19),(.a (.bslice 3 1 2 [(.int .i64 (.ofNat 0))] [(0,(.c (.int .i64 (.ofNat 2)))),(1,(.c (.int .i64 (.ofNat 3))))])),none,0⟩,
⟨(some 20),(.a (.bslice 3 1 2 [(.int .i64 (.ofNat 0))] [(0,(.c (.int .i64 (.ofNat 1)))),(1,(.c (.int .i64 (.ofNat 2))))])),none,0⟩,
⟨(some 21),(.x (.call (.c (.fn 40 [] [])) [(.t 19),(.t 20)])),none,0⟩,
⟨(some 18),(.q (.mv (.t 21))),none,0⟩,
⟨(some 22),(.q (.extract (.t 18) 0)),none,0⟩,
⟨(some 23),(.q (.extract (.t 18) 1)),none,0⟩,
⟨(some 5),(.q (.mv (.t 22))),none,0⟩,
⟨(some 6),(.q (.mv (.t 23))),none,0⟩])
(.seq (.reg [⟨(some 24),(.q (.mv (.t 2))),none,0⟩,
⟨(some 25),(.q (.bin .eql (.p .int) (.t 24) (.c (.int .i64 (.ofNat 0))))),none,0⟩,
⟨(some 26),(.q (.mv (.t 25))),none,0⟩,
⟨(some 27),(.q (.mv (.t 1))),(some (26,true)),0⟩,
⟨(some 28),(.x (.call (.c (.fn 37 [] [])) [(.c (.int .i64 (.ofNat 3))),(.c (.int .i64 (.ofNat 2)))])),(some (26,true)),0⟩,
⟨(some 29),(.x (.call (.c (.fn 37 [] [])) [(.c (.int .i64 (.negSucc 2))),(.c (.int .i64 (.ofNat 2)))])),(some (26,true)),0⟩,
⟨(some 30),(.a (.bslice 43 3 2 [(.bool false),.nilsl,.nilsl] [(0,(.t 28)),(1,(.t 29))])),(some (26,true)),0⟩,
⟨(some 31),(.x (.call (.c (.fn 36 [] [])) [(.t 27),(.t 30)])),(some (26,true)),0⟩,
⟨(some 32),(.q (.pick (.t 26) (.t 31) (.c (.bool false)))),none,0⟩,
⟨(some 33),(.q (.mv (.t 32))),none,0⟩,
⟨(some 34),(.q (.mv (.t 4))),(some (33,true)),0⟩,
⟨(some 35),(.q (.bin .eql (.p .int) (.t 34) (.c (.int .i64 (.ofNat 0))))),(some (33,true)),0⟩,
⟨(some 36),(.q (.pick (.t 33) (.t 35) (.c (.bool false)))),none,0⟩,
⟨(some 37),(.q (.mv (.t 36))),none,0⟩,
⟨(some 38),(.q (.mv (.t 3))),(some (37,true)),0⟩,
⟨(some 39),(.a (.bslice 3 1 4 [(.int .i64 (.ofNat 0))] [(0,(.c (.int .i64 (.ofNat 0)))),(1,(.c (.int .i64 (.ofNat 0)))),(2,(.c (.int .i64 (.ofNat 2)))),(3,(.c (.int .i64 (.ofNat 3))))])),(some (37,true)),0⟩,
⟨(some 40),(.x (.call (.c (.fn 14 [] [])) [(.t 38),(.t 39)])),(some (37,true)),0⟩,
⟨(some 41),(.q (.pick (.t 37) (.t 40) (.c (.bool false)))),none,0⟩,
⟨(some 42),(.q (.mv (.t 41))),none,0⟩,
⟨(some 43),(.q (.mv (.t 6))),(some (42,true)),0⟩,
⟨(some 44),(.q (.bin .eql (.p .int) (.t 43) (.c (.int .i64 (.ofNat 0))))),(some (42,true)),0⟩,
⟨(some 45),(.q (.pick (.t 42) (.t 44) (.c (.bool false)))),none,0⟩,
⟨(some 46),(.q (.mv (.t 45))),none,0⟩,
⟨(some 47),(.q (.mv (.t 5))),(some (46,true)),0⟩,
⟨(some 48),(.q (.bin .eql (.p .int) (.t 47) (.c (.int .i64 (.ofNat 5))))),(some (46,true)),0⟩,
⟨(some 49),(.q (.pick (.t 46) (.t 48) (.c (.bool false)))),none,0⟩,
⟨(some 0),(.q (.mv (.t 49))),none,0⟩])
.ret)))))⟩
theorem row28 : Row Tryz.prog (28, a28) := ⟨Tryz.f28, Tryz.func28, by kernel_rfl⟩
noncomputable def a29 : AFn :=
⟨29,[(.cell 0 true 3)],(.seq (.reg [⟨(some 0),(.a (.alloc 31 [(.int .i64 (.ofNat 0)),.nilsl,.nilsl])),none,0⟩])
(.seq (.reg [⟨(some 1),(.q (.build [(.int .i64 (.ofNat 0)),(.int .i64 (.ofNat 0))] [(0,1,(.c (.int .i64 (.ofNat 0)))),(1,1,(.c (.int .i64 (.ofNat 2))))])),none,0⟩,
⟨(some 2),(.q (.build [(.int .i64 (.ofNat 0)),(.int .i64 (.ofNat 0))] [(0,1,(.c (.int .i64 (.ofNat 1)))),(1,1,(.c (.int .i64 (.ofNat 2))))])),none,0⟩,
⟨(some 3),(.a (.bslice 78 2 2 [(.int .i64 (.ofNat 0)),(.int .i64 (.ofNat 0))] [(0,(.t 1)),(1,(.t 2))])),none,0⟩,
⟨(some 4),(.a (.bslice 3 1 2 [(.int .i64 (.ofNat 0))] [(0,(.c (.int .i64 (.ofNat 1)))),(1,(.c (.int .i64 (.ofNat 6))))])),none,0⟩,
⟨(some 5),(.a (.bslice 3 1 2 [(.int .i64 (.ofNat 0))] [(0,(.c (.int .i64 (.ofNat 1)))),(1,(.c (.int .i64 (.ofNat 1))))])),none,0⟩,
⟨(some 6),(.q (.build [(.int .i64 (.ofNat 0)),(.int .i64 (.ofNat 0)),(.int .i64 (.ofNat 0)),.nilsl,.nilsl,.nilsl] [(0,1,(.c (.int .i64 (.ofNat 1)))),(3,1,(.t 4)),(4,1,(.t 5))])),none,0⟩,
⟨(some 7),(.a (.bslice 3 1 2 [(.int .i64 (.ofNat 0))] [(0,(.c (.int .i64 (.ofNat 2)))),(1,(.c (.int .i64 (.ofNat 5))))])),none,0⟩,
⟨(some 8),(.x (.call (.c (.fn 67 [] [])) [(.c (.int .i64 (.ofNat 0))),(.c (.int .i64 (.ofNat 0))),(.t 7)])),none,0⟩,
⟨(some 9),(.a (.bslice 3 1 2 [(.int .i64 (.ofNat 0))] [(0,(.c (.int .i64 (.ofNat 3)))),(1,(.c (.int .i64 (.ofNat 4))))])),none,0⟩,
⟨(some 10),(.x (.call (.c (.fn 67 [] [])) [(.c (.int .i64 (.ofNat 1))),(.c (.int .i64 (.ofNat 1))),(.t 9)])),none,0⟩,
⟨(some 11),(.a (.bslice 3 1 2 [(.int .i64 (.ofNat 0))] [(0,(.c (.int .i64 (.ofNat 2)))),(1,(.c (.int .i64 (.negSucc 1))))])),none,0⟩,
⟨(some 12),(.x (.call (.c (.fn 68 [] [])) [(.t 11)])),none,0⟩,
⟨(some 13),(.a (.bslice 3 1 2 [(.int .i64 (.ofNat 0))] [(0,(.c (.int .i64 (.negSucc 0)))),(1,(.c (.int .i64 (.ofNat 1))))])),none,0⟩,
⟨(some 14),(.x (.call (.c (.fn 68 [] [])) [(.t 13)])),none,0⟩,
⟨(some 15),(.a (.bslice 3 1 2 [(.int .i64 (.ofNat 0))] [(0,(.c (.int .i64 (.ofNat 0)))),(1,(.c (.int .i64 (.ofNat 0))))])),none,0⟩,
⟨(some 16),(.x (.call (.c (.fn 68 [] [])) [(.t 15)])),none,0⟩,
⟨(some 17),(.a (.bslice 3 1 2 [(.int .i64 (.ofNat 0))] [(0,(.c (.int .i64 (.ofNat 7)))),(1,(.c (.int .i64 (.ofNat 8))))])),none,0⟩,
⟨(some 18),(.x (.call (.c (.fn 67 [] [])) [(.c (.int .i64 (.ofNat 0))),(.c (.int .i64 (.ofNat 0))),(.t 17)])),none,0⟩,
⟨(some 19),(.a (.bslice 3 1 2 [(.int .i64 (.ofNat 0))] [(0,(.c (.int .i64 (.ofNat 4)))),(1,(.c (.int .i64 (.negSucc 3))))])),none,0⟩,
⟨(some 20),(.x (.call (.c (.fn 68 [] [])) [(.t 19)])),none,0⟩,
⟨(some 21),(.a (.bslice 3 1 2 [(.int .i64 (.ofNat 0))] [(0,(.c (.int .i64 (.ofNat 9)))),(1,(.c (.int .i64 (.ofNat 10))))])),none,0⟩,
⟨(some 22),(.x (.call (.c (.fn 67 [] [])) [(.c (.int .i64 (.ofNat 1))),(.c (.int .i64 (.ofNat 1))),(.t 21)])),none,0⟩,
⟨(some 23),(.a (.bslice 3 1 2 [(.int .i64 (.ofNat 0))] [(0,(.c (.int .i64 (.ofNat 6)))),(1,(.c (.int .i64 (.negSucc 5))))])),none,0⟩,
⟨(some 24),(.x (.call (.c (.fn 68 [] [])) [(.t 23)])),none,0⟩,
⟨(some 25),(.a (.bslice 3 1 2 [(.int .i64 (.ofNat 0))] [(0,(.c (.int .i64 (.ofNat 1)))),(1,(.c (.int .i64 (.negSucc 0))))])),none,0⟩,
⟨(some 26),(.x (.call (.c (.fn 68 [] [])) [(.t 25)])),none,0⟩,
⟨(some 27),(.a (.bslice 75 6 11 [(.int .i64 (.ofNat 0)),(.int .i64 (.ofNat 0)),(.int .i64 (.ofNat 0)),.nilsl,.nilsl,.nilsl] [(0,(.t 6)),(1,(.t 8)),(2,(.t 10)),(3,(.t 12)),(4,(.t 14)),(5,(.t 16)),(6,(.t 18)),(7,(.t 20)),(8,(.t 22)),(9,(.t 24)),(10,(.t 26))])),none,0⟩,
⟨(some 28),(.q (.build [(.int .i64 (.ofNat 0)),.nilsl,.nilsl] [(0,1,(.c (.int .i64 (.ofNat 2)))),(2,1,(.t 3)),(1,1,(.t 27))])),none,0⟩,
⟨none,(.x (.st 3 (.t 0) (.t 28))),none,0⟩])
.ret))⟩
theorem row29 : Row Tryz.prog (29, a29) := ⟨Tryz.f29, Tryz.func29, by kernel_rfl⟩
noncomputable def a30 : AFn :=
⟨36,[(.t 2),(.t 3)],(.seq (.reg [⟨(some 1),(.a (.box 31 (.t 0))),none,0⟩,
⟨(some 2),(.q (.mv (.c .nilsl))),none,0⟩,
⟨(some 3),(.q (.mv (.c (.int .i64 (.ofNat 0))))),none,0⟩])
(.seq (.seq (.reg [⟨(some 10),(.q (.ld true 3 (.t 1))),none,0⟩,
⟨(some 11),(.x (.call (.c (.fn 69 [] [])) [(.t 10)])),none,0⟩,
⟨(some 4),(.q (.mv (.t 11))),none,0⟩])
(.seq (.reg [⟨(some 12),(.q (.mv (.t 4))),none,0⟩,
⟨(some 13),(.q (.bin .neq (.p .int) (.t 12) (.c (.int .i64 (.ofNat 0))))),none,0⟩])
(.cond (.t 13) (.seq (.reg [⟨(some 14),(.q (.mv (.t 4))),none,0⟩,
⟨(some 2),(.q (.mv (.c .nilsl))),none,0⟩,
⟨(some 3),(.q (.mv (.t 14))),none,0⟩])
.ret) .skip)))
(.seq (.reg [⟨(some 5),(.q (.mv (.c .nilsl))),none,0⟩])
(.seq (.seq (.reg [⟨(some 15),(.q (.faddr 0 (.t 1))),none,0⟩,
⟨(some 16),(.q (.ld false 1 (.t 15))),none,0⟩,
⟨(some 17),(.q (.mv (.c (.int .i64 (.ofNat 0))))),none,0⟩])
(.block 0 (.loop (.seq (.reg [⟨(some 18),(.q (.bin .lss (.p .int) (.t 17) (.t 16))),none,0⟩])
(.seq (.cond (.t 18) .skip (.exit 0))
(.seq (.block 1 (.seq (.reg [⟨(some 19),(.q (.mv (.t 17))),none,0⟩,
⟨(some 6),(.q (.mv (.t 19))),none,0⟩])
(.seq (.reg [⟨(some 21),(.q (.ld true 3 (.t 1))),none,0⟩,
⟨(some 22),(.q (.mv (.t 6))),none,0⟩,
⟨(some 23),(.x (.call (.c (.fn 70 [] [])) [(.t 21),(.t 22)])),none,0⟩,
⟨(some 20),(.q (.mv (.t 23))),none,0⟩,
⟨(some 24),(.q (.extract (.t 20) 0)),none,0⟩,
⟨(some 25),(.q (.extract (.t 20) 1)),none,0⟩,
⟨(some 7),(.q (.mv (.t 24))),none,0⟩,
⟨(some 8),(.q (.mv (.t 25))),none,0⟩])
(.seq (.reg [⟨(some 26),(.q (.mv (.t 8))),none,0⟩,
⟨(some 27),(.x (.call (.c (.fn 71 [] [])) [(.t 26)])),none,0⟩,
⟨(some 9),(.q (.mv (.t 27))),none,0⟩])
(.seq (.seq (.reg [⟨(some 28),(.q (.mv (.t 9))),none,0⟩,
⟨(some 29),(.q (.bin .gtr (.p .int) (.t 28) (.c (.int .i64 (.ofNat 1000))))),none,0⟩])
(.cond (.t 29) (.seq (.reg [⟨(some 2),(.q (.mv (.c .nilsl))),none,0⟩,
⟨(some 3),(.q (.mv (.c (.int .i64 (.ofNat 5))))),none,0⟩])
.ret) .skip))
(.reg [⟨(some 30),(.q (.mv (.t 5))),none,0⟩,
⟨(some 31),(.q (.mv (.t 9))),none,0⟩,
⟨(some 32),(.a (.bslice 3 1 1 [(.int .i64 (.ofNat 0))] [(0,(.t 31))])),none,0⟩,
⟨(some 33),(.x (.app 3 1 8 (.t 30) (.t 32))),none,0⟩,
⟨(some 5),(.q (.mv (.t 33))),none,0⟩]))))))
(.reg [⟨(some 34),(.q (.bin .add (.p .int) (.t 17) (.c (.int .i64 (.ofNat 1))))),none,0⟩,
⟨(some 17),(.q (.mv (.t 34))),none,0⟩])))))))
(.seq (.reg [⟨(some 35),(.q (.mv (.t 5))),none,0⟩,
⟨(some 2),(.q (.mv (.t 35))),none,0⟩,
⟨(some 3),(.q (.mv (.c (.int .i64 (.ofNat 0))))),none,0⟩])
.ret)))))⟩
theorem row30 : Row Tryz.prog (30, a30) := ⟨Tryz.f30, Tryz.func30, by kernel_rfl⟩
noncomputable def a31 : AFn :=
⟨33,[(.t 6),(.t 7)],(.seq (.reg [⟨(some 3),(.a (.box 31 (.t 0))),none,0⟩,
⟨(some 6),(.q (.mv (.c .nilsl))),none,0⟩,
⟨(some 7),(.q (.mv (.c (.int .i64 (.ofNat 0))))),none,0⟩])
(.seq (.reg [⟨(some 13),(.q (.ld true 3 (.t 3))),none,0⟩,
⟨(some 14),(.q (.mv (.t 1))),none,0⟩,
⟨(some 15),(.x (.call (.c (.fn 72 [] [])) [(.t 13),(.t 14)])),none,0⟩,
⟨(some 12),(.q (.mv (.t 15))),none,0⟩,
⟨(some 16),(.q (.extract (.t 12) 0)),none,0⟩,
⟨(some 17),(.q (.extract (.t 12) 1)),none,0⟩,
⟨(some 18),(.q (.extract (.t 12) 2)),none,0⟩,
⟨(some 19),(.q (.extract (.t 12) 3)),none,0⟩,
⟨(some 8),(.q (.mv (.t 16))),none,0⟩,
⟨(some 9),(.q (.mv (.t 17))),none,0⟩,
⟨(some 10),(.q (.mv (.t 18))),none,0⟩,
⟨(some 11),(.q (.mv (.t 19))),none,0⟩])
(.seq (.seq (.reg [⟨(some 20),(.q (.mv (.t 11))),none,0⟩,
⟨(some 21),(.q (.bin .neq (.p .int) (.t 20) (.c (.int .i64 (.ofNat 0))))),none,0⟩])
(.cond (.t 21) (.seq (.reg [⟨(some 22),(.q (.mv (.t 11))),none,0⟩,
⟨(some 6),(.q (.mv (.c .nilsl))),none,0⟩,
⟨(some 7),(.q (.mv (.t 22))),none,0⟩])
.ret) .skip))
(.seq (.seq (.reg [⟨(some 23),(.q (.mv (.t 2))),none,0⟩,
⟨(some 24),(.q (.bin .lss (.p .int) (.t 23) (.c (.int .i64 (.ofNat 0))))),none,0⟩,
⟨(some 25),(.q (.mv (.t 24))),none,0⟩,
⟨(some 26),(.q (.mv (.t 2))),(some (25,false)),0⟩,
⟨(some 27),(.q (.mv (.t 10))),(some (25,false)),0⟩,
⟨(some 28),(.q (.bin .geq (.p .int) (.t 26) (.t 27))),(some (25,false)),0⟩,
⟨(some 29),(.q (.pick (.t 25) (.c (.bool true)) (.t 28))),none,0⟩])
(.cond (.t 29) (.seq (.reg [⟨(some 6),(.q (.mv (.c .nilsl))),none,0⟩,
⟨(some 7),(.q (.mv (.c (.int .i64 (.ofNat 2))))),none,0⟩])
.ret) .skip))
(.seq (.reg [⟨(some 30),(.q (.mv (.t 9))),none,0⟩,
⟨(some 31),(.q (.mv (.t 2))),none,0⟩,
⟨(some 32),(.x (.call (.c (.fn 73 [] [])) [(.t 30),(.t 31)])),none,0⟩,
⟨(some 6),(.q (.mv (.t 32))),none,0⟩,
⟨(some 7),(.q (.mv (.c (.int .i64 (.ofNat 0))))),none,0⟩])
.ret)))))⟩
theorem row31 : Row Tryz.prog (31, a31) := ⟨Tryz.f31, Tryz.func31, by kernel_rfl⟩
noncomputable def a32 : AFn :=
⟨51,[(.t 6),(.t 7)],(.seq (.reg [⟨(some 3),(.a (.box 31 (.t 0))),none,0⟩,
⟨(some 6),(.q (.mv (.c (.int .i64 (.ofNat 0))))),none,0⟩,
⟨(some 7),(.q (.mv (.c (.int .i64 (.ofNat 0))))),none,0⟩])
(.seq (.reg [⟨(some 15),(.q (.ld true 3 (.t 3))),none,0⟩,
⟨(some 16),(.q (.mv (.t 1))),none,0⟩,
⟨(some 17),(.x (.call (.c (.fn 72 [] [])) [(.t 15),(.t 16)])),none,0⟩,
⟨(some 14),(.q (.mv (.t 17))),none,0⟩,
⟨(some 18),(.q (.extract (.t 14) 0)),none,0⟩,
⟨(some 19),(.q (.extract (.t 14) 1)),none,0⟩,
⟨(some 20),(.q (.extract (.t 14) 2)),none,0⟩,
⟨(some 21),(.q (.extract (.t 14) 3)),none,0⟩,
⟨(some 8),(.q (.mv (.t 18))),none,0⟩,
⟨(some 9),(.q (.mv (.t 19))),none,0⟩,
⟨(some 10),(.q (.mv (.t 20))),none,0⟩,
⟨(some 11),(.q (.mv (.t 21))),none,0⟩])
(.seq (.seq (.reg [⟨(some 22),(.q (.mv (.t 11))),none,0⟩,
⟨(some 23),(.q (.bin .neq (.p .int) (.t 22) (.c (.int .i64 (.ofNat 0))))),none,0⟩])
(.cond (.t 23) (.seq (.reg [⟨(some 24),(.q (.mv (.t 11))),none,0⟩,
⟨(some 6),(.q (.mv (.c (.int .i64 (.ofNat 0))))),none,0⟩,
⟨(some 7),(.q (.mv (.t 24))),none,0⟩])
.ret) .skip))
(.seq (.seq (.reg [⟨(some 25),(.q (.mv (.t 2))),none,0⟩,
⟨(some 26),(.q (.lenSl (.t 25))),none,0⟩,
⟨(some 27),(.q (.mv (.t 9))),none,0⟩,
⟨(some 28),(.q (.lenSl (.t 27))),none,0⟩,
⟨(some 29),(.q (.bin .neq (.p .int) (.t 26) (.t 28))),none,0⟩])
(.cond (.t 29) (.seq (.reg [⟨(some 6),(.q (.mv (.c (.int .i64 (.ofNat 0))))),none,0⟩,
⟨(some 7),(.q (.mv (.c (.int .i64 (.ofNat 10))))),none,0⟩])
.ret) .skip))
(.seq (.seq (.reg [⟨(some 30),(.q (.mv (.t 2))),none,0⟩,
⟨(some 31),(.q (.lenSl (.t 30))),none,0⟩,
⟨(some 32),(.q (.mv (.c (.int .i64 (.ofNat 0))))),none,0⟩])
(.block 0 (.loop (.seq (.reg [⟨(some 33),(.q (.bin .lss (.p .int) (.t 32) (.t 31))),none,0⟩])
(.seq (.cond (.t 33) .skip (.exit 0))
(.seq (.block 1 (.seq (.reg [⟨(some 34),(.q (.mv (.t 32))),none,0⟩,
⟨(some 35),(.q (.iaddr (.slice 1) (.t 30) (.t 32))),none,0⟩,
⟨(some 36),(.q (.ld false 1 (.t 35))),none,0⟩,
⟨(some 12),(.q (.mv (.t 34))),none,0⟩,
⟨(some 13),(.q (.mv (.t 36))),none,0⟩])
(.seq (.reg [⟨(some 37),(.q (.mv (.t 13))),none,0⟩,
⟨(some 38),(.q (.bin .lss (.p .int) (.t 37) (.c (.int .i64 (.ofNat 0))))),none,0⟩,
⟨(some 39),(.q (.mv (.t 38))),none,0⟩,
⟨(some 40),(.q (.mv (.t 13))),(some (39,false)),0⟩,
⟨(some 41),(.q (.mv (.t 9))),(some (39,false)),0⟩,
⟨(some 42),(.q (.mv (.t 12))),(some (39,false)),0⟩,
⟨(some 43),(.q (.iaddr (.slice 1) (.t 41) (.t 42))),(some (39,false)),0⟩,
⟨(some 44),(.q (.ld false 1 (.t 43))),(some (39,false)),0⟩,
⟨(some 45),(.q (.bin .geq (.p .int) (.t 40) (.t 44))),(some (39,false)),0⟩,
⟨(some 46),(.q (.pick (.t 39) (.c (.bool true)) (.t 45))),none,0⟩])
(.cond (.t 46) (.seq (.reg [⟨(some 6),(.q (.mv (.c (.int .i64 (.ofNat 0))))),none,0⟩,
⟨(some 7),(.q (.mv (.c (.int .i64 (.ofNat 2))))),none,0⟩])
.ret) .skip))))
(.reg [⟨(some 47),(.q (.bin .add (.p .int) (.t 32) (.c (.int .i64 (.ofNat 1))))),none,0⟩,
⟨(some 32),(.q (.mv (.t 47))),none,0⟩])))))))
(.seq (.reg [⟨(some 48),(.q (.mv (.t 9))),none,0⟩,
⟨(some 49),(.q (.mv (.t 2))),none,0⟩,
⟨(some 50),(.x (.call (.c (.fn 74 [] [])) [(.t 48),(.t 49)])),none,0⟩,
⟨(some 6),(.q (.mv (.t 50))),none,0⟩,
⟨(some 7),(.q (.mv (.c (.int .i64 (.ofNat 0))))),none,0⟩])
.ret))))))⟩
theorem row32 : Row Tryz.prog (32, a32) := ⟨Tryz.f32, Tryz.func32, by kernel_rfl⟩
noncomputable def a33 : AFn :=
⟨16,[(.cell 0 true 3)],(.seq (.reg [⟨(some 0),(.a (.alloc 31 [(.int .i64 (.ofNat 0)),.nilsl,.nilsl])),none,0⟩])
(.seq (.reg [⟨(some 1),(.q (.build [(.int .i64 (.ofNat 0)),(.int .i64 (.ofNat 0))] [(1,1,(.c (.int .i64 (.ofNat 2))))])),none,0⟩,
⟨(some 2),(.q (.build [(.int .i64 (.ofNat 0)),(.int .i64 (.ofNat 0))] [(1,1,(.c (.int .i64 (.ofNat 2))))])),none,0⟩,
⟨(some 3),(.a (.bslice 78 2 2 [(.int .i64 (.ofNat 0)),(.int .i64 (.ofNat 0))] [(0,(.t 1)),(1,(.t 2))])),none,0⟩,
⟨(some 4),(.a (.bslice 3 1 2 [(.int .i64 (.ofNat 0))] [(0,(.c (.int .i64 (.ofNat 1)))),(1,(.c (.int .i64 (.ofNat 2))))])),none,0⟩,
⟨(some 5),(.x (.call (.c (.fn 67 [] [])) [(.c (.int .i64 (.ofNat 0))),(.c (.int .i64 (.ofNat 0))),(.t 4)])),none,0⟩,
⟨(some 6),(.a (.bslice 3 1 1 [(.int .i64 (.ofNat 0))] [(0,(.c (.int .i64 (.ofNat 1))))])),none,0⟩,
⟨(some 7),(.x (.call (.c (.fn 68 [] [])) [(.t 6)])),none,0⟩,
⟨(some 8),(.a (.bslice 3 1 2 [(.int .i64 (.ofNat 0))] [(0,(.c (.int .i64 (.ofNat 3)))),(1,(.c (.int .i64 (.ofNat 4))))])),none,0⟩,
⟨(some 9),(.x (.call (.c (.fn 67 [] [])) [(.c (.int .i64 (.ofNat 0))),(.c (.int .i64 (.ofNat 1))),(.t 8)])),none,0⟩,
⟨(some 10),(.a (.bslice 3 1 1 [(.int .i64 (.ofNat 0))] [(0,(.c (.int .i64 (.ofNat 2))))])),none,0⟩,
⟨(some 11),(.x (.call (.c (.fn 68 [] [])) [(.t 10)])),none,0⟩,
⟨(some 12),(.a (.bslice 3 1 1 [(.int .i64 (.ofNat 0))] [(0,(.c (.int .i64 (.ofNat 3))))])),none,0⟩,
⟨(some 13),(.x (.call (.c (.fn 68 [] [])) [(.t 12)])),none,0⟩,
⟨(some 14),(.a (.bslice 75 6 5 [(.int .i64 (.ofNat 0)),(.int .i64 (.ofNat 0)),(.int .i64 (.ofNat 0)),.nilsl,.nilsl,.nilsl] [(0,(.t 5)),(1,(.t 7)),(2,(.t 9)),(3,(.t 11)),(4,(.t 13))])),none,0⟩,
⟨(some 15),(.q (.build [(.int .i64 (.ofNat 0)),.nilsl,.nilsl] [(0,1,(.c (.int .i64 (.ofNat 1)))),(2,1,(.t 3)),(1,1,(.t 14))])),none,0⟩,
⟨none,(.x (.st 3 (.t 0) (.t 15))),none,0⟩])
.ret))⟩
theorem row33 : Row Tryz.prog (33, a33) := ⟨Tryz.f33, Tryz.func33, by kernel_rfl⟩
noncomputable def a34 : AFn :=
⟨73,[(.t 4),(.t 5)],(.seq (.reg [⟨(some 2),(.a (.box 31 (.t 0))),none,0⟩,
⟨(some 4),(.q (.mv (.c .nilsl))),none,0⟩,
⟨(some 5),(.q (.mv (.c (.int .i64 (.ofNat 0))))),none,0⟩])
(.seq (.reg [⟨(some 17),(.q (.ld true 3 (.t 2))),none,0⟩,
⟨(some 18),(.x (.call (.c (.fn 30 [] [])) [(.t 17)])),none,0⟩,
⟨(some 16),(.q (.mv (.t 18))),none,0⟩,
⟨(some 19),(.q (.extract (.t 16) 0)),none,0⟩,
⟨(some 20),(.q (.extract (.t 16) 1)),none,0⟩,
⟨(some 6),(.q (.mv (.t 19))),none,0⟩,
⟨(some 7),(.q (.mv (.t 20))),none,0⟩])
(.seq (.seq (.reg [⟨(some 21),(.q (.mv (.t 7))),none,0⟩,
⟨(some 22),(.q (.bin .neq (.p .int) (.t 21) (.c (.int .i64 (.ofNat 0))))),none,0⟩])
(.cond (.t 22) (.seq (.reg [⟨(some 23),(.q (.mv (.t 7))),none,0⟩,
⟨(some 4),(.q (.mv (.c .nilsl))),none,0⟩,
⟨(some 5),(.q (.mv (.t 23))),none,0⟩])
.ret) .skip))
(.seq (.seq (.reg [⟨(some 24),(.q (.mv (.t 1))),none,0⟩,
⟨(some 25),(.q (.lenSl (.t 24))),none,0⟩,
⟨(some 26),(.q (.mv (.t 6))),none,0⟩,
⟨(some 27),(.q (.lenSl (.t 26))),none,0⟩,
⟨(some 28),(.q (.bin .neq (.p .int) (.t 25) (.t 27))),none,0⟩])
(.cond (.t 28) (.seq (.reg [⟨(some 4),(.q (.mv (.c .nilsl))),none,0⟩,
⟨(some 5),(.q (.mv (.c (.int .i64 (.ofNat 10))))),none,0⟩])
.ret) .skip))
(.seq (.seq (.reg [⟨(some 29),(.q (.mv (.t 1))),none,0⟩,
⟨(some 30),(.q (.lenSl (.t 29))),none,0⟩,
⟨(some 31),(.q (.mv (.c (.int .i64 (.ofNat 0))))),none,0⟩])
(.block 0 (.loop (.seq (.reg [⟨(some 32),(.q (.bin .lss (.p .int) (.t 31) (.t 30))),none,0⟩])
(.seq (.cond (.t 32) .skip (.exit 0))
(.seq (.block 1 (.seq (.reg [⟨(some 33),(.q (.mv (.t 31))),none,0⟩,
⟨(some 34),(.q (.iaddr (.slice 1) (.t 29) (.t 31))),none,0⟩,
⟨(some 35),(.q (.ld false 1 (.t 34))),none,0⟩,
⟨(some 8),(.q (.mv (.t 33))),none,0⟩,
⟨(some 9),(.q (.mv (.t 35))),none,0⟩])
(.seq (.reg [⟨(some 36),(.q (.mv (.t 9))),none,0⟩,
⟨(some 37),(.q (.bin .lss (.p .int) (.t 36) (.c (.int .i64 (.ofNat 0))))),none,0⟩,
⟨(some 38),(.q (.mv (.t 37))),none,0⟩,
⟨(some 39),(.q (.mv (.t 9))),(some (38,false)),0⟩,
⟨(some 40),(.q (.mv (.t 6))),(some (38,false)),0⟩,
⟨(some 41),(.q (.mv (.t 8))),(some (38,false)),0⟩,
⟨(some 42),(.q (.iaddr (.slice 1) (.t 40) (.t 41))),(some (38,false)),0⟩,
⟨(some 43),(.q (.ld false 1 (.t 42))),(some (38,false)),0⟩,
⟨(some 44),(.q (.bin .geq (.p .int) (.t 39) (.t 43))),(some (38,false)),0⟩,
⟨(some 45),(.q (.pick (.t 38) (.c (.bool true)) (.t 44))),none,0⟩])
(.cond (.t 45) (.seq (.reg [⟨(some 4),(.q (.mv (.c .nilsl))),none,0⟩,
⟨(some 5),(.q (.mv (.c (.int .i64 (.ofNat 2))))),none,0⟩])
.ret) .skip))))
(.reg [⟨(some 46),(.q (.bin .add (.p .int) (.t 31) (.c (.int .i64 (.ofNat 1))))),none,0⟩,
⟨(some 31),(.q (.mv (.t 46))),none,0⟩])))))))
(.seq (.reg [⟨(some 47),(.q (.ld true 3 (.t 2))),none,0⟩,
⟨(some 48),(.x (.call (.c (.fn 75 [] [])) [(.t 47)])),none,0⟩,
⟨(some 10),(.q (.mv (.t 48))),none,0⟩])
(.seq (.reg [⟨(some 49),(.q (.mv (.t 10))),none,0⟩,
⟨(some 50),(.q (.mv (.t 1))),none,0⟩,
⟨(some 51),(.x (.call (.c (.fn 76 [] [])) [(.t 49),(.t 50)])),none,0⟩])
(.seq (.reg [⟨(some 11),(.q (.mv (.c .nilsl))),none,0⟩])
(.seq (.seq (.reg [⟨(some 52),(.q (.mv (.t 10))),none,0⟩,
⟨(some 53),(.x (.call (.c (.fn 77 [] [])) [(.t 52)])),none,0⟩,
⟨(some 54),(.q (.lenSl (.t 53))),none,0⟩,
⟨(some 55),(.q (.mv (.c (.int .i64 (.ofNat 0))))),none,0⟩])
(.block 2 (.loop (.seq (.reg [⟨(some 56),(.q (.bin .lss (.p .int) (.t 55) (.t 54))),none,0⟩])
(.seq (.cond (.t 56) .skip (.exit 2))
(.seq (.block 3 (.seq (.reg [⟨(some 57),(.q (.iaddr (.slice 3) (.t 53) (.t 55))),none,0⟩,
⟨(some 58),(.q (.ld true 3 (.t 57))),none,0⟩,
⟨(some 13),(.a (.alloc 128 [(.bool false),.nilsl,.nilsl])),none,0⟩,
⟨none,(.x (.st 3 (.t 13) (.t 58))),none,0⟩])
(.seq (.reg [⟨(some 60),(.q (.ld true 3 (.t 13))),none,0⟩,
⟨(some 61),(.x (.call (.c (.fn 78 [] [])) [(.t 60)])),none,0⟩,
⟨(some 59),(.q (.mv (.t 61))),none,0⟩,
⟨(some 62),(.q (.extract (.t 59) 0)),none,0⟩,
⟨(some 63),(.q (.extract (.t 59) 1)),none,0⟩,
⟨(some 14),(.a (.alloc 43 [(.bool false),.nilsl,.nilsl])),none,0⟩,
⟨none,(.x (.st 3 (.t 14) (.t 62))),none,0⟩,
⟨(some 15),(.q (.mv (.t 63))),none,0⟩])
(.seq (.seq (.reg [⟨(some 64),(.q (.mv (.t 15))),none,0⟩,
⟨(some 65),(.q (.bin .neq (.p .int) (.t 64) (.c (.int .i64 (.ofNat 0))))),none,0⟩])
(.cond (.t 65) (.seq (.reg [⟨(some 66),(.q (.mv (.t 15))),none,0⟩,
⟨(some 4),(.q (.mv (.c .nilsl))),none,0⟩,
⟨(some 5),(.q (.mv (.t 66))),none,0⟩])
.ret) .skip))
(.reg [⟨(some 67),(.q (.mv (.t 11))),none,0⟩,
⟨(some 68),(.q (.ld true 3 (.t 14))),none,0⟩,
⟨(some 69),(.a (.bslice 43 3 1 [(.bool false),.nilsl,.nilsl] [(0,(.t 68))])),none,0⟩,
⟨(some 70),(.x (.app 43 3 56 (.t 67) (.t 69))),none,0⟩,
⟨(some 11),(.q (.mv (.t 70))),none,0⟩])))))
(.reg [⟨(some 71),(.q (.bin .add (.p .int) (.t 55) (.c (.int .i64 (.ofNat 1))))),none,0⟩,
⟨(some 55),(.q (.mv (.t 71))),none,0⟩])))))))
(.seq (.reg [⟨(some 72),(.q (.mv (.t 11))),none,0⟩,
⟨(some 4),(.q (.mv (.t 72))),none,0⟩,
⟨(some 5),(.q (.mv (.c (.int .i64 (.ofNat 0))))),none,0⟩])
.ret))))))))))⟩
theorem row34 : Row Tryz.prog (34, a34) := ⟨Tryz.f34, Tryz.func34, by kernel_rfl⟩
noncomputable def a35 : AFn :=
⟨70,[(.cell 2 true 2),(.cell 3 false 1)],(.seq (.reg [⟨(some 1),(.a (.box 31 (.t 0))),none,0⟩,
⟨(some 2),(.a (.alloc 63 [.nilsl,.nilsl])),none,0⟩,
⟨(some 3),(.a (.alloc 25 [(.int .i64 (.ofNat 0))])),none,0⟩])
(.seq (.reg [⟨(some 15),(.q (.ld true 3 (.t 1))),none,0⟩,
⟨(some 16),(.x (.call (.c (.fn 30 [] [])) [(.t 15)])),none,0⟩,
⟨(some 14),(.q (.mv (.t 16))),none,0⟩,
⟨(some 17),(.q (.extract (.t 14) 0)),none,0⟩,
⟨(some 18),(.q (.extract (.t 14) 1)),none,0⟩,
⟨(some 4),(.q (.mv (.t 17))),none,0⟩,
⟨(some 5),(.q (.mv (.t 18))),none,0⟩])
(.seq (.seq (.reg [⟨(some 19),(.q (.mv (.t 5))),none,0⟩,
⟨(some 20),(.q (.bin .neq (.p .int) (.t 19) (.c (.int .i64 (.ofNat 0))))),none,0⟩])
(.cond (.t 20) (.seq (.reg [⟨(some 21),(.q (.build [.nilsl,.nilsl] [])),none,0⟩,
⟨(some 22),(.q (.mv (.t 5))),none,0⟩,
⟨none,(.x (.st 2 (.t 2) (.t 21))),none,0⟩,
⟨none,(.x (.st 1 (.t 3) (.t 22))),none,0⟩])
.ret) .skip))
(.seq (.seq (.reg [⟨(some 23),(.q (.mv (.t 4))),none,0⟩,
⟨(some 24),(.x (.call (.c (.fn 71 [] [])) [(.t 23)])),none,0⟩,
⟨(some 25),(.q (.bin .gtr (.p .int) (.t 24) (.c (.int .i64 (.ofNat 1000))))),none,0⟩])
(.cond (.t 25) (.seq (.reg [⟨(some 26),(.q (.build [.nilsl,.nilsl] [])),none,0⟩,
⟨none,(.x (.st 2 (.t 2) (.t 26))),none,0⟩,
⟨none,(.x (.st 1 (.t 3) (.c (.int .i64 (.ofNat 5))))),none,0⟩])
.ret) .skip))
(.seq (.reg [⟨(some 27),(.q (.ld true 3 (.t 1))),none,0⟩,
⟨(some 28),(.x (.call (.c (.fn 75 [] [])) [(.t 27)])),none,0⟩,
⟨(some 6),(.a (.alloc 122 [.nilp])),none,0⟩,
⟨none,(.x (.st 1 (.t 6) (.t 28))),none,0⟩])
(.seq (.reg [⟨(some 29),(.q (.faddr 0 (.t 1))),none,0⟩,
⟨(some 30),(.q (.ld false 1 (.t 29))),none,0⟩,
⟨(some 31),(.a (.mkSlice 35 1 24 [.nilsl] (.t 30) (.t 30))),none,0⟩,
⟨(some 7),(.a (.alloc 61 [.nilsl])),none,0⟩,
⟨none,(.x (.st 1 (.t 7) (.t 31))),none,0⟩])
(.seq (.seq (.reg [⟨(some 32),(.q (.mv (.t 4))),none,0⟩,
⟨(some 33),(.x (.call (.c (.fn 79 [] [])) [(.t 32)])),none,0⟩])
(.block 0 (.rng (.t 33) [34,35] (.reg [⟨(some 9),(.q (.mv (.t 35))),none,0⟩]) (.block 1 (.seq (.reg [⟨(some 36),(.q (.ld false 1 (.t 6))),none,0⟩,
⟨(some 37),(.q (.mv (.t 9))),none,0⟩,
⟨(some 38),(.x (.call (.c (.fn 76 [] [])) [(.t 36),(.t 37)])),none,0⟩])
(.seq (.reg [⟨(some 39),(.q (.ld false 1 (.t 6))),none,0⟩,
⟨(some 40),(.x (.call (.c (.fn 77 [] [])) [(.t 39)])),none,0⟩,
⟨(some 41),(.q (.lenSl (.t 40))),none,0⟩,
⟨(some 42),(.q (.mv (.c (.int .i64 (.ofNat 0))))),none,0⟩])
(.block 2 (.loop (.seq (.reg [⟨(some 43),(.q (.bin .lss (.p .int) (.t 42) (.t 41))),none,0⟩])
(.seq (.cond (.t 43) .skip (.exit 2))
(.seq (.block 3 (.seq (.reg [⟨(some 44),(.q (.mv (.t 42))),none,0⟩,
⟨(some 45),(.q (.iaddr (.slice 3) (.t 40) (.t 42))),none,0⟩,
⟨(some 46),(.q (.ld true 3 (.t 45))),none,0⟩,
⟨(some 11),(.a (.alloc 128 [(.bool false),.nilsl,.nilsl])),none,0⟩,
⟨(some 10),(.q (.mv (.t 44))),none,0⟩,
⟨none,(.x (.st 3 (.t 11) (.t 46))),none,0⟩])
(.seq (.reg [⟨(some 48),(.q (.ld true 3 (.t 11))),none,0⟩,
⟨(some 49),(.x (.call (.c (.fn 78 [] [])) [(.t 48)])),none,0⟩,
⟨(some 47),(.q (.mv (.t 49))),none,0⟩,
⟨(some 50),(.q (.extract (.t 47) 0)),none,0⟩,
⟨(some 51),(.q (.extract (.t 47) 1)),none,0⟩,
⟨(some 12),(.a (.alloc 43 [(.bool false),.nilsl,.nilsl])),none,0⟩,
⟨none,(.x (.st 3 (.t 12) (.t 50))),none,0⟩,
⟨(some 13),(.q (.mv (.t 51))),none,0⟩])
(.seq (.seq (.reg [⟨(some 52),(.q (.mv (.t 13))),none,0⟩,
⟨(some 53),(.q (.bin .neq (.p .int) (.t 52) (.c (.int .i64 (.ofNat 0))))),none,0⟩])
(.cond (.t 53) (.seq (.reg [⟨(some 54),(.q (.build [.nilsl,.nilsl] [])),none,0⟩,
⟨(some 55),(.q (.mv (.t 13))),none,0⟩,
⟨none,(.x (.st 2 (.t 2) (.t 54))),none,0⟩,
⟨none,(.x (.st 1 (.t 3) (.t 55))),none,0⟩])
.ret) .skip))
(.drw [⟨(some 56),(.q (.ld false 1 (.t 7))),none,0⟩,
⟨(some 57),(.q (.mv (.t 10))),none,0⟩,
⟨(some 58),(.q (.ld false 1 (.t 7))),none,0⟩,
⟨(some 59),(.q (.mv (.t 10))),none,0⟩,
⟨(some 60),(.q (.iaddr (.slice 1) (.t 58) (.t 59))),none,12⟩,
⟨(some 61),(.q (.ld false 1 (.t 60))),none,28⟩,
⟨(some 62),(.q (.ld true 3 (.t 12))),none,0⟩,
⟨(some 63),(.a (.bslice 43 3 1 [(.bool false),.nilsl,.nilsl] [(0,(.t 62))])),none,64⟩,
⟨(some 64),(.x (.app 43 3 56 (.t 61) (.t 63))),none,252⟩,
⟨(some 65),(.q (.iaddr (.slice 1) (.t 56) (.t 57))),none,511⟩,
⟨none,(.x (.st 1 (.t 65) (.t 64))),none,1023⟩])))))
(.reg [⟨(some 66),(.q (.bin .add (.p .int) (.t 42) (.c (.int .i64 (.ofNat 1))))),none,0⟩,
⟨(some 42),(.q (.mv (.t 66))),none,0⟩]))))))))))))
(.seq (.reg [⟨(some 67),(.q (.mv (.t 4))),none,0⟩,
⟨(some 68),(.q (.ld false 1 (.t 7))),none,0⟩,
⟨(some 69),(.q (.build [.nilsl,.nilsl] [(0,1,(.t 67)),(1,1,(.t 68))])),none,0⟩,
⟨none,(.x (.st 2 (.t 2) (.t 69))),none,0⟩,
⟨none,(.x (.st 1 (.t 3) (.c (.int .i64 (.ofNat 0))))),none,0⟩])
.ret))))))))⟩
theorem row35 : Row Tryz.prog (35, a35) := ⟨Tryz.f35, Tryz.func35, by kernel_rfl⟩
noncomputable def a36 : AFn :=
⟨27,[(.t 4)],(.seq (.reg [⟨(some 4),(.q (.mv (.c (.bool false)))),none,0⟩])
(.seq (.seq (.reg [⟨(some 6),(.q (.mv (.t 0))),none,0⟩,
⟨(some 7),(.q (.lenSl (.t 6))),none,0⟩,
⟨(some 8),(.q (.mv (.t 1))),none,0⟩,
⟨(some 9),(.q (.lenSl (.t 8))),none,0⟩,
⟨(some 10),(.q (.bin .neq (.p .int) (.t 7) (.t 9))),none,0⟩])
(.cond (.t 10) (.seq (.reg [⟨(some 4),(.q (.mv (.c (.bool false)))),none,0⟩])
.ret) .skip))
(.seq (.seq (.reg [⟨(some 5),(.q (.mv (.c (.int .i64 (.ofNat 0))))),none,0⟩])
(.block 0 (.loop (.seq (.seq (.reg [⟨(some 11),(.q (.mv (.t 5))),none,0⟩,
⟨(some 12),(.q (.mv (.t 0))),none,0⟩,
⟨(some 13),(.q (.lenSl (.t 12))),none,0⟩,
⟨(some 14),(.q (.bin .lss (.p .int) (.t 11) (.t 13))),none,0⟩])
(.cond (.t 14) .skip (.exit 0)))
(.seq (.block 1 (.seq (.drw [⟨(some 17),(.q (.mv (.t 0))),none,0⟩,
⟨(some 18),(.q (.mv (.t 5))),none,0⟩,
⟨(some 19),(.q (.iaddr (.slice 3) (.t 17) (.t 18))),none,3⟩,
⟨(some 20),(.q (.ld true 3 (.t 19))),none,7⟩,
⟨(some 21),(.q (.mv (.t 1))),none,0⟩,
⟨(some 22),(.q (.mv (.t 5))),none,0⟩,
⟨(some 23),(.q (.iaddr (.slice 3) (.t 21) (.t 22))),none,48⟩,
⟨(some 24),(.q (.ld true 3 (.t 23))),none,112⟩,
⟨(some 25),(.x (.call (.c (.fn 80 [] [])) [(.t 20),(.t 24)])),none,255⟩,
⟨(some 26),(.q (.un .not (.t 25))),none,511⟩])
(.cond (.t 26) (.seq (.reg [⟨(some 4),(.q (.mv (.c (.bool false)))),none,0⟩])
.ret) .skip)))
(.reg [⟨(some 15),(.q (.mv (.t 5))),none,0⟩,
⟨(some 16),(.q (.bin .add (.p .int) (.t 15) (.c (.int .i64 (.ofNat 1))))),none,0⟩,
⟨(some 5),(.q (.mv (.t 16))),none,0⟩]))))))
(.seq (.reg [⟨(some 4),(.q (.mv (.c (.bool true)))),none,0⟩])
.ret))))⟩
theorem row36 : Row Tryz.prog (36, a36) := ⟨Tryz.f36, Tryz.func36, by kernel_rfl⟩
noncomputable def a37 : AFn :=
⟨8,[(.cell 4 true 3)],(.seq (.reg [⟨(some 4),(.a (.alloc 43 [(.bool false),.nilsl,.nilsl])),none,0⟩])
(.seq (.reg [⟨(some 5),(.q (.mv (.t 0))),none,0⟩,
⟨(some 6),(.q (.mv (.t 1))),none,0⟩,
⟨(some 7),(.x (.call (.c (.fn 81 [] [])) [(.t 5),(.t 6)])),none,0⟩,
⟨none,(.x (.st 3 (.t 4) (.t 7))),none,0⟩])
.ret))⟩
theorem row37 : Row Tryz.prog (37, a37) := ⟨Tryz.f37, Tryz.func37, by kernel_rfl⟩
noncomputable def a38 : AFn :=
⟨48,[(.t 2)],(.seq (.reg [⟨(some 1),(.a (.box 63 (.t 0))),none,0⟩,
⟨(some 2),(.q (.mv (.c (.int .i64 (.ofNat 0))))),none,0⟩])
(.seq (.seq (.reg [⟨(some 9),(.q (.faddr 0 (.t 1))),none,0⟩,
⟨(some 10),(.q (.ld false 1 (.t 9))),none,0⟩,
⟨(some 11),(.x (.call (.c (.fn 82 [] [])) [(.t 10)])),none,0⟩,
⟨(some 3),(.q (.mv (.t 11))),none,0⟩])
(.seq (.reg [⟨(some 12),(.q (.mv (.t 3))),none,0⟩,
⟨(some 13),(.q (.bin .neq (.p .int) (.t 12) (.c (.int .i64 (.ofNat 0))))),none,0⟩])
(.cond (.t 13) (.seq (.reg [⟨(some 14),(.q (.mv (.t 3))),none,0⟩,
⟨(some 2),(.q (.mv (.t 14))),none,0⟩])
.ret) .skip)))
(.seq (.seq (.reg [⟨(some 15),(.q (.faddr 1 (.t 1))),none,0⟩,
⟨(some 16),(.q (.ld false 1 (.t 15))),none,0⟩,
⟨(some 17),(.q (.lenSl (.t 16))),none,0⟩,
⟨(some 18),(.q (.faddr 0 (.t 1))),none,0⟩,
⟨(some 19),(.q (.ld false 1 (.t 18))),none,0⟩,
⟨(some 20),(.q (.lenSl (.t 19))),none,0⟩,
⟨(some 21),(.q (.bin .neq (.p .int) (.t 17) (.t 20))),none,0⟩])
(.cond (.t 21) (.seq (.reg [⟨(some 2),(.q (.mv (.c (.int .i64 (.ofNat 10))))),none,0⟩])
.ret) .skip))
(.seq (.seq (.reg [⟨(some 22),(.q (.faddr 1 (.t 1))),none,0⟩,
⟨(some 23),(.q (.ld false 1 (.t 22))),none,0⟩,
⟨(some 24),(.q (.lenSl (.t 23))),none,0⟩,
⟨(some 25),(.q (.mv (.c (.int .i64 (.ofNat 0))))),none,0⟩])
(.block 0 (.loop (.seq (.reg [⟨(some 26),(.q (.bin .lss (.p .int) (.t 25) (.t 24))),none,0⟩])
(.seq (.cond (.t 26) .skip (.exit 0))
(.seq (.block 1 (.seq (.reg [⟨(some 27),(.q (.iaddr (.slice 1) (.t 23) (.t 25))),none,0⟩,
⟨(some 28),(.q (.ld false 1 (.t 27))),none,0⟩,
⟨(some 5),(.q (.mv (.t 28))),none,0⟩])
(.seq (.seq (.reg [⟨(some 29),(.q (.mv (.t 5))),none,0⟩,
⟨(some 30),(.q (.lenSl (.t 29))),none,0⟩,
⟨(some 31),(.q (.faddr 0 (.t 1))),none,0⟩,
⟨(some 32),(.q (.ld false 1 (.t 31))),none,0⟩,
⟨(some 33),(.x (.call (.c (.fn 71 [] [])) [(.t 32)])),none,0⟩,
⟨(some 34),(.q (.bin .neq (.p .int) (.t 30) (.t 33))),none,0⟩])
(.cond (.t 34) (.seq (.reg [⟨(some 2),(.q (.mv (.c (.int .i64 (.ofNat 10))))),none,0⟩])
.ret) .skip))
(.seq (.reg [⟨(some 35),(.q (.mv (.t 5))),none,0⟩,
⟨(some 36),(.q (.lenSl (.t 35))),none,0⟩,
⟨(some 37),(.q (.mv (.c (.int .i64 (.ofNat 0))))),none,0⟩])
(.block 2 (.loop (.seq (.reg [⟨(some 38),(.q (.bin .lss (.p .int) (.t 37) (.t 36))),none,0⟩])
(.seq (.cond (.t 38) .skip (.exit 2))
(.seq (.block 3 (.seq (.reg [⟨(some 39),(.q (.iaddr (.slice 3) (.t 35) (.t 37))),none,0⟩,
⟨(some 40),(.q (.ld true 3 (.t 39))),none,0⟩,
⟨(some 7),(.a (.alloc 43 [(.bool false),.nilsl,.nilsl])),none,0⟩,
⟨none,(.x (.st 3 (.t 7) (.t 40))),none,0⟩])
(.seq (.reg [⟨(some 41),(.q (.ld true 3 (.t 7))),none,0⟩,
⟨(some 42),(.x (.call (.c (.fn 83 [] [])) [(.t 41)])),none,0⟩,
⟨(some 8),(.q (.mv (.t 42))),none,0⟩])
(.seq (.reg [⟨(some 43),(.q (.mv (.t 8))),none,0⟩,
⟨(some 44),(.q (.bin .neq (.p .int) (.t 43) (.c (.int .i64 (.ofNat 0))))),none,0⟩])
(.cond (.t 44) (.seq (.reg [⟨(some 45),(.q (.mv (.t 8))),none,0⟩,
⟨(some 2),(.q (.mv (.t 45))),none,0⟩])
.ret) .skip)))))
(.reg [⟨(some 46),(.q (.bin .add (.p .int) (.t 37) (.c (.int .i64 (.ofNat 1))))),none,0⟩,
⟨(some 37),(.q (.mv (.t 46))),none,0⟩]))))))))))
(.reg [⟨(some 47),(.q (.bin .add (.p .int) (.t 25) (.c (.int .i64 (.ofNat 1))))),none,0⟩,
⟨(some 25),(.q (.mv (.t 47))),none,0⟩])))))))
(.seq (.reg [⟨(some 2),(.q (.mv (.c (.int .i64 (.ofNat 0))))),none,0⟩])
.ret)))))⟩
theorem row38 : Row Tryz.prog (38, a38) := ⟨Tryz.f38, Tryz.func38, by kernel_rfl⟩
noncomputable def a39 : AFn :=
⟨23,[(.t 4),(.t 5)],(.seq (.reg [⟨(some 4),(.q (.mv (.c .nilsl))),none,0⟩,
⟨(some 5),(.q (.mv (.c (.int .i64 (.ofNat 0))))),none,0⟩])
(.seq (.seq (.reg [⟨(some 7),(.q (.mv (.t 0))),none,0⟩,
⟨(some 8),(.x (.call (.c (.fn 82 [] [])) [(.t 7)])),none,0⟩,
⟨(some 6),(.q (.mv (.t 8))),none,0⟩])
(.seq (.reg [⟨(some 9),(.q (.mv (.t 6))),none,0⟩,
⟨(some 10),(.q (.bin .neq (.p .int) (.t 9) (.c (.int .i64 (.ofNat 0))))),none,0⟩])
(.cond (.t 10) (.seq (.reg [⟨(some 11),(.q (.mv (.t 6))),none,0⟩,
⟨(some 4),(.q (.mv (.c .nilsl))),none,0⟩,
⟨(some 5),(.q (.mv (.t 11))),none,0⟩])
.ret) .skip)))
(.seq (.seq (.reg [⟨(some 12),(.q (.mv (.t 1))),none,0⟩,
⟨(some 13),(.q (.bin .lss (.p .int) (.t 12) (.c (.int .i64 (.ofNat 0))))),none,0⟩,
⟨(some 14),(.q (.mv (.t 13))),none,0⟩,
⟨(some 15),(.q (.mv (.t 1))),(some (14,false)),0⟩,
⟨(some 16),(.q (.mv (.t 0))),(some (14,false)),0⟩,
⟨(some 17),(.x (.call (.c (.fn 71 [] [])) [(.t 16)])),(some (14,false)),0⟩,
⟨(some 18),(.q (.bin .geq (.p .int) (.t 15) (.t 17))),(some (14,false)),0⟩,
⟨(some 19),(.q (.pick (.t 14) (.c (.bool true)) (.t 18))),none,0⟩])
(.cond (.t 19) (.seq (.reg [⟨(some 4),(.q (.mv (.c .nilsl))),none,0⟩,
⟨(some 5),(.q (.mv (.c (.int .i64 (.ofNat 2))))),none,0⟩])
.ret) .skip))
(.seq (.reg [⟨(some 20),(.q (.mv (.t 0))),none,0⟩,
⟨(some 21),(.q (.mv (.t 1))),none,0⟩,
⟨(some 22),(.x (.call (.c (.fn 73 [] [])) [(.t 20),(.t 21)])),none,0⟩,
⟨(some 4),(.q (.mv (.t 22))),none,0⟩,
⟨(some 5),(.q (.mv (.c (.int .i64 (.ofNat 0))))),none,0⟩])
.ret))))⟩
theorem row39 : Row Tryz.prog (39, a39) := ⟨Tryz.f39, Tryz.func39, by kernel_rfl⟩
noncomputable def a40 : AFn :=
⟨40,[(.t 4),(.t 5)],(.seq (.reg [⟨(some 4),(.q (.mv (.c (.int .i64 (.ofNat 0))))),none,0⟩,
⟨(some 5),(.q (.mv (.c (.int .i64 (.ofNat 0))))),none,0⟩])
(.seq (.seq (.reg [⟨(some 9),(.q (.mv (.t 0))),none,0⟩,
⟨(some 10),(.x (.call (.c (.fn 82 [] [])) [(.t 9)])),none,0⟩,
⟨(some 6),(.q (.mv (.t 10))),none,0⟩])
(.seq (.reg [⟨(some 11),(.q (.mv (.t 6))),none,0⟩,
⟨(some 12),(.q (.bin .neq (.p .int) (.t 11) (.c (.int .i64 (.ofNat 0))))),none,0⟩])
(.cond (.t 12) (.seq (.reg [⟨(some 13),(.q (.mv (.t 6))),none,0⟩,
⟨(some 4),(.q (.mv (.c (.int .i64 (.ofNat 0))))),none,0⟩,
⟨(some 5),(.q (.mv (.t 13))),none,0⟩])
.ret) .skip)))
(.seq (.seq (.reg [⟨(some 14),(.q (.mv (.t 1))),none,0⟩,
⟨(some 15),(.q (.lenSl (.t 14))),none,0⟩,
⟨(some 16),(.q (.mv (.t 0))),none,0⟩,
⟨(some 17),(.q (.lenSl (.t 16))),none,0⟩,
⟨(some 18),(.q (.bin .neq (.p .int) (.t 15) (.t 17))),none,0⟩])
(.cond (.t 18) (.seq (.reg [⟨(some 4),(.q (.mv (.c (.int .i64 (.ofNat 0))))),none,0⟩,
⟨(some 5),(.q (.mv (.c (.int .i64 (.ofNat 10))))),none,0⟩])
.ret) .skip))
(.seq (.seq (.reg [⟨(some 19),(.q (.mv (.t 1))),none,0⟩,
⟨(some 20),(.q (.lenSl (.t 19))),none,0⟩,
⟨(some 21),(.q (.mv (.c (.int .i64 (.ofNat 0))))),none,0⟩])
(.block 0 (.loop (.seq (.reg [⟨(some 22),(.q (.bin .lss (.p .int) (.t 21) (.t 20))),none,0⟩])
(.seq (.cond (.t 22) .skip (.exit 0))
(.seq (.block 1 (.seq (.reg [⟨(some 23),(.q (.mv (.t 21))),none,0⟩,
⟨(some 24),(.q (.iaddr (.slice 1) (.t 19) (.t 21))),none,0⟩,
⟨(some 25),(.q (.ld false 1 (.t 24))),none,0⟩,
⟨(some 7),(.q (.mv (.t 23))),none,0⟩,
⟨(some 8),(.q (.mv (.t 25))),none,0⟩])
(.seq (.reg [⟨(some 26),(.q (.mv (.t 8))),none,0⟩,
⟨(some 27),(.q (.bin .lss (.p .int) (.t 26) (.c (.int .i64 (.ofNat 0))))),none,0⟩,
⟨(some 28),(.q (.mv (.t 27))),none,0⟩,
⟨(some 29),(.q (.mv (.t 8))),(some (28,false)),0⟩,
⟨(some 30),(.q (.mv (.t 0))),(some (28,false)),0⟩,
⟨(some 31),(.q (.mv (.t 7))),(some (28,false)),0⟩,
⟨(some 32),(.q (.iaddr (.slice 1) (.t 30) (.t 31))),(some (28,false)),0⟩,
⟨(some 33),(.q (.ld false 1 (.t 32))),(some (28,false)),0⟩,
⟨(some 34),(.q (.bin .geq (.p .int) (.t 29) (.t 33))),(some (28,false)),0⟩,
⟨(some 35),(.q (.pick (.t 28) (.c (.bool true)) (.t 34))),none,0⟩])
(.cond (.t 35) (.seq (.reg [⟨(some 4),(.q (.mv (.c (.int .i64 (.ofNat 0))))),none,0⟩,
⟨(some 5),(.q (.mv (.c (.int .i64 (.ofNat 2))))),none,0⟩])
.ret) .skip))))
(.reg [⟨(some 36),(.q (.bin .add (.p .int) (.t 21) (.c (.int .i64 (.ofNat 1))))),none,0⟩,
⟨(some 21),(.q (.mv (.t 36))),none,0⟩])))))))
(.seq (.reg [⟨(some 37),(.q (.mv (.t 0))),none,0⟩,
⟨(some 38),(.q (.mv (.t 1))),none,0⟩,
⟨(some 39),(.x (.call (.c (.fn 74 [] [])) [(.t 37),(.t 38)])),none,0⟩,
⟨(some 4),(.q (.mv (.t 39))),none,0⟩,
⟨(some 5),(.q (.mv (.c (.int .i64 (.ofNat 0))))),none,0⟩])
.ret)))))⟩
theorem row40 : Row Tryz.prog (40, a40) := ⟨Tryz.f40, Tryz.func40, by kernel_rfl⟩
noncomputable def a66 : AFn :=
⟨76,[(.t 4),(.t 5)],(.seq (.reg [⟨(some 2),(.a (.box 31 (.t 0))),none,0⟩,
⟨(some 3),(.a (.box 3 (.t 1))),none,0⟩,
⟨(some 4),(.q (.mv (.c .nilsl))),none,0⟩,
⟨(some 5),(.q (.mv (.c (.int .i64 (.ofNat 0))))),none,0⟩])
(.seq (.reg [⟨(some 21),(.q (.ld true 3 (.t 2))),none,0⟩,
⟨(some 22),(.q (.ld false 1 (.t 3))),none,0⟩,
⟨(some 23),(.x (.call (.c (.fn 72 [] [])) [(.t 21),(.t 22)])),none,0⟩,
⟨(some 20),(.q (.mv (.t 23))),none,0⟩,
⟨(some 24),(.q (.extract (.t 20) 0)),none,0⟩,
⟨(some 25),(.q (.extract (.t 20) 1)),none,0⟩,
⟨(some 26),(.q (.extract (.t 20) 2)),none,0⟩,
⟨(some 27),(.q (.extract (.t 20) 3)),none,0⟩,
⟨(some 6),(.a (.alloc 24 [.nilsl])),none,0⟩,
⟨none,(.x (.st 1 (.t 6) (.t 24))),none,0⟩,
⟨(some 7),(.q (.mv (.t 25))),none,0⟩,
⟨(some 8),(.q (.mv (.t 26))),none,0⟩,
⟨(some 9),(.q (.mv (.t 27))),none,0⟩])
(.seq (.seq (.reg [⟨(some 28),(.q (.mv (.t 9))),none,0⟩,
⟨(some 29),(.q (.bin .neq (.p .int) (.t 28) (.c (.int .i64 (.ofNat 0))))),none,0⟩])
(.cond (.t 29) (.seq (.reg [⟨(some 30),(.q (.mv (.t 9))),none,0⟩,
⟨(some 4),(.q (.mv (.c .nilsl))),none,0⟩,
⟨(some 5),(.q (.mv (.t 30))),none,0⟩])
.ret) .skip))
(.seq (.reg [⟨(some 10),(.a (.alloc 24 [.nilsl])),none,0⟩])
(.seq (.reg [⟨(some 31),(.a (.mkMap)),none,0⟩,
⟨(some 11),(.a (.alloc 160 [.nilmap])),none,0⟩,
⟨none,(.x (.st 1 (.t 11) (.t 31))),none,0⟩])
(.seq (.reg [⟨(some 32),(.q (.faddr 2 (.t 2))),none,0⟩,
⟨(some 33),(.q (.ld false 1 (.t 32))),none,0⟩,
⟨(some 34),(.q (.lenSl (.t 33))),none,0⟩,
⟨(some 35),(.a (.mkSlice 3 1 8 [(.int .i64 (.ofNat 0))] (.t 34) (.t 34))),none,0⟩,
⟨(some 12),(.a (.alloc 24 [.nilsl])),none,0⟩,
⟨none,(.x (.st 1 (.t 12) (.t 35))),none,0⟩])
(.seq (.seq (.reg [⟨(some 36),(.q (.mv (.t 7))),none,0⟩,
⟨(some 37),(.x (.call (.c (.fn 79 [] [])) [(.t 36)])),none,0⟩])
(.block 0 (.rng (.t 37) [38,39] (.seq (.reg [⟨(some 13),(.q (.mv (.t 38))),none,0⟩])
(.reg [⟨(some 14),(.q (.mv (.t 39))),none,0⟩])) (.block 1 (.seq (.seq (.reg [⟨(some 40),(.q (.mv (.t 14))),none,0⟩,
⟨(some 41),(.q (.lenSl (.t 40))),none,0⟩,
⟨(some 42),(.q (.mv (.c (.int .i64 (.ofNat 0))))),none,0⟩])
(.block 2 (.loop (.seq (.reg [⟨(some 43),(.q (.bin .lss (.p .int) (.t 42) (.t 41))),none,0⟩])
(.seq (.cond (.t 43) .skip (.exit 2))
(.seq (.block 3 (.seq (.reg [⟨(some 44),(.q (.mv (.t 42))),none,0⟩,
⟨(some 45),(.q (.iaddr (.slice 1) (.t 40) (.t 42))),none,0⟩,
⟨(some 46),(.q (.ld false 1 (.t 45))),none,0⟩,
⟨(some 15),(.q (.mv (.t 44))),none,0⟩,
⟨(some 16),(.q (.mv (.t 46))),none,0⟩])
(.drw [⟨(some 47),(.q (.ld false 1 (.t 12))),none,0⟩,
⟨(some 48),(.q (.ld false 1 (.t 6))),none,0⟩,
⟨(some 49),(.q (.mv (.t 15))),none,0⟩,
⟨(some 50),(.q (.iaddr (.slice 1) (.t 48) (.t 49))),none,6⟩,
⟨(some 51),(.q (.ld false 1 (.t 50))),none,14⟩,
⟨(some 52),(.q (.mv (.t 16))),none,0⟩,
⟨(some 53),(.q (.iaddr (.slice 1) (.t 47) (.t 51))),none,63⟩,
⟨none,(.x (.st 1 (.t 53) (.t 52))),none,127⟩])))
(.reg [⟨(some 54),(.q (.bin .add (.p .int) (.t 42) (.c (.int .i64 (.ofNat 1))))),none,0⟩,
⟨(some 42),(.q (.mv (.t 54))),none,0⟩])))))))
(.seq (.reg [⟨(some 55),(.q (.ld true 3 (.t 2))),none,0⟩,
⟨(some 56),(.q (.ld false 1 (.t 3))),none,0⟩,
⟨(some 57),(.q (.ld false 1 (.t 12))),none,0⟩,
⟨(some 58),(.x (.call (.c (.fn 109 [] [])) [(.t 55),(.t 56),(.t 57)])),none,0⟩,
⟨(some 17),(.q (.mv (.t 58))),none,0⟩])
(.seq (.reg [⟨(some 60),(.q (.ld false 1 (.t 11))),none,0⟩,
⟨(some 61),(.q (.mv (.t 17))),none,0⟩,
⟨(some 62),(.q (.lookup (.p .str) (.int .i64 (.ofNat 0)) true (.t 60) (.t 61))),none,0⟩,
⟨(some 59),(.q (.mv (.t 62))),none,0⟩,
⟨(some 63),(.q (.extract (.t 59) 0)),none,0⟩,
⟨(some 64),(.q (.extract (.t 59) 1)),none,0⟩,
⟨(some 18),(.q (.mv (.t 63))),none,0⟩,
⟨(some 19),(.q (.mv (.t 64))),none,0⟩])
(.seq (.seq (.reg [⟨(some 65),(.q (.mv (.t 19))),none,0⟩,
⟨(some 66),(.q (.un .not (.t 65))),none,0⟩])
(.cond (.t 66) (.seq (.reg [⟨(some 67),(.q (.mv (.t 13))),none,0⟩,
⟨(some 18),(.q (.mv (.t 67))),none,0⟩])
(.reg [⟨(some 68),(.q (.ld false 1 (.t 11))),none,0⟩,
⟨(some 69),(.q (.mv (.t 17))),none,0⟩,
⟨(some 70),(.q (.mv (.t 13))),none,0⟩,
⟨none,(.x (.mapUpd (.p .str) (.t 68) (.t 69) (.t 70))),none,0⟩])) .skip))
(.reg [⟨(some 71),(.q (.ld false 1 (.t 10))),none,0⟩,
⟨(some 72),(.q (.mv (.t 18))),none,0⟩,
⟨(some 73),(.a (.bslice 3 1 1 [(.int .i64 (.ofNat 0))] [(0,(.t 72))])),none,0⟩,
⟨(some 74),(.x (.app 3 1 8 (.t 71) (.t 73))),none,0⟩,
⟨none,(.x (.st 1 (.t 10) (.t 74))),none,0⟩])))))))))
(.seq (.reg [⟨(some 75),(.q (.ld false 1 (.t 10))),none,0⟩,
⟨(some 4),(.q (.mv (.t 75))),none,0⟩,
⟨(some 5),(.q (.mv (.c (.int .i64 (.ofNat 0))))),none,0⟩])
.ret))))))))⟩
theorem row66 : Row Tryz.prog (66, a66) := ⟨Tryz.f66, Tryz.func66, by kernel_rfl⟩
noncomputable def a67 : AFn :=
⟨11,[(.cell 6 true 6)],(.seq (.reg [⟨(some 6),(.a (.alloc 75 [(.int .i64 (.ofNat 0)),(.int .i64 (.ofNat 0)),(.int .i64 (.ofNat 0)),.nilsl,.nilsl,.nilsl])),none,0⟩])
(.seq (.reg [⟨(some 7),(.q (.mv (.t 0))),none,0⟩,
⟨(some 8),(.q (.mv (.t 1))),none,0⟩,
⟨(some 9),(.q (.mv (.t 2))),none,0⟩,
⟨(some 10),(.q (.build [(.int .i64 (.ofNat 0)),(.int .i64 (.ofNat 0)),(.int .i64 (.ofNat 0)),.nilsl,.nilsl,.nilsl] [(0,1,(.c (.int .i64 (.ofNat 2)))),(1,1,(.t 7)),(2,1,(.t 8)),(3,1,(.t 9))])),none,0⟩,
⟨none,(.x (.st 6 (.t 6) (.t 10))),none,0⟩])
.ret))⟩
theorem row67 : Row Tryz.prog (67, a67) := ⟨Tryz.f67, Tryz.func67, by kernel_rfl⟩
noncomputable def a68 : AFn :=
⟨5,[(.cell 2 true 6)],(.seq (.reg [⟨(some 2),(.a (.alloc 75 [(.int .i64 (.ofNat 0)),(.int .i64 (.ofNat 0)),(.int .i64 (.ofNat 0)),.nilsl,.nilsl,.nilsl])),none,0⟩])
(.seq (.reg [⟨(some 3),(.q (.mv (.t 0))),none,0⟩,
⟨(some 4),(.q (.build [(.int .i64 (.ofNat 0)),(.int .i64 (.ofNat 0)),(.int .i64 (.ofNat 0)),.nilsl,.nilsl,.nilsl] [(0,1,(.c (.int .i64 (.ofNat 3)))),(5,1,(.t 3))])),none,0⟩,
⟨none,(.x (.st 6 (.t 2) (.t 4))),none,0⟩])
.ret))⟩
theorem row68 : Row Tryz.prog (68, a68) := ⟨Tryz.f68, Tryz.func68, by kernel_rfl⟩
noncomputable def a69 : AFn :=
⟨11,[(.t 2)],(.seq (.reg [⟨(some 1),(.a (.box 31 (.t 0))),none,0⟩,
⟨(some 2),(.q (.mv (.c (.int .i64 (.ofNat 0))))),none,0⟩])
(.seq (.reg [⟨(some 6),(.q (.ld true 3 (.t 1))),none,0⟩,
⟨(some 7),(.x (.call (.c (.fn 110 [] [])) [(.t 6)])),none,0⟩,
⟨(some 5),(.q (.mv (.t 7))),none,0⟩,
⟨(some 8),(.q (.extract (.t 5) 0)),none,0⟩,
⟨(some 9),(.q (.extract (.t 5) 1)),none,0⟩,
⟨(some 3),(.q (.mv (.t 8))),none,0⟩,
⟨(some 4),(.q (.mv (.t 9))),none,0⟩])
(.seq (.reg [⟨(some 10),(.q (.mv (.t 4))),none,0⟩,
⟨(some 2),(.q (.mv (.t 10))),none,0⟩])
.ret)))⟩
theorem row69 : Row Tryz.prog (69, a69) := ⟨Tryz.f69, Tryz.func69, by kernel_rfl⟩
noncomputable def a70 : AFn :=
⟨32,[(.t 4),(.t 5)],(.seq (.reg [⟨(some 2),(.a (.box 31 (.t 0))),none,0⟩,
⟨(some 4),(.q (.mv (.c .nilsl))),none,0⟩,
⟨(some 5),(.q (.mv (.c .nilsl))),none,0⟩])
(.seq (.seq (.reg [⟨(some 8),(.q (.faddr 2 (.t 2))),none,0⟩,
⟨(some 9),(.q (.ld false 1 (.t 8))),none,0⟩,
⟨(some 10),(.q (.lenSl (.t 9))),none,0⟩,
⟨(some 11),(.q (.mv (.c (.int .i64 (.ofNat 0))))),none,0⟩])
(.block 0 (.loop (.seq (.reg [⟨(some 12),(.q (.bin .lss (.p .int) (.t 11) (.t 10))),none,0⟩])
(.seq (.cond (.t 12) .skip (.exit 0))
(.seq (.block 1 (.seq (.reg [⟨(some 13),(.q (.mv (.t 11))),none,0⟩,
⟨(some 14),(.q (.iaddr (.slice 2) (.t 9) (.t 11))),none,0⟩,
⟨(some 15),(.q (.ld true 2 (.t 14))),none,0⟩,
⟨(some 7),(.a (.alloc 78 [(.int .i64 (.ofNat 0)),(.int .i64 (.ofNat 0))])),none,0⟩,
⟨(some 6),(.q (.mv (.t 13))),none,0⟩,
⟨none,(.x (.st 2 (.t 7) (.t 15))),none,0⟩])
(.seq (.reg [⟨(some 16),(.q (.faddr 0 (.t 7))),none,0⟩,
⟨(some 17),(.q (.ld false 1 (.t 16))),none,0⟩,
⟨(some 18),(.q (.mv (.t 1))),none,0⟩,
⟨(some 19),(.q (.bin .eql (.p .int) (.t 17) (.t 18))),none,0⟩])
(.cond (.t 19) (.seq (.reg [⟨(some 20),(.q (.mv (.t 4))),none,0⟩,
⟨(some 21),(.q (.mv (.t 6))),none,0⟩,
⟨(some 22),(.a (.bslice 3 1 1 [(.int .i64 (.ofNat 0))] [(0,(.t 21))])),none,0⟩,
⟨(some 23),(.x (.app 3 1 8 (.t 20) (.t 22))),none,0⟩,
⟨(some 4),(.q (.mv (.t 23))),none,0⟩])
(.reg [⟨(some 24),(.q (.mv (.t 5))),none,0⟩,
⟨(some 25),(.q (.faddr 1 (.t 7))),none,0⟩,
⟨(some 26),(.q (.ld false 1 (.t 25))),none,0⟩,
⟨(some 27),(.a (.bslice 3 1 1 [(.int .i64 (.ofNat 0))] [(0,(.t 26))])),none,0⟩,
⟨(some 28),(.x (.app 3 1 8 (.t 24) (.t 27))),none,0⟩,
⟨(some 5),(.q (.mv (.t 28))),none,0⟩])) .skip))))
(.reg [⟨(some 29),(.q (.bin .add (.p .int) (.t 11) (.c (.int .i64 (.ofNat 1))))),none,0⟩,
⟨(some 11),(.q (.mv (.t 29))),none,0⟩])))))))
(.seq (.reg [⟨(some 30),(.q (.mv (.t 4))),none,0⟩,
⟨(some 31),(.q (.mv (.t 5))),none,0⟩,
⟨(some 4),(.q (.mv (.t 30))),none,0⟩,
⟨(some 5),(.q (.mv (.t 31))),none,0⟩])
.ret)))⟩
theorem row70 : Row Tryz.prog (70, a70) := ⟨Tryz.f70, Tryz.func70, by kernel_rfl⟩
noncomputable def a71 : AFn :=
⟨5,[(.t 2)],(.seq (.reg [⟨(some 2),(.q (.mv (.c (.int .i64 (.ofNat 0))))),none,0⟩])
(.seq (.reg [⟨(some 3),(.q (.mv (.t 0))),none,0⟩,
⟨(some 4),(.x (.call (.c (.fn 111 [] [])) [(.t 3),(.c (.int .i64 (.ofNat 1))),(.c (.fn 112 [] []))])),none,0⟩,
⟨(some 2),(.q (.mv (.t 4))),none,0⟩])
.ret))⟩
theorem row71 : Row Tryz.prog (71, a71) := ⟨Tryz.f71, Tryz.func71, by kernel_rfl⟩
noncomputable def a72 : AFn :=
⟨34,[(.t 4),(.t 5),(.t 6),(.t 7)],(.seq (.reg [⟨(some 2),(.a (.box 31 (.t 0))),none,0⟩,
⟨(some 4),(.q (.mv (.c .nilsl))),none,0⟩,
⟨(some 5),(.q (.mv (.c .nilsl))),none,0⟩,
⟨(some 6),(.q (.mv (.c (.int .i64 (.ofNat 0))))),none,0⟩,
⟨(some 7),(.q (.mv (.c (.int .i64 (.ofNat 0))))),none,0⟩])
(.seq (.seq (.reg [⟨(some 8),(.q (.ld true 3 (.t 2))),none,0⟩,
⟨(some 9),(.x (.call (.c (.fn 69 [] [])) [(.t 8)])),none,0⟩,
⟨(some 7),(.q (.mv (.t 9))),none,0⟩])
(.seq (.reg [⟨(some 10),(.q (.mv (.t 7))),none,0⟩,
⟨(some 11),(.q (.bin .neq (.p .int) (.t 10) (.c (.int .i64 (.ofNat 0))))),none,0⟩])
(.cond (.t 11) (.seq (.reg [⟨(some 12),(.q (.mv (.t 7))),none,0⟩,
⟨(some 4),(.q (.mv (.c .nilsl))),none,0⟩,
⟨(some 5),(.q (.mv (.c .nilsl))),none,0⟩,
⟨(some 6),(.q (.mv (.c (.int .i64 (.ofNat 0))))),none,0⟩,
⟨(some 7),(.q (.mv (.t 12))),none,0⟩])
.ret) .skip)))
(.seq (.seq (.reg [⟨(some 13),(.q (.mv (.t 1))),none,0⟩,
⟨(some 14),(.q (.bin .lss (.p .int) (.t 13) (.c (.int .i64 (.ofNat 0))))),none,0⟩,
⟨(some 15),(.q (.mv (.t 14))),none,0⟩,
⟨(some 16),(.q (.mv (.t 1))),(some (15,false)),0⟩,
⟨(some 17),(.q (.faddr 0 (.t 2))),(some (15,false)),0⟩,
⟨(some 18),(.q (.ld false 1 (.t 17))),(some (15,false)),0⟩,
⟨(some 19),(.q (.bin .geq (.p .int) (.t 16) (.t 18))),(some (15,false)),0⟩,
⟨(some 20),(.q (.pick (.t 15) (.c (.bool true)) (.t 19))),none,0⟩])
(.cond (.t 20) (.seq (.reg [⟨(some 4),(.q (.mv (.c .nilsl))),none,0⟩,
⟨(some 5),(.q (.mv (.c .nilsl))),none,0⟩,
⟨(some 6),(.q (.mv (.c (.int .i64 (.ofNat 0))))),none,0⟩,
⟨(some 7),(.q (.mv (.c (.int .i64 (.ofNat 2))))),none,0⟩])
.ret) .skip))
(.seq (.reg [⟨(some 22),(.q (.ld true 3 (.t 2))),none,0⟩,
⟨(some 23),(.q (.mv (.t 1))),none,0⟩,
⟨(some 24),(.x (.call (.c (.fn 70 [] [])) [(.t 22),(.t 23)])),none,0⟩,
⟨(some 21),(.q (.mv (.t 24))),none,0⟩,
⟨(some 25),(.q (.extract (.t 21) 0)),none,0⟩,
⟨(some 26),(.q (.extract (.t 21) 1)),none,0⟩,
⟨(some 4),(.q (.mv (.t 25))),none,0⟩,
⟨(some 5),(.q (.mv (.t 26))),none,0⟩])
(.seq (.seq (.reg [⟨(some 27),(.q (.mv (.t 5))),none,0⟩,
⟨(some 28),(.x (.call (.c (.fn 71 [] [])) [(.t 27)])),none,0⟩,
⟨(some 6),(.q (.mv (.t 28))),none,0⟩])
(.seq (.reg [⟨(some 29),(.q (.mv (.t 6))),none,0⟩,
⟨(some 30),(.q (.bin .gtr (.p .int) (.t 29) (.c (.int .i64 (.ofNat 1000))))),none,0⟩])
(.cond (.t 30) (.seq (.reg [⟨(some 4),(.q (.mv (.c .nilsl))),none,0⟩,
⟨(some 5),(.q (.mv (.c .nilsl))),none,0⟩,
⟨(some 6),(.q (.mv (.c (.int .i64 (.ofNat 0))))),none,0⟩,
⟨(some 7),(.q (.mv (.c (.int .i64 (.ofNat 5))))),none,0⟩])
.ret) .skip)))
(.seq (.reg [⟨(some 31),(.q (.mv (.t 4))),none,0⟩,
⟨(some 32),(.q (.mv (.t 5))),none,0⟩,
⟨(some 33),(.q (.mv (.t 6))),none,0⟩,
⟨(some 4),(.q (.mv (.t 31))),none,0⟩,
⟨(some 5),(.q (.mv (.t 32))),none,0⟩,
⟨(some 6),(.q (.mv (.t 33))),none,0⟩,
⟨(some 7),(.q (.mv (.c (.int .i64 (.ofNat 0))))),none,0⟩])
.ret))))))⟩
theorem row72 : Row Tryz.prog (72, a72) := ⟨Tryz.f72, Tryz.func72, by kernel_rfl⟩
noncomputable def a73 : AFn :=
⟨33,[(.t 4)],(.seq (.reg [⟨(some 4),(.q (.mv (.c .nilsl))),none,0⟩])
(.seq (.reg [⟨(some 7),(.q (.mv (.t 0))),none,0⟩,
⟨(some 8),(.q (.lenSl (.t 7))),none,0⟩,
⟨(some 9),(.a (.mkSlice 3 1 8 [(.int .i64 (.ofNat 0))] (.t 8) (.t 8))),none,0⟩,
⟨(some 5),(.q (.mv (.t 9))),none,0⟩])
(.seq (.seq (.reg [⟨(some 10),(.q (.mv (.t 0))),none,0⟩,
⟨(some 11),(.q (.lenSl (.t 10))),none,0⟩,
⟨(some 12),(.q (.bin .sub (.p .int) (.t 11) (.c (.int .i64 (.ofNat 1))))),none,0⟩,
⟨(some 6),(.q (.mv (.t 12))),none,0⟩])
(.block 0 (.loop (.seq (.seq (.reg [⟨(some 13),(.q (.mv (.t 6))),none,0⟩,
⟨(some 14),(.q (.bin .geq (.p .int) (.t 13) (.c (.int .i64 (.ofNat 0))))),none,0⟩])
(.cond (.t 14) .skip (.exit 0)))
(.seq (.block 1 (.seq (.reg [⟨(some 17),(.q (.mv (.t 5))),none,0⟩,
⟨(some 18),(.q (.mv (.t 6))),none,0⟩,
⟨(some 19),(.q (.mv (.t 1))),none,0⟩,
⟨(some 20),(.q (.mv (.t 0))),none,0⟩,
⟨(some 21),(.q (.mv (.t 6))),none,0⟩,
⟨(some 22),(.q (.iaddr (.slice 1) (.t 20) (.t 21))),none,0⟩,
⟨(some 23),(.q (.ld false 1 (.t 22))),none,0⟩,
⟨(some 24),(.q (.bin .rem (.p .int) (.t 19) (.t 23))),none,0⟩,
⟨(some 25),(.q (.iaddr (.slice 1) (.t 17) (.t 18))),none,0⟩,
⟨none,(.x (.st 1 (.t 25) (.t 24))),none,0⟩])
(.reg [⟨(some 26),(.q (.mv (.t 1))),none,0⟩,
⟨(some 27),(.q (.mv (.t 0))),none,0⟩,
⟨(some 28),(.q (.mv (.t 6))),none,0⟩,
⟨(some 29),(.q (.iaddr (.slice 1) (.t 27) (.t 28))),none,0⟩,
⟨(some 30),(.q (.ld false 1 (.t 29))),none,0⟩,
⟨(some 31),(.q (.bin .quo (.p .int) (.t 26) (.t 30))),none,0⟩,
⟨(some 1),(.q (.mv (.t 31))),none,0⟩])))
(.reg [⟨(some 15),(.q (.mv (.t 6))),none,0⟩,
⟨(some 16),(.q (.bin .sub (.p .int) (.t 15) (.c (.int .i64 (.ofNat 1))))),none,0⟩,
⟨(some 6),(.q (.mv (.t 16))),none,0⟩]))))))
(.seq (.reg [⟨(some 32),(.q (.mv (.t 5))),none,0⟩,
⟨(some 4),(.q (.mv (.t 32))),none,0⟩])
.ret))))⟩
theorem row73 : Row Tryz.prog (73, a73) := ⟨Tryz.f73, Tryz.func73, by kernel_rfl⟩
noncomputable def a74 : AFn :=
⟨25,[(.t 4)],(.seq (.reg [⟨(some 4),(.q (.mv (.c (.int .i64 (.ofNat 0))))),none,0⟩])
(.seq (.reg [⟨(some 5),(.q (.mv (.c (.int .i64 (.ofNat 0))))),none,0⟩])
(.seq (.seq (.reg [⟨(some 8),(.q (.mv (.t 1))),none,0⟩,
⟨(some 9),(.q (.lenSl (.t 8))),none,0⟩,
⟨(some 10),(.q (.mv (.c (.int .i64 (.ofNat 0))))),none,0⟩])
(.block 0 (.loop (.seq (.reg [⟨(some 11),(.q (.bin .lss (.p .int) (.t 10) (.t 9))),none,0⟩])
(.seq (.cond (.t 11) .skip (.exit 0))
(.seq (.block 1 (.seq (.reg [⟨(some 12),(.q (.mv (.t 10))),none,0⟩,
⟨(some 13),(.q (.iaddr (.slice 1) (.t 8) (.t 10))),none,0⟩,
⟨(some 14),(.q (.ld false 1 (.t 13))),none,0⟩,
⟨(some 6),(.q (.mv (.t 12))),none,0⟩,
⟨(some 7),(.q (.mv (.t 14))),none,0⟩])
(.reg [⟨(some 15),(.q (.mv (.t 5))),none,0⟩,
⟨(some 16),(.q (.mv (.t 0))),none,0⟩,
⟨(some 17),(.q (.mv (.t 6))),none,0⟩,
⟨(some 18),(.q (.iaddr (.slice 1) (.t 16) (.t 17))),none,0⟩,
⟨(some 19),(.q (.ld false 1 (.t 18))),none,0⟩,
⟨(some 20),(.q (.bin .mul (.p .int) (.t 15) (.t 19))),none,0⟩,
⟨(some 21),(.q (.mv (.t 7))),none,0⟩,
⟨(some 22),(.q (.bin .add (.p .int) (.t 20) (.t 21))),none,0⟩,
⟨(some 5),(.q (.mv (.t 22))),none,0⟩])))
(.reg [⟨(some 23),(.q (.bin .add (.p .int) (.t 10) (.c (.int .i64 (.ofNat 1))))),none,0⟩,
⟨(some 10),(.q (.mv (.t 23))),none,0⟩])))))))
(.seq (.reg [⟨(some 24),(.q (.mv (.t 5))),none,0⟩,
⟨(some 4),(.q (.mv (.t 24))),none,0⟩])
.ret))))⟩
theorem row74 : Row Tryz.prog (74, a74) := ⟨Tryz.f74, Tryz.func74, by kernel_rfl⟩
noncomputable def a75 : AFn :=
⟨123,[(.t 2)],(.seq (.reg [⟨(some 1),(.a (.box 31 (.t 0))),none,0⟩,
⟨(some 2),(.q (.mv (.c .nilp))),none,0⟩])
(.seq (.drw [⟨(some 13),(.q (.ld true 3 (.t 1))),none,0⟩,
⟨(some 14),(.q (.faddr 2 (.t 1))),none,0⟩,
⟨(some 15),(.q (.ld false 1 (.t 14))),none,2⟩,
⟨(some 16),(.q (.lenSl (.t 15))),none,6⟩,
⟨(some 17),(.a (.mkSlice 3 1 8 [(.int .i64 (.ofNat 0))] (.t 16) (.t 16))),none,14⟩,
⟨(some 18),(.q (.faddr 2 (.t 1))),none,0⟩,
⟨(some 19),(.q (.ld false 1 (.t 18))),none,32⟩,
⟨(some 20),(.q (.lenSl (.t 19))),none,96⟩,
⟨(some 21),(.a (.mkSlice 3 1 8 [(.int .i64 (.ofNat 0))] (.t 20) (.t 20))),none,224⟩,
⟨(some 22),(.a (.mkMap)),none,0⟩,
⟨(some 23),(.q (.build [(.int .i64 (.ofNat 0)),.nilsl,.nilsl,.nilsl,.nilsl,.nilsl,.nilmap] [(0,3,(.t 13)),(3,1,(.t 17)),(4,1,(.t 21)),(6,1,(.t 22))])),none,1023⟩,
⟨(some 24),(.a (.box 169 (.t 23))),none,2047⟩,
⟨(some 3),(.q (.mv (.t 24))),none,4095⟩])
(.seq (.seq (.reg [⟨(some 25),(.q (.faddr 0 (.t 1))),none,0⟩,
⟨(some 26),(.q (.ld false 1 (.t 25))),none,0⟩,
⟨(some 27),(.q (.mv (.c (.int .i64 (.ofNat 0))))),none,0⟩])
(.block 0 (.loop (.seq (.reg [⟨(some 28),(.q (.bin .lss (.p .int) (.t 27) (.t 26))),none,0⟩])
(.seq (.cond (.t 28) .skip (.exit 0))
(.seq (.block 1 (.seq (.reg [⟨(some 29),(.q (.mv (.t 27))),none,0⟩,
⟨(some 4),(.q (.mv (.t 29))),none,0⟩])
(.seq (.reg [⟨(some 31),(.q (.ld true 3 (.t 1))),none,0⟩,
⟨(some 32),(.q (.mv (.t 4))),none,0⟩,
⟨(some 33),(.x (.call (.c (.fn 70 [] [])) [(.t 31),(.t 32)])),none,0⟩,
⟨(some 30),(.q (.mv (.t 33))),none,0⟩,
⟨(some 34),(.q (.extract (.t 30) 0)),none,0⟩,
⟨(some 35),(.q (.extract (.t 30) 1)),none,0⟩,
⟨(some 5),(.q (.mv (.t 34))),none,0⟩,
⟨(some 6),(.q (.mv (.t 35))),none,0⟩])
(.seq (.reg [⟨(some 7),(.q (.mv (.c (.int .i64 (.ofNat 1))))),none,0⟩])
(.seq (.reg [⟨(some 36),(.q (.mv (.t 5))),none,0⟩,
⟨(some 37),(.q (.lenSl (.t 36))),none,0⟩,
⟨(some 38),(.q (.bin .sub (.p .int) (.t 37) (.c (.int .i64 (.ofNat 1))))),none,0⟩,
⟨(some 8),(.q (.mv (.t 38))),none,0⟩])
(.block 2 (.loop (.seq (.seq (.reg [⟨(some 39),(.q (.mv (.t 8))),none,0⟩,
⟨(some 40),(.q (.bin .geq (.p .int) (.t 39) (.c (.int .i64 (.ofNat 0))))),none,0⟩])
(.cond (.t 40) .skip (.exit 2)))
(.seq (.block 3 (.seq (.drw [⟨(some 43),(.q (.mv (.t 3))),none,0⟩,
⟨(some 44),(.q (.nilchk (.t 43))),none,1⟩,
⟨(some 45),(.q (.faddr 4 (.t 44))),none,3⟩,
⟨(some 46),(.q (.ld false 1 (.t 45))),none,7⟩,
⟨(some 47),(.q (.mv (.t 5))),none,0⟩,
⟨(some 48),(.q (.mv (.t 8))),none,0⟩,
⟨(some 49),(.q (.iaddr (.slice 1) (.t 47) (.t 48))),none,48⟩,
⟨(some 50),(.q (.ld false 1 (.t 49))),none,112⟩,
⟨(some 51),(.q (.mv (.t 7))),none,0⟩,
⟨(some 52),(.q (.iaddr (.slice 1) (.t 46) (.t 50))),none,511⟩,
⟨none,(.x (.st 1 (.t 52) (.t 51))),none,1023⟩])
(.reg [⟨(some 53),(.q (.mv (.t 7))),none,0⟩,
⟨(some 54),(.q (.mv (.t 6))),none,0⟩,
⟨(some 55),(.q (.mv (.t 8))),none,0⟩,
⟨(some 56),(.q (.iaddr (.slice 1) (.t 54) (.t 55))),none,0⟩,
⟨(some 57),(.q (.ld false 1 (.t 56))),none,0⟩,
⟨(some 58),(.q (.bin .mul (.p .int) (.t 53) (.t 57))),none,0⟩,
⟨(some 7),(.q (.mv (.t 58))),none,0⟩])))
(.reg [⟨(some 41),(.q (.mv (.t 8))),none,0⟩,
⟨(some 42),(.q (.bin .sub (.p .int) (.t 41) (.c (.int .i64 (.ofNat 1))))),none,0⟩,
⟨(some 8),(.q (.mv (.t 42))),none,0⟩]))))))))))
(.reg [⟨(some 59),(.q (.bin .add (.p .int) (.t 27) (.c (.int .i64 (.ofNat 1))))),none,0⟩,
⟨(some 27),(.q (.mv (.t 59))),none,0⟩])))))))
(.seq (.reg [⟨(some 60),(.q (.mv (.t 3))),none,0⟩,
⟨(some 61),(.q (.faddr 1 (.t 1))),none,0⟩,
⟨(some 62),(.q (.ld false 1 (.t 61))),none,0⟩,
⟨(some 63),(.q (.lenSl (.t 62))),none,0⟩,
⟨(some 64),(.a (.mkSlice 24 1 24 [.nilsl] (.t 63) (.t 63))),none,0⟩,
⟨(some 65),(.q (.nilchk (.t 60))),none,0⟩,
⟨(some 66),(.q (.faddr 5 (.t 65))),none,0⟩,
⟨none,(.x (.st 1 (.t 66) (.t 64))),none,0⟩])
(.seq (.seq (.reg [⟨(some 67),(.q (.faddr 1 (.t 1))),none,0⟩,
⟨(some 68),(.q (.ld false 1 (.t 67))),none,0⟩,
⟨(some 69),(.q (.lenSl (.t 68))),none,0⟩,
⟨(some 70),(.q (.bin .sub (.p .int) (.t 69) (.c (.int .i64 (.ofNat 1))))),none,0⟩,
⟨(some 9),(.q (.mv (.t 70))),none,0⟩])
(.block 4 (.loop (.seq (.seq (.reg [⟨(some 71),(.q (.mv (.t 9))),none,0⟩,
⟨(some 72),(.q (.bin .geq (.p .int) (.t 71) (.c (.int .i64 (.ofNat 0))))),none,0⟩])
(.cond (.t 72) .skip (.exit 4)))
(.seq (.block 5 (.seq (.reg [⟨(some 10),(.q (.mv (.c .nilsl))),none,0⟩])
(.seq (.seq (.reg [⟨(some 75),(.q (.faddr 1 (.t 1))),none,0⟩,
⟨(some 76),(.q (.ld false 1 (.t 75))),none,0⟩,
⟨(some 77),(.q (.mv (.t 9))),none,0⟩,
⟨(some 78),(.q (.iaddr (.slice 6) (.t 76) (.t 77))),none,0⟩,
⟨(some 79),(.q (.faddr 0 (.t 78))),none,0⟩,
⟨(some 80),(.q (.ld false 1 (.t 79))),none,0⟩,
⟨(some 81),(.q (.bin .eql (.p .int) (.t 80) (.c (.int .i64 (.ofNat 2))))),none,0⟩])
(.cond (.t 81) (.reg [⟨(some 82),(.q (.mv (.t 10))),none,0⟩,
⟨(some 83),(.q (.faddr 1 (.t 1))),none,0⟩,
⟨(some 84),(.q (.ld false 1 (.t 83))),none,0⟩,
⟨(some 85),(.q (.mv (.t 9))),none,0⟩,
⟨(some 86),(.q (.iaddr (.slice 6) (.t 84) (.t 85))),none,0⟩,
⟨(some 87),(.q (.faddr 2 (.t 86))),none,0⟩,
⟨(some 88),(.q (.ld false 1 (.t 87))),none,0⟩,
⟨(some 89),(.a (.bslice 3 1 1 [(.int .i64 (.ofNat 0))] [(0,(.t 88))])),none,0⟩,
⟨(some 90),(.x (.app 3 1 8 (.t 82) (.t 89))),none,0⟩,
⟨(some 10),(.q (.mv (.t 90))),none,0⟩]) .skip))
(.seq (.seq (.reg [⟨(some 91),(.q (.faddr 1 (.t 1))),none,0⟩,
⟨(some 92),(.q (.ld false 1 (.t 91))),none,0⟩,
⟨(some 93),(.q (.mv (.t 9))),none,0⟩,
⟨(some 94),(.q (.iaddr (.slice 6) (.t 92) (.t 93))),none,0⟩,
⟨(some 95),(.q (.faddr 3 (.t 94))),none,0⟩,
⟨(some 96),(.q (.ld false 1 (.t 95))),none,0⟩,
⟨(some 97),(.q (.lenSl (.t 96))),none,0⟩,
⟨(some 98),(.q (.mv (.c (.int .i64 (.ofNat 0))))),none,0⟩])
(.block 6 (.loop (.seq (.reg [⟨(some 99),(.q (.bin .lss (.p .int) (.t 98) (.t 97))),none,0⟩])
(.seq (.cond (.t 99) .skip (.exit 6))
(.seq (.block 7 (.seq (.reg [⟨(some 100),(.q (.iaddr (.slice 1) (.t 96) (.t 98))),none,0⟩,
⟨(some 101),(.q (.ld false 1 (.t 100))),none,0⟩,
⟨(some 12),(.q (.mv (.t 101))),none,0⟩])
(.reg [⟨(some 102),(.q (.mv (.t 10))),none,0⟩,
⟨(some 103),(.q (.mv (.t 3))),none,0⟩,
⟨(some 104),(.q (.nilchk (.t 103))),none,0⟩,
⟨(some 105),(.q (.faddr 5 (.t 104))),none,0⟩,
⟨(some 106),(.q (.ld false 1 (.t 105))),none,0⟩,
⟨(some 107),(.q (.mv (.t 12))),none,0⟩,
⟨(some 108),(.q (.iaddr (.slice 1) (.t 106) (.t 107))),none,0⟩,
⟨(some 109),(.q (.ld false 1 (.t 108))),none,0⟩,
⟨(some 110),(.x (.app 3 1 8 (.t 102) (.t 109))),none,0⟩,
⟨(some 10),(.q (.mv (.t 110))),none,0⟩])))
(.reg [⟨(some 111),(.q (.bin .add (.p .int) (.t 98) (.c (.int .i64 (.ofNat 1))))),none,0⟩,
⟨(some 98),(.q (.mv (.t 111))),none,0⟩])))))))
(.seq (.reg [⟨(some 112),(.q (.mv (.t 10))),none,0⟩,
⟨(some 113),(.x (.call (.c (.fn 113 [] [])) [(.t 112)])),none,0⟩])
(.drw [⟨(some 114),(.q (.mv (.t 3))),none,0⟩,
⟨(some 115),(.q (.nilchk (.t 114))),none,1⟩,
⟨(some 116),(.q (.faddr 5 (.t 115))),none,3⟩,
⟨(some 117),(.q (.ld false 1 (.t 116))),none,7⟩,
⟨(some 118),(.q (.mv (.t 9))),none,0⟩,
⟨(some 119),(.q (.mv (.t 10))),none,0⟩,
⟨(some 120),(.x (.call (.c (.fn 114 [] [])) [(.t 119)])),none,32⟩,
⟨(some 121),(.q (.iaddr (.slice 1) (.t 117) (.t 118))),none,127⟩,
⟨none,(.x (.st 1 (.t 121) (.t 120))),none,255⟩]))))))
(.reg [⟨(some 73),(.q (.mv (.t 9))),none,0⟩,
⟨(some 74),(.q (.bin .sub (.p .int) (.t 73) (.c (.int .i64 (.ofNat 1))))),none,0⟩,
⟨(some 9),(.q (.mv (.t 74))),none,0⟩]))))))
(.seq (.reg [⟨(some 122),(.q (.mv (.t 3))),none,0⟩,
⟨(some 2),(.q (.mv (.t 122))),none,0⟩])
.ret))))))⟩
theorem row75 : Row Tryz.prog (75, a75) := ⟨Tryz.f75, Tryz.func75, by kernel_rfl⟩
noncomputable def a76 : AFn :=
⟨47,[],(.seq (.reg [⟨(some 10),(.q (.mv (.t 1))),none,0⟩,
⟨(some 11),(.q (.lenSl (.t 10))),none,0⟩,
⟨(some 12),(.q (.mv (.c (.int .i64 (.ofNat 0))))),none,0⟩])
(.block 0 (.loop (.seq (.reg [⟨(some 13),(.q (.bin .lss (.p .int) (.t 12) (.t 11))),none,0⟩])
(.seq (.cond (.t 13) .skip (.exit 0))
(.seq (.block 1 (.seq (.reg [⟨(some 14),(.q (.mv (.t 12))),none,0⟩,
⟨(some 15),(.q (.iaddr (.slice 1) (.t 10) (.t 12))),none,0⟩,
⟨(some 16),(.q (.ld false 1 (.t 15))),none,0⟩,
⟨(some 4),(.q (.mv (.t 14))),none,0⟩,
⟨(some 5),(.q (.mv (.t 16))),none,0⟩])
(.seq (.reg [⟨(some 18),(.q (.mv (.t 0))),none,0⟩,
⟨(some 19),(.q (.nilchk (.t 18))),none,0⟩,
⟨(some 20),(.q (.faddr 0 (.t 19))),none,0⟩,
⟨(some 21),(.q (.ld true 3 (.t 20))),none,0⟩,
⟨(some 22),(.q (.mv (.t 4))),none,0⟩,
⟨(some 23),(.x (.call (.c (.fn 70 [] [])) [(.t 21),(.t 22)])),none,0⟩,
⟨(some 17),(.q (.mv (.t 23))),none,0⟩,
⟨(some 24),(.q (.extract (.t 17) 0)),none,0⟩,
⟨(some 25),(.q (.extract (.t 17) 1)),none,0⟩,
⟨(some 6),(.q (.mv (.t 24))),none,0⟩,
⟨(some 7),(.q (.mv (.t 25))),none,0⟩])
(.seq (.reg [⟨(some 26),(.q (.mv (.t 7))),none,0⟩,
⟨(some 27),(.q (.mv (.t 5))),none,0⟩,
⟨(some 28),(.x (.call (.c (.fn 73 [] [])) [(.t 26),(.t 27)])),none,0⟩,
⟨(some 29),(.q (.lenSl (.t 28))),none,0⟩,
⟨(some 30),(.q (.mv (.c (.int .i64 (.ofNat 0))))),none,0⟩])
(.block 2 (.loop (.seq (.reg [⟨(some 31),(.q (.bin .lss (.p .int) (.t 30) (.t 29))),none,0⟩])
(.seq (.cond (.t 31) .skip (.exit 2))
(.seq (.block 3 (.seq (.reg [⟨(some 32),(.q (.mv (.t 30))),none,0⟩,
⟨(some 33),(.q (.iaddr (.slice 1) (.t 28) (.t 30))),none,0⟩,
⟨(some 34),(.q (.ld false 1 (.t 33))),none,0⟩,
⟨(some 8),(.q (.mv (.t 32))),none,0⟩,
⟨(some 9),(.q (.mv (.t 34))),none,0⟩])
(.drw [⟨(some 35),(.q (.mv (.t 0))),none,0⟩,
⟨(some 36),(.q (.nilchk (.t 35))),none,1⟩,
⟨(some 37),(.q (.faddr 3 (.t 36))),none,3⟩,
⟨(some 38),(.q (.ld false 1 (.t 37))),none,7⟩,
⟨(some 39),(.q (.mv (.t 6))),none,0⟩,
⟨(some 40),(.q (.mv (.t 8))),none,0⟩,
⟨(some 41),(.q (.iaddr (.slice 1) (.t 39) (.t 40))),none,48⟩,
⟨(some 42),(.q (.ld false 1 (.t 41))),none,112⟩,
⟨(some 43),(.q (.mv (.t 9))),none,0⟩,
⟨(some 44),(.q (.iaddr (.slice 1) (.t 38) (.t 42))),none,511⟩,
⟨none,(.x (.st 1 (.t 44) (.t 43))),none,1023⟩])))
(.reg [⟨(some 45),(.q (.bin .add (.p .int) (.t 30) (.c (.int .i64 (.ofNat 1))))),none,0⟩,
⟨(some 30),(.q (.mv (.t 45))),none,0⟩]))))))))))
(.reg [⟨(some 46),(.q (.bin .add (.p .int) (.t 12) (.c (.int .i64 (.ofNat 1))))),none,0⟩,
⟨(some 12),(.q (.mv (.t 46))),none,0⟩])))))))⟩
theorem row76 : Row Tryz.prog (76, a76) := ⟨Tryz.f76, Tryz.func76, by kernel_rfl⟩
noncomputable def a77 : AFn :=
⟨7,[(.t 2)],(.seq (.reg [⟨(some 1),(.a (.box 122 (.t 0))),none,0⟩,
⟨(some 2),(.q (.mv (.c .nilsl))),none,0⟩])
(.seq (.reg [⟨(some 3),(.a (.alloc 170 [.nilfn])),none,0⟩])
(.seq (.reg [⟨(some 4),(.q (.mkFunc 115 [] [(.t 1),(.t 3)])),none,0⟩,
⟨none,(.x (.st 1 (.t 3) (.t 4))),none,0⟩])
(.seq (.reg [⟨(some 5),(.q (.ld false 1 (.t 3))),none,0⟩,
⟨(some 6),(.x (.call (.t 5) [(.c (.int .i64 (.ofNat 0)))])),none,0⟩,
⟨(some 2),(.q (.mv (.t 6))),none,0⟩])
.ret))))⟩
theorem row77 : Row Tryz.prog (77, a77) := ⟨Tryz.f77, Tryz.func77, by kernel_rfl⟩
noncomputable def a78 : AFn :=
⟨35,[(.cell 2 true 3),(.t 3)],(.seq (.reg [⟨(some 1),(.a (.box 128 (.t 0))),none,0⟩,
⟨(some 2),(.a (.alloc 43 [(.bool false),.nilsl,.nilsl])),none,0⟩,
⟨(some 3),(.q (.mv (.c (.int .i64 (.ofNat 0))))),none,0⟩])
(.seq (.seq (.reg [⟨(some 4),(.q (.faddr 1 (.t 1))),none,0⟩,
⟨(some 5),(.q (.ld false 1 (.t 4))),none,0⟩,
⟨(some 6),(.q (.lenSl (.t 5))),none,0⟩,
⟨(some 7),(.q (.bin .gtr (.p .int) (.t 6) (.c (.int .i64 (.ofNat 1024))))),none,0⟩,
⟨(some 8),(.q (.mv (.t 7))),none,0⟩,
⟨(some 9),(.q (.faddr 2 (.t 1))),(some (8,false)),0⟩,
⟨(some 10),(.q (.ld false 1 (.t 9))),(some (8,false)),0⟩,
⟨(some 11),(.q (.lenSl (.t 10))),(some (8,false)),0⟩,
⟨(some 12),(.q (.bin .gtr (.p .int) (.t 11) (.c (.int .i64 (.ofNat 1024))))),(some (8,false)),0⟩,
⟨(some 13),(.q (.pick (.t 8) (.c (.bool true)) (.t 12))),none,0⟩])
(.cond (.t 13) (.seq (.reg [⟨(some 14),(.q (.build [(.bool false),.nilsl,.nilsl] [])),none,0⟩,
⟨none,(.x (.st 3 (.t 2) (.t 14))),none,0⟩,
⟨(some 3),(.q (.mv (.c (.int .i64 (.ofNat 5))))),none,0⟩])
.ret) .skip))
(.seq (.seq (.reg [⟨(some 15),(.q (.faddr 2 (.t 1))),none,0⟩,
⟨(some 16),(.q (.ld false 1 (.t 15))),none,0⟩,
⟨(some 17),(.q (.lenSl (.t 16))),none,0⟩,
⟨(some 18),(.q (.bin .eql (.p .int) (.t 17) (.c (.int .i64 (.ofNat 0))))),none,0⟩])
(.cond (.t 18) (.seq (.drw [⟨(some 19),(.q (.faddr 0 (.t 1))),none,0⟩,
⟨(some 20),(.q (.ld false 1 (.t 19))),none,1⟩,
⟨(some 21),(.q (.faddr 1 (.t 1))),none,0⟩,
⟨(some 22),(.q (.ld false 1 (.t 21))),none,4⟩,
⟨(some 23),(.x (.call (.c (.fn 121 [] [])) [(.t 22)])),none,12⟩,
⟨(some 24),(.a (.bslice 149 1 1 [(.int .u32 (.ofNat 0))] [(0,(.c (.int .u32 (.ofNat 1))))])),none,0⟩,
⟨(some 25),(.q (.build [(.bool false),.nilsl,.nilsl] [(0,1,(.t 20)),(1,1,(.t 23)),(2,1,(.t 24))])),none,63⟩,
⟨none,(.x (.st 3 (.t 2) (.t 25))),none,127⟩,
⟨(some 3),(.q (.mv (.c (.int .i64 (.ofNat 0))))),none,255⟩])
.ret) .skip))
(.seq (.drw [⟨(some 26),(.q (.faddr 0 (.t 1))),none,0⟩,
⟨(some 27),(.q (.ld false 1 (.t 26))),none,1⟩,
⟨(some 28),(.q (.faddr 1 (.t 1))),none,0⟩,
⟨(some 29),(.q (.ld false 1 (.t 28))),none,4⟩,
⟨(some 30),(.x (.call (.c (.fn 121 [] [])) [(.t 29)])),none,12⟩,
⟨(some 31),(.q (.faddr 2 (.t 1))),none,0⟩,
⟨(some 32),(.q (.ld false 1 (.t 31))),none,32⟩,
⟨(some 33),(.x (.call (.c (.fn 121 [] [])) [(.t 32)])),none,124⟩,
⟨(some 34),(.q (.build [(.bool false),.nilsl,.nilsl] [(0,1,(.t 27)),(1,1,(.t 30)),(2,1,(.t 33))])),none,255⟩,
⟨none,(.x (.st 3 (.t 2) (.t 34))),none,511⟩,
⟨(some 3),(.q (.mv (.c (.int .i64 (.ofNat 0))))),none,1023⟩])
.ret))))⟩
theorem row78 : Row Tryz.prog (78, a78) := ⟨Tryz.f78, Tryz.func78, by kernel_rfl⟩
noncomputable def a79 : AFn :=
⟨4,[(.t 2)],(.seq (.reg [⟨(some 1),(.a (.box 24 (.t 0))),none,0⟩,
⟨(some 2),(.q (.mv (.c .nilfn))),none,0⟩])
(.seq (.reg [⟨(some 3),(.q (.mkFunc 122 [] [(.t 1)])),none,0⟩,
⟨(some 2),(.q (.mv (.t 3))),none,0⟩])
.ret))⟩
theorem row79 : Row Tryz.prog (79, a79) := ⟨Tryz.f79, Tryz.func79, by kernel_rfl⟩
noncomputable def a80 : AFn :=
⟨24,[(.t 4)],(.seq (.reg [⟨(some 2),(.a (.box 43 (.t 0))),none,0⟩,
⟨(some 3),(.a (.box 43 (.t 1))),none,0⟩,
⟨(some 4),(.q (.mv (.c (.bool false)))),none,0⟩])
(.seq (.reg [⟨(some 5),(.q (.faddr 0 (.t 2))),none,0⟩,
⟨(some 6),(.q (.ld false 1 (.t 5))),none,0⟩,
⟨(some 7),(.q (.faddr 0 (.t 3))),none,0⟩,
⟨(some 8),(.q (.ld false 1 (.t 7))),none,0⟩,
⟨(some 9),(.q (.bin .eql (.p .bool) (.t 6) (.t 8))),none,0⟩,
⟨(some 10),(.q (.mv (.t 9))),none,0⟩,
⟨(some 11),(.q (.faddr 1 (.t 2))),(some (10,true)),0⟩,
⟨(some 12),(.q (.ld false 1 (.t 11))),(some (10,true)),0⟩,
⟨(some 13),(.q (.faddr 1 (.t 3))),(some (10,true)),0⟩,
⟨(some 14),(.q (.ld false 1 (.t 13))),(some (10,true)),0⟩,
⟨(some 15),(.x (.call (.c (.fn 92 [] [])) [(.t 12),(.t 14)])),(some (10,true)),0⟩,
⟨(some 16),(.q (.pick (.t 10) (.t 15) (.c (.bool false)))),none,0⟩,
⟨(some 17),(.q (.mv (.t 16))),none,0⟩,
⟨(some 18),(.q (.faddr 2 (.t 2))),(some (17,true)),0⟩,
⟨(some 19),(.q (.ld false 1 (.t 18))),(some (17,true)),0⟩,
⟨(some 20),(.q (.faddr 2 (.t 3))),(some (17,true)),0⟩,
⟨(some 21),(.q (.ld false 1 (.t 20))),(some (17,true)),0⟩,
⟨(some 22),(.x (.call (.c (.fn 92 [] [])) [(.t 19),(.t 21)])),(some (17,true)),0⟩,
⟨(some 23),(.q (.pick (.t 17) (.t 22) (.c (.bool false)))),none,0⟩,
⟨(some 4),(.q (.mv (.t 23))),none,0⟩])
.ret))⟩
theorem row80 : Row Tryz.prog (80, a80) := ⟨Tryz.f80, Tryz.func80, by kernel_rfl⟩
noncomputable def a81 : AFn :=
⟨15,[(.cell 4 true 3)],(.seq (.reg [⟨(some 4),(.a (.alloc 43 [(.bool false),.nilsl,.nilsl])),none,0⟩])
(.seq (.reg [⟨(some 5),(.q (.mv (.t 0))),none,0⟩,
⟨(some 6),(.q (.bin .lss (.p .int) (.t 5) (.c (.int .i64 (.ofNat 0))))),none,0⟩,
⟨(some 7),(.q (.mv (.t 1))),none,0⟩,
⟨(some 8),(.q (.bin .lss (.p .int) (.t 7) (.c (.int .i64 (.ofNat 0))))),none,0⟩,
⟨(some 9),(.q (.bin .neq (.p .bool) (.t 6) (.t 8))),none,0⟩,
⟨(some 10),(.q (.mv (.t 0))),none,0⟩,
⟨(some 11),(.x (.call (.c (.fn 124 [] [])) [(.t 10)])),none,0⟩,
⟨(some 12),(.q (.mv (.t 1))),none,0⟩,
⟨(some 13),(.x (.call (.c (.fn 124 [] [])) [(.t 12)])),none,0⟩,
⟨(some 14),(.x (.call (.c (.fn 123 [] [])) [(.t 9),(.t 11),(.t 13)])),none,0⟩,
⟨none,(.x (.st 3 (.t 4) (.t 14))),none,0⟩])
.ret))⟩
theorem row81 : Row Tryz.prog (81, a81) := ⟨Tryz.f81, Tryz.func81, by kernel_rfl⟩
noncomputable def a82 : AFn :=
⟨29,[(.t 2)],(.seq (.reg [⟨(some 2),(.q (.mv (.c (.int .i64 (.ofNat 0))))),none,0⟩])
(.seq (.seq (.reg [⟨(some 5),(.q (.mv (.t 0))),none,0⟩,
⟨(some 6),(.q (.lenSl (.t 5))),none,0⟩,
⟨(some 7),(.q (.bin .lss (.p .int) (.t 6) (.c (.int .i64 (.ofNat 1))))),none,0⟩,
⟨(some 8),(.q (.mv (.t 7))),none,0⟩,
⟨(some 9),(.q (.mv (.t 0))),(some (8,false)),0⟩,
⟨(some 10),(.q (.lenSl (.t 9))),(some (8,false)),0⟩,
⟨(some 11),(.q (.bin .gtr (.p .int) (.t 10) (.c (.int .i64 (.ofNat 4))))),(some (8,false)),0⟩,
⟨(some 12),(.q (.pick (.t 8) (.c (.bool true)) (.t 11))),none,0⟩])
(.cond (.t 12) (.seq (.reg [⟨(some 2),(.q (.mv (.c (.int .i64 (.ofNat 2))))),none,0⟩])
.ret) .skip))
(.seq (.seq (.reg [⟨(some 13),(.q (.mv (.t 0))),none,0⟩,
⟨(some 14),(.q (.lenSl (.t 13))),none,0⟩,
⟨(some 15),(.q (.mv (.c (.int .i64 (.ofNat 0))))),none,0⟩])
(.block 0 (.loop (.seq (.reg [⟨(some 16),(.q (.bin .lss (.p .int) (.t 15) (.t 14))),none,0⟩])
(.seq (.cond (.t 16) .skip (.exit 0))
(.seq (.block 1 (.seq (.reg [⟨(some 17),(.q (.mv (.t 15))),none,0⟩,
⟨(some 18),(.q (.iaddr (.slice 1) (.t 13) (.t 15))),none,0⟩,
⟨(some 19),(.q (.ld false 1 (.t 18))),none,0⟩,
⟨(some 3),(.q (.mv (.t 17))),none,0⟩,
⟨(some 4),(.q (.mv (.t 19))),none,0⟩])
(.seq (.seq (.reg [⟨(some 20),(.q (.mv (.t 4))),none,0⟩,
⟨(some 21),(.q (.bin .lss (.p .int) (.t 20) (.c (.int .i64 (.ofNat 1))))),none,0⟩])
(.cond (.t 21) (.seq (.reg [⟨(some 2),(.q (.mv (.c (.int .i64 (.ofNat 2))))),none,0⟩])
.ret) .skip))
(.seq (.reg [⟨(some 22),(.q (.mv (.t 0))),none,0⟩,
⟨(some 23),(.q (.mv (.t 3))),none,0⟩,
⟨(some 24),(.q (.bin .add (.p .int) (.t 23) (.c (.int .i64 (.ofNat 1))))),none,0⟩,
⟨(some 25),(.q (.slc (.slice 1) (.t 22) none (some (.t 24)) none)),none,0⟩,
⟨(some 26),(.x (.call (.c (.fn 71 [] [])) [(.t 25)])),none,0⟩,
⟨(some 27),(.q (.bin .gtr (.p .int) (.t 26) (.c (.int .i64 (.ofNat 1000))))),none,0⟩])
(.cond (.t 27) (.seq (.reg [⟨(some 2),(.q (.mv (.c (.int .i64 (.ofNat 5))))),none,0⟩])
.ret) .skip)))))
(.reg [⟨(some 28),(.q (.bin .add (.p .int) (.t 15) (.c (.int .i64 (.ofNat 1))))),none,0⟩,
⟨(some 15),(.q (.mv (.t 28))),none,0⟩])))))))
(.seq (.reg [⟨(some 2),(.q (.mv (.c (.int .i64 (.ofNat 0))))),none,0⟩])
.ret))))⟩
theorem row82 : Row Tryz.prog (82, a82) := ⟨Tryz.f82, Tryz.func82, by kernel_rfl⟩
noncomputable def a83 : AFn :=
⟨28,[(.t 2)],(.seq (.reg [⟨(some 1),(.a (.box 43 (.t 0))),none,0⟩,
⟨(some 2),(.q (.mv (.c (.int .i64 (.ofNat 0))))),none,0⟩])
(.seq (.seq (.reg [⟨(some 4),(.q (.faddr 1 (.t 1))),none,0⟩,
⟨(some 5),(.q (.ld false 1 (.t 4))),none,0⟩,
⟨(some 6),(.q (.faddr 2 (.t 1))),none,0⟩,
⟨(some 7),(.q (.ld false 1 (.t 6))),none,0⟩,
⟨(some 8),(.x (.call (.c (.fn 125 [] [])) [(.t 5),(.t 7)])),none,0⟩,
⟨(some 3),(.q (.mv (.t 8))),none,0⟩])
(.seq (.reg [⟨(some 9),(.q (.mv (.t 3))),none,0⟩,
⟨(some 10),(.q (.bin .neq (.p .int) (.t 9) (.c (.int .i64 (.ofNat 0))))),none,0⟩])
(.cond (.t 10) (.seq (.reg [⟨(some 11),(.q (.mv (.t 3))),none,0⟩,
⟨(some 2),(.q (.mv (.t 11))),none,0⟩])
.ret) .skip)))
(.seq (.seq (.reg [⟨(some 12),(.q (.faddr 1 (.t 1))),none,0⟩,
⟨(some 13),(.q (.ld false 1 (.t 12))),none,0⟩,
⟨(some 14),(.q (.lenSl (.t 13))),none,0⟩,
⟨(some 15),(.q (.bin .eql (.p .int) (.t 14) (.c (.int .i64 (.ofNat 0))))),none,0⟩,
⟨(some 16),(.q (.mv (.t 15))),none,0⟩,
⟨(some 17),(.q (.faddr 0 (.t 1))),(some (16,true)),0⟩,
⟨(some 18),(.q (.ld false 1 (.t 17))),(some (16,true)),0⟩,
⟨(some 19),(.q (.pick (.t 16) (.t 18) (.c (.bool false)))),none,0⟩,
⟨(some 20),(.q (.mv (.t 19))),none,0⟩,
⟨(some 21),(.q (.faddr 1 (.t 1))),(some (20,false)),0⟩,
⟨(some 22),(.q (.ld false 1 (.t 21))),(some (20,false)),0⟩,
⟨(some 23),(.q (.faddr 2 (.t 1))),(some (20,false)),0⟩,
⟨(some 24),(.q (.ld false 1 (.t 23))),(some (20,false)),0⟩,
⟨(some 25),(.x (.call (.c (.fn 126 [] [])) [(.t 22),(.t 24)])),(some (20,false)),0⟩,
⟨(some 26),(.q (.un .not (.t 25))),(some (20,false)),0⟩,
⟨(some 27),(.q (.pick (.t 20) (.c (.bool true)) (.t 26))),none,0⟩])
(.cond (.t 27) (.seq (.reg [⟨(some 2),(.q (.mv (.c (.int .i64 (.ofNat 3))))),none,0⟩])
.ret) .skip))
(.seq (.reg [⟨(some 2),(.q (.mv (.c (.int .i64 (.ofNat 0))))),none,0⟩])
.ret))))⟩
theorem row83 : Row Tryz.prog (83, a83) := ⟨Tryz.f83, Tryz.func83, by kernel_rfl⟩
noncomputable def a92 : AFn :=
⟨26,[(.t 4)],(.seq (.reg [⟨(some 4),(.q (.mv (.c (.bool false)))),none,0⟩])
(.seq (.seq (.reg [⟨(some 6),(.q (.mv (.t 0))),none,0⟩,
⟨(some 7),(.q (.lenSl (.t 6))),none,0⟩,
⟨(some 8),(.q (.mv (.t 1))),none,0⟩,
⟨(some 9),(.q (.lenSl (.t 8))),none,0⟩,
⟨(some 10),(.q (.bin .neq (.p .int) (.t 7) (.t 9))),none,0⟩])
(.cond (.t 10) (.seq (.reg [⟨(some 4),(.q (.mv (.c (.bool false)))),none,0⟩])
.ret) .skip))
(.seq (.seq (.reg [⟨(some 5),(.q (.mv (.c (.int .i64 (.ofNat 0))))),none,0⟩])
(.block 0 (.loop (.seq (.seq (.reg [⟨(some 11),(.q (.mv (.t 5))),none,0⟩,
⟨(some 12),(.q (.mv (.t 0))),none,0⟩,
⟨(some 13),(.q (.lenSl (.t 12))),none,0⟩,
⟨(some 14),(.q (.bin .lss (.p .int) (.t 11) (.t 13))),none,0⟩])
(.cond (.t 14) .skip (.exit 0)))
(.seq (.block 1 (.seq (.drw [⟨(some 17),(.q (.mv (.t 0))),none,0⟩,
⟨(some 18),(.q (.mv (.t 5))),none,0⟩,
⟨(some 19),(.q (.iaddr (.slice 1) (.t 17) (.t 18))),none,3⟩,
⟨(some 20),(.q (.ld false 1 (.t 19))),none,7⟩,
⟨(some 21),(.q (.mv (.t 1))),none,0⟩,
⟨(some 22),(.q (.mv (.t 5))),none,0⟩,
⟨(some 23),(.q (.iaddr (.slice 1) (.t 21) (.t 22))),none,48⟩,
⟨(some 24),(.q (.ld false 1 (.t 23))),none,112⟩,
⟨(some 25),(.q (.bin .neq (.p .int) (.t 20) (.t 24))),none,255⟩])
(.cond (.t 25) (.seq (.reg [⟨(some 4),(.q (.mv (.c (.bool false)))),none,0⟩])
.ret) .skip)))
(.reg [⟨(some 15),(.q (.mv (.t 5))),none,0⟩,
⟨(some 16),(.q (.bin .add (.p .int) (.t 15) (.c (.int .i64 (.ofNat 1))))),none,0⟩,
⟨(some 5),(.q (.mv (.t 16))),none,0⟩]))))))
(.seq (.reg [⟨(some 4),(.q (.mv (.c (.bool true)))),none,0⟩])
.ret))))⟩
theorem row92 : Row Tryz.prog (92, a92) := ⟨Tryz.f92, Tryz.func92, by kernel_rfl⟩
noncomputable def a109 : AFn :=
⟨91,[(.t 6)],(.seq (.reg [⟨(some 3),(.a (.box 31 (.t 0))),none,0⟩,
⟨(some 6),(.q (.mv (.c (.str [])))),none,0⟩])
(.seq (.reg [⟨(some 14),(.q (.faddr 2 (.t 3))),none,0⟩,
⟨(some 15),(.q (.ld false 1 (.t 14))),none,0⟩,
⟨(some 16),(.q (.lenSl (.t 15))),none,0⟩,
⟨(some 17),(.a (.mkSlice 5 1 1 [(.int .u8 (.ofNat 0))] (.t 16) (.t 16))),none,0⟩,
⟨(some 7),(.q (.mv (.t 17))),none,0⟩])
(.seq (.reg [⟨(some 18),(.q (.faddr 1 (.t 3))),none,0⟩,
⟨(some 19),(.q (.ld false 1 (.t 18))),none,0⟩,
⟨(some 20),(.q (.lenSl (.t 19))),none,0⟩,
⟨(some 21),(.a (.mkSlice 4 1 1 [(.bool false)] (.t 20) (.t 20))),none,0⟩,
⟨(some 8),(.q (.mv (.t 21))),none,0⟩])
(.seq (.reg [⟨(some 22),(.q (.mv (.t 8))),none,0⟩,
⟨(some 23),(.q (.iaddr (.slice 1) (.t 22) (.c (.int .i64 (.ofNat 0))))),none,0⟩,
⟨none,(.x (.st 1 (.t 23) (.c (.bool true)))),none,0⟩])
(.seq (.seq (.reg [⟨(some 24),(.q (.faddr 1 (.t 3))),none,0⟩,
⟨(some 25),(.q (.ld false 1 (.t 24))),none,0⟩,
⟨(some 26),(.q (.lenSl (.t 25))),none,0⟩,
⟨(some 27),(.q (.mv (.c (.int .i64 (.ofNat 0))))),none,0⟩])
(.block 0 (.loop (.seq (.reg [⟨(some 28),(.q (.bin .lss (.p .int) (.t 27) (.t 26))),none,0⟩])
(.seq (.cond (.t 28) .skip (.exit 0))
(.seq (.block 1 (.seq (.reg [⟨(some 29),(.q (.mv (.t 27))),none,0⟩,
⟨(some 30),(.q (.iaddr (.slice 6) (.t 25) (.t 27))),none,0⟩,
⟨(some 31),(.q (.ld true 6 (.t 30))),none,0⟩,
⟨(some 10),(.a (.alloc 75 [(.int .i64 (.ofNat 0)),(.int .i64 (.ofNat 0)),(.int .i64 (.ofNat 0)),.nilsl,.nilsl,.nilsl])),none,0⟩,
⟨(some 9),(.q (.mv (.t 29))),none,0⟩,
⟨none,(.x (.st 6 (.t 10) (.t 31))),none,0⟩])
(.seq (.reg [⟨(some 32),(.q (.faddr 0 (.t 10))),none,0⟩,
⟨(some 33),(.q (.ld false 1 (.t 32))),none,0⟩,
⟨(some 34),(.q (.bin .eql (.p .int) (.t 33) (.c (.int .i64 (.ofNat 2))))),none,0⟩,
⟨(some 35),(.q (.mv (.t 34))),none,0⟩,
⟨(some 36),(.q (.faddr 1 (.t 10))),(some (35,true)),0⟩,
⟨(some 37),(.q (.ld false 1 (.t 36))),(some (35,true)),0⟩,
⟨(some 38),(.q (.mv (.t 1))),(some (35,true)),0⟩,
⟨(some 39),(.q (.bin .eql (.p .int) (.t 37) (.t 38))),(some (35,true)),0⟩,
⟨(some 40),(.q (.pick (.t 35) (.t 39) (.c (.bool false)))),none,0⟩,
⟨(some 11),(.q (.mv (.t 40))),none,0⟩])
(.seq (.seq (.reg [⟨(some 41),(.q (.mv (.t 11))),none,0⟩,
⟨(some 42),(.q (.mv (.t 41))),none,0⟩,
⟨(some 43),(.q (.mv (.t 8))),(some (42,true)),0⟩,
⟨(some 44),(.q (.mv (.t 9))),(some (42,true)),0⟩,
⟨(some 45),(.q (.iaddr (.slice 1) (.t 43) (.t 44))),(some (42,true)),0⟩,
⟨(some 46),(.q (.ld false 1 (.t 45))),(some (42,true)),0⟩,
⟨(some 47),(.q (.pick (.t 42) (.t 46) (.c (.bool false)))),none,0⟩])
(.cond (.t 47) (.drw [⟨(some 48),(.q (.mv (.t 7))),none,0⟩,
⟨(some 49),(.q (.faddr 2 (.t 10))),none,0⟩,
⟨(some 50),(.q (.ld false 1 (.t 49))),none,2⟩,
⟨(some 51),(.q (.mv (.t 2))),none,0⟩,
⟨(some 52),(.q (.faddr 2 (.t 10))),none,0⟩,
⟨(some 53),(.q (.ld false 1 (.t 52))),none,16⟩,
⟨(some 54),(.q (.iaddr (.slice 1) (.t 51) (.t 53))),none,56⟩,
⟨(some 55),(.q (.ld false 1 (.t 54))),none,120⟩,
⟨(some 56),(.q (.bin .add (.p .int) (.c (.int .i64 (.ofNat 1))) (.t 55))),none,248⟩,
⟨(some 57),(.q (.conv (.int .u8) (.t 56))),none,504⟩,
⟨(some 58),(.q (.iaddr (.slice 1) (.t 48) (.t 50))),none,1023⟩,
⟨none,(.x (.st 1 (.t 58) (.t 57))),none,2047⟩]) .skip))
(.seq (.reg [⟨(some 59),(.q (.faddr 3 (.t 10))),none,0⟩,
⟨(some 60),(.q (.ld false 1 (.t 59))),none,0⟩,
⟨(some 61),(.q (.lenSl (.t 60))),none,0⟩,
⟨(some 62),(.q (.mv (.c (.int .i64 (.ofNat 0))))),none,0⟩])
(.block 2 (.loop (.seq (.reg [⟨(some 63),(.q (.bin .lss (.p .int) (.t 62) (.t 61))),none,0⟩])
(.seq (.cond (.t 63) .skip (.exit 2))
(.seq (.block 3 (.seq (.reg [⟨(some 64),(.q (.mv (.t 62))),none,0⟩,
⟨(some 65),(.q (.iaddr (.slice 1) (.t 60) (.t 62))),none,0⟩,
⟨(some 66),(.q (.ld false 1 (.t 65))),none,0⟩,
⟨(some 12),(.q (.mv (.t 64))),none,0⟩,
⟨(some 13),(.q (.mv (.t 66))),none,0⟩])
(.reg [⟨(some 67),(.q (.mv (.t 8))),none,0⟩,
⟨(some 68),(.q (.mv (.t 13))),none,0⟩,
⟨(some 69),(.q (.mv (.t 8))),none,0⟩,
⟨(some 70),(.q (.mv (.t 9))),none,0⟩,
⟨(some 71),(.q (.iaddr (.slice 1) (.t 69) (.t 70))),none,0⟩,
⟨(some 72),(.q (.ld false 1 (.t 71))),none,0⟩,
⟨(some 73),(.q (.mv (.t 72))),none,0⟩,
⟨(some 74),(.q (.mv (.t 11))),(some (73,true)),0⟩,
⟨(some 75),(.q (.un .not (.t 74))),(some (73,true)),0⟩,
⟨(some 76),(.q (.mv (.t 75))),(some (73,true)),0⟩,
⟨(some 77),(.q (.mv (.t 12))),(some (76,false)),0⟩,
⟨(some 78),(.q (.mv (.t 2))),(some (76,false)),0⟩,
⟨(some 79),(.q (.faddr 2 (.t 10))),(some (76,false)),0⟩,
⟨(some 80),(.q (.ld false 1 (.t 79))),(some (76,false)),0⟩,
⟨(some 81),(.q (.iaddr (.slice 1) (.t 78) (.t 80))),(some (76,false)),0⟩,
⟨(some 82),(.q (.ld false 1 (.t 81))),(some (76,false)),0⟩,
⟨(some 83),(.q (.bin .eql (.p .int) (.t 77) (.t 82))),(some (76,false)),0⟩,
⟨(some 84),(.q (.pick (.t 76) (.c (.bool true)) (.t 83))),(some (73,true)),0⟩,
⟨(some 85),(.q (.pick (.t 73) (.t 84) (.c (.bool false)))),none,0⟩,
⟨(some 86),(.q (.iaddr (.slice 1) (.t 67) (.t 68))),none,0⟩,
⟨none,(.x (.st 1 (.t 86) (.t 85))),none,0⟩])))
(.reg [⟨(some 87),(.q (.bin .add (.p .int) (.t 62) (.c (.int .i64 (.ofNat 1))))),none,0⟩,
⟨(some 62),(.q (.mv (.t 87))),none,0⟩])))))))))))
(.reg [⟨(some 88),(.q (.bin .add (.p .int) (.t 27) (.c (.int .i64 (.ofNat 1))))),none,0⟩,
⟨(some 27),(.q (.mv (.t 88))),none,0⟩])))))))
(.seq (.reg [⟨(some 89),(.q (.mv (.t 7))),none,0⟩,
⟨(some 90),(.q (.conv .bytesToStr (.t 89))),none,0⟩,
⟨(some 6),(.q (.mv (.t 90))),none,0⟩])
.ret))))))⟩
theorem row109 : Row Tryz.prog (109, a109) := ⟨Tryz.f109, Tryz.func109, by kernel_rfl⟩
noncomputable def a110 : AFn :=
⟨97,[(.t 2),(.t 3)],(.seq (.reg [⟨(some 1),(.a (.box 31 (.t 0))),none,0⟩,
⟨(some 2),(.q (.mv (.c .nilp))),none,0⟩,
⟨(some 3),(.q (.mv (.c (.int .i64 (.ofNat 0))))),none,0⟩])
(.seq (.seq (.reg [⟨(some 10),(.q (.faddr 0 (.t 1))),none,0⟩,
⟨(some 11),(.q (.ld false 1 (.t 10))),none,0⟩,
⟨(some 12),(.q (.bin .lss (.p .int) (.t 11) (.c (.int .i64 (.ofNat 1))))),none,0⟩,
⟨(some 13),(.q (.mv (.t 12))),none,0⟩,
⟨(some 14),(.q (.faddr 0 (.t 1))),(some (13,false)),0⟩,
⟨(some 15),(.q (.ld false 1 (.t 14))),(some (13,false)),0⟩,
⟨(some 16),(.q (.bin .gtr (.p .int) (.t 15) (.c (.int .i64 (.ofNat 4))))),(some (13,false)),0⟩,
⟨(some 17),(.q (.pick (.t 13) (.c (.bool true)) (.t 16))),none,0⟩,
⟨(some 18),(.q (.mv (.t 17))),none,0⟩,
⟨(some 19),(.q (.faddr 1 (.t 1))),(some (18,false)),0⟩,
⟨(some 20),(.q (.ld false 1 (.t 19))),(some (18,false)),0⟩,
⟨(some 21),(.q (.lenSl (.t 20))),(some (18,false)),0⟩,
⟨(some 22),(.q (.bin .lss (.p .int) (.t 21) (.c (.int .i64 (.ofNat 1))))),(some (18,false)),0⟩,
⟨(some 23),(.q (.pick (.t 18) (.c (.bool true)) (.t 22))),none,0⟩,
⟨(some 24),(.q (.mv (.t 23))),none,0⟩,
⟨(some 25),(.q (.faddr 1 (.t 1))),(some (24,false)),0⟩,
⟨(some 26),(.q (.ld false 1 (.t 25))),(some (24,false)),0⟩,
⟨(some 27),(.q (.lenSl (.t 26))),(some (24,false)),0⟩,
⟨(some 28),(.q (.bin .gtr (.p .int) (.t 27) (.c (.int .i64 (.ofNat 2000))))),(some (24,false)),0⟩,
⟨(some 29),(.q (.pick (.t 24) (.c (.bool true)) (.t 28))),none,0⟩,
⟨(some 30),(.q (.mv (.t 29))),none,0⟩,
⟨(some 31),(.q (.faddr 2 (.t 1))),(some (30,false)),0⟩,
⟨(some 32),(.q (.ld false 1 (.t 31))),(some (30,false)),0⟩,
⟨(some 33),(.q (.lenSl (.t 32))),(some (30,false)),0⟩,
⟨(some 34),(.q (.bin .gtr (.p .int) (.t 33) (.c (.int .i64 (.ofNat 200))))),(some (30,false)),0⟩,
⟨(some 35),(.q (.pick (.t 30) (.c (.bool true)) (.t 34))),none,0⟩])
(.cond (.t 35) (.seq (.reg [⟨(some 2),(.q (.mv (.c .nilp))),none,0⟩,
⟨(some 3),(.q (.mv (.c (.int .i64 (.ofNat 2))))),none,0⟩])
.ret) .skip))
(.seq (.reg [⟨(some 36),(.q (.ld true 3 (.t 1))),none,0⟩,
⟨(some 37),(.q (.build [(.int .i64 (.ofNat 0)),.nilsl,.nilsl,.nilsl,.nilsl,.nilsl] [(0,3,(.t 36))])),none,0⟩,
⟨(some 38),(.a (.box 207 (.t 37))),none,0⟩,
⟨(some 4),(.q (.mv (.t 38))),none,0⟩])
(.seq (.seq (.reg [⟨(some 39),(.q (.faddr 1 (.t 1))),none,0⟩,
⟨(some 40),(.q (.ld false 1 (.t 39))),none,0⟩,
⟨(some 41),(.q (.lenSl (.t 40))),none,0⟩,
⟨(some 42),(.q (.mv (.c (.int .i64 (.ofNat 0))))),none,0⟩])
(.block 0 (.loop (.seq (.reg [⟨(some 43),(.q (.bin .lss (.p .int) (.t 42) (.t 41))),none,0⟩])
(.seq (.cond (.t 43) .skip (.exit 0))
(.seq (.block 1 (.seq (.reg [⟨(some 44),(.q (.iaddr (.slice 6) (.t 40) (.t 42))),none,0⟩,
⟨(some 45),(.q (.ld true 6 (.t 44))),none,0⟩,
⟨(some 6),(.a (.alloc 75 [(.int .i64 (.ofNat 0)),(.int .i64 (.ofNat 0)),(.int .i64 (.ofNat 0)),.nilsl,.nilsl,.nilsl])),none,0⟩,
⟨none,(.x (.st 6 (.t 6) (.t 45))),none,0⟩])
(.seq (.reg [⟨(some 46),(.q (.mv (.t 4))),none,0⟩,
⟨(some 47),(.q (.ld true 6 (.t 6))),none,0⟩,
⟨(some 48),(.x (.call (.c (.fn 150 [] [])) [(.t 46),(.t 47)])),none,0⟩,
⟨(some 7),(.q (.mv (.t 48))),none,0⟩])
(.seq (.reg [⟨(some 49),(.q (.mv (.t 7))),none,0⟩,
⟨(some 50),(.q (.bin .neq (.p .int) (.t 49) (.c (.int .i64 (.ofNat 0))))),none,0⟩])
(.cond (.t 50) (.seq (.reg [⟨(some 51),(.q (.mv (.t 7))),none,0⟩,
⟨(some 2),(.q (.mv (.c .nilp))),none,0⟩,
⟨(some 3),(.q (.mv (.t 51))),none,0⟩])
.ret) .skip)))))
(.reg [⟨(some 52),(.q (.bin .add (.p .int) (.t 42) (.c (.int .i64 (.ofNat 1))))),none,0⟩,
⟨(some 42),(.q (.mv (.t 52))),none,0⟩])))))))
(.seq (.drw [⟨(some 53),(.q (.mv (.t 4))),none,0⟩,
⟨(some 54),(.q (.mv (.t 4))),none,0⟩,
⟨(some 55),(.q (.mv (.t 4))),none,0⟩,
⟨(some 56),(.q (.faddr 1 (.t 1))),none,0⟩,
⟨(some 57),(.q (.ld false 1 (.t 56))),none,8⟩,
⟨(some 58),(.q (.lenSl (.t 57))),none,24⟩,
⟨(some 59),(.a (.mkSlice 3 1 8 [(.int .i64 (.ofNat 0))] (.t 58) (.t 58))),none,56⟩,
⟨(some 60),(.q (.faddr 1 (.t 1))),none,0⟩,
⟨(some 61),(.q (.ld false 1 (.t 60))),none,128⟩,
⟨(some 62),(.q (.lenSl (.t 61))),none,384⟩,
⟨(some 63),(.a (.mkSlice 3 1 8 [(.int .i64 (.ofNat 0))] (.t 62) (.t 62))),none,896⟩,
⟨(some 64),(.q (.faddr 1 (.t 1))),none,0⟩,
⟨(some 65),(.q (.ld false 1 (.t 64))),none,2048⟩,
⟨(some 66),(.q (.lenSl (.t 65))),none,6144⟩,
⟨(some 67),(.a (.mkSlice 3 1 8 [(.int .i64 (.ofNat 0))] (.t 66) (.t 66))),none,14336⟩,
⟨(some 68),(.q (.nilchk (.t 53))),none,121⟩,
⟨(some 69),(.q (.faddr 3 (.t 68))),none,32889⟩,
⟨none,(.x (.st 1 (.t 69) (.t 59))),none,98425⟩,
⟨(some 70),(.q (.nilchk (.t 54))),none,231419⟩,
⟨(some 71),(.q (.faddr 4 (.t 70))),none,493563⟩,
⟨none,(.x (.st 1 (.t 71) (.t 63))),none,1017851⟩,
⟨(some 72),(.q (.nilchk (.t 55))),none,2097151⟩,
⟨(some 73),(.q (.faddr 5 (.t 72))),none,4194303⟩,
⟨none,(.x (.st 1 (.t 73) (.t 67))),none,8388607⟩])
(.seq (.seq (.reg [⟨(some 75),(.q (.mv (.t 4))),none,0⟩,
⟨(some 76),(.q (.faddr 1 (.t 1))),none,0⟩,
⟨(some 77),(.q (.ld false 1 (.t 76))),none,0⟩,
⟨(some 78),(.x (.call (.c (.fn 151 [] [])) [(.t 75),(.c (.int .i64 (.negSucc 0))),(.c (.int .i64 (.ofNat 0))),(.t 77)])),none,0⟩,
⟨(some 74),(.q (.mv (.t 78))),none,0⟩,
⟨(some 79),(.q (.extract (.t 74) 0)),none,0⟩,
⟨(some 80),(.q (.extract (.t 74) 1)),none,0⟩,
⟨(some 8),(.q (.mv (.t 79))),none,0⟩,
⟨(some 9),(.q (.mv (.t 80))),none,0⟩])
(.seq (.reg [⟨(some 81),(.q (.mv (.t 9))),none,0⟩,
⟨(some 82),(.q (.un .not (.t 81))),none,0⟩,
⟨(some 83),(.q (.mv (.t 82))),none,0⟩,
⟨(some 84),(.q (.mv (.t 8))),(some (83,false)),0⟩,
⟨(some 85),(.q (.lenSl (.t 84))),(some (83,false)),0⟩,
⟨(some 86),(.q (.bin .gtr (.p .int) (.t 85) (.c (.int .i64 (.ofNat 0))))),(some (83,false)),0⟩,
⟨(some 87),(.q (.pick (.t 83) (.c (.bool true)) (.t 86))),none,0⟩])
(.cond (.t 87) (.seq (.reg [⟨(some 2),(.q (.mv (.c .nilp))),none,0⟩,
⟨(some 3),(.q (.mv (.c (.int .i64 (.ofNat 9))))),none,0⟩])
.ret) .skip)))
(.seq (.seq (.reg [⟨(some 88),(.q (.mv (.t 4))),none,0⟩,
⟨(some 89),(.q (.nilchk (.t 88))),none,0⟩,
⟨(some 90),(.q (.faddr 4 (.t 89))),none,0⟩,
⟨(some 91),(.q (.ld false 1 (.t 90))),none,0⟩,
⟨(some 92),(.x (.call (.c (.fn 152 [] [])) [(.t 91)])),none,0⟩,
⟨(some 93),(.q (.bin .gtr (.p .int) (.t 92) (.c (.int .i64 (.ofNat 40))))),none,0⟩])
(.cond (.t 93) (.seq (.reg [⟨(some 2),(.q (.mv (.c .nilp))),none,0⟩,
⟨(some 3),(.q (.mv (.c (.int .i64 (.ofNat 5))))),none,0⟩])
.ret) .skip))
(.seq (.reg [⟨(some 94),(.q (.mv (.t 4))),none,0⟩,
⟨(some 95),(.q (.mv (.t 4))),none,0⟩,
⟨(some 96),(.x (.call (.c (.fn 153 [] [])) [(.t 95)])),none,0⟩,
⟨(some 2),(.q (.mv (.t 94))),none,0⟩,
⟨(some 3),(.q (.mv (.t 96))),none,0⟩])
.ret))))))))⟩
theorem row110 : Row Tryz.prog (110, a110) := ⟨Tryz.f110, Tryz.func110, by kernel_rfl⟩
noncomputable def a111 : AFn :=
⟨21,[(.t 6)],(.seq (.reg [⟨(some 6),(.q (.mv (.c (.int .i64 (.ofNat 0))))),none,0⟩])
(.seq (.seq (.reg [⟨(some 9),(.q (.mv (.t 0))),none,0⟩,
⟨(some 10),(.q (.lenSl (.t 9))),none,0⟩,
⟨(some 11),(.q (.mv (.c (.int .i64 (.ofNat 0))))),none,0⟩])
(.block 0 (.loop (.seq (.reg [⟨(some 12),(.q (.bin .lss (.p .int) (.t 11) (.t 10))),none,0⟩])
(.seq (.cond (.t 12) .skip (.exit 0))
(.seq (.block 1 (.seq (.reg [⟨(some 13),(.q (.iaddr (.slice 1) (.t 9) (.t 11))),none,0⟩,
⟨(some 14),(.q (.ld false 1 (.t 13))),none,0⟩,
⟨(some 8),(.q (.mv (.t 14))),none,0⟩])
(.reg [⟨(some 15),(.q (.mv (.t 2))),none,0⟩,
⟨(some 16),(.q (.mv (.t 1))),none,0⟩,
⟨(some 17),(.q (.mv (.t 8))),none,0⟩,
⟨(some 18),(.x (.call (.t 15) [(.t 16),(.t 17)])),none,0⟩,
⟨(some 1),(.q (.mv (.t 18))),none,0⟩])))
(.reg [⟨(some 19),(.q (.bin .add (.p .int) (.t 11) (.c (.int .i64 (.ofNat 1))))),none,0⟩,
⟨(some 11),(.q (.mv (.t 19))),none,0⟩])))))))
(.seq (.reg [⟨(some 20),(.q (.mv (.t 1))),none,0⟩,
⟨(some 6),(.q (.mv (.t 20))),none,0⟩])
.ret)))⟩
theorem row111 : Row Tryz.prog (111, a111) := ⟨Tryz.f111, Tryz.func111, by kernel_rfl⟩
noncomputable def a112 : AFn :=
⟨12,[(.t 4)],(.seq (.reg [⟨(some 4),(.q (.mv (.c (.int .i64 (.ofNat 0))))),none,0⟩])
(.seq (.seq (.reg [⟨(some 5),(.q (.mv (.t 1))),none,0⟩,
⟨(some 6),(.q (.mv (.t 0))),none,0⟩,
⟨(some 7),(.q (.bin .quo (.p .int) (.c (.int .i64 (.ofNat 1000))) (.t 6))),none,0⟩,
⟨(some 8),(.q (.bin .gtr (.p .int) (.t 5) (.t 7))),none,0⟩])
(.cond (.t 8) (.seq (.reg [⟨(some 4),(.q (.mv (.c (.int .i64 (.ofNat 1001))))),none,0⟩])
.ret) .skip))
(.seq (.reg [⟨(some 9),(.q (.mv (.t 0))),none,0⟩,
⟨(some 10),(.q (.mv (.t 1))),none,0⟩,
⟨(some 11),(.q (.bin .mul (.p .int) (.t 9) (.t 10))),none,0⟩,
⟨(some 4),(.q (.mv (.t 11))),none,0⟩])
.ret)))⟩
theorem row112 : Row Tryz.prog (112, a112) := ⟨Tryz.f112, Tryz.func112, by kernel_rfl⟩
noncomputable def a113 : AFn :=
⟨11,[],(.seq (.reg [⟨(some 3),(.q (.mv (.t 0))),none,0⟩,
⟨(some 4),(.q (.lenSl (.t 3))),none,0⟩,
⟨(some 2),(.q (.mv (.t 4))),none,0⟩])
(.reg [⟨(some 5),(.q (.mv (.t 0))),none,0⟩,
⟨(some 6),(.q (.mv (.t 2))),none,0⟩,
⟨(some 7),(.q (.mv (.t 2))),none,0⟩,
⟨(some 8),(.q (.conv (.int .u64) (.t 7))),none,0⟩,
⟨(some 9),(.x (.call (.c (.fn 155 [] [])) [(.t 8)])),none,0⟩,
⟨(some 10),(.x (.call (.c (.fn 154 [] [])) [(.t 5),(.c (.int .i64 (.ofNat 0))),(.t 6),(.t 9)])),none,0⟩]))⟩
theorem row113 : Row Tryz.prog (113, a113) := ⟨Tryz.f113, Tryz.func113, by kernel_rfl⟩
noncomputable def a114 : AFn :=
⟨61,[(.t 2)],(.seq (.reg [⟨(some 2),(.q (.mv (.c .nilsl))),none,0⟩])
(.seq (.seq (.reg [⟨(some 6),(.q (.mv (.t 0))),none,0⟩,
⟨(some 7),(.q (.lenSl (.t 6))),none,0⟩,
⟨(some 8),(.q (.bin .lss (.p .int) (.t 7) (.c (.int .i64 (.ofNat 2))))),none,0⟩])
(.cond (.t 8) (.seq (.reg [⟨(some 9),(.q (.mv (.t 0))),none,0⟩,
⟨(some 2),(.q (.mv (.t 9))),none,0⟩])
.ret) .skip))
(.seq (.seq (.reg [⟨(some 3),(.q (.mv (.c (.int .i64 (.ofNat 1))))),none,0⟩])
(.block 0 (.loop (.seq (.seq (.reg [⟨(some 10),(.q (.mv (.t 3))),none,0⟩,
⟨(some 11),(.q (.mv (.t 0))),none,0⟩,
⟨(some 12),(.q (.lenSl (.t 11))),none,0⟩,
⟨(some 13),(.q (.bin .lss (.p .int) (.t 10) (.t 12))),none,0⟩])
(.cond (.t 13) .skip (.exit 0)))
(.seq (.block 1 (.seq (.drw [⟨(some 16),(.q (.mv (.t 0))),none,0⟩,
⟨(some 17),(.q (.mv (.t 3))),none,0⟩,
⟨(some 18),(.q (.iaddr (.slice 1) (.t 16) (.t 17))),none,3⟩,
⟨(some 19),(.q (.ld false 1 (.t 18))),none,7⟩,
⟨(some 20),(.q (.mv (.t 0))),none,0⟩,
⟨(some 21),(.q (.mv (.t 3))),none,0⟩,
⟨(some 22),(.q (.bin .sub (.p .int) (.t 21) (.c (.int .i64 (.ofNat 1))))),none,32⟩,
⟨(some 23),(.q (.iaddr (.slice 1) (.t 20) (.t 22))),none,112⟩,
⟨(some 24),(.q (.ld false 1 (.t 23))),none,240⟩,
⟨(some 25),(.q (.bin .eql (.p .int) (.t 19) (.t 24))),none,511⟩])
(.cond (.t 25) (.seq (.reg [⟨(some 26),(.q (.mv (.t 0))),none,0⟩,
⟨(some 27),(.q (.mv (.t 3))),none,0⟩,
⟨(some 28),(.q (.slc (.slice 1) (.t 26) (some (.t 27)) none none)),none,0⟩,
⟨(some 4),(.q (.mv (.t 28))),none,0⟩])
(.seq (.seq (.reg [⟨(some 5),(.q (.mv (.c (.int .i64 (.ofNat 1))))),none,0⟩])
(.block 2 (.loop (.seq (.seq (.reg [⟨(some 29),(.q (.mv (.t 5))),none,0⟩,
⟨(some 30),(.q (.mv (.t 4))),none,0⟩,
⟨(some 31),(.q (.lenSl (.t 30))),none,0⟩,
⟨(some 32),(.q (.bin .lss (.p .int) (.t 29) (.t 31))),none,0⟩])
(.cond (.t 32) .skip (.exit 2)))
(.seq (.block 3 (.seq (.drw [⟨(some 35),(.q (.mv (.t 4))),none,0⟩,
⟨(some 36),(.q (.mv (.t 5))),none,0⟩,
⟨(some 37),(.q (.iaddr (.slice 1) (.t 35) (.t 36))),none,3⟩,
⟨(some 38),(.q (.ld false 1 (.t 37))),none,7⟩,
⟨(some 39),(.q (.mv (.t 4))),none,0⟩,
⟨(some 40),(.q (.mv (.t 5))),none,0⟩,
⟨(some 41),(.q (.bin .sub (.p .int) (.t 40) (.c (.int .i64 (.ofNat 1))))),none,32⟩,
⟨(some 42),(.q (.iaddr (.slice 1) (.t 39) (.t 41))),none,112⟩,
⟨(some 43),(.q (.ld false 1 (.t 42))),none,240⟩,
⟨(some 44),(.q (.bin .neq (.p .int) (.t 38) (.t 43))),none,511⟩])
(.cond (.t 44) (.seq (.reg [⟨(some 45),(.q (.mv (.t 0))),none,0⟩,
⟨(some 46),(.q (.mv (.t 3))),none,0⟩,
⟨(some 47),(.q (.mv (.t 4))),none,0⟩,
⟨(some 48),(.q (.mv (.t 5))),none,0⟩,
⟨(some 49),(.q (.iaddr (.slice 1) (.t 47) (.t 48))),none,0⟩,
⟨(some 50),(.q (.ld false 1 (.t 49))),none,0⟩,
⟨(some 51),(.q (.iaddr (.slice 1) (.t 45) (.t 46))),none,0⟩,
⟨none,(.x (.st 1 (.t 51) (.t 50))),none,0⟩])
(.reg [⟨(some 52),(.q (.mv (.t 3))),none,0⟩,
⟨(some 53),(.q (.bin .add (.p .int) (.t 52) (.c (.int .i64 (.ofNat 1))))),none,0⟩,
⟨(some 3),(.q (.mv (.t 53))),none,0⟩])) .skip)))
(.reg [⟨(some 33),(.q (.mv (.t 5))),none,0⟩,
⟨(some 34),(.q (.bin .add (.p .int) (.t 33) (.c (.int .i64 (.ofNat 1))))),none,0⟩,
⟨(some 5),(.q (.mv (.t 34))),none,0⟩]))))))
(.seq (.reg [⟨(some 54),(.q (.mv (.t 0))),none,0⟩,
⟨(some 55),(.q (.mv (.t 3))),none,0⟩,
⟨(some 56),(.q (.slc (.slice 1) (.t 54) (some (.t 55)) none none)),none,0⟩,
⟨none,(.x (.clr [(.int .i64 (.ofNat 0))] (.t 56))),none,0⟩])
(.seq (.reg [⟨(some 57),(.q (.mv (.t 0))),none,0⟩,
⟨(some 58),(.q (.mv (.t 3))),none,0⟩,
⟨(some 59),(.q (.slc (.slice 1) (.t 57) none (some (.t 58)) none)),none,0⟩,
⟨(some 2),(.q (.mv (.t 59))),none,0⟩])
.ret)))) .skip)))
(.reg [⟨(some 14),(.q (.mv (.t 3))),none,0⟩,
⟨(some 15),(.q (.bin .add (.p .int) (.t 14) (.c (.int .i64 (.ofNat 1))))),none,0⟩,
⟨(some 3),(.q (.mv (.t 15))),none,0⟩]))))))
(.seq (.reg [⟨(some 60),(.q (.mv (.t 0))),none,0⟩,
⟨(some 2),(.q (.mv (.t 60))),none,0⟩])
.ret))))⟩
theorem row114 : Row Tryz.prog (114, a114) := ⟨Tryz.f114, Tryz.func114, by kernel_rfl⟩
noncomputable def a115 : AFn :=
⟨167,[(.t 4)],(.seq (.reg [⟨(some 4),(.q (.mv (.c .nilsl))),none,0⟩])
(.seq (.reg [⟨(some 20),(.q (.ld false 1 (.t 1))),none,0⟩,
⟨(some 21),(.q (.nilchk (.t 20))),none,0⟩,
⟨(some 22),(.q (.faddr 0 (.t 21))),none,0⟩,
⟨(some 23),(.q (.faddr 1 (.t 22))),none,0⟩,
⟨(some 24),(.q (.ld false 1 (.t 23))),none,0⟩,
⟨(some 25),(.q (.mv (.t 0))),none,0⟩,
⟨(some 26),(.q (.iaddr (.slice 6) (.t 24) (.t 25))),none,0⟩,
⟨(some 27),(.q (.ld true 6 (.t 26))),none,0⟩,
⟨(some 5),(.a (.alloc 75 [(.int .i64 (.ofNat 0)),(.int .i64 (.ofNat 0)),(.int .i64 (.ofNat 0)),.nilsl,.nilsl,.nilsl])),none,0⟩,
⟨none,(.x (.st 6 (.t 5) (.t 27))),none,0⟩])
(.seq (.seq (.reg [⟨(some 28),(.q (.faddr 0 (.t 5))),none,0⟩,
⟨(some 29),(.q (.ld false 1 (.t 28))),none,0⟩,
⟨(some 30),(.q (.bin .eql (.p .int) (.t 29) (.c (.int .i64 (.ofNat 2))))),none,0⟩])
(.cond (.t 30) (.seq (.drw [⟨(some 31),(.q (.ld false 1 (.t 2))),none,0⟩,
⟨(some 32),(.q (.faddr 3 (.t 5))),none,0⟩,
⟨(some 33),(.q (.ld false 1 (.t 32))),none,2⟩,
⟨(some 34),(.q (.ld false 1 (.t 1))),none,0⟩,
⟨(some 35),(.q (.nilchk (.t 34))),none,8⟩,
⟨(some 36),(.q (.faddr 3 (.t 35))),none,24⟩,
⟨(some 37),(.q (.ld false 1 (.t 36))),none,56⟩,
⟨(some 38),(.q (.faddr 2 (.t 5))),none,0⟩,
⟨(some 39),(.q (.ld false 1 (.t 38))),none,128⟩,
⟨(some 40),(.q (.iaddr (.slice 1) (.t 37) (.t 39))),none,504⟩,
⟨(some 41),(.q (.ld false 1 (.t 40))),none,1016⟩,
⟨(some 42),(.q (.iaddr (.slice 1) (.t 33) (.t 41))),none,2046⟩,
⟨(some 43),(.q (.ld false 1 (.t 42))),none,4094⟩,
⟨(some 44),(.x (.call (.t 31) [(.t 43)])),none,8191⟩,
⟨(some 4),(.q (.mv (.t 44))),none,16383⟩])
.ret) .skip))
(.seq (.reg [⟨(some 45),(.q (.mv (.t 0))),none,0⟩,
⟨(some 46),(.q (.build [(.int .i64 (.ofNat 0)),(.int .i64 (.ofNat 0)),(.int .i64 (.ofNat 0)),(.int .i64 (.ofNat 0)),(.int .i64 (.ofNat 0))] [(0,1,(.t 45))])),none,0⟩,
⟨(some 6),(.a (.alloc 172 [(.int .i64 (.ofNat 0)),(.int .i64 (.ofNat 0)),(.int .i64 (.ofNat 0)),(.int .i64 (.ofNat 0)),(.int .i64 (.ofNat 0))])),none,0⟩,
⟨none,(.x (.st 5 (.t 6) (.t 46))),none,0⟩])
(.seq (.seq (.reg [⟨(some 47),(.q (.ld false 1 (.t 1))),none,0⟩,
⟨(some 48),(.q (.nilchk (.t 47))),none,0⟩,
⟨(some 49),(.q (.faddr 5 (.t 48))),none,0⟩,
⟨(some 50),(.q (.ld false 1 (.t 49))),none,0⟩,
⟨(some 51),(.q (.mv (.t 0))),none,0⟩,
⟨(some 52),(.q (.iaddr (.slice 1) (.t 50) (.t 51))),none,0⟩,
⟨(some 53),(.q (.ld false 1 (.t 52))),none,0⟩,
⟨(some 54),(.q (.lenSl (.t 53))),none,0⟩,
⟨(some 55),(.q (.mv (.c (.int .i64 (.ofNat 0))))),none,0⟩])
(.block 0 (.loop (.seq (.reg [⟨(some 56),(.q (.bin .lss (.p .int) (.t 55) (.t 54))),none,0⟩])
(.seq (.cond (.t 56) .skip (.exit 0))
(.seq (.block 1 (.seq (.reg [⟨(some 57),(.q (.iaddr (.slice 1) (.t 53) (.t 55))),none,0⟩,
⟨(some 58),(.q (.ld false 1 (.t 57))),none,0⟩,
⟨(some 8),(.q (.mv (.t 58))),none,0⟩])
(.drw [⟨(some 59),(.q (.ld false 1 (.t 1))),none,0⟩,
⟨(some 60),(.q (.nilchk (.t 59))),none,1⟩,
⟨(some 61),(.q (.faddr 0 (.t 60))),none,3⟩,
⟨(some 62),(.q (.faddr 2 (.t 61))),none,7⟩,
⟨(some 63),(.q (.ld false 1 (.t 62))),none,15⟩,
⟨(some 64),(.q (.mv (.t 8))),none,0⟩,
⟨(some 65),(.q (.iaddr (.slice 2) (.t 63) (.t 64))),none,63⟩,
⟨(some 66),(.q (.faddr 0 (.t 65))),none,127⟩,
⟨(some 67),(.q (.ld false 1 (.t 66))),none,255⟩,
⟨(some 68),(.q (.bin .add (.p .int) (.c (.int .i64 (.ofNat 1))) (.t 67))),none,511⟩,
⟨(some 69),(.q (.iaddr (.arr 5 1) (.t 6) (.t 68))),none,1023⟩,
⟨(some 70),(.q (.ld false 1 (.t 69))),none,2047⟩,
⟨(some 71),(.q (.ld false 1 (.t 1))),none,0⟩,
⟨(some 72),(.q (.nilchk (.t 71))),none,4096⟩,
⟨(some 73),(.q (.faddr 3 (.t 72))),none,12288⟩,
⟨(some 74),(.q (.ld false 1 (.t 73))),none,28672⟩,
⟨(some 75),(.q (.mv (.t 8))),none,0⟩,
⟨(some 76),(.q (.iaddr (.slice 1) (.t 74) (.t 75))),none,126976⟩,
⟨(some 77),(.q (.ld false 1 (.t 76))),none,258048⟩,
⟨(some 78),(.q (.ld false 1 (.t 1))),none,0⟩,
⟨(some 79),(.q (.nilchk (.t 78))),none,524288⟩,
⟨(some 80),(.q (.faddr 4 (.t 79))),none,1572864⟩,
⟨(some 81),(.q (.ld false 1 (.t 80))),none,3670016⟩,
⟨(some 82),(.q (.mv (.t 8))),none,0⟩,
⟨(some 83),(.q (.iaddr (.slice 1) (.t 81) (.t 82))),none,16252928⟩,
⟨(some 84),(.q (.ld false 1 (.t 83))),none,33030144⟩,
⟨(some 85),(.q (.bin .mul (.p .int) (.t 77) (.t 84))),none,67104768⟩,
⟨(some 86),(.q (.bin .add (.p .int) (.t 70) (.t 85))),none,134217727⟩,
⟨(some 87),(.q (.iaddr (.arr 5 1) (.t 6) (.t 68))),none,268435455⟩,
⟨none,(.x (.st 1 (.t 87) (.t 86))),none,536870911⟩])))
(.reg [⟨(some 88),(.q (.bin .add (.p .int) (.t 55) (.c (.int .i64 (.ofNat 1))))),none,0⟩,
⟨(some 55),(.q (.mv (.t 88))),none,0⟩])))))))
(.seq (.seq (.drw [⟨(some 90),(.q (.ld false 1 (.t 1))),none,0⟩,
⟨(some 91),(.q (.nilchk (.t 90))),none,1⟩,
⟨(some 92),(.q (.faddr 6 (.t 91))),none,3⟩,
⟨(some 93),(.q (.ld false 1 (.t 92))),none,7⟩,
⟨(some 94),(.q (.ld true 5 (.t 6))),none,0⟩,
⟨(some 95),(.q (.lookup (.struct [(0,.int),(1,.int),(2,.int),(3,.int),(4,.int)]) .nilsl true (.t 93) (.t 94))),none,31⟩,
⟨(some 89),(.q (.mv (.t 95))),none,63⟩,
⟨(some 96),(.q (.extract (.t 89) 0)),none,127⟩,
⟨(some 97),(.q (.extract (.t 89) 1)),none,127⟩,
⟨(some 9),(.q (.mv (.t 96))),none,255⟩,
⟨(some 10),(.q (.mv (.t 97))),none,1023⟩])
(.seq (.reg [⟨(some 98),(.q (.mv (.t 10))),none,0⟩])
(.cond (.t 98) (.seq (.reg [⟨(some 99),(.q (.mv (.t 9))),none,0⟩,
⟨(some 4),(.q (.mv (.t 99))),none,0⟩])
.ret) .skip)))
(.seq (.reg [⟨(some 100),(.q (.ld false 1 (.t 1))),none,0⟩,
⟨(some 101),(.q (.nilchk (.t 100))),none,0⟩,
⟨(some 102),(.q (.faddr 0 (.t 101))),none,0⟩,
⟨(some 103),(.q (.faddr 0 (.t 102))),none,0⟩,
⟨(some 104),(.q (.ld false 1 (.t 103))),none,0⟩,
⟨(some 105),(.a (.mkSlice 128 3 56 [(.bool false),.nilsl,.nilsl] (.t 104) (.t 104))),none,0⟩,
⟨(some 11),(.q (.mv (.t 105))),none,0⟩])
(.seq (.seq (.reg [⟨(some 106),(.q (.faddr 5 (.t 5))),none,0⟩,
⟨(some 107),(.q (.ld false 1 (.t 106))),none,0⟩,
⟨(some 108),(.q (.lenSl (.t 107))),none,0⟩,
⟨(some 109),(.q (.mv (.c (.int .i64 (.ofNat 0))))),none,0⟩])
(.block 2 (.loop (.seq (.reg [⟨(some 110),(.q (.bin .lss (.p .int) (.t 109) (.t 108))),none,0⟩])
(.seq (.cond (.t 110) .skip (.exit 2))
(.seq (.block 3 (.seq (.reg [⟨(some 111),(.q (.mv (.t 109))),none,0⟩,
⟨(some 112),(.q (.iaddr (.slice 1) (.t 107) (.t 109))),none,0⟩,
⟨(some 113),(.q (.ld false 1 (.t 112))),none,0⟩,
⟨(some 12),(.q (.mv (.t 111))),none,0⟩,
⟨(some 13),(.q (.mv (.t 113))),none,0⟩])
(.reg [⟨(some 114),(.q (.mv (.t 11))),none,0⟩,
⟨(some 115),(.q (.mv (.t 12))),none,0⟩,
⟨(some 116),(.q (.mv (.t 13))),none,0⟩,
⟨(some 117),(.x (.call (.c (.fn 116 [] [])) [(.t 116)])),none,0⟩,
⟨(some 118),(.q (.iaddr (.slice 3) (.t 114) (.t 115))),none,0⟩,
⟨none,(.x (.st 3 (.t 118) (.t 117))),none,0⟩])))
(.reg [⟨(some 119),(.q (.bin .add (.p .int) (.t 109) (.c (.int .i64 (.ofNat 1))))),none,0⟩,
⟨(some 109),(.q (.mv (.t 119))),none,0⟩])))))))
(.seq (.reg [⟨(some 120),(.q (.faddr 4 (.t 5))),none,0⟩,
⟨(some 121),(.q (.ld false 1 (.t 120))),none,0⟩,
⟨(some 122),(.x (.call (.c (.fn 111 [] [])) [(.t 121),(.c (.int .i64 (.ofNat 0))),(.c (.fn 117 [] []))])),none,0⟩,
⟨(some 14),(.q (.mv (.t 122))),none,0⟩])
(.seq (.seq (.reg [⟨(some 123),(.q (.faddr 3 (.t 5))),none,0⟩,
⟨(some 124),(.q (.ld false 1 (.t 123))),none,0⟩,
⟨(some 125),(.q (.lenSl (.t 124))),none,0⟩,
⟨(some 126),(.q (.mv (.c (.int .i64 (.ofNat 0))))),none,0⟩])
(.block 4 (.loop (.seq (.reg [⟨(some 127),(.q (.bin .lss (.p .int) (.t 126) (.t 125))),none,0⟩])
(.seq (.cond (.t 127) .skip (.exit 4))
(.seq (.block 5 (.seq (.reg [⟨(some 128),(.q (.mv (.t 126))),none,0⟩,
⟨(some 129),(.q (.iaddr (.slice 1) (.t 124) (.t 126))),none,0⟩,
⟨(some 130),(.q (.ld false 1 (.t 129))),none,0⟩,
⟨(some 15),(.q (.mv (.t 128))),none,0⟩,
⟨(some 16),(.q (.mv (.t 130))),none,0⟩])
(.seq (.reg [⟨(some 131),(.q (.faddr 4 (.t 5))),none,0⟩,
⟨(some 132),(.q (.ld false 1 (.t 131))),none,0⟩,
⟨(some 133),(.q (.mv (.t 15))),none,0⟩,
⟨(some 134),(.q (.iaddr (.slice 1) (.t 132) (.t 133))),none,0⟩,
⟨(some 135),(.q (.ld false 1 (.t 134))),none,0⟩,
⟨(some 136),(.q (.mv (.t 14))),none,0⟩,
⟨(some 137),(.x (.call (.c (.fn 118 [] [])) [(.t 135),(.t 136)])),none,0⟩,
⟨(some 17),(.a (.alloc 128 [(.bool false),.nilsl,.nilsl])),none,0⟩,
⟨none,(.x (.st 3 (.t 17) (.t 137))),none,0⟩])
(.seq (.reg [⟨(some 138),(.q (.ld false 1 (.t 2))),none,0⟩,
⟨(some 139),(.q (.mv (.t 16))),none,0⟩,
⟨(some 140),(.x (.call (.t 138) [(.t 139)])),none,0⟩,
⟨(some 141),(.q (.lenSl (.t 140))),none,0⟩,
⟨(some 142),(.q (.mv (.c (.int .i64 (.ofNat 0))))),none,0⟩])
(.block 6 (.loop (.seq (.reg [⟨(some 143),(.q (.bin .lss (.p .int) (.t 142) (.t 141))),none,0⟩])
(.seq (.cond (.t 143) .skip (.exit 6))
(.seq (.block 7 (.seq (.reg [⟨(some 144),(.q (.mv (.t 142))),none,0⟩,
⟨(some 145),(.q (.iaddr (.slice 3) (.t 140) (.t 142))),none,0⟩,
⟨(some 146),(.q (.ld true 3 (.t 145))),none,0⟩,
⟨(some 19),(.a (.alloc 128 [(.bool false),.nilsl,.nilsl])),none,0⟩,
⟨(some 18),(.q (.mv (.t 144))),none,0⟩,
⟨none,(.x (.st 3 (.t 19) (.t 146))),none,0⟩])
(.drw [⟨(some 147),(.q (.mv (.t 11))),none,0⟩,
⟨(some 148),(.q (.mv (.t 18))),none,0⟩,
⟨(some 149),(.q (.mv (.t 11))),none,0⟩,
⟨(some 150),(.q (.mv (.t 18))),none,0⟩,
⟨(some 151),(.q (.iaddr (.slice 3) (.t 149) (.t 150))),none,12⟩,
⟨(some 152),(.q (.ld true 3 (.t 151))),none,28⟩,
⟨(some 153),(.q (.ld true 3 (.t 17))),none,0⟩,
⟨(some 154),(.q (.ld true 3 (.t 19))),none,0⟩,
⟨(some 155),(.x (.call (.c (.fn 120 [] [])) [(.t 153),(.t 154)])),none,192⟩,
⟨(some 156),(.x (.call (.c (.fn 119 [] [])) [(.t 152),(.t 155)])),none,508⟩,
⟨(some 157),(.q (.iaddr (.slice 3) (.t 147) (.t 148))),none,1023⟩,
⟨none,(.x (.st 3 (.t 157) (.t 156))),none,2047⟩])))
(.reg [⟨(some 158),(.q (.bin .add (.p .int) (.t 142) (.c (.int .i64 (.ofNat 1))))),none,0⟩,
⟨(some 142),(.q (.mv (.t 158))),none,0⟩]))))))))))
(.reg [⟨(some 159),(.q (.bin .add (.p .int) (.t 126) (.c (.int .i64 (.ofNat 1))))),none,0⟩,
⟨(some 126),(.q (.mv (.t 159))),none,0⟩])))))))
(.seq (.drw [⟨(some 160),(.q (.ld false 1 (.t 1))),none,0⟩,
⟨(some 161),(.q (.nilchk (.t 160))),none,1⟩,
⟨(some 162),(.q (.faddr 6 (.t 161))),none,3⟩,
⟨(some 163),(.q (.ld false 1 (.t 162))),none,7⟩,
⟨(some 164),(.q (.ld true 5 (.t 6))),none,0⟩,
⟨(some 165),(.q (.mv (.t 11))),none,0⟩,
⟨none,(.x (.mapUpd (.struct [(0,.int),(1,.int),(2,.int),(3,.int),(4,.int)]) (.t 163) (.t 164) (.t 165))),none,63⟩])
(.seq (.reg [⟨(some 166),(.q (.mv (.t 11))),none,0⟩,
⟨(some 4),(.q (.mv (.t 166))),none,0⟩])
.ret))))))))))))⟩
theorem row115 : Row Tryz.prog (115, a115) := ⟨Tryz.f115, Tryz.func115, by kernel_rfl⟩
end Go.Proofs.YtopemogpgppjlaaGreatDoor.normalNames
